import PyProof.Rows.All
import Wide.All
import OpenK.AllK
import Wide.FinOn
import HandS.ForMost
import HandS.ForExc
import HandS.Walk
import HandS.Zip
import HandS.IsInst
import HandS.Defaults
import HandS.HeadHook2
import PyProof.ReprRoads
import KE.SortData
import HandS.Head0
import HandS.Head1
import HandS.Head2
import HandS.HeadEnd
import HandS.HeadHook1
import KE.DataEq
import HandS.TupAny
import HandS.TupMul
import HandS.SetFor
import KE.DataCmp
import KE.DataMinMax
import KE.KEqDict
import HandS.TupLen
import HandS.Style
import KE.DataFind
import PyProof.SeqIndex
import KE.KIndexOf
import KE.KTupSum
import HandS.SortInts
import PyProof.TupleOfSeq
import KE.KSortedM
import HandS.Flow
import KE.GoesEnumKw
import OpenK.KMore
import KE.GoesEnum
import KE.GoesMore
import HandS.ExcOwn
import HandS.CallSlots
import KE.GoesSet
import PyProof.Rows.SetObj
import HandS.ListItems
import HandS.Small
import HandS.SetKeys
import HandS.DictComp
import HandS.Conv
import PyProof.CallFns
import HandS.NoneIn
import HandS.Lambda
import PySem.Challenge.RW_lanebeats_k09_whole_lights
set_option linter.all false
set_option Elab.async false
set_option maxRecDepth 100000
/-! Lb: a small language without places, and what it means. Values are trees; lists and dicts by value; pens and the like stand in a store. -/
namespace Lb
open PySem PySem.Spec PyProof.Rows L2

inductive D where
  | non | bl (b : Bool) | int (i : Int) | str (s : Str) | tup (xs : List D) | lst (xs : List D) | dic (t : Bool) (kvs : List (D × D)) | ref (n : Nat)
  deriving Inhabited

/-- an error: its class by name, its fields -/
structure X where
  cls : Str
  fs : List D
inductive R (σ α : Type) where
  | ok (a : α) (s : σ) | exc (e : X) (s : σ) | fail
def R.bind {σ α β : Type} : R σ α → (α → σ → R σ β) → R σ β
  | .ok a s, f => f a s
  | .exc e s, _ => .exc e s
  | .fail, _ => .fail
/-- an error within is no answer -/
def R.noX {σ α : Type} : R σ α → R σ α
  | .exc _ _ => .fail
  | r => r
@[simp] theorem R.noX_ok {σ α : Type} (a : α) (s : σ) : (R.ok a s).noX = .ok a s := rfl
@[simp] theorem R.bind_ok {σ α β : Type} (a : α) (s : σ) (f : α → σ → R σ β) : (R.ok a s).bind f = f a s := rfl
@[simp] theorem R.bind_exc {σ α β : Type} (e : X) (s : σ) (f : α → σ → R σ β) : (R.exc e s : R σ α).bind f = .exc e s := rfl
@[simp] theorem R.bind_fail {σ α β : Type} (f : α → σ → R σ β) : (R.fail : R σ α).bind f = .fail := rfl
abbrev Sto := List (List D)
structure S where
  env : List (Option D)
  st : Sto
abbrev Fn := List D → Sto → R Sto D

/-! ### values -/
mutual
def D.eqv : D → D → Bool
  | .non, .non => true
  | .bl a, .bl b => a == b
  | .bl a, .int j => (if a then 1 else 0) == j
  | .int i, .bl b => i == (if b then 1 else 0)
  | .int i, .int j => i == j
  | .str x, .str y => x == y
  | .lst xs, .lst ys => D.eqvs xs ys
  | .tup xs, .tup ys => D.eqvs xs ys
  | _, _ => false
def D.eqvs : List D → List D → Bool
  | [], [] => true
  | x :: xs, y :: ys => D.eqv x y && D.eqvs xs ys
  | _, _ => false
end
mutual
/-- no dict and no thing of the store within, at most so deep -/
def D.flat : Nat → D → Bool
  | _, .non => true
  | _, .bl _ => true
  | _, .int _ => true
  | _, .str _ => true
  | n + 1, .tup xs => D.flats n xs
  | n + 1, .lst xs => D.flats n xs
  | _, _ => false
def D.flats : Nat → List D → Bool
  | _, [] => true
  | n, x :: xs => D.flat n x && D.flats n xs
end
/-- keys: ints, texts; tuples of these -/
def keyB : D → Bool
  | .int _ => true
  | .str _ => true
  | _ => false
def dget (kvs : List (D × D)) (k : D) : Option D := (kvs.find? fun p => D.eqv p.1 k).map (·.2)
def dput (kvs : List (D × D)) (k v : D) : List (D × D) := if (kvs.any fun p => D.eqv p.1 k) = true then kvs.map (fun p => if D.eqv p.1 k = true then (p.1, v) else p) else kvs ++ [(k, v)]
/-- dicts compared, key by key -/
def hitD (ys : List (D × D)) (p : D × D) : Bool := match dget ys p.1 with
  | some v => D.eqv p.2 v
  | none => false
def dicEq (xs ys : List (D × D)) : Bool := xs.length == ys.length && xs.all (hitD ys)
mutual
/-- things that can be told apart by < -/
def D.alk : D → D → Bool
  | .int _, .int _ => true
  | .tup xs, .tup ys => D.alks xs ys
  | .lst xs, .lst ys => D.alks xs ys
  | _, _ => false
def D.alks : List D → List D → Bool
  | x :: xs, y :: ys => D.alk x y && D.alks xs ys
  | _, _ => true
end
mutual
def D.ltv : D → D → Bool
  | .int i, .int j => decide (i < j)
  | .tup xs, .tup ys => D.ltvs xs ys
  | .lst xs, .lst ys => D.ltvs xs ys
  | _, _ => false
def D.ltvs : List D → List D → Bool
  | [], _ :: _ => true
  | x :: xs, y :: ys => if D.eqv x y = true then D.ltvs xs ys else D.ltv x y
  | _, _ => false
end
def ltR (a b : D) : Option Bool := if (D.flat 60 a && D.flat 60 b && D.alk a b) = true then some (D.ltv a b) else none
/-- the first of the least, of the greatest -/
def D.minv (x : D) (xs : List D) : D := xs.foldl (fun a y => if D.ltv y a = true then y else a) x
def D.maxv (x : D) (xs : List D) : D := xs.foldl (fun a y => if D.ltv a y = true then y else a) x
def alkAll (xs : List D) : Bool := D.flats 60 xs && xs.all fun a => xs.all fun b => D.alk a b
def intsOf : List D → Option (List Int)
  | [] => some []
  | .int i :: xs => (intsOf xs).map (i :: ·)
  | _ => none
/-- each number once -/
def nubI (ns : List Int) : List Int := ns.foldl (fun l i => if i ∈ l then l else l ++ [i]) []
def insI (i : Int) : List Int → List Int
  | [] => [i]
  | j :: r => if i ≤ j then i :: j :: r else j :: insI i r
def sortI (ns : List Int) : List Int := ns.foldr insI []
/-- pairs as a dict's -/
def pairsOf : List D → Option (List (D × D))
  | [] => some []
  | .tup [k, v] :: r => if keyB k then (pairsOf r).map ((k, v) :: ·) else none
  | _ => none
def mergeD (kvs : List (D × D)) : List (D × D) → List (D × D)
  | [] => kvs
  | p :: r => mergeD (dput kvs p.1 p.2) r
def eqR : D → D → Option Bool
  | .int i, .int j => some (i == j)
  | .str x, .str y => some (x == y)
  | .bl x, .bl y => some (x == y)
  | .non, .non => some true
  | .dic false xs, .dic false ys => if xs.all (fun p => D.flat 60 p.2) && ys.all (fun p => D.flat 60 p.2) then some (dicEq xs ys) else none
  | a, b => if D.flat 60 a && D.flat 60 b then some (D.eqv a b) else none
def inR (x : D) (ys : List D) : Option Bool := if D.flat 60 x && D.flats 60 ys then some (ys.any fun y => D.eqv y x) else none
def truthy : D → Option Bool
  | .non => some false
  | .bl b => some b
  | .int i => some (i != 0)
  | .str s => if s.length ≤ sizeLine then some ((s.length : Int) != 0) else none
  | .tup xs => some (!xs.isEmpty)
  | .lst xs => some (!xs.isEmpty)
  | .dic _ _ => none
  | .ref _ => none
def bls : List D → Option (List Bool)
  | [] => some []
  | .bl b :: xs => (bls xs).map (b :: ·)
  | _ => none
def allR (xs : List D) : Option Bool := (bls xs).map (·.all id)
def anyR (xs : List D) : Option Bool := (bls xs).map (·.any id)
def sumR : List D → Option Int
  | [] => some 0
  | .int i :: xs => (sumR xs).map (i + ·)
  | _ => none
inductive Ty where
  | int | bool | str | tuple | list | dict
  deriving DecidableEq
def isTy : Ty → D → Option Bool
  | .list, .ref _ => some true
  | .int, .int _ => some true
  | .int, .bl _ => some true
  | .bool, .bl _ => some true
  | .str, .str _ => some true
  | .tuple, .tup _ => some true
  | .list, .lst _ => some true
  | .dict, .dic _ _ => some true
  | _, _ => some false

def rangeD (lo : Int) : Nat → List D
  | 0 => []
  | n + 1 => .int lo :: rangeD (lo + 1) n
def isNon' : D → Bool
  | .non => true
  | _ => false
mutual
/-- data as the library has them -/
def toP : D → PyData
  | .non => .none
  | .bl b => .bool b
  | .int i => .int i
  | .str x => .str x
  | .tup xs => .tuple (toPs xs)
  | .lst xs => .list (toPs xs)
  | .dic _ _ => .none
  | .ref _ => .none
def toPs : List D → List PyData
  | [] => []
  | x :: xs => toP x :: toPs xs
end
/-- what repr tells -/
def reprD (d : D) : Str := (toP d).shown
def reprOk (d : D) : Bool := D.flat 60 d && (toP d).showable && decide ((toP d).shown.length ≤ sizeLine)
/-- tuples that can be told apart, or one alone -/
def srtOk (xs : List D) : Bool := D.flats 50 xs && (xs.all fun a => xs.all fun b => D.alk a b) && decide (xs.length ≤ 100000) && ((xs.all fun a => match a with
  | .tup (_ :: _) => true
  | _ => false) || decide (xs.length ≤ 1))
def srtD (xs : List D) : List D := xs.mergeSort (PySem.W.dataLe false toP)
inductive P where
  | add | sub | mul | mod | fdiv | pow | neg | pnot
  | eq | ne | lt | le | gt | ge | isN | notN | isB | nisB | inn | nin
  | len | isI (t : Ty) | max2 | min2 | sum | all | any | tuple | list
  | idx | cut (lo hi : Bool) | rev | cnt
  | minL | maxL | int1 | sorted | dict | get2
  | rngL | rngT | ixOf | nubL | repr
  deriving DecidableEq
def cutD (lo hi : Bool) : List D → Option (Option Int × Option Int)
  | [.int i, .int j] => if lo && hi then some (some i, some j) else none
  | [.int i] => if lo && !hi then some (some i, none) else if !lo && hi then some (none, some i) else none
  | [] => if !lo && !hi then some (none, none) else none
  | _ => none
def cutL (xs : List D) (lo hi : Option Int) : List D := (xs.drop (HT.sIx xs.length 0 lo)).take (HT.sIx xs.length xs.length hi - HT.sIx xs.length 0 lo)
def fits {α : Type} (xs : List α) : Bool := decide (xs.length ≤ sizeLine)
def big : Int := 2 ^ 64
def prim (st : Sto) : P → List D → Option D
  | .add, [.int a, .int b] => some (.int (a + b))
  | .add, [.tup a, .tup b] => if fits (a ++ b) then some (.tup (a ++ b)) else none
  | .add, [.lst a, .lst b] => if fits (a ++ b) then some (.lst (a ++ b)) else none
  | .sub, [.int a, .int b] => some (.int (a - b))
  | .mul, [.int a, .int b] => if (-big < a ∧ a < big) ∨ (-big < b ∧ b < big) then some (.int (a * b)) else none
  | .mul, [.lst a, .int n] => if 0 ≤ n ∧ n ≤ 1000 ∧ a.length ≤ 1000 then some (.lst (List.replicate n.toNat a).flatten) else none
  | .mul, [.tup a, .int n] => if 0 ≤ n ∧ n ≤ 1000 ∧ a.length ≤ 1000 then some (.tup (List.replicate n.toNat a).flatten) else none
  | .mod, [.int a, .int b] => if 0 < b then some (.int (a % b)) else none
  | .fdiv, [.int a, .int b] => if 0 < b ∧ b < 1073741824 then some (.int (a / b)) else none
  | .pow, [.int a, .int b] => if 0 ≤ b ∧ b ≤ 1000 ∧ a.natAbs < 2 ^ 64 then some (.int (a ^ b.toNat)) else none
  | .neg, [.int a] => some (.int (-a))
  | .pnot, [a] => (truthy a).map fun b => .bl (!b)
  | .eq, [a, b] => (eqR a b).map .bl
  | .ne, [a, b] => (eqR a b).map fun c => .bl (!c)
  | .lt, [.int a, .int b] => some (.bl (decide (a < b)))
  | .lt, [.tup a, .tup b] => (ltR (.tup a) (.tup b)).map .bl
  | .le, [.int a, .int b] => some (.bl (decide (a ≤ b)))
  | .gt, [.int a, .int b] => some (.bl (decide (b < a)))
  | .ge, [.int a, .int b] => some (.bl (decide (b ≤ a)))
  | .isN, [.non] => some (.bl true)
  | .isN, [_] => some (.bl false)
  | .notN, [.non] => some (.bl false)
  | .notN, [_] => some (.bl true)
  | .isB, [.bl a, .bl b] => some (.bl (a == b))
  | .nisB, [.bl a, .bl b] => some (.bl (!(a == b)))
  | .inn, [x, .tup ys] => (inR x ys).map .bl
  | .inn, [x, .lst ys] => (inR x ys).map .bl
  | .nin, [x, .tup ys] => (inR x ys).map fun c => .bl (!c)
  | .nin, [x, .lst ys] => (inR x ys).map fun c => .bl (!c)
  | .inn, [k, .dic false kvs] => if keyB k then some (.bl (dget kvs k).isSome) else none
  | .nin, [k, .dic false kvs] => if keyB k then some (.bl (!(dget kvs k).isSome)) else none
  | .len, [.tup xs] => some (.int xs.length)
  | .len, [.lst xs] => some (.int xs.length)
  | .len, [.dic _ kvs] => some (.int kvs.length)
  | .isI t, [x] => (isTy t x).map .bl
  | .max2, [.int a, .int b] => some (.int (if b > a then b else a))
  | .min2, [.int a, .int b] => some (.int (if b < a then b else a))
  | .sum, [.lst xs] => (sumR xs).map .int
  | .sum, [.tup xs] => (sumR xs).map .int
  | .all, [.lst xs] => (allR xs).map .bl
  | .any, [.lst xs] => (anyR xs).map .bl
  | .tuple, [.lst xs] => some (.tup xs)
  | .tuple, [.tup xs] => some (.tup xs)
  | .list, [.lst xs] => some (.lst xs)
  | .list, [.tup xs] => some (.lst xs)
  | .idx, [.tup xs, .int i] => atI xs i
  | .idx, [.lst xs, .int i] => atI xs i
  | .idx, [.dic false kvs, k] => if keyB k then dget kvs k else none
  | .idx, [.ref n, .int i] => (st[n]?).bind fun xs => atI xs i
  | .cut lo hi, .tup xs :: r => (cutD lo hi r).map fun q => .tup (cutL xs q.1 q.2)
  | .cut lo hi, .lst xs :: r => (cutD lo hi r).map fun q => .lst (cutL xs q.1 q.2)
  | .rev, [.tup xs] => some (.tup xs.reverse)
  | .minL, [.lst (x :: xs)] => if alkAll (x :: xs) then some (D.minv x xs) else none
  | .maxL, [.lst (x :: xs)] => if alkAll (x :: xs) then some (D.maxv x xs) else none
  | .minL, [.tup (x :: xs)] => if alkAll (x :: xs) then some (D.minv x xs) else none
  | .maxL, [.tup (x :: xs)] => if alkAll (x :: xs) then some (D.maxv x xs) else none
  | .minL, [.ref n] => (st[n]?).bind fun ys => match ys with
    | x :: xs => if alkAll (x :: xs) then some (D.minv x xs) else none
    | [] => none
  | .int1, [.bl b] => some (.int (if b then 1 else 0))
  | .int1, [.int i] => some (.int i)
  | .sorted, [.lst xs] => match intsOf xs with
    | some ns => if ns.length < 64 then some (.lst ((sortI ns).map .int)) else none
    | none => if srtOk xs = true then some (.lst (srtD xs)) else none
  | .sorted, [.tup xs] => (intsOf xs).bind fun ns => if ns.length < 64 then some (.lst ((sortI ns).map .int)) else none
  | .sorted, [.dic false kvs] => (intsOf (kvs.map (·.1))).bind fun ns => if ns.length < 64 then some (.lst ((sortI ns).map .int)) else none
  | .dict, [.lst xs] => (pairsOf xs).map fun ps => .dic false (mergeD [] ps)
  | .get2, [.dic false kvs, k, d] => if keyB k then some ((dget kvs k).getD d) else none
  | .rngL, [.int n] => if 0 ≤ n ∧ n ≤ 1000 then some (.lst (rangeD 0 n.toNat)) else none
  | .rngT, [.int n] => if 0 ≤ n ∧ n ≤ 1000 then some (.tup (rangeD 0 n.toNat)) else none
  | .ixOf, [.lst xs, x] => if (D.flat 60 x && D.flats 60 xs && xs.any fun y => D.eqv y x) = true then some (.int ((xs.map fun y => D.eqv y x).idxOf true : Nat)) else none
  | .nubL, [.tup xs] => (intsOf xs).bind fun ns => if ns.length ≤ 1000 then some (.int ((nubI ns).length : Nat)) else none
  | .repr, [d] => if reprOk d then some (.str (reprD d)) else none
  | .cnt, [.lst xs, x] => if D.flat 60 x && D.flats 60 xs then some (.int ((xs.countP fun y => D.eqv y x : Nat) : Int)) else none
  | _, _ => none

/-! ### the language -/
inductive Cn where
  | non | bl (b : Bool) | int (i : Int) | str (s : Str)
  deriving DecidableEq
def Cn.d : Cn → D
  | .non => .non
  | .bl b => .bl b
  | .int i => .int i
  | .str s => .str s
/-- what is walked -/
inductive IK where
  | seq | rng1 | rng2 | enum | zip | keys | items | vals | zipS
  deriving DecidableEq
inductive Tg where
  | name (i : Nat) | tup (ts : List Tg)
inductive T where
  | cn (c : Cn)
  | var (i : Nat)
  | prim (p : P) (as : List T)
  | and (a b : T) | or (a b : T) | ite (c a b : T)
  | chain (p q : P) (a b c : T)
  | call (k : Nat) (as : List T)
  | tup (as : List T) | lst (as : List T) | new (as : List T)
  | lc (k : IK) (as : List T) (tg : Tg) (vs : List Nat) (ifs : List T) (e : T)
  | pop (i : Nat) (e : T)
  | cut2 (a b c : T)
  | meth (p : P) (o : T) (as : List T)
  | dnew (t : Bool)
  | inT (neg : Bool) (ks : List T) (d : T)
  | getT (d : T) (ks : List T)
  | litems (d : T)
  | dgetD (d k e : T)
  | dc (k : IK) (as : List T) (tg : Tg) (vs : List Nat) (ifs : List T) (ke ve : T)
  | callP (k : Nat) (as : List T) (ix : List Nat)
  | no
inductive St where
  | asg (i : Nat) (e : T)
  | unp (tg : Tg) (e : T)
  | par (is : List Nat) (as : List T)
  | app (i : Nat) (e : T)
  | setR (o ix e : T)
  | aug (i : Nat) (p : P) (e : T)
  | ifs (c : T) (a b : List St)
  | for_ (k : IK) (as : List T) (tg : Tg) (body : List St)
  | while_ (c : T) (body : List St)
  | ret (e : T) | retN
  | raise (c : Str) (as : List T)
  | expr (e : T)
  | pass
  | dput (i : Nat) (k e : T)
  | dputT (i : Nat) (ks : List T) (e : T)
  | sdapp (i : Nat) (k e : T)
  | setL (i : Nat) (k e : T)
  | augL (i : Nat) (k e : T)
  | unpL (ts : List Tg) (e : T)
  | extL (i : Nat) (e : T)
inductive Fl where
  | next | ret (d : D)

/-! ### what it means -/
def getV (i : Nat) (s : S) : R S D := match s.env[i]? with
  | some (some d) => .ok d s
  | _ => .fail
def setV (i : Nat) (d : D) (s : S) : S := { s with env := s.env.set i (some d) }
def opt {α : Type} (s : S) : Option α → R S α
  | some a => .ok a s
  | none => .fail
mutual
def setT : Tg → D → S → Option S
  | .name i, d, s => some (setV i d s)
  | .tup ts, .tup ds, s => setTs ts ds s
  | .tup _, _, _ => none
def setTs : List Tg → List D → S → Option S
  | [], [], s => some s
  | t :: ts, d :: ds, s => (setT t d s).bind fun s => setTs ts ds s
  | _, _, _ => none
end
def setLs : List Tg → D → S → Option S
  | ts, .lst ds, s => setTs ts ds s
  | _, _, _ => none
def wipeD (e : List (Option D)) : List Nat → List (Option D)
  | [] => e
  | i :: is => (wipeD e is).set i none
/-- the slots vs of e0 put back into e -/
def backD (e0 e : List (Option D)) : List Nat → List (Option D)
  | [] => e
  | i :: is => match e0[i]? with
    | some o => (backD e0 e is).set i o
    | none => backD e0 e is
def enumL (i : Nat) : List D → List D
  | [] => []
  | x :: xs => .tup [.int i, x] :: enumL (i + 1) xs
def zipL : List D → List D → List D
  | x :: xs, y :: ys => .tup [x, y] :: zipL xs ys
  | _, _ => []
def seqOf : D → Option (List D)
  | .lst xs => some xs
  | .tup xs => some xs
  | _ => none
def small (i : Int) : Bool := Nat.ble i.natAbs 4000000000000000000
def items : IK → List D → Option (List D)
  | .seq, [x] => seqOf x
  | .rng1, [.int j] => if small j then some (rangeD 0 j.toNat) else none
  | .rng2, [.int i, .int j] => if small i && small j then some (rangeD i (j - i).toNat) else none
  | .enum, [x] => (seqOf x).map (enumL 0)
  | .zip, [.tup xs, .tup ys] => some (zipL xs ys)
  | .zip, [.lst xs, .lst ys] => some (zipL xs ys)
  | .zip, [.lst xs, .tup ys] => some (zipL xs ys)
  | .zip, [.tup xs, .lst ys] => some (zipL xs ys)
  | .zipS, [.tup xs, .tup ys] => if xs.length = ys.length then some (zipL xs ys) else none
  | .keys, [.dic false kvs] => some (kvs.map (·.1))
  | .items, [.dic false kvs] => some (kvs.map fun p => .tup [p.1, p.2])
  | .vals, [.dic false kvs] => some (kvs.map (·.2))
  | _, _ => none
/-- the turns of a comprehension: body gives the item made, or none -/
def lcGo (body : D → S → R S (Option D)) : List D → S → R S (List D)
  | [], s => .ok [] s
  | x :: xs, s => (body x s).bind fun o s => (lcGo body xs s).bind fun r s => .ok (o.toList ++ r) s
/-- the turns of a dict's comprehension -/
def dcGo (body : D → S → R S (Option (D × D))) : List D → List (D × D) → S → R S (List (D × D))
  | [], acc, s => .ok acc s
  | x :: xs, acc, s => (body x s).bind fun o s => match o with
    | none => dcGo body xs acc s
    | some (k, v) => if keyB k = true ∧ acc.length < sizeLine then dcGo body xs (dput acc k v) s else .fail
/-- what is handed on, by places -/
def permL {α : Type} (ix : List Nat) (xs : List α) : List α := ix.filterMap fun j => xs[j]?
def callF (Γ : List Fn) (k : Nat) (ds : List D) (s : S) : R S D := match Γ[k]? with
  | some f => (match f ds s.st with
    | .ok d st => .ok d { s with st := st }
    | .exc e st => .exc e { s with st := st }
    | .fail => .fail)
  | none => .fail
def popL (xs : List D) (i : Int) : Option (D × List D) := (L2.ixN xs.length i).bind fun k => (xs[k]?).map fun x => (x, xs.eraseIdx k)
/-- the list at a slot -/
def lstAt (i : Nat) (s : S) : Option (List D) := match s.env[i]? with
  | some (some (.lst xs)) => some xs
  | _ => none
mutual
def ev (Γ : List Fn) : T → S → R S D
  | .cn c, s => .ok c.d s
  | .var i, s => getV i s
  | .prim p as, s => (evs Γ as s).bind fun ds s => opt s (prim s.st p ds)
  | .and a b, s => (ev Γ a s).bind fun x s => (opt s (truthy x)).bind fun c s => if c then ev Γ b s else .ok x s
  | .or a b, s => (ev Γ a s).bind fun x s => (opt s (truthy x)).bind fun c s => if c then .ok x s else ev Γ b s
  | .ite c a b, s => (ev Γ c s).bind fun x s => (opt s (truthy x)).bind fun c s => if c then ev Γ a s else ev Γ b s
  | .chain p q a b c, s => (ev Γ a s).bind fun x s => (ev Γ b s).bind fun y s => (opt s (prim s.st p [x, y])).bind fun u s => (opt s (truthy u)).bind fun k s =>
      if k then (ev Γ c s).bind fun z s => opt s (prim s.st q [y, z]) else .ok u s
  | .call k as, s => (evs Γ as s).bind fun ds s => callF Γ k ds s
  | .tup as, s => (evs Γ as s).bind fun ds s => .ok (.tup ds) s
  | .lst as, s => (evs Γ as s).bind fun ds s => .ok (.lst ds) s
  | .new as, s => (evs Γ as s).bind fun ds s => .ok (.ref s.st.length) { s with st := s.st ++ [ds] }
  | .lc k as tg vs ifs e, s => (evs Γ as s).bind fun ds s => (opt s (items k ds)).bind fun xs s =>
      (lcGo (fun x s1 => match setT tg x s1 with
        | none => .fail
        | some s2 => (evAll Γ ifs s2).bind fun b s3 => if b then (ev Γ e s3).bind fun d s4 => .ok (some d) { s4 with env := wipeD s4.env vs } else .ok none { s3 with env := wipeD s3.env vs }) xs { s with env := wipeD s.env vs }).noX.bind fun ds s' =>
      if fits ds then .ok (.lst ds) { s' with env := backD s.env s'.env vs } else .fail
  | .pop i e, s => (opt s (lstAt i s)).bind fun _ s => (ev Γ e s).bind fun x s => match x, lstAt i s with
      | .int k, some xs => (match popL xs k with
        | some (d, r) => .ok d (setV i (.lst r) s)
        | none => .fail)
      | _, _ => .fail
  | .cut2 a b c, s => (ev Γ a s).bind fun x s => (ev Γ b s).bind fun y s => match y with
      | .int i => (ev Γ c s).bind fun z s => opt s (prim s.st (.cut true true) [x, .int i, z])
      | _ => .fail
  | .meth p o as, s => (ev Γ o s).bind fun x s => match seqOf x with
      | some ds => (evs Γ as s).bind fun es s => opt s (prim s.st p (.lst ds :: es))
      | none => .fail
  | .dnew t, s => .ok (.dic t []) s
  | .inT neg ks d, s => (evs Γ ks s).bind fun ds s => (ev Γ d s).bind fun x s => match x with
      | .dic true kvs => if ds.all keyB = true then .ok (.bl (neg != (dget kvs (.tup ds)).isSome)) s else .fail
      | _ => .fail
  | .getT d ks, s => (ev Γ d s).bind fun x s => (evs Γ ks s).bind fun ds s => match x with
      | .dic true kvs => if ds.all keyB = true then opt s (dget kvs (.tup ds)) else .fail
      | _ => .fail
  | .litems d, s => (ev Γ d s).bind fun x s => match x with
      | .dic false kvs => if fits kvs then .ok (.lst (kvs.map fun p => .tup [p.1, p.2])) s else .fail
      | _ => .fail
  | .dgetD d k e, s => (ev Γ d s).bind fun x s => match x with
      | .dic false kvs => (ev Γ k s).bind fun y s => (ev Γ e s).bind fun z s => if keyB y = true then .ok ((dget kvs y).getD z) s else .fail
      | _ => .fail
  | .dc k as tg vs ifs ke ve, s => (evs Γ as s).bind fun ds s => (opt s (items k ds)).bind fun xs s =>
      (dcGo (fun x s1 => match setT tg x s1 with
        | none => .fail
        | some s2 => (evAll Γ ifs s2).bind fun b s3 => if b then (ev Γ ke s3).bind fun a s4 => (ev Γ ve s4).bind fun d s5 => .ok (some (a, d)) { s5 with env := wipeD s5.env vs } else .ok none { s3 with env := wipeD s3.env vs }) xs [] { s with env := wipeD s.env vs }).noX.bind fun ds s' =>
      .ok (.dic false ds) { s' with env := backD s.env s'.env vs }
  | .callP k as ix, s => (evs Γ as s).bind fun ds s => callF Γ k (permL ix ds) s
  | .no, _ => .fail
def evs (Γ : List Fn) : List T → S → R S (List D)
  | [], s => .ok [] s
  | t :: ts, s => (ev Γ t s).bind fun d s => (evs Γ ts s).bind fun ds s => .ok (d :: ds) s
def evAll (Γ : List Fn) : List T → S → R S Bool
  | [], s => .ok true s
  | t :: ts, s => (ev Γ t s).bind fun d s => (opt s (truthy d)).bind fun c s => if c then evAll Γ ts s else .ok false s
end

/-- slots that were empty are emptied again -/
def keepTo : List (Option D) → List (Option D) → List (Option D)
  | some _ :: as, b :: bs => b :: keepTo as bs
  | none :: as, _ :: bs => none :: keepTo as bs
  | _, bs => bs
def forGo (body : D → S → R S Fl) (e0 : List (Option D)) : List D → S → R S Fl
  | [], s => .ok .next s
  | x :: xs, s => (body x s).bind fun f s => match f with
    | .next => forGo body e0 xs { s with env := keepTo e0 s.env }
    | .ret d => .ok (.ret d) s
def whGo (c : S → R S Bool) (body : S → R S Fl) (e0 : List (Option D)) : Nat → S → R S Fl
  | 0, _ => .fail
  | n + 1, s => (c s).bind fun b s => if b then (body s).bind fun f s => (match f with
      | .next => whGo c body e0 n { s with env := keepTo e0 s.env }
      | .ret d => .ok (.ret d) s) else .ok .next s
/-- turns of a while at most -/
def fuel : Nat := 1000000
def setVs : List Nat → List D → S → Option S
  | [], [], s => some s
  | i :: is, d :: ds, s => setVs is ds (setV i d s)
  | _, _, _ => none
def setL (xs : List D) (i : Int) (d : D) : Option (List D) := (L2.ixN xs.length i).map fun k => xs.set k d
def augR : P → D → D → Option D
  | .add, .int a, .int b => some (.int (a + b))
  | .sub, .int a, .int b => some (.int (a - b))
  | _, _, _ => none
/-- the dict at a slot -/
def dicAt (t : Bool) (i : Nat) (s : S) : Option (List (D × D)) := match s.env[i]? with
  | some (some (.dic u kvs)) => if u = t then some kvs else none
  | _ => none
/-- what was made goes to the end of the store's list v -/
def sdEnd (v : D) (r : R S D) : R S Fl := match v with
  | .ref n => r.bind fun d s => (match s.st[n]? with
    | some xs => if xs.length < sizeLine then .ok .next { s with st := s.st.set n (xs ++ [d]) } else .fail
    | none => .fail)
  | _ => .fail
mutual
def ex (Γ : List Fn) : St → S → R S Fl
  | .asg i e, s => (ev Γ e s).bind fun d s => .ok .next (setV i d s)
  | .unp tg e, s => (ev Γ e s).bind fun d s => (opt s (setT tg d s)).bind fun s' _ => .ok .next s'
  | .par is as, s => (evs Γ as s).bind fun ds s => (opt s (setVs is ds s)).bind fun s' _ => .ok .next s'
  | .app i e, s => (opt s (lstAt i s)).bind fun _ s => (ev Γ e s).bind fun d s => match lstAt i s with
      | some xs => if xs.length < sizeLine then .ok .next (setV i (.lst (xs ++ [d])) s) else .fail
      | none => .fail
  | .setR o ix e, s => (ev Γ e s).bind fun d s => (ev Γ o s).bind fun r s => (ev Γ ix s).bind fun k s => match r, k with
      | .ref n, .int i => (match s.st[n]? with
        | some xs => (match setL xs i d with
          | some ys => .ok .next { s with st := s.st.set n ys }
          | none => .fail)
        | none => .fail)
      | _, _ => .fail
  | .aug i p e, s => (getV i s).bind fun x s => (ev Γ e s).bind fun y s => (opt s (augR p x y)).bind fun z s => .ok .next (setV i z s)
  | .ifs c a b, s => (ev Γ c s).bind fun x s => (opt s (truthy x)).bind fun c s => if c then exs Γ a s else exs Γ b s
  | .for_ k as tg body, s => (evs Γ as s).bind fun ds s => (opt s (items k ds)).bind fun xs s =>
      forGo (fun x s1 => match setT tg x s1 with
        | none => .fail
        | some s2 => exs Γ body s2) s.env xs s
  | .while_ c body, s => whGo (fun s => (ev Γ c s).bind fun x s => opt s (truthy x)) (fun s => exs Γ body s) s.env fuel s
  | .ret e, s => (ev Γ e s).bind fun d s => .ok (.ret d) s
  | .retN, s => .ok (.ret .non) s
  | .raise c as, s => (evs Γ as s).bind fun ds s => .exc ⟨c, ds⟩ s
  | .expr e, s => (ev Γ e s).bind fun _ s => .ok .next s
  | .pass, s => .ok .next s
  | .dput i k e, s => (ev Γ e s).bind fun d s => (opt s (dicAt false i s)).bind fun _ s => (ev Γ k s).bind fun x s => match dicAt false i s with
      | some kvs => if keyB x = true ∧ kvs.length < sizeLine then .ok .next (setV i (.dic false (dput kvs x d)) s) else .fail
      | none => .fail
  | .dputT i ks e, s => (ev Γ e s).bind fun d s => (opt s (dicAt true i s)).bind fun _ s => (evs Γ ks s).bind fun xs s => match dicAt true i s with
      | some kvs => if xs.all keyB = true ∧ kvs.length < sizeLine ∧ xs.length ≤ 1000 then .ok .next (setV i (.dic true (dput kvs (.tup xs) d)) s) else .fail
      | none => .fail
  | .sdapp i k e, s => (opt s (dicAt false i s)).bind fun _ s => (ev Γ k s).bind fun x s => match dicAt false i s with
      | some kvs => if keyB x = true ∧ kvs.length < sizeLine then (match dget kvs x with
        | some v => sdEnd v (ev Γ e s)
        | none => sdEnd (.ref s.st.length) (ev Γ e ⟨s.env.set i (some (.dic false (dput kvs x (.ref s.st.length)))), s.st ++ [[]]⟩)) else .fail
      | none => .fail
  | .setL i k e, s => (ev Γ e s).bind fun d s => (opt s (lstAt i s)).bind fun _ s => (ev Γ k s).bind fun y s => match y, lstAt i s with
      | .int z, some xs => (match setL xs z d with
        | some ys => .ok .next (setV i (.lst ys) s)
        | none => .fail)
      | _, _ => .fail
  | .unpL ts e, s => (ev Γ e s).bind fun d s => (opt s (setLs ts d s)).bind fun s' _ => .ok .next s'
  | .augL i k e, s => (opt s (lstAt i s)).bind fun _ s => (ev Γ k s).bind fun y s => match y, lstAt i s with
      | .int z, some xs => if 0 ≤ z then (opt s (xs[z.toNat]?)).bind fun x s => (ev Γ e s).bind fun w s => (opt s (augR .add x w)).bind fun v s => (opt s (lstAt i s)).bind fun ys s => (opt s (setL ys z v)).bind fun zs s => .ok .next (setV i (.lst zs) s) else .fail
      | _, _ => .fail
  | .extL i e, s => (opt s (lstAt i s)).bind fun _ s => (ev Γ e s).bind fun d s => match d, lstAt i s with
      | .lst ys, some xs => if xs.length + ys.length ≤ sizeLine then .ok .next (setV i (.lst (xs ++ ys)) s) else .fail
      | _, _ => .fail
def exs (Γ : List Fn) : List St → S → R S Fl
  | [], s => .ok .next s
  | t :: ts, s => (ex Γ t s).bind fun f s => match f with
    | .next => exs Γ ts s
    | .ret d => .ok (.ret d) s
end
/-- a def: how many parameters, how many slots, the body -/
structure FD where
  np : Nat
  n : Nat
  body : List St
  /-- what it put into the store is forgotten behind it -/
  gc : Bool := false
mutual
/-- all things of the store within are below n -/
def D.bel (n : Nat) : D → Bool
  | .ref k => decide (k < n)
  | .tup xs => D.bels n xs
  | .lst xs => D.bels n xs
  | .dic _ kvs => D.belE n kvs
  | _ => true
def D.bels (n : Nat) : List D → Bool
  | [] => true
  | x :: xs => D.bel n x && D.bels n xs
def D.belE (n : Nat) : List (D × D) → Bool
  | [] => true
  | (_, x) :: xs => D.bel n x && D.belE n xs
end
mutual
/-- the same, part by part -/
def D.same : D → D → Bool
  | .non, .non => true
  | .bl a, .bl b => a == b
  | .int i, .int j => i == j
  | .str x, .str y => x == y
  | .ref k, .ref j => k == j
  | .tup xs, .tup ys => D.sames xs ys
  | .lst xs, .lst ys => D.sames xs ys
  | .dic t xs, .dic u ys => t == u && D.sameE xs ys
  | _, _ => false
def D.sames : List D → List D → Bool
  | [], [] => true
  | x :: xs, y :: ys => D.same x y && D.sames xs ys
  | _, _ => false
def D.sameE : List (D × D) → List (D × D) → Bool
  | [], [] => true
  | (a, x) :: xs, (b, y) :: ys => D.same a b && (D.same x y && D.sameE xs ys)
  | _, _ => false
end
def sameS : Sto → Sto → Bool
  | [], [] => true
  | x :: xs, y :: ys => D.sames x y && sameS xs ys
  | _, _ => false
/-- what a def put into the store is forgotten; the rest is as it was -/
def gcR (st : Sto) : R Sto D → R Sto D
  | .ok d st' => if (D.bel st.length d && sameS (st'.take st.length) st) = true then .ok d st else .fail
  | .exc e st' => if sameS (st'.take st.length) st = true then .exc e st else .fail
  | .fail => .fail
def runFn (b : FD) (Γ : List Fn) : Fn := fun ds st =>
  if ds.length = b.np then (if b.gc then gcR st else id) (match exs Γ b.body ⟨ds.map some ++ List.replicate (b.n - b.np) none, st⟩ with
    | .ok (.ret d) s => .ok d s.st
    | .ok .next s => .ok .non s.st
    | .exc e s => .exc e s.st
    | .fail => .fail)
  else .fail
end Lb

set_option maxRecDepth 100000
set_option maxHeartbeats 2000000
/-! what a text's defs are, what the top leaves: apart from all rules, so that a law's `run` can stand early (it is the peak of Lean's memory) -/
namespace Lb
open PySem PySem.Spec PyProof.Rows L2
/-- one def: the text's, its parameters, its slots, whether a list that it returns goes to the store, what stands for parameters left out, its form in the small language -/
structure LD where
  d : He.DefD
  ps : List Str
  N : List Str
  nw : Bool
  das : List T
  b : FD
  /-- what is left out is keyword-only; calls with keywords; names of dicts, of dicts with tuples for keys -/
  ko : Bool := false
  kps : List (Nat × List Str × List Nat) := []
  dks : List Str := []
  tks : List Str := []
  lks : List Str := []
  /-- what else is to be known of the module -/
  ex : PySem.W.Frag → Bool := fun _ => true
  /-- called where no repr is under way -/
  gd : Bool := false
/-- where a keyword-only parameter's default stands -/
def kwAd (K : PySem.W.Frag) (f x : Str) : Addr := match K.lookup (He.fAd K (f, none)) with
  | some ⟨_, _, .func fd, _⟩ => (match fd.kwdefaults with
    | .ref D => (match PySem.W.nsIn K D x with
      | some (some (.ref a)) => a
      | _ => 0)
    | _ => 0)
  | _ => 0
/-- () stands there -/
def empB (K : PySem.W.Frag) (a : Addr) : Bool := match K.lookup a with
  | some o => (match o.cls with
    | .type c => c == "tuple"
    | _ => false) && ((match o.data with
    | .seq its _ => its.isEmpty
    | _ => false) && o.dict.isNone)
  | none => false
/-- no list stands in the module -/
def noLst (K : PySem.W.Frag) : Bool := K.all fun p => match p.2.cls with
  | .type c => !(c == "list")
  | _ => true
/-- what the top leaves, by names -/
abbrev AlL : Type := Bool × He.AlD
def obsL (fa : List He.Fa) (fn : List He.DefD) (ex : PySem.W.Frag → Bool) (K : PySem.W.Frag) : AlL := (noLst K && ex K, He.obsD fa fn K)
def SaysL (fa : List He.Fa) (fn : List He.DefD) (ex : PySem.W.Frag → Bool) (K : PySem.W.Frag) : Prop := obsL fa fn ex K = (true, He.valD fn)
def obsLG (n : Nat) (fa : List He.Fa) (fn : List He.DefD) (ex : PySem.W.Frag → Bool) (g : Addr → Option Obj) : AlL := obsL fa fn ex (He.frG g (He.asD g n))
def hookL (n : Nat) (fa : List He.Fa) (fn : List He.DefD) (ex : PySem.W.Frag → Bool) : PySem.W.Hook where
  α := AlL
  obs := fun s => obsLG n fa fn ex s.heap.get?
  val := fun _ => (true, He.valD fn)
  says := fun _ h => ∃ K : PySem.W.Frag, K.In h ∧ SaysL fa fn ex K
  of := fun _ _ e => ⟨_, He.frG_in, e⟩
  keeps := fun _ _ _ ⟨K, hK, c⟩ k => ⟨K, PySem.W.Frag.In.keeps hK k, c⟩
theorem obsLG_eq {n : Nat} {fa : List He.Fa} {fn : List He.DefD} {ex : PySem.W.Frag → Bool} {g : Addr → Option Obj} {s : Shared} (h : ∀ a, g a = s.heap.get? a) : obsLG n fa fn ex g = (hookL n fa fn ex).obs s := by
  have e : g = s.heap.get? := funext h
  rw [e] <;> rfl
/-- a tuple of texts stands there -/
def strsB : List Value → List Str → Bool
  | [], [] => true
  | .str x _ :: r, y :: ys => x == y && strsB r ys
  | _, _ => false
def tupC (K : PySem.W.Frag) (a : Addr) (zs : List Str) : Bool := match K.lookup a with
  | some o => (match o.cls with
    | .type c => c == "tuple"
    | _ => false) && ((match o.data with
    | .seq its _ => strsB its.toList zs
    | _ => false) && o.dict.isNone)
  | none => false
/-- an end looked at in three ways, each by itself -/
theorem map3 {α β γ δ : Type} {o : Option α} {f : α → β} {g : α → γ} {h : α → δ} {x : β} {y : γ} {z : δ} (a : o.map f = some x) (b : o.map g = some y) (c : o.map h = some z) : o.map (fun s => (f s, g s, h s)) = some (x, y, z) := by
  cases o with
  | none => cases a
  | some s => cases a; cases b; cases c; rfl
end Lb

set_option maxRecDepth 1000000
set_option maxHeartbeats 0
namespace Lb
open PySem PySem.Spec PyProof.Rows L2
/-! ### the text: lanebeats_k09_whole_lights -/
def top (i : Nat) : Stmt := PySem.Challenge.pw_lanebeats_k09_whole_lights.main.body.getD i (.Pass ⟨0, 0, 0, 0⟩)
/-- thing -/
def b_is_whole : FD := ⟨1, 1, [
  .ret (.and (.prim (.isI .int) [.var 0]) (.prim .pnot [.prim (.isI .bool) [.var 0]]))], false⟩
def L_is_whole : LD := ⟨⟨("is_whole", none), "is_whole", "is_whole", defArgs (top 11), defBody (top 11), defScope (top 11), [], []⟩, ["thing"], ["thing"], false, [], b_is_whole, false, [], [], [], [], fun _ => true, false⟩
/-- thing, low, high -/
def b_is_among : FD := ⟨3, 3, [
  .ret (.and (.call 0 [.var 0]) (.chain .le .le (.var 1) (.var 0) (.var 2)))], false⟩
def L_is_among : LD := ⟨⟨("is_among", none), "is_among", "is_among", defArgs (top 12), defBody (top 12), defScope (top 12), [], []⟩, ["thing", "low", "high"], ["thing", "low", "high"], false, [], b_is_among, false, [], [], [], [], fun _ => true, false⟩
/-- thing, low, high -/
def b_is_row : FD := ⟨3, 3, [
  .ret (.and (.prim (.isI .tuple) [.var 0]) (.chain .le .le (.var 1) (.prim .len [.var 0]) (.var 2)))], false⟩
def L_is_row : LD := ⟨⟨("is_row", none), "is_row", "is_row", defArgs (top 13), defBody (top 13), defScope (top 13), [], []⟩, ["thing", "low", "high"], ["thing", "low", "high"], false, [], b_is_row, false, [], [], [], [], fun _ => true, false⟩
/-- numbers, one, other -/
def b_are_rising : FD := ⟨1, 3, [
  .ret (.prim .all [.lc .zip [.var 0, .prim (.cut true false) [.var 0, .cn (.int 1)]] (.tup [.name 1, .name 2]) [1, 2] [] (.prim .lt [.var 1, .var 2])])], false⟩
def L_are_rising : LD := ⟨⟨("are_rising", none), "are_rising", "are_rising", defArgs (top 14), defBody (top 14), defScope (top 14), [], []⟩, ["numbers"], ["numbers", "one", "other"], false, [], b_are_rising, false, [], [], [], [], fun _ => true, false⟩
/-- thing, crossings, one -/
def b_is_road_row : FD := ⟨2, 3, [
  .ifs (.or (.prim .pnot [.call 2 [.var 0, .cn (.int 3), .cn (.int 3)]]) (.prim .pnot [.call 1 [.prim .idx [.var 0, .cn (.int 2)], .cn (.int 1), .cn (.int 5)]])) [.ret (.cn (.bl false))] [],
  .ret (.prim .all [.lc .seq [.prim (.cut false true) [.var 0, .cn (.int 2)]] (.name 2) [2] [] (.call 1 [.var 2, .cn (.int 0), .prim .sub [.var 1, .cn (.int 1)]])])], false⟩
def L_is_road_row : LD := ⟨⟨("is_road_row", none), "is_road_row", "is_road_row", defArgs (top 15), defBody (top 15), defScope (top 15), [], []⟩, ["thing", "crossings"], ["thing", "crossings", "one"], false, [], b_is_road_row, false, [], [], [], [], fun _ => true, false⟩
/-- thing, ending, road -/
def b_is_turn : FD := ⟨2, 3, [
  .ifs (.or (.prim .pnot [.call 2 [.var 0, .cn (.int 2), .cn (.int 2)]]) (.or (.prim .pnot [.call 1 [.prim .idx [.var 0, .cn (.int 0)], .cn (.int 1), .cn (.int 12)]]) (.prim .pnot [.prim (.isI .tuple) [.prim .idx [.var 0, .cn (.int 1)]]]))) [.ret (.cn (.bl false))] [],
  .ret (.and (.prim .all [.lc .seq [.prim .idx [.var 0, .cn (.int 1)]] (.name 2) [2] [] (.and (.call 0 [.var 2]) (.prim .inn [.var 2, .var 1]))]) (.call 3 [.prim .idx [.var 0, .cn (.int 1)]]))], false⟩
def L_is_turn : LD := ⟨⟨("is_turn", none), "is_turn", "is_turn", defArgs (top 16), defBody (top 16), defScope (top 16), [], []⟩, ["thing", "ending"], ["thing", "ending", "road"], false, [], b_is_turn, false, [], [], [], [], fun _ => true, false⟩
/-- thing, around, ending, turn, beats, green -/
def b_are_lights : FD := ⟨3, 6, [
  .ifs (.prim .isN [.var 0]) [.ret (.cn (.bl true))] [],
  .ifs (.or (.prim .pnot [.call 2 [.var 0, .cn (.int 2), .cn (.int 2)]]) (.or (.prim .pnot [.call 1 [.prim .idx [.var 0, .cn (.int 0)], .cn (.int 0), .prim .sub [.var 1, .cn (.int 1)]]]) (.prim .pnot [.call 2 [.prim .idx [.var 0, .cn (.int 1)], .cn (.int 1), .cn (.int 4)]]))) [.ret (.cn (.bl false))] [],
  .ifs (.prim .pnot [.prim .all [.lc .seq [.prim .idx [.var 0, .cn (.int 1)]] (.name 3) [3] [] (.call 5 [.var 3, .var 2])]]) [.ret (.cn (.bl false))] [],
  .ret (.prim .eq [.prim .sum [.lc .seq [.prim .idx [.var 0, .cn (.int 1)]] (.tup [.name 4, .name 5]) [4, 5] [] (.var 4)], .var 1])], false⟩
def L_are_lights : LD := ⟨⟨("are_lights", none), "are_lights", "are_lights", defArgs (top 17), defBody (top 17), defScope (top 17), [], []⟩, ["thing", "around", "ending"], ["thing", "around", "ending", "turn", "beats", "green"], false, [], b_are_lights, false, [], [], [], [], fun _ => true, false⟩
/-- roads, crossing, number, begin, end, long -/
def b_ends_at : FD := ⟨2, 6, [
  .ret (.lc .enum [.var 0] (.tup [.name 2, .tup [.name 3, .name 4, .name 5]]) [2, 3, 4, 5] [.prim .eq [.var 4, .var 1]] (.var 2))], false⟩
def L_ends_at : LD := ⟨⟨("ends_at", none), "ends_at", "ends_at", defArgs (top 18), defBody (top 18), defScope (top 18), [], []⟩, ["roads", "crossing"], ["roads", "crossing", "number", "begin", "end", "long"], false, [], b_ends_at, false, [], [], [], [], fun _ => true, false⟩
/-- thing, crossings, around, roads, lights, road, crossing, one -/
def b_is_town : FD := ⟨1, 8, [
  .ifs (.or (.prim .pnot [.call 2 [.var 0, .cn (.int 4), .cn (.int 4)]]) (.or (.prim .pnot [.call 1 [.prim .idx [.var 0, .cn (.int 0)], .cn (.int 1), .cn (.int 6)]]) (.prim .pnot [.call 1 [.prim .idx [.var 0, .cn (.int 1)], .cn (.int 1), .cn (.int 12)]]))) [.ret (.cn (.bl false))] [],
  .unp (.tup [.name 1, .name 2, .name 3, .name 4]) (.var 0),
  .ifs (.or (.prim .pnot [.call 2 [.var 3, .cn (.int 1), .cn (.int 10)]]) (.prim .pnot [.prim .all [.lc .seq [.var 3] (.name 5) [5] [] (.call 4 [.var 5, .var 1])]])) [.ret (.cn (.bl false))] [],
  .ifs (.prim .pnot [.call 2 [.var 4, .var 1, .var 1]]) [.ret (.cn (.bl false))] [],
  .ret (.prim .all [.lc .enum [.var 4] (.tup [.name 6, .name 7]) [6, 7] [] (.call 6 [.var 7, .var 2, .call 7 [.var 3, .var 6]])])], false⟩
def L_is_town : LD := ⟨⟨("is_town", none), "is_town", "is_town", defArgs (top 19), defBody (top 19), defScope (top 19), [], []⟩, ["thing"], ["thing", "crossings", "around", "roads", "lights", "road", "crossing", "one"], false, [], b_is_town, false, [], [], [], [], fun _ => true, false⟩
/-- thing -/
def b_need_town : FD := ⟨1, 1, [
  .ifs (.prim .pnot [.call 8 [.var 0]]) [.raise "NoTown" []] []], false⟩
def L_need_town : LD := ⟨⟨("need_town", none), "need_town", "need_town", defArgs (top 20), defBody (top 20), defScope (top 20), [], []⟩, ["thing"], ["thing"], false, [], b_need_town, false, [], [], [], [], fun _ => true, false⟩
/-- town, thing -/
def b_is_road : FD := ⟨2, 2, [
  .ret (.call 1 [.var 1, .cn (.int 0), .prim .sub [.prim .len [.prim .idx [.var 0, .cn (.int 2)]], .cn (.int 1)]])], false⟩
def L_is_road : LD := ⟨⟨("is_road", none), "is_road", "is_road", defArgs (top 21), defBody (top 21), defScope (top 21), [], []⟩, ["town", "thing"], ["town", "thing"], false, [], b_is_road, false, [], [], [], [], fun _ => true, false⟩
/-- town, thing -/
def b_need_road : FD := ⟨2, 2, [
  .ifs (.prim .pnot [.call 10 [.var 0, .var 1]]) [.raise "NoRoad" []] []], false⟩
def L_need_road : LD := ⟨⟨("need_road", none), "need_road", "need_road", defArgs (top 22), defBody (top 22), defScope (top 22), [], []⟩, ["town", "thing"], ["town", "thing"], false, [], b_need_road, false, [], [], [], [], fun _ => true, false⟩
/-- town, lights, beat, shift, rows, rest, beats, green -/
def b_turn_at : FD := ⟨3, 8, [
  .unp (.tup [.name 3, .name 4]) (.var 1),
  .asg 5 (.prim .mod [.prim .sub [.var 2, .var 3], .prim .idx [.var 0, .cn (.int 1)]]),
  .for_ .seq [.var 4] (.tup [.name 6, .name 7]) [.ifs (.prim .lt [.var 5, .var 6]) [.ret (.var 7)] [], .aug 5 .sub (.var 6)],
  .ret (.tup [])], false⟩
def L_turn_at : LD := ⟨⟨("turn_at", none), "turn_at", "turn_at", defArgs (top 24), defBody (top 24), defScope (top 24), [], []⟩, ["town", "lights", "beat"], ["town", "lights", "beat", "shift", "rows", "rest", "beats", "green"], false, [], b_turn_at, false, [], [], [], [], fun _ => true, false⟩
/-- town, road, beat, lights -/
def b_green_by : FD := ⟨3, 4, [
  .asg 3 (.prim .idx [.prim .idx [.var 0, .cn (.int 3)], .prim .idx [.prim .idx [.prim .idx [.var 0, .cn (.int 2)], .var 1], .cn (.int 1)]]),
  .ret (.or (.prim .isN [.var 3]) (.prim .inn [.var 1, .call 12 [.var 0, .var 3, .var 2]]))], false⟩
def L_green_by : LD := ⟨⟨("green_by", none), "green_by", "green_by", defArgs (top 25), defBody (top 25), defScope (top 25), [], []⟩, ["town", "road", "beat"], ["town", "road", "beat", "lights"], false, [], b_green_by, false, [], [], [], [], fun _ => true, false⟩
/-- town, road, beat -/
def b_is_green : FD := ⟨3, 3, [
  .expr (.call 9 [.var 0]),
  .expr (.call 11 [.var 0, .var 1]),
  .ifs (.or (.prim .pnot [.call 0 [.var 2]]) (.prim .lt [.var 2, .cn (.int 0)])) [.raise "NoBeat" []] [],
  .ret (.call 13 [.var 0, .var 1, .var 2])], false⟩
def L_is_green : LD := ⟨⟨("is_green", none), "is_green", "is_green", defArgs (top 26), defBody (top 26), defScope (top 26), [], []⟩, ["town", "road", "beat"], ["town", "road", "beat"], false, [], b_is_green, false, [], [], [], [], fun _ => true, false⟩
/-- town, found, road, lights, beats, green -/
def b_never_by : FD := ⟨1, 6, [
  .asg 1 (.lst []),
  .for_ .rng1 [.prim .len [.prim .idx [.var 0, .cn (.int 2)]]] (.name 2) [.asg 3 (.prim .idx [.prim .idx [.var 0, .cn (.int 3)], .prim .idx [.prim .idx [.prim .idx [.var 0, .cn (.int 2)], .var 2], .cn (.int 1)]]), .ifs (.and (.prim .notN [.var 3]) (.prim .pnot [.prim .any [.lc .seq [.prim .idx [.var 3, .cn (.int 1)]] (.tup [.name 4, .name 5]) [4, 5] [] (.prim .inn [.var 2, .var 5])]])) [.app 1 (.var 2)] []],
  .ret (.prim .tuple [.var 1])], false⟩
def L_never_by : LD := ⟨⟨("never_by", none), "never_by", "never_by", defArgs (top 27), defBody (top 27), defScope (top 27), [], []⟩, ["town"], ["town", "found", "road", "lights", "beats", "green"], false, [], b_never_by, false, [], [], [], [], fun _ => true, false⟩
/-- town -/
def b_never_green : FD := ⟨1, 1, [
  .expr (.call 9 [.var 0]),
  .ret (.call 15 [.var 0])], false⟩
def L_never_green : LD := ⟨⟨("never_green", none), "never_green", "never_green", defArgs (top 28), defBody (top 28), defScope (top 28), [], []⟩, ["town"], ["town"], false, [], b_never_green, false, [], [], [], [], fun _ => true, false⟩
/-- _law_script, _law_k -/
def b_l_cell_at : FD := ⟨2, 2, [
  .ifs (.prim .lt [.var 1, .prim .len [.var 0]]) [.ret (.prim .idx [.var 0, .var 1])] [],
  .ret (.cn (.int 0))], false⟩
def L_l_cell_at : LD := ⟨⟨("_law_cell_at", none), "_law_cell_at", "_law_cell_at", defArgs (top 30), defBody (top 30), defScope (top 30), [], []⟩, ["_law_script", "_law_k"], ["_law_script", "_law_k"], false, [], b_l_cell_at, false, [], [], [], [], fun _ => true, false⟩
/-- _law_cell -/
def b_l_pen : FD := ⟨1, 1, [
  .ret (.new [.prim .max2 [.cn (.int 0), .prim .sub [.var 0, .prim .pow [.cn (.int 10), .cn (.int 18)]]], .prim .mod [.var 0, .cn (.int 1000000007)], .cn (.int 0)])], false⟩
def L_l_pen : LD := ⟨⟨("_law_pen", none), "_law_pen", "_law_pen", defArgs (top 31), defBody (top 31), defScope (top 31), [], []⟩, ["_law_cell"], ["_law_cell"], true, [], b_l_pen, false, [], [], [], [], fun _ => true, false⟩
/-- _law_pen_here, _law_many, _law_digit, _law_stir -/
def b_l_draw : FD := ⟨2, 4, [
  .ifs (.prim .gt [.prim .idx [.var 0, .cn (.int 0)], .cn (.int 0)]) [.asg 2 (.prim .mod [.prim .idx [.var 0, .cn (.int 0)], .var 1]), .setR (.var 0) (.cn (.int 0)) (.prim .fdiv [.prim .idx [.var 0, .cn (.int 0)], .var 1]), .ret (.var 2)] [],
  .setR (.var 0) (.cn (.int 2)) (.prim .add [.prim .idx [.var 0, .cn (.int 2)], .cn (.int 1)]),
  .asg 3 (.prim .mod [.prim .mul [.prim .add [.prim .idx [.var 0, .cn (.int 1)], .prim .mul [.cn (.int 17), .prim .idx [.var 0, .cn (.int 2)]]], .prim .add [.cn (.int 69621), .prim .mul [.cn (.int 2), .prim .idx [.var 0, .cn (.int 2)]]]], .cn (.int 2147483647)]),
  .asg 3 (.prim .mod [.prim .add [.prim .add [.prim .mul [.var 3, .var 3], .prim .mul [.cn (.int 40503), .prim .idx [.var 0, .cn (.int 2)]]], .cn (.int 5)], .cn (.int 2147483629)]),
  .ret (.prim .mod [.prim .fdiv [.prim .mod [.prim .mul [.var 3, .cn (.int 48271)], .cn (.int 2147483647)], .cn (.int 32)], .var 1])], false⟩
def L_l_draw : LD := ⟨⟨("_law_draw", none), "_law_draw", "_law_draw", defArgs (top 32), defBody (top 32), defScope (top 32), [], []⟩, ["_law_pen_here", "_law_many"], ["_law_pen_here", "_law_many", "_law_digit", "_law_stir"], false, [], b_l_draw, false, [], [], [], [], fun _ => true, false⟩
/-- _law_pen_here, _law_roads, _law_crossing, _law_circle, _law_some, _law_rows, _law_left, _law_at, _law_road, _law_beats, _law_green -/
def b_l_lights : FD := ⟨4, 11, [
  .ifs (.prim .lt [.call 19 [.var 0, .cn (.int 5)], .cn (.int 2)]) [.ret (.cn .non)] [],
  .par [4, 5, 6] [.lc .enum [.var 1] (.tup [.name 7, .name 8]) [7, 8] [.prim .eq [.prim .idx [.var 8, .cn (.int 1)], .var 2]] (.var 7), .lst [], .var 3],
  .while_ (.prim .gt [.var 6, .cn (.int 0)]) [.asg 9 (.ite (.prim .lt [.prim .len [.var 5], .cn (.int 3)]) (.prim .min2 [.var 6, .prim .add [.cn (.int 1), .call 19 [.var 0, .cn (.int 5)]]]) (.var 6)), .asg 10 (.prim .tuple [.lc .seq [.var 4] (.name 8) [8] [.prim .gt [.call 19 [.var 0, .cn (.int 4)], .cn (.int 1)]] (.var 8)]), .app 5 (.tup [.var 9, .var 10]), .asg 6 (.prim .sub [.var 6, .var 9])],
  .ret (.tup [.call 19 [.var 0, .var 3], .prim .tuple [.var 5]])], false⟩
def L_l_lights : LD := ⟨⟨("_law_lights", none), "_law_lights", "_law_lights", defArgs (top 33), defBody (top 33), defScope (top 33), [], []⟩, ["_law_pen_here", "_law_roads", "_law_crossing", "_law_circle"], ["_law_pen_here", "_law_roads", "_law_crossing", "_law_circle", "_law_some", "_law_rows", "_law_left", "_law_at", "_law_road", "_law_beats", "_law_green"], false, [], b_l_lights, false, [], [], [], [], fun _ => true, false⟩
/-- _law_pen_here, _law_many, _law_circle, _law_roads, _law_at, _law_turn, _law_left, _law_mixed, _law_lights_here -/
def b_l_town : FD := ⟨1, 9, [
  .par [1, 2] [.prim .add [.cn (.int 1), .call 19 [.var 0, .cn (.int 4)]], .prim .idx [.lst [.cn (.int 1), .cn (.int 2), .cn (.int 3), .cn (.int 4), .cn (.int 6), .cn (.int 12)], .call 19 [.var 0, .cn (.int 6)]]],
  .asg 3 (.lc .rng1 [.var 1] (.name 4) [4] [] (.tup [.var 4, .prim .mod [.prim .add [.var 4, .cn (.int 1)], .var 1], .prim .add [.cn (.int 1), .call 19 [.var 0, .cn (.int 4)]]])),
  .for_ .rng1 [.call 19 [.var 0, .cn (.int 6)]] (.name 5) [.app 3 (.tup [.call 19 [.var 0, .var 1], .call 19 [.var 0, .var 1], .prim .add [.cn (.int 1), .call 19 [.var 0, .cn (.int 5)]]])],
  .par [6, 7] [.prim .list [.var 3], .lst []],
  .while_ (.prim .ne [.var 6, .lst []]) [.app 7 (.pop 6 (.call 19 [.var 0, .prim .len [.var 6]]))],
  .asg 8 (.lc .rng1 [.var 1] (.name 4) [4] [] (.call 20 [.var 0, .var 7, .var 4, .var 2])),
  .ret (.tup [.var 1, .var 2, .prim .tuple [.var 7], .prim .tuple [.var 8]])], false⟩
def L_l_town : LD := ⟨⟨("_law_town", none), "_law_town", "_law_town", defArgs (top 34), defBody (top 34), defScope (top 34), [], []⟩, ["_law_pen_here"], ["_law_pen_here", "_law_many", "_law_circle", "_law_roads", "_law_at", "_law_turn", "_law_left", "_law_mixed", "_law_lights_here"], false, [], b_l_town, false, [], [], [], [], fun _ => true, false⟩
/-- _law_town_here, _law_more, _law_lights_here, _law_one -/
def b_l_shifted : FD := ⟨2, 4, [
  .asg 2 (.lst []),
  .for_ .seq [.prim .idx [.var 0, .cn (.int 3)]] (.name 3) [.app 2 (.ite (.prim .isN [.var 3]) (.cn .non) (.tup [.prim .mod [.prim .add [.prim .idx [.var 3, .cn (.int 0)], .var 1], .prim .idx [.var 0, .cn (.int 1)]], .prim .idx [.var 3, .cn (.int 1)]]))],
  .ret (.prim .add [.prim (.cut false true) [.var 0, .cn (.int 3)], .tup [.prim .tuple [.var 2]]])], false⟩
def L_l_shifted : LD := ⟨⟨("_law_shifted", none), "_law_shifted", "_law_shifted", defArgs (top 35), defBody (top 35), defScope (top 35), [], []⟩, ["_law_town_here", "_law_more"], ["_law_town_here", "_law_more", "_law_lights_here", "_law_one"], false, [], b_l_shifted, false, [], [], [], [], fun _ => true, false⟩
/-- _law_town_here, _law_lights_here, _law_one -/
def b_l_turned : FD := ⟨1, 3, [
  .asg 1 (.lc .seq [.prim .idx [.var 0, .cn (.int 3)]] (.name 2) [2] [] (.ite (.prim .isN [.var 2]) (.cn .non) (.tup [.prim .idx [.var 2, .cn (.int 0)], .prim .rev [.prim .idx [.var 2, .cn (.int 1)]]]))),
  .ret (.prim .add [.prim (.cut false true) [.var 0, .cn (.int 3)], .tup [.prim .tuple [.var 1]]])], false⟩
def L_l_turned : LD := ⟨⟨("_law_turned", none), "_law_turned", "_law_turned", defArgs (top 36), defBody (top 36), defScope (top 36), [], []⟩, ["_law_town_here"], ["_law_town_here", "_law_lights_here", "_law_one"], false, [], b_l_turned, false, [], [], [], [], fun _ => true, false⟩
/-- _law_town_here, _law_road, _law_first, _law_at -/
def b_l_green_row : FD := ⟨3, 4, [
  .ret (.lc .rng1 [.prim .idx [.var 0, .cn (.int 1)]] (.name 3) [3] [] (.call 14 [.var 0, .var 1, .prim .add [.var 2, .var 3]]))], false⟩
def L_l_green_row : LD := ⟨⟨("_law_green_row", none), "_law_green_row", "_law_green_row", defArgs (top 37), defBody (top 37), defScope (top 37), [], []⟩, ["_law_town_here", "_law_road", "_law_first"], ["_law_town_here", "_law_road", "_law_first", "_law_at"], false, [], b_l_green_row, false, [], [], [], [], fun _ => true, false⟩
/-- _law_town_here, _law_road, _law_more, _law_beat, _law_row, _law_lights_here, _law_many, _law_beats, _law_green -/
def b_l_right : FD := ⟨4, 9, [
  .par [4, 5] [.call 24 [.var 0, .var 1, .var 3], .prim .idx [.prim .idx [.var 0, .cn (.int 3)], .prim .idx [.prim .idx [.prim .idx [.var 0, .cn (.int 2)], .var 1], .cn (.int 1)]]],
  .ifs (.prim .ne [.var 4, .call 24 [.var 0, .var 1, .prim .add [.var 3, .prim .idx [.var 0, .cn (.int 1)]]]]) [.ret (.cn (.bl false))] [],
  .ifs (.prim .ne [.call 24 [.call 22 [.var 0, .var 2], .var 1, .prim .add [.var 3, .var 2]], .var 4]) [.ret (.cn (.bl false))] [],
  .ifs (.prim .isN [.var 5]) [.ret (.and (.prim .eq [.var 4, .prim .mul [.lst [.cn (.bl true)], .prim .idx [.var 0, .cn (.int 1)]]]) (.prim .nin [.var 1, .call 16 [.var 0]]))] [],
  .asg 6 (.prim .sum [.lc .seq [.prim .idx [.var 5, .cn (.int 1)]] (.tup [.name 7, .name 8]) [7, 8] [.prim .inn [.var 1, .var 8]] (.var 7)]),
  .ifs (.or (.prim .ne [.meth .cnt (.var 4) [.cn (.bl true)], .var 6]) (.prim .ne [.prim .inn [.var 1, .call 16 [.var 0]], .prim .eq [.var 6, .cn (.int 0)]])) [.ret (.cn (.bl false))] [],
  .ret (.prim .eq [.meth .cnt (.call 24 [.call 23 [.var 0], .var 1, .cn (.int 0)]) [.cn (.bl true)], .var 6])], false⟩
def L_l_right : LD := ⟨⟨("_law_right", none), "_law_right", "_law_right", defArgs (top 38), defBody (top 38), defScope (top 38), [], []⟩, ["_law_town_here", "_law_road", "_law_more", "_law_beat"], ["_law_town_here", "_law_road", "_law_more", "_law_beat", "_law_row", "_law_lights_here", "_law_many", "_law_beats", "_law_green"], false, [], b_l_right, false, [], [], [], [], fun _ => true, false⟩
/-- _law_script, _law_k, _law_pen_here, _law_turn, _law_town_here, _law_more, _law_beat, _law_road, _law_bare -/
def b_law : FD := ⟨1, 9, [
  .for_ .rng1 [.prim .max2 [.cn (.int 1), .prim .min2 [.prim .len [.var 0], .cn (.int 4)]]] (.name 1) [.asg 2 (.call 18 [.call 17 [.var 0, .var 1]]), .for_ .rng1 [.cn (.int 3)] (.name 3) [.asg 4 (.call 21 [.var 2]), .par [5, 6] [.call 19 [.var 2, .prim .idx [.var 4, .cn (.int 1)]], .call 19 [.var 2, .cn (.int 50)]], .ifs (.prim .pnot [.prim .all [.lc .rng1 [.prim .len [.prim .idx [.var 4, .cn (.int 2)]]] (.name 7) [7] [] (.call 25 [.var 4, .var 7, .var 5, .var 6])]]) [.ret (.cn (.bl false))] [], .asg 8 (.prim .add [.prim (.cut false true) [.var 4, .cn (.int 3)], .tup [.prim .mul [.tup [.cn .non], .prim .idx [.var 4, .cn (.int 0)]]]]), .ifs (.or (.prim .ne [.call 16 [.var 8], .tup []]) (.prim .ne [.call 16 [.call 23 [.var 4]], .call 16 [.var 4]])) [.ret (.cn (.bl false))] []]],
  .ret (.cn (.bl true))], false⟩
def L_law : LD := ⟨⟨("law", none), "law", "law", defArgs (top 39), defBody (top 39), defScope (top 39), [], []⟩, ["_law_script"], ["_law_script", "_law_k", "_law_pen_here", "_law_turn", "_law_town_here", "_law_more", "_law_beat", "_law_road", "_law_bare"], false, [], b_law, false, [], [], [], [], fun _ => true, false⟩
def LL : List LD := [L_is_whole, L_is_among, L_is_row, L_are_rising, L_is_road_row, L_is_turn, L_are_lights, L_ends_at, L_is_town, L_need_town, L_is_road, L_need_road, L_turn_at, L_green_by, L_is_green, L_never_by, L_never_green, L_l_cell_at, L_l_pen, L_l_draw, L_l_lights, L_l_town, L_l_shifted, L_l_turned, L_l_green_row, L_l_right, L_law]
def fa : List He.Fa := [.glo "is_whole", .glo "is_among", .glo "is_row", .glo "are_rising", .glo "is_road_row", .glo "is_turn", .glo "are_lights", .glo "ends_at", .glo "is_town", .glo "need_town", .glo "is_road", .glo "need_road", .glo "turn_at", .glo "green_by", .glo "is_green", .glo "never_by", .glo "never_green", .glo "_law_cell_at", .glo "_law_pen", .glo "_law_draw", .glo "_law_lights", .glo "_law_town", .glo "_law_shifted", .glo "_law_turned", .glo "_law_green_row", .glo "_law_right", .glo "law", .free "isinstance", .free "int", .free "bool", .free "tuple", .free "list", .free "len", .free "max", .free "min", .free "sum", .free "all", .free "any", .free "range", .free "enumerate", .free "zip", .int "MOST_CROSSINGS" 6, .int "MOST_ROUND" 12, .int "MOST_ROADS" 10, .int "MOST_LONG" 5, .int "MOST_ROWS" 4, .glo "NoTown", .exc "NoTown", .glo "NoRoad", .exc "NoRoad", .glo "NoBeat", .exc "NoBeat"]
def fn : List He.DefD := LL.map LD.d
def exK (K : PySem.W.Frag) : Bool := LL.all fun l => l.ex K
abbrev hk : PySem.W.Hook := hookL 4 fa fn exK
def ob (s : PySem.W.SharedT) : AlL := obsLG 4 fa fn exK (HandSHeadRun.getT s)
theorem ob_eq (s : PySem.W.SharedT) : ob s = hk.obs s.abs := obsLG_eq (HandSHeadRun.getT_eq s)
def loose0 : List Str := ["__name__", "LaneError", "NoTown", "NoRoad", "NoBeat", "MOST_CROSSINGS", "MOST_ROUND", "MOST_ROADS", "MOST_LONG", "MOST_ROWS", "is_whole", "is_among", "is_row", "are_rising", "is_road_row", "is_turn", "are_lights", "ends_at", "is_town", "need_town", "is_road", "need_road", "turn_at", "green_by", "is_green", "never_by", "never_green", "_law_cell_at", "_law_pen", "_law_draw"]
def loose1 : List Str := ["_law_lights", "_law_town", "_law_shifted", "_law_turned", "_law_green_row", "_law_right"]
def loose : List Str := loose0 ++ loose1
open PySem.W HandSHeadRun PySem.Calls in
theorem run_a (w : World) (os : OsState) : (HandSHeadRun.endF (stepQ (denQ tabQ) (PySem.W.OpenLaw.row PySem.Challenge.rw_lanebeats_k09_whole_lights).prog w) 20000 (PySem.W.OpenLaw.row PySem.Challenge.rw_lanebeats_k09_whole_lights).prog w os).map (fun s => HandSHeadRun.looksF (PySem.W.OpenLaw.row PySem.Challenge.rw_lanebeats_k09_whole_lights).prog (boot_heap w.params) s.abs) = some (true) := by
  kernel_rfl
open PySem.W HandSHeadRun PySem.Calls in
theorem run_b (w : World) (os : OsState) : (HandSHeadRun.endF (stepQ (denQ tabQ) (PySem.W.OpenLaw.row PySem.Challenge.rw_lanebeats_k09_whole_lights).prog w) 20000 (PySem.W.OpenLaw.row PySem.Challenge.rw_lanebeats_k09_whole_lights).prog w os).map (fun s => HandSHeadRun.seenQ (PySem.W.view (PySem.W.OpenLaw.row PySem.Challenge.rw_lanebeats_k09_whole_lights).prog [39]) loose (importedModules (PySem.W.OpenLaw.row PySem.Challenge.rw_lanebeats_k09_whole_lights).prog.main.body) (fun s => xlAt (PySem.W.view (PySem.W.OpenLaw.row PySem.Challenge.rw_lanebeats_k09_whole_lights).prog [39]) [] s && recOk (PySem.W.OpenLaw.row PySem.Challenge.rw_lanebeats_k09_whole_lights).toRowW.records s) s.abs) = some (openGood (PySem.W.view (PySem.W.OpenLaw.row PySem.Challenge.rw_lanebeats_k09_whole_lights).prog [39]) loose) := by
  kernel_rfl
open PySem.W HandSHeadRun PySem.Calls in
theorem run_c (w : World) (os : OsState) : (HandSHeadRun.endF (stepQ (denQ tabQ) (PySem.W.OpenLaw.row PySem.Challenge.rw_lanebeats_k09_whole_lights).prog w) 20000 (PySem.W.OpenLaw.row PySem.Challenge.rw_lanebeats_k09_whole_lights).prog w os).map (fun s => (ob s).1) = some (true) := by
  kernel_rfl
open PySem.W HandSHeadRun PySem.Calls in
theorem run_d (w : World) (os : OsState) : (HandSHeadRun.endF (stepQ (denQ tabQ) (PySem.W.OpenLaw.row PySem.Challenge.rw_lanebeats_k09_whole_lights).prog w) 20000 (PySem.W.OpenLaw.row PySem.Challenge.rw_lanebeats_k09_whole_lights).prog w os).map (fun s => (ob s).2.1) = some (true) := by
  kernel_rfl
open PySem.W HandSHeadRun PySem.Calls in
theorem run_e (w : World) (os : OsState) : (HandSHeadRun.endF (stepQ (denQ tabQ) (PySem.W.OpenLaw.row PySem.Challenge.rw_lanebeats_k09_whole_lights).prog w) 20000 (PySem.W.OpenLaw.row PySem.Challenge.rw_lanebeats_k09_whole_lights).prog w os).map (fun s => (ob s).2.2) = some (fn.map He.DefD.val) := by
  kernel_rfl
theorem run (w : World) : HandSHeadRun.RunEq (PySem.W.OpenLaw.row PySem.Challenge.rw_lanebeats_k09_whole_lights) (PySem.W.view (PySem.W.OpenLaw.row PySem.Challenge.rw_lanebeats_k09_whole_lights).prog [39]) hk ob 20000 loose w := fun os => map3 (run_a w os) (run_b w os) (map3 (run_c w os) (run_d w os) (run_e w os))
end Lb

namespace Lb
open PySem
section
variable (Γ : List Fn) (s : S)
@[simp] theorem ev_cn (c : Cn) : ev Γ (.cn c) s = .ok c.d s := rfl
@[simp] theorem ev_var (i : Nat) : ev Γ (.var i) s = getV i s := rfl
@[simp] theorem ev_prim (p : P) (as : List T) : ev Γ (.prim p as) s = (evs Γ as s).bind fun ds s => opt s (prim s.st p ds) := rfl
@[simp] theorem ev_and (a b : T) : ev Γ (.and a b) s = (ev Γ a s).bind fun x s => (opt s (truthy x)).bind fun c s => if c then ev Γ b s else .ok x s := rfl
@[simp] theorem ev_or (a b : T) : ev Γ (.or a b) s = (ev Γ a s).bind fun x s => (opt s (truthy x)).bind fun c s => if c then .ok x s else ev Γ b s := rfl
@[simp] theorem ev_ite (c a b : T) : ev Γ (.ite c a b) s = (ev Γ c s).bind fun x s => (opt s (truthy x)).bind fun c s => if c then ev Γ a s else ev Γ b s := rfl
@[simp] theorem ev_chain (p q : P) (a b c : T) : ev Γ (.chain p q a b c) s = (ev Γ a s).bind fun x s => (ev Γ b s).bind fun y s => (opt s (prim s.st p [x, y])).bind fun u s => (opt s (truthy u)).bind fun k s =>
      if k then (ev Γ c s).bind fun z s => opt s (prim s.st q [y, z]) else .ok u s := rfl
@[simp] theorem ev_call (k : Nat) (as : List T) : ev Γ (.call k as) s = (evs Γ as s).bind fun ds s => callF Γ k ds s := rfl
@[simp] theorem ev_tup (as : List T) : ev Γ (.tup as) s = (evs Γ as s).bind fun ds s => .ok (.tup ds) s := rfl
@[simp] theorem ev_lst (as : List T) : ev Γ (.lst as) s = (evs Γ as s).bind fun ds s => .ok (.lst ds) s := rfl
@[simp] theorem ev_new (as : List T) : ev Γ (.new as) s = (evs Γ as s).bind fun ds s => .ok (.ref s.st.length) { s with st := s.st ++ [ds] } := rfl
theorem ev_lc (k : IK) (as : List T) (tg : Tg) (vs : List Nat) (ifs : List T) (e : T) : ev Γ (.lc k as tg vs ifs e) s = (evs Γ as s).bind fun ds s => (opt s (items k ds)).bind fun xs s =>
      (lcGo (fun x s1 => match setT tg x s1 with
        | none => .fail
        | some s2 => (evAll Γ ifs s2).bind fun b s3 => if b then (ev Γ e s3).bind fun d s4 => .ok (some d) { s4 with env := wipeD s4.env vs } else .ok none { s3 with env := wipeD s3.env vs }) xs { s with env := wipeD s.env vs }).noX.bind fun ds s' =>
      if fits ds then .ok (.lst ds) { s' with env := backD s.env s'.env vs } else .fail := rfl
theorem ev_pop (i : Nat) (e : T) : ev Γ (.pop i e) s = (opt s (lstAt i s)).bind fun _ s => (ev Γ e s).bind fun x s => match x, lstAt i s with
      | .int k, some xs => (match popL xs k with
        | some (d, r) => .ok d (setV i (.lst r) s)
        | none => .fail)
      | _, _ => .fail := rfl
@[simp] theorem ev_cut2 (a b c : T) : ev Γ (.cut2 a b c) s = (ev Γ a s).bind fun x s => (ev Γ b s).bind fun y s => match y with
      | .int i => (ev Γ c s).bind fun z s => opt s (prim s.st (.cut true true) [x, .int i, z])
      | _ => .fail := rfl
@[simp] theorem ev_meth (p : P) (o : T) (as : List T) : ev Γ (.meth p o as) s = (ev Γ o s).bind fun x s => match seqOf x with
      | some ds => (evs Γ as s).bind fun es s => opt s (prim s.st p (.lst ds :: es))
      | none => .fail := rfl
@[simp] theorem ev_no : ev Γ .no s = .fail := rfl
@[simp] theorem ev_dnew (t : Bool) : ev Γ (.dnew t) s = .ok (.dic t []) s := rfl
@[simp] theorem ev_inT (neg : Bool) (ks : List T) (d : T) : ev Γ (.inT neg ks d) s = (evs Γ ks s).bind fun ds s => (ev Γ d s).bind fun x s => match x with
      | .dic true kvs => if ds.all keyB = true then .ok (.bl (neg != (dget kvs (.tup ds)).isSome)) s else .fail
      | _ => .fail := rfl
@[simp] theorem ev_getT (ks : List T) (d : T) : ev Γ (.getT d ks) s = (ev Γ d s).bind fun x s => (evs Γ ks s).bind fun ds s => match x with
      | .dic true kvs => if ds.all keyB = true then opt s (dget kvs (.tup ds)) else .fail
      | _ => .fail := rfl
@[simp] theorem ev_litems (d : T) : ev Γ (.litems d) s = (ev Γ d s).bind fun x s => match x with
      | .dic false kvs => if fits kvs then .ok (.lst (kvs.map fun p => .tup [p.1, p.2])) s else .fail
      | _ => .fail := rfl
@[simp] theorem ev_dgetD (d k e : T) : ev Γ (.dgetD d k e) s = (ev Γ d s).bind fun x s => match x with
      | .dic false kvs => (ev Γ k s).bind fun y s => (ev Γ e s).bind fun z s => if keyB y = true then .ok ((dget kvs y).getD z) s else .fail
      | _ => .fail := rfl
@[simp] theorem ev_callP (k : Nat) (as : List T) (ix : List Nat) : ev Γ (.callP k as ix) s = (evs Γ as s).bind fun ds s => callF Γ k (permL ix ds) s := rfl
@[simp] theorem evs_nil : evs Γ [] s = .ok [] s := rfl
@[simp] theorem evs_cons (t : T) (ts : List T) : evs Γ (t :: ts) s = (ev Γ t s).bind fun d s => (evs Γ ts s).bind fun ds s => .ok (d :: ds) s := rfl
@[simp] theorem evAll_nil : evAll Γ [] s = .ok true s := rfl
@[simp] theorem evAll_cons (t : T) (ts : List T) : evAll Γ (t :: ts) s = (ev Γ t s).bind fun d s => (opt s (truthy d)).bind fun c s => if c then evAll Γ ts s else .ok false s := rfl
@[simp] theorem exs_nil : exs Γ [] s = .ok .next s := rfl
theorem exs_cons (t : St) (ts : List St) : exs Γ (t :: ts) s = (ex Γ t s).bind fun f s => match f with
    | .next => exs Γ ts s
    | .ret d => .ok (.ret d) s := rfl
@[simp] theorem exs_asg (i : Nat) (e : T) (ts : List St) : exs Γ (.asg i e :: ts) s = (ev Γ e s).bind fun d s => exs Γ ts (setV i d s) := by
  rw [exs_cons]; show ((ev Γ e s).bind fun d s => R.ok Fl.next (setV i d s)).bind _ = _; cases ev Γ e s <;> rfl
@[simp] theorem exs_unp (tg : Tg) (e : T) (ts : List St) : exs Γ (.unp tg e :: ts) s = (ev Γ e s).bind fun d s => (opt s (setT tg d s)).bind fun s' _ => exs Γ ts s' := by
  rw [exs_cons]; show ((ev Γ e s).bind fun d s => (opt s (setT tg d s)).bind fun s' _ => R.ok Fl.next s').bind _ = _
  cases ev Γ e s with
  | ok d s => simp only [R.bind_ok]; cases setT tg d s <;> rfl
  | exc => rfl
  | fail => rfl
@[simp] theorem exs_unpL (tg : List Tg) (e : T) (ts : List St) : exs Γ (.unpL tg e :: ts) s = (ev Γ e s).bind fun d s => (opt s (setLs tg d s)).bind fun s' _ => exs Γ ts s' := by
  rw [exs_cons]; show ((ev Γ e s).bind fun d s => (opt s (setLs tg d s)).bind fun s' _ => R.ok Fl.next s').bind _ = _
  cases ev Γ e s with
  | ok d s => simp only [R.bind_ok]; cases setLs tg d s <;> rfl
  | exc => rfl
  | fail => rfl
@[simp] theorem exs_par (is : List Nat) (as : List T) (ts : List St) : exs Γ (.par is as :: ts) s = (evs Γ as s).bind fun ds s => (opt s (setVs is ds s)).bind fun s' _ => exs Γ ts s' := by
  rw [exs_cons]; show ((evs Γ as s).bind fun ds s => (opt s (setVs is ds s)).bind fun s' _ => R.ok Fl.next s').bind _ = _
  cases evs Γ as s with
  | ok ds s => simp only [R.bind_ok]; cases setVs is ds s <;> rfl
  | exc => rfl
  | fail => rfl
@[simp] theorem exs_ret (e : T) (ts : List St) : exs Γ (.ret e :: ts) s = (ev Γ e s).bind fun d s => .ok (.ret d) s := by
  rw [exs_cons]; show ((ev Γ e s).bind fun d s => R.ok (Fl.ret d) s).bind _ = _; cases ev Γ e s <;> rfl
@[simp] theorem exs_retN (ts : List St) : exs Γ (.retN :: ts) s = .ok (.ret .non) s := rfl
@[simp] theorem exs_pass (ts : List St) : exs Γ (.pass :: ts) s = exs Γ ts s := rfl
@[simp] theorem exs_expr (e : T) (ts : List St) : exs Γ (.expr e :: ts) s = (ev Γ e s).bind fun _ s => exs Γ ts s := by
  rw [exs_cons]; show ((ev Γ e s).bind fun _ s => R.ok Fl.next s).bind _ = _; cases ev Γ e s <;> rfl
@[simp] theorem exs_raise (c : Str) (as : List T) (ts : List St) : exs Γ (.raise c as :: ts) s = (evs Γ as s).bind fun ds s => .exc ⟨c, ds⟩ s := by
  rw [exs_cons]; show ((evs Γ as s).bind fun ds s => (R.exc ⟨c, ds⟩ s : R S Fl)).bind _ = _; cases evs Γ as s <;> rfl
/-- what follows a statement whose flow is told -/
def thenS (r : R S Fl) (k : S → R S Fl) : R S Fl := r.bind fun f s => match f with
  | .next => k s
  | .ret d => .ok (.ret d) s
@[simp] theorem thenS_next (s : S) (k : S → R S Fl) : thenS (.ok .next s) k = k s := rfl
@[simp] theorem thenS_ret (d : D) (s : S) (k : S → R S Fl) : thenS (.ok (.ret d) s) k = .ok (.ret d) s := rfl
@[simp] theorem thenS_exc (e : X) (s : S) (k : S → R S Fl) : thenS (.exc e s) k = .exc e s := rfl
@[simp] theorem thenS_fail (k : S → R S Fl) : thenS .fail k = .fail := rfl
@[simp] theorem exs_ifs (c : T) (a b ts : List St) : exs Γ (.ifs c a b :: ts) s = (ev Γ c s).bind fun x s => (opt s (truthy x)).bind fun c s => if c then thenS (exs Γ a s) (exs Γ ts) else thenS (exs Γ b s) (exs Γ ts) := by
  rw [exs_cons]; show ((ev Γ c s).bind fun x s => (opt s (truthy x)).bind fun c s => if c then exs Γ a s else exs Γ b s).bind _ = _
  cases ev Γ c s with
  | ok d s =>
    simp only [R.bind_ok]
    cases truthy d with
    | none => rfl
    | some c => cases c <;> rfl
  | exc => rfl
  | fail => rfl
theorem exs_app (i : Nat) (e : T) (ts : List St) : exs Γ (.app i e :: ts) s = thenS ((opt s (lstAt i s)).bind fun _ s => (ev Γ e s).bind fun d s => match lstAt i s with
      | some xs => if xs.length < sizeLine then .ok .next (setV i (.lst (xs ++ [d])) s) else .fail
      | none => .fail) (exs Γ ts) := rfl
theorem exs_extL (i : Nat) (e : T) (ts : List St) : exs Γ (.extL i e :: ts) s = thenS ((opt s (lstAt i s)).bind fun _ s => (ev Γ e s).bind fun d s => match d, lstAt i s with
      | .lst ys, some xs => if xs.length + ys.length ≤ sizeLine then .ok .next (setV i (.lst (xs ++ ys)) s) else .fail
      | _, _ => .fail) (exs Γ ts) := rfl
theorem exs_setR (o ix e : T) (ts : List St) : exs Γ (.setR o ix e :: ts) s = thenS ((ev Γ e s).bind fun d s => (ev Γ o s).bind fun r s => (ev Γ ix s).bind fun k s => match r, k with
      | .ref n, .int i => (match s.st[n]? with
        | some xs => (match setL xs i d with
          | some ys => .ok .next { s with st := s.st.set n ys }
          | none => .fail)
        | none => .fail)
      | _, _ => .fail) (exs Γ ts) := rfl
theorem exs_dput (i : Nat) (k e : T) (ts : List St) : exs Γ (.dput i k e :: ts) s = thenS ((ev Γ e s).bind fun d s => (opt s (dicAt false i s)).bind fun _ s => (ev Γ k s).bind fun x s => match dicAt false i s with
      | some kvs => if keyB x = true ∧ kvs.length < sizeLine then .ok .next (setV i (.dic false (dput kvs x d)) s) else .fail
      | none => .fail) (exs Γ ts) := rfl
theorem exs_dputT (i : Nat) (ks : List T) (e : T) (ts : List St) : exs Γ (.dputT i ks e :: ts) s = thenS ((ev Γ e s).bind fun d s => (opt s (dicAt true i s)).bind fun _ s => (evs Γ ks s).bind fun xs s => match dicAt true i s with
      | some kvs => if xs.all keyB = true ∧ kvs.length < sizeLine ∧ xs.length ≤ 1000 then .ok .next (setV i (.dic true (dput kvs (.tup xs) d)) s) else .fail
      | none => .fail) (exs Γ ts) := rfl
@[simp] theorem exs_aug (i : Nat) (p : P) (e : T) (ts : List St) : exs Γ (.aug i p e :: ts) s = thenS ((getV i s).bind fun x s => (ev Γ e s).bind fun y s => (opt s (augR p x y)).bind fun z s => .ok .next (setV i z s)) (exs Γ ts) := rfl
theorem exs_for (k : IK) (as : List T) (tg : Tg) (body ts : List St) : exs Γ (.for_ k as tg body :: ts) s = thenS ((evs Γ as s).bind fun ds s => (opt s (items k ds)).bind fun xs s =>
      forGo (fun x s1 => match setT tg x s1 with
        | none => .fail
        | some s2 => exs Γ body s2) s.env xs s) (exs Γ ts) := rfl
theorem exs_while (c : T) (body ts : List St) : exs Γ (.while_ c body :: ts) s = thenS (whGo (fun s => (ev Γ c s).bind fun x s => opt s (truthy x)) (fun s => exs Γ body s) s.env fuel s) (exs Γ ts) := rfl
end
@[simp] theorem opt_some {α : Type} (s : S) (a : α) : opt s (some a) = .ok a s := rfl
@[simp] theorem opt_none {α : Type} (s : S) : opt s (none : Option α) = .fail := rfl
@[simp] theorem truthy_non : truthy .non = some false := rfl
@[simp] theorem truthy_bl (b : Bool) : truthy (.bl b) = some b := rfl
@[simp] theorem truthy_int (i : Int) : truthy (.int i) = some (i != 0) := rfl
@[simp] theorem truthy_tup (xs : List D) : truthy (.tup xs) = some (!xs.isEmpty) := rfl
@[simp] theorem truthy_lst (xs : List D) : truthy (.lst xs) = some (!xs.isEmpty) := rfl
@[simp] theorem getV_0 (d : D) (r : List (Option D)) (st : Sto) : getV 0 ⟨some d :: r, st⟩ = .ok d ⟨some d :: r, st⟩ := rfl
@[simp] theorem getV_eq (i : Nat) (e : List (Option D)) (st : Sto) : getV i ⟨e, st⟩ = match e[i]? with
  | some (some d) => .ok d ⟨e, st⟩
  | _ => .fail := rfl
@[simp] theorem setV_eq (i : Nat) (d : D) (e : List (Option D)) (st : Sto) : setV i d ⟨e, st⟩ = ⟨e.set i (some d), st⟩ := rfl
theorem callF_eq (Γ : List Fn) (k : Nat) (ds : List D) (e : List (Option D)) (st : Sto) : callF Γ k ds ⟨e, st⟩ = match Γ[k]? with
  | some f => (match f ds st with
    | .ok d st => .ok d ⟨e, st⟩
    | .exc x st => .exc x ⟨e, st⟩
    | .fail => .fail)
  | none => .fail := rfl
@[simp] theorem cn_non : Cn.non.d = .non := rfl
@[simp] theorem cn_bl (b : Bool) : (Cn.bl b).d = .bl b := rfl
@[simp] theorem cn_int (i : Int) : (Cn.int i).d = .int i := rfl
@[simp] theorem cn_str (s : Str) : (Cn.str s).d = .str s := rfl
/-- what is left of a def's run -/
def runB (b : FD) (Γ : List Fn) (ds : List D) (st : Sto) : R Sto D := match exs Γ b.body ⟨ds.map some ++ List.replicate (b.n - b.np) none, st⟩ with
    | .ok (.ret d) s => .ok d s.st
    | .ok .next s => .ok .non s.st
    | .exc e s => .exc e s.st
    | .fail => .fail
theorem runFn_eq (b : FD) (Γ : List Fn) (ds : List D) (st : Sto) (h : ds.length = b.np) : runFn b Γ ds st = if b.gc then gcR st (runB b Γ ds st) else runB b Γ ds st := by
  unfold runFn runB
  rw [if_pos h]
  cases b.gc <;> rfl
end Lb

namespace Lb
open PySem L2
section
variable (st : Sto) (a b n i j : Int) (x y : D) (xs ys : List D)
@[simp] theorem prim_add : prim st .add [.int a, .int b] = some (.int (a + b)) := rfl
@[simp] theorem prim_addT : prim st .add [.tup xs, .tup ys] = if fits (xs ++ ys) then some (.tup (xs ++ ys)) else none := rfl
@[simp] theorem prim_addL : prim st .add [.lst xs, .lst ys] = if fits (xs ++ ys) then some (.lst (xs ++ ys)) else none := rfl
@[simp] theorem prim_sub : prim st .sub [.int a, .int b] = some (.int (a - b)) := rfl
theorem prim_mul : prim st .mul [.int a, .int b] = if (-big < a ∧ a < big) ∨ (-big < b ∧ b < big) then some (.int (a * b)) else none := rfl
theorem prim_mulL : prim st .mul [.lst xs, .int n] = if 0 ≤ n ∧ n ≤ 1000 ∧ xs.length ≤ 1000 then some (.lst (List.replicate n.toNat xs).flatten) else none := rfl
theorem prim_mulT : prim st .mul [.tup xs, .int n] = if 0 ≤ n ∧ n ≤ 1000 ∧ xs.length ≤ 1000 then some (.tup (List.replicate n.toNat xs).flatten) else none := rfl
theorem prim_mod : prim st .mod [.int a, .int b] = if 0 < b then some (.int (a % b)) else none := rfl
theorem prim_fdiv : prim st .fdiv [.int a, .int b] = if 0 < b ∧ b < 1073741824 then some (.int (a / b)) else none := rfl
theorem prim_pow : prim st .pow [.int a, .int b] = if 0 ≤ b ∧ b ≤ 1000 ∧ a.natAbs < 2 ^ 64 then some (.int (a ^ b.toNat)) else none := rfl
@[simp] theorem prim_neg : prim st .neg [.int a] = some (.int (-a)) := rfl
@[simp] theorem prim_pnot : prim st .pnot [x] = (truthy x).map fun b => .bl (!b) := rfl
@[simp] theorem prim_eq : prim st .eq [x, y] = (eqR x y).map .bl := rfl
@[simp] theorem prim_ne : prim st .ne [x, y] = (eqR x y).map fun c => .bl (!c) := rfl
@[simp] theorem prim_lt : prim st .lt [.int a, .int b] = some (.bl (decide (a < b))) := rfl
@[simp] theorem prim_le : prim st .le [.int a, .int b] = some (.bl (decide (a ≤ b))) := rfl
@[simp] theorem prim_gt : prim st .gt [.int a, .int b] = some (.bl (decide (b < a))) := rfl
@[simp] theorem prim_ge : prim st .ge [.int a, .int b] = some (.bl (decide (b ≤ a))) := rfl
def isNon : D → Bool
  | .non => true
  | _ => false
@[simp] theorem prim_isN : prim st .isN [x] = some (.bl (isNon x)) := by cases x <;> rfl
@[simp] theorem prim_notN : prim st .notN [x] = some (.bl (!isNon x)) := by cases x <;> rfl
@[simp] theorem isNon_non : isNon .non = true := rfl
@[simp] theorem isNon_tup : isNon (.tup xs) = false := rfl
@[simp] theorem isNon_int : isNon (.int a) = false := rfl
@[simp] theorem isNon_bl (c : Bool) : isNon (.bl c) = false := rfl
@[simp] theorem isNon_str (z : Str) : isNon (.str z) = false := rfl
@[simp] theorem isNon_lst : isNon (.lst xs) = false := rfl
@[simp] theorem isNon_dic (t : Bool) (z : List (D × D)) : isNon (.dic t z) = false := rfl
@[simp] theorem prim_isB (c d : Bool) : prim st .isB [.bl c, .bl d] = some (.bl (c == d)) := rfl
@[simp] theorem prim_nisB (c d : Bool) : prim st .nisB [.bl c, .bl d] = some (.bl (!(c == d))) := rfl
@[simp] theorem prim_innT : prim st .inn [x, .tup ys] = (inR x ys).map .bl := rfl
@[simp] theorem prim_innL : prim st .inn [x, .lst ys] = (inR x ys).map .bl := rfl
@[simp] theorem prim_ninT : prim st .nin [x, .tup ys] = (inR x ys).map fun c => .bl (!c) := rfl
@[simp] theorem prim_ninL : prim st .nin [x, .lst ys] = (inR x ys).map fun c => .bl (!c) := rfl
@[simp] theorem prim_lenT : prim st .len [.tup xs] = some (.int xs.length) := rfl
@[simp] theorem prim_lenL : prim st .len [.lst xs] = some (.int xs.length) := rfl
@[simp] theorem prim_isI (t : Ty) : prim st (.isI t) [x] = (isTy t x).map .bl := rfl
@[simp] theorem prim_max2 : prim st .max2 [.int a, .int b] = some (.int (if b > a then b else a)) := rfl
@[simp] theorem prim_min2 : prim st .min2 [.int a, .int b] = some (.int (if b < a then b else a)) := rfl
@[simp] theorem prim_sum : prim st .sum [.lst xs] = (sumR xs).map .int := rfl
@[simp] theorem prim_sumT : prim st .sum [.tup xs] = (sumR xs).map .int := rfl
@[simp] theorem prim_all : prim st .all [.lst xs] = (allR xs).map .bl := rfl
@[simp] theorem prim_any : prim st .any [.lst xs] = (anyR xs).map .bl := rfl
@[simp] theorem prim_tupleL : prim st .tuple [.lst xs] = some (.tup xs) := rfl
@[simp] theorem prim_tupleT : prim st .tuple [.tup xs] = some (.tup xs) := rfl
@[simp] theorem prim_listL : prim st .list [.lst xs] = some (.lst xs) := rfl
@[simp] theorem prim_listT : prim st .list [.tup xs] = some (.lst xs) := rfl
@[simp] theorem prim_idxT : prim st .idx [.tup xs, .int i] = atI xs i := rfl
@[simp] theorem prim_idxL : prim st .idx [.lst xs, .int i] = atI xs i := rfl
@[simp] theorem prim_idxR (k : Nat) : prim st .idx [.ref k, .int i] = (st[k]?).bind fun xs => atI xs i := rfl
@[simp] theorem prim_cutT (lo hi : Bool) (r : List D) : prim st (.cut lo hi) (.tup xs :: r) = (cutD lo hi r).map fun q => .tup (cutL xs q.1 q.2) := rfl
@[simp] theorem prim_cutL (lo hi : Bool) (r : List D) : prim st (.cut lo hi) (.lst xs :: r) = (cutD lo hi r).map fun q => .lst (cutL xs q.1 q.2) := rfl
@[simp] theorem prim_rev : prim st .rev [.tup xs] = some (.tup xs.reverse) := rfl
theorem prim_rngL : prim st .rngL [.int n] = if 0 ≤ n ∧ n ≤ 1000 then some (.lst (rangeD 0 n.toNat)) else none := rfl
theorem prim_rngT : prim st .rngT [.int n] = if 0 ≤ n ∧ n ≤ 1000 then some (.tup (rangeD 0 n.toNat)) else none := rfl
theorem prim_ixL : prim st .ixOf [.lst xs, x] = if (D.flat 60 x && D.flats 60 xs && xs.any fun y => D.eqv y x) = true then some (.int ((xs.map fun y => D.eqv y x).idxOf true : Nat)) else none := rfl
theorem prim_cnt : prim st .cnt [.lst xs, x] = if D.flat 60 x && D.flats 60 xs then some (.int ((xs.countP fun y => D.eqv y x : Nat) : Int)) else none := rfl
@[simp] theorem cutD_lo : cutD true false [.int i] = some (some i, none) := rfl
@[simp] theorem cutD_hi : cutD false true [.int i] = some (none, some i) := rfl
@[simp] theorem cutD_lh : cutD true true [.int i, .int j] = some (some i, some j) := rfl
@[simp] theorem cutD_no : cutD false false [] = some (none, none) := rfl
@[simp] theorem eqR_int : eqR (.int a) (.int b) = some (a == b) := rfl
@[simp] theorem eqR_bl (c d : Bool) : eqR (.bl c) (.bl d) = some (c == d) := rfl
@[simp] theorem eqR_str (c d : Str) : eqR (.str c) (.str d) = some (c == d) := rfl
@[simp] theorem atI_0 {α : Type} (x : α) (xs : List α) : atI (x :: xs) 0 = some x := by simp [atI, L2.ixN]
@[simp] theorem atI_1 {α : Type} (x y : α) (xs : List α) : atI (x :: y :: xs) 1 = some y := by
  have : (1 : Int) < (xs.length : Int) + 1 + 1 := by omega
  simp [atI, L2.ixN, this]
@[simp] theorem atI_2 {α : Type} (x y z : α) (xs : List α) : atI (x :: y :: z :: xs) 2 = some z := by
  have : (2 : Int) < (xs.length : Int) + 1 + 1 + 1 := by omega
  simp [atI, L2.ixN, this]
@[simp] theorem atI_3 {α : Type} (x y z u : α) (xs : List α) : atI (x :: y :: z :: u :: xs) 3 = some u := by
  have : (3 : Int) < (xs.length : Int) + 1 + 1 + 1 + 1 := by omega
  simp [atI, L2.ixN, this]
end
/-- what kind a thing is -/
inductive Kd where
  | non | bl | int | str | tup | lst | dic | ref
  deriving DecidableEq
end Lb

set_option maxRecDepth 100000
/-! how trees stand in the heap -/
namespace Lb
open PySem PySem.Spec PyProof.Rows L2

def KTup (K : PySem.W.Frag) (a : Addr) (xs : List V) : Prop := ∃ (o : Obj) (its : Array Value) (n : Nat), K.lookup a = some o ∧ o.cls = .type "tuple" ∧ o.data = .seq its n ∧ its.size ≤ sizeLine ∧ Vals xs its.toList
/-- a tuple that is known to have no dict -/
def RdT (H : Hp) (a : Addr) (vs : List V) : Prop := Rd H a (.tup vs) ∧ ∃ o : Obj, Rd H a (.frz o (.tup vs)) ∧ o.dict = none
def TupAt (K : PySem.W.Frag) (H : Hp) (Z : Addr → Prop) (a : Addr) (vs : List V) : Prop := (Z a ∧ RdT H a vs) ∨ (KTup K a vs ∧ ∃ o, K.lookup a = some o ∧ o.dict = none)
theorem TupAt.sq {K : PySem.W.Frag} {H : Hp} {Z : Addr → Prop} {a : Addr} {vs : List V} (h : TupAt K H Z a vs) : SqT K H a vs := h.imp (fun q => q.2.1) fun q => q.1
theorem TupAt.mono {K : PySem.W.Frag} {H H' : Hp} {Z Z' : Addr → Prop} {a : Addr} {vs : List V} (hz : ∀ p, Z p → Z' p) (hr : ∀ p u, Z p → Rd H p u → Rd H' p u) (h : TupAt K H Z a vs) : TupAt K H' Z' a vs :=
  h.imp (fun ⟨q, r, o, r2, e⟩ => ⟨hz _ q, hr _ _ q r, o, hr _ _ q r2, e⟩) id
theorem RdT.new {H : Hp} {a : Addr} {vs : List V} {o : Obj} (h : H a = some (.frz o (.tup vs))) (e : o.dict = none) : RdT H a vs := ⟨.inr ⟨o, h⟩, o, .inl h, e⟩
theorem RdT.obj {H : Hp} {a : Addr} {vs : List V} (h : RdT H a vs) : ∃ o : Obj, H a = some (.frz o (.tup vs)) ∧ o.dict = none := by
  obtain ⟨h1, o, h2, e⟩ := h
  rcases h2 with h2 | ⟨o2, h2⟩
  · exact ⟨o, h2, e⟩
  · rcases h1 with h1 | ⟨o3, h1⟩ <;> (rw [h2] at h1; cases h1)
def kD : Key → D
  | .inl i => .int i
  | .inr x => .str x
/-- a dict by its keys and what stands there -/
def DicAt (Rdr : Addr → HO → Prop) (a : Addr) : Bool → List D → List V → Prop
  | false, keys, vs => ∃ ks : List (Key × V), Rdr a (.dK ks) ∧ keys = ks.map (fun p => kD p.1) ∧ vs = ks.map (·.2)
  | true, keys, vs => ∃ ks : List (List Key × V), Rdr a (.dT ks) ∧ keys = ks.map (fun p => .tup (p.1.map kD)) ∧ vs = ks.map (·.2)
abbrev Zs := Addr → Prop

section
variable (K : PySem.W.Frag)
mutual
/-- v stands for the tree; all that can be changed of it is locked (Z) -/
def Rep (H : Hp) (Z : Zs) (μ : List Addr) : D → V → Prop
  | .non, v => v = .non
  | .bl b, v => v = .bl b
  | .int i, v => v = .int i
  | .str x, v => v = .str x
  | .ref n, v => ∃ a, μ[n]? = some a ∧ v = .ref a
  | .tup ds, v => ∃ a vs, v = .ref a ∧ TupAt K H Z a vs ∧ vs.length ≤ sizeLine ∧ Reps H Z μ ds vs
  | .lst ds, v => ∃ a vs, v = .ref a ∧ (Z a ∧ Rd H a (.lst vs)) ∧ vs.length ≤ sizeLine ∧ Reps H Z μ ds vs
  | .dic t kvs, v => ∃ a vs, v = .ref a ∧ Z a ∧ DicAt (Rd H) a t (kvs.map Prod.fst) vs ∧ RepE H Z μ kvs vs
def Reps (H : Hp) (Z : Zs) (μ : List Addr) : List D → List V → Prop
  | [], vs => vs = []
  | d :: ds, vs => ∃ v r, vs = v :: r ∧ Rep H Z μ d v ∧ Reps H Z μ ds r
def RepE (H : Hp) (Z : Zs) (μ : List Addr) : List (D × D) → List V → Prop
  | [], vs => vs = []
  | (_, d) :: ds, vs => ∃ v r, vs = v :: r ∧ Rep H Z μ d v ∧ RepE H Z μ ds r
end
/-- the top may still be changed by its owner -/
def RepT (H : Hp) (Z : Zs) (μ : List Addr) : D → V → Prop
  | .lst ds, v => ∃ a vs, v = .ref a ∧ (a ∉ μ ∧ Rd H a (.lst vs)) ∧ vs.length ≤ sizeLine ∧ Reps K H Z μ ds vs
  | .dic t kvs, v => ∃ a vs, v = .ref a ∧ a ∉ μ ∧ DicAt (Rd H) a t (kvs.map Prod.fst) vs ∧ RepE K H Z μ kvs vs
  | d, v => Rep K H Z μ d v
def RepTs (H : Hp) (Z : Zs) (μ : List Addr) : List D → List V → Prop
  | [], vs => vs = []
  | d :: ds, vs => ∃ v r, vs = v :: r ∧ RepT K H Z μ d v ∧ RepTs H Z μ ds r
/-- a container of one's own at a -/
def Own (H : Hp) (Z : Zs) (μ : List Addr) (a : Addr) : D → V → Prop
  | .lst ds, v => v = .ref a ∧ ∃ vs, H a = some (.lst vs) ∧ vs.length ≤ sizeLine ∧ Reps K H Z μ ds vs
  | .dic t kvs, v => v = .ref a ∧ ∃ vs, DicAt (fun a o => H a = some o) a t (kvs.map Prod.fst) vs ∧ RepE K H Z μ kvs vs
  | _, _ => False
end

section
variable {K : PySem.W.Frag} {H H' : Hp} {Z Z' : Zs} {μ μ' : List Addr}
theorem DicAt.mono {R R' : Addr → HO → Prop} {a : Addr} {t : Bool} {keys : List D} {vs : List V} (h : DicAt R a t keys vs) (f : ∀ u, R a u → R' a u) : DicAt R' a t keys vs := by
  cases t with
  | false => obtain ⟨ks, h1, h2⟩ := h; exact ⟨ks, f _ h1, h2⟩
  | true => obtain ⟨ks, h1, h2⟩ := h; exact ⟨ks, f _ h1, h2⟩
theorem DicAt.live {R : Addr → HO → Prop} {a : Addr} {t : Bool} {keys : List D} {vs : List V} (h : DicAt R a t keys vs) : ∃ u, R a u := by
  cases t with
  | false => obtain ⟨ks, h1, h2⟩ := h; exact ⟨_, h1⟩
  | true => obtain ⟨ks, h1, h2⟩ := h; exact ⟨_, h1⟩
mutual
theorem Rep.mono (hz : ∀ p, Z p → Z' p) (hr : ∀ p u, Z p → Rd H p u → Rd H' p u) (hm : ∀ (n : Nat) a, μ[n]? = some a → μ'[n]? = some a) : ∀ (d : D) (v : V), Rep K H Z μ d v → Rep K H' Z' μ' d v
  | .non, _, h => h
  | .bl _, _, h => h
  | .int _, _, h => h
  | .str _, _, h => h
  | .ref n, v, h => by
    obtain ⟨a, e, h⟩ := (show ∃ a, μ[n]? = some a ∧ v = .ref a from h)
    exact ⟨a, hm n a e, h⟩
  | .tup ds, v, h => by
    obtain ⟨a, vs, e, h1, h2, h3⟩ := (show ∃ a vs, v = V.ref a ∧ TupAt K H Z a vs ∧ vs.length ≤ sizeLine ∧ Reps K H Z μ ds vs from h)
    exact ⟨a, vs, e, h1.mono hz hr, h2, Reps.mono hz hr hm ds vs h3⟩
  | .lst ds, v, h => by
    obtain ⟨a, vs, e, h1, h2, h3⟩ := (show ∃ a vs, v = V.ref a ∧ (Z a ∧ Rd H a (.lst vs)) ∧ vs.length ≤ sizeLine ∧ Reps K H Z μ ds vs from h)
    exact ⟨a, vs, e, ⟨hz _ h1.1, hr _ _ h1.1 h1.2⟩, h2, Reps.mono hz hr hm ds vs h3⟩
  | .dic t kvs, v, h => by
    obtain ⟨a, vs, e, h1, h2, h3⟩ := (show ∃ a vs, v = V.ref a ∧ Z a ∧ DicAt (Rd H) a t (kvs.map Prod.fst) vs ∧ RepE K H Z μ kvs vs from h)
    exact ⟨a, vs, e, hz _ h1, h2.mono fun u => hr _ u h1, RepE.mono hz hr hm kvs vs h3⟩
theorem Reps.mono (hz : ∀ p, Z p → Z' p) (hr : ∀ p u, Z p → Rd H p u → Rd H' p u) (hm : ∀ (n : Nat) a, μ[n]? = some a → μ'[n]? = some a) : ∀ (ds : List D) (vs : List V), Reps K H Z μ ds vs → Reps K H' Z' μ' ds vs
  | [], _, h => h
  | d :: ds, vs, h => by
    obtain ⟨v, r, e, h1, h2⟩ := (show ∃ v r, vs = v :: r ∧ Rep K H Z μ d v ∧ Reps K H Z μ ds r from h)
    exact ⟨v, r, e, Rep.mono hz hr hm d v h1, Reps.mono hz hr hm ds r h2⟩
theorem RepE.mono (hz : ∀ p, Z p → Z' p) (hr : ∀ p u, Z p → Rd H p u → Rd H' p u) (hm : ∀ (n : Nat) a, μ[n]? = some a → μ'[n]? = some a) : ∀ (ds : List (D × D)) (vs : List V), RepE K H Z μ ds vs → RepE K H' Z' μ' ds vs
  | [], _, h => h
  | (_, d) :: ds, vs, h => by
    obtain ⟨v, r, e, h1, h2⟩ := (show ∃ v r, vs = v :: r ∧ Rep K H Z μ d v ∧ RepE K H Z μ ds r from h)
    exact ⟨v, r, e, Rep.mono hz hr hm d v h1, RepE.mono hz hr hm ds r h2⟩
end
theorem Reps.length : ∀ {ds : List D} {vs : List V}, Reps K H Z μ ds vs → vs.length = ds.length
  | [], _, h => by cases (show _ = [] from h); rfl
  | d :: ds, vs, h => by
    obtain ⟨v, r, e, _, h2⟩ := (show ∃ v r, vs = v :: r ∧ Rep K H Z μ d v ∧ Reps K H Z μ ds r from h)
    rw [e, List.length_cons, List.length_cons, Reps.length h2]
theorem Reps.append : ∀ {ds es : List D} {vs us : List V}, Reps K H Z μ ds vs → Reps K H Z μ es us → Reps K H Z μ (ds ++ es) (vs ++ us)
  | [], _, _, _, h, h' => by cases (show _ = [] from h); exact h'
  | d :: ds, es, vs, us, h, h' => by
    obtain ⟨v, r, e, h1, h2⟩ := (show ∃ v r, vs = v :: r ∧ Rep K H Z μ d v ∧ Reps K H Z μ ds r from h)
    subst e
    exact ⟨v, r ++ us, rfl, h1, Reps.append h2 h'⟩
theorem Reps.get : ∀ {ds : List D} {vs : List V} {i : Nat} {v : V}, Reps K H Z μ ds vs → vs[i]? = some v → ∃ d, ds[i]? = some d ∧ Rep K H Z μ d v
  | [], _, i, v, h, e => by cases (show _ = [] from h); simp at e
  | d :: ds, vs, i, v, h, e => by
    obtain ⟨w, r, e1, h1, h2⟩ := (show ∃ v r, vs = v :: r ∧ Rep K H Z μ d v ∧ Reps K H Z μ ds r from h)
    subst e1
    cases i with
    | zero => simp at e; subst e; exact ⟨d, rfl, h1⟩
    | succ i => simpa using Reps.get h2 (by simpa using e)
theorem Reps.get' : ∀ {ds : List D} {vs : List V} {i : Nat} {d : D}, Reps K H Z μ ds vs → ds[i]? = some d → ∃ v, vs[i]? = some v ∧ Rep K H Z μ d v
  | [], _, i, v, h, e => by simp at e
  | d :: ds, vs, i, d', h, e => by
    obtain ⟨w, r, e1, h1, h2⟩ := (show ∃ v r, vs = v :: r ∧ Rep K H Z μ d v ∧ Reps K H Z μ ds r from h)
    subst e1
    cases i with
    | zero => simp at e; subst e; exact ⟨w, rfl, h1⟩
    | succ i => simpa using Reps.get' h2 (by simpa using e)
theorem Reps.take : ∀ {ds : List D} {vs : List V} (n : Nat), Reps K H Z μ ds vs → Reps K H Z μ (ds.take n) (vs.take n)
  | [], _, n, h => by cases (show _ = [] from h); simp; rfl
  | d :: ds, vs, n, h => by
    obtain ⟨w, r, e1, h1, h2⟩ := (show ∃ v r, vs = v :: r ∧ Rep K H Z μ d v ∧ Reps K H Z μ ds r from h)
    subst e1
    cases n with
    | zero => rfl
    | succ n => exact ⟨w, _, rfl, h1, Reps.take n h2⟩
theorem Reps.drop : ∀ {ds : List D} {vs : List V} (n : Nat), Reps K H Z μ ds vs → Reps K H Z μ (ds.drop n) (vs.drop n)
  | [], _, n, h => by cases (show _ = [] from h); simp; rfl
  | d :: ds, vs, n, h => by
    obtain ⟨w, r, e1, h1, h2⟩ := (show ∃ v r, vs = v :: r ∧ Rep K H Z μ d v ∧ Reps K H Z μ ds r from h)
    subst e1
    cases n with
    | zero => exact ⟨w, _, rfl, h1, h2⟩
    | succ n => exact Reps.drop n h2
theorem Reps.one {d : D} {v : V} (h : Rep K H Z μ d v) : Reps K H Z μ [d] [v] := ⟨v, [], rfl, h, rfl⟩
theorem Reps.reverse : ∀ {ds : List D} {vs : List V}, Reps K H Z μ ds vs → Reps K H Z μ ds.reverse vs.reverse
  | [], _, h => by cases (show _ = [] from h); rfl
  | d :: ds, vs, h => by
    obtain ⟨w, r, e1, h1, h2⟩ := (show ∃ v r, vs = v :: r ∧ Rep K H Z μ d v ∧ Reps K H Z μ ds r from h)
    subst e1
    rw [List.reverse_cons, List.reverse_cons]
    exact (Reps.reverse h2).append (Reps.one h1)
theorem Reps.set : ∀ {ds : List D} {vs : List V} (n : Nat) {d : D} {v : V}, Reps K H Z μ ds vs → Rep K H Z μ d v → Reps K H Z μ (ds.set n d) (vs.set n v)
  | [], _, n, _, _, h, _ => by cases (show _ = [] from h); simp; rfl
  | d :: ds, vs, n, _, _, h, q => by
    obtain ⟨w, r, e1, h1, h2⟩ := (show ∃ v r, vs = v :: r ∧ Rep K H Z μ d v ∧ Reps K H Z μ ds r from h)
    subst e1
    cases n with
    | zero => exact ⟨_, _, rfl, q, h2⟩
    | succ n => exact ⟨w, _, rfl, h1, Reps.set n h2 q⟩
theorem Reps.erase : ∀ {ds : List D} {vs : List V} (n : Nat), Reps K H Z μ ds vs → Reps K H Z μ (ds.eraseIdx n) (vs.eraseIdx n)
  | [], _, n, h => by cases (show _ = [] from h); simp; rfl
  | d :: ds, vs, n, h => by
    obtain ⟨w, r, e1, h1, h2⟩ := (show ∃ v r, vs = v :: r ∧ Rep K H Z μ d v ∧ Reps K H Z μ ds r from h)
    subst e1
    cases n with
    | zero => exact h2
    | succ n => exact ⟨w, _, rfl, h1, Reps.erase n h2⟩
theorem Reps.flatten {ds : List D} {vs : List V} (h : Reps K H Z μ ds vs) : ∀ n : Nat, Reps K H Z μ (List.replicate n ds).flatten (List.replicate n vs).flatten
  | 0 => rfl
  | n + 1 => by
    rw [List.replicate_succ, List.replicate_succ, List.flatten_cons, List.flatten_cons]
    exact h.append (Reps.flatten h n)
theorem Rep.top {d : D} {v : V} (hz : ∀ a ∈ μ, ¬ Z a) (h : Rep K H Z μ d v) : RepT K H Z μ d v := by
  cases d with
  | lst ds =>
    obtain ⟨a, vs, e, h1, h2⟩ := (show ∃ a vs, v = V.ref a ∧ (Z a ∧ Rd H a (.lst vs)) ∧ vs.length ≤ sizeLine ∧ Reps K H Z μ ds vs from h)
    exact ⟨a, vs, e, ⟨fun m => hz a m h1.1, h1.2⟩, h2⟩
  | dic t kvs =>
    obtain ⟨a, vs, e, h1, h2⟩ := (show ∃ a vs, v = V.ref a ∧ Z a ∧ DicAt (Rd H) a t (kvs.map Prod.fst) vs ∧ RepE K H Z μ kvs vs from h)
    exact ⟨a, vs, e, fun m => hz a m h1, h2⟩
  | _ => exact h
theorem Own.top {d : D} {v : V} {a : Addr} (hm : a ∉ μ) (h : Own K H Z μ a d v) : RepT K H Z μ d v := by
  cases d with
  | lst ds =>
    obtain ⟨e, vs, h1, h2⟩ := (show v = V.ref a ∧ ∃ vs, H a = some (.lst vs) ∧ vs.length ≤ sizeLine ∧ Reps K H Z μ ds vs from h)
    exact ⟨a, vs, e, ⟨hm, .inl h1⟩, h2⟩
  | dic t kvs =>
    obtain ⟨e, vs, h1, h2⟩ := (show v = V.ref a ∧ ∃ vs, DicAt (fun a o => H a = some o) a t (kvs.map Prod.fst) vs ∧ RepE K H Z μ kvs vs from h)
    exact ⟨a, vs, e, hm, h1.mono fun u q => .inl q, h2⟩
  | _ => exact h.elim
theorem Own.live {d : D} {v : V} {a : Addr} (h : Own K H Z μ a d v) : v = .ref a ∧ ∃ o, H a = some o := by
  cases d with
  | lst ds =>
    obtain ⟨e, vs, h1, _⟩ := (show v = V.ref a ∧ ∃ vs, H a = some (.lst vs) ∧ vs.length ≤ sizeLine ∧ Reps K H Z μ ds vs from h)
    exact ⟨e, _, h1⟩
  | dic t kvs =>
    obtain ⟨e, vs, h1, _⟩ := (show v = V.ref a ∧ ∃ vs, DicAt (fun a o => H a = some o) a t (kvs.map Prod.fst) vs ∧ RepE K H Z μ kvs vs from h)
    obtain ⟨u, q⟩ := h1.live
    exact ⟨e, _, q⟩
  | _ => exact h.elim
theorem Own.mono {d : D} {v : V} {a : Addr} (hz : ∀ p, Z p → Z' p) (hr : ∀ p u, Z p → Rd H p u → Rd H' p u) (hm : ∀ (n : Nat) a, μ[n]? = some a → μ'[n]? = some a) (ha : ∀ o, H a = some o → H' a = some o) (h : Own K H Z μ a d v) : Own K H' Z' μ' a d v := by
  cases d with
  | lst ds =>
    obtain ⟨e, vs, h1, h2, h3⟩ := (show v = V.ref a ∧ ∃ vs, H a = some (.lst vs) ∧ vs.length ≤ sizeLine ∧ Reps K H Z μ ds vs from h)
    exact ⟨e, vs, ha _ h1, h2, Reps.mono hz hr hm _ _ h3⟩
  | dic t kvs =>
    obtain ⟨e, vs, h1, h2⟩ := (show v = V.ref a ∧ ∃ vs, DicAt (fun a o => H a = some o) a t (kvs.map Prod.fst) vs ∧ RepE K H Z μ kvs vs from h)
    exact ⟨e, vs, h1.mono fun u q => ha _ q, RepE.mono hz hr hm _ _ h2⟩
  | _ => exact h.elim
/-- locked: what was one's own is shared -/
theorem Own.lock {d : D} {v : V} {a : Addr} (hz : ∀ p, Z p → Z' p) (ha : Z' a) (h : Own K H Z μ a d v) : Rep K H Z' μ d v := by
  cases d with
  | lst ds =>
    obtain ⟨e, vs, h1, h2, h3⟩ := (show v = V.ref a ∧ ∃ vs, H a = some (.lst vs) ∧ vs.length ≤ sizeLine ∧ Reps K H Z μ ds vs from h)
    exact ⟨a, vs, e, ⟨ha, .inl h1⟩, h2, Reps.mono hz (fun _ _ _ q => q) (fun _ _ q => q) _ _ h3⟩
  | dic t kvs =>
    obtain ⟨e, vs, h1, h2⟩ := (show v = V.ref a ∧ ∃ vs, DicAt (fun a o => H a = some o) a t (kvs.map Prod.fst) vs ∧ RepE K H Z μ kvs vs from h)
    exact ⟨a, vs, e, ha, h1.mono fun u q => .inl q, RepE.mono hz (fun _ _ _ q => q) (fun _ _ q => q) _ _ h2⟩
  | _ => exact h.elim
theorem RepT.mono {d : D} {v : V} (hz : ∀ p, Z p → Z' p) (hk : ∀ p u, p ∉ μ → Rd H p u → Rd H' p u) (hzm : ∀ a ∈ μ, ¬ Z a) (hm : ∃ l, μ' = μ ++ l ∧ ∀ a ∈ l, H a = none) (h : RepT K H Z μ d v) : RepT K H' Z' μ' d v := by
  have rd : ∀ {p u}, p ∉ μ → Rd H p u → Rd H' p u := fun {p u} hp r => hk p u hp r
  have hr : ∀ p u, Z p → Rd H p u → Rd H' p u := fun p u q r => rd (fun m => hzm p m q) r
  have hmm : ∀ (n : Nat) a, μ[n]? = some a → μ'[n]? = some a := fun n a e => by
    obtain ⟨l, rfl, _⟩ := hm
    rw [List.getElem?_append_left (List.getElem?_eq_some_iff.mp e).1]; exact e
  have live : ∀ {p u}, Rd H p u → ∃ o, H p = some o := fun {p u} r => by
    rcases r with r | ⟨o, r⟩
    · exact ⟨_, r⟩
    · exact ⟨_, r⟩
  have out : ∀ {p u}, Rd H p u → p ∉ μ → p ∉ μ' := fun {p u} r hp q => by
    obtain ⟨l, rfl, hl⟩ := hm
    obtain ⟨o, e⟩ := live r
    rcases List.mem_append.mp q with q | q
    · exact hp q
    · rw [hl p q] at e; cases e
  cases d with
  | lst ds =>
    obtain ⟨a, vs, e, h1, h2, h3⟩ := (show ∃ a vs, v = V.ref a ∧ (a ∉ μ ∧ Rd H a (.lst vs)) ∧ vs.length ≤ sizeLine ∧ Reps K H Z μ ds vs from h)
    exact ⟨a, vs, e, ⟨out h1.2 h1.1, rd h1.1 h1.2⟩, h2, Reps.mono hz hr hmm _ _ h3⟩
  | dic t kvs =>
    obtain ⟨a, vs, e, h1, h2, h3⟩ := (show ∃ a vs, v = V.ref a ∧ a ∉ μ ∧ DicAt (Rd H) a t (kvs.map Prod.fst) vs ∧ RepE K H Z μ kvs vs from h)
    refine ⟨a, vs, e, ?_, h2.mono fun u q => rd h1 q, RepE.mono hz hr hmm _ _ h3⟩
    obtain ⟨u, q⟩ := h2.live
    exact out q h1
  | _ => exact Rep.mono hz hr hmm _ _ h
end
end Lb

set_option maxRecDepth 100000
/-! states and steps -/
namespace Lb
open PySem PySem.Spec PyProof.Rows L2

structure Gh where
  Z : Zs
  ad : Nat → Addr
  μ : List Addr
structure StoR (K : PySem.W.Frag) (H : Hp) (Z : Zs) (μ : List Addr) (st : Sto) : Prop where
  len : μ.length = st.length
  at_ : ∀ (n : Nat) (xs : List D), st[n]? = some xs → ∃ a vs, μ[n]? = some a ∧ H a = some (.lst vs) ∧ vs.length ≤ sizeLine ∧ Reps K H Z μ xs vs
structure Rel (K : PySem.W.Frag) (own : List Nat) (s : S) (G : Gh) (σ : L2.St) (H : Hp) : Prop where
  len : s.env.length = σ.length
  slot : ∀ (i : Nat) (d : D), s.env[i]? = some (some d) → ∃ v, σ[i]? = some (some v) ∧ (i ∈ own → Own K H G.Z G.μ (G.ad i) d v) ∧ (i ∉ own → Rep K H G.Z G.μ d v)
  zl : ∀ p, G.Z p → ∃ o, H p = some o
  oz : ∀ i ∈ own, ¬ G.Z (G.ad i) ∧ G.ad i ∉ G.μ ∧ ∃ o, H (G.ad i) = some o
  inj : ∀ i ∈ own, ∀ j ∈ own, G.ad i = G.ad j → i = j
  sto : StoR K H G.Z G.μ s.st
  mz : ∀ a ∈ G.μ, ¬ G.Z a
  mnd : G.μ.Nodup
/-- a dict -/
def isDic : HO → Bool
  | .dK _ => true
  | .dT _ => true
  | _ => false
/-- from one moment to a later one of the same frame; a dict that is locked may be shut -/
structure Stp (own own' : List Nat) (mu : Bool) (G : Gh) (H : Hp) (G' : Gh) (H' : Hp) : Prop where
  keep : ∀ p o, H p = some o → p ∉ G.μ → (mu = true → ∀ i ∈ own, G.ad i ≠ p) → H' p = some o ∨ (G'.Z p ∧ isDic o = true ∧ ∃ od, H' p = some (.frz od o))
  live : ∀ p o, H p = some o → ∃ o', H' p = some o'
  zz : ∀ p, G.Z p → G'.Z p
  zn : ∀ p, G'.Z p → G.Z p ∨ H p = none ∨ ∃ i, i ∈ own ∧ i ∉ own' ∧ G.ad i = p
  ad : G'.ad = G.ad
  mup : ∃ l, G'.μ = G.μ ++ l ∧ ∀ a ∈ l, H a = none
  sub : ∀ i ∈ own', i ∈ own
section
variable {K : PySem.W.Frag} {own own' own'' : List Nat} {s s' : S} {G G' G'' : Gh} {σ : L2.St} {H H' H'' : Hp} {mu mu' : Bool}
theorem Stp.refl : Stp own own mu G H G H := ⟨fun _ _ h _ _ => .inl h, fun _ o h => ⟨o, h⟩, fun _ h => h, fun _ h => .inl h, rfl, ⟨[], by simp, fun _ h => by simp at h⟩, fun _ h => h⟩
theorem Stp.exact (t : Stp own own' mu G H G' H') {p : Addr} {o : HO} (e : H p = some o) (hm : p ∉ G.μ) (ho : mu = true → ∀ i ∈ own, G.ad i ≠ p) (nz : ¬ G'.Z p) : H' p = some o := (t.keep p o e hm ho).elim id fun q => absurd q.1 nz
theorem Stp.fresh (t : Stp own own' mu G H G' H') {p : Addr} (h : H' p = none) : H p = none := by
  cases e : H p with
  | none => rfl
  | some o =>
    obtain ⟨o', e'⟩ := t.live p o e
    rw [h] at e'; cases e'
theorem Stp.trans (a : Stp own own' mu G H G' H') (b : Stp own' own'' mu' G' H' G'' H'') : Stp own own'' (mu || mu') G H G'' H'' where
  keep := fun p o h hm ho => by
    obtain ⟨l, e, hl⟩ := a.mup
    have h2 : p ∉ G'.μ := by
      rw [e]
      intro q
      rcases List.mem_append.mp q with q | q
      · exact hm q
      · rw [hl p q] at h; cases h
    have h3 : mu' = true → ∀ i ∈ own', G'.ad i ≠ p := fun q i hi => by
      rw [a.ad]
      exact ho (by rw [q]; simp) i (a.sub i hi)
    rcases a.keep p o h hm fun q => ho (by rw [q]; rfl) with q | ⟨q1, q2, od, q3⟩
    · exact b.keep p o q h2 h3
    · rcases b.keep p _ q3 h2 h3 with w | ⟨w1, w2, _⟩
      · exact .inr ⟨b.zz p q1, q2, od, w⟩
      · cases w2
  live := fun p o h => by
    obtain ⟨o', h'⟩ := a.live p o h
    exact b.live p o' h'
  zz := fun p h => b.zz p (a.zz p h)
  zn := fun p h => by
    rcases b.zn p h with q | q | ⟨i, h1, h2, h3⟩
    · rcases a.zn p q with q | q | ⟨i, h1, h2, h3⟩
      · exact .inl q
      · exact .inr (.inl q)
      · exact .inr (.inr ⟨i, h1, fun z => h2 (b.sub i z), h3⟩)
    · exact .inr (.inl (a.fresh q))
    · exact .inr (.inr ⟨i, a.sub i h1, h2, by rw [← a.ad]; exact h3⟩)
  ad := b.ad.trans a.ad
  mup := by
    obtain ⟨l, e, hl⟩ := a.mup
    obtain ⟨l', e', hl'⟩ := b.mup
    refine ⟨l ++ l', by rw [e', e, List.append_assoc], fun x hx => ?_⟩
    rcases List.mem_append.mp hx with hx | hx
    · exact hl x hx
    · exact a.fresh (hl' x hx)
  sub := fun i hi => a.sub i (b.sub i hi)
theorem Stp.weak (a : Stp own own' mu G H G' H') (h : mu = true → mu' = true) : Stp own own' mu' G H G' H' :=
  ⟨fun p o e hm ho => a.keep p o e hm fun q => ho (h q), a.live, a.zz, a.zn, a.ad, a.mup, a.sub⟩
theorem Stp.mm (t : Stp own own' mu G H G' H') (n : Nat) (a : Addr) (e : G.μ[n]? = some a) : G'.μ[n]? = some a := by
  obtain ⟨l, h, _⟩ := t.mup
  rw [h, List.getElem?_append_left (List.getElem?_eq_some_iff.mp e).1]; exact e
theorem Stp.notmu (t : Stp own own' mu G H G' H') {p : Addr} {o : HO} (h : p ∉ G.μ) (e : H p = some o) : p ∉ G'.μ := by
  obtain ⟨l, q, hl⟩ := t.mup
  rw [q]
  intro z
  rcases List.mem_append.mp z with z | z
  · exact h z
  · rw [hl p z] at e; cases e
theorem Rel.rd (r : Rel K own s G σ H) (t : Stp own own' mu G H G' H') {p : Addr} {u : HO} (z : G.Z p) (h : Rd H p u) : Rd H' p u := by
  have hm : p ∉ G.μ := fun q => r.mz p q z
  have ho : mu = true → ∀ i ∈ own, G.ad i ≠ p := fun _ i hi e => (r.oz i hi).1 (by rw [e]; exact z)
  rcases h with h | ⟨o, h⟩
  · rcases t.keep p _ h hm ho with q | ⟨_, _, od, q⟩
    · exact .inl q
    · exact .inr ⟨od, q⟩
  · rcases t.keep p _ h hm ho with q | ⟨_, q, _⟩
    · exact .inr ⟨o, q⟩
    · cases q
theorem Rel.fz (r : Rel K own s G σ H) (t : Stp own own' mu G H G' H') {p : Addr} {o : Obj} {u : HO} (z : G.Z p) (h : H p = some (.frz o u)) : H' p = some (.frz o u) := by
  have hm : p ∉ G.μ := fun q => r.mz p q z
  have ho : mu = true → ∀ i ∈ own, G.ad i ≠ p := fun _ i hi e => (r.oz i hi).1 (by rw [e]; exact z)
  rcases t.keep p _ h hm ho with q | ⟨_, q, _⟩
  · exact q
  · cases q
/-- what is shared stays -/
theorem Rel.rep (r : Rel K own s G σ H) (t : Stp own own' mu G H G' H') {d : D} {v : V} (h : Rep K H G.Z G.μ d v) : Rep K H' G'.Z G'.μ d v :=
  Rep.mono t.zz (fun _ _ z q => r.rd t z q) t.mm d v h
theorem Rel.reps (r : Rel K own s G σ H) (t : Stp own own' mu G H G' H') {d : List D} {v : List V} (h : Reps K H G.Z G.μ d v) : Reps K H' G'.Z G'.μ d v :=
  Reps.mono t.zz (fun _ _ z q => r.rd t z q) t.mm d v h
theorem Rel.repT (r : Rel K own s G σ H) (t : Stp own own' false G H G' H') {d : D} {v : V} (h : RepT K H G.Z G.μ d v) : RepT K H' G'.Z G'.μ d v :=
  RepT.mono t.zz (fun p u hm e => by
    have ho : false = true → ∀ i ∈ own, G.ad i ≠ p := fun q => by cases q
    rcases e with h | ⟨o, h⟩
    · rcases t.keep p _ h hm ho with q | ⟨_, _, od, q⟩
      · exact .inl q
      · exact .inr ⟨od, q⟩
    · rcases t.keep p _ h hm ho with q | ⟨_, q, _⟩
      · exact .inr ⟨o, q⟩
      · cases q) r.mz t.mup h
/-- an own container that is no slot's (a new one) stays -/
theorem Rel.ownS (r : Rel K own s G σ H) (t : Stp own own' mu G H G' H') {d : D} {v : V} {a : Addr} (hm : a ∉ G.μ) (ho : mu = true → ∀ i ∈ own, G.ad i ≠ a) (nz : ¬ G'.Z a) (h : Own K H G.Z G.μ a d v) : Own K H' G'.Z G'.μ a d v :=
  Own.mono t.zz (fun _ _ z q => r.rd t z q) t.mm (fun o e => t.exact e hm ho nz) h
theorem Rel.noz (t : Stp own own' mu G H G' H') {a : Addr} (hz : ¬ G.Z a) (hl : ∃ o, H a = some o) (ho : ∀ i ∈ own, G.ad i ≠ a) : ¬ G'.Z a := fun z => by
  rcases t.zn a z with q | q | ⟨i, h1, _, h3⟩
  · exact hz q
  · obtain ⟨o, e⟩ := hl
    rw [q] at e; cases e
  · exact ho i h1 h3
/-- fewer slots of one's own: what they hold is locked -/
theorem Rel.less (r : Rel K own s G σ H) (h : ∀ i ∈ own', i ∈ own) : ∃ G', Rel K own' s G' σ H ∧ Stp own own' false G H G' H := by
  refine ⟨⟨fun p => G.Z p ∨ ∃ i, i ∈ own ∧ i ∉ own' ∧ G.ad i = p, G.ad, G.μ⟩, ?_, ?_⟩
  · have zz : ∀ p, G.Z p → (G.Z p ∨ ∃ i, i ∈ own ∧ i ∉ own' ∧ G.ad i = p) := fun p q => .inl q
    refine ⟨r.len, fun i d e => ?_, fun p q => ?_, fun i hi => ⟨?_, (r.oz i (h i hi)).2⟩, fun i hi j hj => r.inj i (h i hi) j (h j hj), ⟨r.sto.len, fun n xs e => ?_⟩, fun a ha q => ?_, r.mnd⟩
    · obtain ⟨v, e1, e2, e3⟩ := r.slot i d e
      refine ⟨v, e1, fun hi => ?_, fun hi => ?_⟩
      · exact Own.mono zz (fun _ _ _ q => q) (fun _ _ q => q) (fun _ q => q) (e2 (h i hi))
      · by_cases hio : i ∈ own
        · exact Own.lock zz (.inr ⟨i, hio, hi, rfl⟩) (e2 hio)
        · exact Rep.mono zz (fun _ _ _ q => q) (fun _ _ q => q) _ _ (e3 hio)
    · rcases q with q | ⟨i, h1, _, h3⟩
      · exact r.zl p q
      · subst h3; exact (r.oz i h1).2.2
    · rintro (q | ⟨j, h1, h2, h3⟩)
      · exact (r.oz i (h i hi)).1 q
      · exact h2 ((r.inj j h1 i (h i hi) h3) ▸ hi)
    · obtain ⟨a, vs, e1, e2, e3, e4⟩ := r.sto.at_ n xs e
      exact ⟨a, vs, e1, e2, e3, Reps.mono zz (fun _ _ _ q => q) (fun _ _ q => q) _ _ e4⟩
    · rcases q with q | ⟨i, h1, _, h3⟩
      · exact r.mz a ha q
      · subst h3; exact (r.oz i h1).2.1 ha
  · refine ⟨fun _ _ e _ _ => .inl e, fun _ o e => ⟨o, e⟩, fun _ q => .inl q, fun p q => ?_, rfl, ⟨[], by simp, fun _ q => by simp at q⟩, h⟩
    rcases q with q | q
    · exact .inl q
    · exact .inr (.inr q)
end

/-! ### what comes of an expression -/
inductive Md where
  /-- shared | looked at | new -/
  | sh | pk | fr
  deriving DecidableEq
def ResM (K : PySem.W.Frag) (G : Gh) (H H0 : Hp) (d : D) (v : V) : Md → Prop
  | .sh => Rep K H G.Z G.μ d v
  | .pk => RepT K H G.Z G.μ d v
  | .fr => ∃ a, Own K H G.Z G.μ a d v ∧ ¬ G.Z a ∧ a ∉ G.μ ∧ H0 a = none
/-- an exception's class and dict -/
def ExcV (mg : Str → Option Value) (H : Hp) (e : X) (cls : Value) (dd : Option Addr) : Prop := ∃ C, mg e.cls = some (.ref C) ∧ cls = .ref C ∧ e.fs = [] ∧ dd = none
structure Cfg where
  K : PySem.W.Frag
  mg : Str → Option Value
  W : WX
/-- what is wanted of a run that began at G, H -/
def Post {α : Type} (c : Cfg) (own : List Nat) (G : Gh) (σ : L2.St) (H : Hp) (k : α → S → Prop) : R S α → Prop
  | .ok a s => k a s
  | .exc e s => ∀ cls dd H' G', Rel c.K [] s G' σ H' → Stp own [] true G H G' H' → ExcV c.mg H' e cls dd → c.W cls dd σ H'
  | .fail => False
def tE (c : Cfg) (own own' : List Nat) (mu : Bool) (md : Md) (m : S → R S D) : TE := fun σ H Q => ∃ s G, Rel c.K own s G σ H ∧
  Post c own G σ H (fun d s' => ∀ v H' G', Rel c.K own' s' G' σ H' → Stp own own' mu G H G' H' → ResM c.K G' H' H d v md → Q v H') (m s)
def tT (c : Cfg) (own own' : List Nat) (mu : Bool) (m : S → R S Bool) : TT := fun σ H Q => ∃ s G, Rel c.K own s G σ H ∧
  Post c own G σ H (fun b s' => ∀ H' G', Rel c.K own' s' G' σ H' → Stp own own' mu G H G' H' → Q b H') (m s)
/-- arguments; pk: they are looked at alone -/
def RepsM (K : PySem.W.Frag) (G : Gh) (H : Hp) (pk : Bool) (ds : List D) (vs : List V) : Prop := if pk then RepTs K H G.Z G.μ ds vs else Reps K H G.Z G.μ ds vs
def tAs (c : Cfg) (own own' : List Nat) (mu pk : Bool) (m : S → R S (List D)) : TA := fun σ H Q => ∃ s G, Rel c.K own s G σ H ∧
  Post c own G σ H (fun ds s' => ∀ vs H' G', Rel c.K own' s' G' σ H' → Stp own own' mu G H G' H' → RepsM c.K G' H' pk ds vs → Q vs H') (m s)
section
variable {X : Cx} {c : Cfg} {own own' own'' : List Nat} {mu mu' : Bool} {α β : Type} {G G' : Gh} {σ : L2.St} {H H' : Hp}
theorem Stp.exc {G G' G'' : Gh} {H H' H'' : Hp} (a : Stp own own' mu G H G' H') (b : Stp own' [] true G' H' G'' H'') : Stp own [] true G H G'' H'' := (a.trans b).weak fun _ => rfl
theorem Post.bind {k : β → S → Prop} {r : R S α} {f : α → S → R S β} : Post c own G σ H k (r.bind f) = Post c own G σ H (fun a s => Post c own G σ H k (f a s)) r := by cases r <;> rfl
theorem Post.ok {k : α → S → Prop} {a : α} {s : S} : Post c own G σ H k (.ok a s) = k a s := rfl
theorem Post.opt {k : α → S → Prop} {o : Option α} {s : S} (h : Post c own G σ H k (Lb.opt s o)) : ∃ a, o = some a ∧ k a s := by
  cases o with
  | none => exact h.elim
  | some a => exact ⟨a, rfl, h⟩
theorem Post.mono {k k' : α → S → Prop} {r : R S α} (h : Post c own G σ H k r) (f : ∀ a s, k a s → k' a s) : Post c own G σ H k' r := by
  cases r with
  | ok a s => exact f a s h
  | exc e s => exact h
  | fail => exact h
theorem Post.move {k : α → S → Prop} {r : R S α} (h : Post c own G σ H k r) (t : Stp own own' mu G H G' H') : Post c own' G' σ H' k r := by
  cases r with
  | ok a s => exact h
  | exc e s => exact fun cls dd H2 G2 r2 t2 x => h cls dd H2 G2 r2 (t.exc t2) x
  | fail => exact h
end
/-! ### readings are imposed -/
theorem imE {X : Cx} {e : Expr} {t t' : TE} (h : PE X e t) (f : ∀ σ H Q, t' σ H Q → t σ H Q) : PE X e t' := ⟨fun pins s σ H Q I q => h.run pins s σ H Q I (f σ H Q q)⟩
theorem imT {X : Cx} {e : Expr} {t t' : TT} (h : PT X e t) (f : ∀ σ H Q, t' σ H Q → t σ H Q) : PT X e t' := ⟨fun pins s σ H Q I q => h.run pins s σ H Q I (f σ H Q q)⟩
theorem imW {X : Cx} {e : Expr} {t t' : TT} (h : PW X e t) (f : ∀ σ H Q, t' σ H Q → t σ H Q) : PW X e t' := ⟨fun wh pins s σ H Q I q => h.run wh pins s σ H Q I (f σ H Q q)⟩
theorem imA {X : Cx} {e : List Expr} {t t' : TA} (h : PA X e t) (f : ∀ σ H Q, t' σ H Q → t σ H Q) : PA X e t' := ⟨fun pos pins s σ H Q I q => h.run pos pins s σ H Q I (f σ H Q q)⟩
theorem imS {X : Cx} {e : Stmt} {t t' : TS} (h : PS X e t) (f : ∀ D σ H, t' D σ H → t D σ H) : PS X e t' := ⟨fun pins s σ H D I q => h.run pins s σ H D I (f D σ H q)⟩
theorem imSs {X : Cx} {e : List Stmt} {t t' : TS} (h : PSs X e t) (f : ∀ D σ H, t' D σ H → t D σ H) : PSs X e t' := ⟨fun pins s σ H D I q => h.run pins s σ H D I (f D σ H q)⟩
end Lb

set_option maxRecDepth 100000
/-! expressions: the frame of it -/
namespace Lb
open PySem PySem.Spec PyProof.Rows L2
section
variable {X : Cx} {c : Cfg} {own own1 own2 own' : List Nat} {mu mu1 mu2 : Bool} {σ : L2.St} {H : Hp}
theorem Rel.addZ {K : PySem.W.Frag} {s : S} {G : Gh} {a : Addr} (r : Rel K own s G σ H) (ho : ∀ i ∈ own, G.ad i ≠ a) (hm : a ∉ G.μ) (hl : ∃ o, H a = some o) : Rel K own s { G with Z := fun p => G.Z p ∨ p = a } σ H := by
  have zz : ∀ p, G.Z p → (G.Z p ∨ p = a) := fun p q => .inl q
  refine ⟨r.len, fun i d e => ?_, fun p q => ?_, fun i hi => ⟨?_, (r.oz i hi).2⟩, r.inj, ⟨r.sto.len, fun n xs e => ?_⟩, fun b hb q => ?_, r.mnd⟩
  · obtain ⟨v, e1, e2, e3⟩ := r.slot i d e
    exact ⟨v, e1, fun hi => Own.mono zz (fun _ _ _ q => q) (fun _ _ q => q) (fun _ q => q) (e2 hi), fun hi => Rep.mono zz (fun _ _ _ q => q) (fun _ _ q => q) _ _ (e3 hi)⟩
  · rcases q with q | q
    · exact r.zl p q
    · subst q; exact hl
  · rintro (q | q)
    · exact (r.oz i hi).1 q
    · exact ho i hi q
  · obtain ⟨b, vs, e1, e2, e3, e4⟩ := r.sto.at_ n xs e
    exact ⟨b, vs, e1, e2, e3, Reps.mono zz (fun _ _ _ q => q) (fun _ _ q => q) _ _ e4⟩
  · rcases q with q | q
    · exact r.mz b hb q
    · subst q; exact hm hb
theorem Stp.addZ {G G' : Gh} {H' : Hp} {a : Addr} (t : Stp own own' mu G H G' H') (ha : H a = none) : Stp own own' mu G H { G' with Z := fun p => G'.Z p ∨ p = a } H' :=
  ⟨fun p o e hm ho => (t.keep p o e hm ho).imp id fun q => ⟨.inl q.1, q.2⟩, t.live, fun p q => .inl (t.zz p q), fun p q => q.elim (t.zn p) fun e => .inr (.inl (by rw [e]; exact ha)), t.ad, t.mup, t.sub⟩
theorem Rel.newNe {K : PySem.W.Frag} {s : S} {G G' : Gh} {H' : Hp} {a : Addr} (r : Rel K own s G σ H) (t : Stp own own' mu G H G' H') (ha : H a = none) : ∀ i ∈ own', G'.ad i ≠ a := fun i hi e => by
  obtain ⟨_, _, o, q⟩ := r.oz i (t.sub i hi)
  rw [t.ad] at e
  rw [e, ha] at q; cases q
/-- a new container is locked -/
theorem seSh {e : Expr} {m : S → R S D} (h : PE X e (tE c own own' mu .fr m)) : PE X e (tE c own own' mu .sh m) := imE h fun σ H Q ⟨s, G, r, q⟩ => by
  refine ⟨s, G, r, q.mono fun d s' q => ?_⟩
  rintro v H' G' r' t ⟨a, ow, nz, nm, new⟩
  obtain ⟨ev, hl⟩ := ow.live
  exact q v H' _ (r'.addZ (r.newNe t new) nm hl) (t.addZ new) (Own.lock (fun _ z => .inl z) (.inr rfl) ow)
theorem sePkF {e : Expr} {m : S → R S D} (h : PE X e (tE c own own' mu .fr m)) : PE X e (tE c own own' mu .pk m) := imE h fun σ H Q ⟨s, G, r, q⟩ => by
  refine ⟨s, G, r, q.mono fun d s' q => ?_⟩
  rintro v H' G' r' t ⟨a, ow, nz, nm, new⟩
  exact q v H' _ r' t (ow.top nm)
theorem sePk {e : Expr} {m : S → R S D} (h : PE X e (tE c own own' mu .sh m)) : PE X e (tE c own own' mu .pk m) := imE h fun σ H Q ⟨s, G, r, q⟩ => by
  refine ⟨s, G, r, q.mono fun d s' q => ?_⟩
  intro v H' G' r' t rp
  exact q v H' _ r' t (Rep.top r'.mz rp)
theorem seMu {e : Expr} {m : S → R S D} {md : Md} (h : PE X e (tE c own own' mu1 md m)) (hm : mu1 = true → mu = true) : PE X e (tE c own own' mu md m) := imE h fun σ H Q ⟨s, G, r, q⟩ => by
  refine ⟨s, G, r, q.mono fun d s' q => ?_⟩
  intro v H' G' r' t rp
  exact q v H' _ r' (t.weak hm) rp

/-! ### names, constants -/
theorem relSh {K : PySem.W.Frag} {s : S} {G : Gh} {i : Nat} {d : D} (r : Rel K own s G σ H) (hi : i ∉ own) (e : s.env[i]? = some (some d)) : ∃ v, σ[i]? = some (some v) ∧ Rep K H G.Z G.μ d v := by
  obtain ⟨v, e1, _, e3⟩ := r.slot i d e
  exact ⟨v, e1, e3 hi⟩
theorem Post.getV {G : Gh} {k : D → S → Prop} {i : Nat} {s : S} (h : Post c own G σ H k (Lb.getV i s)) : ∃ d, s.env[i]? = some (some d) ∧ k d s := by
  unfold Lb.getV at h
  cases e : s.env[i]? with
  | none => rw [e] at h; exact h.elim
  | some o =>
    cases o with
    | none => rw [e] at h; exact h.elim
    | some d => rw [e] at h; exact ⟨d, rfl, h⟩
theorem se_var {i : Nat} {x : Str} {pos : Pos} (hN : X.N[i]? = some x) (hv : Vis X.env.scope x) (hd : (x == ("__debug__" : Str)) = false) (hcd : (x == ("__classdict__" : Str)) = false) (hi : i ∉ own) :
    PE X (.Name x pos) (tE c own own false .sh (getV i)) := imE (pe_var hN hv hd hcd) fun σ H Q ⟨s, G, r, q⟩ => by
  obtain ⟨d, e, q⟩ := q.getV
  obtain ⟨v, e1, e2⟩ := relSh r hi e
  exact ⟨v, e1, q v H G r Stp.refl e2⟩
theorem se_pk {i : Nat} {x : Str} {pos : Pos} (hN : X.N[i]? = some x) (hv : Vis X.env.scope x) (hd : (x == ("__debug__" : Str)) = false) (hcd : (x == ("__classdict__" : Str)) = false) :
    PE X (.Name x pos) (tE c own own false .pk (getV i)) := imE (pe_var hN hv hd hcd) fun σ H Q ⟨s, G, r, q⟩ => by
  obtain ⟨d, e, q⟩ := q.getV
  obtain ⟨v, e1, e2, e3⟩ := r.slot i d e
  refine ⟨v, e1, q v H G r Stp.refl ?_⟩
  by_cases hi : i ∈ own
  · exact (e2 hi).top (r.oz i hi).2.1
  · exact Rep.top r.mz (e3 hi)
def drop1 (own : List Nat) (i : Nat) : List Nat := own.filter fun j => j != i
theorem se_frz {i : Nat} {x : Str} {pos : Pos} (hN : X.N[i]? = some x) (hv : Vis X.env.scope x) (hd : (x == ("__debug__" : Str)) = false) (hcd : (x == ("__classdict__" : Str)) = false) :
    PE X (.Name x pos) (tE c own (drop1 own i) false .sh (getV i)) := imE (pe_var hN hv hd hcd) fun σ H Q ⟨s, G, r, q⟩ => by
  obtain ⟨d, e, q⟩ := q.getV
  obtain ⟨G', r', t⟩ := r.less (own' := drop1 own i) fun j hj => (List.mem_filter.mp hj).1
  have hi : i ∉ drop1 own i := fun h => by
    have := (List.mem_filter.mp h).2
    simp at this
  obtain ⟨v, e1, e2⟩ := relSh r' hi e
  exact ⟨v, e1, q v H G' r' t e2⟩
theorem se_cn {k : Cn} {e : Expr} {v : V} (h : PE X e (tC v)) (hv : ∀ H Z μ, Rep c.K H Z μ k.d v) : PE X e (tE c own own false .sh fun s => .ok k.d s) := imE h fun σ H Q ⟨s, G, r, q⟩ => q v H G r Stp.refl (hv H G.Z G.μ)
theorem se_int {i : Int} {j pos} : PE X (.Constant (.int i) j pos) (tE c own own false .sh fun s => .ok (Cn.int i).d s) := se_cn (k := .int i) pe_int fun _ _ _ => rfl
theorem se_bl {b : Bool} {j pos} : PE X (.Constant (.bool b) j pos) (tE c own own false .sh fun s => .ok (Cn.bl b).d s) := se_cn (k := .bl b) pe_bl fun _ _ _ => rfl
theorem se_non {j pos} : PE X (.Constant .none j pos) (tE c own own false .sh fun s => .ok Cn.non.d s) := se_cn (k := .non) pe_non fun _ _ _ => rfl
theorem se_str {x : Str} {j pos} : PE X (.Constant (.str x) j pos) (tE c own own false .sh fun s => .ok (Cn.str x).d s) := se_cn (k := .str x) pe_str fun _ _ _ => rfl

/-! ### arguments -/
theorem sa_nil {pk : Bool} : PA X [] (tAs c own own false pk fun s => .ok [] s) := imA pa_nil fun σ H Q ⟨s, G, r, q⟩ => q [] H G r Stp.refl (by unfold RepsM; cases pk <;> exact rfl)
theorem sa_sh {e : Expr} {es : List Expr} {m1 : S → R S D} {m2 : S → R S (List D)} (h1 : PE X e (tE c own own1 mu1 .sh m1)) (h2 : PA X es (tAs c own1 own2 mu2 false m2)) (hs : starEach (e :: es) X.env = (false, eval e X.env) :: starEach es X.env) :
    PA X (e :: es) (tAs c own own2 (mu1 || mu2) false fun s => (m1 s).bind fun d s => (m2 s).bind fun ds s => .ok (d :: ds) s) := imA (pa_cons h1 h2 hs) fun σ H Q ⟨s, G, r, q⟩ => by
  simp only [Post.bind, Post.ok] at q
  refine ⟨s, G, r, q.mono fun d s1 q v H1 G1 r1 t1 rp1 => ⟨s1, G1, r1, (q.move t1).mono fun ds s2 q vs H2 G2 r2 t2 rp2 => ?_⟩⟩
  exact q (v :: vs) H2 G2 r2 (t1.trans t2) ⟨v, vs, rfl, r1.rep t2 rp1, rp2⟩
theorem sa_pk {e : Expr} {es : List Expr} {m1 : S → R S D} {m2 : S → R S (List D)} (h1 : PE X e (tE c own own1 false .pk m1)) (h2 : PA X es (tAs c own1 own2 false true m2)) (hs : starEach (e :: es) X.env = (false, eval e X.env) :: starEach es X.env) :
    PA X (e :: es) (tAs c own own2 false true fun s => (m1 s).bind fun d s => (m2 s).bind fun ds s => .ok (d :: ds) s) := imA (pa_cons h1 h2 hs) fun σ H Q ⟨s, G, r, q⟩ => by
  simp only [Post.bind, Post.ok] at q
  refine ⟨s, G, r, q.mono fun d s1 q v H1 G1 r1 t1 rp1 => ⟨s1, G1, r1, (q.move t1).mono fun ds s2 q vs H2 G2 r2 t2 rp2 => ?_⟩⟩
  exact q (v :: vs) H2 G2 r2 (t1.trans t2) ⟨v, vs, rfl, r1.repT t2 rp1, rp2⟩

/-! ### what a primitive hands on -/
/-- the heap grows; what is new may be locked -/
structure Grow (H H' : Hp) (Z Z' : Zs) (μ : List Addr) : Prop where
  keep : ∀ p o, H p = some o → H' p = some o
  zz : ∀ p, Z p → Z' p
  zn : ∀ p, Z' p → Z p ∨ (H p = none ∧ ∃ o, H' p = some o)
theorem Grow.refl {H : Hp} {Z : Zs} {μ : List Addr} : Grow H H Z Z μ := ⟨fun _ _ h => h, fun _ h => h, fun _ h => .inl h⟩
/-- a new object is laid and locked -/
theorem Grow.laid {H : Hp} {Z : Zs} {μ : List Addr} {p : Addr} {o : HO} (hp : H p = none) : Grow H (upd H p o) Z (fun q => Z q ∨ q = p) μ :=
  ⟨fun q u h => by rw [upd_ne (ne_of_none h hp)]; exact h, fun _ h => .inl h, fun q h => h.imp id fun e => ⟨by rw [e]; exact hp, o, by rw [e]; exact upd_same⟩⟩
def Out (K : PySem.W.Frag) (H : Hp) (Z : Zs) (μ : List Addr) (d : D) (Q : VK) : Prop := ∀ v H' Z', Grow H H' Z Z' μ → Rep K H' Z' μ d v → Q v H'
/-- a new list -/
def OutF (K : PySem.W.Frag) (H : Hp) (Z : Zs) (μ : List Addr) (d : D) (Q : VK) : Prop := ∀ a vs ds, d = .lst ds → H a = none → vs.length ≤ sizeLine → Reps K H Z μ ds vs → Q (.ref a) (upd H a (.lst vs))
theorem Rel.grow {K : PySem.W.Frag} {s : S} {G : Gh} {H' : Hp} {Z' : Zs} (r : Rel K own s G σ H) (g : Grow H H' G.Z Z' G.μ) : Rel K own s { G with Z := Z' } σ H' ∧ Stp own own mu G H { G with Z := Z' } H' := by
  have hr : ∀ p u, G.Z p → Rd H p u → Rd H' p u := fun p u _ q => q.elim (fun q => .inl (g.keep _ _ q)) fun ⟨o, q⟩ => .inr ⟨o, g.keep _ _ q⟩
  have mm : ∀ (n : Nat) a, G.μ[n]? = some a → G.μ[n]? = some a := fun _ _ q => q
  have mlive : ∀ a ∈ G.μ, ∃ o, H a = some o := fun a ha => by
    obtain ⟨n, hn, e⟩ := List.mem_iff_getElem.mp ha
    have hn' : n < s.st.length := by rw [← r.sto.len]; exact hn
    obtain ⟨b, vs, e1, e2, _⟩ := r.sto.at_ n _ (List.getElem?_eq_getElem hn')
    rw [List.getElem?_eq_getElem hn, e] at e1
    cases e1
    exact ⟨_, e2⟩
  refine ⟨⟨r.len, fun i d e => ?_, fun p q => ?_, fun i hi => ⟨fun q => ?_, (r.oz i hi).2.1, ?_⟩, r.inj, ⟨r.sto.len, fun n xs e => ?_⟩, fun b hb q => ?_, r.mnd⟩, ⟨fun p o e _ _ => .inl (g.keep p o e), fun p o e => ⟨o, g.keep p o e⟩, g.zz, fun p q => ?_, rfl, ⟨[], by simp, fun _ q => by simp at q⟩, fun _ q => q⟩⟩
  · obtain ⟨v, e1, e2, e3⟩ := r.slot i d e
    exact ⟨v, e1, fun hi => Own.mono g.zz hr mm (fun o q => g.keep _ o q) (e2 hi), fun hi => Rep.mono g.zz hr mm _ _ (e3 hi)⟩
  · rcases g.zn p q with q | ⟨_, q⟩
    · obtain ⟨o, e⟩ := r.zl p q
      exact ⟨o, g.keep p o e⟩
    · exact q
  · rcases g.zn _ q with q | ⟨q, _⟩
    · exact (r.oz i hi).1 q
    · obtain ⟨_, _, o, e⟩ := r.oz i hi
      rw [q] at e; cases e
  · obtain ⟨_, _, o, e⟩ := r.oz i hi
    exact ⟨o, g.keep _ o e⟩
  · obtain ⟨b, vs, e1, e2, e3, e4⟩ := r.sto.at_ n xs e
    exact ⟨b, vs, e1, g.keep _ _ e2, e3, Reps.mono g.zz hr mm _ _ e4⟩
  · rcases g.zn _ q with q | ⟨q, _⟩
    · exact r.mz b hb q
    · obtain ⟨o, e⟩ := mlive b hb
      rw [q] at e; cases e
  · rcases g.zn p q with q | ⟨q, _⟩
    · exact .inl q
    · exact .inr (.inl q)
theorem Rel.mlive {K : PySem.W.Frag} {s : S} {G : Gh} (r : Rel K own s G σ H) : ∀ a ∈ G.μ, ∃ o, H a = some o := fun a ha => by
  obtain ⟨n, hn, e⟩ := List.mem_iff_getElem.mp ha
  have hn' : n < s.st.length := by rw [← r.sto.len]; exact hn
  obtain ⟨b, vs, e1, e2, _⟩ := r.sto.at_ n _ (List.getElem?_eq_getElem hn')
  rw [List.getElem?_eq_getElem hn, e] at e1
  cases e1
  exact ⟨_, e2⟩
/-- a new container, not locked -/
theorem Rel.laidF {K : PySem.W.Frag} {s : S} {G : Gh} {p : Addr} {o : HO} (r : Rel K own s G σ H) (hp : H p = none) : Rel K own s G σ (upd H p o) ∧ Stp own own mu G H G (upd H p o) ∧ ¬ G.Z p ∧ p ∉ G.μ := by
  obtain ⟨r', t'⟩ := r.grow (mu := mu) (Z' := G.Z) (H' := upd H p o) ⟨(Grow.laid (o := o) (Z := G.Z) (μ := G.μ) hp).keep, fun _ h => h, fun _ h => .inl h⟩
  refine ⟨r', t', fun z => ?_, fun m => ?_⟩
  · obtain ⟨o, e⟩ := r.zl p z
    rw [hp] at e; cases e
  · obtain ⟨o, e⟩ := r.mlive p m
    rw [hp] at e; cases e
end
end Lb

set_option maxRecDepth 100000
set_option maxHeartbeats 1000000
/-! primitives: each is what the machine does -/
namespace Lb
open PySem PySem.Spec PyProof.Rows L2
section
variable {K : PySem.W.Frag} {H : Hp} {Z : Zs} {μ : List Addr} {d : D} {Q : VK}
theorem Out.same {v : V} (q : Out K H Z μ d Q) (h : Rep K H Z μ d v) : Q v H := q v H Z Grow.refl h
/-- a new tuple -/
theorem Out.tup {ds : List D} {vs : List V} {ob : Obj} (q : Out K H Z μ (.tup ds) Q) (hd : ob.dict = none) (hz : vs.length ≤ sizeLine) (h : Reps K H Z μ ds vs) (p : Addr) (hp : H p = none) : Q (.ref p) (upd H p (.frz ob (.tup vs))) := by
  refine q _ _ _ (Grow.laid (o := .frz ob (.tup vs)) hp) ⟨p, vs, rfl, .inl ⟨.inr rfl, .new upd_same hd⟩, hz, ?_⟩
  exact Reps.mono (fun _ z => .inl z) (fun a u _ r => r.elim (fun r => .inl (by rw [upd_ne (ne_of_none r hp)]; exact r)) fun ⟨o, r⟩ => .inr ⟨o, by rw [upd_ne (ne_of_none r hp)]; exact r⟩) (fun _ _ e => e) _ _ h
/-! ### rules that lay a tuple, known to its object -/
section
variable {X : Cx}
def tupO (us : List Value) : Obj := { cls := .type "tuple", data := .seq us.toArray }
theorem laidT {pins : List (Addr × Obj)} {σ : L2.St} {H : Hp} {s : Shared} {xs : List V} {us : List Value} {t' : Tok} (I : Inv X pins σ H s) (hz : xs.length ≤ sizeLine) (r : Vals xs us) :
    Inv X pins σ (upd H s.heap.objs.size (.frz (tupO us) (.tup xs))) { s with heap := s.heap.push (tupO us), toks := t' } :=
  I.laid (t' := t') (o := .frz (tupO us) (.tup xs)) (fun b ob q => Heap.get?_push_of_some _ q) (Nat.le_refl _) ⟨Heap.get?_push_size _ rfl, hz, us, r, ⟨_, Heap.get?_push_size _ rfl, rfl, _, rfl⟩⟩
def tTupZ (t : TA) : TE := fun σ H Q => t σ H fun xs H1 => xs.length ≤ sizeLine ∧ ∀ (p : Addr) (ob : Obj), ob.dict = none → H1 p = none → Q (.ref p) (upd H1 p (.frz ob (.tup xs)))
theorem pe_tupZ {x1 : Nat} {es : List Expr} {t : TA} {pos : Pos} (h : PA X es t) : PE X (.Tuple es x1 pos) (tTupZ t) := by
  refine ⟨fun pins s σ H Q I hq => wpAny_Tuple_spliced (thn (h.run pos pins s σ H _ I hq) fun us s1 ⟨xs, H1, I1, r, z, q⟩ => ⟨by rw [← r.length]; exact z, ?_⟩)⟩
  exact ⟨.ref _, _, laidT (t' := s1.toks) I1 z r, rfl, q _ (tupO us) rfl (I1.hok.fresh (Nat.le_refl _))⟩
def rTupLZ (K : PySem.W.Frag) : List V → Hp → VK → Prop := fun xs H Q => ∃ p ys, xs = [.ref p] ∧ SqL K H p ys ∧ ∀ (l : Addr) (ob : Obj), ob.dict = none → H l = none → Q (.ref l) (upd H l (.frz ob (.tup ys)))
theorem call_tupleLZ : CallR X (.type "tuple") (rTupLZ X.K) := fun pins s σ H xs us Q I r ⟨p, ys, e, hq, q⟩ => by
  subst e
  obtain ⟨u, rfl, rx⟩ := vals1 r
  cases rx
  obtain ⟨its, r', pl, hz⟩ := I.list hq
  have hlen := r'.length
  refine call_tuple_list pl.isList (fun h' kp => ?_) (by rw [List.size_toArray]; omega)
  have I1 : Inv X pins σ H { s with heap := h' } := I.kept (t' := s.toks) kp
  exact ⟨.ref h'.objs.size, _, laidT (t' := s.toks) I1 hz r', rfl, q _ _ rfl (I1.hok.fresh (Nat.le_refl _))⟩
def rCatZ (K : PySem.W.Frag) : R2 := fun x y H Q => ∃ a b xs ys, x = .ref a ∧ y = .ref b ∧ SqT K H a xs ∧ SqT K H b ys ∧ xs.length + ys.length ≤ sizeLine ∧
  (xs = [] → Q (.ref b) H) ∧ (xs ≠ [] → ys = [] → Q (.ref a) H) ∧ (xs ≠ [] → ys ≠ [] → ∀ (p : Addr) (ob : Obj), ob.dict = none → H p = none → Q (.ref p) (upd H p (.frz ob (.tup (xs ++ ys)))))
theorem op_catZ : OpR X (binaryOp .Add) (rCatZ X.K) := fun pins s σ H x y v u Q I rx ry ⟨a, b, xs, ys, ex, ey, ha, hb, hz, q0, q1, q2⟩ => by
  subst ex ey
  cases rx
  cases ry
  obtain ⟨its, r1, p1, _⟩ := I.tuple ha
  obtain ⟨its2, r2, p2, _⟩ := I.tuple hb
  by_cases hx : xs = []
  · subst hx
    cases r1
    exact cat_tup0 p1 p2 ⟨.ref b, H, I, rfl, q0 rfl⟩
  · refine HT.cat_tup p1 p2 (fun z => hx (r1.nil_iff.mp z)) (fun z => ⟨.ref a, H, I, rfl, q1 hx (r2.nil_iff.mp z)⟩) (fun z => ?_) (by rw [← r1.length, ← r2.length]; exact hz)
    exact ⟨.ref _, _, laidT (t' := s.toks) I (by rw [List.length_append]; exact hz) (r1.append r2), rfl, q2 hx (fun w => z (r2.nil_iff.mpr w)) _ _ rfl (I.hok.fresh (Nat.le_refl _))⟩
def rSlZ (K : PySem.W.Frag) : V → Option Int → Option Int → Hp → VK → Prop := fun x lo hi H Q => ∃ a xs, x = .ref a ∧ SqT K H a xs ∧
  (HT.sIx xs.length 0 lo = 0 ∧ HT.sIx xs.length xs.length hi = xs.length → Q (.ref a) H) ∧ (¬ (HT.sIx xs.length 0 lo = 0 ∧ HT.sIx xs.length xs.length hi = xs.length) → ∀ (p : Addr) (ob : Obj), ob.dict = none → H p = none → Q (.ref p) (upd H p (.frz ob (.tup (cutV xs lo hi)))))
theorem sl_tupZ : SlR X (rSlZ X.K) := fun pins s σ H x v vl vu lo hi sl Q I rx hs pl pu ⟨a, xs, ex, hx, q1, q2⟩ => by
  subst ex
  by_cases hw : HT.sIx xs.length 0 lo = 0 ∧ HT.sIx xs.length xs.length hi = xs.length
  · exact sl_tupA pins s σ H _ v vl vu lo hi sl Q I rx hs pl pu ⟨a, xs, rfl, hx, q1, fun n => absurd hw n⟩
  · cases rx
    obtain ⟨its, r, ht, hz⟩ := I.tuple hx
    have hlen : its.toArray.size = xs.length := by rw [List.size_toArray, r.length]
    refine ⟨"tuple", _, PyProof.Rows.slot_tuple_getitem.lookup, ht.typeIs, HT.getItem_tuple_cut ht hs pl pu (by rw [hlen]; exact hw) ?_ (by rw [hlen]; exact hz)⟩
    rw [hlen]
    exact ⟨.ref _, _, laidT (t' := s.toks) I (Nat.le_trans (cutV_length xs lo hi) hz) ((r.drop _).take _), rfl, q2 hw _ _ rfl (I.hok.fresh (Nat.le_refl _))⟩
end
theorem Out.lst {ds : List D} {vs : List V} (q : Out K H Z μ (.lst ds) Q) (hz : vs.length ≤ sizeLine) (h : Reps K H Z μ ds vs) (p : Addr) (hp : H p = none) : Q (.ref p) (upd H p (.lst vs)) := by
  refine q _ _ _ (Grow.laid (o := .lst vs) hp) ⟨p, vs, rfl, ⟨.inr rfl, .inl upd_same⟩, hz, ?_⟩
  exact Reps.mono (fun _ z => .inl z) (fun a u _ r => r.elim (fun r => .inl (by rw [upd_ne (ne_of_none r hp)]; exact r)) fun ⟨o, r⟩ => .inr ⟨o, by rw [upd_ne (ne_of_none r hp)]; exact r⟩) (fun _ _ e => e) _ _ h
theorem SqT.of' {a : Addr} {vs : List V} (h : TupAt K H Z a vs) : SqT K H a vs := h.sq
theorem SqL.of' {a : Addr} {vs : List V} (h : Rd H a (.lst vs)) : SqL K H a vs := .inl h
theorem tupE {ds : List D} {v : V} (h : RepT K H Z μ (.tup ds) v) : ∃ a vs, v = .ref a ∧ SqT K H a vs ∧ vs.length ≤ sizeLine ∧ Reps K H Z μ ds vs := by
  obtain ⟨a, vs, e, h1, h2, h3⟩ := (show ∃ a vs, v = V.ref a ∧ TupAt K H Z a vs ∧ vs.length ≤ sizeLine ∧ Reps K H Z μ ds vs from h)
  exact ⟨a, vs, e, SqT.of' h1, h2, h3⟩
theorem lstE {ds : List D} {v : V} (h : RepT K H Z μ (.lst ds) v) : ∃ a vs, v = .ref a ∧ Rd H a (.lst vs) ∧ vs.length ≤ sizeLine ∧ Reps K H Z μ ds vs := by
  obtain ⟨a, vs, e, h1, h2, h3⟩ := (show ∃ a vs, v = V.ref a ∧ (a ∉ μ ∧ Rd H a (.lst vs)) ∧ vs.length ≤ sizeLine ∧ Reps K H Z μ ds vs from h)
  exact ⟨a, vs, e, h1.2, h2, h3⟩
theorem repTs1 {d1 : D} {xs : List V} (h : RepTs K H Z μ [d1] xs) : ∃ x, xs = [x] ∧ RepT K H Z μ d1 x := by
  obtain ⟨v, r, e, h1, h2⟩ := (show ∃ v r, xs = v :: r ∧ RepT K H Z μ d1 v ∧ RepTs K H Z μ [] r from h)
  cases (show r = [] from h2)
  exact ⟨v, e, h1⟩
theorem repTs2 {d1 d2 : D} {xs : List V} (h : RepTs K H Z μ [d1, d2] xs) : ∃ x y, xs = [x, y] ∧ RepT K H Z μ d1 x ∧ RepT K H Z μ d2 y := by
  obtain ⟨v, r, e, h1, h2⟩ := (show ∃ v r, xs = v :: r ∧ RepT K H Z μ d1 v ∧ RepTs K H Z μ [d2] r from h)
  obtain ⟨y, e2, h3⟩ := repTs1 h2
  exact ⟨v, y, by rw [e, e2], h1, h3⟩
theorem repTs_len : ∀ {ds : List D} {xs : List V}, RepTs K H Z μ ds xs → xs.length = ds.length
  | [], _, h => by cases (show _ = [] from h); rfl
  | d :: ds, xs, h => by
    obtain ⟨v, r, e, _, h2⟩ := (show ∃ v r, xs = v :: r ∧ RepT K H Z μ d v ∧ RepTs K H Z μ ds r from h)
    rw [e, List.length_cons, List.length_cons, repTs_len h2]
theorem one_of {ds : List D} {x : V} (h : RepTs K H Z μ ds [x]) : ∃ d1, ds = [d1] := by
  have := repTs_len h
  match ds, this with
  | [d1], _ => exact ⟨d1, rfl⟩
theorem two_of {ds : List D} {x y : V} (h : RepTs K H Z μ ds [x, y]) : ∃ d1 d2, ds = [d1, d2] := by
  have := repTs_len h
  match ds, this with
  | [d1, d2], _ => exact ⟨d1, d2, rfl⟩
theorem reps_int : ∀ {ns : List Int} {vs : List V}, Reps K H Z μ (ns.map D.int) vs → vs = ns.map V.int
  | [], _, h => h
  | n :: ns, vs, h => by
    obtain ⟨v, r, e, h1, h2⟩ := (show ∃ v r, vs = v :: r ∧ Rep K H Z μ (.int n) v ∧ Reps K H Z μ (ns.map D.int) r from h)
    rw [e, show v = .int n from h1, reps_int h2]; rfl
theorem reps_bl : ∀ {ns : List Bool} {vs : List V}, Reps K H Z μ (ns.map D.bl) vs → vs = ns.map V.bl
  | [], _, h => h
  | n :: ns, vs, h => by
    obtain ⟨v, r, e, h1, h2⟩ := (show ∃ v r, vs = v :: r ∧ Rep K H Z μ (.bl n) v ∧ Reps K H Z μ (ns.map D.bl) r from h)
    rw [e, show v = .bl n from h1, reps_bl h2]; rfl
end
theorem bls_eq : ∀ {xs : List D} {bs : List Bool}, bls xs = some bs → xs = bs.map D.bl
  | [], bs, h => by cases h; rfl
  | .bl b :: xs, bs, h => by
    have h' : (bls xs).map (b :: ·) = some bs := h
    cases e : bls xs with
    | none => rw [e] at h'; cases h'
    | some cs => rw [e] at h'; cases h'; rw [bls_eq e]; rfl
  | .non :: _, _, h => by cases h
  | .int _ :: _, _, h => by cases h
  | .str _ :: _, _, h => by cases h
  | .tup _ :: _, _, h => by cases h
  | .lst _ :: _, _, h => by cases h
  | .dic _ _ :: _, _, h => by cases h
  | .ref _ :: _, _, h => by cases h
theorem sumR_eq : ∀ {xs : List D} {i : Int}, sumR xs = some i → ∃ ns : List Int, xs = ns.map D.int ∧ i = ns.sum
  | [], i, h => by cases h; exact ⟨[], rfl, rfl⟩
  | .int b :: xs, i, h => by
    have h' : (sumR xs).map (b + ·) = some i := h
    cases e : sumR xs with
    | none => rw [e] at h'; cases h'
    | some j =>
      rw [e] at h'; cases h'
      obtain ⟨ns, e1, e2⟩ := sumR_eq e
      exact ⟨b :: ns, by rw [e1]; rfl, by rw [e2, List.sum_cons]⟩
  | .non :: _, _, h => by cases h
  | .bl _ :: _, _, h => by cases h
  | .str _ :: _, _, h => by cases h
  | .tup _ :: _, _, h => by cases h
  | .lst _ :: _, _, h => by cases h
  | .dic _ _ :: _, _, h => by cases h
  | .ref _ :: _, _, h => by cases h
/-- two values | some values by a primitive -/
def rP2 (K : PySem.W.Frag) (p : P) : R2 := fun x y H Q => ∃ st Z μ d1 d2 d, StoR K H Z μ st ∧ RepT K H Z μ d1 x ∧ RepT K H Z μ d2 y ∧ prim st p [d1, d2] = some d ∧ Out K H Z μ d Q
def rP (K : PySem.W.Frag) (p : P) : List V → Hp → VK → Prop := fun xs H Q => ∃ st Z μ ds d, StoR K H Z μ st ∧ RepTs K H Z μ ds xs ∧ prim st p ds = some d ∧ Out K H Z μ d Q
section
variable {X : Cx}
theorem catL : OpR X (binaryOp .Add) (fun x y H Q => ∃ l b xs zs, x = .ref l ∧ y = .ref b ∧ Rd H l (.lst xs) ∧ Rd H b (.lst zs) ∧ xs.length + zs.length ≤ sizeLine ∧ ∀ p, H p = none → Q (.ref p) (upd H p (.lst (xs ++ zs)))) := by
  intro pins s σ H x y v u Q I rx ry h
  obtain ⟨l, b, xs, zs, rfl, rfl, hH, hB, hz, q⟩ := h
  cases rx
  cases ry
  obtain ⟨z, its, n, r, e⟩ := hH.ok I.hok
  obtain ⟨z2, its2, n2, r2, e2⟩ := hB.ok I.hok
  have hl := r.length
  have hl2 := r2.length
  refine PySem.P.add_list e e2 ?_ (by rw [List.size_toArray, List.size_toArray]; omega)
  have ea : its.toArray ++ its2.toArray = (its ++ its2).toArray := by simp
  rw [ea]
  exact ⟨.ref _, _, I.lnew (t' := s.toks) (r.append r2) (by rw [List.length_append]; omega), rfl, q _ I.fresh⟩
theorem o_add : OpR X (binaryOp .Add) (rP2 X.K .add) := by
  intro pins s σ H x y v u Q I rx ry h
  obtain ⟨st, Z, μ, d1, d2, d, hs, h1, h2, hp, q⟩ := h
  cases d1 <;> cases d2 <;> first | exact nomatch (show (none : Option D) = some d from hp) | skip
  case int.int i j =>
    cases hp
    exact op_add pins s σ H x y v u Q I rx ry ⟨i, j, h1, h2, q.same rfl⟩
  case tup.tup as bs =>
    obtain ⟨a, vs, rfl, s1, z1, r1⟩ := tupE h1
    obtain ⟨b, us, rfl, s2, z2, r2⟩ := tupE h2
    have hp : (if fits (as ++ bs) then some (D.tup (as ++ bs)) else none) = some d := hp
    split at hp
    · rename_i hf
      cases hp
      have hl : vs.length + us.length ≤ sizeLine := by
        have := of_decide_eq_true hf
        rw [List.length_append] at this
        rw [r1.length, r2.length]; exact this
      refine op_catZ pins s σ H _ _ v u Q I rx ry ⟨a, b, vs, us, rfl, rfl, s1, s2, hl, fun e => ?_, fun n e => ?_, fun n m p ob hd hp => ?_⟩
      · have ea : as = [] := List.eq_nil_of_length_eq_zero (by rw [← r1.length, e]; rfl)
        rw [ea] at q
        exact q.same h2
      · have ea : bs = [] := List.eq_nil_of_length_eq_zero (by rw [← r2.length, e]; rfl)
        rw [ea, List.append_nil] at q
        exact q.same h1
      · exact q.tup hd (by rw [List.length_append]; exact hl) (r1.append r2) p hp
    · cases hp
  case lst.lst as bs =>
    obtain ⟨a, vs, rfl, s1, z1, r1⟩ := lstE h1
    obtain ⟨b, us, rfl, s2, z2, r2⟩ := lstE h2
    have hp : (if fits (as ++ bs) then some (D.lst (as ++ bs)) else none) = some d := hp
    split at hp
    · rename_i hf
      cases hp
      have hl : vs.length + us.length ≤ sizeLine := by
        have := of_decide_eq_true hf
        rw [List.length_append] at this
        rw [r1.length, r2.length]; exact this
      exact catL pins s σ H _ _ v u Q I rx ry ⟨a, b, vs, us, rfl, rfl, s1, s2, hl, fun p hp => q.lst (by rw [List.length_append]; exact hl) (r1.append r2) p hp⟩
    · cases hp
theorem o_sub : OpR X (binaryOp .Sub) (rP2 X.K .sub) := by
  intro pins s σ H x y v u Q I rx ry h
  obtain ⟨st, Z, μ, d1, d2, d, hs, h1, h2, hp, q⟩ := h
  cases d1 <;> cases d2 <;> first | exact nomatch (show (none : Option D) = some d from hp) | skip
  case int.int i j =>
    cases hp
    exact op_sub pins s σ H x y v u Q I rx ry ⟨i, j, h1, h2, q.same rfl⟩
theorem o_mod : OpR X (binaryOp .Mod) (rP2 X.K .mod) := by
  intro pins s σ H x y v u Q I rx ry h
  obtain ⟨st, Z, μ, d1, d2, d, hs, h1, h2, hp, q⟩ := h
  cases d1 <;> cases d2 <;> first | exact nomatch (show (none : Option D) = some d from hp) | skip
  case int.int i j =>
    have hp : (if 0 < j then some (D.int (i % j)) else none) = some d := hp
    split at hp
    · rename_i hj
      cases hp
      exact op_mod pins s σ H x y v u Q I rx ry ⟨i, j, h1, h2, hj, q.same rfl⟩
    · cases hp
theorem o_fdiv : OpR X (binaryOp .FloorDiv) (rP2 X.K .fdiv) := by
  intro pins s σ H x y v u Q I rx ry h
  obtain ⟨st, Z, μ, d1, d2, d, hs, h1, h2, hp, q⟩ := h
  cases d1 <;> cases d2 <;> first | exact nomatch (show (none : Option D) = some d from hp) | skip
  case int.int i j =>
    have hp : (if 0 < j ∧ j < 1073741824 then some (D.int (i / j)) else none) = some d := hp
    split at hp
    · rename_i hj
      cases hp
      exact op_fdiv pins s σ H x y v u Q I rx ry ⟨i, j, h1, h2, hj, q.same rfl⟩
    · cases hp
theorem o_pow : OpR X (binaryOp .Pow) (rP2 X.K .pow) := by
  intro pins s σ H x y v u Q I rx ry h
  obtain ⟨st, Z, μ, d1, d2, d, hs, h1, h2, hp, q⟩ := h
  cases d1 <;> cases d2 <;> first | exact nomatch (show (none : Option D) = some d from hp) | skip
  case int.int i j =>
    have hp : (if 0 ≤ j ∧ j ≤ 1000 ∧ i.natAbs < 2 ^ 64 then some (D.int (i ^ j.toNat)) else none) = some d := hp
    split at hp
    · rename_i hj
      cases hp
      exact op_pow pins s σ H x y v u Q I rx ry ⟨i, j, h1, h2, ⟨hj.1, by omega, hj.2.2⟩, q.same rfl⟩
    · cases hp
theorem o_neg : UnR X (unaryOp .USub) (fun x H Q => rP X.K .neg [x] H Q) := by
  intro pins s σ H x v Q I rx h
  obtain ⟨st, Z, μ, ds, d, hs, h1, hp, q⟩ := h
  obtain ⟨d1, rfl⟩ := one_of h1
  obtain ⟨x', e, h2⟩ := repTs1 h1
  cases e
  clear h1
  cases d1 <;> first | exact nomatch (show (none : Option D) = some d from hp) | skip
  rename_i i
  cases hp
  exact un_neg pins s σ H x v Q I rx ⟨i, h2, q.same rfl⟩
theorem o_cmpI {op : CmpOp} {p : P} {f : Int → Int → Bool} (ho : OpR X (compareOp op) (rI0 fun i j => .bl (f i j))) (hf : ∀ st d1 d2 d, prim st p [d1, d2] = some d → ∃ i j, d1 = .int i ∧ d2 = .int j ∧ d = .bl (f i j)) : OpR X (compareOp op) (rP2 X.K p) := by
  intro pins s σ H x y v u Q I rx ry h
  obtain ⟨st, Z, μ, d1, d2, d, hs, h1, h2, hp, q⟩ := h
  obtain ⟨i, j, rfl, rfl, rfl⟩ := hf _ _ _ _ hp
  exact ho pins s σ H x y v u Q I rx ry ⟨i, j, h1, h2, q.same rfl⟩
theorem o_le : OpR X (compareOp .LtE) (rP2 X.K .le) := o_cmpI op_le fun st d1 d2 d h => by
  cases d1 <;> cases d2 <;> first | exact nomatch (show (none : Option D) = some d from h) | (cases h; exact ⟨_, _, rfl, rfl, rfl⟩)
theorem o_gt : OpR X (compareOp .Gt) (rP2 X.K .gt) := o_cmpI op_gt fun st d1 d2 d h => by
  cases d1 <;> cases d2 <;> first | exact nomatch (show (none : Option D) = some d from h) | (cases h; exact ⟨_, _, rfl, rfl, rfl⟩)
theorem o_ge : OpR X (compareOp .GtE) (rP2 X.K .ge) := o_cmpI op_ge fun st d1 d2 d h => by
  cases d1 <;> cases d2 <;> first | exact nomatch (show (none : Option D) = some d from h) | (cases h; exact ⟨_, _, rfl, rfl, rfl⟩)
end
end Lb

set_option maxRecDepth 100000
set_option maxHeartbeats 1000000
namespace Lb
open PySem PySem.Spec PyProof.Rows L2
/-! ### data as the library has them -/
mutual
theorem toP_plain : ∀ (n : Nat) (d : D), d.flat n = true → (toP d).plain = true
  | _, .non, _ => rfl
  | _, .bl _, _ => rfl
  | _, .int _, _ => rfl
  | _, .str _, _ => rfl
  | 0, .tup _, h => by cases h
  | 0, .lst _, h => by cases h
  | n + 1, .tup xs, h => toPs_plain n xs h
  | n + 1, .lst xs, h => toPs_plain n xs h
  | 0, .dic _ _, h => by cases h
  | _ + 1, .dic _ _, h => by cases h
  | 0, .ref _, h => by cases h
  | _ + 1, .ref _, h => by cases h
theorem toPs_plain : ∀ (n : Nat) (ds : List D), D.flats n ds = true → PyData.plainAll (toPs ds) = true
  | _, [], _ => rfl
  | n, x :: xs, h => by
    obtain ⟨h1, h2⟩ := Bool.and_eq_true_iff.mp (show (D.flat n x && D.flats n xs) = true from h)
    show (PyData.plain (toP x) && PyData.plainAll (toPs xs)) = true
    rw [toP_plain n x h1, toPs_plain n xs h2]; rfl
end
mutual
theorem toP_depth : ∀ (n : Nat) (d : D), d.flat n = true → (toP d).depth ≤ n
  | _, .non, _ => Nat.zero_le _
  | _, .bl _, _ => Nat.zero_le _
  | _, .int _, _ => Nat.zero_le _
  | _, .str _, _ => Nat.zero_le _
  | 0, .tup _, h => by cases h
  | 0, .lst _, h => by cases h
  | n + 1, .tup xs, h => Nat.succ_le_succ (toPs_depth n xs h)
  | n + 1, .lst xs, h => Nat.succ_le_succ (toPs_depth n xs h)
  | 0, .dic _ _, h => by cases h
  | _ + 1, .dic _ _, h => by cases h
  | 0, .ref _, h => by cases h
  | _ + 1, .ref _, h => by cases h
theorem toPs_depth : ∀ (n : Nat) (ds : List D), D.flats n ds = true → PyData.depthAll (toPs ds) ≤ n
  | _, [], _ => Nat.zero_le _
  | n, x :: xs, h => by
    obtain ⟨h1, h2⟩ := Bool.and_eq_true_iff.mp (show (D.flat n x && D.flats n xs) = true from h)
    exact Nat.max_le.mpr ⟨toP_depth n x h1, toPs_depth n xs h2⟩
end
mutual
theorem toP_eqv : ∀ (n m : Nat) (d e : D), d.flat n = true → e.flat m = true → PyData.eqv (toP d) (toP e) = D.eqv d e
  | n, m, .non, e, _, h => by cases e <;> first | rfl | (cases m <;> cases h)
  | n, m, .bl b, e, _, h => by cases e <;> first | rfl | (cases m <;> cases h)
  | n, m, .int i, e, _, h => by cases e <;> first | rfl | (cases m <;> cases h)
  | n, m, .str x, e, _, h => by cases e <;> first | rfl | (cases m <;> cases h)
  | 0, _, .tup _, _, h, _ => by cases h
  | 0, _, .lst _, _, h, _ => by cases h
  | n + 1, m, .tup xs, e, h, h' => by
    cases e with
    | tup ys =>
      cases m with
      | zero => cases h'
      | succ m => exact toPs_eqv n m xs ys h h'
    | dic _ _ => cases m <;> cases h'
    | ref _ => cases m <;> cases h'
    | _ => rfl
  | n + 1, m, .lst xs, e, h, h' => by
    cases e with
    | lst ys =>
      cases m with
      | zero => cases h'
      | succ m => exact toPs_eqv n m xs ys h h'
    | dic _ _ => cases m <;> cases h'
    | ref _ => cases m <;> cases h'
    | _ => rfl
  | 0, _, .dic _ _, _, h, _ => by cases h
  | _ + 1, _, .dic _ _, _, h, _ => by cases h
  | 0, _, .ref _, _, h, _ => by cases h
  | _ + 1, _, .ref _, _, h, _ => by cases h
theorem toPs_eqv : ∀ (n m : Nat) (ds es : List D), D.flats n ds = true → D.flats m es = true → PyData.eqvAll (toPs ds) (toPs es) = D.eqvs ds es
  | _, _, [], [], _, _ => rfl
  | _, _, [], _ :: _, _, _ => rfl
  | _, _, _ :: _, [], _, _ => rfl
  | n, m, x :: xs, y :: ys, h, h' => by
    obtain ⟨h1, h2⟩ := Bool.and_eq_true_iff.mp (show (D.flat n x && D.flats n xs) = true from h)
    obtain ⟨h3, h4⟩ := Bool.and_eq_true_iff.mp (show (D.flat m y && D.flats m ys) = true from h')
    show (PyData.eqv (toP x) (toP y) && PyData.eqvAll (toPs xs) (toPs ys)) = (D.eqv x y && D.eqvs xs ys)
    rw [toP_eqv n m x y h1 h3, toPs_eqv n m xs ys h2 h4]
end
section
variable {X : Cx} {pins : List (Addr × Obj)} {σ : L2.St} {H : Hp} {s : Shared} {Z : Zs} {μ : List Addr}
mutual
theorem rep_reads (I : Inv X pins σ H s) : ∀ (n : Nat) (d : D) (v : V) (u : Value), d.flat n = true → Rep X.K H Z μ d v → RelV v u → ∃ as, Reads s.heap u (toP d) as
  | _, .non, v, u, _, h, r => by cases (show v = .non from h); cases r; exact ⟨_, Reads.none⟩
  | _, .bl b, v, u, _, h, r => by cases (show v = .bl b from h); cases r; exact ⟨_, Reads.bool b⟩
  | _, .int i, v, u, _, h, r => by cases (show v = .int i from h); obtain ⟨t, rfl⟩ := r; exact ⟨_, Reads.int i t⟩
  | _, .str x, v, u, _, h, r => by cases (show v = .str x from h); obtain ⟨t, rfl⟩ := r; exact ⟨_, Reads.str x t⟩
  | 0, .tup _, _, _, h, _, _ => by cases h
  | 0, .lst _, _, _, h, _, _ => by cases h
  | n + 1, .tup xs, v, u, hf, h, r => by
    obtain ⟨a, vs, rfl, h1, h2, h3⟩ := (show ∃ a vs, v = V.ref a ∧ TupAt X.K H Z a vs ∧ vs.length ≤ sizeLine ∧ Reps X.K H Z μ xs vs from h)
    cases r
    obtain ⟨its, rv, ⟨o, e1, e2, k, e3⟩, _⟩ := I.tuple (SqT.of' h1)
    obtain ⟨as, q⟩ := reps_reads I n xs vs its hf h3 rv
    exact ⟨as, Reads.tuple e1 e2 e3 q⟩
  | n + 1, .lst xs, v, u, hf, h, r => by
    obtain ⟨a, vs, rfl, h1, h2, h3⟩ := (show ∃ a vs, v = V.ref a ∧ (Z a ∧ Rd H a (.lst vs)) ∧ vs.length ≤ sizeLine ∧ Reps X.K H Z μ xs vs from h)
    cases r
    obtain ⟨its, rv, ⟨o, k, e1, e2, _, e3⟩, _⟩ := I.list (SqL.of' h1.2)
    obtain ⟨as, q⟩ := reps_reads I n xs vs its hf h3 rv
    exact ⟨a :: as, Reads.list e1 e2 e3 q⟩
  | 0, .dic _ _, _, _, h, _, _ => by cases h
  | _ + 1, .dic _ _, _, _, h, _, _ => by cases h
  | 0, .ref _, _, _, h, _, _ => by cases h
  | _ + 1, .ref _, _, _, h, _, _ => by cases h
theorem reps_reads (I : Inv X pins σ H s) : ∀ (n : Nat) (ds : List D) (vs : List V) (us : List Value), D.flats n ds = true → Reps X.K H Z μ ds vs → Vals vs us → ∃ as, ReadsAll s.heap us (toPs ds) as
  | _, [], vs, us, _, h, r => by
    cases (show vs = [] from h)
    cases r
    exact ⟨_, ReadsAll.nil⟩
  | n, d :: ds, vs, us, hf, h, r => by
    obtain ⟨v, vr, rfl, h1, h2⟩ := (show ∃ v r, vs = v :: r ∧ Rep X.K H Z μ d v ∧ Reps X.K H Z μ ds r from h)
    obtain ⟨f1, f2⟩ := Bool.and_eq_true_iff.mp (show (D.flat n d && D.flats n ds) = true from hf)
    cases r with
    | cons ru rr =>
      obtain ⟨as, q1⟩ := rep_reads I n d v _ f1 h1 ru
      obtain ⟨bs, q2⟩ := reps_reads I n ds vr _ f2 h2 rr
      exact ⟨_, ReadsAll.cons q1 q2⟩
end
theorem repT_reads (I : Inv X pins σ H s) {n : Nat} {d : D} {v : V} {u : Value} (hf : d.flat n = true) (h : RepT X.K H Z μ d v) (r : RelV v u) : ∃ as, Reads s.heap u (toP d) as := by
  cases d with
  | lst xs =>
    cases n with
    | zero => cases hf
    | succ n =>
      obtain ⟨a, vs, rfl, h1, h2, h3⟩ := lstE h
      cases r
      obtain ⟨its, rv, ⟨o, k, e1, e2, _, e3⟩, _⟩ := I.list (SqL.of' h1)
      obtain ⟨as, q⟩ := reps_reads I n xs vs its hf h3 rv
      exact ⟨a :: as, Reads.list e1 e2 e3 q⟩
  | dic _ _ => cases n <;> cases hf
  | _ => exact rep_reads (Z := Z) (μ := μ) I n _ v u hf h r
end
section
variable {X : Cx}
theorem eqR_some {a b : D} {c : Bool} (h : eqR a b = some c) (hn : ∀ xs ys, a = .dic false xs → b = .dic false ys → False) : (D.flat 60 a && D.flat 60 b) = true ∧ c = D.eqv a b := by
  have gen : ∀ {a b : D}, (if D.flat 60 a && D.flat 60 b then some (D.eqv a b) else none) = some c → (D.flat 60 a && D.flat 60 b) = true ∧ c = D.eqv a b := fun {a b} h => by
    split at h
    · rename_i hf; cases h; exact ⟨hf, rfl⟩
    · cases h
  cases a <;> cases b <;> first
    | (cases h; exact ⟨rfl, rfl⟩)
    | exact gen h
    | (rename_i t xs; cases t <;> exact gen h)
    | (rename_i t xs y; cases t <;> exact gen h)
    | (rename_i y t xs; cases t <;> exact gen h)
    | (rename_i t xs u ys; cases t <;> cases u <;> first | exact (hn xs ys rfl rfl).elim | exact gen h)
theorem any_toPs (x : D) (n m : Nat) (hx : x.flat n = true) : ∀ (ys : List D), D.flats m ys = true → (toPs ys).any (fun y => PyData.eqv y (toP x)) = ys.any fun y => D.eqv y x
  | [], _ => rfl
  | y :: ys, h => by
    obtain ⟨h1, h2⟩ := Bool.and_eq_true_iff.mp (show (D.flat m y && D.flats m ys) = true from h)
    show (PyData.eqv (toP y) (toP x) || (toPs ys).any _) = (D.eqv y x || ys.any _)
    rw [toP_eqv m n y x h1 hx, any_toPs x n m hx ys h2]
theorem o_in_core (hu : X.A.units + 64 < cLine) {pins : List (Addr × Obj)} {s : Shared} {σ : L2.St} {H : Hp} {x y : V} {v u : Value} (I : Inv X pins σ H s) (rx : RelV x v) (ry : RelV y u) {Z : Zs} {μ : List Addr} {d1 : D} {ys : List D} {c : Bool}
    (h1 : RepT X.K H Z μ d1 x) (h2 : RepT X.K H Z μ (.tup ys) y ∨ RepT X.K H Z μ (.lst ys) y) (e : inR d1 ys = some c) :
    ∃ as bs, (Reads s.heap u (.tuple (toPs ys)) as ∨ Reads s.heap u (.list (toPs ys)) as) ∧ Reads s.heap v (toP d1) bs ∧ PyData.plainAll (toPs ys) = true ∧ (toP d1).plain = true ∧ X.A.units + 1 + min (PyData.depthAll (toPs ys)) (toP d1).depth < cLine ∧ ((toPs ys).any fun y => PyData.eqv y (toP d1)) = c := by
  unfold inR at e
  split at e
  · rename_i hf
    cases e
    obtain ⟨f1, f2⟩ := Bool.and_eq_true_iff.mp hf
    obtain ⟨bs, r1⟩ := repT_reads I f1 h1 rx
    have l1 := toP_depth 60 d1 f1
    rcases h2 with h2 | h2
    · obtain ⟨as, r2⟩ := repT_reads I (n := 61) (d := .tup ys) f2 h2 ry
      exact ⟨as, bs, .inl r2, r1, toPs_plain 60 ys f2, toP_plain 60 d1 f1, by omega, any_toPs d1 60 60 f1 ys f2⟩
    · obtain ⟨as, r2⟩ := repT_reads I (n := 61) (d := .lst ys) f2 h2 ry
      exact ⟨as, bs, .inr r2, r1, toPs_plain 60 ys f2, toP_plain 60 d1 f1, by omega, any_toPs d1 60 60 f1 ys f2⟩
  · cases e
theorem map_bl {f : Bool → Bool} {o : Option Bool} {d : D} (h : o.map (fun c => D.bl (f c)) = some d) : ∃ c, o = some c ∧ d = .bl (f c) := by
  cases o with
  | none => cases h
  | some c => cases h; exact ⟨c, rfl, rfl⟩
end
end Lb

set_option maxRecDepth 100000
set_option maxHeartbeats 1000000
/-! order; dicts -/
namespace Lb
open PySem PySem.Spec PyProof.Rows L2 SeqAt
open PySem.W (alike alikeAll dataLt keyToks keyToksAll dataLt_int dataLt_tuple dataLt_list dataLt_all_yes dataLt_all_no)
mutual
theorem toP_lt : ∀ (n m : Nat) (a b : D), a.flat n = true → b.flat m = true → D.alk a b = true → alike (toP a) (toP b) = true ∧ dataLt (toP a) (toP b) = D.ltv a b
  | n, m, .int i, b, _, _, h => by
    cases b with
    | int j => exact ⟨by simp [toP, alike], by simp only [toP, D.ltv]; exact dataLt_int i j⟩
    | _ => cases h
  | n, m, .tup xs, b, h1, h2, h => by
    cases b with
    | tup ys =>
      cases n with
      | zero => cases h1
      | succ n =>
        cases m with
        | zero => cases h2
        | succ m =>
          obtain ⟨q1, q2⟩ := toPs_lt n m xs ys h1 h2 h
          exact ⟨by simpa [toP, alike] using q1, by simp only [toP, D.ltv]; rw [dataLt_tuple]; exact q2⟩
    | _ => cases h
  | n, m, .lst xs, b, h1, h2, h => by
    cases b with
    | lst ys =>
      cases n with
      | zero => cases h1
      | succ n =>
        cases m with
        | zero => cases h2
        | succ m =>
          obtain ⟨q1, q2⟩ := toPs_lt n m xs ys h1 h2 h
          exact ⟨by simpa [toP, alike] using q1, by simp only [toP, D.ltv]; rw [dataLt_list]; exact q2⟩
    | _ => cases h
  | _, _, .non, b, _, _, h => by cases b <;> cases h
  | _, _, .bl _, b, _, _, h => by cases b <;> cases h
  | _, _, .str _, b, _, _, h => by cases b <;> cases h
  | _, _, .dic _ _, b, _, _, h => by cases b <;> cases h
  | _, _, .ref _, b, _, _, h => by cases b <;> cases h
theorem toPs_lt : ∀ (n m : Nat) (xs ys : List D), D.flats n xs = true → D.flats m ys = true → D.alks xs ys = true → alikeAll (toPs xs) (toPs ys) = true ∧ PyProof.Rows.lexLt itemOrd (keyToksAll (toPs xs)) (keyToksAll (toPs ys)) = D.ltvs xs ys
  | _, _, [], [], _, _, _ => ⟨by simp [toPs, alikeAll], by decide +kernel⟩
  | _, _, [], y :: ys, _, _, _ => ⟨by simp [toPs, alikeAll], by
      simp only [toPs, D.ltvs]
      rw [keyToksAll, keyToksAll, lex_diff (O := itemOrd) (by simp)]
      decide +kernel⟩
  | _, _, x :: xs, [], _, _, _ => ⟨by simp [toPs, alikeAll], by
      simp only [toPs, D.ltvs]
      rw [keyToksAll, keyToksAll, lex_diff (O := itemOrd) (by simp)]
      decide +kernel⟩
  | n, m, x :: xs, y :: ys, h1, h2, h => by
    obtain ⟨a1, a2⟩ := Bool.and_eq_true_iff.mp (show (D.flat n x && D.flats n xs) = true from h1)
    obtain ⟨b1, b2⟩ := Bool.and_eq_true_iff.mp (show (D.flat m y && D.flats m ys) = true from h2)
    obtain ⟨c1, c2⟩ := Bool.and_eq_true_iff.mp (show (D.alk x y && D.alks xs ys) = true from h)
    obtain ⟨e1, e2⟩ := toP_lt n m x y a1 b1 c1
    obtain ⟨f1, f2⟩ := toPs_lt n m xs ys a2 b2 c2
    have ee := toP_eqv n m x y a1 b1
    refine ⟨by simp [toPs, alikeAll, e1, f1], ?_⟩
    show PyProof.Rows.lexLt itemOrd (keyToksAll (toP x :: toPs xs)) (keyToksAll (toP y :: toPs ys)) = if D.eqv x y = true then D.ltvs xs ys else D.ltv x y
    cases hv : D.eqv x y with
    | true => rw [dataLt_all_yes e1 (by rw [ee, hv]), f2]; rfl
    | false => rw [dataLt_all_no e1 (by rw [ee, hv]), e2]; rfl
end
/-! ### keys -/
theorem keyB_some {d : D} (h : keyB d = true) : ∃ k, d = kD k := by
  cases d <;> first | cases h | skip
  · exact ⟨.inl _, rfl⟩
  · exact ⟨.inr _, rfl⟩
theorem kD_eqv (a b : Key) : D.eqv (kD a) (kD b) = decide (a = b) := by
  cases a <;> cases b
  · rename_i i j
    show (i == j) = _
    by_cases e : i = j <;> simp [e]
  · rfl
  · rfl
  · rename_i x y
    show (x == y) = _
    by_cases e : x = y <;> simp [e]
theorem kDs_eqv : ∀ a b : List Key, D.eqv (.tup (a.map kD)) (.tup (b.map kD)) = decide (a = b)
  | [], [] => rfl
  | [], _ :: _ => rfl
  | _ :: _, [] => rfl
  | a :: as, b :: bs => by
    show (D.eqv (kD a) (kD b) && D.eqvs (as.map kD) (bs.map kD)) = _
    rw [kD_eqv, show D.eqvs (as.map kD) (bs.map kD) = _ from kDs_eqv as bs]
    by_cases e : a = b <;> simp [e]
section
variable {K : PySem.W.Frag} {H : Hp} {Z : Zs} {μ : List Addr}
theorem kD_rep {k : Key} {v : V} (h : Rep K H Z μ (kD k) v) : v = kV k := by
  cases k <;> exact h
theorem kDs_rep : ∀ {ks : List Key} {vs : List V}, Reps K H Z μ (ks.map kD) vs → vs = ks.map kV
  | [], _, h => h
  | k :: ks, vs, h => by
    obtain ⟨v, r, e, h1, h2⟩ := (show ∃ v r, vs = v :: r ∧ Rep K H Z μ (kD k) v ∧ Reps K H Z μ (ks.map kD) r from h)
    rw [e, kD_rep h1, kDs_rep h2]; rfl
theorem kD_repT {k : Key} {v : V} (h : RepT K H Z μ (kD k) v) : v = kV k := by
  cases k <;> exact h
variable {κ : Type} [DecidableEq κ] {f : κ → D}
/-- what stands at a key -/
theorem RepE.find (hf : ∀ a b, D.eqv (f a) (f b) = decide (a = b)) (k : κ) : ∀ {kvs : List (D × D)} {ks : List (κ × V)}, kvs.map Prod.fst = ks.map (fun p => f p.1) → RepE K H Z μ kvs (ks.map (·.2)) → (dget kvs (f k) = none ∧ valV ks k = none) ∨ ∃ d v, dget kvs (f k) = some d ∧ valV ks k = some v ∧ Rep K H Z μ d v
  | [], [], _, _ => .inl ⟨rfl, rfl⟩
  | [], _ :: _, e, _ => by simp at e
  | _ :: _, [], e, _ => by simp at e
  | (a, d) :: kvs, (b, w) :: ks, e, r => by
    obtain ⟨v, r', e', h1, h2⟩ := (show ∃ v r, w :: ks.map (·.2) = v :: r ∧ Rep K H Z μ d v ∧ RepE K H Z μ kvs r from r)
    cases e'
    simp only [List.map_cons, List.cons.injEq] at e
    obtain ⟨rfl, e2⟩ := e
    by_cases hb : b = k
    · right
      refine ⟨d, w, ?_, valV_pos hb, h1⟩
      unfold dget
      rw [List.find?_cons_of_pos (by rw [hf]; exact decide_eq_true hb)]; rfl
    · have q := RepE.find hf k e2 h2
      have e3 : dget ((f b, d) :: kvs) (f k) = dget kvs (f k) := by
        unfold dget
        rw [List.find?_cons_of_neg (by rw [hf]; simpa using hb)]
      rw [e3, valV_neg hb]
      exact q
theorem RepE.any (hf : ∀ a b, D.eqv (f a) (f b) = decide (a = b)) (k : κ) : ∀ {kvs : List (D × D)} {ks : List (κ × V)}, kvs.map Prod.fst = ks.map (fun p => f p.1) → (kvs.any fun p => D.eqv p.1 (f k)) = ks.any fun kv => decide (kv.1 = k)
  | [], [], _ => rfl
  | [], _ :: _, e => by simp at e
  | _ :: _, [], e => by simp at e
  | (a, d) :: kvs, (b, w) :: ks, e => by
    simp only [List.map_cons, List.cons.injEq] at e
    obtain ⟨rfl, e2⟩ := e
    rw [List.any_cons, List.any_cons, RepE.any hf k e2, hf]
theorem RepE.repl (hf : ∀ a b, D.eqv (f a) (f b) = decide (a = b)) (k : κ) {d' : D} {v' : V} (h' : Rep K H Z μ d' v') : ∀ {kvs : List (D × D)} {ks : List (κ × V)}, kvs.map Prod.fst = ks.map (fun p => f p.1) → RepE K H Z μ kvs (ks.map (·.2)) →
    (kvs.map (fun p => if D.eqv p.1 (f k) = true then (p.1, d') else p)).map Prod.fst = (ks.map (fun kv => if kv.1 = k then (kv.1, v') else kv)).map (fun p => f p.1) ∧ RepE K H Z μ (kvs.map (fun p => if D.eqv p.1 (f k) = true then (p.1, d') else p)) ((ks.map (fun kv => if kv.1 = k then (kv.1, v') else kv)).map (·.2))
  | [], [], _, _ => ⟨rfl, rfl⟩
  | [], _ :: _, e, _ => by simp at e
  | _ :: _, [], e, _ => by simp at e
  | (a, d) :: kvs, (b, w) :: ks, e, r => by
    obtain ⟨v, r', e', h1, h2⟩ := (show ∃ v r, w :: ks.map (·.2) = v :: r ∧ Rep K H Z μ d v ∧ RepE K H Z μ kvs r from r)
    cases e'
    simp only [List.map_cons, List.cons.injEq] at e
    obtain ⟨rfl, e2⟩ := e
    obtain ⟨q1, q2⟩ := RepE.repl hf k h' e2 h2
    by_cases hb : b = k
    · simp only [List.map_cons, hf, decide_eq_true hb, if_true, if_pos hb]
      exact ⟨by rw [q1], _, _, rfl, h', q2⟩
    · simp only [List.map_cons, hf, decide_eq_false hb, if_neg hb, Bool.false_eq_true, if_false]
      exact ⟨by rw [q1], _, _, rfl, h1, q2⟩
theorem RepE.snoc {d' : D} {v' : V} {x : D} (h' : Rep K H Z μ d' v') : ∀ {kvs : List (D × D)} {vs : List V}, RepE K H Z μ kvs vs → RepE K H Z μ (kvs ++ [(x, d')]) (vs ++ [v'])
  | [], vs, h => by cases (show vs = [] from h); exact ⟨_, _, rfl, h', rfl⟩
  | (a, d) :: kvs, vs, h => by
    obtain ⟨v, r, e, h1, h2⟩ := (show ∃ v r, vs = v :: r ∧ Rep K H Z μ d v ∧ RepE K H Z μ kvs r from h)
    subst e
    exact ⟨v, r ++ [v'], rfl, h1, RepE.snoc h' h2⟩
theorem RepE.put (hf : ∀ a b, D.eqv (f a) (f b) = decide (a = b)) (k : κ) {d' : D} {v' : V} (h' : Rep K H Z μ d' v') {kvs : List (D × D)} {ks : List (κ × V)} (e : kvs.map Prod.fst = ks.map (fun p => f p.1)) (r : RepE K H Z μ kvs (ks.map (·.2))) :
    (dput kvs (f k) d').map Prod.fst = (putK ks k v').map (fun p => f p.1) ∧ RepE K H Z μ (dput kvs (f k) d') ((putK ks k v').map (·.2)) := by
  unfold dput putK
  rw [RepE.any hf k e]
  by_cases hq : (ks.any fun kv => decide (kv.1 = k)) = true
  · rw [if_pos hq, if_pos hq]
    exact RepE.repl hf k h' e r
  · rw [if_neg hq, if_neg hq]
    refine ⟨by simp [e], ?_⟩
    rw [List.map_append]
    exact RepE.snoc h' r
theorem RepE.len : ∀ {kvs : List (D × D)} {vs : List V}, RepE K H Z μ kvs vs → vs.length = kvs.length
  | [], vs, h => by cases (show vs = [] from h); rfl
  | (a, d) :: kvs, vs, h => by
    obtain ⟨v, r, e, h1, h2⟩ := (show ∃ v r, vs = v :: r ∧ Rep K H Z μ d v ∧ RepE K H Z μ kvs r from h)
    rw [e, List.length_cons, List.length_cons, RepE.len h2]
end
section
variable {X : Cx} {pins : List (Addr × Obj)} {σ : L2.St} {H : Hp} {s : Shared} {Z : Zs} {μ : List Addr}
theorem dicE {t : Bool} {kvs : List (D × D)} {v : V} {K : PySem.W.Frag} (h : RepT K H Z μ (.dic t kvs) v) : ∃ a vs, v = .ref a ∧ a ∉ μ ∧ DicAt (Rd H) a t (kvs.map Prod.fst) vs ∧ RepE K H Z μ kvs vs := h
theorem dic_get {K : PySem.W.Frag} {d1 d : D} {kvs : List (D × D)} {x y : V} (h1 : RepT K H Z μ d1 x) (h2 : RepT K H Z μ (.dic false kvs) y) (hp : (if keyB d1 then some (D.bl (dget kvs d1).isSome) else none) = some d) : ∃ a, y = .ref a ∧ ∃ o, DGet H a x o ∧ d = .bl o.isSome := by
  split at hp
  · rename_i hk
    cases hp
    obtain ⟨k, rfl⟩ := keyB_some hk
    obtain ⟨a, vs, rfl, _, ⟨ks, r1, e1, rfl⟩, r2⟩ := dicE h2
    refine ⟨a, rfl, valV ks k, .inl ⟨ks, k, r1, kD_repT h1, rfl⟩, ?_⟩
    rcases RepE.find kD_eqv k e1 r2 with ⟨q1, q2⟩ | ⟨d, v, q1, q2, _⟩
    · rw [q1, q2]; rfl
    · rw [q1, q2]; rfl
  · cases hp
theorem dic_item {K : PySem.W.Frag} {d1 d : D} {kvs : List (D × D)} {x y : V} (h1 : RepT K H Z μ d1 x) (h2 : RepT K H Z μ (.dic false kvs) y) (hp : (if keyB d1 then dget kvs d1 else none) = some d) : ∃ a v, y = .ref a ∧ DGet H a x (some v) ∧ Rep K H Z μ d v := by
  split at hp
  · rename_i hk
    obtain ⟨k, rfl⟩ := keyB_some hk
    obtain ⟨a, vs, rfl, _, ⟨ks, r1, e1, rfl⟩, r2⟩ := dicE h2
    rcases RepE.find kD_eqv k e1 r2 with ⟨q1, q2⟩ | ⟨d', v, q1, q2, q3⟩
    · rw [q1] at hp; cases hp
    · rw [q1] at hp
      cases hp
      exact ⟨a, v, rfl, .inl ⟨ks, k, r1, kD_repT h1, q2.symm⟩, q3⟩
  · cases hp
theorem dic_getN {K : PySem.W.Frag} {d1 d : D} {kvs : List (D × D)} {x y : V} (h1 : RepT K H Z μ d1 x) (h2 : RepT K H Z μ (.dic false kvs) y) (hp : (if keyB d1 then some (D.bl (!(dget kvs d1).isSome)) else none) = some d) : ∃ a, y = .ref a ∧ ∃ o, DGet H a x o ∧ d = .bl (!o.isSome) := by
  split at hp
  · rename_i hk
    obtain ⟨a, e, o, g, q⟩ := dic_get (d := .bl (dget kvs d1).isSome) h1 h2 (if_pos hk)
    cases hp
    have q : (dget kvs d1).isSome = o.isSome := by injection q
    exact ⟨a, e, o, g, by rw [q]⟩
  · cases hp
theorem relV_flat {d : D} {v : V} {u : Value} {as : List Addr} (I : Inv X pins σ H s) (h : Rep X.K H Z μ d v) (r : RelV v u) (f : d.flat 60 = true) : ∃ as, Reads s.heap u (toP d) as := rep_reads (Z := Z) (μ := μ) I 60 d v u f h r
/-- pair by pair -/
theorem hits_of (hu : X.A.units + 64 < cLine) (I : Inv X pins σ H s) {ys : List (D × D)} {ls : List (Key × V)} {kb : List (Key × Value)} (e2 : ys.map Prod.fst = ls.map (fun p => kD p.1)) (r2 : RepE X.K H Z μ ys (ls.map (·.2))) (kv2 : KV ls kb) (f2 : ys.all (fun p => D.flat 60 p.2) = true) :
    ∀ {xs : List (D × D)} {ks : List (Key × V)} {ka : List (Key × Value)}, xs.map Prod.fst = ks.map (fun p => kD p.1) → RepE X.K H Z μ xs (ks.map (·.2)) → KV ks ka → xs.all (fun p => D.flat 60 p.2) = true →
      PySem.W.KeqHits X.A.in1 s kb ka (xs.all (hitD ys))
  | [], [], _, _, _, kv, _ => by cases kv; exact .nil
  | [], _ :: _, _, e, _, _, _ => by simp at e
  | _ :: _, [], _, e, _, _, _ => by simp at e
  | (a, d) :: xs, (b, w) :: ks, ka, e, r, kv, f => by
    obtain ⟨v, r', e', h1, h2⟩ := (show ∃ v r, w :: ks.map (·.2) = v :: r ∧ Rep X.K H Z μ d v ∧ RepE X.K H Z μ xs r from r)
    cases e'
    simp only [List.map_cons, List.cons.injEq] at e
    obtain ⟨rfl, e3⟩ := e
    cases kv with
    | @cons _ q _ ka' hq kv' =>
    obtain ⟨b', u⟩ := q
    obtain ⟨hb, ru⟩ := hq
    cases (show b = b' from hb)
    simp only [List.all_cons, Bool.and_eq_true] at f
    have ih := hits_of hu I e2 r2 kv2 f2 e3 h2 kv' f.2
    have hv := KV.val kv2 b
    rw [List.all_cons]
    rcases RepE.find kD_eqv b e2 r2 with ⟨q1, q2⟩ | ⟨d', v', q1, q2, q3⟩
    · have hh : hitD ys (kD b, d) = false := by unfold hitD; rw [q1]
      rw [hh]
      rw [q2] at hv
      exact .miss hv.none_of
    · have hh : hitD ys (kD b, d) = D.eqv d d' := by unfold hitD; rw [q1]
      rw [hh]
      rw [q2] at hv
      obtain ⟨u', g1, g2⟩ := hv.some_of
      have fd' : d'.flat 60 = true := by
        unfold dget at q1
        cases hfind : ys.find? (fun p => D.eqv p.1 (kD b)) with
        | none => rw [hfind] at q1; cases q1
        | some p =>
          rw [hfind] at q1
          cases q1
          exact List.all_eq_true.mp f2 p (List.mem_of_find?_eq_some hfind)
      obtain ⟨as, ra⟩ := rep_reads (Z := Z) (μ := μ) I 60 d w u f.1 h1 ru
      obtain ⟨bs, rb⟩ := rep_reads (Z := Z) (μ := μ) I 60 d' v' u' fd' q3 g2
      have l1 := toP_depth 60 d f.1
      have := SeqAt.eqAt_plain (toP d) (toP d') X.A.in1 s u u' as bs ra rb (toP_plain 60 d f.1) (toP_plain 60 d' fd') (by show X.A.units + 1 + _ < cLine; omega)
      rw [toP_eqv 60 60 d d' f.1 fd'] at this
      exact .hit g1 this ih
theorem dic_hits (hu : X.A.units + 64 < cLine) (I : Inv X pins σ H s) {x y : V} {v u : Value} (rx : RelV x v) (ry : RelV y u) {xs ys : List (D × D)} {c : Bool} (h1 : RepT X.K H Z μ (.dic false xs) x) (h2 : RepT X.K H Z μ (.dic false ys) y) (e : eqR (.dic false xs) (.dic false ys) = some c) :
    ∃ a b ka kb, v = .ref a ∧ u = .ref b ∧ (a == sysModules) = false ∧ (b == sysModules) = false ∧ s.heap.DictOf (mixKind X.prog X.w) a ka ∧ s.heap.DictOf (mixKind X.prog X.w) b kb ∧ PySem.W.KeqHits X.A.in1 s kb ka (xs.all (hitD ys)) ∧ c = (ka.length == kb.length && xs.all (hitD ys)) := by
  have e : (if (xs.all (fun p => D.flat 60 p.2) && ys.all (fun p => D.flat 60 p.2)) = true then some (dicEq xs ys) else none) = some c := e
  split at e
  · rename_i hf
    cases e
    obtain ⟨f1, f2⟩ := Bool.and_eq_true_iff.mp hf
    obtain ⟨a, vs, rfl, _, ⟨ks, q1, e1, rfl⟩, r1⟩ := dicE h1
    obtain ⟨b, us, rfl, _, ⟨ls, q2, e2, rfl⟩, r2⟩ := dicE h2
    cases rx
    cases ry
    obtain ⟨_, ha, ka, kva, da⟩ := dk_rd I.hok q1
    obtain ⟨_, hb, kb, kvb, db⟩ := dk_rd I.hok q2
    refine ⟨a, b, ka, kb, rfl, rfl, ha, hb, da, db, hits_of hu I e2 r2 kvb f2 e1 r1 kva f1, ?_⟩
    have l1 : xs.length = ka.length := by
      have := congrArg List.length e1
      simp at this
      rw [this]; exact Paired.length kva
    have l2 : ys.length = kb.length := by
      have := congrArg List.length e2
      simp at this
      rw [this]; exact Paired.length kvb
    unfold dicEq
    rw [l1, l2]
  · cases e
theorem o_eq (hu : X.A.units + 64 < cLine) : OpR X (compareOp .Eq) (rP2 X.K .eq) := by
  intro pins s σ H x y v u Q I rx ry h
  obtain ⟨st, Z, μ, d1, d2, d, hs, h1, h2, hp, q⟩ := h
  have hp : (eqR d1 d2).map D.bl = some d := hp
  cases e : eqR d1 d2 with
  | none => rw [e] at hp; cases hp
  | some c =>
    rw [e] at hp; cases hp
    by_cases hd : ∃ xs ys, d1 = .dic false xs ∧ d2 = .dic false ys
    · obtain ⟨xs, ys, rfl, rfl⟩ := hd
      obtain ⟨a, b, ka, kb, ea, eb, ha, hb, da, db, hits, rfl⟩ := dic_hits hu I rx ry h1 h2 e
      subst ea; subst eb
      exact PySem.W.keq_eq ha hb da db (by omega) (fun _ => hits) ⟨.bl _, H, I, rfl, q.same rfl⟩
    obtain ⟨hf, rfl⟩ := eqR_some e fun xs ys e1 e2 => hd ⟨xs, ys, e1, e2⟩
    obtain ⟨f1, f2⟩ := Bool.and_eq_true_iff.mp hf
    obtain ⟨as, r1⟩ := repT_reads I f1 h1 rx
    obtain ⟨bs, r2⟩ := repT_reads I f2 h2 ry
    have l1 := toP_depth 60 d1 f1
    refine SeqAt.eq_plain r1 r2 (toP_plain 60 d1 f1) (toP_plain 60 d2 f2) (by omega) ⟨.bl _, H, I, rfl, ?_⟩
    rw [toP_eqv 60 60 d1 d2 f1 f2]
    exact q.same rfl
theorem o_ne (hu : X.A.units + 64 < cLine) : OpR X (compareOp .NotEq) (rP2 X.K .ne) := by
  intro pins s σ H x y v u Q I rx ry h
  obtain ⟨st, Z, μ, d1, d2, d, hs, h1, h2, hp, q⟩ := h
  have hp : (eqR d1 d2).map (fun c => D.bl (!c)) = some d := hp
  cases e : eqR d1 d2 with
  | none => rw [e] at hp; cases hp
  | some c =>
    rw [e] at hp; cases hp
    by_cases hd : ∃ xs ys, d1 = .dic false xs ∧ d2 = .dic false ys
    · obtain ⟨xs, ys, rfl, rfl⟩ := hd
      obtain ⟨a, b, ka, kb, ea, eb, ha, hb, da, db, hits, rfl⟩ := dic_hits hu I rx ry h1 h2 e
      subst ea; subst eb
      exact PySem.W.keq_ne ha hb da db (by omega) (fun _ => hits) ⟨.bl _, H, I, rfl, q.same rfl⟩
    obtain ⟨hf, rfl⟩ := eqR_some e fun xs ys e1 e2 => hd ⟨xs, ys, e1, e2⟩
    obtain ⟨f1, f2⟩ := Bool.and_eq_true_iff.mp hf
    obtain ⟨as, r1⟩ := repT_reads I f1 h1 rx
    obtain ⟨bs, r2⟩ := repT_reads I f2 h2 ry
    have l1 := toP_depth 60 d1 f1
    refine SeqAt.ne_plain r1 r2 (toP_plain 60 d1 f1) (toP_plain 60 d2 f2) (by omega) ⟨.bl _, H, I, rfl, ?_⟩
    rw [toP_eqv 60 60 d1 d2 f1 f2]
    exact q.same rfl
theorem o_in (hu : X.A.units + 64 < cLine) : OpR X (compareOp .In) (rP2 X.K .inn) := by
  intro pins s σ H x y v u Q I rx ry h
  obtain ⟨st, Z, μ, d1, d2, d, hs, h1, h2, hp, q⟩ := h
  cases d2 <;> first | exact nomatch (show (none : Option D) = some d from hp) | skip
  case tup ys =>
    obtain ⟨c, e, rfl⟩ := map_bl (f := id) hp
    obtain ⟨as, bs, r2, r1, p1, p2, l, e⟩ := o_in_core hu I rx ry h1 (.inl h2) e
    subst e
    rcases r2 with r2 | r2
    · exact SeqAt.in_tuple_data r2 r1 p1 p2 l ⟨.bl _, H, I, rfl, q.same rfl⟩
    · exact SeqAt.in_list_data r2 r1 p1 p2 l ⟨.bl _, H, I, rfl, q.same rfl⟩
  case lst ys =>
    obtain ⟨c, e, rfl⟩ := map_bl (f := id) hp
    obtain ⟨as, bs, r2, r1, p1, p2, l, e⟩ := o_in_core hu I rx ry h1 (.inr h2) e
    subst e
    rcases r2 with r2 | r2
    · exact SeqAt.in_tuple_data r2 r1 p1 p2 l ⟨.bl _, H, I, rfl, q.same rfl⟩
    · exact SeqAt.in_list_data r2 r1 p1 p2 l ⟨.bl _, H, I, rfl, q.same rfl⟩
  case dic t kvs =>
    cases t with
    | true => exact nomatch (show (none : Option D) = some d from hp)
    | false =>
      obtain ⟨a, rfl, o, g, rfl⟩ := dic_get h1 h2 (show (if keyB d1 then some (D.bl (dget kvs d1).isSome) else none) = some d from hp)
      cases ry
      exact d_in (by omega) I g rx fun s' I' => ⟨.bl _, H, I', rfl, q.same rfl⟩
theorem o_nin (hu : X.A.units + 64 < cLine) : OpR X (compareOp .NotIn) (rP2 X.K .nin) := by
  intro pins s σ H x y v u Q I rx ry h
  obtain ⟨st, Z, μ, d1, d2, d, hs, h1, h2, hp, q⟩ := h
  cases d2 <;> first | exact nomatch (show (none : Option D) = some d from hp) | skip
  case tup ys =>
    obtain ⟨c, e, rfl⟩ := map_bl (f := not) hp
    obtain ⟨as, bs, r2, r1, p1, p2, l, e⟩ := o_in_core hu I rx ry h1 (.inl h2) e
    subst e
    rcases r2 with r2 | r2
    · exact SeqAt.notIn_tuple_data r2 r1 p1 p2 l ⟨.bl _, H, I, rfl, q.same rfl⟩
    · exact SeqAt.notIn_list_data r2 r1 p1 p2 l ⟨.bl _, H, I, rfl, q.same rfl⟩
  case lst ys =>
    obtain ⟨c, e, rfl⟩ := map_bl (f := not) hp
    obtain ⟨as, bs, r2, r1, p1, p2, l, e⟩ := o_in_core hu I rx ry h1 (.inr h2) e
    subst e
    rcases r2 with r2 | r2
    · exact SeqAt.notIn_tuple_data r2 r1 p1 p2 l ⟨.bl _, H, I, rfl, q.same rfl⟩
    · exact SeqAt.notIn_list_data r2 r1 p1 p2 l ⟨.bl _, H, I, rfl, q.same rfl⟩
  case dic t kvs =>
    cases t with
    | true => exact nomatch (show (none : Option D) = some d from hp)
    | false =>
      obtain ⟨a, rfl, o, g, rfl⟩ := dic_getN h1 h2 (show (if keyB d1 then some (D.bl (!(dget kvs d1).isSome)) else none) = some d from hp)
      cases ry
      exact d_notIn (by omega) I g rx fun s' I' => ⟨.bl _, H, I', rfl, q.same rfl⟩
theorem o_lt (hu : X.A.units + 64 < cLine) : OpR X (compareOp .Lt) (rP2 X.K .lt) := by
  intro pins s σ H x y v u Q I rx ry h
  obtain ⟨st, Z, μ, d1, d2, d, hs, h1, h2, hp, q⟩ := h
  cases d1 <;> cases d2 <;> first | exact nomatch (show (none : Option D) = some d from hp) | skip
  case int.int i j =>
    cases hp
    exact op_lt pins s σ H x y v u Q I rx ry ⟨i, j, h1, h2, q.same rfl⟩
  case tup.tup as bs =>
    obtain ⟨c, e, rfl⟩ := map_bl (f := id) hp
    have e : (if (D.flat 60 (.tup as) && D.flat 60 (.tup bs) && D.alk (.tup as) (.tup bs)) = true then some (D.ltv (.tup as) (.tup bs)) else none) = some c := e
    split at e
    · rename_i hf
      cases e
      simp only [Bool.and_eq_true] at hf
      obtain ⟨⟨f1, f2⟩, f3⟩ := hf
      obtain ⟨xs, r1⟩ := repT_reads I f1 h1 rx
      obtain ⟨ys, r2⟩ := repT_reads I f2 h2 ry
      obtain ⟨g1, g2⟩ := toP_lt 60 60 _ _ f1 f2 f3
      have l1 := toP_depth 60 _ f1
      refine PySem.W.lt_data r1 r2 g1 (fun z => by simp [toP] at z) (by omega) ⟨.bl _, H, I, rfl, ?_⟩
      rw [g2]
      exact q.same rfl
    · cases e
end
end Lb

set_option maxRecDepth 100000
set_option maxHeartbeats 400000
namespace Lb
open PySem PySem.Spec PyProof.Rows L2
theorem tuple_mul1 (l : Addr) (items : Array Value) (n : Nat) (sl : Array (Option Value)) (dd : Option Addr) (u : Tok) :
    Meets (Builtin.«tuple.__mul__» ⟨[.ref l, .int 1 u], []⟩) (fun _ R s => s.heap.get? l = some { cls := .type "tuple", dict := dd, data := .seq items n, slots := sl } ∧
      R (.ok (.ret (Value.ref l))) s) :=
  .of_wp fun prog w A R s h => by
    obtain ⟨hp, g, d, tk, os⟩ := s
    obtain ⟨hl, h⟩ := h
    have f1 := AutoSeq1.idx_int
    have hT : (⟨hp, g, d, tk, os⟩ : Shared).TypeIs (.ref l) "tuple" := ⟨_, hl, rfl⟩
    wp_walk using wpAny_loadPart' hl
    exact ⟨_, rfl, h⟩
theorem tuple_mulE (l : Addr) (n : Nat) (sl : Array (Option Value)) (dd : Option Addr) (k : Int) (u : Tok) (c0 : (decide (k < -(2 ^ 63)) || decide (k ≥ 2 ^ 63)) = false) :
    Meets (Builtin.«tuple.__mul__» ⟨[.ref l, .int k u], []⟩) (fun _ R s => s.heap.get? l = some { cls := .type "tuple", dict := dd, data := .seq #[] n, slots := sl } ∧
      R (.ok (.ret (Value.ref l))) s) :=
  .of_wp fun prog w A R s h => by
    obtain ⟨hp, g, d, tk, os⟩ := s
    obtain ⟨hl, h⟩ := h
    have f1 := AutoSeq1.idx_int
    have hT : (⟨hp, g, d, tk, os⟩ : Shared).TypeIs (.ref l) "tuple" := ⟨_, hl, rfl⟩
    wp_walk using wpAny_loadPart' hl
    repeat (first
      | (refine wpAny_ite_false (decide_eq_false (by rw [c0]; exact Bool.false_ne_true)) ?_; wp_walk using wpAny_loadPart' hl))
    exact ⟨_, rfl, h⟩
theorem tuple_mul0 (l : Addr) (items : Array Value) (n : Nat) (sl : Array (Option Value)) (dd : Option Addr) (u : Tok) (c1 : (items.isEmpty || (0 : Int) == 1) = false) :
    Meets (Builtin.«tuple.__mul__» ⟨[.ref l, .int 0 u], []⟩) (fun _ R s => s.heap.get? l = some { cls := .type "tuple", dict := dd, data := .seq items n, slots := sl } ∧
      R (.ok (.ret (Value.ref s.heap.objs.size))) { s with heap := s.heap.push { cls := Value.type "tuple", data := Data.seq #[] }, toks := s.toks }) :=
  .of_wp fun prog w A R s h => by
    obtain ⟨hp, g, d, tk, os⟩ := s
    obtain ⟨hl, h⟩ := h
    have f1 := AutoSeq1.idx_int
    have hT : (⟨hp, g, d, tk, os⟩ : Shared).TypeIs (.ref l) "tuple" := ⟨_, hl, rfl⟩
    wp_walk using wpAny_loadPart' hl
    repeat (first
      | (refine wpAny_ite_false (decide_eq_false (by rw [c1]; exact Bool.false_ne_true)) ?_; wp_walk using wpAny_loadPart' hl))
    exact ⟨_, rfl, h⟩
section
variable {X : Cx}
theorem mulT1 : OpR X (binaryOp .Mult) (fun x y H Q => ∃ l xs, x = .ref l ∧ y = .int 1 ∧ SqT X.K H l xs ∧ Q (.ref l) H) := by
  intro pins s σ H x y v u Q I rx ry h
  obtain ⟨l, xs, rfl, rfl, hT, q⟩ := h
  cases rx
  obtain ⟨t, rfl⟩ := ry
  obtain ⟨its, r, ⟨⟨cls, dd, data, sl⟩, ho, hc, n, hd⟩, hs⟩ := I.tuple hT
  simp only at hc hd
  subst hc hd
  exact wpAny_binaryOp_repeat_ref (T := "tuple") (U := "int") (by decide) ⟨_, ho, rfl⟩ (fun s' => typeIs_int s' 1 t) noFill_tuple_mul F.fills_int_mul F.slot_int_rmul repeat_tuple F.slot_int_index.lookup
    (call_meets F.slot_int_rmul (typeIs_int s 1 t) F.entry_int_rmul (F.args_int_rmul_2 _ _) (int_rmul_tuple 1 t l its.toArray n dd sl)
      ⟨ho, rfl, ⟨_, ho, rfl⟩, call_meets F.slot_tuple_mul ⟨_, ho, rfl⟩ F.entry_tuple_mul (F.args_tuple_mul_2 _ _) (tuple_mul1 l its.toArray n sl dd t) ⟨ho, ⟨.ref l, H, I, rfl, q⟩⟩⟩)
theorem mulTE : OpR X (binaryOp .Mult) (fun x y H Q => ∃ l k, x = .ref l ∧ y = .int k ∧ SqT X.K H l [] ∧ 0 ≤ k ∧ k ≤ 1000 ∧ Q (.ref l) H) := by
  intro pins s σ H x y v u Q I rx ry h
  obtain ⟨l, k, rfl, rfl, hT, h1, h2, q⟩ := h
  cases rx
  obtain ⟨t, rfl⟩ := ry
  obtain ⟨its, r, ⟨⟨cls, dd, data, sl⟩, ho, hc, n, hd⟩, hs⟩ := I.tuple hT
  cases r
  simp only at hc hd
  subst hc hd
  have c0 : (decide (k < -(2 ^ 63)) || decide (k ≥ 2 ^ 63)) = false := by
    rw [decide_eq_false (by omega), decide_eq_false (by omega)]; rfl
  exact wpAny_binaryOp_repeat_ref (T := "tuple") (U := "int") (by decide) ⟨_, ho, rfl⟩ (fun s' => typeIs_int s' k t) noFill_tuple_mul F.fills_int_mul F.slot_int_rmul repeat_tuple F.slot_int_index.lookup
    (call_meets F.slot_int_rmul (typeIs_int s k t) F.entry_int_rmul (F.args_int_rmul_2 _ _) (int_rmul_tuple k t l _ n dd sl)
      ⟨ho, rfl, ⟨_, ho, rfl⟩, call_meets F.slot_tuple_mul ⟨_, ho, rfl⟩ F.entry_tuple_mul (F.args_tuple_mul_2 _ _) (tuple_mulE l n sl dd k t c0) ⟨ho, ⟨.ref l, H, I, rfl, q⟩⟩⟩)
theorem mulT0 : OpR X (binaryOp .Mult) (fun x y H Q => ∃ l xs, x = .ref l ∧ y = .int 0 ∧ SqT X.K H l xs ∧ xs ≠ [] ∧ ∀ (p : Addr) (ob : Obj), ob.dict = none → H p = none → Q (.ref p) (upd H p (.frz ob (.tup [])))) := by
  intro pins s σ H x y v u Q I rx ry h
  obtain ⟨l, xs, rfl, rfl, hT, hne, q⟩ := h
  cases rx
  obtain ⟨t, rfl⟩ := ry
  obtain ⟨its, r, ⟨⟨cls, dd, data, sl⟩, ho, hc, n, hd⟩, hs⟩ := I.tuple hT
  simp only at hc hd
  subst hc hd
  have c1 : (its.toArray.isEmpty || (0 : Int) == 1) = false := by
    cases r with
    | nil => exact absurd rfl hne
    | cons _ _ => rfl
  exact wpAny_binaryOp_repeat_ref (T := "tuple") (U := "int") (by decide) ⟨_, ho, rfl⟩ (fun s' => typeIs_int s' 0 t) noFill_tuple_mul F.fills_int_mul F.slot_int_rmul repeat_tuple F.slot_int_index.lookup
    (call_meets F.slot_int_rmul (typeIs_int s 0 t) F.entry_int_rmul (F.args_int_rmul_2 _ _) (int_rmul_tuple 0 t l its.toArray n dd sl)
      ⟨ho, rfl, ⟨_, ho, rfl⟩, call_meets F.slot_tuple_mul ⟨_, ho, rfl⟩ F.entry_tuple_mul (F.args_tuple_mul_2 _ _) (tuple_mul0 l its.toArray n sl dd t c1) ⟨ho, ⟨.ref _, _, laidT (us := []) (t' := s.toks) I (Nat.zero_le _) .nil, rfl, q _ _ rfl (I.hok.fresh (Nat.le_refl _))⟩⟩⟩)
theorem mulT2 : OpR X (binaryOp .Mult) (fun x y H Q => ∃ l k xs, x = .ref l ∧ y = .int k ∧ SqT X.K H l xs ∧ xs ≠ [] ∧ 2 ≤ k ∧ k ≤ 1000 ∧ xs.length ≤ 1000 ∧ ∀ (p : Addr) (ob : Obj), ob.dict = none → H p = none → Q (.ref p) (upd H p (.frz ob (.tup (List.replicate k.toNat xs).flatten)))) := by
  intro pins s σ H x y v u Q I rx ry h
  obtain ⟨l, k, xs, rfl, rfl, hT, hne, h1, h2, hz, q⟩ := h
  cases rx
  obtain ⟨t, rfl⟩ := ry
  obtain ⟨its, r, ⟨⟨cls, dd, data, sl⟩, ho, hc, n, hd⟩, hs⟩ := I.tuple hT
  simp only at hc hd
  subst hc hd
  have hle := r.length
  have hi : its.toArray.isEmpty = false := by
    cases r with
    | nil => exact absurd rfl hne
    | cons _ _ => rfl
  have sz : its.toArray.size = xs.length := by rw [List.size_toArray, hle]
  have m1 : ((xs.length : Nat) : Int) * k ≤ 1000 * k := Int.mul_le_mul_of_nonneg_right (by omega) (by omega)
  have m2 : k.toNat * xs.length ≤ 1000 * 1000 := Nat.mul_le_mul (by omega) hz
  have big : ((its.toArray.size : Nat) : Int) * k ≤ 1000000 := by rw [sz]; omega
  have fl : (List.replicate k.toNat its).flatten.length ≤ sizeLine := by rw [PyProof.Rows.lm_len_rep_flat, ← hle, sizeLine_eq]; omega
  have c0 : (decide (k < -(2 ^ 63)) || decide (k ≥ 2 ^ 63)) = false := by
    rw [decide_eq_false (by omega), decide_eq_false (by omega)]; rfl
  have c1 : (its.toArray.isEmpty || k == 1) = false := by rw [hi]; exact beq_eq_false_iff_ne.mpr (by omega)
  have c2 : (decide (k ≤ 0) || its.toArray.isEmpty) = false := by rw [hi, decide_eq_false (by omega)]; rfl
  have c4 : Builtin.Tuple.tupleTooMany (((its.toArray.size : Nat) : Int) * k) = false := by
    unfold Builtin.Tuple.tupleTooMany
    rw [sizeLine_eq]
    exact decide_eq_false (by omega)
  have M := tuple_mulW l its.toArray n dd sl k t c0 c1 c2 (by omega) c4 (by rw [size_rep, List.size_toArray]; exact fl)
  rw [size_rep] at M
  exact wpAny_binaryOp_repeat_ref (T := "tuple") (U := "int") (by decide) ⟨_, ho, rfl⟩ (fun s' => typeIs_int s' k t) noFill_tuple_mul F.fills_int_mul F.slot_int_rmul repeat_tuple F.slot_int_index.lookup
    (call_meets F.slot_int_rmul (typeIs_int s k t) F.entry_int_rmul (F.args_int_rmul_2 _ _) (int_rmul_tuple k t l its.toArray n dd sl)
      ⟨ho, rfl, ⟨_, ho, rfl⟩, call_meets F.slot_tuple_mul ⟨_, ho, rfl⟩ F.entry_tuple_mul (F.args_tuple_mul_2 _ _) M ⟨ho, ⟨.ref _, _, laidT (t' := s.toks) I (by rw [PyProof.Rows.lm_len_rep_flat, sizeLine_eq]; omega) (r.rep k.toNat), rfl, q _ _ rfl (I.hok.fresh (Nat.le_refl _))⟩⟩⟩)
theorem mulL : OpR X (binaryOp .Mult) (fun x y H Q => ∃ l k xs, x = .ref l ∧ y = .int k ∧ Rd H l (.lst xs) ∧ 0 ≤ k ∧ k ≤ 1000 ∧ xs.length ≤ 1000 ∧ ∀ p, H p = none → Q (.ref p) (upd H p (.lst (List.replicate k.toNat xs).flatten))) := by
  intro pins s σ H x y v u Q I rx ry h
  obtain ⟨l, k, xs, rfl, rfl, hH, h1, h2, hx, q⟩ := h
  cases rx
  obtain ⟨t, rfl⟩ := ry
  obtain ⟨z, its, n, r, e⟩ := hH.ok I.hok
  have hl := r.length
  have hz : xs.length * k.toNat ≤ sizeLine := by
    rw [sizeLine_eq]
    have a1 : xs.length * k.toNat ≤ 1000 * 1000 := Nat.mul_le_mul hx (by omega)
    omega
  have hlen : its.toArray.size * k.toNat ≤ sizeLine := by rw [List.size_toArray, ← hl]; exact hz
  have hcap : ¬ its.toArray.size * k.toNat > (2 ^ 63 - 1) / 8 := by
    have : (sizeLine : Nat) ≤ (2 ^ 63 - 1) / 8 := by decide
    omega
  have hfit : ¬ (!Builtin.List.listFitsIndex k) = true := by
    rw [fitsIndex_both (by omega) (by omega)]
    exact Bool.false_ne_true
  have hlong : ¬ Builtin.List.listTooLong (its.toArray.size * k.toNat) = true := by
    rw [notLongL hlen]
    exact Bool.false_ne_true
  have hnew : List.foldl (fun x1 x2 => x1 ++ x2) #[] (List.replicate (if its.toArray.isEmpty = true then 0 else k.toNat) its.toArray) = (List.replicate k.toNat its).flatten.toArray := by
    have f0 : ∀ m : Nat, List.foldl (fun x1 x2 => x1 ++ x2) #[] (List.replicate m its.toArray) = (List.replicate m its).flatten.toArray := fun m => by
      have := foldl_rep its m []
      rw [List.nil_append] at this
      exact this
    rw [f0]
    cases its with
    | nil => simp
    | cons a r' => rw [if_neg (by simp)]
  refine wpAny_binaryOp_repeat_ref (T := "list") (U := "int") (by decide) ⟨_, e, rfl⟩ (fun s' => typeIs_int s' k t) noFill_list_mul F.fills_int_mul F.slot_int_rmul repeat_list F.slot_int_index.lookup
    (call_meets F.slot_int_rmul (typeIs_int s k t) F.entry_int_rmul (F.args_int_rmul_2 _ _) (int___rmul___int_list k t l its.toArray n)
      ⟨e, rfl, ⟨_, e, rfl⟩, call_meets F.slot_list_mul ⟨_, e, rfl⟩ F.entry_list_mul (F.args_list_mul_2 _ _) (AutoListH.list___mul___list_int_3 l its.toArray n k t hfit hcap hlong) ⟨e, ?_⟩⟩)
  rw [hnew]
  exact ⟨.ref _, _, I.lnew (t' := s.toks) (r.rep k.toNat) (by rw [PyProof.Rows.lm_len_rep_flat, Nat.mul_comm]; exact hz), rfl, q _ I.fresh⟩
theorem flat_len {α : Type} (xs : List α) : ∀ n : Nat, (List.replicate n xs).flatten.length = n * xs.length
  | 0 => by simp
  | n + 1 => by rw [List.replicate_succ, List.flatten_cons, List.length_append, flat_len xs n, Nat.succ_mul]; omega
theorem flat_le {α : Type} {xs : List α} {n : Nat} (h : n ≤ 1000) (h' : xs.length ≤ 1000) : (List.replicate n xs).flatten.length ≤ sizeLine := by
  rw [flat_len, sizeLine_eq]
  have : n * xs.length ≤ 1000 * 1000 := Nat.mul_le_mul h h'
  omega
theorem o_mul : OpR X (binaryOp .Mult) (rP2 X.K .mul) := by
  intro pins s σ H x y v u Q I rx ry h
  obtain ⟨st, Z, μ, d1, d2, d, hs, h1, h2, hp, q⟩ := h
  cases d1 <;> cases d2 <;> first | exact nomatch (show (none : Option D) = some d from hp) | skip
  case int.int i j =>
    have hp : (if (-big < i ∧ i < big) ∨ (-big < j ∧ j < big) then some (D.int (i * j)) else none) = some d := hp
    split at hp
    · rename_i hj
      cases hp
      exact op_mul pins s σ H x y v u Q I rx ry ⟨i, j, h1, h2, hj, q.same rfl⟩
    · cases hp
  case tup.int as k =>
    have hp : (if 0 ≤ k ∧ k ≤ 1000 ∧ as.length ≤ 1000 then some (D.tup (List.replicate k.toNat as).flatten) else none) = some d := hp
    split at hp
    · rename_i hk
      cases hp
      obtain ⟨a, vs, rfl, s1, z1, r1⟩ := tupE h1
      have hy : y = .int k := h2
      subst hy
      by_cases hk1 : k = 1
      · subst hk1
        have e1 : (List.replicate (1 : Int).toNat as).flatten = as := by simp
        rw [e1] at q
        exact mulT1 pins s σ H _ _ v u Q I rx ry ⟨a, vs, rfl, rfl, s1, q.same h1⟩
      · by_cases hv : vs = []
        · subst hv
          have ea : as = [] := List.eq_nil_of_length_eq_zero (by rw [← r1.length]; rfl)
          subst ea
          have e1 : (List.replicate k.toNat ([] : List D)).flatten = [] := by simp
          rw [e1] at q
          exact mulTE pins s σ H _ _ v u Q I rx ry ⟨a, k, rfl, rfl, s1, hk.1, hk.2.1, q.same h1⟩
        · by_cases hk0 : k = 0
          · subst hk0
            exact mulT0 pins s σ H _ _ v u Q I rx ry ⟨a, vs, rfl, rfl, s1, hv, fun p ob hd hp => q.tup hd (Nat.zero_le _) (by simp; rfl) p hp⟩
          · exact mulT2 pins s σ H _ _ v u Q I rx ry ⟨a, k, vs, rfl, rfl, s1, hv, by omega, hk.2.1, by rw [r1.length]; exact hk.2.2, fun p ob hd hp => q.tup hd (flat_le (by omega) (by rw [r1.length]; exact hk.2.2)) (r1.flatten _) p hp⟩
    · cases hp
  case lst.int as k =>
    have hp : (if 0 ≤ k ∧ k ≤ 1000 ∧ as.length ≤ 1000 then some (D.lst (List.replicate k.toNat as).flatten) else none) = some d := hp
    split at hp
    · rename_i hk
      cases hp
      obtain ⟨a, vs, rfl, s1, z1, r1⟩ := lstE h1
      have hy : y = .int k := h2
      subst hy
      exact mulL pins s σ H _ _ v u Q I rx ry ⟨a, k, vs, rfl, rfl, s1, hk.1, hk.2.1, by rw [r1.length]; exact hk.2.2, fun p hp => q.lst (flat_le (by omega) (by rw [r1.length]; exact hk.2.2)) (r1.flatten _) p hp⟩
    · cases hp
theorem rep_non {K : PySem.W.Frag} {H : Hp} {Z : Zs} {μ : List Addr} {d : D} {x : V} (h : RepT K H Z μ d x) : decide (x = .non) = isNon' d := by
  cases d with
  | non => cases (show x = .non from h); rfl
  | bl b => cases (show x = .bl b from h); rfl
  | int i => cases (show x = .int i from h); rfl
  | str z => cases (show x = .str z from h); rfl
  | tup ds => obtain ⟨a, vs, rfl, _⟩ := tupE h; rfl
  | lst ds => obtain ⟨a, vs, rfl, _⟩ := lstE h; rfl
  | dic t kvs =>
    obtain ⟨a, vs, rfl, _⟩ := (show ∃ a vs, x = V.ref a ∧ a ∉ μ ∧ DicAt (Rd H) a t (kvs.map Prod.fst) vs ∧ RepE K H Z μ kvs vs from h)
    rfl
  | ref n =>
    obtain ⟨a, _, rfl⟩ := (show ∃ a, μ[n]? = some a ∧ x = .ref a from h)
    rfl
theorem o_isN : OpR X (compareOp .Is) (fun x y H Q => y = .non ∧ rP X.K .isN [x] H Q) := by
  intro pins s σ H x y v u Q I rx ry h
  obtain ⟨rfl, st, Z, μ, ds, d, hs, h1, hp, q⟩ := h
  obtain ⟨d1, rfl⟩ := one_of h1
  obtain ⟨x', e, h2⟩ := repTs1 h1
  cases e
  refine op_isN pins s σ H x _ v u Q I rx ry ⟨rfl, ?_⟩
  rw [rep_non h2]
  have : d = .bl (isNon' d1) := by cases d1 <;> (cases hp; rfl)
  subst this
  exact q.same rfl
theorem o_notN : OpR X (compareOp .IsNot) (fun x y H Q => y = .non ∧ rP X.K .notN [x] H Q) := by
  intro pins s σ H x y v u Q I rx ry h
  obtain ⟨rfl, st, Z, μ, ds, d, hs, h1, hp, q⟩ := h
  obtain ⟨d1, rfl⟩ := one_of h1
  obtain ⟨x', e, h2⟩ := repTs1 h1
  cases e
  refine op_notN pins s σ H x _ v u Q I rx ry ⟨rfl, ?_⟩
  rw [rep_non h2]
  have : d = .bl (!isNon' d1) := by cases d1 <;> (cases hp; rfl)
  subst this
  exact q.same rfl
theorem o_isB : OpR X (compareOp .Is) (rP2 X.K .isB) := by
  intro pins s σ H x y v u Q I rx ry h
  obtain ⟨st, Z, μ, d1, d2, d, hs, h1, h2, hp, q⟩ := h
  cases d1 <;> cases d2 <;> first | exact nomatch (show (none : Option D) = some d from hp) | skip
  case bl.bl a b =>
    cases hp
    refine op_isBl pins s σ H x y v u Q I rx ry ⟨a, b, h1, h2, ?_⟩
    have e : decide (a = b) = (a == b) := by cases a <;> cases b <;> rfl
    rw [e]
    exact q.same rfl
theorem o_nisB : OpR X (compareOp .IsNot) (rP2 X.K .nisB) := by
  intro pins s σ H x y v u Q I rx ry h
  obtain ⟨st, Z, μ, d1, d2, d, hs, h1, h2, hp, q⟩ := h
  cases d1 <;> cases d2 <;> first | exact nomatch (show (none : Option D) = some d from hp) | skip
  case bl.bl a b =>
    cases hp
    refine op_notBl pins s σ H x y v u Q I rx ry ⟨a, b, h1, h2, ?_⟩
    have e : (!decide (a = b)) = (!(a == b)) := by cases a <;> cases b <;> rfl
    rw [e]
    exact q.same rfl
theorem un1 {st : Sto} {p : P} {ds : List D} {d : D} (hp : prim st p ds = some d) (h0 : prim st p [] = none) (h2 : ∀ a b r, prim st p (a :: b :: r) = none) : ∃ d1, ds = [d1] := by
  cases ds with
  | nil => rw [h0] at hp; cases hp
  | cons a r =>
    cases r with
    | nil => exact ⟨a, rfl⟩
    | cons b r => rw [h2] at hp; cases hp
theorem un2 {st : Sto} {p : P} {ds : List D} {d : D} (hp : prim st p ds = some d) (h0 : prim st p [] = none) (h1 : ∀ a, prim st p [a] = none) (h2 : ∀ a b c r, prim st p (a :: b :: c :: r) = none) : ∃ d1 d2, ds = [d1, d2] := by
  cases ds with
  | nil => rw [h0] at hp; cases hp
  | cons a r =>
    cases r with
    | nil => rw [h1] at hp; cases hp
    | cons b r =>
      cases r with
      | nil => exact ⟨a, b, rfl⟩
      | cons c r => rw [h2] at hp; cases hp
theorem c_len : CallR X (.builtin "len") (rP X.K .len) := by
  intro pins s σ H xs us Q I r h
  obtain ⟨st, Z, μ, ds, d, hs, h1, hp, q⟩ := h
  obtain ⟨d1, rfl⟩ := un1 hp rfl (fun a b r => by cases a <;> rfl)
  obtain ⟨x, rfl, h2⟩ := repTs1 h1
  clear h1
  cases d1 <;> first | exact nomatch (show (none : Option D) = some d from hp) | skip
  case tup ys =>
    cases hp
    obtain ⟨a, vs, rfl, s1, z1, r1⟩ := tupE h2
    refine call_len_seq pins s σ H _ us Q I r ⟨a, vs, rfl, .inr s1, ?_⟩
    rw [r1.length]; exact q.same rfl
  case lst ys =>
    cases hp
    obtain ⟨a, vs, rfl, s1, z1, r1⟩ := lstE h2
    refine call_len_seq pins s σ H _ us Q I r ⟨a, vs, rfl, .inl (SqL.of' s1), ?_⟩
    rw [r1.length]; exact q.same rfl
  case dic t kvs =>
    have hp : some (D.int kvs.length) = some d := by cases t <;> exact hp
    cases hp
    obtain ⟨a, vs, rfl, _, g, re⟩ := dicE h2
    obtain ⟨u, rfl, ru⟩ := vals1 r
    cases ru
    cases t with
    | false =>
      obtain ⟨ks, q1, e1, rfl⟩ := g
      have hl : ks.length = kvs.length := by have := congrArg List.length e1; simpa using this.symm
      refine d_len I q1 fun t s' I' => ⟨.int ks.length, H, I', ⟨t, rfl⟩, ?_⟩
      rw [hl]; exact q.same rfl
    | true =>
      obtain ⟨ks, q1, e1, rfl⟩ := g
      have hl : ks.length = kvs.length := by have := congrArg List.length e1; simpa using this.symm
      obtain ⟨z, hd, ys, rel, dd⟩ := dt_rd I.hok q1
      have hl2 : ks.length = ys.length := Paired.length rel
      refine call_len_dictH hd dd (by rw [← hl2]; rw [sizeLine_eq] at z; omega) ?_
      rw [← hl2, hl]
      exact ⟨.int kvs.length, H, I.tok _, ⟨_, rfl⟩, q.same rfl⟩
def tyN : Ty → String
  | .int => "int" | .bool => "bool" | .str => "str" | .tuple => "tuple" | .list => "list" | .dict => "dict"
def tyD : D → String
  | .non => "NoneType" | .bl _ => "bool" | .int _ => "int" | .str _ => "str" | .tup _ => "tuple" | .lst _ => "list" | .dic _ _ => "dict" | .ref _ => "list"
theorem kit_all (t : Ty) (d : D) (b : Bool) (h : isTy t d = some b) : kitB (tyD d) (tyN t) = some b := by
  cases t <;> cases d <;> (cases h; dsimp only [tyD, tyN]; decide +kernel)
theorem rep_kit {pins : List (Addr × Obj)} {s : Shared} {σ : L2.St} {H : Hp} {x : V} {u : Value} {st : Sto} {Z : Zs} {μ : List Addr} {d : D} (I : Inv X pins σ H s) (rx : RelV x u) (hs : StoR X.K H Z μ st) (h : RepT X.K H Z μ d x) (hn : ∀ n, d = .ref n → n < st.length) :
    ∃ P : Heap → Prop, PySem.W.KitX X.K u (.type (tyD d)) P ∧ P s.heap ∧ u ≠ .builtin "__main__.__loader__#opaque" := by
  cases d with
  | non => cases (show x = .non from h); exact kit_of I rx (.base .non)
  | bl b => cases (show x = .bl b from h); exact kit_of I rx (.base (.bl b))
  | int i => cases (show x = .int i from h); exact kit_of I rx (.base (.int i))
  | str z => cases (show x = .str z from h); exact kit_of I rx (.base (.str z))
  | tup ds =>
    obtain ⟨a, vs, rfl, s1, _⟩ := tupE h
    cases (show u = Value.ref a from rx)
    obtain ⟨its, _, ⟨o, e1, e2, _⟩, _⟩ := I.tuple s1
    exact ⟨_, PySem.W.kitx_tuple, ⟨o, e1, e2⟩, fun z => nomatch z⟩
  | lst ds =>
    obtain ⟨a, vs, rfl, s1, _⟩ := lstE h
    cases (show u = Value.ref a from rx)
    obtain ⟨_, _, n, _, e⟩ := s1.ok I.hok
    exact ⟨_, PySem.W.kitx_list, ⟨_, e, rfl⟩, fun z => nomatch z⟩
  | dic t kvs =>
    obtain ⟨a, vs, rfl, _, h2, _⟩ := (show ∃ a vs, x = V.ref a ∧ a ∉ μ ∧ DicAt (Rd H) a t (kvs.map Prod.fst) vs ∧ RepE X.K H Z μ kvs vs from h)
    cases (show u = Value.ref a from rx)
    cases t with
    | false =>
      obtain ⟨ks, q, _⟩ := h2
      obtain ⟨_, _, _, _, o, _, _, e1, e2, _⟩ := q.ok I.hok
      exact ⟨_, PySem.W.kitx_dict, ⟨o, e1, e2.1⟩, fun z => nomatch z⟩
    | true =>
      obtain ⟨ks, q, _⟩ := h2
      obtain ⟨_, _, _, _, o, _, _, e1, e2, _⟩ := q.ok I.hok
      exact ⟨_, PySem.W.kitx_dict, ⟨o, e1, e2.1⟩, fun z => nomatch z⟩
  | ref n =>
    obtain ⟨a, ea, rfl⟩ := (show ∃ a, μ[n]? = some a ∧ x = .ref a from h)
    cases (show u = Value.ref a from rx)
    have hl := hn n rfl
    obtain ⟨b, vs, e1, e2, _⟩ := hs.at_ n _ (List.getElem?_eq_getElem hl)
    rw [ea] at e1
    cases e1
    obtain ⟨_, _, k, _, e⟩ := I.hok a _ e2
    exact ⟨_, PySem.W.kitx_list, ⟨_, e, rfl⟩, fun z => nomatch z⟩
theorem ref_lt {K : PySem.W.Frag} {H : Hp} {Z : Zs} {μ : List Addr} {st : Sto} {d : D} {x : V} (hs : StoR K H Z μ st) (h : RepT K H Z μ d x) : ∀ n, d = .ref n → n < st.length := by
  intro n e
  subst e
  obtain ⟨a, ea, _⟩ := (show ∃ a, μ[n]? = some a ∧ x = .ref a from h)
  rw [← hs.len]
  exact (List.getElem?_eq_some_iff.mp ea).1
/-- isinstance(x, T), T a built-in type's name -/
theorem c_isI (t : Ty) : CallR X (.builtin "isinstance") (fun xs H Q => ∃ x, xs = [x, .ty (tyN t)] ∧ rP X.K (.isI t) [x] H Q) := by
  intro pins s σ H xs us Q I r h
  obtain ⟨x, rfl, st, Z, μ, ds, d, hs, h1, hp, q⟩ := h
  obtain ⟨d1, rfl⟩ := one_of h1
  obtain ⟨x', e, h2⟩ := repTs1 h1
  cases e
  obtain ⟨u1, u2, rfl, r1, r2⟩ := vals2 r
  cases (show u2 = Value.type (tyN t) from r2)
  obtain ⟨b, e, rfl⟩ := map_bl (f := id) hp
  obtain ⟨P, Z', p, hx⟩ := rep_kit I r1 hs h2 (ref_lt hs h2)
  exact PySem.W.kia_one Z' I.kIn p (kit_ty (kit_all t d1 b e)) hx fun tk => ⟨.bl b, H, I.tok tk, rfl, q.same rfl⟩
theorem c_max2 (hc : X.calm = true) : CallR X (.builtin "max") (rP X.K .max2) := by
  intro pins s σ H xs us Q I r h
  obtain ⟨st, Z, μ, ds, d, hs, h1, hp, q⟩ := h
  obtain ⟨d1, d2, rfl⟩ := un2 hp rfl (fun a => by cases a <;> rfl) (fun a b c r => by cases a <;> cases b <;> rfl)
  obtain ⟨x, y, rfl, h2, h3⟩ := repTs2 h1
  clear h1
  cases d1 <;> cases d2 <;> first | exact nomatch (show (none : Option D) = some d from hp) | skip
  rename_i i j
  cases hp
  cases (show x = .int i from h2)
  cases (show y = .int j from h3)
  exact call_max2 hc pins s σ H _ us Q I r ⟨i, j, rfl, q.same rfl⟩
theorem c_min2 (hc : X.calm = true) : CallR X (.builtin "min") (rP X.K .min2) := by
  intro pins s σ H xs us Q I r h
  obtain ⟨st, Z, μ, ds, d, hs, h1, hp, q⟩ := h
  obtain ⟨d1, d2, rfl⟩ := un2 hp rfl (fun a => by cases a <;> rfl) (fun a b c r => by cases a <;> cases b <;> rfl)
  obtain ⟨x, y, rfl, h2, h3⟩ := repTs2 h1
  clear h1
  cases d1 <;> cases d2 <;> first | exact nomatch (show (none : Option D) = some d from hp) | skip
  rename_i i j
  cases hp
  cases (show x = .int i from h2)
  cases (show y = .int j from h3)
  exact call_min2 hc pins s σ H _ us Q I r ⟨i, j, rfl, q.same rfl⟩
/-- sum of a tuple of ints -/
theorem sum_tup (hc : X.calm = true) : CallR X (.builtin "sum") (fun xs H Q => ∃ (a : Addr) (ns : List Int), xs = [V.ref a] ∧ SqT X.K H a (ns.map V.int) ∧ Q (.int ns.sum) H) := by
  intro pins s σ H xs us Q I r h
  obtain ⟨a, ns, rfl, sq, q⟩ := h
  obtain ⟨ws, rv, ho, _⟩ := I.tuple sq
  rw [Vals.ref1 r]
  obtain ⟨is, ei⟩ := rv.ints.allInts.items
  have hn : numsOf (intItems is).toList = ns := by rw [← ei]; exact rv.ints.numsOf
  rw [nums_intItems] at hn
  have ht : s.heap.IsTuple a (intItems is) := by rw [← ei]; exact ho
  refine PySem.W.ktm_sumG (I.ok.hd hc) ht fun h' tk t' hk => ⟨.int ns.sum, H, I.kept hk, ⟨t', ?_⟩, q⟩
  rw [preSum_eq, List.take_of_length_le (by simp), hn]
theorem c_sum (hc : X.calm = true) : CallR X (.builtin "sum") (rP X.K .sum) := by
  intro pins s σ H xs us Q I r h
  obtain ⟨st, Z, μ, ds, d, hs, h1, hp, q⟩ := h
  obtain ⟨d1, rfl⟩ := un1 hp rfl (fun a b r => by cases a <;> rfl)
  obtain ⟨x, rfl, h2⟩ := repTs1 h1
  clear h1
  have key : ∀ ys, (sumR ys).map D.int = some d → ∃ ns : List Int, ys = ns.map D.int ∧ d = .int ns.sum := fun ys hp => by
    cases e : sumR ys with
    | none => rw [e] at hp; cases hp
    | some i =>
      rw [e] at hp; cases hp
      obtain ⟨ns, h3, h4⟩ := sumR_eq e
      exact ⟨ns, h3, by rw [h4]⟩
  cases d1 <;> first | exact nomatch (show (none : Option D) = some d from hp) | skip
  · rename_i ys
    obtain ⟨ns, rfl, rfl⟩ := key ys hp
    obtain ⟨a, vs, rfl, s1, z1, r1⟩ := tupE h2
    rw [reps_int r1] at s1
    exact sum_tup hc pins s σ H _ us Q I r ⟨a, ns, rfl, s1, q.same rfl⟩
  · rename_i ys
    obtain ⟨ns, rfl, rfl⟩ := key ys hp
    obtain ⟨a, vs, rfl, s1, z1, r1⟩ := lstE h2
    rw [reps_int r1] at s1
    exact cr_sum hc pins s σ H _ us Q I r ⟨a, ns, rfl, SqL.of' s1, q.same rfl⟩
theorem c_all (hc : X.calm = true) : CallR X (.builtin "all") (rP X.K .all) := by
  intro pins s σ H xs us Q I r h
  obtain ⟨st, Z, μ, ds, d, hs, h1, hp, q⟩ := h
  obtain ⟨d1, rfl⟩ := un1 hp rfl (fun a b r => by cases a <;> rfl)
  obtain ⟨x, rfl, h2⟩ := repTs1 h1
  clear h1
  cases d1 <;> first | exact nomatch (show (none : Option D) = some d from hp) | skip
  rename_i ys
  obtain ⟨b, e, rfl⟩ := map_bl (f := id) (show (allR ys).map (fun c => D.bl (id c)) = some d from hp)
  unfold allR at e
  cases e2 : bls ys with
  | none => rw [e2] at e; cases e
  | some bs =>
    rw [e2] at e; cases e
    obtain rfl := bls_eq e2
    obtain ⟨a, vs, rfl, s1, z1, r1⟩ := lstE h2
    rw [reps_bl r1] at s1
    exact cr_all hc pins s σ H _ us Q I r ⟨a, bs, rfl, SqL.of' s1, q.same rfl⟩
theorem c_any (hc : X.calm = true) : CallR X (.builtin "any") (rP X.K .any) := by
  intro pins s σ H xs us Q I r h
  obtain ⟨st, Z, μ, ds, d, hs, h1, hp, q⟩ := h
  obtain ⟨d1, rfl⟩ := un1 hp rfl (fun a b r => by cases a <;> rfl)
  obtain ⟨x, rfl, h2⟩ := repTs1 h1
  clear h1
  cases d1 <;> first | exact nomatch (show (none : Option D) = some d from hp) | skip
  rename_i ys
  obtain ⟨b, e, rfl⟩ := map_bl (f := id) (show (anyR ys).map (fun c => D.bl (id c)) = some d from hp)
  unfold anyR at e
  cases e2 : bls ys with
  | none => rw [e2] at e; cases e
  | some bs =>
    rw [e2] at e; cases e
    obtain rfl := bls_eq e2
    obtain ⟨a, vs, rfl, s1, z1, r1⟩ := lstE h2
    rw [reps_bl r1] at s1
    exact cr_any hc pins s σ H _ us Q I r ⟨a, bs, rfl, SqL.of' s1, q.same rfl⟩
theorem c_tuple : CallR X (.type "tuple") (rP X.K .tuple) := by
  intro pins s σ H xs us Q I r h
  obtain ⟨st, Z, μ, ds, d, hs, h1, hp, q⟩ := h
  obtain ⟨d1, rfl⟩ := un1 hp rfl (fun a b r => by cases a <;> rfl)
  obtain ⟨x, rfl, h2⟩ := repTs1 h1
  clear h1
  cases d1 <;> first | exact nomatch (show (none : Option D) = some d from hp) | skip
  case tup ys =>
    cases hp
    obtain ⟨a, vs, rfl, s1, z1, r1⟩ := tupE h2
    exact call_tuple_of pins s σ H _ us Q I r ⟨a, vs, rfl, .inr ⟨s1, q.same h2⟩⟩
  case lst ys =>
    cases hp
    obtain ⟨a, vs, rfl, s1, z1, r1⟩ := lstE h2
    exact call_tupleLZ pins s σ H _ us Q I r ⟨a, vs, rfl, SqL.of' s1, fun l ob hd hl => q.tup hd z1 r1 l hl⟩
/-- as rP, what comes is a new list -/
def rPF (K : PySem.W.Frag) (p : P) : List V → Hp → VK → Prop := fun xs H Q => ∃ st Z μ ds d, StoR K H Z μ st ∧ RepTs K H Z μ ds xs ∧ prim st p ds = some d ∧ OutF K H Z μ d Q
theorem c_listF : CallR X (.type "list") (rPF X.K .list) := by
  intro pins s σ H xs us Q I r h
  obtain ⟨st, Z, μ, ds, d, hs, h1, hp, q⟩ := h
  obtain ⟨d1, rfl⟩ := un1 hp rfl (fun a b r => by cases a <;> rfl)
  obtain ⟨x, rfl, h2⟩ := repTs1 h1
  clear h1
  cases d1 <;> first | exact nomatch (show (none : Option D) = some d from hp) | skip
  case tup ys =>
    cases hp
    obtain ⟨a, vs, rfl, s1, z1, r1⟩ := tupE h2
    exact call_list_of pins s σ H _ us Q I r ⟨a, vs, rfl, .inr s1, fun l hl => q l vs ys rfl hl z1 r1⟩
  case lst ys =>
    cases hp
    obtain ⟨a, vs, rfl, s1, z1, r1⟩ := lstE h2
    exact call_list_of pins s σ H _ us Q I r ⟨a, vs, rfl, .inl (SqL.of' s1), fun l hl => q l vs ys rfl hl z1 r1⟩
theorem o_mulF : OpR X (binaryOp .Mult) (fun x y H Q => ∃ as, (∃ Z μ, RepT X.K H Z μ (.lst as) x) ∧ rPF X.K .mul [x, y] H Q) := by
  intro pins s σ H x y v u Q I rx ry h
  obtain ⟨as, ⟨Z0, μ0, h0⟩, st, Z, μ, ds, d, hs, h1, hp, q⟩ := h
  obtain ⟨d1, d2, rfl⟩ := two_of h1
  obtain ⟨x', y', e, h2, h3⟩ := repTs2 h1
  cases e
  clear h1
  obtain ⟨a0, vs0, rfl, s0, _⟩ := lstE h0
  cases d1 <;> cases d2 <;> first | exact nomatch (show (none : Option D) = some d from hp) | skip
  case int.int i j => cases (show V.ref a0 = .int i from h2)
  case tup.int bs k =>
    obtain ⟨a, vs, e, s1, z1, r1⟩ := tupE h2
    cases e
    cases (show v = Value.ref a0 from rx)
    obtain ⟨_, _, ⟨o, e1, e2, _⟩, _⟩ := I.tuple s1
    obtain ⟨_, _, _, _, e3⟩ := s0.ok I.hok
    rw [e1] at e3
    have e4 : o.cls = Value.type "list" := by rw [Option.some.inj e3]
    rw [e2] at e4
    exact absurd (Value.type.inj e4) (by decide)
  case lst.int bs k =>
    have hp : (if 0 ≤ k ∧ k ≤ 1000 ∧ bs.length ≤ 1000 then some (D.lst (List.replicate k.toNat bs).flatten) else none) = some d := hp
    split at hp
    · rename_i hk
      cases hp
      obtain ⟨a, vs, e, s1, z1, r1⟩ := lstE h2
      cases e
      have hy : y = .int k := h3
      subst hy
      exact mulL pins s σ H _ _ v u Q I rx ry ⟨a0, k, vs, rfl, rfl, s1, hk.1, hk.2.1, by rw [r1.length]; exact hk.2.2, fun p hp => q p _ _ rfl hp (flat_le (by omega) (by rw [r1.length]; exact hk.2.2)) (r1.flatten _)⟩
    · cases hp
theorem atI_rep {K : PySem.W.Frag} {H : Hp} {Z : Zs} {μ : List Addr} {ds : List D} {vs : List V} {i : Int} {d : D} (h : Reps K H Z μ ds vs) (e : atI ds i = some d) : ∃ v, atI vs i = some v ∧ Rep K H Z μ d v := by
  unfold atI at e ⊢
  rw [h.length]
  cases q : L2.ixN ds.length i with
  | none => rw [q] at e; cases e
  | some j =>
    rw [q] at e
    obtain ⟨v, e1, e2⟩ := h.get' (i := j) e
    exact ⟨v, e1, e2⟩
theorem x_idx (hu : X.A.units + 64 < cLine) : IxR X (rP2 X.K .idx) := by
  intro value slice pins s σ H x y v u Q I rx ry h hsub
  obtain ⟨st, Z, μ, d1, d2, d, hs, h1, h2, hp, q⟩ := h
  by_cases hd : ∃ t kvs, d1 = .dic t kvs
  · obtain ⟨t, kvs, rfl⟩ := hd
    cases t with
    | true => exact nomatch (show (none : Option D) = some d from hp)
    | false =>
      obtain ⟨a, w, rfl, g, rp⟩ := dic_item h2 h1 hp
      cases rx
      exact tail_any (dict_typeIs I g) PySem.F.slot_dict_getitem.lookup (d_getItem (by omega) I g ry fun w' s' I' rw' => ⟨w, H, I', rw', q.same rp⟩) hsub
  cases d1 <;> cases d2 <;> first | exact nomatch (show (none : Option D) = some d from hp) | exact absurd ⟨_, _, rfl⟩ hd | skip
  case tup.int xs i =>
    obtain ⟨a, vs, rfl, s1, z1, r1⟩ := tupE h1
    obtain ⟨w, e1, e2⟩ := atI_rep r1 (show atI xs i = some d from hp)
    exact ix_tup value slice pins s σ H _ _ v u Q I rx ry ⟨a, vs, i, w, rfl, h2, s1, e1, q.same e2⟩ hsub
  case lst.int xs i =>
    obtain ⟨a, vs, rfl, s1, z1, r1⟩ := lstE h1
    obtain ⟨w, e1, e2⟩ := atI_rep r1 (show atI xs i = some d from hp)
    exact ix_list value slice pins s σ H _ _ v u Q I rx ry ⟨a, vs, i, w, rfl, h2, SqL.of' s1, e1, q.same e2⟩ hsub
  case ref.int n i =>
    obtain ⟨a, ea, rfl⟩ := (show ∃ a, μ[n]? = some a ∧ x = .ref a from h1)
    have hp : (st[n]?).bind (fun xs => atI xs i) = some d := hp
    cases en : st[n]? with
    | none => rw [en] at hp; cases hp
    | some xs =>
      rw [en] at hp
      obtain ⟨b, vs, e1, e2, e3, e4⟩ := hs.at_ n xs en
      rw [ea] at e1
      cases e1
      obtain ⟨w, e5, e6⟩ := atI_rep e4 (show atI xs i = some d from hp)
      exact ix_list value slice pins s σ H _ _ v u Q I rx ry ⟨a, vs, i, w, rfl, h2, .inl (.inl e2), e5, q.same e6⟩ hsub
def cutR (lo hi : Option Int) : D → Option D
  | .tup xs => some (.tup (cutL xs lo hi))
  | .lst xs => some (.lst (cutL xs lo hi))
  | _ => none
def rCut (K : PySem.W.Frag) : V → Option Int → Option Int → Hp → VK → Prop := fun x lo hi H Q => ∃ Z μ d1 d, RepT K H Z μ d1 x ∧ cutR lo hi d1 = some d ∧ Out K H Z μ d Q
theorem cut_rep {K : PySem.W.Frag} {H : Hp} {Z : Zs} {μ : List Addr} {ds : List D} {vs : List V} {lo hi : Option Int} (h : Reps K H Z μ ds vs) : Reps K H Z μ (cutL ds lo hi) (cutV vs lo hi) := by
  unfold cutL cutV
  rw [h.length]
  exact (h.drop _).take _
theorem cut_all {α : Type} {xs : List α} {lo hi : Option Int} (h : HT.sIx xs.length 0 lo = 0 ∧ HT.sIx xs.length xs.length hi = xs.length) : (xs.drop (HT.sIx xs.length 0 lo)).take (HT.sIx xs.length xs.length hi - HT.sIx xs.length 0 lo) = xs := by
  rw [h.1, h.2]; simp
theorem s_cut : SlR X (rCut X.K) := by
  intro pins s σ H x v vl vu lo hi sl Q I rx hs pl pu h
  obtain ⟨Z, μ, d1, d, h1, hp, q⟩ := h
  cases d1 <;> first | exact nomatch (show (none : Option D) = some d from hp) | skip
  case tup xs =>
    cases hp
    obtain ⟨a, vs, rfl, s1, z1, r1⟩ := tupE h1
    refine sl_tupZ pins s σ H _ v vl vu lo hi sl Q I rx hs pl pu ⟨a, vs, rfl, s1, fun hw => ?_, fun hw p ob hd hp => ?_⟩
    · have e : cutL xs lo hi = xs := by
        unfold cutL
        rw [r1.length] at hw
        exact cut_all hw
      rw [e] at q
      exact q.same h1
    · exact q.tup hd (Nat.le_trans (cutV_length vs lo hi) z1) (cut_rep r1) p hp
  case lst xs =>
    cases hp
    obtain ⟨a, vs, rfl, s1, z1, r1⟩ := lstE h1
    exact sl_list pins s σ H _ v vl vu lo hi sl Q I rx hs pl pu ⟨a, vs, rfl, SqL.of' s1, fun p hp => q.lst (Nat.le_trans (cutV_length vs lo hi) z1) (cut_rep r1) p hp⟩
theorem cnt_toPs (x : D) (n m : Nat) (hx : x.flat n = true) : ∀ (ys : List D), D.flats m ys = true → (toPs ys).countP (fun y => PyData.eqv y (toP x)) = ys.countP fun y => D.eqv y x
  | [], _ => rfl
  | y :: ys, h => by
    obtain ⟨h1, h2⟩ := Bool.and_eq_true_iff.mp (show (D.flat m y && D.flats m ys) = true from h)
    show ((toP y) :: toPs ys).countP _ = _
    rw [List.countP_cons, List.countP_cons, cnt_toPs x n m hx ys h2, toP_eqv m n y x h1 hx]
theorem flats_mem {n : Nat} : ∀ {xs : List D} {x : D}, D.flats n xs = true → x ∈ xs → x.flat n = true
  | y :: xs, x, h, hx => by
    obtain ⟨a1, a2⟩ := Bool.and_eq_true_iff.mp (show (D.flat n y && D.flats n xs) = true from h)
    rcases List.mem_cons.mp hx with e | e
    · rw [e]; exact a1
    · exact flats_mem a2 e
/-- a method of a list or a tuple, by its items -/
def rMt (K : PySem.W.Frag) (p : P) (tp : Bool) : V → List V → Hp → VK → Prop := fun x xs H Q => ∃ st Z μ ds es d, StoR K H Z μ st ∧ RepT K H Z μ (if tp then .tup ds else .lst ds) x ∧ RepTs K H Z μ es xs ∧ prim st p (.lst ds :: es) = some d ∧ Out K H Z μ d Q
/-- what stands there: a list, or a tuple -/
theorem mt_items {tp : Bool} {H : Hp} {Z : Zs} {μ : List Addr} {ds : List D} {x : V} (h : RepT X.K H Z μ (if tp then .tup ds else .lst ds) x) : ∃ a vs, x = .ref a ∧ vs.length ≤ sizeLine ∧ Reps X.K H Z μ ds vs ∧ (if tp then SqT X.K H a vs else Rd H a (.lst vs)) := by
  cases tp with
  | false =>
    obtain ⟨a, vs, e, h1, h2, h3⟩ := lstE (show RepT X.K H Z μ (.lst ds) x from h)
    exact ⟨a, vs, e, h2, h3, h1⟩
  | true =>
    obtain ⟨a, vs, e, h1, h2, h3⟩ := tupE (show RepT X.K H Z μ (.tup ds) x from h)
    exact ⟨a, vs, e, h2, h3, h1⟩
theorem m_cnt (hu : X.A.units + 64 < cLine) (tp : Bool) : MtR X (if tp then "tuple.count" else "list.count") (rMt X.K .cnt tp) := by
  intro pins s σ H x xs v us Q I rx rxs h
  obtain ⟨st, Z, μ, ys, es, d, hs, h2, h3, hp, q⟩ := h
  obtain ⟨d2, rfl⟩ : ∃ d2, es = [d2] := by
    match es, hp with
    | [d2], _ => exact ⟨d2, rfl⟩
    | [], hp => exact nomatch (show (none : Option D) = some d from hp)
    | _ :: _ :: _, hp => exact nomatch (show (none : Option D) = some d from hp)
  obtain ⟨y, rfl, h4⟩ := repTs1 h3
  have hp : (if D.flat 60 d2 && D.flats 60 ys then some (D.int ((ys.countP fun y => D.eqv y d2 : Nat) : Int)) else none) = some d := hp
  split at hp
  · rename_i hf
    cases hp
    obtain ⟨f1, f2⟩ := Bool.and_eq_true_iff.mp hf
    obtain ⟨a, vs, rfl, z1, r1, s1⟩ := mt_items h2
    cases (show v = Value.ref a from rx)
    obtain ⟨u, rfl, ru⟩ := vals1 rxs
    obtain ⟨bs, q1⟩ := repT_reads I f1 h4 ru
    have l1 := toP_depth 60 d2 f1
    have ec := cnt_toPs d2 60 60 f1 ys f2
    cases tp with
    | false =>
      obtain ⟨z, its, n, rv, e⟩ := (show Rd H a (.lst vs) from s1).ok I.hok
      obtain ⟨as, q2⟩ := reps_reads I 60 ys vs its f2 r1 rv
      refine SeqAt.count_list_data (vs := its.toArray) ⟨_, e, rfl, n, rfl⟩ (by simpa using q2) q1 (toPs_plain 60 ys f2) (toP_plain 60 d2 f1) (by omega) ⟨.int _, H, I.tok _, ⟨_, rfl⟩, ?_⟩
      rw [ec]
      exact q.same rfl
    | true =>
      obtain ⟨its, rv, e, hz⟩ := I.tuple (show SqT X.K H a vs from s1)
      obtain ⟨as, q2⟩ := reps_reads I 60 ys vs its f2 r1 rv
      refine SeqAt.count_tuple_data (vs := its.toArray) e (by simpa using q2) q1 (toPs_plain 60 ys f2) (toP_plain 60 d2 f1) (by omega) ⟨.int _, H, I.tok _, ⟨_, rfl⟩, ?_⟩
      rw [ec]
      exact q.same rfl
  · cases hp
theorem toPs_len : ∀ ys : List D, (toPs ys).length = ys.length
  | [] => rfl
  | y :: ys => by show (toPs ys).length + 1 = _; rw [toPs_len ys]; rfl
theorem toPs_get : ∀ (ys : List D) (j : Nat) (h : j < (toPs ys).length) (h' : j < ys.length), (toPs ys)[j] = toP ys[j]
  | y :: ys, 0, _, _ => rfl
  | y :: ys, j + 1, h, h' => toPs_get ys j (by simpa [toPs] using h) (by simpa using h')
theorem items_eq {A : Around} {s : Shared} {its : List Value} {ys : List D} {d2 : D} {u : Value} {as bs : List Addr} (f1 : D.flat 60 d2 = true) (f2 : D.flats 60 ys = true) (q2 : ReadsAll s.heap its (toPs ys) as) (q1 : Reads s.heap u (toP d2) bs) (hu : A.units + 1 + min (PyData.depthAll (toPs ys)) (toP d2).depth < cLine) :
    PySem.SeqAt.ItemsEq A.in1 s its (ys.map fun y => D.eqv y d2) u true := by
  have hl : its.length = ys.length := by have := PySem.SeqAt.ReadsAll.length _ _ _ q2; rw [toPs_len] at this; exact this
  refine ⟨by rw [List.length_map]; exact hl, fun j h1 h2 => ?_⟩
  have hj : j < ys.length := by omega
  have e1 := PySem.SeqAt.items_plain (vs := its.toArray) (by simpa using q2) q1 (toPs_plain 60 ys f2) (toP_plain 60 d2 f1) hu its[j] (by simp)
  obtain ⟨h3, e2⟩ := PySem.SeqAt.readOf_at (vs := its.toArray) (by simpa using q2) (toPs_plain 60 ys f2) j (by simpa using h1)
  have e3 : PyData.eqv (PySem.SeqAt.readOf s.heap its[j]) (toP d2) = D.eqv ys[j] d2 := by
    have : PySem.SeqAt.readOf s.heap its[j] = toP ys[j] := by
      have e4 : PySem.SeqAt.readOf s.heap its.toArray[j] = PySem.SeqAt.readOf s.heap its[j] := by simp
      rw [← e4, e2, toPs_get ys j h3 hj]
    rw [this]
    exact toP_eqv 60 60 _ _ (flats_mem f2 (List.getElem_mem hj)) f1
  rw [e3] at e1
  rw [List.getElem_map, Bool.decide_eq_true]
  exact e1
theorem m_ix (hu : X.A.units + 64 < cLine) (tp : Bool) : MtR X (if tp then "tuple.index" else "list.index") (rMt X.K .ixOf tp) := by
  intro pins s σ H x xs v us Q I rx rxs h
  obtain ⟨st, Z, μ, ys, es, d, hs, h2, h3, hp, q⟩ := h
  obtain ⟨d2, rfl⟩ : ∃ d2, es = [d2] := by
    match es, hp with
    | [d2], _ => exact ⟨d2, rfl⟩
    | [], hp => exact nomatch (show (none : Option D) = some d from hp)
    | _ :: _ :: _, hp => exact nomatch (show (none : Option D) = some d from hp)
  obtain ⟨y, rfl, h4⟩ := repTs1 h3
  have hp : (if (D.flat 60 d2 && D.flats 60 ys && ys.any fun y => D.eqv y d2) = true then some (D.int ((ys.map fun y => D.eqv y d2).idxOf true : Nat)) else none) = some d := hp
  split at hp
  · rename_i hf
    cases hp
    simp only [Bool.and_eq_true] at hf
    obtain ⟨⟨f1, f2⟩, f3⟩ := hf
    have hk : true ∈ ys.map fun y => D.eqv y d2 := by
      obtain ⟨y, h1, h2⟩ := List.any_eq_true.mp f3
      exact List.mem_map.mpr ⟨y, h1, h2⟩
    obtain ⟨a, vs, rfl, z1, r1, s1⟩ := mt_items h2
    cases (show v = Value.ref a from rx)
    obtain ⟨u, rfl, ru⟩ := vals1 rxs
    obtain ⟨bs, q1⟩ := repT_reads I f1 h4 ru
    have l1 := toP_depth 60 d2 f1
    cases tp with
    | false =>
      obtain ⟨z, its, n, rv, e⟩ := (show Rd H a (.lst vs) from s1).ok I.hok
      obtain ⟨as, q2⟩ := reps_reads I 60 ys vs its f2 r1 rv
      exact PySem.SeqAt.call_list_index (vs := its) ⟨_, e, rfl, n, rfl⟩ (items_eq f1 f2 q2 q1 (by omega)) (by rw [List.length_map, ← r1.length]; exact z1) hk ⟨.int _, H, I.tok _, ⟨_, rfl⟩, q.same rfl⟩
    | true =>
      obtain ⟨its, rv, e, hz⟩ := I.tuple (show SqT X.K H a vs from s1)
      obtain ⟨as, q2⟩ := reps_reads I 60 ys vs its f2 r1 rv
      exact PySem.SeqAt.call_tuple_index (vs := its) e (items_eq f1 f2 q2 q1 (by omega)) hk ⟨.int _, H, I.tok _, ⟨_, rfl⟩, q.same rfl⟩
  · cases hp
/-! ### t[::-1] -/
theorem adjust_rev (n : Nat) : Builtin.Slice.sliceAdjust none none (-1) (n : Int) = ((n : Int) - 1, -1) := by
  unfold Builtin.Slice.sliceAdjust
  have h1 : ((-1 : Int) < 0) := by omega
  simp only [h1, if_true]
theorem places_rev (n : Nat) : Builtin.Slice.slicePlaces ((n : Int) - 1) (-1) (-1) = n := by
  unfold Builtin.Slice.slicePlaces
  have h1 : ¬ ((-1 : Int) > 0) := by omega
  simp only [h1, if_false]
  split <;> simp <;> omega
theorem pick_rev (xs : Array Value) : ((List.range xs.size).filterMap fun (m : Nat) => xs[(((xs.size : Nat) : Int) - 1 + (m : Int) * (-1)).toNat]?).toArray = xs.toList.reverse.toArray := by
  have e : (List.range xs.size).filterMap (fun (m : Nat) => xs[(((xs.size : Nat) : Int) - 1 + (m : Int) * (-1)).toNat]?) = ((List.range xs.size).map fun k => xs.size - 1 - k).filterMap (xs[·]?) := by
    have gen : ∀ (l : List Nat), (∀ m ∈ l, m < xs.size) → l.filterMap (fun (m : Nat) => xs[(((xs.size : Nat) : Int) - 1 + (m : Int) * (-1)).toNat]?) = (l.map fun k => xs.size - 1 - k).filterMap (xs[·]?) := by
      intro l
      induction l with
      | nil => intro _; rfl
      | cons m l ih =>
        intro h
        have hm := h m List.mem_cons_self
        have e1 : (((xs.size : Nat) : Int) - 1 + (m : Int) * (-1)).toNat = xs.size - 1 - m := by omega
        rw [List.filterMap_cons, List.map_cons, List.filterMap_cons, e1, ih fun k hk => h k (List.mem_cons_of_mem _ hk)]
    exact gen _ fun m hm => List.mem_range.mp hm
  rw [e, PySem.W.krv_range, List.filterMap_reverse, PySem.W.krv_all]
theorem getItem_tuple_rev {prog : Program} {w : World} {A : Around} {E : Value → Shared → Prop} {s : Shared} {t sl : Addr} {items : Array Value} {vs : Value} {Q : Value → Shared → Prop} (ht : IsTup s.heap t items) (hs : s.heap.IsSliceOf sl .none .none vs) (ps : IsPart vs (some (-1)))
    (h : Q (.ref s.heap.objs.size) { s with heap := s.heap.push { cls := .type "tuple", data := .seq items.toList.reverse.toArray } })
    (hsz : items.size ≤ sizeLine) : wpAny (model prog w) A (getItem (.ref t) (.ref sl)) Q E s := by
  obtain ⟨os, hos, hcs, hds⟩ := id hs
  have hTs : s.TypeIs (.ref sl) "slice" := ⟨os, hos, hcs⟩
  have htake : sizeOk (.seq items.toList.reverse.toArray) := by
    show items.toList.reverse.toArray.size ≤ sizeLine
    rw [List.size_toArray, List.length_reverse, Array.length_toList]
    exact hsz
  unfold getItem
  try with_reducible refine wpAny_holding ?_
  first | refine wpAny_bind (wpAny_pure ?_) | skip
  refine wpAny_bind (wpAny_sequenceKey ht.typeIs (by decide) ?_)
  refine wpAny_bind (wpAny_callSpecial?_slot (name := Str.ofString "__getitem__") ht.typeIs PyProof.Rows.slot_tuple_getitem
    (wpAny_call_entry PyProof.Rows.slot_tuple_getitem ht.typeIs PyProof.Rows.entry_tuple_getitem ?_ (PyProof.Rows.args_tuple_getitem _ _)))
  show wpAny _ _ (Builtin.Tuple.tupleItemsOf (.ref t) >>= _) _ _ s
  refine wpAny_bind (PyProof.Rows.tupleItemsOf_ ht ?_)
  refine wpAny_bind (wpAny_typeOf hTs ?_)
  rw [if_pos (by decide)]
  have ap : ∀ {Q : Int × Int × Nat → Shared → Prop}, Q (((items.size : Nat) : Int) - 1, -1, items.size) s → wpAny (model prog w) A.in1 (Builtin.Slice.sliceApplied (.ref sl) (pure ((items.size : Nat) : Int))) Q E s := fun {Q} h => by
    unfold Builtin.Slice.sliceApplied Builtin.Slice.sliceFields
    refine wpAny_bind (wpAny_bind (wpAny_field hos hds (x := .none) rfl (wpAny_bind (wpAny_field hos hds (x := .none) rfl (wpAny_bind (wpAny_field hos hds (x := vs) rfl (wpAny_pure ?_)))))))
    refine wpAny_bind (HT.slicePart_ ps ?_)
    show wpAny _ _ (if ((-1 : Int) == 0) = true then _ else _) _ _ s
    rw [if_neg (by decide)]
    refine wpAny_bind (HT.slicePart_ .none (wpAny_bind (HT.slicePart_ .none (wpAny_bind (wpAny_pure ?_)))))
    show wpAny _ _ (match Builtin.Slice.sliceAdjust none none (-1) ((items.size : Nat) : Int) with | (lo, hi) => pure (lo, (-1 : Int), Builtin.Slice.slicePlaces lo hi (-1))) _ _ s
    rw [adjust_rev]
    show wpAny _ _ (pure (((items.size : Nat) : Int) - 1, (-1 : Int), Builtin.Slice.slicePlaces (((items.size : Nat) : Int) - 1) (-1) (-1))) _ _ s
    rw [places_rev]
    exact wpAny_pure h
  refine wpAny_bind (ap ?_)
  have hno : ¬ (((((items.size : Nat) : Int) - 1) == 0 && (-1 : Int) == 1 && items.size == items.size) = true) := by
    intro q
    rw [Bool.and_eq_true, Bool.and_eq_true] at q
    exact absurd q.1.2 (by decide)
  show wpAny _ _ (if ((((items.size : Nat) : Int) - 1) == 0 && (-1 : Int) == 1 && items.size == items.size) = true then _ else _) _ _ s
  rw [if_neg hno, pick_rev]
  first
    | exact wpAny_bind (m := Builtin.Tuple.tupleExact _) (wpAny_newObj_type (wpAny_pure ⟨_, rfl, wpAny_pure h⟩) htake)
    | exact wpAny_bind (m := Builtin.Tuple.tupleExact _) (wpAny_newObj_type (wpAny_bind (wpAny_pure (wpAny_pure ⟨_, rfl, wpAny_pure h⟩))) htake)
    | exact wpAny_bind (wpAny_bind (m := Builtin.Tuple.tupleExact _) (wpAny_newObj_type (wpAny_pure (wpAny_pure ⟨_, rfl, wpAny_pure h⟩)) htake))
    | exact wpAny_bind (wpAny_bind (m := Builtin.Tuple.tupleExact _) (wpAny_newObj_type (wpAny_pure ⟨_, rfl, wpAny_pure h⟩) htake))
def tRevT (K : PySem.W.Frag) (te : TE) : TE := fun σ H Q => te σ H fun x H1 => ∃ a xs, x = .ref a ∧ SqT K H1 a xs ∧ ∀ (p : Addr) (ob : Obj), ob.dict = none → H1 p = none → Q (.ref p) (upd H1 p (.frz ob (.tup xs.reverse)))
theorem pe_revT {e : Expr} {te : TE} {k : Nat} {p1 p2 p3 pos : Pos} (he : PE X e te) : PE X (.Subscript e (.Slice none none (some (.UnaryOp .USub (.Constant (.int 1) k p1) p2)) p3) pos) (tRevT X.K te) := by
  refine ⟨fun pins s σ H Q I h => ?_⟩
  refine Subscript_ (thn (he.run pins s σ H _ I h) fun v s1 ⟨x, H1, I1, r1, q1⟩ => ?_)
  obtain ⟨a, xs, ex, hx, q⟩ := q1
  subst ex
  cases r1
  have hst : PO X (some (.UnaryOp .USub (.Constant (.int 1) k p1) p2)) (tPart (tUn (rU fun i => .int (-i)) (tC (.int 1)))) := po_some (pe_un un_neg pe_int)
  refine wpAny_Slice ?_
  rw [evalPart_none]
  refine wpAny_pure (wpAny_pure ?_)
  refine thn (hst.run pins s1 σ H1 (fun o H4 => o = some (-1) ∧ H4 = H1) I1 ⟨1, rfl, -1, rfl, rfl, rfl⟩) fun vs s4 ⟨o, H4, I4, ps, eo, e4⟩ => ?_
  subst eo e4
  have I5 : Inv X pins σ H4 { s4 with heap := s4.heap.push { cls := .type "slice", data := .fields #[.none, .none, vs] } } := I4.kept (t' := s4.toks) fun b ob q => Heap.get?_push_of_some _ q
  obtain ⟨its, r, ht, hz⟩ := I5.tuple hx
  have hlen := r.length
  show wpAny (model X.prog X.w) X.A (subscriptTail e (.Slice none none (some (.UnaryOp .USub (.Constant (.int 1) k p1) p2)) p3) (.ref a) (.ref s4.heap.objs.size)) (EP X pins σ Q) X.xe { s4 with heap := s4.heap.push { cls := .type "slice", data := .fields #[.none, .none, vs] } }
  refine tail_any (ops := [.ref a, .ref s4.heap.objs.size]) ht.typeIs (PyProof.Rows.slot_tuple_getitem.lookup) ?_ (by with_unfolding_all rfl)
  refine getItem_tuple_rev ht (Heap.IsSliceOf.new _ .none .none vs) ps ?_ (by rw [List.size_toArray]; omega)
  exact ⟨.ref _, _, laidT (t' := s4.toks) I5 (by rw [List.length_reverse]; exact hz) (by simpa using r.reverse), rfl, q _ _ rfl (I5.hok.fresh (Nat.le_refl _))⟩
end
end Lb

set_option maxRecDepth 100000
set_option maxHeartbeats 1000000
/-! sorted of a tuple of whole numbers: collected, laid as a new list, sorted there -/
namespace Lb
open PySem PySem.Spec PyProof.Rows L2
section
variable {X : Cx}
theorem cr_sortedTI : CallR X (.builtin "sorted") (fun xs H Q => ∃ (a : Addr) (ns : List Int), xs = [V.ref a] ∧ SqT X.K H a (ns.map V.int) ∧ ns.length ≤ 1000 ∧ ∀ (ns' : List Int) (p : Addr), ns'.Perm ns → ns'.Pairwise (· ≤ ·) → H p = none → Q (.ref p) (upd H p (.lst (ns'.map V.int)))) := by
  intro pins s σ H xs us Q I r h
  obtain ⟨a, ns, rfl, sq, hl, q⟩ := h
  obtain ⟨ws, rv, ⟨o, ho, hc, n, hd⟩, _⟩ := I.tuple sq
  rw [Vals.ref1 r]
  have hz : ws.length ≤ sizeLine := by
    rw [← rv.length, List.length_map]
    exact Nat.le_trans hl (by decide)
  refine Calls.call_function_entry kind_sorted plain_sorted entry_sorted (args_sorted1 _) ?_
  unfold Builtin.«sorted»
  have hi := rv.ints
  refine wpAny_bind (m := checkCount "sorted" 1 1 _) (wpAny_pure (wpAny_bind (wpAny_collect_seq a (.inr rfl) ho hc hd ?_ (by simpa using hz))))
  intro g kp
  refine wpAny_bind (wpAny_newList ?_ (by simpa using hz))
  have hob : (g.push { cls := .type "list", data := .seq ws.toArray.toList.toArray }).get? g.objs.size = some (seqObj "list" ws.toArray 0) := by
    have := Heap.get?_push_size (h := g) (o := { cls := .type "list", data := .seq ws.toArray.toList.toArray }) rfl
    simpa using this
  refine wpAny_bind (wpAny_holding (wpAny_call_entry slot_list_sort ⟨_, hob, rfl⟩ entry_list_sort (SrtO.list_sort_ord SrtO.swo_int hob hz (fun h2 => SrtO.ints_sortable hi h2) fun out h1 h2 => ⟨.none, rfl, ?_⟩) (args_list_sort _)))
  obtain ⟨k1, k2, k3⟩ := SrtO.ints_out hi h1 h2
  obtain ⟨ep, he'⟩ := sortedHeap_at (vs := ws) (out := out.toArray) hob
  have I1 : Inv X pins σ H { s with heap := g } := I.kept (t' := s.toks) kp
  refine wpAny_pure ⟨_, rfl, ?_⟩
  refine ⟨.ref g.objs.size, upd H g.objs.size (.lst ((out.map SrtO.iv).map V.int)), I1.laid (t' := s.toks) (fun b u hu => ?_) (Nat.le_refl _) ⟨?_, out, ep, vals_of_ints k1, he'⟩, rfl, q _ _ k2 k3 (I1.hok.fresh (Nat.le_refl _))⟩
  · have hu : g.get? b = some u := hu
    have hlt : b < g.objs.size := Heap.lt_size hu
    rw [sortedHeap_old (Nat.ne_of_lt hlt) (by rw [Heap.size_push]; exact Nat.lt_succ_of_lt hlt)]
    exact Heap.get?_push_of_some _ hu
  · rw [List.length_map, k2.length_eq]
    exact Nat.le_trans hl (by decide)
end
end Lb

set_option maxRecDepth 100000
set_option maxHeartbeats 1000000
/-! sorted of a list of tuples -/
namespace Lb
open PySem PySem.Spec PyProof.Rows L2
open PySem.W (alike alikeAll dataLt EachIs SortsAt AllAlike Sortable dataKind dataKind_inv dataKind_some sortVals_data sorted_data sorted_vals sortVals_length)
theorem each_rep {K : PySem.W.Frag} {H : Hp} {Z : Zs} {μ : List Addr} : ∀ {xs : List D} {vs : List V} {us : List Value}, Reps K H Z μ xs vs → Vals vs us → EachIs (fun (u : Value) (d : D) => ∃ v, Rep K H Z μ d v ∧ RelV v u) us xs
  | [], vs, us, h, r => by
    cases (show vs = [] from h)
    cases r
    exact .nil
  | d :: xs, vs, us, h, r => by
    obtain ⟨v, r', rfl, h1, h2⟩ := (show ∃ v r, vs = v :: r ∧ Rep K H Z μ d v ∧ Reps K H Z μ xs r from h)
    cases r with
    | cons r1 r2 => exact .cons ⟨v, h1, r1⟩ (each_rep h2 r2)
theorem each_back {K : PySem.W.Frag} {H : Hp} {Z : Zs} {μ : List Addr} : ∀ {xs : List D} {us : List Value}, EachIs (fun (u : Value) (d : D) => ∃ v, Rep K H Z μ d v ∧ RelV v u) us xs → ∃ vs, Reps K H Z μ xs vs ∧ Vals vs us
  | [], us, h => by
    cases h
    exact ⟨[], rfl, .nil⟩
  | d :: xs, us, h => by
    cases h with
    | cons h1 h2 =>
      obtain ⟨v, q1, q2⟩ := h1
      obtain ⟨vs, q3, q4⟩ := each_back h2
      exact ⟨v :: vs, ⟨v, vs, rfl, q1, q3⟩, .cons q2 q4⟩
theorem one_sorts {prog : Program} {w : World} {A : Around} {s : Shared} {v : Value} {d : PyData} {as : List Addr} (r : Reads s.heap v d as) (hal : alike d d = true) (hn : d ≠ .none) (hu : A.units + d.depth < cLine) : SortsAt prog w A s (dataKind s.heap [d]) [v] := by
  have all : AllAlike [d] := fun a ha b hb => by
    rw [List.mem_singleton.mp ha, List.mem_singleton.mp hb]; exact hal
  refine ⟨fun u hu => ?_, general', fun E x y a b Q ha hb hq => ?_, fun h2 => absurd h2 (by simp)⟩
  · rw [List.mem_singleton.mp hu]
    exact ⟨_, dataKind_some all (List.mem_singleton.mpr rfl) r⟩
  · obtain ⟨d1, as1, h1, r1, rfl⟩ := dataKind_inv ha
    obtain ⟨d2, as2, h2, r2, rfl⟩ := dataKind_inv hb
    rw [List.mem_singleton.mp h1] at r1 hq
    rw [List.mem_singleton.mp h2] at r2 hq
    exact PySem.W.oneLt_alike (f := false) (fun z => nomatch z) r1 r2 hal hn (by rw [Nat.min_self]; exact hu) hq
theorem toP_nn (d : D) (h : D.alk d d = true) : toP d ≠ .none := by
  cases d with
  | int i => intro z; simp only [toP] at z; cases z
  | tup xs => intro z; simp only [toP] at z; cases z
  | lst xs => intro z; simp only [toP] at z; cases z
  | str x => intro z; simp only [toP] at z; cases z
  | bl b => intro z; simp only [toP] at z; cases z
  | non => simp [D.alk] at h
  | dic t k => simp [D.alk] at h
  | ref n => simp [D.alk] at h
theorem one_sorted {prog : Program} {w : World} {A : Around} {E : Value → Shared → Prop} {s : Shared} {R : Value → D → Prop} {l : Addr} {u : Value} {d : D} {as : List Addr} {Q : Value → Shared → Prop} (hl : s.heap.IsList l [u].toArray) (e1 : Reads s.heap u (toP d) as) (hda : alike (toP d) (toP d) = true) (hn : toP d ≠ .none) (hu : A.units + 2 + (toP d).depth < cLine) (h1 : R u d) (AA : AllAlike ([d].map toP))
    (fin : ∀ out : List Value, EachIs R out (srtD [d]) → Q (.ref (s.heap.objs.size + 1)) { s with heap := sortedAll s.heap [u] out.toArray }) : wpAny (model prog w) A (call (.builtin "sorted") [.ref l]) Q E s := by
  have e2 : Reads (PySem.W.sortingHeap (PySem.W.copyHeap s.heap [u]) (s.heap.objs.size + 1) [u]) u (toP d) as := PyProof.Rows.Reads.keeps (fun _ _ => PySem.W.sorting_copy_old) e1
  have sv := sortVals_data (h' := (PySem.W.sortingHeap (PySem.W.copyHeap s.heap [u]) (s.heap.objs.size + 1) [u])) (enc := toP) false (EachIs.cons h1 .nil) (.cons ⟨as, e2⟩ .nil) AA
  have S := one_sorts (prog := prog) (w := w) (A := A.in1.in1) (s := { s with heap := PySem.W.sortingHeap (PySem.W.copyHeap s.heap [u]) (s.heap.objs.size + 1) [u] }) e2 hda hn (by show A.units + 1 + 1 + _ < _; omega)
  exact sorted_vals hl S (by rw [sizeLine_eq]; show 1 ≤ _; omega) (fin _ sv)
section
variable {X : Cx}
theorem cr_sortedD (hu : X.A.units + 64 < cLine) : CallR X (.builtin "sorted") (fun vs H Q => ∃ (a : Addr) (ws : List V) (xs : List D) (Z : Zs) (μ : List Addr), vs = [V.ref a] ∧ Rd H a (.lst ws) ∧ Reps X.K H Z μ xs ws ∧ ws.length ≤ sizeLine ∧ srtOk xs = true ∧ ∀ (p : Addr) (zs : List V), H p = none → zs.length ≤ sizeLine → Reps X.K H Z μ (srtD xs) zs → Q (.ref p) (upd H p (.lst zs))) := by
  intro pins s σ H vs us Q I r h
  obtain ⟨a, ws, xs, Z, μ, rfl, hrd, rp, hz, ok, q⟩ := h
  obtain ⟨its, rv, hl, hz2⟩ := I.list (SqL.of' hrd)
  rw [Vals.ref1 r]
  simp only [srtOk, Bool.and_eq_true, Bool.or_eq_true, decide_eq_true_eq] at ok
  obtain ⟨⟨⟨hf, hal⟩, hlen⟩, hsh⟩ := ok
  have ea := each_rep rp rv
  have hfl : ∀ d ∈ xs, D.flat 50 d = true := fun d hd => flats_mem hf hd
  have er : EachIs (fun (u : Value) (d : D) => ∃ as, Reads s.heap u (toP d) as) its xs := by
    have key : ∀ {us : List Value} {ds : List D}, (∀ d ∈ ds, D.flat 50 d = true) → EachIs (fun (u : Value) (d : D) => ∃ v, Rep X.K H Z μ d v ∧ RelV v u) us ds → EachIs (fun (u : Value) (d : D) => ∃ as, Reads s.heap u (toP d) as) us ds := fun {us ds} hd h => by
      induction h with
      | nil => exact .nil
      | cons h1 _ ih =>
        obtain ⟨v, q1, q2⟩ := h1
        exact .cons (rep_reads I 50 _ v _ (hd _ List.mem_cons_self) q1 q2) (ih fun d h => hd d (List.mem_cons_of_mem _ h))
    exact key hfl ea
  have alk : ∀ d ∈ xs, ∀ e ∈ xs, alike (toP d) (toP e) = true := fun d hd e he => by
    have := List.all_eq_true.mp (List.all_eq_true.mp hal d hd) e he
    exact (toP_lt 50 50 d e (hfl d hd) (hfl e he) this).1
  have AA : AllAlike (xs.map toP) := fun d hd e he => by
    obtain ⟨d', hd', rfl⟩ := List.mem_map.mp hd
    obtain ⟨e', he', rfl⟩ := List.mem_map.mp he
    exact alk d' hd' e' he'
  have dep : ∀ d ∈ xs, (toP d).depth ≤ 50 := fun d hd => toP_depth 50 d (hfl d hd)
  have fin : ∀ out : List Value, EachIs (fun (u : Value) (d : D) => ∃ v, Rep X.K H Z μ d v ∧ RelV v u) out (srtD xs) → EP X pins σ Q (.ref (s.heap.objs.size + 1)) { s with heap := sortedAll s.heap its out.toArray } := fun out ho => by
    obtain ⟨zs, z1, z2⟩ := each_back ho
    obtain ⟨ep, he'⟩ := PyProof.Rows.sortedAll_at s.heap its out.toArray
    have hzl : zs.length ≤ sizeLine := by
      rw [z1.length]
      unfold srtD
      rw [List.length_mergeSort, ← rp.length]; exact hz
    exact ⟨.ref _, upd H (s.heap.objs.size + 1) (.lst zs), I.laid (t' := s.toks) (fun _ _ => PyProof.Rows.sortedAll_old) (Nat.le_succ _) ⟨hzl, out, ep, z2, he'⟩, rfl, q _ _ (I.hok.fresh (Nat.le_succ _)) hzl z1⟩
  have hxl : xs.length ≤ sizeLine := by rw [← rp.length]; exact hz
  rcases hsh with hsh | hsh
  · refine sorted_data (enc := toP) hl.isList ea er AA (.inl fun d hd => ?_) hxl (fun d hd => by have := dep d hd; omega) fun out h1 h2 => fin out h2
    obtain ⟨d', hd', rfl⟩ := List.mem_map.mp hd
    have := List.all_eq_true.mp hsh d' hd'
    match d', this with
    | .tup (x :: r), _ => exact ⟨toP x, toPs r, rfl⟩
  · cases ea with
    | nil => exact sorted_data (enc := toP) hl.isList .nil .nil AA (.inl fun d hd => by simp at hd) (Nat.zero_le _) (fun d hd => by simp at hd) fun out h1 h2 => fin out h2
    | @cons u d us ds h1 h2 =>
      cases h2 with
      | cons _ _ => exact absurd hsh (by simp)
      | nil =>
        obtain ⟨as, e1⟩ : ∃ as, Reads s.heap u (toP d) as := by
          cases er with
          | cons h _ => exact h
        have hda := alk d List.mem_cons_self d List.mem_cons_self
        have hdd := dep d List.mem_cons_self
        have hnn : toP d ≠ .none := toP_nn d (List.all_eq_true.mp (List.all_eq_true.mp hal d List.mem_cons_self) d List.mem_cons_self)
        exact one_sorted hl.isList e1 hda hnn (by omega) h1 AA fin
end
end Lb

set_option maxRecDepth 100000
set_option maxHeartbeats 1000000
/-! min, max, sorted, dict, int -/
namespace Lb
open PySem PySem.Spec PyProof.Rows L2
open PySem.W (alike alikeAll dataLt minD maxD)
theorem intsR {K : PySem.W.Frag} {H : Hp} {Z : Zs} {μ : List Addr} : ∀ ns : List Int, Reps K H Z μ (ns.map D.int) (ns.map V.int)
  | [] => rfl
  | n :: ns => ⟨_, _, rfl, rfl, intsR ns⟩
mutual
theorem toP_inj : ∀ (n m : Nat) (a b : D), a.flat n = true → b.flat m = true → toP a = toP b → a = b
  | _, m, .non, b, _, h, e => by
    cases b with
    | non => rfl
    | dic _ _ => cases m <;> cases h
    | ref _ => cases m <;> cases h
    | _ => cases e
  | _, m, .bl _, b, _, h, e => by cases b <;> first | (cases e; rfl) | cases e
  | _, m, .int _, b, _, h, e => by cases b <;> first | (cases e; rfl) | cases e
  | _, m, .str _, b, _, h, e => by cases b <;> first | (cases e; rfl) | cases e
  | 0, _, .tup _, _, h, _, _ => by cases h
  | 0, _, .lst _, _, h, _, _ => by cases h
  | n + 1, m, .tup xs, b, h, h', e => by
    cases b with
    | tup ys =>
      cases m with
      | zero => cases h'
      | succ m => rw [toPs_inj n m xs ys h h' (PyData.tuple.inj e)]
    | _ => cases e
  | n + 1, m, .lst xs, b, h, h', e => by
    cases b with
    | lst ys =>
      cases m with
      | zero => cases h'
      | succ m => rw [toPs_inj n m xs ys h h' (PyData.list.inj e)]
    | _ => cases e
  | 0, _, .dic _ _, _, h, _, _ => by cases h
  | _ + 1, _, .dic _ _, _, h, _, _ => by cases h
  | 0, _, .ref _, _, h, _, _ => by cases h
  | _ + 1, _, .ref _, _, h, _, _ => by cases h
theorem toPs_inj : ∀ (n m : Nat) (xs ys : List D), D.flats n xs = true → D.flats m ys = true → toPs xs = toPs ys → xs = ys
  | _, _, [], [], _, _, _ => rfl
  | _, _, [], _ :: _, _, _, e => by cases e
  | _, _, _ :: _, [], _, _, e => by cases e
  | n, m, x :: xs, y :: ys, h, h', e => by
    obtain ⟨a1, a2⟩ := Bool.and_eq_true_iff.mp (show (D.flat n x && D.flats n xs) = true from h)
    obtain ⟨b1, b2⟩ := Bool.and_eq_true_iff.mp (show (D.flat m y && D.flats m ys) = true from h')
    have e : toP x :: toPs xs = toP y :: toPs ys := e
    rw [toP_inj n m x y a1 b1 (List.cons.inj e).1, toPs_inj n m xs ys a2 b2 (List.cons.inj e).2]
end
theorem vals_back : ∀ {vs : List V} {us : List Value} {i : Nat} {u : Value}, Vals vs us → us[i]? = some u → ∃ v, vs[i]? = some v ∧ RelV v u
  | _, _, i, u, .nil, e => by simp at e
  | _, _, 0, u, .cons h _, e => by simp at e; subst e; exact ⟨_, rfl, h⟩
  | _, _, i + 1, u, .cons _ t, e => by simpa using vals_back t (by simpa using e)
theorem toPs_map : ∀ xs : List D, toPs xs = xs.map toP
  | [] => rfl
  | x :: xs => by rw [toPs, toPs_map xs]; rfl
theorem alkAll_ok {xs : List D} (h : alkAll xs = true) : D.flats 60 xs = true ∧ ∀ a ∈ xs, ∀ b ∈ xs, D.alk a b = true := by
  unfold alkAll at h
  simp only [Bool.and_eq_true, List.all_eq_true] at h
  exact h
theorem alk_non {a b : D} (h : D.alk a b = true) : toP a ≠ .none := by
  cases a with
  | int i => simp [toP]
  | tup xs => simp [toP]
  | lst xs => simp [toP]
  | _ => cases b <;> cases h
theorem alkAll_alike {xs : List D} (h : alkAll xs = true) : PySem.W.AlikeAll (toPs xs) := by
  obtain ⟨f, g⟩ := alkAll_ok h
  rw [toPs_map]
  refine ⟨fun x hx y hy => ?_, fun x hx => ?_⟩
  · obtain ⟨a, ha, rfl⟩ := List.mem_map.mp hx
    obtain ⟨b, hb, rfl⟩ := List.mem_map.mp hy
    exact (toP_lt 60 60 a b (flats_mem f ha) (flats_mem f hb) (g a ha b hb)).1
  · obtain ⟨a, ha, rfl⟩ := List.mem_map.mp hx
    exact alk_non (g a ha a ha)
theorem minv_toP {all : List D} (h : alkAll all = true) : ∀ (xs : List D) (x : D), x ∈ all → (∀ y ∈ xs, y ∈ all) → D.minv x xs ∈ all ∧ minD (toP x) (toPs xs) = toP (D.minv x xs)
  | [], x, hx, _ => ⟨hx, rfl⟩
  | y :: xs, x, hx, hy => by
    obtain ⟨f, g⟩ := alkAll_ok h
    have hy1 := hy y List.mem_cons_self
    have e := (toP_lt 60 60 y x (flats_mem f hy1) (flats_mem f hx) (g y hy1 x hx)).2
    have e1 : D.minv x (y :: xs) = D.minv (if D.ltv y x = true then y else x) xs := rfl
    have e2 : minD (toP x) (toPs (y :: xs)) = minD (if dataLt (toP y) (toP x) = true then toP y else toP x) (toPs xs) := rfl
    rw [e1, e2, e]
    cases D.ltv y x with
    | true => exact minv_toP h xs y hy1 fun z hz => hy z (List.mem_cons_of_mem _ hz)
    | false => exact minv_toP h xs x hx fun z hz => hy z (List.mem_cons_of_mem _ hz)
theorem maxv_toP {all : List D} (h : alkAll all = true) : ∀ (xs : List D) (x : D), x ∈ all → (∀ y ∈ xs, y ∈ all) → D.maxv x xs ∈ all ∧ maxD (toP x) (toPs xs) = toP (D.maxv x xs)
  | [], x, hx, _ => ⟨hx, rfl⟩
  | y :: xs, x, hx, hy => by
    obtain ⟨f, g⟩ := alkAll_ok h
    have hy1 := hy y List.mem_cons_self
    have e := (toP_lt 60 60 x y (flats_mem f hx) (flats_mem f hy1) (g x hx y hy1)).2
    have e1 : D.maxv x (y :: xs) = D.maxv (if D.ltv x y = true then y else x) xs := rfl
    have e2 : maxD (toP x) (toPs (y :: xs)) = maxD (if dataLt (toP x) (toP y) = true then toP y else toP x) (toPs xs) := rfl
    rw [e1, e2, e]
    cases D.ltv x y with
    | true => exact maxv_toP h xs y hy1 fun z hz => hy z (List.mem_cons_of_mem _ hz)
    | false => exact maxv_toP h xs x hx fun z hz => hy z (List.mem_cons_of_mem _ hz)
section
variable {X : Cx} {pins : List (Addr × Obj)} {σ : L2.St} {H : Hp} {s : Shared} {Z : Zs} {μ : List Addr}
theorem min_core (hc : X.calm = true) (hu : X.A.units + 64 < cLine) (I : Inv X pins σ H s) {a : Addr} {vs : List V} {x : D} {xs : List D} {Q : VK} (hl : Rd H a (.lst vs)) (r : Reps X.K H Z μ (x :: xs) vs) (ha : alkAll (x :: xs) = true) (q : ∀ v, Rep X.K H Z μ (D.minv x xs) v → Q v H) :
    wpAny (model X.prog X.w) X.A (call (.builtin "min") [.ref a]) (EP X pins σ Q) X.xe s := by
  obtain ⟨f, _⟩ := alkAll_ok ha
  obtain ⟨its, rv, p, hz⟩ := I.list (SqL.of' hl)
  obtain ⟨as, rd⟩ := reps_reads I 60 (x :: xs) vs its f r rv
  have dp := toPs_depth 60 (x :: xs) f
  refine PySem.W.min_list_data (I.ok.hd hc) p.isList (x := toP x) (xs := toPs xs) (show ReadsAll s.heap its.toArray.toList (toP x :: toPs xs) as from rd) (alkAll_alike ha) (by show X.A.units + 1 + PyData.depthAll (toPs (x :: xs)) < cLine; omega) fun i v h' tk bs hv hr hk => ?_
  have hv' : its[i]? = some v := by simpa using hv
  obtain ⟨w, hw, rw'⟩ := vals_back rv hv'
  obtain ⟨d, hd, rp⟩ := r.get hw
  have hdm : d ∈ x :: xs := List.mem_of_getElem? hd
  obtain ⟨m1, m2⟩ := minv_toP ha xs x List.mem_cons_self fun y hy => List.mem_cons_of_mem _ hy
  obtain ⟨cs, hr2⟩ := rep_reads (Z := Z) (μ := μ) I 60 d w v (flats_mem f hdm) rp rw'
  have hr3 := Reads.keeps hk hr2
  have e := SeqAt.plain_unique (toP d) (PySem.W.minD (toP x) (toPs xs)) v cs bs (toP_plain 60 d (flats_mem f hdm)) hr3 hr
  rw [m2] at e
  have e' := toP_inj 60 60 d _ (flats_mem f hdm) (flats_mem f m1) e
  subst e'
  exact ⟨w, H, I.kept (t' := tk) hk, rw', q w rp⟩
theorem max_core (hc : X.calm = true) (hu : X.A.units + 64 < cLine) (I : Inv X pins σ H s) {a : Addr} {vs : List V} {x : D} {xs : List D} {Q : VK} (hl : Rd H a (.lst vs)) (r : Reps X.K H Z μ (x :: xs) vs) (ha : alkAll (x :: xs) = true) (q : ∀ v, Rep X.K H Z μ (D.maxv x xs) v → Q v H) :
    wpAny (model X.prog X.w) X.A (call (.builtin "max") [.ref a]) (EP X pins σ Q) X.xe s := by
  obtain ⟨f, _⟩ := alkAll_ok ha
  obtain ⟨its, rv, p, hz⟩ := I.list (SqL.of' hl)
  obtain ⟨as, rd⟩ := reps_reads I 60 (x :: xs) vs its f r rv
  have dp := toPs_depth 60 (x :: xs) f
  refine PySem.W.max_list_data (I.ok.hd hc) p.isList (x := toP x) (xs := toPs xs) (show ReadsAll s.heap its.toArray.toList (toP x :: toPs xs) as from rd) (alkAll_alike ha) (by show X.A.units + 1 + PyData.depthAll (toPs (x :: xs)) < cLine; omega) fun i v h' tk bs hv hr hk => ?_
  have hv' : its[i]? = some v := by simpa using hv
  obtain ⟨w, hw, rw'⟩ := vals_back rv hv'
  obtain ⟨d, hd, rp⟩ := r.get hw
  have hdm : d ∈ x :: xs := List.mem_of_getElem? hd
  obtain ⟨m1, m2⟩ := maxv_toP ha xs x List.mem_cons_self fun y hy => List.mem_cons_of_mem _ hy
  obtain ⟨cs, hr2⟩ := rep_reads (Z := Z) (μ := μ) I 60 d w v (flats_mem f hdm) rp rw'
  have hr3 := Reads.keeps hk hr2
  have e := SeqAt.plain_unique (toP d) (PySem.W.maxD (toP x) (toPs xs)) v cs bs (toP_plain 60 d (flats_mem f hdm)) hr3 hr
  rw [m2] at e
  have e' := toP_inj 60 60 d _ (flats_mem f hdm) (flats_mem f m1) e
  subst e'
  exact ⟨w, H, I.kept (t' := tk) hk, rw', q w rp⟩
end
section
variable {X : Cx} {pins : List (Addr × Obj)} {σ : L2.St} {H : Hp} {s : Shared} {Z : Zs} {μ : List Addr}
theorem min_coreT (hc : X.calm = true) (hu : X.A.units + 64 < cLine) (I : Inv X pins σ H s) {a : Addr} {vs : List V} {x : D} {xs : List D} {Q : VK} (hl : SqT X.K H a vs) (r : Reps X.K H Z μ (x :: xs) vs) (ha : alkAll (x :: xs) = true) (q : ∀ v, Rep X.K H Z μ (D.minv x xs) v → Q v H) :
    wpAny (model X.prog X.w) X.A (call (.builtin "min") [.ref a]) (EP X pins σ Q) X.xe s := by
  obtain ⟨f, _⟩ := alkAll_ok ha
  obtain ⟨its, rv, p, hz⟩ := I.tuple hl
  obtain ⟨as, rd⟩ := reps_reads I 60 (x :: xs) vs its f r rv
  have dp := toPs_depth 60 (x :: xs) f
  refine PySem.W.min_tuple_data (I.ok.hd hc) p (x := toP x) (xs := toPs xs) (show ReadsAll s.heap its.toArray.toList (toP x :: toPs xs) as from rd) (alkAll_alike ha) (by show X.A.units + 1 + PyData.depthAll (toPs (x :: xs)) < cLine; omega) fun i v h' tk bs hv hr hk => ?_
  have hv' : its[i]? = some v := by simpa using hv
  obtain ⟨w, hw, rw'⟩ := vals_back rv hv'
  obtain ⟨d, hd, rp⟩ := r.get hw
  have hdm : d ∈ x :: xs := List.mem_of_getElem? hd
  obtain ⟨m1, m2⟩ := minv_toP ha xs x List.mem_cons_self fun y hy => List.mem_cons_of_mem _ hy
  obtain ⟨cs, hr2⟩ := rep_reads (Z := Z) (μ := μ) I 60 d w v (flats_mem f hdm) rp rw'
  have hr3 := Reads.keeps hk hr2
  have e := SeqAt.plain_unique (toP d) (PySem.W.minD (toP x) (toPs xs)) v cs bs (toP_plain 60 d (flats_mem f hdm)) hr3 hr
  rw [m2] at e
  have e' := toP_inj 60 60 d _ (flats_mem f hdm) (flats_mem f m1) e
  subst e'
  exact ⟨w, H, I.kept (t' := tk) hk, rw', q w rp⟩
theorem max_coreT (hc : X.calm = true) (hu : X.A.units + 64 < cLine) (I : Inv X pins σ H s) {a : Addr} {vs : List V} {x : D} {xs : List D} {Q : VK} (hl : SqT X.K H a vs) (r : Reps X.K H Z μ (x :: xs) vs) (ha : alkAll (x :: xs) = true) (q : ∀ v, Rep X.K H Z μ (D.maxv x xs) v → Q v H) :
    wpAny (model X.prog X.w) X.A (call (.builtin "max") [.ref a]) (EP X pins σ Q) X.xe s := by
  obtain ⟨f, _⟩ := alkAll_ok ha
  obtain ⟨its, rv, p, hz⟩ := I.tuple hl
  obtain ⟨as, rd⟩ := reps_reads I 60 (x :: xs) vs its f r rv
  have dp := toPs_depth 60 (x :: xs) f
  refine PySem.W.max_tuple_data (I.ok.hd hc) p (x := toP x) (xs := toPs xs) (show ReadsAll s.heap its.toArray.toList (toP x :: toPs xs) as from rd) (alkAll_alike ha) (by show X.A.units + 1 + PyData.depthAll (toPs (x :: xs)) < cLine; omega) fun i v h' tk bs hv hr hk => ?_
  have hv' : its[i]? = some v := by simpa using hv
  obtain ⟨w, hw, rw'⟩ := vals_back rv hv'
  obtain ⟨d, hd, rp⟩ := r.get hw
  have hdm : d ∈ x :: xs := List.mem_of_getElem? hd
  obtain ⟨m1, m2⟩ := maxv_toP ha xs x List.mem_cons_self fun y hy => List.mem_cons_of_mem _ hy
  obtain ⟨cs, hr2⟩ := rep_reads (Z := Z) (μ := μ) I 60 d w v (flats_mem f hdm) rp rw'
  have hr3 := Reads.keeps hk hr2
  have e := SeqAt.plain_unique (toP d) (PySem.W.maxD (toP x) (toPs xs)) v cs bs (toP_plain 60 d (flats_mem f hdm)) hr3 hr
  rw [m2] at e
  have e' := toP_inj 60 60 d _ (flats_mem f hdm) (flats_mem f m1) e
  subst e'
  exact ⟨w, H, I.kept (t' := tk) hk, rw', q w rp⟩
end
section
variable {X : Cx}
theorem c_minL (hc : X.calm = true) (hu : X.A.units + 64 < cLine) : CallR X (.builtin "min") (rP X.K .minL) := by
  intro pins s σ H xs us Q I r h
  obtain ⟨st, Z, μ, ds, d, hs, h1, hp, q⟩ := h
  obtain ⟨d1, rfl⟩ := un1 hp rfl (fun a b r => by cases a <;> first | rfl | (rename_i l; cases l <;> rfl))
  obtain ⟨x, rfl, h2⟩ := repTs1 h1
  clear h1
  obtain ⟨u, rfl, ru⟩ := vals1 r
  cases d1 <;> first | exact nomatch (show (none : Option D) = some d from hp) | skip
  case tup ys =>
    cases ys with
    | nil => exact nomatch (show (none : Option D) = some d from hp)
    | cons y ys =>
      replace hp : (if alkAll (y :: ys) then some (D.minv y ys) else none) = some d := hp
      split at hp
      · rename_i ha
        cases hp
        obtain ⟨a, vs, rfl, s1, z1, r1⟩ := tupE h2
        cases ru
        exact min_coreT hc hu I s1 r1 ha fun v rp => q.same rp
      · cases hp
  case lst ys =>
    cases ys with
    | nil => exact nomatch (show (none : Option D) = some d from hp)
    | cons y ys =>
      replace hp : (if alkAll (y :: ys) then some (D.minv y ys) else none) = some d := hp
      split at hp
      · rename_i ha
        cases hp
        obtain ⟨a, vs, rfl, s1, z1, r1⟩ := lstE h2
        cases ru
        exact min_core hc hu I s1 r1 ha fun v rp => q.same rp
      · cases hp
  case ref n =>
    obtain ⟨a, ea, rfl⟩ := (show ∃ a, μ[n]? = some a ∧ x = .ref a from h2)
    cases ru
    replace hp : ((st[n]?).bind fun ys => match ys with
      | x :: xs => if alkAll (x :: xs) then some (D.minv x xs) else none
      | [] => none) = some d := hp
    cases en : st[n]? with
    | none => rw [en] at hp; cases hp
    | some ys =>
      rw [en] at hp
      cases ys with
      | nil => cases hp
      | cons y ys =>
        replace hp : (if alkAll (y :: ys) then some (D.minv y ys) else none) = some d := hp
        split at hp
        · rename_i ha
          cases hp
          obtain ⟨b, vs, e1, e2, e3, e4⟩ := hs.at_ n _ en
          rw [ea] at e1
          cases e1
          exact min_core hc hu I (.inl e2) e4 ha fun v rp => q.same rp
        · cases hp
theorem c_maxL (hc : X.calm = true) (hu : X.A.units + 64 < cLine) : CallR X (.builtin "max") (rP X.K .maxL) := by
  intro pins s σ H xs us Q I r h
  obtain ⟨st, Z, μ, ds, d, hs, h1, hp, q⟩ := h
  obtain ⟨d1, rfl⟩ := un1 hp rfl (fun a b r => by cases a <;> first | rfl | (rename_i l; cases l <;> rfl))
  obtain ⟨x, rfl, h2⟩ := repTs1 h1
  clear h1
  obtain ⟨u, rfl, ru⟩ := vals1 r
  cases d1 <;> first | exact nomatch (show (none : Option D) = some d from hp) | skip
  case tup ys =>
    cases ys with
    | nil => exact nomatch (show (none : Option D) = some d from hp)
    | cons y ys =>
      replace hp : (if alkAll (y :: ys) then some (D.maxv y ys) else none) = some d := hp
      split at hp
      · rename_i ha
        cases hp
        obtain ⟨a, vs, rfl, s1, z1, r1⟩ := tupE h2
        cases ru
        exact max_coreT hc hu I s1 r1 ha fun v rp => q.same rp
      · cases hp
  case lst ys =>
    cases ys with
    | nil => exact nomatch (show (none : Option D) = some d from hp)
    | cons y ys =>
      replace hp : (if alkAll (y :: ys) then some (D.maxv y ys) else none) = some d := hp
      split at hp
      · rename_i ha
        cases hp
        obtain ⟨a, vs, rfl, s1, z1, r1⟩ := lstE h2
        cases ru
        exact max_core hc hu I s1 r1 ha fun v rp => q.same rp
      · cases hp
theorem c_int1 : CallR X (.type "int") (rP X.K .int1) := by
  intro pins s σ H xs us Q I r h
  obtain ⟨st, Z, μ, ds, d, hs, h1, hp, q⟩ := h
  obtain ⟨d1, rfl⟩ := un1 hp rfl (fun a b r => by cases a <;> rfl)
  obtain ⟨x, rfl, h2⟩ := repTs1 h1
  clear h1
  cases d1 <;> first | exact nomatch (show (none : Option D) = some d from hp) | skip
  case bl b =>
    cases hp
    cases (show x = .bl b from h2)
    exact call_int1 pins s σ H _ us Q I r (.inr ⟨b, rfl, q.same rfl⟩)
  case int i =>
    cases hp
    cases (show x = .int i from h2)
    exact call_int1 pins s σ H _ us Q I r (.inl ⟨i, rfl, q.same rfl⟩)
end
theorem insI_perm (i : Int) : ∀ ns : List Int, (insI i ns).Perm (i :: ns)
  | [] => .refl _
  | j :: r => by
    unfold insI
    split
    · exact .refl _
    · exact ((insI_perm i r).cons j).trans (.swap ..)
theorem insI_mem {i k : Int} {ns : List Int} (h : k ∈ insI i ns) : k = i ∨ k ∈ ns := by
  have := (insI_perm i ns).mem_iff.mp h
  exact List.mem_cons.mp this
theorem insI_sorted (i : Int) : ∀ {ns : List Int}, ns.Pairwise (· ≤ ·) → (insI i ns).Pairwise (· ≤ ·)
  | [], _ => by simp [insI]
  | j :: r, h => by
    obtain ⟨h1, h2⟩ := List.pairwise_cons.mp h
    unfold insI
    split
    · rename_i hij
      refine List.pairwise_cons.mpr ⟨fun k hk => ?_, h⟩
      rcases List.mem_cons.mp hk with e | e
      · rw [e]; exact hij
      · exact Int.le_trans hij (h1 k e)
    · rename_i hij
      refine List.pairwise_cons.mpr ⟨fun k hk => ?_, insI_sorted i h2⟩
      rcases insI_mem hk with e | e
      · rw [e]; omega
      · exact h1 k e
theorem sortI_perm : ∀ ns : List Int, (sortI ns).Perm ns
  | [] => .refl _
  | n :: ns => (insI_perm n (sortI ns)).trans ((sortI_perm ns).cons n)
theorem sortI_sorted : ∀ ns : List Int, (sortI ns).Pairwise (· ≤ ·)
  | [] => List.Pairwise.nil
  | n :: ns => insI_sorted n (sortI_sorted ns)
theorem sortI_eq {ns ms : List Int} (hp : ms.Perm ns) (hs : ms.Pairwise (· ≤ ·)) : ms = sortI ns := PySem.W.ksm_same (hp.trans (sortI_perm ns).symm) hs (sortI_sorted ns)
theorem intsOf_eq : ∀ {xs : List D} {ns : List Int}, intsOf xs = some ns → xs = ns.map D.int
  | [], ns, h => by cases h; rfl
  | .int b :: xs, ns, h => by
    have h' : (intsOf xs).map (b :: ·) = some ns := h
    cases e : intsOf xs with
    | none => rw [e] at h'; cases h'
    | some ms => rw [e] at h'; cases h'; rw [intsOf_eq e]; rfl
  | .non :: _, _, h => by cases h
  | .bl _ :: _, _, h => by cases h
  | .str _ :: _, _, h => by cases h
  | .tup _ :: _, _, h => by cases h
  | .lst _ :: _, _, h => by cases h
  | .dic _ _ :: _, _, h => by cases h
  | .ref _ :: _, _, h => by cases h
theorem keys_ints : ∀ {ks : List (Key × V)} {ns : List Int}, ks.map (fun p => kD p.1) = ns.map D.int → ks.map (·.1) = ns.map Sum.inl
  | [], [], _ => rfl
  | [], _ :: _, e => by cases e
  | _ :: _, [], e => by cases e
  | (k, v) :: ks, n :: ns, e => by
    simp only [List.map_cons, List.cons.injEq] at e ⊢
    refine ⟨?_, keys_ints e.2⟩
    cases k with
    | inl i => exact congrArg Sum.inl (D.int.inj e.1)
    | inr x => cases e.1
section
variable {X : Cx}
theorem c_sortedF (hc : X.calm = true) (hu : X.A.units + 64 < cLine) : CallR X (.builtin "sorted") (rPF X.K .sorted) := by
  intro pins s σ H xs us Q I r h
  obtain ⟨st, Z, μ, ds, d, hs, h1, hp, q⟩ := h
  obtain ⟨d1, rfl⟩ := un1 hp rfl (fun a b r => by cases a <;> first | rfl | (rename_i t l; cases t <;> rfl))
  obtain ⟨x, rfl, h2⟩ := repTs1 h1
  clear h1
  cases d1 <;> first | exact nomatch (show (none : Option D) = some d from hp) | skip
  case lst ys =>
    replace hp : (match intsOf ys with
      | some ns => if ns.length < 64 then some (D.lst ((sortI ns).map .int)) else none
      | none => if srtOk ys = true then some (D.lst (srtD ys)) else none) = some d := hp
    obtain ⟨a, vs, rfl, s1, z1, r1⟩ := lstE h2
    cases e : intsOf ys with
    | none =>
      rw [e] at hp
      replace hp : (if srtOk ys = true then some (D.lst (srtD ys)) else none) = some d := hp
      split at hp
      · rename_i hl
        cases hp
        exact cr_sortedD hu pins s σ H _ us Q I r ⟨a, vs, ys, Z, μ, rfl, s1, r1, z1, hl, fun p zs hn hz hr => q p _ _ rfl hn hz hr⟩
      · cases hp
    | some ns =>
      rw [e] at hp
      replace hp : (if ns.length < 64 then some (D.lst ((sortI ns).map .int)) else none) = some d := hp
      split at hp
      · rename_i hl
        cases hp
        obtain rfl := intsOf_eq e
        rw [reps_int r1] at s1
        refine cr_sortedI pins s σ H _ us Q I r ⟨a, ns, rfl, SqL.of' s1, fun ns' p hp hs hn => ?_⟩
        rw [sortI_eq hp hs]
        exact q p _ _ rfl hn (by rw [List.length_map, (sortI_perm ns).length_eq]; exact Nat.le_trans (Nat.le_of_lt hl) (by decide)) (intsR _)
      · cases hp
  case tup ys =>
    replace hp : ((intsOf ys).bind fun ns => if ns.length < 64 then some (D.lst ((sortI ns).map .int)) else none) = some d := hp
    cases e : intsOf ys with
    | none => rw [e] at hp; cases hp
    | some ns =>
      rw [e] at hp
      replace hp : (if ns.length < 64 then some (D.lst ((sortI ns).map .int)) else none) = some d := hp
      split at hp
      · rename_i hl
        cases hp
        obtain rfl := intsOf_eq e
        obtain ⟨a, vs, rfl, s1, z1, r1⟩ := (show ∃ a vs, x = V.ref a ∧ TupAt X.K H Z a vs ∧ vs.length ≤ sizeLine ∧ Reps X.K H Z μ (ns.map D.int) vs from h2)
        rw [reps_int r1] at s1
        refine cr_sortedTI pins s σ H _ us Q I r ⟨a, ns, rfl, s1.sq, by omega, fun ns' p hp hs hn => ?_⟩
        rw [sortI_eq hp hs]
        exact q p _ _ rfl hn (by rw [List.length_map, (sortI_perm ns).length_eq]; exact Nat.le_trans (Nat.le_of_lt hl) (by decide)) (intsR _)
      · cases hp
  case dic t kvs =>
    cases t with
    | true => exact nomatch (show (none : Option D) = some d from hp)
    | false =>
    replace hp : ((intsOf (kvs.map (·.1))).bind fun ns => if ns.length < 64 then some (D.lst ((sortI ns).map .int)) else none) = some d := hp
    cases e : intsOf (kvs.map (·.1)) with
    | none => rw [e] at hp; cases hp
    | some ns =>
      rw [e] at hp
      replace hp : (if ns.length < 64 then some (D.lst ((sortI ns).map .int)) else none) = some d := hp
      split at hp
      · rename_i hl
        cases hp
        obtain ⟨a, vs, rfl, _, ⟨ks, q1, e1, rfl⟩, r2⟩ := dicE h2
        have e2 := intsOf_eq e
        rw [show kvs.map (·.1) = kvs.map Prod.fst from rfl, e1] at e2
        refine call_sortedDI hc pins s σ H _ us Q I r ⟨a, ks, ns, rfl, q1, keys_ints e2, hl, fun ns' p hp hs hn => ?_⟩
        rw [sortI_eq hp hs]
        exact q p _ _ rfl hn (by rw [List.length_map, (sortI_perm ns).length_eq]; exact Nat.le_trans (Nat.le_of_lt hl) (by decide)) (intsR _)
      · cases hp
end
end Lb

set_option maxRecDepth 100000
set_option maxHeartbeats 400000
namespace Lb
open PySem PySem.Spec PyProof.Rows L2
section
variable {X : Cx} {c : Cfg} {Γ : List Fn} {own own1 own2 own3 own' : List Nat} {mu mu1 mu2 : Bool} {a b e : Expr} {ta tb tc : T} {pos : Pos}
theorem Rel.out {K : PySem.W.Frag} {s : S} {G : Gh} {σ : L2.St} {H : Hp} {d : D} {Q : VK} (r : Rel K own s G σ H) (q : ∀ v H' G', Rel K own s G' σ H' → Stp own own mu G H G' H' → Rep K H' G'.Z G'.μ d v → Q v H') : Out K H G.Z G.μ d Q := fun v H' Z' g rp => by
  obtain ⟨r', t'⟩ := r.grow (mu := mu) g
  exact q v H' _ r' t' rp
theorem Rel.outF {K : PySem.W.Frag} {s : S} {G : Gh} {σ : L2.St} {H : Hp} {d : D} {Q : VK} (r : Rel K own s G σ H) (q : ∀ v H' G', Rel K own s G' σ H' → Stp own own mu G H G' H' → ResM K G' H' H d v .fr → Q v H') : OutF K H G.Z G.μ d Q := fun a vs ds e ha hz rp => by
  obtain ⟨r', t', nz, nm⟩ := r.laidF (mu := mu) (o := .lst vs) ha
  subst e
  refine q _ _ G r' t' ⟨a, ⟨rfl, vs, upd_same, hz, ?_⟩, nz, nm, ha⟩
  exact Reps.mono (fun _ z => z) (fun p u z q => (r.rd t' z q)) (fun _ _ q => q) _ _ rp
theorem truV {K : PySem.W.Frag} {H : Hp} {Z : Zs} {μ : List Addr} {d : D} {x : V} {k : Bool} (h : RepT K H Z μ d x) (e : Lb.truthy d = some k) : TruV K x H k := by
  cases d with
  | non => cases (show x = .non from h); cases e; exact rfl
  | bl b => cases (show x = .bl b from h); cases e; exact rfl
  | int i => cases (show x = .int i from h); cases e; exact rfl
  | str z =>
    cases (show x = .str z from h)
    have e : (if z.length ≤ sizeLine then some ((z.length : Int) != 0) else none) = some k := e
    split at e
    · rename_i hz; cases e; exact ⟨hz, rfl⟩
    · cases e
  | tup ds =>
    obtain ⟨a, vs, rfl, s1, _, r1⟩ := tupE h
    cases e
    refine .inr (.inl ⟨vs, s1, ?_⟩)
    have := r1.length
    cases vs <;> cases ds <;> first | rfl | simp at this
  | lst ds =>
    obtain ⟨a, vs, rfl, s1, _, r1⟩ := lstE h
    cases e
    refine .inl ⟨vs, SqL.of' s1, ?_⟩
    have := r1.length
    cases vs <;> cases ds <;> first | rfl | simp at this
  | dic _ _ => cases e
  | ref _ => cases e
theorem mk1 {K : PySem.W.Frag} {H : Hp} {Z : Zs} {μ : List Addr} {d : D} {v : V} (h : RepT K H Z μ d v) : RepTs K H Z μ [d] [v] := ⟨v, [], rfl, h, rfl⟩
theorem mk2 {K : PySem.W.Frag} {H : Hp} {Z : Zs} {μ : List Addr} {d e : D} {v u : V} (h : RepT K H Z μ d v) (h' : RepT K H Z μ e u) : RepTs K H Z μ [d, e] [v, u] := ⟨v, [u], rfl, h, u, [], rfl, h', rfl⟩
theorem Post.opt2 {α : Type} {G : Gh} {σ : L2.St} {H : Hp} {k : α → S → Prop} {o : Option α} {s : S} (h : Post c own G σ H k (Lb.opt s o)) : ∃ a, o = some a ∧ k a s := Post.opt h

/-! ### operators -/
theorem se_bin (hK : c.K = X.K) {op : Operator} {p : P} (ho : OpR X (binaryOp op) (rP2 X.K p)) (ha : PE X a (tE c own own1 false .pk (ev Γ ta))) (hb : PE X b (tE c own1 own2 false .pk (ev Γ tb))) : PE X (.BinOp a op b pos) (tE c own own2 false .sh (ev Γ (.prim p [ta, tb]))) := imE (pe_op ho ha hb) fun σ H Q ⟨s, G, r, q⟩ => by
  simp only [ev_prim, evs_cons, evs_nil, Post.bind, Post.ok] at q
  refine ⟨s, G, r, q.mono fun d1 s1 q v1 H1 G1 r1 t1 rp1 => ⟨s1, G1, r1, (q.move t1).mono fun d2 s2 q v2 H2 G2 r2 t2 rp2 => ?_⟩⟩
  obtain ⟨d, hp, q⟩ := q.opt2
  rw [← hK]
  exact ⟨_, _, _, _, _, _, r2.sto, r1.repT t2 rp1, rp2, hp, r2.out (mu := false) fun v H' G' r' t' rp => q v H' G' r' ((t1.trans t2).trans t') rp⟩
theorem se_binF (hK : c.K = X.K) (ho : OpR X (binaryOp .Mult) (fun x y H Q => ∃ as, (∃ Z μ, RepT X.K H Z μ (.lst as) x) ∧ rPF X.K .mul [x, y] H Q)) {as : List T} (ha : PE X a (tE c own own1 false .pk (ev Γ (.lst as)))) (hb : PE X b (tE c own1 own2 false .pk (ev Γ tb))) :
    PE X (.BinOp a .Mult b pos) (tE c own own2 false .fr (ev Γ (.prim .mul [.lst as, tb]))) := imE (pe_op ho ha hb) fun σ H Q ⟨s, G, r, q⟩ => by
  simp only [ev_prim, evs_cons, evs_nil, Post.bind, Post.ok] at q
  have hl : Post c own G σ H (fun d1 s1 => ∃ ds, d1 = .lst ds) (ev Γ (.lst as) s) := by
    rw [ev_lst, Post.bind]
    rw [ev_lst, Post.bind] at q
    exact q.mono fun ds s1 _ => ⟨ds, rfl⟩
  have q2 : Post c own G σ H (fun d1 s1 => (∃ ds, d1 = .lst ds) ∧ Post c own G σ H (fun d2 s2 => Post c own G σ H (fun d s' => ∀ v H' G', Rel c.K own2 s' G' σ H' → Stp own own2 false G H G' H' → ResM c.K G' H' H d v .fr → Q v H') (Lb.opt s2 (prim s2.st .mul [d1, d2]))) (ev Γ tb s1)) (ev Γ (.lst as) s) := by
    cases em : ev Γ (.lst as) s with
    | ok d1 s1 => rw [em] at q hl; exact ⟨hl, q⟩
    | exc x s1 => rw [em] at q; exact q
    | fail => rw [em] at q; exact q
  refine ⟨s, G, r, q2.mono fun d1 s1 q v1 H1 G1 r1 t1 rp1 => ⟨s1, G1, r1, (q.2.move t1).mono fun d2 s2 q' v2 H2 G2 r2 t2 rp2 => ?_⟩⟩
  obtain ⟨ds, rfl⟩ := q.1
  obtain ⟨d, hp, q'⟩ := q'.opt2
  rw [← hK]
  refine ⟨ds, ⟨_, _, r1.repT (d := .lst ds) t2 rp1⟩, _, _, _, _, _, r2.sto, mk2 (r1.repT (d := .lst ds) t2 rp1) rp2, hp, ?_⟩
  refine r2.outF (mu := false) fun v H' G' r' t' rp => q' v H' G' r' ((t1.trans t2).trans t') ?_
  obtain ⟨x, h1, h2, h3, h4⟩ := rp
  exact ⟨x, h1, h2, h3, (t1.trans t2).fresh h4⟩
theorem se_neg (hK : c.K = X.K) (ha : PE X a (tE c own own1 false .pk (ev Γ ta))) : PE X (.UnaryOp .USub a pos) (tE c own own1 false .sh (ev Γ (.prim .neg [ta]))) := imE (pe_un o_neg ha) fun σ H Q ⟨s, G, r, q⟩ => by
  simp only [ev_prim, evs_cons, evs_nil, Post.bind, Post.ok] at q
  refine ⟨s, G, r, q.mono fun d1 s1 q v1 H1 G1 r1 t1 rp1 => ?_⟩
  obtain ⟨d, hp, q⟩ := q.opt2
  rw [← hK]
  exact ⟨_, _, _, _, _, r1.sto, mk1 rp1, hp, r1.out (mu := false) fun v H' G' r' t' rp => q v H' G' r' (t1.trans t') rp⟩
theorem cmp_pre (hK : c.K = X.K) {p : P} {σ : L2.St} {H : Hp} {Q : VK} (h : tE c own own2 false .sh (ev Γ (.prim p [ta, tb])) σ H Q) : tOp (rP2 X.K p) (tE c own own1 false .pk (ev Γ ta)) (tE c own1 own2 false .pk (ev Γ tb)) σ H Q := by
  obtain ⟨s, G, r, q⟩ := h
  simp only [ev_prim, evs_cons, evs_nil, Post.bind, Post.ok] at q
  refine ⟨s, G, r, q.mono fun d1 s1 q v1 H1 G1 r1 t1 rp1 => ⟨s1, G1, r1, (q.move t1).mono fun d2 s2 q v2 H2 G2 r2 t2 rp2 => ?_⟩⟩
  obtain ⟨d, hp, q⟩ := q.opt2
  rw [← hK]
  exact ⟨_, _, _, _, _, _, r2.sto, r1.repT t2 rp1, rp2, hp, r2.out (mu := false) fun v H' G' r' t' rp => q v H' G' r' ((t1.trans t2).trans t') rp⟩
theorem se_cmp (hK : c.K = X.K) {op : CmpOp} {p : P} (ho : OpR X (compareOp op) (rP2 X.K p)) (ha : PE X a (tE c own own1 false .pk (ev Γ ta))) (hb : PE X b (tE c own1 own2 false .pk (ev Γ tb))) (hm : behindInMarks op b = false) :
    PE X (.Compare a [op] [b] pos) (tE c own own2 false .sh (ev Γ (.prim p [ta, tb]))) := imE (pe_cmpR ho ha hb hm) fun σ H Q h => cmp_pre hK h
/-- is None, is not None -/
theorem isN_pre (hK : c.K = X.K) {p : P} {σ : L2.St} {H : Hp} {Q : VK} (h : tE c own own1 false .sh (ev Γ (.prim p [ta])) σ H Q) : tOp (fun x y H Q => y = .non ∧ rP X.K p [x] H Q) (tE c own own1 false .pk (ev Γ ta)) (tC .non) σ H Q := by
  obtain ⟨s, G, r, q⟩ := h
  simp only [ev_prim, evs_cons, evs_nil, Post.bind, Post.ok] at q
  refine ⟨s, G, r, q.mono fun d1 s1 q v1 H1 G1 r1 t1 rp1 => ?_⟩
  obtain ⟨d, hp, q⟩ := q.opt2
  refine ⟨rfl, ?_⟩
  rw [← hK]
  exact ⟨_, _, _, _, _, r1.sto, mk1 rp1, hp, r1.out (mu := false) fun v H' G' r' t' rp => q v H' G' r' (t1.trans t') rp⟩
theorem se_isN (hK : c.K = X.K) {op : CmpOp} {p : P} (ho : OpR X (compareOp op) (fun x y H Q => y = .non ∧ rP X.K p [x] H Q)) (ha : PE X a (tE c own own1 false .pk (ev Γ ta))) {j : Nat} {pos' : Pos} (hm : behindInMarks op (.Constant .none j pos') = false) :
    PE X (.Compare a [op] [.Constant .none j pos'] pos) (tE c own own1 false .sh (ev Γ (.prim p [ta]))) := imE (pe_cmpR ho ha pe_non hm) fun σ H Q h => isN_pre hK h
/-- a primitive that gives truths -/
def BoolP (p : P) : Prop := ∀ st ds d, prim st p ds = some d → ∃ k, d = .bl k
theorem chain_pre (hK : c.K = X.K) {p p' : P} (hb1 : BoolP p) (ho3 : own3 = own2) {σ : L2.St} {H : Hp} {Q : VK} (h : tE c own own3 false .sh (ev Γ (.chain p p' ta tb tc)) σ H Q) : tChain (rP2 X.K p) (rP2 X.K p') (tE c own own1 false .pk (ev Γ ta)) (tE c own1 own2 false .pk (ev Γ tb)) (tE c own2 own3 false .pk (ev Γ tc)) σ H Q := by
  obtain ⟨s, G, r, q⟩ := h
  subst ho3
  simp only [ev_chain, Post.bind, Post.ok] at q
  refine ⟨s, G, r, q.mono fun d1 s1 q v1 H1 G1 r1 t1 rp1 => ⟨s1, G1, r1, (q.move t1).mono fun d2 s2 q v2 H2 G2 r2 t2 rp2 => ?_⟩⟩
  obtain ⟨d, hp, q⟩ := q.opt2
  obtain ⟨k, rfl⟩ := hb1 _ _ _ hp
  obtain ⟨k', hk, q⟩ := q.opt2
  cases hk
  rw [← hK]
  refine ⟨_, _, _, _, _, _, r2.sto, r1.repT t2 rp1, rp2, hp, r2.out (mu := false) fun v H' G' r' t' rp => ?_⟩
  cases (show v = .bl k from rp)
  refine ⟨k, rfl, ?_⟩
  cases k with
  | false =>
    rw [if_neg Bool.false_ne_true] at q ⊢
    exact q _ H' G' r' ((t1.trans t2).trans t') rfl
  | true =>
    rw [if_pos rfl] at q ⊢
    simp only [Post.bind] at q
    refine ⟨_, G', r', ((q.move (t1.trans t2)).move t').mono fun d3 s3 q v3 H3 G3 r3 t3 rp3 => ?_⟩
    obtain ⟨d, hp, q⟩ := q.opt2
    exact ⟨_, _, _, _, _, _, r3.sto, r'.repT t3 (r2.repT t' rp2), rp3, hp, r3.out (mu := false) fun v H'' G'' r'' t'' rp => q v H'' G'' r'' ((((t1.trans t2).trans t').trans t3).trans t'') rp⟩
theorem se_chain (hK : c.K = X.K) {op op' : CmpOp} {p p' : P} {e3 : Expr} (ho : OpR X (compareOp op) (rP2 X.K p)) (ho' : OpR X (compareOp op') (rP2 X.K p')) (hb1 : BoolP p) (ha : PE X a (tE c own own1 false .pk (ev Γ ta))) (hb : PE X b (tE c own1 own2 false .pk (ev Γ tb)))
    (hc : PE X e3 (tE c own2 own3 false .pk (ev Γ tc))) (ho3 : own3 = own2) (hm : lastMarks [op, op'] [b, e3] = false) : PE X (.Compare a [op, op'] [b, e3] pos) (tE c own own3 false .sh (ev Γ (.chain p p' ta tb tc))) := imE (pe_chain ho ho' ha hb hc hm) fun σ H Q h => chain_pre hK hb1 ho3 h

/-! ### truths -/
/-- the test of a value -/
def evT (Γ : List Fn) (t : T) : S → R S Bool := fun s => (ev Γ t s).bind fun x s => opt s (Lb.truthy x)
/-- what gives a truth, as a test -/
theorem tT_bool {t : T} (hB : ∀ s d s', ev Γ t s = .ok d s' → ∃ k, d = .bl k) {σ : L2.St} {H : Hp} {Q : Bool → Hp → Prop} (h : tT c own own' mu (evT Γ t) σ H Q) : tE c own own' mu .sh (ev Γ t) σ H (fun x H' => ∃ k, x = .bl k ∧ Q k H') := by
  obtain ⟨s, G, r, q⟩ := h
  refine ⟨s, G, r, ?_⟩
  unfold evT at q
  cases e : ev Γ t s with
  | fail => rw [e] at q; exact q
  | exc => rw [e] at q; exact q
  | ok d s1 =>
    rw [e] at q
    obtain ⟨k, rfl⟩ := hB s d s1 e
    intro v H' G' r' t' rp
    exact ⟨k, rp, q H' G' r' t'⟩
theorem bool_prim {p : P} {as : List T} (hb : BoolP p) (s : S) (d : D) (s' : S) (h : ev Γ (.prim p as) s = .ok d s') : ∃ k, d = .bl k := by
  rw [ev_prim] at h
  cases e : evs Γ as s with
  | fail => rw [e] at h; cases h
  | exc => rw [e] at h; cases h
  | ok ds s1 =>
    rw [e, R.bind_ok] at h
    cases e2 : prim s1.st p ds with
    | none => rw [e2] at h; cases h
    | some x => rw [e2] at h; cases h; exact hb _ _ _ e2
theorem bool_chain {p p' : P} (hb : BoolP p) (hb' : BoolP p') (s : S) (d : D) (s' : S) (h : ev Γ (.chain p p' ta tb tc) s = .ok d s') : ∃ k, d = .bl k := by
  rw [ev_chain] at h
  cases e : ev Γ ta s with
  | fail => rw [e] at h; cases h
  | exc => rw [e] at h; cases h
  | ok x s1 =>
    rw [e, R.bind_ok] at h
    cases e1 : ev Γ tb s1 with
    | fail => rw [e1] at h; cases h
    | exc => rw [e1] at h; cases h
    | ok y s2 =>
      rw [e1, R.bind_ok] at h
      cases e2 : prim s2.st p [x, y] with
      | none => rw [e2] at h; cases h
      | some u =>
        obtain ⟨k, rfl⟩ := hb _ _ _ e2
        rw [e2, opt_some, R.bind_ok, truthy_bl, opt_some, R.bind_ok] at h
        cases k with
        | false => rw [if_neg (by decide)] at h; cases h; exact ⟨_, rfl⟩
        | true =>
          rw [if_pos rfl] at h
          cases e3 : ev Γ tc s2 with
          | fail => rw [e3] at h; cases h
          | exc => rw [e3] at h; cases h
          | ok z s3 =>
            rw [e3, R.bind_ok] at h
            cases e4 : prim s3.st p' [y, z] with
            | none => rw [e4] at h; cases h
            | some w => rw [e4] at h; cases h; exact hb' _ _ _ e4
theorem st_cmp (hK : c.K = X.K) {op : CmpOp} {p : P} (ho : OpR X (compareOp op) (rP2 X.K p)) (hb1 : BoolP p) (ha : PE X a (tE c own own1 false .pk (ev Γ ta))) (hb : PE X b (tE c own1 own2 false .pk (ev Γ tb))) (hm : behindInMarks op b = false) :
    PT X (.Compare a [op] [b] pos) (tT c own own2 false (evT Γ (.prim p [ta, tb]))) := imT (pt_cmpR ho ha hb hm) fun σ H Q h => cmp_pre hK (tT_bool (bool_prim hb1) h)
theorem st_isN (hK : c.K = X.K) {op : CmpOp} {p : P} (ho : OpR X (compareOp op) (fun x y H Q => y = .non ∧ rP X.K p [x] H Q)) (hb1 : BoolP p) (ha : PE X a (tE c own own1 false .pk (ev Γ ta))) {j : Nat} {pos' : Pos} (hm : behindInMarks op (.Constant .none j pos') = false) :
    PT X (.Compare a [op] [.Constant .none j pos'] pos) (tT c own own1 false (evT Γ (.prim p [ta]))) := imT (pt_cmpR ho ha pe_non hm) fun σ H Q h => isN_pre hK (tT_bool (bool_prim hb1) h)
theorem st_chain (hK : c.K = X.K) {op op' : CmpOp} {p p' : P} {e3 : Expr} (ho : OpR X (compareOp op) (rP2 X.K p)) (ho' : OpR X (compareOp op') (rP2 X.K p')) (hb1 : BoolP p) (hb2 : BoolP p') (ha : PE X a (tE c own own1 false .pk (ev Γ ta))) (hb : PE X b (tE c own1 own2 false .pk (ev Γ tb)))
    (hc : PE X e3 (tE c own2 own3 false .pk (ev Γ tc))) (ho3 : own3 = own2) (hm : lastMarks [op, op'] [b, e3] = false) : PT X (.Compare a [op, op'] [b, e3] pos) (tT c own own3 false (evT Γ (.chain p p' ta tb tc))) := imT (pt_chain ho ho' ha hb hc hm) fun σ H Q h => chain_pre hK hb1 ho3 (tT_bool (bool_chain hb1 hb2) h)
theorem st_val (hK : c.K = X.K) (ha : PE X a (tE c own own' mu .pk (ev Γ ta))) (he : ∀ whole, isTrue a X.env whole = (do let v ← whole; standAt a.pos; holding [v] (PySem.truthy v))) : PT X a (tT c own own' mu (evT Γ ta)) := imT (pt_truth ha he) fun σ H Q ⟨s, G, r, q⟩ => by
  simp only [evT, Post.bind, Post.ok] at q
  refine ⟨s, G, r, q.mono fun d1 s1 q v1 H1 G1 r1 t1 rp1 => ?_⟩
  obtain ⟨k, hk, q⟩ := q.opt2
  rw [← hK]
  exact ⟨k, truV rp1 hk, q H1 G1 r1 t1⟩
theorem st_not (ha : PT X a (tT c own own' mu (evT Γ ta))) : PT X (.UnaryOp .Not a pos) (tT c own own' mu (evT Γ (.prim .pnot [ta]))) := imT (pt_not ha) fun σ H Q ⟨s, G, r, q⟩ => by
  simp only [evT, ev_prim, evs_cons, evs_nil, Post.bind, Post.ok] at q
  refine ⟨s, G, r, ?_⟩
  simp only [evT, Post.bind]
  refine q.mono fun d1 s1 q => ?_
  obtain ⟨d, hp, q⟩ := q.opt2
  have hp : (Lb.truthy d1).map (fun b => D.bl (!b)) = some d := hp
  cases e1 : Lb.truthy d1 with
  | none => rw [e1] at hp; cases hp
  | some k =>
    rw [e1] at hp; cases hp
    exact q
theorem se_not (hK : c.K = X.K) (ha : PE X a (tE c own own' false .pk (ev Γ ta))) : PE X (.UnaryOp .Not a pos) (tE c own own' false .sh (ev Γ (.prim .pnot [ta]))) := imE (pe_notT ha) fun σ H Q ⟨s, G, r, q⟩ => by
  simp only [ev_prim, evs_cons, evs_nil, Post.bind, Post.ok] at q
  refine ⟨s, G, r, q.mono fun d1 s1 q v1 H1 G1 r1 t1 rp1 => ?_⟩
  obtain ⟨d, hp, q⟩ := q.opt2
  have hp : (Lb.truthy d1).map (fun b => D.bl (!b)) = some d := hp
  cases e1 : Lb.truthy d1 with
  | none => rw [e1] at hp; cases hp
  | some k =>
    rw [e1] at hp; cases hp
    rw [← hK]
    exact ⟨k, truV rp1 e1, q _ H1 G1 r1 t1 rfl⟩
theorem se_one {op : PySem.BoolOp} {m : S → R S D} {md : Md} (h : PE X a (tE c own own' mu md m)) : PE X (.BoolOp op [a] pos) (tE c own own' mu md m) := pe_one h
theorem se_and (hK : c.K = X.K) {rest : List Expr} (ha : PE X a (tE c own own1 false .sh (ev Γ ta))) (hb : PE X (.BoolOp .And (b :: rest) pos) (tE c own1 own2 false .sh (ev Γ tb))) (ho : own2 = own1) : PE X (.BoolOp .And (a :: b :: rest) pos) (tE c own own2 false .sh (ev Γ (.and ta tb))) := imE (pe_andT ha hb) fun σ H Q ⟨s, G, r, q⟩ => by
  subst ho
  simp only [ev_and, Post.bind, Post.ok] at q
  refine ⟨s, G, r, q.mono fun d1 s1 q v1 H1 G1 r1 t1 rp1 => ?_⟩
  obtain ⟨k, hk, q⟩ := q.opt2
  rw [← hK]
  refine ⟨k, truV (Rep.top r1.mz rp1) hk, ?_⟩
  cases k with
  | false => rw [if_neg Bool.false_ne_true] at q ⊢; exact q _ H1 G1 r1 t1 rp1
  | true =>
    rw [if_pos rfl] at q ⊢
    exact ⟨s1, G1, r1, (q.move t1).mono fun d2 s2 q v2 H2 G2 r2 t2 rp2 => q v2 H2 G2 r2 (t1.trans t2) rp2⟩
theorem se_or (hK : c.K = X.K) {rest : List Expr} (ha : PE X a (tE c own own1 false .sh (ev Γ ta))) (hb : PE X (.BoolOp .Or (b :: rest) pos) (tE c own1 own2 false .sh (ev Γ tb))) (ho : own2 = own1) : PE X (.BoolOp .Or (a :: b :: rest) pos) (tE c own own2 false .sh (ev Γ (.or ta tb))) := imE (pe_orT ha hb) fun σ H Q ⟨s, G, r, q⟩ => by
  subst ho
  simp only [ev_or, Post.bind, Post.ok] at q
  refine ⟨s, G, r, q.mono fun d1 s1 q v1 H1 G1 r1 t1 rp1 => ?_⟩
  obtain ⟨k, hk, q⟩ := q.opt2
  rw [← hK]
  refine ⟨k, truV (Rep.top r1.mz rp1) hk, ?_⟩
  cases k with
  | true => rw [if_pos rfl] at q ⊢; exact q _ H1 G1 r1 t1 rp1
  | false =>
    rw [if_neg Bool.false_ne_true] at q ⊢
    exact ⟨s1, G1, r1, (q.move t1).mono fun d2 s2 q v2 H2 G2 r2 t2 rp2 => q v2 H2 G2 r2 (t1.trans t2) rp2⟩
theorem st_one {op : PySem.BoolOp} {m : S → R S Bool} (h : PT X a (tT c own own' mu m)) : PW X (.BoolOp op [a] pos) (tT c own own' mu m) := by
  cases op
  · exact pw_and1 h
  · exact pw_or1 h
theorem st_and {rest : List Expr} (ha : PT X a (tT c own own1 false (evT Γ ta))) (hb : PW X (.BoolOp .And (b :: rest) pos) (tT c own1 own2 false (evT Γ tb))) (ho : own2 = own1) : PW X (.BoolOp .And (a :: b :: rest) pos) (tT c own own2 false (evT Γ (.and ta tb))) := imW (pw_and ha hb) fun σ H Q ⟨s, G, r, q⟩ => by
  subst ho
  simp only [evT, ev_and, Post.bind, Post.ok] at q
  refine ⟨s, G, r, ?_⟩
  simp only [evT, Post.bind]
  refine q.mono fun d1 s1 q => ?_
  obtain ⟨k, hk, q⟩ := q.opt2
  rw [hk]
  intro H1 G1 r1 t1
  cases k with
  | false =>
    rw [if_neg Bool.false_ne_true] at q ⊢
    obtain ⟨k2, hk2, q⟩ := Post.opt2 (show Post c own G σ H _ (Lb.opt s1 (Lb.truthy d1)) from q)
    rw [hk] at hk2; cases hk2
    exact q H1 G1 r1 t1
  | true =>
    rw [if_pos rfl] at q ⊢
    refine ⟨s1, G1, r1, ?_⟩
    simp only [evT, Post.bind]
    exact (q.move t1).mono fun d2 s2 q => by
      obtain ⟨k2, hk2, q⟩ := q.opt2
      rw [hk2]
      exact fun H2 G2 r2 t2 => q H2 G2 r2 (t1.trans t2)
theorem st_or {rest : List Expr} (ha : PT X a (tT c own own1 false (evT Γ ta))) (hb : PW X (.BoolOp .Or (b :: rest) pos) (tT c own1 own2 false (evT Γ tb))) (ho : own2 = own1) : PW X (.BoolOp .Or (a :: b :: rest) pos) (tT c own own2 false (evT Γ (.or ta tb))) := imW (pw_or ha hb) fun σ H Q ⟨s, G, r, q⟩ => by
  subst ho
  simp only [evT, ev_or, Post.bind, Post.ok] at q
  refine ⟨s, G, r, ?_⟩
  simp only [evT, Post.bind]
  refine q.mono fun d1 s1 q => ?_
  obtain ⟨k, hk, q⟩ := q.opt2
  rw [hk]
  intro H1 G1 r1 t1
  cases k with
  | true =>
    rw [if_pos rfl] at q ⊢
    obtain ⟨k2, hk2, q⟩ := Post.opt2 (show Post c own G σ H _ (Lb.opt s1 (Lb.truthy d1)) from q)
    rw [hk] at hk2; cases hk2
    exact q H1 G1 r1 t1
  | false =>
    rw [if_neg Bool.false_ne_true] at q ⊢
    refine ⟨s1, G1, r1, ?_⟩
    simp only [evT, Post.bind]
    exact (q.move t1).mono fun d2 s2 q => by
      obtain ⟨k2, hk2, q⟩ := q.opt2
      rw [hk2]
      exact fun H2 G2 r2 t2 => q H2 G2 r2 (t1.trans t2)
theorem se_ite {e1 e2 : Expr} (hc : PT X a (tT c own own1 false (evT Γ tc))) (ha : PE X e1 (tE c own1 own2 mu .sh (ev Γ ta))) (hb : PE X e2 (tE c own1 own2 mu .sh (ev Γ tb))) : PE X (.IfExp a e1 e2 pos) (tE c own own2 mu .sh (ev Γ (.ite tc ta tb))) := imE (pe_ifExp hc ha hb) fun σ H Q ⟨s, G, r, q⟩ => by
  simp only [ev_ite, Post.bind, Post.ok] at q
  refine ⟨s, G, r, ?_⟩
  simp only [evT, Post.bind]
  refine q.mono fun d1 s1 q => ?_
  obtain ⟨k, hk, q⟩ := q.opt2
  rw [hk]
  intro H1 G1 r1 t1
  cases k with
  | true =>
    rw [if_pos rfl] at q ⊢
    exact ⟨s1, G1, r1, (q.move t1).mono fun d2 s2 q v H2 G2 r2 t2 rp => q v H2 G2 r2 (t1.trans t2) rp⟩
  | false =>
    rw [if_neg Bool.false_ne_true] at q ⊢
    exact ⟨s1, G1, r1, (q.move t1).mono fun d2 s2 q v H2 G2 r2 t2 rp => q v H2 G2 r2 (t1.trans t2) rp⟩
end
end Lb

set_option maxRecDepth 100000
set_option maxHeartbeats 400000
namespace Lb
open PySem PySem.Spec PyProof.Rows L2
section
variable {X : Cx} {c : Cfg} {Γ : List Fn} {own own1 own2 own3 own' : List Nat} {mu mu1 mu2 : Bool} {a b e : Expr} {es : List Expr} {ta tb tc : T} {as : List T} {p1 pos : Pos} {x : Str}
/-! ### built-ins -/
theorem se_callB (hK : c.K = X.K) {id : String} {p : P} (hc : CallR X (.builtin id) (rP X.K p)) (hg : Gl X x) (hm : X.mg x = none) (hv : bootBuiltins x = some (.builtin id)) (ha : PA X (e :: es) (tAs c own own1 false true (evs Γ as))) (hn : x ≠ "__name__") (hdb : (x == ("__debug__" : Str)) = false)
    (he : starEach (e :: es) X.env = (false, eval e X.env) :: starEach es X.env) (hpl : (backTo pos (starEach es X.env)).any (·.1) = false) : PE X (.Call (.Name x p1) (e :: es) [] pos) (tE c own own1 false .sh (ev Γ (.prim p as))) := imE (pe_callB hc hg hm hv ha hn hdb he hpl) fun σ H Q ⟨s, G, r, q⟩ => by
  simp only [ev_prim, Post.bind] at q
  refine ⟨s, G, r, q.mono fun ds s1 q vs H1 G1 r1 t1 rp1 => ?_⟩
  obtain ⟨d, hp, q⟩ := q.opt2
  rw [← hK]
  exact ⟨_, _, _, _, _, r1.sto, rp1, hp, r1.out (mu := false) fun v H' G' r' t' rp => q v H' G' r' (t1.trans t') rp⟩
theorem se_callTy (hK : c.K = X.K) {id : String} {p : P} (hc : CallR X (.type id) (rP X.K p)) (hg : Gl X x) (hm : X.mg x = none) (hv : bootBuiltins x = some (.type id)) (ha : PA X (e :: es) (tAs c own own1 false true (evs Γ as))) (hn : x ≠ "__name__") (hdb : (x == ("__debug__" : Str)) = false)
    (he : starEach (e :: es) X.env = (false, eval e X.env) :: starEach es X.env) (hpl : (backTo pos (starEach es X.env)).any (·.1) = false) : PE X (.Call (.Name x p1) (e :: es) [] pos) (tE c own own1 false .sh (ev Γ (.prim p as))) := imE (pe_callTy hc hg hm hv ha hn hdb he hpl) fun σ H Q ⟨s, G, r, q⟩ => by
  simp only [ev_prim, Post.bind] at q
  refine ⟨s, G, r, q.mono fun ds s1 q vs H1 G1 r1 t1 rp1 => ?_⟩
  obtain ⟨d, hp, q⟩ := q.opt2
  rw [← hK]
  exact ⟨_, _, _, _, _, r1.sto, rp1, hp, r1.out (mu := false) fun v H' G' r' t' rp => q v H' G' r' (t1.trans t') rp⟩
theorem se_callTyF (hK : c.K = X.K) {id : String} {p : P} (hc : CallR X (.type id) (rPF X.K p)) (hg : Gl X x) (hm : X.mg x = none) (hv : bootBuiltins x = some (.type id)) (ha : PA X (e :: es) (tAs c own own1 false true (evs Γ as))) (hn : x ≠ "__name__") (hdb : (x == ("__debug__" : Str)) = false)
    (he : starEach (e :: es) X.env = (false, eval e X.env) :: starEach es X.env) (hpl : (backTo pos (starEach es X.env)).any (·.1) = false) : PE X (.Call (.Name x p1) (e :: es) [] pos) (tE c own own1 false .fr (ev Γ (.prim p as))) := imE (pe_callTy hc hg hm hv ha hn hdb he hpl) fun σ H Q ⟨s, G, r, q⟩ => by
  simp only [ev_prim, Post.bind] at q
  refine ⟨s, G, r, q.mono fun ds s1 q vs H1 G1 r1 t1 rp1 => ?_⟩
  obtain ⟨d, hp, q⟩ := q.opt2
  rw [← hK]
  refine ⟨_, _, _, _, _, r1.sto, rp1, hp, r1.outF (mu := false) fun v H' G' r' t' rp => q v H' G' r' (t1.trans t') ?_⟩
  obtain ⟨x, h1, h2, h3, h4⟩ := rp
  exact ⟨x, h1, h2, h3, t1.fresh h4⟩
theorem se_callBF (hK : c.K = X.K) {id : String} {p : P} (hc : CallR X (.builtin id) (rPF X.K p)) (hg : Gl X x) (hm : X.mg x = none) (hv : bootBuiltins x = some (.builtin id)) (ha : PA X (e :: es) (tAs c own own1 false true (evs Γ as))) (hn : x ≠ "__name__") (hdb : (x == ("__debug__" : Str)) = false)
    (he : starEach (e :: es) X.env = (false, eval e X.env) :: starEach es X.env) (hpl : (backTo pos (starEach es X.env)).any (·.1) = false) : PE X (.Call (.Name x p1) (e :: es) [] pos) (tE c own own1 false .fr (ev Γ (.prim p as))) := imE (pe_callB hc hg hm hv ha hn hdb he hpl) fun σ H Q ⟨s, G, r, q⟩ => by
  simp only [ev_prim, Post.bind] at q
  refine ⟨s, G, r, q.mono fun ds s1 q vs H1 G1 r1 t1 rp1 => ?_⟩
  obtain ⟨d, hp, q⟩ := q.opt2
  rw [← hK]
  refine ⟨_, _, _, _, _, r1.sto, rp1, hp, r1.outF (mu := false) fun v H' G' r' t' rp => q v H' G' r' (t1.trans t') ?_⟩
  obtain ⟨x, h1, h2, h3, h4⟩ := rp
  exact ⟨x, h1, h2, h3, t1.fresh h4⟩
/-- isinstance(e, T) -/
theorem se_isI (hK : c.K = X.K) {t : Ty} {y : Str} {p2 : Pos} (hg : Gl X "isinstance") (hm : X.mg "isinstance" = none) (hv : bootBuiltins "isinstance" = some (.builtin "isinstance")) (ha : PE X e (tE c own own1 false .pk (ev Γ ta))) (gy : Gl X y) (my : X.mg y = none) (vy : bootBuiltins y = some (.type (tyN t))) (ny : y ≠ "__name__") (dy : (y == ("__debug__" : Str)) = false)
    (he : starEach [e, .Name y p2] X.env = (false, eval e X.env) :: starEach [.Name y p2] X.env) : PE X (.Call (.Name "isinstance" p1) [e, .Name y p2] [] pos) (tE c own own1 false .sh (ev Γ (.prim (.isI t) [ta]))) :=
  imE (pe_callB (c_isI t) hg hm hv (pa_cons ha (pa_cons (pe_bltn (v := .ty (tyN t)) gy my vy rfl ny dy) pa_nil) he) (by decide) (by decide) he) fun σ H Q ⟨s, G, r, q⟩ => by
  simp only [ev_prim, evs_cons, evs_nil, Post.bind, Post.ok] at q
  refine ⟨s, G, r, q.mono fun d1 s1 q v1 H1 G1 r1 t1 rp1 => ?_⟩
  obtain ⟨d, hp, q⟩ := q.opt2
  refine ⟨v1, rfl, ?_⟩
  rw [← hK]
  exact ⟨_, _, _, _, _, r1.sto, mk1 rp1, hp, r1.out (mu := false) fun v H' G' r' t' rp => q v H' G' r' (t1.trans t') rp⟩
/-! ### displays -/
theorem evs_len : ∀ (ts : List T) (s : S) (ds : List D) (s' : S), evs Γ ts s = .ok ds s' → ds.length = ts.length
  | [], s, ds, s', h => by cases h; rfl
  | t :: ts, s, ds, s', h => by
    rw [evs_cons] at h
    cases e1 : ev Γ t s with
    | ok d s1 =>
      rw [e1, R.bind_ok] at h
      cases e2 : evs Γ ts s1 with
      | ok ds2 s2 =>
        rw [e2, R.bind_ok] at h
        cases h
        rw [List.length_cons, List.length_cons, evs_len ts s1 ds2 _ e2]
      | exc x s2 => rw [e2] at h; cases h
      | fail => rw [e2] at h; cases h
    | exc x s1 => rw [e1] at h; cases h
    | fail => rw [e1] at h; cases h
theorem Post.evs {G : Gh} {σ : L2.St} {H : Hp} {k : List D → S → Prop} {s : S} (h : Post c own G σ H k (Lb.evs Γ as s)) : Post c own G σ H (fun ds s' => ds.length = as.length ∧ k ds s') (Lb.evs Γ as s) := by
  cases e : Lb.evs Γ as s with
  | ok ds s1 => rw [e] at h; exact ⟨evs_len as s ds s1 e, h⟩
  | exc x s1 => rw [e] at h; exact h
  | fail => rw [e] at h; exact h
theorem le1000 {n : Nat} (h : n ≤ 1000) : n ≤ sizeLine := by rw [sizeLine_eq]; omega
theorem se_tup {k : Nat} (ha : PA X es (tAs c own own1 mu false (evs Γ as))) (hl : as.length ≤ 1000) : PE X (.Tuple es k pos) (tE c own own1 mu .sh (ev Γ (.tup as))) := imE (pe_tupZ ha) fun σ H Q ⟨s, G, r, q⟩ => by
  simp only [ev_tup, Post.bind, Post.ok] at q
  refine ⟨s, G, r, q.evs.mono fun ds s1 q vs H1 G1 r1 t1 rp1 => ?_⟩
  obtain ⟨ql, q⟩ := q
  have rp1 : Reps c.K H1 G1.Z G1.μ ds vs := rp1
  have hz : vs.length ≤ sizeLine := by rw [rp1.length, ql]; exact le1000 hl
  refine ⟨hz, fun p ob hd hp => ?_⟩
  have o := r1.out (mu := mu) (d := .tup ds) (Q := fun v H' => Q v H') fun v H' G' r' t' rp => q v H' G' r' (Stp.weak (t1.trans t') (by simp)) rp
  exact o.tup hd hz rp1 p hp
theorem se_lst (ha : PA X es (tAs c own own1 mu false (evs Γ as))) (hl : as.length ≤ 1000) : PE X (.List es pos) (tE c own own1 mu .fr (ev Γ (.lst as))) := imE (pe_lst ha) fun σ H Q ⟨s, G, r, q⟩ => by
  simp only [ev_lst, Post.bind, Post.ok] at q
  refine ⟨s, G, r, q.evs.mono fun ds s1 q vs H1 G1 r1 t1 rp1 => ?_⟩
  obtain ⟨ql, q⟩ := q
  have rp1 : Reps c.K H1 G1.Z G1.μ ds vs := rp1
  have hz : vs.length ≤ sizeLine := by rw [rp1.length, ql]; exact le1000 hl
  refine ⟨hz, fun p hp => ?_⟩
  have o := r1.outF (mu := mu) (d := .lst ds) (Q := fun v H' => Q v H') fun v H' G' r' t' rp => q v H' G' r' (Stp.weak (t1.trans t') (by simp)) (by
    obtain ⟨x, h1, h2, h3, h4⟩ := rp
    exact ⟨x, h1, h2, h3, t1.fresh h4⟩)
  exact o p vs ds rfl hp hz rp1
/-! ### subscripts -/
theorem se_idx (hK : c.K = X.K) (hu : X.A.units + 64 < cLine) (ha : PE X a (tE c own own1 false .pk (ev Γ ta))) (hb : PE X b (tE c own1 own2 false .pk (ev Γ tb))) (hs : PlainIx b) : PE X (.Subscript a b pos) (tE c own own2 false .sh (ev Γ (.prim .idx [ta, tb]))) := imE (pe_ix (x_idx hu) ha hb hs) fun σ H Q ⟨s, G, r, q⟩ => by
  simp only [ev_prim, evs_cons, evs_nil, Post.bind, Post.ok] at q
  refine ⟨s, G, r, q.mono fun d1 s1 q v1 H1 G1 r1 t1 rp1 => ⟨s1, G1, r1, (q.move t1).mono fun d2 s2 q v2 H2 G2 r2 t2 rp2 => ?_⟩⟩
  obtain ⟨d, hp, q⟩ := q.opt2
  rw [← hK]
  exact ⟨_, _, _, _, _, _, r2.sto, r1.repT t2 rp1, rp2, hp, r2.out (mu := false) fun v H' G' r' t' rp => q v H' G' r' ((t1.trans t2).trans t') rp⟩
theorem cut_of {st : Sto} {lo hi : Bool} {d1 d : D} {r : List D} (h : prim st (.cut lo hi) (d1 :: r) = some d) : ∃ q, cutD lo hi r = some q ∧ cutR q.1 q.2 d1 = some d := by
  cases d1 <;> first | exact nomatch (show (none : Option D) = some d from h) | skip
  all_goals
    cases e : cutD lo hi r with
    | none => first | (have h : (cutD lo hi r).map (fun q => D.tup (cutL _ q.1 q.2)) = some d := h; rw [e] at h; cases h) | (have h : (cutD lo hi r).map (fun q => D.lst (cutL _ q.1 q.2)) = some d := h; rw [e] at h; cases h)
    | some q => first | (have h : (cutD lo hi r).map (fun q => D.tup (cutL _ q.1 q.2)) = some d := h; rw [e] at h; cases h; exact ⟨q, rfl, rfl⟩) | (have h : (cutD lo hi r).map (fun q => D.lst (cutL _ q.1 q.2)) = some d := h; rw [e] at h; cases h; exact ⟨q, rfl, rfl⟩)
theorem cutD1 {lo hi : Bool} {d2 : D} {q : Option Int × Option Int} (h : cutD lo hi [d2] = some q) : ∃ i, d2 = .int i ∧ ((lo = true ∧ hi = false ∧ q = (some i, none)) ∨ (lo = false ∧ hi = true ∧ q = (none, some i))) := by
  cases d2 <;> first | (cases lo <;> cases hi <;> cases h; done) | skip
  rename_i i
  cases lo <;> cases hi <;> cases h
  · exact ⟨i, rfl, .inr ⟨rfl, rfl, rfl⟩⟩
  · exact ⟨i, rfl, .inl ⟨rfl, rfl, rfl⟩⟩
theorem cutD2 {lo hi : Bool} {d2 d3 : D} {q : Option Int × Option Int} (h : cutD lo hi [d2, d3] = some q) : ∃ i j, d2 = .int i ∧ d3 = .int j ∧ q = (some i, some j) := by
  cases d2 <;> cases d3 <;> first | (cases lo <;> cases hi <;> cases h; done) | skip
  rename_i i j
  cases lo <;> cases hi <;> cases h
  exact ⟨i, j, rfl, rfl, rfl⟩
theorem se_cutLo (hK : c.K = X.K) {p2 : Pos} (ha : PE X a (tE c own own1 false .pk (ev Γ ta))) (hb : PE X b (tE c own1 own2 false .pk (ev Γ tb))) : PE X (.Subscript a (.Slice (some b) none none p2) pos) (tE c own own2 false .sh (ev Γ (.prim (.cut true false) [ta, tb]))) := imE (pe_slice s_cut ha (po_some hb) po_none) fun σ H Q ⟨s, G, r, q⟩ => by
  simp only [ev_prim, evs_cons, evs_nil, Post.bind, Post.ok] at q
  refine ⟨s, G, r, q.mono fun d1 s1 q v1 H1 G1 r1 t1 rp1 => ⟨s1, G1, r1, (q.move t1).mono fun d2 s2 q v2 H2 G2 r2 t2 rp2 => ?_⟩⟩
  obtain ⟨d, hp, q2⟩ := q.opt2
  obtain ⟨k, e1, e2⟩ := cut_of hp
  obtain ⟨i, rfl, ⟨_, _, rfl⟩ | ⟨h, _⟩⟩ := cutD1 e1
  · rw [← hK]
    exact ⟨i, rp2, _, _, _, _, r1.repT t2 rp1, e2, r2.out (mu := false) fun v H' G' r' t' rp => q2 v H' G' r' ((t1.trans t2).trans t') rp⟩
  · cases h
theorem se_cutHi (hK : c.K = X.K) {p2 : Pos} (ha : PE X a (tE c own own1 false .pk (ev Γ ta))) (hb : PE X b (tE c own1 own2 false .pk (ev Γ tb))) : PE X (.Subscript a (.Slice none (some b) none p2) pos) (tE c own own2 false .sh (ev Γ (.prim (.cut false true) [ta, tb]))) := imE (pe_slice s_cut ha po_none (po_some hb)) fun σ H Q ⟨s, G, r, q⟩ => by
  simp only [ev_prim, evs_cons, evs_nil, Post.bind, Post.ok] at q
  refine ⟨s, G, r, q.mono fun d1 s1 q v1 H1 G1 r1 t1 rp1 => ⟨s1, G1, r1, (q.move t1).mono fun d2 s2 q v2 H2 G2 r2 t2 rp2 => ?_⟩⟩
  obtain ⟨d, hp, q2⟩ := q.opt2
  obtain ⟨k, e1, e2⟩ := cut_of hp
  obtain ⟨i, rfl, ⟨h, _⟩ | ⟨_, _, rfl⟩⟩ := cutD1 e1
  · cases h
  · rw [← hK]
    exact ⟨i, rp2, _, _, _, _, r1.repT t2 rp1, e2, r2.out (mu := false) fun v H' G' r' t' rp => q2 v H' G' r' ((t1.trans t2).trans t') rp⟩
theorem se_cut2 (hK : c.K = X.K) {p2 : Pos} {e3 : Expr} (ha : PE X a (tE c own own1 false .pk (ev Γ ta))) (hb : PE X b (tE c own1 own2 false .pk (ev Γ tb))) (hc : PE X e3 (tE c own2 own3 false .pk (ev Γ tc))) :
    PE X (.Subscript a (.Slice (some b) (some e3) none p2) pos) (tE c own own3 false .sh (ev Γ (.cut2 ta tb tc))) := imE (pe_slice s_cut ha (po_some hb) (po_some hc)) fun σ H Q ⟨s, G, r, q⟩ => by
  simp only [ev_cut2, Post.bind, Post.ok] at q
  refine ⟨s, G, r, q.mono fun d1 s1 q v1 H1 G1 r1 t1 rp1 => ⟨s1, G1, r1, (q.move t1).mono fun d2 s2 q v2 H2 G2 r2 t2 rp2 => ?_⟩⟩
  cases d2 <;> first | exact q.elim | skip
  rename_i i
  refine ⟨i, rp2, s2, G2, r2, ?_⟩
  have q : Post c own G σ H _ ((ev Γ tc s2).bind fun z s => Lb.opt s (prim s.st (.cut true true) [d1, .int i, z])) := q
  rw [Post.bind] at q
  refine (q.move (t1.trans t2)).mono fun d3 s3 q v3 H3 G3 r3 t3 rp3 => ?_
  obtain ⟨d, hp, q2⟩ := q.opt2
  obtain ⟨k, e1, e2⟩ := cut_of hp
  obtain ⟨i', j, h1, h2, h3⟩ := cutD2 e1
  cases h1
  subst h2 h3
  rw [← hK]
  exact ⟨j, rp3, _, _, _, _, r2.repT t3 (r1.repT t2 rp1), e2, r3.out (mu := false) fun v H' G' r' t' rp => q2 v H' G' r' (((t1.trans t2).trans t3).trans t') rp⟩
theorem se_rev (hK : c.K = X.K) {k : Nat} {p1 p2 p3 : Pos} (ha : PE X a (tE c own own1 false .pk (ev Γ ta))) : PE X (.Subscript a (.Slice none none (some (.UnaryOp .USub (.Constant (.int 1) k p1) p2)) p3) pos) (tE c own own1 false .sh (ev Γ (.prim .rev [ta]))) := imE (pe_revT ha) fun σ H Q ⟨s, G, r, q⟩ => by
  simp only [ev_prim, evs_cons, evs_nil, Post.bind, Post.ok] at q
  refine ⟨s, G, r, q.mono fun d1 s1 q v1 H1 G1 r1 t1 rp1 => ?_⟩
  obtain ⟨d, hp, q⟩ := q.opt2
  cases d1 <;> first | exact nomatch (show (none : Option D) = some d from hp) | skip
  rename_i ds
  cases hp
  obtain ⟨x, vs, rfl, h1, h2, h3⟩ := tupE (show RepT c.K H1 G1.Z G1.μ (.tup ds) v1 from rp1)
  rw [← hK]
  refine ⟨x, vs, rfl, h1, fun p ob hd hp => ?_⟩
  have o := r1.out (mu := false) (d := .tup ds.reverse) (Q := fun v H' => Q v H') fun v H' G' r' t' rp => q v H' G' r' (t1.trans t') rp
  exact o.tup hd (by rw [List.length_reverse]; exact h2) h3.reverse p hp
/-! ### methods -/
theorem mkC {K : PySem.W.Frag} {H : Hp} {Z : Zs} {μ : List Addr} {d : D} {v : V} {ds : List D} {vs : List V} (h : RepT K H Z μ d v) (h' : RepTs K H Z μ ds vs) : RepTs K H Z μ (d :: ds) (v :: vs) := ⟨v, vs, rfl, h, h'⟩
theorem lst_ty {K : PySem.W.Frag} {H : Hp} {Z : Zs} {μ : List Addr} {ds : List D} {v : V} (h : RepT K H Z μ (.lst ds) v) : tyV K "list" v H := by
  obtain ⟨a, vs, rfl, h1, _⟩ := lstE h
  exact .inl ⟨rfl, vs, SqL.of' h1⟩
theorem tup_ty {pins : List (Addr × Obj)} {σ : L2.St} {H : Hp} {s : Shared} {Z : Zs} {a : Addr} {vs : List V} (I : Inv X pins σ H s) (h : TupAt X.K H Z a vs) : s.TypeIs (.ref a) "tuple" ∧ ∃ ob, s.heap.get? a = some ob ∧ ob.dict = none := by
  rcases h with ⟨_, h⟩ | ⟨_, o, h1, h2⟩
  · obtain ⟨o, h1, h2⟩ := h.obj
    obtain ⟨e, q⟩ := (show ObjOk X.prog X.w H s.heap a (.frz o (.tup vs)) from I.hok a _ h1)
    obtain ⟨_, its, r, o', e', c, _⟩ := q
    rw [e] at e'
    cases e'
    exact ⟨⟨o, e, c⟩, o, e, h2⟩
  · rename_i k
    obtain ⟨o', its, n, k1, k2, _⟩ := k
    rw [h1] at k1
    cases k1
    exact ⟨⟨o, I.kIn a o h1, k2⟩, o, I.kIn a o h1, h2⟩
/-- o.m(e), o a list or a tuple -/
theorem pe_seqM {name : Str} {idL idT : String} {rL rT : V → List V → Hp → VK → Prop} {to : TE} {t : TA} {o : Expr} {apos cpos : Pos} (slotL : Slot "list" name idL) (slotT : Slot "tuple" name idT) (tyL : typeOf (.builtin idL) = pure (.type "method_descriptor")) (tyT : typeOf (.builtin idT) = pure (.type "method_descriptor"))
    (hL : MtR X idL rL) (hT : MtR X idT rT) (ho : PE X o to) (ha : PA X [b] t) (hbase : attributeBase o name X.env (eval o X.env) = eval o X.env)
    (hfew : ((backTo cpos (starEach [b] X.env)).all (fun x => !x.1) && (backToKw cpos (keywordEach [] X.env)).all (fun x => x.1.isSome) && decide ([b].length + ([] : List Keyword).length + (if ([] : List Keyword).isEmpty then 0 else 1) < 30)) = true)
    (hline : (apos.endLine == cpos.line) = true) (hs : starEach [b] X.env = (false, eval b X.env) :: starEach [] X.env) :
    PE X (.Call (.Attribute o name apos) [b] [] cpos) (fun σ H Q => to σ H fun x H1 => (tyV X.K "list" x H1 ∧ t σ H1 fun xs H2 => rL x xs H2 Q) ∨ ((∃ a vs Z, x = .ref a ∧ TupAt X.K H1 Z a vs) ∧ t σ H1 fun xs H2 => rT x xs H2 Q)) := by
  constructor
  intro pins s σ H Q I h
  refine wpAny_Call_method_late hbase hfew hline rfl (thn (ho.run pins s σ H _ I h) fun v s1 ⟨x, H1, I1, r1, q1⟩ => ?_)
  have go : ∀ {id : String} {r : V → List V → Hp → VK → Prop}, MtR X id r → (t σ H1 fun xs H2 => r x xs H2 Q) → wpAny (model X.prog X.w) X.A (callWith cpos (.builtin id) [v] (backTo cpos (starEach [b] X.env)) (backToKw cpos (keywordEach [] X.env))) (EP X pins σ Q) X.xe s1 := fun {id r} hm q => by
    have hA := ha.run cpos pins s1 σ H1 _ I1 q
    rw [hs] at hA ⊢
    exact Calls.callWith_builtin (by rfl) (Calls.evalArgs_plain (thn hA fun us s2 ⟨vs, H2, I2, r2, q2⟩ => hm pins s2 σ H2 x vs v us Q I2 r1 r2 q2))
  rcases q1 with ⟨ty, q1⟩ | ⟨⟨a, vs, Z, rfl, tu⟩, q1⟩
  · obtain ⟨h1, h2⟩ := tyV_is I1 r1 ty
    exact ⟨"list", idL, PySem.F.plainAttrs_list, slotL, tyL, h1, h2, go hL q1⟩
  · cases (show v = Value.ref a from r1)
    obtain ⟨h1, ob, h2, h3⟩ := tup_ty I1 tu
    exact ⟨"tuple", idT, PySem.F.plainAttrs_tuple, slotT, tyT, h1, fun a' e => by cases e; exact ⟨ob, h2, h3⟩, go hT q1⟩
theorem se_seqM {name : Str} {p : P} {idL idT : String} {apos cpos : Pos} (hK : c.K = X.K) (slotL : Slot "list" name idL) (slotT : Slot "tuple" name idT) (tyL : typeOf (.builtin idL) = pure (.type "method_descriptor")) (tyT : typeOf (.builtin idT) = pure (.type "method_descriptor"))
    (hL : MtR X idL (rMt X.K p false)) (hT : MtR X idT (rMt X.K p true)) (ha : PE X a (tE c own own1 false .pk (ev Γ ta))) (hb : PA X [b] (tAs c own1 own2 false true (evs Γ [tb]))) (hbase : attributeBase a name X.env (eval a X.env) = eval a X.env)
    (hfew : ((backTo cpos (starEach [b] X.env)).all (fun x => !x.1) && (backToKw cpos (keywordEach [] X.env)).all (fun x => x.1.isSome) && decide ([b].length + ([] : List Keyword).length + (if ([] : List Keyword).isEmpty then 0 else 1) < 30)) = true)
    (hline : (apos.endLine == cpos.line) = true) (hs : starEach [b] X.env = (false, eval b X.env) :: starEach [] X.env) :
    PE X (.Call (.Attribute a name apos) [b] [] cpos) (tE c own own2 false .sh (ev Γ (.meth p ta [tb]))) := imE (pe_seqM slotL slotT tyL tyT hL hT ha hb hbase hfew hline hs) fun σ H Q ⟨s, G, r, q⟩ => by
  simp only [ev_meth, Post.bind, Post.ok] at q
  refine ⟨s, G, r, q.mono fun d1 s1 q v1 H1 G1 r1 t1 rp1 => ?_⟩
  cases d1 <;> first | exact q.elim | skip
  case tup ds =>
    have q : Post c own G σ H _ ((evs Γ [tb] s1).bind fun es s => Lb.opt s (prim s.st p (.lst ds :: es))) := q
    rw [Post.bind] at q
    obtain ⟨x, vs, rfl, h1, _⟩ := (show ∃ a vs, v1 = V.ref a ∧ TupAt c.K H1 G1.Z a vs ∧ vs.length ≤ sizeLine ∧ Reps c.K H1 G1.Z G1.μ ds vs from rp1)
    refine .inr ⟨⟨x, vs, G1.Z, rfl, by rw [← hK]; exact h1⟩, s1, G1, r1, (q.move t1).mono fun d2 s2 q v2 H2 G2 r2 t2 rp2 => ?_⟩
    obtain ⟨d, hp, q⟩ := q.opt2
    rw [← hK]
    have rp2 : RepTs c.K H2 G2.Z G2.μ d2 v2 := rp2
    exact ⟨_, _, _, ds, d2, _, r2.sto, r1.repT (d := .tup ds) t2 rp1, rp2, hp, r2.out (mu := false) fun v H' G' r' t' rp => q v H' G' r' ((t1.trans t2).trans t') rp⟩
  case lst ds =>
    have q : Post c own G σ H _ ((evs Γ [tb] s1).bind fun es s => Lb.opt s (prim s.st p (.lst ds :: es))) := q
    rw [Post.bind] at q
    refine .inl ⟨by rw [← hK]; exact lst_ty (show RepT c.K H1 G1.Z G1.μ (.lst ds) v1 from rp1), s1, G1, r1, (q.move t1).mono fun d2 s2 q v2 H2 G2 r2 t2 rp2 => ?_⟩
    obtain ⟨d, hp, q⟩ := q.opt2
    rw [← hK]
    have rp2 : RepTs c.K H2 G2.Z G2.μ d2 v2 := rp2
    exact ⟨_, _, _, ds, d2, _, r2.sto, r1.repT (d := .lst ds) t2 rp1, rp2, hp, r2.out (mu := false) fun v H' G' r' t' rp => q v H' G' r' ((t1.trans t2).trans t') rp⟩
end
end Lb

set_option maxRecDepth 100000
set_option maxHeartbeats 1000000
/-! zip(a, b) over any two sources: what a source does is told once (Src), zip's turn is walked once over two of them -/
namespace Lb
open PySem PySem.Spec PyProof.Rows L2
theorem five {p : Addr → Prop} {a b c d e : Addr} (h1 : p a) (h2 : p b) (h3 : p c) (h4 : p d) (h5 : p e) : ∀ x ∈ [a, b, c, d, e], p x := by simp [h1, h2, h3, h4, h5]
/-- an iterator i over a container l; It k: it stands ahead of item k -/
structure Src (P : Program) (w : World) (i l : Addr) (It : Nat → Heap → Prop) (at_ : Nat → Option Value) : Prop where
  keep : ∀ {k h h'}, It k h → (∀ c, (c = i ∨ c = l) → ∀ o, h.get? c = some o → h'.get? c = some o) → It k h'
  item : ∀ {A : Around} {s : Shared} {k x} {Q : Value → Shared → Prop} {E : Value → Shared → Prop}, It k s.heap → at_ k = some x → (∀ h', It (k + 1) h' → Heap.SameBut i s.heap h' → Q x { s with heap := h' }) → wpAny (model P w) A (Builtin.SmallTypes.nextOf (.ref i)) Q E s
  stop : ∀ {A : Around} {s : Shared} {k} {Q : Value → Shared → Prop} {E : Value → Shared → Prop}, A.handled = none → It k s.heap → at_ k = none → (∀ h' e, Heap.ExtBut i s.heap h' → (∃ o, h'.get? e = some o ∧ o.cls = .type "StopIteration") → E (.ref e) { s with heap := h' }) → wpAny (model P w) A (Builtin.SmallTypes.nextOf (.ref i)) Q E s
section
variable {P : Program} {w : World} {i l : Addr} {xs : Array Value}
theorem srcL (hne : l ≠ i) : Src P w i l (fun k h => h.IsListIter i l k ∧ h.IsList l xs) (fun k => xs[k]?) where
  keep := fun h k => ⟨h.1.at fun o e => k i (.inl rfl) o e, Heap.IsList.at h.2 fun o e => k l (.inr rfl) o e⟩
  item := fun h e q => wpAny_nextOf_list_item h.1 h.2 e fun h' a sb => q h' ⟨a, h.2.extBut sb.extBut hne⟩ sb
  stop := fun hh h e q => wpAny_nextOf_list_end hh h.1 h.2 e q
theorem srcT (hne : l ≠ i) : Src P w i l (fun k h => h.IsTupleIter i l k ∧ h.IsTuple l xs) (fun k => xs[k]?) where
  keep := fun h k => ⟨h.1.at fun o e => k i (.inl rfl) o e, by obtain ⟨o, e, r⟩ := h.2; exact ⟨o, k l (.inr rfl) o e, r⟩⟩
  item := fun h e q => RZ.nextOf_tuple_item h.1 h.2 e fun h' a sb => q h' ⟨a, h.2.extBut sb.extBut hne⟩ sb
  stop := fun hh h e q => RZ.nextOf_tuple_end hh h.1 h.2 e q
end
/-- all but what stands in C is as it was -/
def Kp (C : List Addr) (h h' : Heap) : Prop := ∀ c o, c ∉ C → h.get? c = some o → h'.get? c = some o
theorem Kp.then {C C' : List Addr} {h h1 h2 : Heap} (a : Kp C h h1) (b : Kp C' h1 h2) : Kp (C ++ C') h h2 := fun c o hc e => b c o (fun z => hc (List.mem_append_right _ z)) (a c o (fun z => hc (List.mem_append_left _ z)) e)
theorem Kp.more {C C' : List Addr} {h h' : Heap} (a : Kp C h h') (s : ∀ c ∈ C, c ∈ C') : Kp C' h h' := fun c o hc e => a c o (fun z => hc (s c z)) e
theorem Kp.ext {a : Addr} {h h' : Heap} (e : Heap.ExtBut a h h') : Kp [a] h h' := fun c o hc q => e c o (fun z => hc (by rw [z]; simp)) q
theorem Kp.new {h : Heap} (o : Obj) : Kp [] h (h.push o) := fun c u _ q => Heap.get?_push_of_some _ q
section
variable {P : Program} {w : World} {A : Around} {E : Value → Shared → Prop} {s : Shared} {z TI TO i1 i2 l1 l2 : Addr} {It1 It2 : Nat → Heap → Prop} {at1 at2 : Nat → Option Value} {k : Nat} {x y a b : Value}
theorem Src.off {i l : Addr} {It : Nat → Heap → Prop} {at_ : Nat → Option Value} (S : Src P w i l It at_) {C : List Addr} {h h' : Heap} (st : It k h) (kp : Kp C h h') (hi : i ∉ C) (hl : l ∉ C) : It k h' :=
  S.keep st fun c hc o e => kp c o (by rcases hc with q | q <;> (rw [q]; assumption)) e
/-- what stands while two sources are zipped: the zip, its iterators, the pair that it keeps -/
structure Zp (It1 It2 : Nat → Heap → Prop) (z TI TO i1 i2 : Addr) (k : Nat) (f0 : Value) (h : Heap) : Prop where
  zz : IsZip h z TI TO f0
  ti : IsPair h TI (.ref i1) (.ref i2)
  to : ∃ a b, IsPair h TO a b
  p1 : It1 k h
  p2 : It2 k h
theorem zp_next (S1 : Src P w i1 l1 It1 at1) (S2 : Src P w i2 l2 It2 at2) (D : ZipApart z TI TO i1 i2 l1 l2) (l2i1 : l2 ≠ i1) (l2TO : l2 ≠ TO) (l2z : l2 ≠ z) (Z : Zp It1 It2 z TI TO i1 i2 k .none s.heap) {Q : Fin → Shared → Prop}
    (hit : ∀ x y, at1 k = some x → at2 k = some y → ∀ h', Zp It1 It2 z TI TO i1 i2 (k + 1) (rawInt s.heap.objs.size) h' → IsPair h' s.heap.objs.size x y → Kp [z, TO, i1, i2] s.heap h' → Q (.done (.ret (.ref s.heap.objs.size))) { s with heap := h' })
    (hend : at1 k = none ∨ at2 k = none → A.handled = none ∧ ∀ h' e, Kp [z, TO, i1, i2] s.heap h' → (∃ o, h'.get? e = some o ∧ o.cls = .type "StopIteration") → E (.ref e) { s with heap := h' }) :
    wpAny (model P w) A (Builtin.«zip.__next__» ⟨[.ref z], []⟩) Q E s := by
  obtain ⟨hz, hTI, ⟨a, b, hTO⟩, q1, q2⟩ := Z
  have z1 : i1 ≠ z := D.i1z
  have z2 : i2 ≠ z := D.i2z
  have z3 : TO ≠ z := D.TOz
  -- to where the first source is asked
  refine wpAny_bind (m := field (.ref z) 2) (wpAny_field hz rfl (x := .bool false) rfl ?_)
  refine wpAny_bind (m := field (.ref z) 3) (wpAny_field hz rfl (x := .ref TI) rfl (wpAny_bind (wpAny_seqItems hTI rfl ?_)))
  refine wpAny_bind (m := Builtin.SmallTypes.ownedTupleIsFree (.ref z)) (wpAny_bind (m := field (.ref z) 0) (wpAny_field hz rfl (x := .none) rfl (wpAny_pure ?_)))
  simp only [if_true]
  refine wpAny_bind (wpAny_rule (wpAny_bind (wpAny_field hz rfl (x := .ref TO) rfl (wpAny_bind (wpAny_setField_rec hz (by simp) fun A1 y1 b1 => ?_)))))
  have y1 : IsZip A1 z TI TO .ellipsis := y1
  have K1 : Kp [z] s.heap A1 := .ext b1.extBut
  simp only [List.zipIdx_cons, List.zipIdx_nil, List.forIn_cons, List.forIn_nil]
  refine wpAny_bind (wpAny_bind (wpAny_bind (wpAny_onRaise (wpAny_bind (m := Builtin.SmallTypes.nextOf (.ref i1)) ?_))))
  have r1 : It1 k A1 := S1.off q1 K1 (by simpa using z1) (by simpa using D.l1z)
  cases e1 : at1 k with
  | none =>
    obtain ⟨hh, he⟩ := hend (.inl e1)
    refine S1.stop hh r1 e1 fun A2 e b2 ho => ?_
    obtain ⟨o, ho, hc⟩ := ho
    have y2 : IsZip A2 z TI TO .ellipsis := b2 _ _ z1.symm y1
    have ne : e ≠ z := fun q => by rw [q, y2] at ho; cases ho; simp at hc
    refine wpAny_setField_rec y2 (by simp) fun A3 _ b3 => he A3 e (((K1.then (.ext b2)).then (.ext b3.extBut)).more fun c hc => ?_) ⟨o, b3.extBut _ _ ne ho, hc⟩
    simp at hc ⊢
    rcases hc with q | q | q <;> simp [q]
  | some x =>
    refine S1.item r1 e1 fun A2 r2 b2 => wpAny_pure ?_
    have K2 := K1.then (Kp.ext b2.extBut)
    have t2 : IsPair A2 TO a b := K2 _ _ (by simp; exact ⟨z3, D.TOi1⟩) hTO
    refine wpAny_bind (wpAny_seqItems t2 rfl (wpAny_bind (wpAny_updateSeq_pair t2 fun A3 t3 b3 => wpAny_bind (wpAny_letGo (wpAny_pure ?_)))))
    have t3 : IsPair A3 TO x b := t3
    have K3 := K2.then (Kp.ext b3.extBut)
    -- the second source
    refine wpAny_bind (wpAny_bind (wpAny_onRaise (wpAny_bind (m := Builtin.SmallTypes.nextOf (.ref i2)) ?_)))
    have u3 : It2 k A3 := S2.off q2 K3 (by simp; exact ⟨z2, D.i12.symm, D.TOi2.symm⟩) (by simp; exact ⟨l2z, l2i1, l2TO⟩)
    have r3 : It1 (k + 1) A3 := S1.off r2 (Kp.ext b3.extBut) (by simpa using D.TOi1.symm) (by simpa using D.l1TO)
    cases e2 : at2 k with
    | none =>
      obtain ⟨hh, he⟩ := hend (.inr e2)
      refine S2.stop hh u3 e2 fun A4 e b4 ho => ?_
      obtain ⟨o, ho, hc⟩ := ho
      have K4 := K3.then (Kp.ext b4)
      have y4 : IsZip A4 z TI TO .ellipsis := b4 _ _ z2.symm (b3.extBut _ _ z3.symm (b2.extBut _ _ z1.symm y1))
      have ne : e ≠ z := fun q => by rw [q, y4] at ho; cases ho; simp at hc
      refine wpAny_setField_rec y4 (by simp) fun A5 _ b5 => he A5 e ((K4.then (.ext b5.extBut)).more fun c hc => ?_) ⟨o, b5.extBut _ _ ne ho, hc⟩
      simp at hc ⊢
      rcases hc with q | q | q | q | q <;> simp [q]
    | some y =>
      refine S2.item u3 e2 fun A4 u4 b4 => wpAny_pure ?_
      have K4 := K3.then (Kp.ext b4.extBut)
      have t4 : IsPair A4 TO x b := b4.extBut _ _ D.TOi2 t3
      refine wpAny_bind (wpAny_seqItems t4 rfl (wpAny_bind (wpAny_updateSeq_pair t4 fun A5 t5 b5 => wpAny_bind (wpAny_letGo (wpAny_pure (wpAny_pure ?_))))))
      have t5 : IsPair A5 TO x y := t5
      have K5 := K4.then (Kp.ext b5.extBut)
      have y5 : IsZip A5 z TI TO .ellipsis := b5.extBut _ _ z3.symm (b4.extBut _ _ z2.symm (b3.extBut _ _ z3.symm (b2.extBut _ _ z1.symm y1)))
      have n5 : A5.objs.size = s.heap.objs.size := by rw [b5.1, b4.1, b3.1, b2.1, b1.1]
      have r5 : It1 (k + 1) A5 := S1.off (S1.off r3 (Kp.ext b4.extBut) (by simpa using D.i12) (by simpa using D.l1i2)) (Kp.ext b5.extBut) (by simpa using D.TOi1.symm) (by simpa using D.l1TO)
      have u5 : It2 (k + 1) A5 := S2.off u4 (Kp.ext b5.extBut) (by simpa using D.TOi2.symm) (by simpa using l2TO)
      -- the pair goes out
      refine wpAny_bind (wpAny_seqItems t5 rfl (wpAny_bind (wpAny_newTuple ?_)))
      have y6 : IsZip (A5.push { cls := .type "tuple", data := .seq #[x, y] }) z TI TO .ellipsis := Kp.new _ _ _ (by simp) y5
      refine wpAny_bind (m := Builtin.SmallTypes.ownedTupleHandOut (.ref z) (.ref A5.objs.size)) (wpAny_bind (wpAny_setField_rec y6 (by simp) fun A7 y7 b7 => ?_))
      have y7 : IsZip A7 z TI TO (rawInt A5.objs.size) := y7
      refine wpAny_setField_rec y7 (by simp) fun A8 y8 b8 => wpAny_pure ?_
      have y8 : IsZip A8 z TI TO (rawInt A5.objs.size) := y8
      have K8 : Kp [z] A5 A8 := (((Kp.new _).then (Kp.ext b7.extBut)).then (Kp.ext b8.extBut)).more (by simp)
      have pr : IsPair A8 A5.objs.size x y := b8.extBut _ _ (Nat.ne_of_gt (Heap.lt_size y5)) (b7.extBut _ _ (Nat.ne_of_gt (Heap.lt_size y5)) (Heap.get?_push_size _ rfl))
      have fin := hit x y e1 e2 A8
      rw [← n5] at fin
      refine fin ⟨y8, K8 _ _ (by simpa using D.TIz) (K5 _ _ (by simp; exact ⟨D.TIz, D.TIi1, D.TITO, D.TIi2, D.TITO⟩) hTI), ⟨x, y, K8 _ _ (by simpa using z3) t5⟩, S1.off r5 K8 (by simpa using z1) (by simpa using D.l1z), S2.off u5 K8 (by simpa using z2) (by simpa using l2z)⟩ pr ((K5.then K8).more fun c hc => ?_)
      simp at hc ⊢
      rcases hc with q | q | q | q | q | q <;> simp [q]
end
/-! ### lists (true) and tuples (false) -/
def itN (p : Bool) : String := if p then "list_iterator" else "tuple_iterator"
def ItB (p : Bool) (h : Heap) (i l : Addr) (k : Nat) : Prop := if p then h.IsListIter i l k else h.IsTupleIter i l k
def CoB (p : Bool) (h : Heap) (l : Addr) (xs : Array Value) : Prop := if p then h.IsList l xs else h.IsTuple l xs
def SqB (p : Bool) (K : PySem.W.Frag) (H : Hp) (a : Addr) (xs : List V) : Prop := if p then SqL K H a xs else SqT K H a xs
theorem srcB {P : Program} {w : World} (p : Bool) {i l : Addr} {xs : Array Value} (hne : l ≠ i) : Src P w i l (fun k h => ItB p h i l k ∧ CoB p h l xs) (fun k => xs[k]?) := by
  cases p
  · exact srcT hne
  · exact srcL hne
theorem ItB.obj {p : Bool} {h : Heap} {i l : Addr} {k : Nat} (q : ItB p h i l k) : ∃ o, h.get? i = some o ∧ ∀ v, o.data ≠ .cell v := by
  cases p <;> (obtain ⟨o, e, _, d⟩ := q; exact ⟨o, e, fun v z => by rw [d] at z; cases z⟩)
theorem ItB.go {p : Bool} {h h' : Heap} {i l : Addr} {k : Nat} (q : ItB p h i l k) (e : ∀ o, h.get? i = some o → h'.get? i = some o) : ItB p h' i l k := by
  cases p <;> (obtain ⟨o, z, r⟩ := q; exact ⟨o, e o z, r⟩)
theorem ItB.first {p : Bool} {h : Heap} {i l : Addr} (q : h.get? i = some { cls := .type (itN p), data := .fields #[.ref l, .int 0 0] }) : ItB p h i l 0 := by
  cases p <;> exact ⟨_, q, rfl, rfl⟩
theorem CoB.go {p : Bool} {h h' : Heap} {l : Addr} {xs : Array Value} (q : CoB p h l xs) (e : ∀ o, h.get? l = some o → h'.get? l = some o) : CoB p h' l xs := by
  cases p <;> (obtain ⟨o, z, r⟩ := q; exact ⟨o, e o z, r⟩)
theorem CoB.lt {p : Bool} {h : Heap} {l : Addr} {xs : Array Value} (q : CoB p h l xs) : l < h.objs.size := by
  cases p <;> (obtain ⟨o, z, r⟩ := q; exact Heap.lt_size z)
section
variable {P : Program} {w : World} {A : Around} {E : Value → Shared → Prop} {s : Shared}
theorem iterB {p : Bool} {l : Addr} {xs : Array Value} {Q : Value → Shared → Prop} (c : CoB p s.heap l xs) (h : Q (.ref s.heap.objs.size) { s with heap := s.heap.push { cls := .type (itN p), data := .fields #[.ref l, .int 0 0] } }) : wpAny (model P w) A (pyIter (.ref l)) Q E s := by
  cases p
  · exact wpAny_pyIter_tuple c h
  · exact wpAny_pyIter_list c h
end
/-- what zip(l1, l2) lays down: the iterators, the two pairs, the zip -/
def zbH (p q : Bool) (h : Heap) (l1 l2 : Addr) : Heap := ((((h.push { cls := .type (itN p), data := .fields #[.ref l1, .int 0 0] }).push { cls := .type (itN q), data := .fields #[.ref l2, .int 0 0] }).push { cls := .type "tuple", data := .seq #[.ref h.objs.size, .ref (h.objs.size + 1)] }).push { cls := .type "tuple", data := .seq #[.none, .none] }).push { cls := .type "zip", data := .fields #[.none, .bool false, .bool false, .ref (h.objs.size + 2), .ref (h.objs.size + 3)] }
theorem meetsB (p q : Bool) (l1 l2 : Addr) (xs ys : Array Value) : Meets (Builtin.«zip.__new__» ⟨[.type "zip", .ref l1, .ref l2], []⟩) (fun _ R s => CoB p s.heap l1 xs ∧ CoB q s.heap l2 ys ∧ R (.ok (.ret (.ref (s.heap.objs.size + 4)))) { s with heap := zbH p q s.heap l1 l2 }) := by
  refine .of_wp fun prog w A R s ⟨c1, c2, hr⟩ => ?_
  obtain ⟨hp, g, d, tk, os⟩ := s
  have hsub := sub_zip
  have c1 : CoB p (Shared.heap ⟨hp, g, d, tk, os⟩) l1 xs := c1
  have c2 : CoB q (Shared.heap ⟨hp.push { cls := .type (itN p), data := .fields #[.ref l1, .int 0 0] }, g, d, tk, os⟩) l2 ys := CoB.go c2 fun o e => Heap.get?_push_of_some _ e
  wp_walk using iterB c1, iterB c2
  simp only [zbH, Heap.size_push, Nat.add_assoc] at hr ⊢
  exact ⟨_, rfl, hr⟩
/-- where all of it stands -/
theorem zbH_at (p q : Bool) (h : Heap) (l1 l2 : Addr) : IsZip (zbH p q h l1 l2) (h.objs.size + 4) (h.objs.size + 2) (h.objs.size + 3) .none ∧ IsPair (zbH p q h l1 l2) (h.objs.size + 2) (.ref h.objs.size) (.ref (h.objs.size + 1)) ∧ IsPair (zbH p q h l1 l2) (h.objs.size + 3) .none .none ∧
    ItB p (zbH p q h l1 l2) h.objs.size l1 0 ∧ ItB q (zbH p q h l1 l2) (h.objs.size + 1) l2 0 ∧ Kp [] h (zbH p q h l1 l2) := by
  have K : ∀ (o : Obj) {g : Heap}, Kp [] g (g.push o) := fun o => Kp.new o
  have at_ : ∀ {g : Heap} {n : Nat} (o : Obj), o.isFreed = false → g.objs.size = n → (g.push o).get? n = some o := fun o hf e => by subst e; exact Heap.get?_push_size _ hf
  unfold zbH
  refine ⟨at_ _ rfl (by simp [Heap.size_push]), K _ _ _ (by simp) (K _ _ _ (by simp) (at_ _ rfl (by simp [Heap.size_push]))), K _ _ _ (by simp) (at_ _ rfl (by simp [Heap.size_push])), ?_, ?_, ?_⟩
  · exact ItB.first (K _ _ _ (by simp) (K _ _ _ (by simp) (K _ _ _ (by simp) (K _ _ _ (by simp) (at_ _ rfl rfl)))))
  · exact ItB.first (K _ _ _ (by simp) (K _ _ _ (by simp) (K _ _ _ (by simp) (at_ _ rfl (by simp [Heap.size_push])))))
  · exact fun c o hc e => K _ _ _ (by simp) (K _ _ _ (by simp) (K _ _ _ (by simp) (K _ _ _ (by simp) (K _ _ _ (by simp) e))))
/-- the items of both, in new pairs -/
def ItzB (p q : Bool) (K : PySem.W.Frag) (a b : Addr) : It where
  go := fun i H => ∃ xs ys x y, SqB p K H a xs ∧ SqB q K H b ys ∧ xs[i]? = some x ∧ ys[i]? = some y
  yld := fun i H v H' => ∃ T x y, v = .ref T ∧ H T = none ∧ H' = upd H T (.tup [x, y]) ∧ (∀ xs, SqB p K H a xs → xs[i]? = some x) ∧ ∀ ys, SqB q K H b ys → ys[i]? = some y
  stop := fun i H => ∃ xs ys, SqB p K H a xs ∧ SqB q K H b ys ∧ (xs.length ≤ i ∨ ys.length ≤ i)
theorem sqB_at {X : Cx} {pins : List (Addr × Obj)} {σ : L2.St} {H : Hp} {s : Shared} {p : Bool} {a : Addr} {xs : List V} (I : Inv X pins σ H s) (h : SqB p X.K H a xs) : ∃ us, Vals xs us ∧ CoB p s.heap a us.toArray := by
  cases p
  · obtain ⟨us, r, c, _⟩ := I.tuple h; exact ⟨us, r, c⟩
  · obtain ⟨us, r, c, _⟩ := I.list h; exact ⟨us, r, c.isList⟩
theorem sqB_one {X : Cx} {pins : List (Addr × Obj)} {σ : L2.St} {H : Hp} {s : Shared} {p : Bool} {a : Addr} {xs ys : List V} (I : Inv X pins σ H s) (h : SqB p X.K H a xs) (h' : SqB p X.K H a ys) : xs = ys := by
  cases p
  · exact I.tuple_inj h h'
  · exact I.list_inj h h'
def ZB (p q : Bool) (a b z TI TO i1 i2 : Addr) (i : Nat) (h : Heap) : Prop := IsZip h z TI TO .none ∧ IsPair h TI (.ref i1) (.ref i2) ∧ (∃ x y, IsPair h TO x y) ∧ ItB p h i1 a i ∧ ItB q h i2 b i
theorem nextZ {P : Program} {w : World} {A : Around} {E : Value → Shared → Prop} {s : Shared} {z TI TO : Addr} {f0 : Value} {Q : Option Value → Shared → Prop} (hz : IsZip s.heap z TI TO f0)
    (h : wpAny (model P w) A.in1 (Builtin.«zip.__next__» ⟨[.ref z], []⟩) (fun fin s' => ∃ v, fin = .done (.ret v) ∧ Q (some v) s') (fun e s' => ∃ a o, e = .ref a ∧ s'.heap.get? a = some o ∧ o.cls = .type "StopIteration" ∧ Q none s') s) : wpAny (model P w) A (pyNext (.ref z)) Q E s := by
  have T : s.TypeIs (.ref z) "zip" := ⟨_, hz, rfl⟩
  unfold pyNext
  refine wpAny_bind (wpAny_attempt (wpAny_callSpecial?_slot (name := Str.ofString "__next__") T F.slot_zip_next (wpAny_call_entry F.slot_zip_next T F.entry_zip_next (wpAny_mono h ?_ ?_) (F.args_zip_next_1 _))))
  · rintro fin s' ⟨v, rfl, q⟩
    exact ⟨v, rfl, wpAny_pure q⟩
  · rintro e s' ⟨a, o, rfl, ho, hc, q⟩
    exact wpAny_bind (wpAny_isInstance (T := "StopIteration") (b := true) ⟨o, ho, hc⟩ isSubtype_stop (wpAny_pure q))
theorem turnB {P : Program} {w : World} {K : PySem.W.Frag} {elts : List Expr} {kk : Nat} {tpos : Pos} (p q : Bool) {a b z TI TO i1 i2 : Addr} (D : ZipApart z TI TO i1 i2 a b) (D2 : b ≠ i1 ∧ b ≠ TO ∧ b ≠ z ∧ b ≠ i2) : Turn P w K (.Tuple elts kk tpos) (ItzB p q K a b) [z, TI, TO, i1, i2] z (ZB p q a b z TI TO i1 i2) where
  mem := List.mem_cons_self
  obj := fun i h ⟨zz, ti, ⟨x, y, to⟩, p1, p2⟩ => five ⟨_, zz, fun v e => nomatch e⟩ ⟨_, ti, fun v e => nomatch e⟩ ⟨_, to, fun v e => nomatch e⟩ p1.obj p2.obj
  keep := fun i h h' ⟨zz, ti, ⟨x, y, to⟩, p1, p2⟩ kp => ⟨kp _ (by simp) _ zz, kp _ (by simp) _ ti, ⟨x, y, kp _ (by simp) _ to⟩, p1.go (kp _ (by simp)), p2.go (kp _ (by simp))⟩
  item := by
    rintro X rfl rfl rfl hc i pins s σ H E I hf ⟨zz, ti, to, p1, p2⟩ ⟨xs, ys, x, y, sx, sy, ex, ey⟩
    obtain ⟨us, ru, cu⟩ := sqB_at I sx
    obtain ⟨ws, rw_, cw⟩ := sqB_at I sy
    obtain ⟨u, hu, ru1⟩ := ru.get ex
    obtain ⟨v, hv, rv1⟩ := rw_.get ey
    refine nextZ zz (zp_next (srcB p D.l1i1) (srcB q D2.2.2.2) D D2.1 D2.2.1 D2.2.2.1 ⟨zz, ti, to, ⟨p1, cu⟩, ⟨p2, cw⟩⟩ (fun u' v' e1 e2 h' Z pr kp => ?_) fun e => ?_)
    · have e1 : u' = u := by simpa [hu] using e1.symm
      have e2 : v' = v := by simpa [hv] using e2.symm
      subst e1 e2
      refine ⟨_, rfl, _, rfl, wpAny_letOwnedTupleGo_zip (s := { s with heap := h' }) Z.zz fun g zg sb => ?_⟩
      have zl : z < s.heap.objs.size := Heap.lt_size zz
      have up : Kp [z] h' g := .ext sb.extBut
      have T : IsPair g s.heap.objs.size u' v' := up _ _ (by simpa using Nat.ne_of_gt zl) pr
      have I' : Inv X pins σ (upd H s.heap.objs.size (.tup [x, y])) { s with heap := g } := by
        refine I.turnedNew (t' := s.toks) (ch := [z, TI, TO, i1, i2]) (fun c o hb e => up c o (fun m => hb ?_) (kp c o (fun m => hb ?_) e)) hf (Nat.le_refl _) ⟨by show 2 ≤ sizeLine; decide, [u', v'], .cons ru1 (.cons rv1 .nil), ⟨_, T, rfl, _, rfl⟩⟩
        · simp at m; simp [m]
        · simp at m; rcases m with m | m | m | m <;> simp [m]
      refine ⟨.ref s.heap.objs.size, _, I', rfl, ⟨_, x, y, rfl, I.hok.fresh (Nat.le_refl _), rfl, fun l hl => by rw [sqB_one I hl sx]; exact ex, fun l hl => by rw [sqB_one I hl sy]; exact ey⟩, ⟨zg, up _ _ (by simpa using D.TIz) Z.ti, ?_, Z.p1.1.go (fun o => up _ o (by simpa using D.i1z)), Z.p2.1.go (fun o => up _ o (by simpa using D.i2z))⟩, ?_⟩
      · obtain ⟨x', y', to'⟩ := Z.to
        exact ⟨x', y', up _ _ (by simpa using D.TOz) to'⟩
      · obtain ⟨_, _, to⟩ := to
        obtain ⟨o1, g1, _⟩ := p1.obj
        obtain ⟨o2, g2, _⟩ := p2.obj
        intro c hcm
        have lt := five (p := fun c => c < s.heap.objs.size) zl (Heap.lt_size ti) (Heap.lt_size to) (Heap.lt_size g1) (Heap.lt_size g2) c hcm
        rw [upd_ne (Nat.ne_of_lt lt)]
        exact (hf c hcm).1
    · exfalso
      rcases e with e | e
      · simp [hu] at e
      · simp [hv] at e
  done := by
    rintro X rfl rfl rfl hc i pins s σ H E I hf ⟨zz, ti, to, p1, p2⟩ ⟨xs, ys, sx, sy, he⟩
    obtain ⟨us, ru, cu⟩ := sqB_at I sx
    obtain ⟨ws, rw_, cw⟩ := sqB_at I sy
    have lu := ru.length
    have lw := rw_.length
    refine nextZ zz (zp_next (srcB p D.l1i1) (srcB q D2.2.2.2) D D2.1 D2.2.1 D2.2.2.1 ⟨zz, ti, to, ⟨p1, cu⟩, ⟨p2, cw⟩⟩ (fun u' v' e1 e2 h' Z pr kp => ?_) fun e => ⟨I.ok.hd hc, fun h' a kp ho => ?_⟩)
    · exfalso
      have e1 := (Array.getElem?_eq_some_iff.mp e1).1
      have e2 := (Array.getElem?_eq_some_iff.mp e2).1
      simp at e1 e2
      omega
    · obtain ⟨o, ho, hc'⟩ := ho
      refine ⟨a, o, rfl, ho, hc', rfl, I.turnedL (t' := s.toks) (ch := [z, TI, TO, i1, i2]) (fun c o hb e => kp c o (fun m => hb ?_) e) hf⟩
      simp at m; rcases m with m | m | m | m <;> simp [m]
  self := fun A i s Q E ⟨zz, _⟩ h => wpAny_pyIter_zip zz h
def iZipB (K : PySem.W.Frag) (ta : TA) : TI := fun σ H R => ta σ H fun vs H1 => ∃ p q a b xs ys, vs = [.ref a, .ref b] ∧ SqB p K H1 a xs ∧ SqB q K H1 b ys ∧ R (ItzB p q K a b) H1
theorem pi_zipB {X : Cx} {e e2 : Expr} {ta : TA} {p pos tpos : Pos} {elts : List Expr} {kk : Nat} (hg : Gl X "zip") (hm : X.mg "zip" = none) (ha : PA X [e, e2] ta) (hs : starEach [e, e2] X.env = (false, eval e X.env) :: starEach [e2] X.env) (hpl : (backTo pos (starEach [e2] X.env)).any (·.1) = false) :
    PI X (.Tuple elts kk tpos) (.Call (.Name "zip" p) [e, e2] [] pos) (iZipB X.K ta) := by
  refine ⟨fun pins s σ H R I h => Call_ (ld_blt I hg hm boot_zip (callWith_type1 (thn (ha.run pos pins s σ H _ I h) ?_) hs hpl))⟩
  rintro us s1 ⟨vs, H1, I1, r1, p, q, a, b, xs, ys, rfl, sx, sy, hR⟩
  obtain ⟨v1, rest, rfl⟩ : ∃ v r, us = v :: r := by cases r1; exact ⟨_, _, rfl⟩
  obtain ⟨v2, rfl⟩ : ∃ v, rest = [v] := by
    cases r1 with
    | cons _ r => cases r with
      | cons _ r => cases r; exact ⟨_, rfl⟩
  obtain ⟨rfl, rfl⟩ : v1 = .ref a ∧ v2 = .ref b := by
    cases r1 with
    | cons x r => cases r with
      | cons y r => exact ⟨x, y⟩
  obtain ⟨ux, _, cx⟩ := sqB_at I1 sx
  obtain ⟨uy, _, cy⟩ := sqB_at I1 sy
  obtain ⟨k1, k2, k3, k4, k5, k6⟩ := zbH_at p q s1.heap a b
  have la := cx.lt
  have lb := cy.lt
  have fr : ∀ c, s1.heap.objs.size ≤ c → FpOk X pins H1 c := fun c hle => I1.fpOk hle (I1.hok.fresh hle)
  have far : ∀ n, b ≠ s1.heap.objs.size + n := fun n => Nat.ne_of_lt (Nat.lt_of_lt_of_le lb (Nat.le_add_right _ _))
  refine callType_new F.called_zip (by decide) (F.typeCall_zip_2 _ _) (F.newCall_zip_2 _ _) (fun obj => F.args_object_init_3 obj _ _) F.entry_zip_new (meetsB p q a b _ _) ⟨cx, cy, ⟨_, k1, rfl⟩, ?_⟩
  refine wpAny_pyIter_zip k1 ⟨_, _, _, _, H1, rfl, I1.kept (t' := s1.toks) (fun c o e => k6 c o (by simp) e), turnB p q (PySem.W.ktu_apart s1.heap.objs.size a b la lb) ⟨Nat.ne_of_lt lb, far 3, far 4, far 1⟩, ⟨k1, k2, ⟨_, _, k3⟩, k4, k5⟩, five (fr _ (by omega)) (fr _ (by omega)) (fr _ (by omega)) (fr _ (by omega)) (fr _ (by omega)), hR⟩
end Lb

set_option maxRecDepth 100000
set_option maxHeartbeats 1000000
/-! zip(a, b, strict=True) over two sources of one length, on LbZ2's sources -/
namespace Lb
open PySem PySem.Spec PyProof.Rows L2
section
variable {P : Program} {w : World} {A : Around} {E : Value → Shared → Prop} {s : Shared} {i l : Addr} {It : Nat → Heap → Prop} {at_ : Nat → Option Value} {k : Nat} {x : Value}
theorem Src.some_ (S : Src P w i l It at_) {Q : Option Value → Shared → Prop} (st : It k s.heap) (e : at_ k = some x) (q : ∀ h', It (k + 1) h' → Heap.SameBut i s.heap h' → Q (some x) { s with heap := h' }) : wpAny (model P w) A (Builtin.SmallTypes.nextOrEnd (.ref i)) Q E s := by
  unfold Builtin.SmallTypes.nextOrEnd
  exact wpAny_bind (wpAny_attempt (S.item st e fun h' a b => wpAny_pure (q h' a b)))
theorem Src.none_ (S : Src P w i l It at_) {Q : Option Value → Shared → Prop} (hh : A.handled = none) (st : It k s.heap) (e : at_ k = none) (q : ∀ h', Kp [i] s.heap h' → Q none { s with heap := h' }) : wpAny (model P w) A (Builtin.SmallTypes.nextOrEnd (.ref i)) Q E s := by
  unfold Builtin.SmallTypes.nextOrEnd
  refine wpAny_bind (wpAny_attempt (S.stop hh st e ?_))
  rintro h' a b ⟨o, ho, hc⟩
  exact wpAny_bind (wpAny_isInstance (T := "StopIteration") (b := true) ⟨o, ho, hc⟩ isSubtype_stop (wpAny_pure (q h' (.ext b))))
end
/-- a strict zip's record -/
abbrev IsZs (h : Heap) (z TI TO : Addr) (f0 : Value) : Prop := h.get? z = some { cls := .type "zip", dict := none, data := .fields #[f0, .bool false, .bool true, .ref TI, .ref TO], slots := #[] }
section
variable {P : Program} {w : World} {A : Around} {E : Value → Shared → Prop} {s : Shared} {z TI TO i1 i2 l1 l2 : Addr} {It1 It2 : Nat → Heap → Prop} {at1 at2 : Nat → Option Value} {k : Nat}
structure Zt (It1 It2 : Nat → Heap → Prop) (z TI TO i1 i2 : Addr) (k : Nat) (f0 : Value) (h : Heap) : Prop where
  zz : IsZs h z TI TO f0
  ti : IsPair h TI (.ref i1) (.ref i2)
  to : ∃ a b, IsPair h TO a b
  p1 : It1 k h
  p2 : It2 k h
theorem zt_next (S1 : Src P w i1 l1 It1 at1) (S2 : Src P w i2 l2 It2 at2) (D : ZipApart z TI TO i1 i2 l1 l2) (l2i1 : l2 ≠ i1) (l2TO : l2 ≠ TO) (l2z : l2 ≠ z) (Z : Zt It1 It2 z TI TO i1 i2 k .none s.heap) {Q : Fin → Shared → Prop} (both : (at1 k).isSome = (at2 k).isSome)
    (hit : ∀ x y, at1 k = some x → at2 k = some y → ∀ h', Zt It1 It2 z TI TO i1 i2 (k + 1) (rawInt s.heap.objs.size) h' → IsPair h' s.heap.objs.size x y → Kp [z, TO, i1, i2] s.heap h' → Q (.done (.ret (.ref s.heap.objs.size))) { s with heap := h' })
    (hend : at1 k = none → A.handled = none ∧ ∀ h' e, Kp [z, TO, i1, i2] s.heap h' → (∃ o, h'.get? e = some o ∧ o.cls = .type "StopIteration") → E (.ref e) { s with heap := h' }) :
    wpAny (model P w) A (Builtin.«zip.__next__» ⟨[.ref z], []⟩) Q E s := by
  obtain ⟨hz, hTI, ⟨a, b, hTO⟩, q1, q2⟩ := Z
  have z1 : i1 ≠ z := D.i1z
  have z2 : i2 ≠ z := D.i2z
  have z3 : TO ≠ z := D.TOz
  refine wpAny_bind (m := field (.ref z) 2) (wpAny_field hz rfl (x := .bool true) rfl ?_)
  refine wpAny_bind (m := field (.ref z) 3) (wpAny_field hz rfl (x := .ref TI) rfl (wpAny_bind (wpAny_seqItems hTI rfl ?_)))
  refine wpAny_bind (m := Builtin.SmallTypes.ownedTupleIsFree (.ref z)) (wpAny_bind (m := field (.ref z) 0) (wpAny_field hz rfl (x := .none) rfl (wpAny_pure ?_)))
  simp only [if_true]
  refine wpAny_bind (wpAny_rule (wpAny_bind (wpAny_field hz rfl (x := .ref TO) rfl (wpAny_bind (wpAny_setField_rec hz (by simp) fun A1 y1 b1 => ?_)))))
  have y1 : IsZs A1 z TI TO .ellipsis := y1
  have K1 : Kp [z] s.heap A1 := .ext b1.extBut
  simp only [List.zipIdx_cons, List.zipIdx_nil, List.forIn_cons, List.forIn_nil]
  refine wpAny_bind (wpAny_bind (wpAny_bind (wpAny_onRaise ?_)))
  show wpAny _ _ (Builtin.SmallTypes.nextOrEnd (.ref i1)) _ _ _
  have r1 : It1 k A1 := S1.off q1 K1 (by simpa using z1) (by simpa using D.l1z)
  cases e1 : at1 k with
  | none =>
    have e2 : at2 k = none := by rw [e1] at both; simpa using both.symm
    obtain ⟨hh, he⟩ := hend e1
    refine S1.none_ hh r1 e1 fun A2 K2 => ?_
    have y2 : IsZs A2 z TI TO .ellipsis := K2 _ _ (by simpa using z1.symm) y1
    refine wpAny_bind (wpAny_setField_rec y2 (by simp) fun A3 _ b3 => ?_)
    have K3 := (K1.then K2).then (Kp.ext b3.extBut)
    have u3 : It2 k A3 := S2.off q2 K3 (by simp; exact ⟨z2, D.i12.symm, z2⟩) (by simp; exact ⟨l2z, l2i1, l2z⟩)
    refine wpAny_bind (wpAny_bind ?_)
    show wpAny _ _ (forIn ([(Value.ref i2, 1)] : List (Value × Nat)) _ _) _ _ _
    simp only [List.forIn_cons, List.forIn_nil]
    refine wpAny_bind (wpAny_bind (S2.none_ hh u3 e2 fun A4 K4 => ?_))
    rw [if_neg (by decide)]
    refine wpAny_pure (wpAny_pure (wpAny_bind (wpAny_rule ?_)))
    have K5 := K3.then K4
    unfold Builtin.SmallTypes.stopIteration
    refine wpAny_bind (m := newExc (.type "StopIteration") []) ?_
    simp only [newExc, newTuple, raiseNew]
    refine wpAny_bind (wpAny_newObj_type ?_ (by size_fits))
    refine wpAny_bind (m := firstArgMember _ _) (wpAny_of_eq (a := Value.none) (by first | rfl | (simp only [firstArgMember]; rfl)) (wpAny_newObj_type ?_ (by size_fits)))
    refine wpAny_bind (wpAny_handled ?_)
    rw [hh]
    refine wpAny_bind (wpAny_pure (wpAny_throw (he _ _ (((K5.then (Kp.new _)).then (Kp.new _)).more fun c hc => ?_) ⟨_, Heap.get?_push_size _ rfl, rfl⟩)))
    simp at hc ⊢
    rcases hc with q | q | q | q <;> simp [q]
  | some x =>
    obtain ⟨y, e2⟩ : ∃ y, at2 k = some y := Option.isSome_iff_exists.mp (by rw [← both, e1]; rfl)
    refine S1.some_ r1 e1 fun A2 r2 b2 => ?_
    have K2 := K1.then (Kp.ext b2.extBut)
    have t2 : IsPair A2 TO a b := K2 _ _ (by simp; exact ⟨z3, D.TOi1⟩) hTO
    refine wpAny_bind (wpAny_seqItems t2 rfl (wpAny_bind (wpAny_updateSeq_pair t2 fun A3 t3 b3 => wpAny_bind (wpAny_letGo (wpAny_pure ?_)))))
    have t3 : IsPair A3 TO x b := t3
    have K3 := K2.then (Kp.ext b3.extBut)
    refine wpAny_bind (wpAny_bind (wpAny_onRaise ?_))
    show wpAny _ _ (Builtin.SmallTypes.nextOrEnd (.ref i2)) _ _ _
    have u3 : It2 k A3 := S2.off q2 K3 (by simp; exact ⟨z2, D.i12.symm, D.TOi2.symm⟩) (by simp; exact ⟨l2z, l2i1, l2TO⟩)
    have r3 : It1 (k + 1) A3 := S1.off r2 (Kp.ext b3.extBut) (by simpa using D.TOi1.symm) (by simpa using D.l1TO)
    refine S2.some_ u3 e2 fun A4 u4 b4 => ?_
    have K4 := K3.then (Kp.ext b4.extBut)
    have t4 : IsPair A4 TO x b := b4.extBut _ _ D.TOi2 t3
    refine wpAny_bind (wpAny_seqItems t4 rfl (wpAny_bind (wpAny_updateSeq_pair t4 fun A5 t5 b5 => wpAny_bind (wpAny_letGo (wpAny_pure (wpAny_pure ?_))))))
    have t5 : IsPair A5 TO x y := t5
    have K5 := K4.then (Kp.ext b5.extBut)
    have y5 : IsZs A5 z TI TO .ellipsis := b5.extBut _ _ z3.symm (b4.extBut _ _ z2.symm (b3.extBut _ _ z3.symm (b2.extBut _ _ z1.symm y1)))
    have n5 : A5.objs.size = s.heap.objs.size := by rw [b5.1, b4.1, b3.1, b2.1, b1.1]
    have r5 : It1 (k + 1) A5 := S1.off (S1.off r3 (Kp.ext b4.extBut) (by simpa using D.i12) (by simpa using D.l1i2)) (Kp.ext b5.extBut) (by simpa using D.TOi1.symm) (by simpa using D.l1TO)
    have u5 : It2 (k + 1) A5 := S2.off u4 (Kp.ext b5.extBut) (by simpa using D.TOi2.symm) (by simpa using l2TO)
    refine wpAny_bind (wpAny_seqItems t5 rfl (wpAny_bind (wpAny_newTuple ?_)))
    have y6 : IsZs (A5.push { cls := .type "tuple", data := .seq #[x, y] }) z TI TO .ellipsis := Kp.new _ _ _ (by simp) y5
    refine wpAny_bind (m := Builtin.SmallTypes.ownedTupleHandOut (.ref z) (.ref A5.objs.size)) (wpAny_bind (wpAny_setField_rec y6 (by simp) fun A7 y7 b7 => ?_))
    have y7 : IsZs A7 z TI TO (rawInt A5.objs.size) := y7
    refine wpAny_setField_rec y7 (by simp) fun A8 y8 b8 => wpAny_pure ?_
    have y8 : IsZs A8 z TI TO (rawInt A5.objs.size) := y8
    have K8 : Kp [z] A5 A8 := (((Kp.new _).then (Kp.ext b7.extBut)).then (Kp.ext b8.extBut)).more (by simp)
    have pr : IsPair A8 A5.objs.size x y := b8.extBut _ _ (Nat.ne_of_gt (Heap.lt_size y5)) (b7.extBut _ _ (Nat.ne_of_gt (Heap.lt_size y5)) (Heap.get?_push_size _ rfl))
    have fin := hit x y e1 e2 A8
    rw [← n5] at fin
    refine fin ⟨y8, K8 _ _ (by simpa using D.TIz) (K5 _ _ (by simp; exact ⟨D.TIz, D.TIi1, D.TITO, D.TIi2, D.TITO⟩) hTI), ⟨x, y, K8 _ _ (by simpa using z3) t5⟩, S1.off r5 K8 (by simpa using z1) (by simpa using D.l1z), S2.off u5 K8 (by simpa using z2) (by simpa using l2z)⟩ pr ((K5.then K8).more fun c hc => ?_)
    simp at hc ⊢
    rcases hc with q | q | q | q | q | q <;> simp [q]
end
/-! ### the turn, the call -/
section
variable {P : Program} {w : World} {A : Around} {E : Value → Shared → Prop} {s : Shared} {z TI TO : Addr}
/-- the pair is let go: the zip may use it again -/
theorem gone {elts : List Expr} {n : Nat} {pos : Pos} {T : Addr} {Q : Unit → Shared → Prop} (hz : IsZs s.heap z TI TO (rawInt T)) (q : ∀ h', IsZs h' z TI TO .none → Heap.SameBut z s.heap h' → Q () { s with heap := h' }) : wpAny (model P w) A (letOwnedTupleGo (.Tuple elts n pos) (.ref z) (.ref T)) Q E s := by
  unfold letOwnedTupleGo
  refine wpAny_bind (wpAny_load hz ?_)
  refine wpAny_ite ?_
  rw [if_pos (by simp)]
  exact wpAny_bind (wpAny_rule (wpAny_setField_rec (k := 0) (x := .none) hz (by simp) q))
theorem selfZ {f0 : Value} {Q : Value → Shared → Prop} (hz : IsZs s.heap z TI TO f0) (h : Q (.ref z) s) : wpAny (model P w) A (pyIter (.ref z)) Q E s := by
  have T : s.TypeIs (.ref z) "zip" := ⟨_, hz, rfl⟩
  exact wpAny_pyIter_slot T F.slot_zip_iter (wpAny_call_entry F.slot_zip_iter T F.entry_zip_iter (wpAny_pure ⟨_, rfl, "zip", _, T, F.slot_zip_next.lookup, h⟩) (F.args_zip_iter_1 _))
theorem nextT {f0 : Value} {Q : Option Value → Shared → Prop} (hz : IsZs s.heap z TI TO f0)
    (h : wpAny (model P w) A.in1 (Builtin.«zip.__next__» ⟨[.ref z], []⟩) (fun fin s' => ∃ v, fin = .done (.ret v) ∧ Q (some v) s') (fun e s' => ∃ a o, e = .ref a ∧ s'.heap.get? a = some o ∧ o.cls = .type "StopIteration" ∧ Q none s') s) : wpAny (model P w) A (pyNext (.ref z)) Q E s := by
  have T : s.TypeIs (.ref z) "zip" := ⟨_, hz, rfl⟩
  unfold pyNext
  refine wpAny_bind (wpAny_attempt (wpAny_callSpecial?_slot (name := Str.ofString "__next__") T F.slot_zip_next (wpAny_call_entry F.slot_zip_next T F.entry_zip_next (wpAny_mono h ?_ ?_) (F.args_zip_next_1 _))))
  · rintro fin s' ⟨v, rfl, q⟩
    exact ⟨v, rfl, wpAny_pure q⟩
  · rintro e s' ⟨a, o, rfl, ho, hc, q⟩
    exact wpAny_bind (wpAny_isInstance (T := "StopIteration") (b := true) ⟨o, ho, hc⟩ isSubtype_stop (wpAny_pure q))
end
/-- both of one length -/
def ItzS (p q : Bool) (K : PySem.W.Frag) (a b : Addr) : It where
  go := fun i H => ∃ xs ys x y, SqB p K H a xs ∧ SqB q K H b ys ∧ xs[i]? = some x ∧ ys[i]? = some y
  yld := fun i H v H' => ∃ T x y, v = .ref T ∧ H T = none ∧ H' = upd H T (.tup [x, y]) ∧ (∀ xs, SqB p K H a xs → xs[i]? = some x) ∧ ∀ ys, SqB q K H b ys → ys[i]? = some y
  stop := fun i H => ∃ xs ys, SqB p K H a xs ∧ SqB q K H b ys ∧ xs.length ≤ i ∧ ys.length ≤ i
def ZT (p q : Bool) (a b z TI TO i1 i2 : Addr) (i : Nat) (h : Heap) : Prop := IsZs h z TI TO .none ∧ IsPair h TI (.ref i1) (.ref i2) ∧ (∃ x y, IsPair h TO x y) ∧ ItB p h i1 a i ∧ ItB q h i2 b i
theorem turnS {P : Program} {w : World} {K : PySem.W.Frag} {elts : List Expr} {kk : Nat} {tpos : Pos} (p q : Bool) {a b z TI TO i1 i2 : Addr} (D : ZipApart z TI TO i1 i2 a b) (D2 : b ≠ i1 ∧ b ≠ TO ∧ b ≠ z ∧ b ≠ i2) : Turn P w K (.Tuple elts kk tpos) (ItzS p q K a b) [z, TI, TO, i1, i2] z (ZT p q a b z TI TO i1 i2) where
  mem := List.mem_cons_self
  obj := fun i h ⟨zz, ti, ⟨x, y, to⟩, p1, p2⟩ => five ⟨_, zz, fun v e => nomatch e⟩ ⟨_, ti, fun v e => nomatch e⟩ ⟨_, to, fun v e => nomatch e⟩ p1.obj p2.obj
  keep := fun i h h' ⟨zz, ti, ⟨x, y, to⟩, p1, p2⟩ kp => ⟨kp _ (by simp) _ zz, kp _ (by simp) _ ti, ⟨x, y, kp _ (by simp) _ to⟩, p1.go (kp _ (by simp)), p2.go (kp _ (by simp))⟩
  item := by
    rintro X rfl rfl rfl hc i pins s σ H E I hf ⟨zz, ti, to, p1, p2⟩ ⟨xs, ys, x, y, sx, sy, ex, ey⟩
    obtain ⟨us, ru, cu⟩ := sqB_at I sx
    obtain ⟨ws, rw_, cw⟩ := sqB_at I sy
    obtain ⟨u, hu, ru1⟩ := ru.get ex
    obtain ⟨v, hv, rv1⟩ := rw_.get ey
    refine nextT zz (zt_next (srcB p D.l1i1) (srcB q D2.2.2.2) D D2.1 D2.2.1 D2.2.2.1 ⟨zz, ti, to, ⟨p1, cu⟩, ⟨p2, cw⟩⟩ (by simp [hu, hv]) (fun u' v' e1 e2 h' Z pr kp => ?_) fun e => ?_)
    · have e1 : u' = u := by simpa [hu] using e1.symm
      have e2 : v' = v := by simpa [hv] using e2.symm
      subst e1 e2
      refine ⟨_, rfl, _, rfl, gone (s := { s with heap := h' }) Z.zz fun g zg sb => ?_⟩
      have zl : z < s.heap.objs.size := Heap.lt_size zz
      have up : Kp [z] h' g := .ext sb.extBut
      have T : IsPair g s.heap.objs.size u' v' := up _ _ (by simpa using Nat.ne_of_gt zl) pr
      have I' : Inv X pins σ (upd H s.heap.objs.size (.tup [x, y])) { s with heap := g } := by
        refine I.turnedNew (t' := s.toks) (ch := [z, TI, TO, i1, i2]) (fun c o hb e => up c o (fun m => hb ?_) (kp c o (fun m => hb ?_) e)) hf (Nat.le_refl _) ⟨by show 2 ≤ sizeLine; decide, [u', v'], .cons ru1 (.cons rv1 .nil), ⟨_, T, rfl, _, rfl⟩⟩
        · simp at m; simp [m]
        · simp at m; rcases m with m | m | m | m <;> simp [m]
      refine ⟨.ref s.heap.objs.size, _, I', rfl, ⟨_, x, y, rfl, I.hok.fresh (Nat.le_refl _), rfl, fun l hl => by rw [sqB_one I hl sx]; exact ex, fun l hl => by rw [sqB_one I hl sy]; exact ey⟩, ⟨zg, up _ _ (by simpa using D.TIz) Z.ti, ?_, Z.p1.1.go (fun o => up _ o (by simpa using D.i1z)), Z.p2.1.go (fun o => up _ o (by simpa using D.i2z))⟩, ?_⟩
      · obtain ⟨x', y', to'⟩ := Z.to
        exact ⟨x', y', up _ _ (by simpa using D.TOz) to'⟩
      · obtain ⟨_, _, to⟩ := to
        obtain ⟨o1, g1, _⟩ := p1.obj
        obtain ⟨o2, g2, _⟩ := p2.obj
        intro c hcm
        have lt := five (p := fun c => c < s.heap.objs.size) zl (Heap.lt_size ti) (Heap.lt_size to) (Heap.lt_size g1) (Heap.lt_size g2) c hcm
        rw [upd_ne (Nat.ne_of_lt lt)]
        exact (hf c hcm).1
    · exact absurd e (by simp [hu])
  done := by
    rintro X rfl rfl rfl hc i pins s σ H E I hf ⟨zz, ti, to, p1, p2⟩ ⟨xs, ys, sx, sy, hx, hy⟩
    obtain ⟨us, ru, cu⟩ := sqB_at I sx
    obtain ⟨ws, rw_, cw⟩ := sqB_at I sy
    have lu := ru.length
    have lw := rw_.length
    have n1 : us.toArray[i]? = none := by simp; omega
    have n2 : ws.toArray[i]? = none := by simp; omega
    refine nextT zz (zt_next (srcB p D.l1i1) (srcB q D2.2.2.2) D D2.1 D2.2.1 D2.2.2.1 ⟨zz, ti, to, ⟨p1, cu⟩, ⟨p2, cw⟩⟩ (by simp only [n1, n2]) (fun u' v' e1 e2 h' Z pr kp => ?_) fun e => ⟨I.ok.hd hc, fun h' a kp ho => ?_⟩)
    · exact absurd (n1.symm.trans e1) (by simp)
    · obtain ⟨o, ho, hc'⟩ := ho
      refine ⟨a, o, rfl, ho, hc', rfl, I.turnedL (t' := s.toks) (ch := [z, TI, TO, i1, i2]) (fun c o hb e => kp c o (fun m => hb ?_) e) hf⟩
      simp at m; rcases m with m | m | m | m <;> simp [m]
  self := fun A i s Q E ⟨zz, _⟩ h => selfZ zz h
/-- what zip(l1, l2, strict=True) lays down -/
def zsH (p q : Bool) (h : Heap) (l1 l2 : Addr) : Heap := ((((h.push { cls := .type (itN p), data := .fields #[.ref l1, .int 0 0] }).push { cls := .type (itN q), data := .fields #[.ref l2, .int 0 0] }).push { cls := .type "tuple", data := .seq #[.ref h.objs.size, .ref (h.objs.size + 1)] }).push { cls := .type "tuple", data := .seq #[.none, .none] }).push { cls := .type "zip", data := .fields #[.none, .bool false, .bool true, .ref (h.objs.size + 2), .ref (h.objs.size + 3)] }
theorem meetsS (p q : Bool) (l1 l2 : Addr) (xs ys : Array Value) : Meets (Builtin.«zip.__new__» ⟨[.type "zip", .ref l1, .ref l2], [(Str.ofString "strict", .bool true)]⟩) (fun _ R s => CoB p s.heap l1 xs ∧ CoB q s.heap l2 ys ∧ R (.ok (.ret (.ref (s.heap.objs.size + 4)))) { s with heap := zsH p q s.heap l1 l2 }) := by
  refine .of_wp fun prog w A R s ⟨c1, c2, hr⟩ => ?_
  obtain ⟨hp, g, d, tk, os⟩ := s
  have hsub := sub_zip
  have ek : (Str.ofString "strict" != ("strict" : Str)) = false := by decide +kernel
  have c1 : CoB p (Shared.heap ⟨hp, g, d, tk, os⟩) l1 xs := c1
  have c2 : CoB q (Shared.heap ⟨hp.push { cls := .type (itN p), data := .fields #[.ref l1, .int 0 0] }, g, d, tk, os⟩) l2 ys := CoB.go c2 fun o e => Heap.get?_push_of_some _ e
  wp_walk using iterB c1, iterB c2
  simp only [zsH, Heap.size_push, Nat.add_assoc] at hr ⊢
  exact ⟨_, rfl, hr⟩
theorem zsH_at (p q : Bool) (h : Heap) (l1 l2 : Addr) : IsZs (zsH p q h l1 l2) (h.objs.size + 4) (h.objs.size + 2) (h.objs.size + 3) .none ∧ IsPair (zsH p q h l1 l2) (h.objs.size + 2) (.ref h.objs.size) (.ref (h.objs.size + 1)) ∧ IsPair (zsH p q h l1 l2) (h.objs.size + 3) .none .none ∧
    ItB p (zsH p q h l1 l2) h.objs.size l1 0 ∧ ItB q (zsH p q h l1 l2) (h.objs.size + 1) l2 0 ∧ Kp [] h (zsH p q h l1 l2) := by
  have K : ∀ (o : Obj) {g : Heap}, Kp [] g (g.push o) := fun o => Kp.new o
  have at_ : ∀ {g : Heap} {n : Nat} (o : Obj), o.isFreed = false → g.objs.size = n → (g.push o).get? n = some o := fun o hf e => by subst e; exact Heap.get?_push_size _ hf
  unfold zsH
  refine ⟨at_ _ rfl (by simp [Heap.size_push]), K _ _ _ (by simp) (K _ _ _ (by simp) (at_ _ rfl (by simp [Heap.size_push]))), K _ _ _ (by simp) (at_ _ rfl (by simp [Heap.size_push])), ?_, ?_, ?_⟩
  · exact ItB.first (K _ _ _ (by simp) (K _ _ _ (by simp) (K _ _ _ (by simp) (K _ _ _ (by simp) (at_ _ rfl rfl)))))
  · exact ItB.first (K _ _ _ (by simp) (K _ _ _ (by simp) (K _ _ _ (by simp) (at_ _ rfl (by simp [Heap.size_push])))))
  · exact fun c o hc e => K _ _ _ (by simp) (K _ _ _ (by simp) (K _ _ _ (by simp) (K _ _ _ (by simp) (K _ _ _ (by simp) e))))
theorem pi_zipS {X : Cx} {e e2 : Expr} {ta : TA} {p pos tpos kpos cpos : Pos} {elts : List Expr} {kk j : Nat} (hg : Gl X "zip") (hm : X.mg "zip" = none) (ha : PA X [e, e2] ta) (hs : starEach [e, e2] X.env = (false, eval e X.env) :: starEach [e2] X.env) (hpl : (backTo pos (starEach [e, e2] X.env)).any (·.1) = false) :
    PI X (.Tuple elts kk tpos) (.Call (.Name "zip" p) [e, e2] [⟨some (Str.ofString "strict"), .Constant (.bool true) j cpos, kpos⟩] pos) (fun σ H R => ta σ H fun vs H1 => ∃ p q a b xs ys, vs = [.ref a, .ref b] ∧ SqB p X.K H1 a xs ∧ SqB q X.K H1 b ys ∧ R (ItzS p q X.K a b) H1) := by
  have hk : PK X [⟨some (Str.ofString "strict"), .Constant (.bool true) j cpos, kpos⟩] (tCons (tC (.bl true)) tNil) := pk_cons pe_bl pk_nil
  have kt : ∀ (M : Model) (h : Heap) (_ : True), ∃ k, (k = Keeper.frame ∨ k = Keeper.machine ∨ k = Keeper.boundFrame) ∧ PySem.W.Looks M h (keeperOf (.type "zip")) k := fun M h _ => ⟨.machine, .inr (.inl rfl), PySem.W.Looks.of_pure rfl⟩
  refine ⟨fun pins s σ H R I h => wpAny_Call_Name_kw (ld_blt I hg hm boot_zip (PySem.W.callWith_of (P := fun _ => True) (by rw [hpl]; rfl) (kt _) (evalArgs_kw2 rfl (thn (ha.run pos pins s σ H _ I h) ?_) hs)))⟩
  rintro us s0 ⟨vs, H0, I0, r0, p, q, a, b, xs, ys, rfl, sx, sy, hR⟩
  refine thn (hk.run pos pins s0 σ H0 (fun ks H2 => ks = [.bl true] ∧ H2 = H0) I0 ⟨rfl, rfl⟩) ?_
  rintro ks s1 ⟨zs, H1, I1, rz, rfl, rfl⟩
  refine ⟨trivial, ?_⟩
  obtain rfl : ks = [.bool true] := by
    cases rz with
    | cons x r => cases r; cases (show _ = Value.bool true from x); rfl
  obtain rfl : us = [.ref a, .ref b] := by
    cases r0 with
    | cons x r => cases r with
      | cons y r => cases r; cases x; cases y; rfl
  obtain ⟨ux, _, cx⟩ := sqB_at I1 sx
  obtain ⟨uy, _, cy⟩ := sqB_at I1 sy
  obtain ⟨k1, k2, k3, k4, k5, k6⟩ := zsH_at p q s1.heap a b
  have la := cx.lt
  have lb := cy.lt
  have fr : ∀ c, s1.heap.objs.size ≤ c → FpOk X pins H1 c := fun c hle => I1.fpOk hle (I1.hok.fresh hle)
  have far : ∀ n, b ≠ s1.heap.objs.size + n := fun n => Nat.ne_of_lt (Nat.lt_of_lt_of_le lb (Nat.le_add_right _ _))
  have t1 : checkTypeCall "zip" ⟨[.ref a, .ref b], [(Str.ofString "strict", .bool true)]⟩ = pure () := by kernel_rfl
  have t2 : checkBuiltinCall "zip.__new__" ⟨[.type "zip", .ref a, .ref b], [(Str.ofString "strict", .bool true)]⟩ = pure () := by kernel_rfl
  refine callType_newKw F.called_zip (by decide) t1 t2 (fun obj => by unfold argsOk; kernel_rfl) F.entry_zip_new (meetsS p q a b _ _) ⟨cx, cy, ⟨_, k1, rfl⟩, ?_⟩
  exact selfZ k1 ⟨_, _, _, _, H1, rfl, I1.kept (t' := s1.toks) (fun c o e => k6 c o (by simp) e), turnS p q (PySem.W.ktu_apart s1.heap.objs.size a b la lb) ⟨Nat.ne_of_lt lb, far 3, far 4, far 1⟩, ⟨k1, k2, ⟨_, _, k3⟩, k4, k5⟩, five (fr _ (by omega)) (fr _ (by omega)) (fr _ (by omega)) (fr _ (by omega)) (fr _ (by omega)), hR⟩
end Lb

set_option maxRecDepth 100000
set_option maxHeartbeats 1000000
/-! what is walked -/
namespace Lb
open PySem PySem.Spec PyProof.Rows L2
open AutoSeq1 (wpAny_loadPart')
/-! ### enumerate(tuple) -/
theorem meets_enumerate_newT (l : Addr) (items : Array Value) (n : Nat) (dct : Option Addr) (sl : Array (Option Value)) :
    Meets (Builtin.«enumerate.__new__» ⟨[.type "enumerate", .ref l], []⟩) (fun _ R s => s.heap.get? l = some { cls := .type "tuple", dict := dct, data := .seq items n, slots := sl } ∧
      R (.ok (.ret (.ref (s.heap.push { cls := .type "tuple_iterator", data := .fields #[.ref l, .int 0 0] }).objs.size)))
        { s with heap := (s.heap.push { cls := .type "tuple_iterator", data := .fields #[.ref l, .int 0 0] }).push { cls := .type "enumerate", data := .fields #[.none, .bool false, .ref s.heap.objs.size, rawInt 0, .none, .none] } }) :=
  .of_wp fun prog w A R s h => by
    obtain ⟨hp, g, d, tk, os⟩ := s; obtain ⟨hl, h⟩ := h
    have hsub := sub_enumerate
    have hL : Heap.IsTuple (Shared.heap ⟨hp, g, d, tk, os⟩) l items := ⟨_, hl, rfl, n, rfl⟩
    wp_walk using wpAny_loadPart' hl
    refine wpAny_stack_any fun st => wpAny_pure ?_
    split
    · rename_i c _ _ _ _ _
      cases (c == Value.type "enumerate")
      · wp_walk using wpAny_loadPart' hl, wpAny_pyIter_tuple hL
        exact ⟨_, rfl, h⟩
      · wp_walk using wpAny_loadPart' hl, wpAny_pyIter_tuple hL
        exact ⟨_, rfl, h⟩
    · wp_walk using wpAny_loadPart' hl, wpAny_pyIter_tuple hL
      exact ⟨_, rfl, h⟩
theorem call_enumerate_tuple {prog : Program} {w : World} {A : Around} {E : Value → Shared → Prop} {s : Shared} {l : Addr} {items : Array Value} {Q : Value → Shared → Prop} (hL : s.heap.IsTuple l items)
    (h : ∀ h', IsEnum h' (s.heap.objs.size + 1) s.heap.objs.size 0 .none → h'.IsTupleIter s.heap.objs.size l 0 → h'.objs.size = s.heap.objs.size + 2 →
      (∀ b o, s.heap.get? b = some o → h'.get? b = some o) → Q (.ref (s.heap.objs.size + 1)) { s with heap := h' }) :
    wpAny (model prog w) A (call (.type "enumerate") [.ref l]) Q E s := by
  obtain ⟨⟨c, dct, dt, sl⟩, hl, hc, n, hd⟩ := hL
  replace hc : c = .type "tuple" := hc
  replace hd : dt = .seq items n := hd
  subst hc hd
  refine callType_new F.called_enumerate (by decide) (F.typeCall_enumerate_1 _) (F.newCall_enumerate_1 _) (fun obj => F.args_object_init_2 obj _) F.entry_enumerate_new
    (meets_enumerate_newT l items n dct sl) ⟨hl, ?_⟩
  have hz : (s.heap.push { cls := .type "tuple_iterator", data := .fields #[.ref l, .int 0 0] }).objs.size = s.heap.objs.size + 1 := Heap.size_push ..
  show _ ∧ _
  rw [hz]
  have he : IsEnum ((s.heap.push { cls := .type "tuple_iterator", data := .fields #[.ref l, .int 0 0] }).push
      { cls := .type "enumerate", data := .fields #[.none, .bool false, .ref s.heap.objs.size, rawInt 0, .none, .none] }) (s.heap.objs.size + 1) s.heap.objs.size 0 .none := by
    have := Heap.get?_push_size (s.heap.push { cls := .type "tuple_iterator", data := .fields #[.ref l, .int 0 0] })
      (o := { cls := .type "enumerate", data := .fields #[.none, .bool false, .ref s.heap.objs.size, rawInt 0, .none, .none] }) rfl
    rw [hz] at this; exact this
  refine ⟨⟨_, he, rfl⟩, h _ he ⟨_, Heap.get?_push_of_some _ (Heap.get?_push_size _ rfl), rfl, rfl⟩ (by rw [Heap.size_push, hz]) fun b o x => Heap.get?_push_of_some _ (Heap.get?_push_of_some _ x)⟩
/-- the tuple at a, each item in a new pair -/
def IteT (K : PySem.W.Frag) (a : Addr) : It :=
  ⟨fun i H => ∃ (xs : List V) (x : V), SqT K H a xs ∧ xs[i]? = some x, fun i H v H' => ∃ T x, v = .ref T ∧ H T = none ∧ H' = upd H T (.tup [.int (i : Nat), x]) ∧ ∀ xs, SqT K H a xs → xs[i]? = some x, fun i H => ∃ xs : List V, SqT K H a xs ∧ xs.length ≤ i⟩
theorem turn_enumT {P : Program} {w : World} {K : PySem.W.Frag} {elts : List Expr} {kk : Nat} {tpos : Pos} (a e it : Addr) :
    Turn P w K (.Tuple elts kk tpos) (IteT K a) [e, it] e (fun i h => (∃ old, IsEnum h e it ((i : Nat) : Int) old) ∧ h.IsTupleIter it a i ∧ e ≠ it) where
  mem := by simp
  obj := fun i h st b hb => by
    obtain ⟨⟨old, he⟩, ⟨o, ho, hc, hd⟩, _⟩ := st
    have e' : b = e ∨ b = it := by simpa using hb
    rcases e' with z | z
    · rw [z]; exact ⟨_, he, fun v q => nomatch q⟩
    · rw [z]; exact ⟨o, ho, fun v q => by rw [hd] at q; cases q⟩
  keep := fun i h h' st k => let ⟨⟨old, he⟩, hi, hne⟩ := st; ⟨⟨old, k e (by simp) _ he⟩, hi.at fun o q => k it (by simp) o q, hne⟩
  item := by
    intro X hP hw hK hc i pins s σ H E I hf st hg
    subst hP hw hK
    obtain ⟨⟨old, he⟩, hit, hne⟩ := st
    obtain ⟨xs, x, hq, hx⟩ := hg
    obtain ⟨its, rv, p, hz⟩ := I.tuple hq
    obtain ⟨u, hu, ru⟩ := rv.get hx
    have hel : e < s.heap.objs.size := Heap.lt_size he
    have hil : it < s.heap.objs.size := by obtain ⟨_, q, _⟩ := hit; exact Heap.lt_size q
    have nat : a ≠ it := by
      rintro rfl
      obtain ⟨o1, e1, c1, _⟩ := id hit
      obtain ⟨o2, e2, c2, _⟩ := id p
      rw [e1] at e2
      cases e2
      rw [c1] at c2
      exact absurd (Value.type.inj c2) (by decide)
    have nae : e ≠ a := by
      rintro rfl
      obtain ⟨o2, e2, c2, _⟩ := id p
      have he' : s.heap.get? e = some _ := he
      rw [he'] at e2
      cases e2
      exact absurd (Value.type.inj c2) (by decide)
    have hii : i < its.toArray.size := by
      have := (List.getElem?_eq_some_iff.mp hu).1
      rw [List.size_toArray]; exact this
    refine wpAny_pyNext_enum_itemD (Draws.tuple (A := X.A.in1) (I.ok.hd hc) it a nat its.toArray) he ⟨hit, p⟩ hii hne (by simp [hne, nae]) fun y h' tk hy ho hst' hT hsz hk => ?_
    have hyu : y = u := by
      have : its[i]? = some y := by simpa using hy
      rw [hu] at this
      exact (Option.some.inj this).symm
    subst hyu
    refine ⟨_, rfl, wpAny_letOwnedTupleGo_enum (s := { s with heap := h', toks := tk + 1 }) ho fun h'' he' sb => ?_⟩
    have hT2 : h''.get? s.heap.objs.size = some { cls := .type "tuple", data := .seq #[.int i tk, y] } := (sb.2 _ (Nat.ne_of_gt hel)).trans hT
    have new : ObjOk X.prog X.w (upd H s.heap.objs.size (.tup [.int (i : Nat), x])) h'' s.heap.objs.size (.tup [.int (i : Nat), x]) :=
      ⟨by show 2 ≤ sizeLine; decide, [.int i tk, y], .cons ⟨_, rfl⟩ (.cons ru .nil), ⟨_, hT2, rfl, _, rfl⟩⟩
    have I1 : Inv X pins σ (upd H s.heap.objs.size (.tup [.int (i : Nat), x])) { s with heap := h'', toks := tk + 1 } :=
      I.turnedNew (ch := [e, it]) (fun b ob hb q => (sb.2 b (fun z => hb (by simp [z]))).trans (hk b ob (fun z => hb (by simp [z])) (fun z => hb (by simp [z])) q)) hf (Nat.le_refl _) new
    refine ⟨.ref s.heap.objs.size, _, I1, rfl, ⟨_, x, rfl, I.hok.fresh (Nat.le_refl _), rfl, fun ys hy => by rw [I.tuple_inj hy hq]; exact hx⟩, ⟨⟨y, ?_⟩, hst'.1.at fun o q => (sb.2 it (Ne.symm hne)).trans q, hne⟩, fun b hb => ?_⟩
    · have e1 : ((i + 1 : Nat) : Int) = (i : Int) + 1 := by omega
      rw [e1]; exact he'
    · have hb' : b < s.heap.objs.size := by
        have e' : b = e ∨ b = it := by simpa using hb
        rcases e' with z | z
        · rw [z]; exact hel
        · rw [z]; exact hil
      rw [upd_ne (Nat.ne_of_lt hb')]
      exact (hf b hb).1
  done := by
    intro X hP hw hK hc i pins s σ H E I hf st hg
    subst hP hw hK
    obtain ⟨⟨old, he⟩, hit, hne⟩ := st
    obtain ⟨xs, hq, hx⟩ := hg
    obtain ⟨its, rv, p, hz⟩ := I.tuple hq
    obtain ⟨f0, f1, f2, f3, f4, f5⟩ := hf it (by simp)
    have hl := rv.length
    have hT : s.TypeIs (.ref e) "enumerate" := ⟨_, he, rfl⟩
    unfold pyNext
    refine wpAny_bind (wpAny_attempt (wpAny_callSpecial?_slot (name := Str.ofString "__next__") hT F.slot_enumerate_next
      (wpAny_call_entry F.slot_enumerate_next hT F.entry_enumerate_next ?_ (F.args_enumerate_next_1 _))))
    show wpAny _ _ (field (.ref e) 2 >>= _) _ _ _
    refine wpAny_bind (wpAny_field he rfl (x := .ref it) rfl ?_)
    refine wpAny_bind (wpAny_nextOf_tuple_end (I.ok.hd hc) hit (show s.heap.IsTuple a its.toArray from p) (by simp; omega) fun h' x he' hx' => ?_)
    obtain ⟨o, ho, hc'⟩ := hx'
    refine wpAny_bind (wpAny_isInstance (T := "StopIteration") (b := true) ⟨o, ho, hc'⟩ isSubtype_stop ?_)
    exact wpAny_pure ⟨rfl, I.turned (t' := s.toks) (fun b o hb q => he' b o hb q) f0 f1 f3 f4 f5⟩
  self := fun A i s Q E st h => let ⟨⟨_, he⟩, _⟩ := st; wpAny_pyIter_enum he h
end Lb

set_option maxRecDepth 100000
set_option maxHeartbeats 1000000
namespace Lb
open PySem PySem.Spec PyProof.Rows L2
/-- which walks lay a tuple for each turn -/
def wkK : IK → Bool
  | .enum => true
  | .zip => true
  | .zipS => true
  | .items => true
  | _ => false
/-- what a walk hands on: where w, a tuple of which nothing else is known -/
def RepW (K : PySem.W.Frag) (H : Hp) (Z : Zs) (μ : List Addr) (w : Bool) (d : D) (v : V) : Prop := Rep K H Z μ d v ∨ (w = true ∧ ∃ ds a vs, d = .tup ds ∧ v = .ref a ∧ SqT K H a vs ∧ vs.length ≤ sizeLine ∧ Reps K H Z μ ds vs)
theorem RepW.to {K : PySem.W.Frag} {H : Hp} {Z : Zs} {μ : List Addr} {w w' : Bool} {d : D} {v : V} (h : RepW K H Z μ w d v) (hw : w = true → w' = true) : RepW K H Z μ w' d v := h.imp id fun q => ⟨hw q.1, q.2⟩
/-- J walks xs, however the heap grows; os: own slots whose lists stay as they are meanwhile -/
def Wk (K : PySem.W.Frag) (G : Gh) (H : Hp) (os : List Nat) (w : Bool) (xs : List D) (J : It) : Prop := ∀ H2 Z2 μ2, (∀ p, G.Z p → Z2 p) → (∀ p u, G.Z p → Rd H p u → Rd H2 p u) → (∀ (n : Nat) a, G.μ[n]? = some a → μ2[n]? = some a) → (∀ p o u, G.Z p → H p = some (.frz o u) → H2 p = some (.frz o u)) → (∀ i ∈ os, ∀ u, Rd H (G.ad i) u → Rd H2 (G.ad i) u) →
  (∀ i, i < xs.length → J.go i H2) ∧ J.stop xs.length H2 ∧ ∀ i d x H3, xs[i]? = some d → J.yld i H2 x H3 → ∃ Z3, Grow H2 H3 Z2 Z3 μ2 ∧ RepW K H3 Z3 μ2 w d x
def tI (c : Cfg) (own own' os : List Nat) (k : IK) (m : S → R S (List D)) : TI := fun σ H R => ∃ s G, Rel c.K own s G σ H ∧
  Post c own G σ H (fun xs s' => ∀ J H' G', Rel c.K own' s' G' σ H' → Stp own own' false G H G' H' → Wk c.K G' H' os (wkK k) xs J → R J H') (m s)
/-- the items of what is walked -/
def evI (Γ : List Fn) (k : IK) (as : List T) : S → R S (List D) := fun s => (evs Γ as s).bind fun ds s => opt s (items k ds)
theorem imI {X : Cx} {tg iter : Expr} {t t' : TI} (h : PI X tg iter t) (f : ∀ σ H R, t' σ H R → t σ H R) : PI X tg iter t' := ⟨fun pins s σ H R I q => h.run pins s σ H R I (f σ H R q)⟩
section
variable {K : PySem.W.Frag} {G : Gh} {H : Hp}
theorem wk_list {a : Addr} {vs : List V} {ds : List D} (z : G.Z a) (h : Rd H a (.lst vs)) (r : Reps K H G.Z G.μ ds vs) : Wk K G H [] false ds (Itl K a) := fun H2 Z2 μ2 hz hr hm _ _ => by
  have q : SqL K H2 a vs := .inl (hr a _ z h)
  have r2 := Reps.mono (K := K) hz hr hm _ _ r
  refine ⟨fun i hi => ?_, ⟨vs, q, by rw [r.length]; exact Nat.le_refl _⟩, fun i d x H3 hd y => ?_⟩
  · have hi' : i < vs.length := by rw [r.length]; exact hi
    exact ⟨vs, vs[i], q, by simp [hi']⟩
  · obtain ⟨rfl, y⟩ := y
    obtain ⟨d', e1, e2⟩ := r2.get (y vs q)
    rw [hd] at e1; cases e1
    exact ⟨Z2, Grow.refl, .inl e2⟩
theorem wk_tup {a : Addr} {vs : List V} {ds : List D} (h : TupAt K H G.Z a vs) (r : Reps K H G.Z G.μ ds vs) : Wk K G H [] false ds (Itt K a) := fun H2 Z2 μ2 hz hr hm _ _ => by
  have q : SqT K H2 a vs := (h.mono hz hr).sq
  have r2 := Reps.mono (K := K) hz hr hm _ _ r
  refine ⟨fun i hi => ?_, ⟨vs, q, by rw [r.length]; exact Nat.le_refl _⟩, fun i d x H3 hd y => ?_⟩
  · have hi' : i < vs.length := by rw [r.length]; exact hi
    exact ⟨vs, vs[i], q, by simp [hi']⟩
  · obtain ⟨rfl, y⟩ := y
    obtain ⟨d', e1, e2⟩ := r2.get (y vs q)
    rw [hd] at e1; cases e1
    exact ⟨Z2, Grow.refl, .inl e2⟩
theorem rangeD_len : ∀ (n : Nat) (lo : Int), (rangeD lo n).length = n
  | 0, _ => rfl
  | n + 1, lo => by rw [rangeD, List.length_cons, rangeD_len n]
theorem rangeD_get : ∀ (n : Nat) (lo : Int) (i : Nat), i < n → (rangeD lo n)[i]? = some (.int (lo + i))
  | 0, _, _, h => absurd h (Nat.not_lt_zero _)
  | n + 1, lo, 0, _ => by simp [rangeD]
  | n + 1, lo, i + 1, h => by
    rw [rangeD, List.getElem?_cons_succ, rangeD_get n (lo + 1) i (by omega)]
    congr 2
    omega
theorem wk_range {lo : Int} {n : Nat} : Wk K G H [] false (rangeD lo n) (Itr lo n) := fun H2 Z2 μ2 hz hr hm _ _ => by
  rw [rangeD_len]
  refine ⟨fun i hi => hi, Nat.le_refl _, fun i d x H3 hd y => ?_⟩
  obtain ⟨rfl, rfl⟩ := y
  have hi : i < n := by
    have := (List.getElem?_eq_some_iff.mp hd).1
    rw [rangeD_len] at this; exact this
  rw [rangeD_get n lo i hi] at hd
  cases hd
  exact ⟨Z2, Grow.refl, .inl rfl⟩
theorem enumL_len : ∀ (xs : List D) (k : Nat), (enumL k xs).length = xs.length
  | [], _ => rfl
  | x :: xs, k => by rw [enumL, List.length_cons, List.length_cons, enumL_len xs]
theorem enumL_get : ∀ (xs : List D) (k i : Nat) (d : D), (enumL k xs)[i]? = some d → ∃ x, xs[i]? = some x ∧ d = .tup [.int ((k + i : Nat) : Int), x]
  | [], _, _, _, h => by simp [enumL] at h
  | x :: xs, k, 0, d, h => by
    rw [enumL] at h
    cases h
    exact ⟨x, rfl, rfl⟩
  | x :: xs, k, i + 1, d, h => by
    rw [enumL, List.getElem?_cons_succ] at h
    obtain ⟨y, e1, e2⟩ := enumL_get xs (k + 1) i d h
    exact ⟨y, by simpa using e1, by rw [e2]; congr 2; congr 1; omega⟩
theorem Reps.laid {H2 : Hp} {Z2 : Zs} {μ2 : List Addr} {T : Addr} {o : HO} {ds : List D} {vs : List V} (hT : H2 T = none) (h : Reps K H2 Z2 μ2 ds vs) : Reps K (upd H2 T o) Z2 μ2 ds vs :=
  Reps.mono (fun _ z => z) (fun a u _ r => r.elim (fun r => .inl (by rw [upd_ne (ne_of_none r hT)]; exact r)) fun ⟨o, r⟩ => .inr ⟨o, by rw [upd_ne (ne_of_none r hT)]; exact r⟩) (fun _ _ e => e) _ _ h
theorem pair_out {H2 : Hp} {Z2 : Zs} {μ2 : List Addr} {T : Addr} {d1 d2 : D} {x y : V} (hT : H2 T = none) (h1 : Rep K H2 Z2 μ2 d1 x) (h2 : Rep K H2 Z2 μ2 d2 y) : ∃ Z3, Grow H2 (upd H2 T (.tup [x, y])) Z2 Z3 μ2 ∧ RepW K (upd H2 T (.tup [x, y])) Z3 μ2 true (.tup [d1, d2]) (.ref T) :=
  ⟨Z2, ⟨(Grow.laid (o := .tup [x, y]) (Z := Z2) (μ := μ2) hT).keep, fun _ z => z, fun _ z => .inl z⟩, .inr ⟨rfl, _, T, [x, y], rfl, rfl, .inl (.inl upd_same), by show 2 ≤ sizeLine; decide, Reps.laid hT ⟨x, [y], rfl, h1, y, [], rfl, h2, rfl⟩⟩⟩
theorem wk_enumL {a : Addr} {vs : List V} {ds : List D} (z : G.Z a) (h : Rd H a (.lst vs)) (r : Reps K H G.Z G.μ ds vs) : Wk K G H [] true (enumL 0 ds) (Ite K a) := fun H2 Z2 μ2 hz hr hm _ _ => by
  have q : SqL K H2 a vs := .inl (hr a _ z h)
  have r2 := Reps.mono (K := K) hz hr hm _ _ r
  rw [enumL_len]
  refine ⟨fun i hi => ?_, ⟨vs, q, by rw [r.length]; exact Nat.le_refl _⟩, fun i d x H3 hd y => ?_⟩
  · have hi' : i < vs.length := by rw [r.length]; exact hi
    exact ⟨vs, vs[i], q, by simp [hi']⟩
  · obtain ⟨T, y, rfl, hT, rfl, hy⟩ := y
    obtain ⟨d', e1, rfl⟩ := enumL_get _ _ _ _ hd
    obtain ⟨d'', e3, e4⟩ := r2.get (hy vs q)
    rw [e1] at e3; cases e3
    exact pair_out hT (by rw [Nat.zero_add]; exact rfl) e4
theorem wk_enumT {a : Addr} {vs : List V} {ds : List D} (h : TupAt K H G.Z a vs) (r : Reps K H G.Z G.μ ds vs) : Wk K G H [] true (enumL 0 ds) (IteT K a) := fun H2 Z2 μ2 hz hr hm _ _ => by
  have q : SqT K H2 a vs := (h.mono hz hr).sq
  have r2 := Reps.mono (K := K) hz hr hm _ _ r
  rw [enumL_len]
  refine ⟨fun i hi => ?_, ⟨vs, q, by rw [r.length]; exact Nat.le_refl _⟩, fun i d x H3 hd y => ?_⟩
  · have hi' : i < vs.length := by rw [r.length]; exact hi
    exact ⟨vs, vs[i], q, by simp [hi']⟩
  · obtain ⟨T, y, rfl, hT, rfl, hy⟩ := y
    obtain ⟨d', e1, rfl⟩ := enumL_get _ _ _ _ hd
    obtain ⟨d'', e3, e4⟩ := r2.get (hy vs q)
    rw [e1] at e3; cases e3
    exact pair_out hT (by rw [Nat.zero_add]; exact rfl) e4
theorem zipL_len : ∀ (xs ys : List D), (zipL xs ys).length = min xs.length ys.length
  | [], ys => by simp [zipL]
  | x :: xs, [] => by simp [zipL]
  | x :: xs, y :: ys => by rw [zipL, List.length_cons, zipL_len xs ys, List.length_cons, List.length_cons]; omega
theorem zipL_get : ∀ (xs ys : List D) (i : Nat) (d : D), (zipL xs ys)[i]? = some d → ∃ x y, xs[i]? = some x ∧ ys[i]? = some y ∧ d = .tup [x, y]
  | [], _, _, _, h => by simp [zipL] at h
  | x :: xs, [], _, _, h => by simp [zipL] at h
  | x :: xs, y :: ys, 0, d, h => by
    rw [zipL] at h
    cases h
    exact ⟨x, y, rfl, rfl, rfl⟩
  | x :: xs, y :: ys, i + 1, d, h => by
    rw [zipL, List.getElem?_cons_succ] at h
    simpa using zipL_get xs ys i d h
/-- a list or a tuple that stays as it is -/
def HasB (K : PySem.W.Frag) (H : Hp) (Z : Zs) : Bool → Addr → List V → Prop
  | true, a, vs => Z a ∧ Rd H a (.lst vs)
  | false, a, vs => TupAt K H Z a vs
theorem HasB.sq {H2 : Hp} {Z2 : Zs} {p : Bool} {a : Addr} {vs : List V} (h : HasB K H G.Z p a vs) (hz : ∀ q, G.Z q → Z2 q) (hr : ∀ q u, G.Z q → Rd H q u → Rd H2 q u) : SqB p K H2 a vs := by
  cases p
  · exact (TupAt.mono hz hr h).sq
  · exact .inl (hr a _ h.1 h.2)
theorem wk_zipB {p q : Bool} {a b : Addr} {vs us : List V} {ds es : List D} (h : HasB K H G.Z p a vs) (r : Reps K H G.Z G.μ ds vs) (h' : HasB K H G.Z q b us) (r' : Reps K H G.Z G.μ es us) : Wk K G H [] true (zipL ds es) (ItzB p q K a b) := fun H2 Z2 μ2 hz hr hm _ _ => by
  have s1 := h.sq hz hr
  have s2 := h'.sq hz hr
  have n1 := r.length
  have n2 := r'.length
  rw [zipL_len]
  refine ⟨fun i hi => ⟨vs, us, vs[i]'(by omega), us[i]'(by omega), s1, s2, List.getElem?_eq_getElem _, List.getElem?_eq_getElem _⟩, ⟨vs, us, s1, s2, by omega⟩, ?_⟩
  rintro i d x H3 hd ⟨T, v, u, rfl, hT, rfl, hv, hu⟩
  obtain ⟨d1, d2, e1, e2, rfl⟩ := zipL_get _ _ _ _ hd
  obtain ⟨_, f1, g1⟩ := (Reps.mono (K := K) hz hr hm _ _ r).get (hv vs s1)
  obtain ⟨_, f2, g2⟩ := (Reps.mono (K := K) hz hr hm _ _ r').get (hu us s2)
  cases e1.symm.trans f1
  cases e2.symm.trans f2
  exact pair_out hT g1 g2
theorem wk_zipS {p q : Bool} {a b : Addr} {vs us : List V} {ds es : List D} (hl : ds.length = es.length) (h : HasB K H G.Z p a vs) (r : Reps K H G.Z G.μ ds vs) (h' : HasB K H G.Z q b us) (r' : Reps K H G.Z G.μ es us) : Wk K G H [] true (zipL ds es) (ItzS p q K a b) := fun H2 Z2 μ2 hz hr hm hw ho => by
  obtain ⟨A1, A2, A3⟩ := wk_zipB h r h' r' H2 Z2 μ2 hz hr hm hw ho
  have n1 := r.length
  have n2 := r'.length
  exact ⟨A1, ⟨vs, us, h.sq hz hr, h'.sq hz hr, by rw [zipL_len]; omega, by rw [zipL_len]; omega⟩, A3⟩
theorem repB {μ : List Addr} {Z : Zs} {d : D} {v : V} {xs : List D} (h : Rep K H Z μ d v) (e : seqOf d = some xs) : ∃ p a vs, v = .ref a ∧ HasB K H Z p a vs ∧ Reps K H Z μ xs vs := by
  cases d with
  | lst ys =>
    cases e
    obtain ⟨a, vs, rfl, h1, _, h3⟩ := (show ∃ a vs, v = V.ref a ∧ (Z a ∧ Rd H a (.lst vs)) ∧ vs.length ≤ sizeLine ∧ Reps K H Z μ xs vs from h)
    exact ⟨true, a, vs, rfl, h1, h3⟩
  | tup ys =>
    cases e
    obtain ⟨a, vs, rfl, h1, _, h3⟩ := (show ∃ a vs, v = V.ref a ∧ TupAt K H Z a vs ∧ vs.length ≤ sizeLine ∧ Reps K H Z μ xs vs from h)
    exact ⟨false, a, vs, rfl, h1, h3⟩
  | _ => cases e
end
section
variable {X : Cx} {c : Cfg} {Γ : List Fn} {own own1 own2 : List Nat} {tg e e2 : Expr} {ta tb : T} {as : List T} {p pos tpos : Pos} {elts : List Expr} {kk : Nat}
def iSeq (K : PySem.W.Frag) (tl : TE) : TI := fun σ H R => tl σ H fun x H1 => ∃ a xs, x = .ref a ∧ ((SqL K H1 a xs ∧ R (Itl K a) H1) ∨ (SqT K H1 a xs ∧ R (Itt K a) H1))
theorem pi_seq {l : Expr} {tl : TE} (hl : PE X l tl) : PI X tg l (iSeq X.K tl) := by
  refine ⟨fun pins s σ H R I h => ?_⟩
  refine thn (hl.run pins s σ H _ I h) fun v s1 ⟨x, H1, I1, r1, q1⟩ => ?_
  obtain ⟨a, xs, e, q | q⟩ := q1
  · obtain ⟨hq, q⟩ := q
    subst e
    cases r1
    obtain ⟨its, rv, p, hz⟩ := I1.list hq
    refine wpAny_pyIter_list p.isList ?_
    refine ⟨s1.heap.objs.size, [s1.heap.objs.size], _, _, H1, rfl, I1.kept (t' := s1.toks) fun b o e => Heap.get?_push_of_some _ e, turn_list a _, ⟨_, Heap.get?_push_size _ rfl, rfl, rfl⟩, fun b hb => ?_, q⟩
    have e : b = s1.heap.objs.size := by simpa using hb
    subst e
    exact I1.fpOk (Nat.le_refl _) (I1.hok.fresh (Nat.le_refl _))
  · obtain ⟨hq, q⟩ := q
    subst e
    cases r1
    obtain ⟨its, rv, p, hz⟩ := I1.tuple hq
    refine wpAny_pyIter_tuple (show s1.heap.IsTuple a its.toArray from p) ?_
    refine ⟨s1.heap.objs.size, [s1.heap.objs.size], _, _, H1, rfl, I1.kept (t' := s1.toks) fun b o e => Heap.get?_push_of_some _ e, turn_tuple a _, ⟨_, Heap.get?_push_size _ rfl, rfl, rfl⟩, fun b hb => ?_, q⟩
    have e : b = s1.heap.objs.size := by simpa using hb
    subst e
    exact I1.fpOk (Nat.le_refl _) (I1.hok.fresh (Nat.le_refl _))
theorem seqOf_some {d : D} {xs : List D} (h : seqOf d = some xs) : d = .lst xs ∨ d = .tup xs := by
  cases d <;> cases h
  · exact .inr rfl
  · exact .inl rfl
theorem si_seq (hK : c.K = X.K) (ha : PE X e (tE c own own1 false .sh (ev Γ ta))) : PI X tg e (tI c own own1 [] .seq (evI Γ .seq [ta])) := imI (pi_seq ha) fun σ H R ⟨s, G, r, q⟩ => by
  simp only [evI, evs_cons, evs_nil, Post.bind, Post.ok] at q
  refine ⟨s, G, r, q.mono fun d s1 q v H1 G1 r1 t1 rp => ?_⟩
  obtain ⟨xs, hi, q⟩ := q.opt2
  replace rp : Rep c.K H1 G1.Z G1.μ d v := rp
  rw [← hK]
  rcases seqOf_some hi with rfl | rfl
  · obtain ⟨a, vs, rfl, h1, h2, h3⟩ := (show ∃ a vs, v = V.ref a ∧ (G1.Z a ∧ Rd H1 a (.lst vs)) ∧ vs.length ≤ sizeLine ∧ Reps c.K H1 G1.Z G1.μ xs vs from rp)
    exact ⟨a, vs, rfl, .inl ⟨SqL.of' h1.2, q _ H1 G1 r1 t1 (wk_list h1.1 h1.2 h3)⟩⟩
  · obtain ⟨a, vs, rfl, h1, h2, h3⟩ := (show ∃ a vs, v = V.ref a ∧ TupAt c.K H1 G1.Z a vs ∧ vs.length ≤ sizeLine ∧ Reps c.K H1 G1.Z G1.μ xs vs from rp)
    exact ⟨a, vs, rfl, .inr ⟨SqT.of' h1, q _ H1 G1 r1 t1 (wk_tup h1 h3)⟩⟩
theorem wk_own {K : PySem.W.Frag} {G : Gh} {H : Hp} {i : Nat} {vs : List V} {ds : List D} (h : H (G.ad i) = some (.lst vs)) (r : Reps K H G.Z G.μ ds vs) : Wk K G H [i] false ds (Itl K (G.ad i)) := fun H2 Z2 μ2 hz hr hm _ ho => by
  have q : SqL K H2 (G.ad i) vs := .inl (ho i List.mem_cons_self _ (.inl h))
  have r2 := Reps.mono (K := K) hz hr hm _ _ r
  refine ⟨fun j hj => ?_, ⟨vs, q, by rw [r.length]; exact Nat.le_refl _⟩, fun j d x H3 hd y => ?_⟩
  · have hj' : j < vs.length := by rw [r.length]; exact hj
    exact ⟨vs, vs[j], q, by simp [hj']⟩
  · obtain ⟨rfl, y⟩ := y
    obtain ⟨d', e1, e2⟩ := r2.get (y vs q)
    rw [hd] at e1; cases e1
    exact ⟨Z2, Grow.refl, .inl e2⟩
/-- an own list is walked -/
theorem si_own {i : Nat} {x : Str} {pn : Pos} (hK : c.K = X.K) (hN : X.N[i]? = some x) (hv : Vis X.env.scope x) (hd : (x == ("__debug__" : Str)) = false) (hcd : (x == ("__classdict__" : Str)) = false) (hi : i ∈ own) : PI X tg (.Name x pn) (tI c own own [i] .seq (evI Γ .seq [.var i])) := imI (pi_seq (pe_var hN hv hd hcd)) fun σ H R ⟨s, G, r, q⟩ => by
  simp only [evI, evs_cons, evs_nil, Post.bind, Post.ok] at q
  obtain ⟨d, e, q⟩ := Post.getV q
  obtain ⟨v, e1, e2, _⟩ := r.slot i d e
  obtain ⟨xs, hx, q⟩ := q.opt2
  rw [← hK]
  rcases seqOf_some hx with rfl | rfl
  · obtain ⟨rfl, vs, h1, h2, h3⟩ := (show v = V.ref (G.ad i) ∧ ∃ vs, H (G.ad i) = some (.lst vs) ∧ vs.length ≤ sizeLine ∧ Reps c.K H G.Z G.μ xs vs from e2 hi)
    exact ⟨_, e1, _, vs, rfl, .inl ⟨.inl (.inl h1), q _ H G r Stp.refl (wk_own h1 h3)⟩⟩
  · exact (e2 hi).elim
theorem small_of {i : Int} (h : small i = true) : -(2 ^ 62) ≤ i ∧ i < 2 ^ 62 := by
  have h1 : i.natAbs ≤ 4000000000000000000 := Nat.le_of_ble_eq_true h
  have e : (2 : Int) ^ 62 = 4611686018427387904 := by decide
  rw [e]
  omega
theorem si_rng1 (hg : Gl X "range") (hm : X.mg "range" = none) (ha : PA X [e] (tAs c own own1 false true (evs Γ [ta]))) (hs : starEach [e] X.env = [(false, eval e X.env)]) : PI X tg (.Call (.Name "range" p) [e] [] pos) (tI c own own1 [] .rng1 (evI Γ .rng1 [ta])) := imI (pi_range1 hg hm ha hs) fun σ H R ⟨s, G, r, q⟩ => by
  simp only [evI, Post.bind] at q
  refine ⟨s, G, r, q.evs.mono fun ds s1 q vs H1 G1 r1 t1 rp => ?_⟩
  obtain ⟨ql, q⟩ := q
  obtain ⟨xs, hi, q⟩ := q.opt2
  replace rp : RepTs c.K H1 G1.Z G1.μ ds vs := rp
  obtain ⟨d, rfl⟩ : ∃ d, ds = [d] := by
    match ds, ql with
    | [d], _ => exact ⟨d, rfl⟩
  obtain ⟨x, rfl, h1⟩ := repTs1 rp
  clear rp
  cases d <;> first | exact nomatch (show (none : Option (List D)) = some xs from hi) | skip
  rename_i j
  replace hi : (if small j then some (rangeD 0 j.toNat) else none) = some xs := hi
  split at hi
  · rename_i hs
    cases hi
    cases (show x = .int j from h1)
    exact ⟨j, rfl, (small_of hs).1, (small_of hs).2, q _ H1 G1 r1 t1 wk_range⟩
  · cases hi
theorem si_rng2 (hg : Gl X "range") (hm : X.mg "range" = none) (ha : PA X [e, e2] (tAs c own own1 false true (evs Γ [ta, tb]))) (hs : starEach [e, e2] X.env = [(false, eval e X.env), (false, eval e2 X.env)]) (hs2 : starEach [e2] X.env = [(false, eval e2 X.env)]) :
    PI X tg (.Call (.Name "range" p) [e, e2] [] pos) (tI c own own1 [] .rng2 (evI Γ .rng2 [ta, tb])) := imI (pi_range2 hg hm ha hs hs2) fun σ H R ⟨s, G, r, q⟩ => by
  simp only [evI, Post.bind] at q
  refine ⟨s, G, r, q.evs.mono fun ds s1 q vs H1 G1 r1 t1 rp => ?_⟩
  obtain ⟨ql, q⟩ := q
  obtain ⟨xs, hi, q⟩ := q.opt2
  replace rp : RepTs c.K H1 G1.Z G1.μ ds vs := rp
  obtain ⟨d1, d2, rfl⟩ : ∃ d1 d2, ds = [d1, d2] := by
    match ds, ql with
    | [d1, d2], _ => exact ⟨d1, d2, rfl⟩
  obtain ⟨x, y, rfl, h1, h2⟩ := repTs2 rp
  clear rp
  cases d1 <;> cases d2 <;> first | exact nomatch (show (none : Option (List D)) = some xs from hi) | skip
  rename_i i j
  replace hi : (if small i && small j then some (rangeD i (j - i).toNat) else none) = some xs := hi
  split at hi
  · rename_i hs
    cases hi
    obtain ⟨s1', s2'⟩ := Bool.and_eq_true_iff.mp hs
    cases (show x = .int i from h1)
    cases (show y = .int j from h2)
    exact ⟨i, j, rfl, ⟨(small_of s1').1, (small_of s1').2, (small_of s2').1, (small_of s2').2⟩, q _ H1 G1 r1 t1 wk_range⟩
  · cases hi
def iEnumA (K : PySem.W.Frag) (ta : TA) : TI := fun σ H R => ta σ H fun vs H1 => ∃ a xs, vs = [.ref a] ∧ ((SqL K H1 a xs ∧ R (Ite K a) H1) ∨ (SqT K H1 a xs ∧ R (IteT K a) H1))
theorem pi_enumA {ta : TA} (hg : Gl X "enumerate") (hm : X.mg "enumerate" = none) (ha : PA X [e] ta) (hs : starEach [e] X.env = [(false, eval e X.env)]) :
    PI X (.Tuple elts kk tpos) (.Call (.Name "enumerate" p) [e] [] pos) (iEnumA X.K ta) := by
  refine ⟨fun pins s σ H R I h => ?_⟩
  refine Call_ (ld_blt I hg hm boot_enumerate (PyProof.Rows.callWith_type1 (thn (ha.run pos pins s σ H _ I h) fun us s1 ⟨vs, H1, I1, r1, q1⟩ => ?_) hs rfl))
  obtain ⟨a, xs, ex, q⟩ := q1
  subst ex
  cases r1 with
  | cons r rr =>
    cases rr
    cases r
    have fin : ∀ b, b ∈ [s1.heap.objs.size + 1, s1.heap.objs.size] → FpOk X pins H1 b := fun b hb => by
      have e' : b = s1.heap.objs.size + 1 ∨ b = s1.heap.objs.size := by simpa using hb
      have hle : s1.heap.objs.size ≤ b := by
        rcases e' with z | z
        · rw [z]; exact Nat.le_add_right _ _
        · rw [z]; exact Nat.le_refl _
      exact I1.fpOk hle (I1.hok.fresh hle)
    rcases q with ⟨hq, q⟩ | ⟨hq, q⟩
    · obtain ⟨its, rv, p', hz⟩ := I1.list hq
      refine call_enumerate_list p'.isList fun h' he hit hsz hk => wpAny_pyIter_enum he ?_
      have I2 : Inv X pins σ H1 { s1 with heap := h' } := I1.kept (t' := s1.toks) hk
      exact ⟨s1.heap.objs.size + 1, [s1.heap.objs.size + 1, s1.heap.objs.size], _, _, H1, rfl, I2, turn_enum a (s1.heap.objs.size + 1) s1.heap.objs.size, ⟨⟨.none, he⟩, hit, Nat.succ_ne_self _⟩, fin, q⟩
    · obtain ⟨its, rv, p', hz⟩ := I1.tuple hq
      refine call_enumerate_tuple (show s1.heap.IsTuple a its.toArray from p') fun h' he hit hsz hk => wpAny_pyIter_enum he ?_
      have I2 : Inv X pins σ H1 { s1 with heap := h' } := I1.kept (t' := s1.toks) hk
      exact ⟨s1.heap.objs.size + 1, [s1.heap.objs.size + 1, s1.heap.objs.size], _, _, H1, rfl, I2, turn_enumT a (s1.heap.objs.size + 1) s1.heap.objs.size, ⟨⟨.none, he⟩, hit, Nat.succ_ne_self _⟩, fin, q⟩
theorem si_enum (hK : c.K = X.K) (hg : Gl X "enumerate") (hm : X.mg "enumerate" = none) (ha : PA X [e] (tAs c own own1 false false (evs Γ [ta]))) (hs : starEach [e] X.env = [(false, eval e X.env)]) :
    PI X (.Tuple elts kk tpos) (.Call (.Name "enumerate" p) [e] [] pos) (tI c own own1 [] .enum (evI Γ .enum [ta])) := imI (pi_enumA hg hm ha hs) fun σ H R ⟨s, G, r, q⟩ => by
  simp only [evI, Post.bind] at q
  refine ⟨s, G, r, q.evs.mono fun ds s1 q vs H1 G1 r1 t1 rp => ?_⟩
  obtain ⟨ql, q⟩ := q
  obtain ⟨xs, hi, q⟩ := q.opt2
  replace rp : Reps c.K H1 G1.Z G1.μ ds vs := rp
  obtain ⟨d, rfl⟩ : ∃ d, ds = [d] := by
    match ds, ql with
    | [d], _ => exact ⟨d, rfl⟩
  obtain ⟨v, vr, rfl, h1, h2⟩ := (show ∃ v r, vs = v :: r ∧ Rep c.K H1 G1.Z G1.μ d v ∧ Reps c.K H1 G1.Z G1.μ [] r from rp)
  cases (show vr = [] from h2)
  have hi : (seqOf d).map (enumL 0) = some xs := hi
  cases es : seqOf d with
  | none => rw [es] at hi; cases hi
  | some ys =>
    rw [es] at hi; cases hi
    rw [← hK]
    rcases seqOf_some es with rfl | rfl
    · obtain ⟨a, us, rfl, h1, h2, h3⟩ := (show ∃ a vs, v = V.ref a ∧ (G1.Z a ∧ Rd H1 a (.lst vs)) ∧ vs.length ≤ sizeLine ∧ Reps c.K H1 G1.Z G1.μ ys vs from h1)
      exact ⟨a, us, rfl, .inl ⟨SqL.of' h1.2, q _ H1 G1 r1 t1 (wk_enumL h1.1 h1.2 h3)⟩⟩
    · obtain ⟨a, us, rfl, h1, h2, h3⟩ := (show ∃ a vs, v = V.ref a ∧ TupAt c.K H1 G1.Z a vs ∧ vs.length ≤ sizeLine ∧ Reps c.K H1 G1.Z G1.μ ys vs from h1)
      exact ⟨a, us, rfl, .inr ⟨SqT.of' h1, q _ H1 G1 r1 t1 (wk_enumT h1 h3)⟩⟩
theorem si_zip (hK : c.K = X.K) (hg : Gl X "zip") (hm : X.mg "zip" = none) (ha : PA X [e, e2] (tAs c own own1 false false (evs Γ [ta, tb]))) (hs : starEach [e, e2] X.env = (false, eval e X.env) :: starEach [e2] X.env) (hpl : (backTo pos (starEach [e2] X.env)).any (·.1) = false) :
    PI X (.Tuple elts kk tpos) (.Call (.Name "zip" p) [e, e2] [] pos) (tI c own own1 [] .zip (evI Γ .zip [ta, tb])) := imI (pi_zipB hg hm ha hs hpl) fun σ H R ⟨s, G, r, q⟩ => by
  simp only [evI, Post.bind] at q
  refine ⟨s, G, r, q.evs.mono fun ds s1 q vs H1 G1 r1 t1 rp => ?_⟩
  obtain ⟨ql, q⟩ := q
  obtain ⟨xs, hi, q⟩ := q.opt2
  replace rp : Reps c.K H1 G1.Z G1.μ ds vs := rp
  obtain ⟨d1, d2, rfl⟩ : ∃ d1 d2, ds = [d1, d2] := by
    match ds, ql with
    | [d1, d2], _ => exact ⟨d1, d2, rfl⟩
  obtain ⟨v, vr, rfl, h1, h2⟩ := (show ∃ v r, vs = v :: r ∧ Rep c.K H1 G1.Z G1.μ d1 v ∧ Reps c.K H1 G1.Z G1.μ [d2] r from rp)
  obtain ⟨u, ur, rfl, h3, h4⟩ := (show ∃ v r, vr = v :: r ∧ Rep c.K H1 G1.Z G1.μ d2 v ∧ Reps c.K H1 G1.Z G1.μ [] r from h2)
  cases (show ur = [] from h4)
  clear rp h2 h4
  rw [← hK]
  obtain ⟨ys, zs, e1, e2, rfl⟩ : ∃ ys zs, seqOf d1 = some ys ∧ seqOf d2 = some zs ∧ xs = zipL ys zs := by
    cases d1 <;> cases d2 <;> first | exact nomatch (show (none : Option (List D)) = some xs from hi) | exact ⟨_, _, rfl, rfl, (Option.some.inj hi).symm⟩
  obtain ⟨p, a, us, rfl, k1, k2⟩ := repB h1 e1
  obtain ⟨q', b, ws, rfl, l1, l2⟩ := repB h3 e2
  exact ⟨p, q', a, b, us, ws, rfl, k1.sq (fun _ z => z) (fun _ _ _ z => z), l1.sq (fun _ z => z) (fun _ _ _ z => z), q _ H1 G1 r1 t1 (wk_zipB k1 k2 l1 l2)⟩
theorem si_zipS {j : Nat} {cpos kpos : Pos} (hK : c.K = X.K) (hg : Gl X "zip") (hm : X.mg "zip" = none) (ha : PA X [e, e2] (tAs c own own1 false false (evs Γ [ta, tb]))) (hs : starEach [e, e2] X.env = (false, eval e X.env) :: starEach [e2] X.env) (hpl : (backTo pos (starEach [e, e2] X.env)).any (·.1) = false) :
    PI X (.Tuple elts kk tpos) (.Call (.Name "zip" p) [e, e2] [⟨some (Str.ofString "strict"), .Constant (.bool true) j cpos, kpos⟩] pos) (tI c own own1 [] .zipS (evI Γ .zipS [ta, tb])) := imI (pi_zipS hg hm ha hs hpl) fun σ H R ⟨s, G, r, q⟩ => by
  simp only [evI, Post.bind] at q
  refine ⟨s, G, r, q.evs.mono fun ds s1 q vs H1 G1 r1 t1 rp => ?_⟩
  obtain ⟨ql, q⟩ := q
  obtain ⟨xs, hi, q⟩ := q.opt2
  replace rp : Reps c.K H1 G1.Z G1.μ ds vs := rp
  obtain ⟨d1, d2, rfl⟩ : ∃ d1 d2, ds = [d1, d2] := by
    match ds, ql with
    | [d1, d2], _ => exact ⟨d1, d2, rfl⟩
  obtain ⟨v, vr, rfl, h1, h2⟩ := (show ∃ v r, vs = v :: r ∧ Rep c.K H1 G1.Z G1.μ d1 v ∧ Reps c.K H1 G1.Z G1.μ [d2] r from rp)
  obtain ⟨u, ur, rfl, h3, h4⟩ := (show ∃ v r, vr = v :: r ∧ Rep c.K H1 G1.Z G1.μ d2 v ∧ Reps c.K H1 G1.Z G1.μ [] r from h2)
  cases (show ur = [] from h4)
  clear rp h2 h4
  rw [← hK]
  cases d1 <;> cases d2 <;> first | exact nomatch (show (none : Option (List D)) = some xs from hi) | skip
  case tup.tup ys zs =>
    have hl : ys.length = zs.length := by
      by_cases hl : ys.length = zs.length
      · exact hl
      · exact nomatch ((if_neg hl).symm.trans (show (if ys.length = zs.length then some (zipL ys zs) else none) = some xs from hi))
    cases (if_pos hl).symm.trans (show (if ys.length = zs.length then some (zipL ys zs) else none) = some xs from hi)
    obtain ⟨p, a, us, rfl, k1, k2⟩ := repB h1 rfl
    obtain ⟨q', b, ws, rfl, l1, l2⟩ := repB h3 rfl
    exact ⟨p, q', a, b, us, ws, rfl, k1.sq (fun _ z => z) (fun _ _ _ z => z), l1.sq (fun _ z => z) (fun _ _ _ z => z), q _ H1 G1 r1 t1 (wk_zipS hl k1 k2 l1 l2)⟩
end
end Lb

set_option maxRecDepth 100000
set_option maxHeartbeats 1000000
namespace Lb
open PySem PySem.Spec PyProof.Rows L2
/-! ### slots are set -/
section
variable {K : PySem.W.Frag} {own own' : List Nat} {s : S} {G : Gh} {σ : L2.St} {H : Hp} {mu : Bool}
theorem mem_drop1 {i j : Nat} : j ∈ drop1 own i ↔ j ∈ own ∧ j ≠ i := by
  unfold drop1
  rw [List.mem_filter]
  simp
/-- fewer own slots; those left out hold nothing of their own any more (they are about to be set) -/
theorem Rel.setSh {i : Nat} {d : D} {v : V} (r : Rel K own s G σ H) (h : Rep K H G.Z G.μ d v) : Rel K (drop1 own i) (setV i d s) G (σ.set i (some v)) H := by
  refine ⟨by simp [setV, r.len], fun j e hj => ?_, r.zl, fun j hj => r.oz j (mem_drop1.mp hj).1, fun j hj k hk => r.inj j (mem_drop1.mp hj).1 k (mem_drop1.mp hk).1, r.sto, r.mz, r.mnd⟩
  simp only [setV] at hj
  by_cases hji : j = i
  · subst hji
    have hl : j < s.env.length := by
      have := (List.getElem?_eq_some_iff.mp hj).1
      rw [List.length_set] at this; exact this
    rw [List.getElem?_set_self hl] at hj
    cases hj
    refine ⟨v, ?_, fun z => absurd rfl (mem_drop1.mp z).2, fun _ => h⟩
    rw [List.getElem?_set_self (by rw [← r.len]; exact hl)]
  · rw [List.getElem?_set_ne (fun z => hji z.symm)] at hj
    obtain ⟨u, e1, e2, e3⟩ := r.slot j e hj
    refine ⟨u, by rw [List.getElem?_set_ne (fun z => hji z.symm)]; exact e1, fun z => e2 (mem_drop1.mp z).1, fun z => e3 fun q => z (mem_drop1.mpr ⟨q, hji⟩)⟩
mutual
def slotsT : Tg → List Nat
  | .name i => [i]
  | .tup ts => slotsTs ts
def slotsTs : List Tg → List Nat
  | [] => []
  | t :: ts => slotsT t ++ slotsTs ts
end
def offT (own : List Nat) (vs : List Nat) : List Nat := own.filter fun j => !vs.contains j
theorem mem_offT {vs : List Nat} {j : Nat} : j ∈ offT own vs ↔ j ∈ own ∧ j ∉ vs := by
  unfold offT
  rw [List.mem_filter]
  simp
theorem offT_one (i : Nat) : offT own [i] = drop1 own i := by
  unfold offT drop1
  congr 1
  funext j
  by_cases h : j = i <;> simp [h]
theorem offT_app (vs us : List Nat) : offT own (vs ++ us) = offT (offT own vs) us := by
  unfold offT
  rw [List.filter_filter]
  congr 1
  funext j
  simp only [List.contains_eq_mem, List.mem_append, Bool.decide_or]
  cases decide (j ∈ vs) <;> cases decide (j ∈ us) <;> rfl
/-- what differs at vs alone -/
def But (vs : List Nat) (σ σ' : L2.St) : Prop := σ'.length = σ.length ∧ ∀ j, j ∉ vs → σ'[j]? = σ[j]?
theorem But.refl {vs : List Nat} : But vs σ σ := ⟨rfl, fun _ _ => rfl⟩
theorem But.trans {vs us : List Nat} {σ1 σ2 : L2.St} (a : But vs σ σ1) (b : But us σ1 σ2) : But (vs ++ us) σ σ2 :=
  ⟨b.1.trans a.1, fun j hj => (b.2 j fun z => hj (List.mem_append_right _ z)).trans (a.2 j fun z => hj (List.mem_append_left _ z))⟩
end
def tgB : Tg → Bool
  | .name _ => false
  | .tup _ => true
def tG (c : Cfg) (own : List Nat) (tg : Tg) : TG := fun v σ H Q => ∃ d s G s', Rel c.K own s G σ H ∧ RepW c.K H G.Z G.μ (tgB tg) d v ∧ setT tg d s = some s' ∧ ∀ σ', Rel c.K (offT own (slotsT tg)) s' G σ' H → But (slotsT tg) σ σ' → Q σ' H
def tGs (c : Cfg) (own : List Nat) (ts : List Tg) : TGs := fun vs σ H Q => ∃ ds s G s', Rel c.K own s G σ H ∧ Reps c.K H G.Z G.μ ds vs ∧ setTs ts ds s = some s' ∧ ∀ σ', Rel c.K (offT own (slotsTs ts)) s' G σ' H → But (slotsTs ts) σ σ' → Q σ' H
theorem imG {X : Cx} {e : Expr} {t t' : TG} (h : PG X e t) (f : ∀ v σ H Q, t' v σ H Q → t v σ H Q) : PG X e t' := ⟨fun pins s σ H v u Q I r q => h.run pins s σ H v u Q I r (f v σ H Q q)⟩
theorem imGs {X : Cx} {e : List Expr} {t t' : TGs} (h : PGs X e t) (f : ∀ v σ H Q, t' v σ H Q → t v σ H Q) : PGs X e t' := ⟨fun pins s σ H v u Q I r q => h.run pins s σ H v u Q I r (f v σ H Q q)⟩
section
variable {X : Cx} {c : Cfg} {own : List Nat} {pos : Pos}
theorem sg_name {i : Nat} {x : Str} (hN : X.N.Nodup) (hi : X.N[i]? = some x) (hx : Loc X.env.scope x) (hf : X.fn x = true ∨ X.env.scope.names.lookup x = some .local) : PG X (.Name x pos) (tG c own (.name i)) := imG (pg_name hN hi hx hf) fun v σ H Q ⟨d, s, G, s', r, rp, e, q⟩ => by
  cases e
  refine q _ ?_ ⟨List.length_set .., fun j hj => List.getElem?_set_ne fun z => hj (by rw [← z]; exact List.mem_singleton.mpr rfl)⟩
  show Rel c.K (offT own [i]) _ _ _ _
  rw [offT_one]
  exact r.setSh (rp.elim id fun z => nomatch z.1)
theorem sgs_nil : PGs X [] (tGs c own []) := imGs pgs_nil fun vs σ H Q ⟨ds, s, G, s', r, rp, e, q⟩ => by
  cases ds with
  | nil =>
    cases e
    refine ⟨rp, q σ ?_ But.refl⟩
    have : offT own (slotsTs []) = own := by unfold offT slotsTs; simp
    rw [this]; exact r
  | cons => cases e
theorem sgs_cons {e : Expr} {es : List Expr} {t : Tg} {ts : List Tg} (h1 : PG X e (tG c own t)) (h2 : PGs X es (tGs c (offT own (slotsT t)) ts)) (hs : (assignEach (e :: es) X.env).map (·.2) = assign e X.env :: (assignEach es X.env).map (·.2)) :
    PGs X (e :: es) (tGs c own (t :: ts)) := imGs (pgs_cons h1 h2 hs) fun vs σ H Q ⟨ds, s, G, s', r, rp, e, q⟩ => by
  cases ds with
  | nil => cases e
  | cons d ds =>
    obtain ⟨v, vr, rfl, h3, h4⟩ := (show ∃ v r, vs = v :: r ∧ Rep c.K H G.Z G.μ d v ∧ Reps c.K H G.Z G.μ ds r from rp)
    have e : (setT t d s).bind (fun s => setTs ts ds s) = some s' := e
    cases e1 : setT t d s with
    | none => rw [e1] at e; cases e
    | some s1 =>
      rw [e1] at e
      refine ⟨v, vr, rfl, d, s, G, s1, r, .inl h3, e1, fun σ1 r1 b1 => ⟨ds, s1, G, s', r1, h4, e, fun σ2 r2 b2 => q σ2 ?_ (b1.trans b2)⟩⟩
      show Rel c.K (offT own (slotsT t ++ slotsTs ts)) _ _ _ _
      rw [offT_app]
      exact r2
theorem setTs_len : ∀ (ts : List Tg) (ds : List D) (s s' : S), setTs ts ds s = some s' → ds.length = ts.length
  | [], [], _, _, _ => rfl
  | [], _ :: _, _, _, h => by cases h
  | _ :: _, [], _, _, h => by cases h
  | t :: ts, d :: ds, s, s', h => by
    have h : (setT t d s).bind (fun s => setTs ts ds s) = some s' := h
    cases e1 : setT t d s with
    | none => rw [e1] at h; cases h
    | some s1 =>
      rw [e1] at h
      rw [List.length_cons, List.length_cons, setTs_len ts ds s1 s' h]
theorem sg_tup (hK : c.K = X.K) {es : List Expr} {ts : List Tg} {k : Nat} (hc : X.calm = true) (h : PGs X es (tGs c own ts)) (hn : (assignEach es X.env).length = ts.length) (hst : (assignEach es X.env).findIdx? (·.1) = none) : PG X (.Tuple es k pos) (tG c own (.tup ts)) := imG (pg_tup hc h hn hst) fun v σ H Q ⟨d, s, G, s', r, rp, e, q⟩ => by
  cases d <;> first | exact nomatch (show (none : Option S) = some s' from e) | skip
  rename_i ds
  have rp : ∃ a vs, v = V.ref a ∧ SqT c.K H a vs ∧ vs.length ≤ sizeLine ∧ Reps c.K H G.Z G.μ ds vs := by
    rcases rp with rp | ⟨_, ds', a, vs, e1, e2, e3, e4, e5⟩
    · obtain ⟨a, vs, e, h1, h2, h3⟩ := (show ∃ a vs, v = V.ref a ∧ TupAt c.K H G.Z a vs ∧ vs.length ≤ sizeLine ∧ Reps c.K H G.Z G.μ ds vs from rp)
      exact ⟨a, vs, e, h1.sq, h2, h3⟩
    · cases e1
      exact ⟨a, vs, e2, e3, e4, e5⟩
  obtain ⟨a, vs, rfl, h1, h2, h3⟩ := rp
  rw [← hK]
  exact ⟨a, vs, rfl, h1, by rw [h3.length]; exact setTs_len ts ds s s' e, ds, s, G, s', r, h3, e, q⟩
end
/-! ### own containers are changed -/
section
variable {K : PySem.W.Frag} {own : List Nat} {s : S} {G : Gh} {σ : L2.St} {H : Hp}
theorem Rel.setOwn {i : Nat} {a : Addr} {ds ds' : List D} {vs' : List V} (r : Rel K own s G σ H) (hi : i ∈ own) (e : s.env[i]? = some (some (.lst ds))) (ha : G.ad i = a) (hz : vs'.length ≤ sizeLine) (h : Reps K H G.Z G.μ ds' vs') :
    Rel K own (setV i (.lst ds') s) G σ (upd H a (.lst vs')) ∧ Stp own own true G H G (upd H a (.lst vs')) := by
  subst ha
  obtain ⟨oz1, oz2, oz3⟩ := r.oz i hi
  have hr : ∀ p u, G.Z p → Rd H p u → Rd (upd H (G.ad i) (.lst vs')) p u := fun p u z q => by
    have hp : p ≠ G.ad i := fun e => oz1 (by rw [← e]; exact z)
    rcases q with q | ⟨o, q⟩
    · exact .inl (by rw [upd_ne hp]; exact q)
    · exact .inr ⟨o, by rw [upd_ne hp]; exact q⟩
  have live : ∀ p o, H p = some o → ∃ o', (upd H (G.ad i) (.lst vs')) p = some o' := fun p o q => by
    by_cases hp : p = G.ad i
    · exact ⟨_, by rw [hp]; exact upd_same⟩
    · exact ⟨o, by rw [upd_ne hp]; exact q⟩
  have mm : ∀ (n : Nat) a, G.μ[n]? = some a → G.μ[n]? = some a := fun _ _ q => q
  refine ⟨⟨by simp [setV, r.len], fun j d hj => ?_, fun p z => ?_, fun j hj => ⟨(r.oz j hj).1, (r.oz j hj).2.1, ?_⟩, r.inj, ⟨r.sto.len, fun n xs q => ?_⟩, r.mz, r.mnd⟩, ⟨fun p o q _ ho => ?_, live, fun _ z => z, fun _ z => .inl z, rfl, ⟨[], by simp, fun _ q => by simp at q⟩, fun _ q => q⟩⟩
  · simp only [setV] at hj
    by_cases hji : j = i
    · subst hji
      have hl : j < s.env.length := by
        have := (List.getElem?_eq_some_iff.mp hj).1
        rw [List.length_set] at this; exact this
      rw [List.getElem?_set_self hl] at hj
      cases hj
      obtain ⟨v, e1, e2, _⟩ := r.slot j _ e
      obtain ⟨e3, _⟩ := (e2 hi).live
      refine ⟨v, e1, fun _ => ⟨e3, vs', upd_same, hz, Reps.mono (fun _ z => z) hr mm _ _ h⟩, fun z => absurd hi z⟩
    · rw [List.getElem?_set_ne (fun z => hji z.symm)] at hj
      obtain ⟨u, e1, e2, e3⟩ := r.slot j d hj
      refine ⟨u, e1, fun z => Own.mono (fun _ q => q) hr mm (fun o q => ?_) (e2 z), fun z => Rep.mono (fun _ q => q) hr mm _ _ (e3 z)⟩
      rw [upd_ne (fun q => hji (r.inj j z i hi q))]; exact q
  · obtain ⟨o, q⟩ := r.zl p z
    exact live p o q
  · obtain ⟨_, _, o, q⟩ := r.oz j hj
    exact live _ o q
  · obtain ⟨b, vs, e1, e2, e3, e4⟩ := r.sto.at_ n xs q
    refine ⟨b, vs, e1, ?_, e3, Reps.mono (fun _ q => q) hr mm _ _ e4⟩
    rw [upd_ne (fun z => oz2 (by rw [← z]; exact List.mem_of_getElem? e1))]; exact e2
  · rw [upd_ne (fun z => ho rfl i hi z.symm)]; exact .inl q
end
section
variable {X : Cx} {c : Cfg} {Γ : List Fn} {own own1 : List Nat} {e : Expr} {ta : T} {x : Str}
theorem lstAt_some {i : Nat} {s : S} {xs : List D} (h : lstAt i s = some xs) : s.env[i]? = some (some (.lst xs)) := by
  unfold lstAt at h
  cases e : s.env[i]? with
  | none => rw [e] at h; cases h
  | some o =>
    rw [e] at h
    cases o with
    | none => cases h
    | some d => cases d <;> cases h; rfl
theorem pop_ix {n : Nat} {i : Int} {k : Nat} (h : L2.ixN n i = some k) : seqIndex? i n = some k ∧ k < n ∧ -(n : Int) ≤ i ∧ i < n := ixN_seq h
theorem se_pop (hK : c.K = X.K) {i : Nat} {pn apos cpos : Pos} (hN : X.N[i]? = some x) (hv : Vis X.env.scope x) (hd : (x == ("__debug__" : Str)) = false) (hcd : (x == ("__classdict__" : Str)) = false) (hi : i ∈ own) (hi1 : i ∈ own1) (ha : PA X [e] (tAs c own own1 false true (evs Γ [ta])))
    (hbase : attributeBase (.Name x pn) "pop" X.env (eval (.Name x pn) X.env) = eval (.Name x pn) X.env)
    (hfew : ((backTo cpos (starEach [e] X.env)).all (fun x => !x.1) && (backToKw cpos (keywordEach [] X.env)).all (fun x => x.1.isSome) && decide ([e].length + ([] : List Keyword).length + (if ([] : List Keyword).isEmpty then 0 else 1) < 30)) = true)
    (hline : (apos.endLine == cpos.line) = true) (hs : starEach [e] X.env = (false, eval e X.env) :: starEach [] X.env) :
    PE X (.Call (.Attribute (.Name x pn) "pop" apos) [e] [] cpos) (tE c own own1 true .sh (ev Γ (.pop i ta))) :=
  imE (pe_bm PySem.F.plainAttrs_list PySem.F.slot_list_pop PySem.F.type_list_pop mt_popAt (pe_var hN hv hd hcd) ha hbase hfew hline hs) fun σ H Q ⟨s, G, r, q⟩ => by
  simp only [ev_pop, Post.bind] at q
  obtain ⟨ds0, e0, q⟩ := q.opt2
  obtain ⟨v0, f1, f2, _⟩ := r.slot i _ (lstAt_some e0)
  obtain ⟨f3, vs0, f4, _⟩ := f2 hi
  refine ⟨v0, f1, ?_, s, G, r, ?_⟩
  · rw [f3]; exact .inl ⟨rfl, vs0, .inl (.inl f4)⟩
  · rw [evs_cons]
    simp only [evs_nil, Post.bind, Post.ok]
    refine q.mono fun d s1 q vs H1 G1 r1 t1 rp => ?_
    replace rp : RepTs c.K H1 G1.Z G1.μ [d] vs := rp
    obtain ⟨y, rfl, h1⟩ := repTs1 rp
    clear rp
    cases d <;> first | exact q.elim | skip
    rename_i k
    cases e1 : lstAt i s1 with
    | none => rw [e1] at q; exact q.elim
    | some xs =>
      rw [e1] at q
      replace q : Post c own G σ H _ (match popL xs k with
        | some (d, r) => R.ok d (setV i (.lst r) s1)
        | none => .fail) := q
      cases e2 : popL xs k with
      | none => rw [e2] at q; exact q.elim
      | some pr =>
        obtain ⟨d, rest⟩ := pr
        rw [e2] at q
        unfold popL at e2
        cases e3 : L2.ixN xs.length k with
        | none => rw [e3] at e2; cases e2
        | some j =>
          rw [e3] at e2
          replace e2 : (xs[j]?).map (fun x => (x, xs.eraseIdx j)) = some (d, rest) := e2
          cases e4 : xs[j]? with
          | none => rw [e4] at e2; cases e2
          | some d' =>
            rw [e4] at e2
            cases e2
            obtain ⟨v1, g1, g2, _⟩ := r1.slot i _ (lstAt_some e1)
            obtain ⟨g3, vs1, g4, g5, g6⟩ := g2 hi1
            rw [f1] at g1
            cases g1
            rw [g3]
            obtain ⟨p1, p2, p3, p4⟩ := pop_ix e3
            obtain ⟨y', w1, w2⟩ := g6.get' e4
            have hl63 := line63
            have hlen := g6.length
            cases (show y = .int k from h1)
            obtain ⟨rN, tN⟩ := r1.setOwn hi1 (lstAt_some e1) rfl (vs' := vs1.eraseIdx j) (ds' := xs.eraseIdx j) (Nat.le_trans (List.length_eraseIdx_le ..) g5) (g6.erase j)
            refine ⟨G1.ad i, vs1, k, j, y', rfl, rfl, g4, by omega, by omega, by rw [hlen]; exact p1, w1, ?_⟩
            exact q y' _ G1 rN (Stp.weak (t1.trans tN) (by simp)) (r1.rep tN w2)
end
end Lb

set_option maxRecDepth 100000
set_option maxHeartbeats 1000000
namespace Lb
open PySem PySem.Spec PyProof.Rows L2
/-! ### comprehensions -/
theorem wipeD_length (e : List (Option D)) : ∀ vs : List Nat, (wipeD e vs).length = e.length
  | [] => rfl
  | v :: vs => by unfold wipeD; rw [List.length_set, wipeD_length e vs]
theorem wipeD_some {e : List (Option D)} {i : Nat} {x : D} : ∀ {vs : List Nat}, (wipeD e vs)[i]? = some (some x) → e[i]? = some (some x) ∧ i ∉ vs
  | [], h => ⟨h, by simp⟩
  | v :: vs, h => by
    unfold wipeD at h
    by_cases hi : v = i
    · subst hi
      by_cases hv : v < (wipeD e vs).length
      · rw [List.getElem?_set_self hv] at h; cases h
      · rw [List.getElem?_eq_none (by simpa using hv)] at h; cases h
    · rw [List.getElem?_set_ne hi] at h
      obtain ⟨h1, h2⟩ := wipeD_some h
      exact ⟨h1, by simp only [List.mem_cons, not_or]; exact ⟨fun e => hi e.symm, h2⟩⟩
theorem backD_length (e0 e : List (Option D)) : ∀ vs : List Nat, (backD e0 e vs).length = e.length
  | [] => rfl
  | v :: vs => by
    unfold backD
    cases e0[v]? with
    | none => exact backD_length e0 e vs
    | some o => show ((backD e0 e vs).set v o).length = _; rw [List.length_set, backD_length e0 e vs]
theorem backD_some {e0 e : List (Option D)} {i : Nat} {x : D} (hl : e0.length = e.length) : ∀ {vs : List Nat}, (backD e0 e vs)[i]? = some (some x) → (i ∈ vs ∧ e0[i]? = some (some x)) ∨ (i ∉ vs ∧ e[i]? = some (some x))
  | [], h => .inr ⟨by simp, h⟩
  | v :: vs, h => by
    unfold backD at h
    by_cases hi : v = i
    · subst hi
      have hv : v < e0.length := by
        cases e1 : e0[v]? with
        | some o => exact (List.getElem?_eq_some_iff.mp e1).1
        | none =>
          rw [e1] at h
          have h : (backD e0 e vs)[v]? = some (some x) := h
          have := (List.getElem?_eq_some_iff.mp h).1
          rw [backD_length, ← hl] at this; exact this
      rw [List.getElem?_eq_getElem hv] at h
      have h : ((backD e0 e vs).set v e0[v])[v]? = some (some x) := h
      rw [List.getElem?_set_self (by rw [backD_length, ← hl]; exact hv)] at h
      exact .inl ⟨List.mem_cons_self, by rw [List.getElem?_eq_getElem hv]; exact h⟩
    · have h' : (backD e0 e vs)[i]? = some (some x) := by
        cases e1 : e0[v]? with
        | some o =>
          rw [e1] at h
          have h : ((backD e0 e vs).set v o)[i]? = some (some x) := h
          rw [List.getElem?_set_ne hi] at h; exact h
        | none => rw [e1] at h; exact h
      rcases backD_some hl h' with ⟨h1, h2⟩ | ⟨h1, h2⟩
      · exact .inl ⟨List.mem_cons_of_mem _ h1, h2⟩
      · exact .inr ⟨by simp only [List.mem_cons, not_or]; exact ⟨fun e => hi e.symm, h1⟩, h2⟩
section
variable {K : PySem.W.Frag} {own own' : List Nat} {s : S} {G : Gh} {σ σ' : L2.St} {H : Hp} {mu : Bool}
/-- other slots, of which each known one was known so -/
theorem Rel.slots {env : List (Option D)} (r : Rel K own s G σ H) (hl : env.length = σ'.length) (h : ∀ (j : Nat) (d : D), env[j]? = some (some d) → s.env[j]? = some (some d) ∧ σ'[j]? = σ[j]?) : Rel K own { s with env := env } G σ' H :=
  ⟨hl, fun j d e => by
    obtain ⟨h1, h2⟩ := h j d e
    obtain ⟨v, e1, e2⟩ := r.slot j d h1
    exact ⟨v, by rw [h2]; exact e1, e2⟩, r.zl, r.oz, r.inj, r.sto, r.mz, r.mnd⟩
/-- an object that nothing here knows of is changed -/
theorem rd_ne {p a : Addr} {o u : HO} (h : p ≠ a) (w : Rd H p u) : Rd (upd H a o) p u := by
  rcases w with w | ⟨x, w⟩
  · exact .inl (by rw [upd_ne h]; exact w)
  · exact .inr ⟨x, by rw [upd_ne h]; exact w⟩
theorem Rel.other {a : Addr} {o : HO} (r : Rel K own s G σ H) (nz : ¬ G.Z a) (nm : a ∉ G.μ) (ne : ∀ i ∈ own, G.ad i ≠ a) (hl : ∃ u, H a = some u) : Rel K own s G σ (upd H a o) := by
  have hr : ∀ p u, G.Z p → Rd H p u → Rd (upd H a o) p u := fun p u z w => rd_ne (fun ee => nz (ee ▸ z)) w
  have mm : ∀ (n : Nat) a, G.μ[n]? = some a → G.μ[n]? = some a := fun _ _ q => q
  have live : ∀ p u, H p = some u → ∃ o', (upd H a o) p = some o' := fun p u q => by
    by_cases hp : p = a
    · exact ⟨_, by rw [hp]; exact upd_same⟩
    · exact ⟨u, by rw [upd_ne hp]; exact q⟩
  refine ⟨r.len, fun j d hj => ?_, fun p z => ?_, fun j hj => ⟨(r.oz j hj).1, (r.oz j hj).2.1, ?_⟩, r.inj, ⟨r.sto.len, fun n xs q => ?_⟩, r.mz, r.mnd⟩
  · obtain ⟨v, e1, e2, e3⟩ := r.slot j d hj
    exact ⟨v, e1, fun z => Own.mono (fun _ q => q) hr mm (fun u q => by rw [upd_ne (ne j z)]; exact q) (e2 z), fun z => Rep.mono (fun _ q => q) hr mm _ _ (e3 z)⟩
  · obtain ⟨u, q⟩ := r.zl p z
    exact live p u q
  · obtain ⟨_, _, u, q⟩ := r.oz j hj
    exact live _ u q
  · obtain ⟨b, vs, e1, e2, e3, e4⟩ := r.sto.at_ n xs q
    exact ⟨b, vs, e1, by rw [upd_ne fun z => nm (by rw [← z]; exact List.mem_of_getElem? e1)]; exact e2, e3, Reps.mono (fun _ q => q) hr mm _ _ e4⟩
theorem Stp.other {G' : Gh} {H' : Hp} {a : Addr} {o : HO} (t : Stp own own' mu G H G' H') (ha : H a = none) : Stp own own' mu G H G' (upd H' a o) :=
  ⟨fun p u e hm ho => by rw [upd_ne (ne_of_none e ha)]; exact t.keep p u e hm ho, fun p u e => by rw [upd_ne (ne_of_none e ha)]; exact t.live p u e, t.zz, t.zn, t.ad, t.mup, t.sub⟩
theorem wipe_off {vs : List Nat} {j : Nat} (h : j ∉ vs) : (wipe σ vs)[j]? = σ[j]? := wipe_out h
theorem Rel.wiped {vs : List Nat} (r : Rel K own s G σ H) : Rel K own { s with env := wipeD s.env vs } G (wipe σ vs) H :=
  r.slots (by rw [wipeD_length, wipe_length, r.len]) fun j d e => ⟨(wipeD_some e).1, wipe_off (wipeD_some e).2⟩
end
/-- a configuration in which no error may come -/
def Cfg.inn (c : Cfg) : Cfg := { c with W := fun _ _ _ _ => False }
theorem lcGo_cons {body : D → S → R S (Option D)} {x : D} {xs : List D} {s s' : S} {r : List D} (h : lcGo body (x :: xs) s = .ok r s') : ∃ o s1 r', body x s = .ok o s1 ∧ lcGo body xs s1 = .ok r' s' ∧ r = o.toList ++ r' := by
  unfold lcGo at h
  cases e : body x s with
  | exc => rw [e] at h; cases h
  | fail => rw [e] at h; cases h
  | ok o s1 =>
    rw [e, R.bind_ok] at h
    cases e2 : lcGo body xs s1 with
    | exc => rw [e2] at h; cases h
    | fail => rw [e2] at h; cases h
    | ok r' s2 =>
      rw [e2, R.bind_ok] at h
      cases h
      exact ⟨o, s1, r', rfl, e2, rfl⟩
def lcBody (Γ : List Fn) (tg : Tg) (vs : List Nat) (ifs : List T) (e : T) : D → S → R S (Option D) := fun x s1 => match setT tg x s1 with
  | none => .fail
  | some s2 => (evAll Γ ifs s2).bind fun b s3 => if b then (ev Γ e s3).bind fun d s4 => .ok (some d) { s4 with env := wipeD s4.env vs } else .ok none { s3 with env := wipeD s3.env vs }
theorem ev_lc' (Γ : List Fn) (s : S) (k : IK) (as : List T) (tg : Tg) (vs : List Nat) (ifs : List T) (e : T) : ev Γ (.lc k as tg vs ifs e) s = (evI Γ k as s).bind fun xs s =>
    (lcGo (lcBody Γ tg vs ifs e) xs { s with env := wipeD s.env vs }).noX.bind fun ds s' => if fits ds then .ok (.lst ds) { s' with env := backD s.env s'.env vs } else .fail := by
  rw [ev_lc]
  unfold evI
  cases evs Γ as s <;> rfl
theorem lcBody_ok {Γ : List Fn} {tg : Tg} {vs : List Nat} {ifs : List T} {e : T} {x : D} {s s' : S} {o : Option D} (h : lcBody Γ tg vs ifs e x s = .ok o s') :
    ∃ s2 b s3, setT tg x s = some s2 ∧ evAll Γ ifs s2 = .ok b s3 ∧ ((b = true ∧ ∃ d s4, ev Γ e s3 = .ok d s4 ∧ o = some d ∧ s' = { s4 with env := wipeD s4.env vs }) ∨ (b = false ∧ o = none ∧ s' = { s3 with env := wipeD s3.env vs })) := by
  unfold lcBody at h
  cases e1 : setT tg x s with
  | none => rw [e1] at h; cases h
  | some s2 =>
    rw [e1] at h
    replace h : (evAll Γ ifs s2).bind (fun b s3 => if b then (ev Γ e s3).bind fun d s4 => .ok (some d) { s4 with env := wipeD s4.env vs } else .ok none { s3 with env := wipeD s3.env vs }) = .ok o s' := h
    cases e2 : evAll Γ ifs s2 with
    | exc => rw [e2] at h; cases h
    | fail => rw [e2] at h; cases h
    | ok b s3 =>
      rw [e2, R.bind_ok] at h
      refine ⟨s2, b, s3, rfl, e2, ?_⟩
      cases b with
      | false =>
        rw [if_neg (by decide)] at h
        cases h
        exact .inr ⟨rfl, rfl, rfl⟩
      | true =>
        rw [if_pos rfl] at h
        cases e3 : ev Γ e s3 with
        | exc => rw [e3] at h; cases h
        | fail => rw [e3] at h; cases h
        | ok d s4 =>
          rw [e3, R.bind_ok] at h
          cases h
          exact .inl ⟨rfl, d, s4, rfl, rfl, rfl⟩
section
variable {X : Cx} {c : Cfg} {Γ : List Fn} {own own1 own2 : List Nat} {mu : Bool}
theorem wipe_but {σ σ2 : L2.St} {vs us : List Nat} (hs : ∀ i ∈ us, i ∈ vs) (b : But us (wipe σ vs) σ2) : wipe σ2 vs = wipe σ vs := by
  apply List.ext_getElem?
  intro j
  by_cases hj : j ∈ vs
  · have h0 : ∀ τ : L2.St, τ.length = σ.length → (wipe τ vs)[j]? = if j < σ.length then some none else none := fun τ hτ => by
      by_cases hl : j < σ.length
      · rw [if_pos hl]
        have hl' : j < (wipe τ vs).length := by rw [wipe_length, hτ]; exact hl
        cases e : (wipe τ vs)[j]? with
        | none => rw [List.getElem?_eq_none_iff] at e; omega
        | some o =>
          cases o with
          | none => rfl
          | some v => exact absurd hj (wipe_some e).2
      · rw [if_neg hl, List.getElem?_eq_none (by rw [wipe_length, hτ]; omega)]
    rw [h0 σ2 (by rw [b.1, wipe_length]), h0 σ rfl]
  · rw [wipe_off hj, b.2 j fun z => hj (hs j z)]
theorem offT_off {vs : List Nat} (h : ∀ i ∈ vs, i ∉ own) : offT own vs = own := by
  unfold offT
  rw [List.filter_eq_self]
  intro j hj
  simp only [List.contains_eq_mem, Bool.not_eq_true', decide_eq_false_iff_not]
  exact fun z => h j z hj
theorem lc_pre {k : IK} {as : List T} {tg : Tg} {vs : List Nat} {ifs : List T} {e : T} (hsub : ∀ i ∈ own2, i ∈ own1) (hvs : ∀ i ∈ vs, i ∉ own2) (hst : ∀ i ∈ slotsT tg, i ∈ vs) (hwk : wkK k = true → tgB tg = true) {os : List Nat} (hos : ∀ i ∈ os, i ∈ own1) (hmo : os ≠ [] → mu = false) {σ : L2.St} {H : Hp} {Q : VK}
    (h : tE c own own2 mu .fr (ev Γ (.lc k as tg vs ifs e)) σ H Q) : tLc (tI c own own1 os k (evI Γ k as)) (tG c.inn own2 tg) (tT c.inn own2 own2 mu (evAll Γ ifs)) (tE c.inn own2 own2 mu .sh (ev Γ e)) vs σ H Q := by
  obtain ⟨s, G, r, q⟩ := h
  rw [ev_lc', Post.bind] at q
  refine ⟨s, G, r, q.mono fun xs s1 q J H1 G1 r1 t1 wk => fun D hD => ?_⟩
  -- what is not ours any more is locked
  obtain ⟨G2, r2, t2⟩ := r1.less hsub
  have t12 := t1.trans t2
  cases eL : lcGo (lcBody Γ tg vs ifs e) xs { s1 with env := wipeD s1.env vs } with
  | exc => rw [eL] at q; exact q.elim
  | fail => rw [eL] at q; exact q.elim
  | ok tot sF =>
    rw [eL] at q
    replace q : Post c own G σ H _ (if fits tot then R.ok (Lb.D.lst tot) { sF with env := backD s1.env sF.env vs } else .fail) := q
    cases hf : fits tot with
    | false => rw [hf] at q; exact q.elim
    | true =>
      rw [hf, if_pos rfl, Post.ok] at q
      have hft : tot.length ≤ sizeLine := of_decide_eq_true hf
      obtain ⟨r3, t3, nz3, nm3⟩ := r2.laidF (mu := mu) (o := .lst []) hD
      have r3w : Rel c.K own2 { s1 with env := wipeD s1.env vs } G2 (wipe σ vs) (upd H1 D (.lst [])) := r3.wiped
      have neD : ∀ i ∈ own2, G2.ad i ≠ D := fun i hi ee => by
        obtain ⟨_, _, o, qq⟩ := r2.oz i hi
        rw [ee, hD] at qq; cases qq
      refine ⟨fun i m H' => m = xs.length - i ∧ i ≤ xs.length ∧ ∃ si Gi acc ds rest, Rel c.K own2 si Gi (wipe σ vs) H' ∧ Stp own2 own2 mu G2 H1 Gi H' ∧ ¬ Gi.Z D ∧ D ∉ Gi.μ ∧ H' D = some (.lst acc) ∧ Reps c.K H' Gi.Z Gi.μ ds acc ∧
        lcGo (lcBody Γ tg vs ifs e) (xs.drop i) si = .ok rest sF ∧ tot = ds ++ rest, ⟨xs.length, by simp, Nat.zero_le _, _, G2, [], [], tot, r3w, t3, nz3, nm3, upd_same, rfl, by simpa using eL, rfl⟩, ?_⟩
      rintro i m H4 ⟨rfl, hi, si, Gi, acc, ds, rest, r4, t4, nz4, nm4, hD4, rp4, e4, etot⟩
      have tA : Stp own2 own2 mu G2 H1 Gi H4 := t4
      have wk2 := wk H4 Gi.Z Gi.μ (fun p z => tA.zz p (t2.zz p z)) (fun p u z w => r2.rd tA (t2.zz p z) (r1.rd t2 z w)) (fun n a w => tA.mm n a (t2.mm n a w)) (fun p o u z w => r2.fz tA (t2.zz p z) (r1.fz t2 z w)) (fun j hj u w => by
        by_cases hz : G2.Z (G1.ad j)
        · exact r2.rd tA hz w
        · obtain ⟨_, nm, o, eo⟩ := r1.oz j (hos j hj)
          have nm2 : G1.ad j ∉ G2.μ := t2.notmu nm eo
          have mf : mu = false := hmo fun z => by rw [z] at hj; simp at hj
          have kp : ∀ o, H1 (G1.ad j) = some o → H4 (G1.ad j) = some o ∨ ∃ od, H4 (G1.ad j) = some (.frz od o) := fun o eo => (tA.keep _ o eo nm2 fun z => by rw [mf] at z; cases z).imp id fun q => q.2.2
          rcases w with w | ⟨ob, w⟩
          · exact kp _ w
          · rcases tA.keep _ _ w nm2 (fun z => by rw [mf] at z; cases z) with q | ⟨_, q, _⟩
            · exact .inr ⟨ob, q⟩
            · cases q)
      by_cases hend : i = xs.length
      · subst hend
        refine .inl ⟨wk2.2.1, ?_⟩
        rw [List.drop_length] at e4
        cases e4
        rw [List.append_nil] at etot
        subst etot
        have hl1 : s1.env.length = sF.env.length := by rw [r1.len, r4.len, wipe_length]
        -- back
        have rB : Rel c.K own2 { sF with env := backD s1.env sF.env vs } Gi σ H4 := by
          refine ⟨by rw [backD_length, r4.len, wipe_length], fun j d ej => ?_, r4.zl, r4.oz, r4.inj, r4.sto, r4.mz, r4.mnd⟩
          rcases backD_some hl1 ej with ⟨h1, h2⟩ | ⟨h1, h2⟩
          · obtain ⟨v, e1, _, e3⟩ := r2.slot j d h2
            exact ⟨v, e1, fun z => absurd z (hvs j h1), fun z => r2.rep tA (e3 z)⟩
          · obtain ⟨v, e1, e2⟩ := r4.slot j d h2
            exact ⟨v, by rw [wipe_off h1] at e1; exact e1, e2⟩
        refine q (.ref D) H4 Gi rB ((t12.trans tA).weak (by cases mu <;> simp)) ⟨D, ⟨rfl, acc, hD4, by rw [rp4.length]; exact hft, rp4⟩, nz4, nm4, t1.fresh hD⟩
      · have hi' : i < xs.length := Nat.lt_of_le_of_ne hi hend
        rw [List.drop_eq_getElem_cons hi'] at e4
        obtain ⟨o, s5, r', b1, b2, b3⟩ := lcGo_cons e4
        obtain ⟨s6, b, s7, c1, c2, c3⟩ := lcBody_ok b1
        refine .inr ⟨wk2.1 i hi', fun H' => ∃ Gi acc', Rel c.K own2 s5 Gi (wipe σ vs) H' ∧ Stp own2 own2 mu G2 H1 Gi H' ∧ ¬ Gi.Z D ∧ D ∉ Gi.μ ∧ H' D = some (.lst acc') ∧ Reps c.K H' Gi.Z Gi.μ (ds ++ o.toList) acc', ?_, ?_⟩
        · rintro H' ⟨Gj, acc', g1, g2, g3, g4, g5, g6⟩
          exact ⟨xs.length - (i + 1), by omega, rfl, hi', s5, Gj, acc', _, r', g1, g2, g3, g4, g5, g6, b2, by rw [etot, b3, List.append_assoc]⟩
        · intro x H5 y
          obtain ⟨Z5, g5, rp5⟩ := wk2.2.2 i _ x H5 (List.getElem?_eq_getElem hi') y
          obtain ⟨r5, t5⟩ := r4.grow (mu := mu) g5
          refine ⟨xs[i], si, _, s6, r5, rp5.to hwk, c1, fun σ2 r6 bt => ⟨wipe_but hst bt, ?_⟩⟩
          rw [offT_off fun i hi => hvs i (hst i hi)] at r6
          refine ⟨s6, _, r6, ?_⟩
          rw [c2]
          intro H7 G7 r7 t7
          have back : ∀ {sx : S} {Gx : Gh} {Hx : Hp}, Rel c.K own2 sx Gx σ2 Hx → Rel c.K own2 { sx with env := wipeD sx.env vs } Gx (wipe σ vs) Hx := fun {sx Gx Hx} rx =>
            rx.slots (by rw [wipeD_length, wipe_length, rx.len, bt.1, wipe_length]) fun j d ej => by
              obtain ⟨w1, w2⟩ := wipeD_some ej
              exact ⟨w1, (bt.2 j fun z => w2 (hst j z)).symm⟩
          have tB : Stp own2 own2 mu Gi H4 G7 H7 := (t5.trans t7).weak (by simp)
          have neDi : ∀ i ∈ own2, Gi.ad i ≠ D := by rw [t4.ad]; exact neD
          have oD : Own c.K H4 Gi.Z Gi.μ D (.lst ds) (.ref D) := ⟨rfl, acc, hD4, by rw [rp4.length]; have := congrArg List.length etot; simp at this; omega, rp4⟩
          rcases c3 with ⟨rfl, d, s8, d1, d2, d3⟩ | ⟨rfl, d2, d3⟩
          · rw [if_pos rfl]
            refine ⟨s7, G7, r7, ?_⟩
            rw [d1]
            intro v H8 G8 r8 t8 rp8
            have tC : Stp own2 own2 mu Gi H4 G8 H8 := (tB.trans t8).weak (by simp)
            obtain ⟨_, acc8, hD8, hz8, rp8'⟩ := r4.ownS tC nm4 (fun _ => neDi) (Rel.noz tC nz4 ⟨_, hD4⟩ neDi) oD
            have eacc : acc8 = acc := by
              have := tC.exact hD4 nm4 (fun _ => neDi) (Rel.noz tC nz4 ⟨_, hD4⟩ neDi)
              rw [hD8] at this; cases this; rfl
            subst eacc
            have nz8 : ¬ G8.Z D := Rel.noz tC nz4 ⟨_, hD4⟩ neDi
            have nm8 : D ∉ G8.μ := tC.notmu nm4 hD4
            have hln : acc8.length + 1 ≤ sizeLine := by
              rw [rp4.length]
              have := congrArg List.length etot
              rw [b3, d2] at this
              simp at this; omega
            refine ⟨acc8, hD8, hln, G8, acc8 ++ [v], ?_, ?_, nz8, nm8, upd_same, ?_⟩
            · subst d3
              refine back ?_
              have ne8 : ∀ i ∈ own2, G8.ad i ≠ D := by rw [tC.ad]; exact neDi
              exact r8.other nz8 nm8 ne8 ⟨_, hD8⟩
            · have ne8 : ∀ i ∈ own2, G8.ad i ≠ D := by rw [tC.ad]; exact neDi
              have tD : Stp own2 own2 mu G2 H1 G8 H8 := (t4.trans tC).weak (by simp)
              exact tD.other hD
            · subst d2
              have hr : ∀ p u, G8.Z p → Rd H8 p u → Rd (upd H8 D (.lst (acc8 ++ [v]))) p u := fun p u z w => rd_ne (fun ee => nz8 (ee ▸ z)) w
              exact Reps.mono (fun _ z => z) hr (fun _ _ w => w) _ _ (rp8'.append (Reps.one rp8))
          · rw [if_neg (by decide)]
            obtain ⟨_, acc8, hD8, hz8, rp8'⟩ := r4.ownS tB nm4 (fun _ => neDi) (Rel.noz tB nz4 ⟨_, hD4⟩ neDi) oD
            refine ⟨G7, acc8, ?_, (t4.trans tB).weak (by simp), Rel.noz tB nz4 ⟨_, hD4⟩ neDi, tB.notmu nm4 hD4, hD8, ?_⟩
            · subst d3
              exact back r7
            · subst d2
              simpa using rp8'
end
end Lb

set_option maxRecDepth 100000
set_option maxHeartbeats 1000000
namespace Lb
open PySem PySem.Spec PyProof.Rows L2
/-! ### calls -/
/-- the promise of a def, by what its mirror yields -/
def spD (K : PySem.W.Frag) (mg : Str → Option Value) (np : Nat) (F : Fn) : Sp := fun vs H Q E => ∃ ds st G, vs.length = np ∧ Rel K [] ⟨[], st⟩ G [] H ∧ Reps K H G.Z G.μ ds vs ∧
  match F ds st with
  | .ok d st' => ∀ v H' G', Rel K [] ⟨[], st'⟩ G' [] H' → Stp [] [] false G H G' H' → Rep K H' G'.Z G'.μ d v → Q v H'
  | .exc e st' => ∀ cls dd H' G', Rel K [] ⟨[], st'⟩ G' [] H' → Stp [] [] false G H G' H' → ExcV mg H' e cls dd → E cls dd H'
  | .fail => False
section
variable {K : PySem.W.Frag} {own : List Nat} {s : S} {G G' : Gh} {σ : L2.St} {H H' : Hp}
theorem Rel.bare (r : Rel K own s G σ H) : Rel K [] ⟨[], s.st⟩ G [] H :=
  ⟨rfl, fun i d e => by simp at e, r.zl, fun i hi => by simp at hi, fun i hi => by simp at hi, r.sto, r.mz, r.mnd⟩
/-- behind a call: the frame's own is as it was -/
theorem Rel.called {st' : Sto} (r : Rel K own s G σ H) (t : Stp [] [] false G H G' H') (r' : Rel K [] ⟨[], st'⟩ G' [] H') : Rel K own { s with st := st' } { G' with ad := G.ad } σ H' ∧ Stp own own false G H { G' with ad := G.ad } H' := by
  have t' : Stp own own false G H { G' with ad := G.ad } H' := ⟨fun p o e hm _ => t.keep p o e hm (by simp), t.live, t.zz, fun p z => by
    rcases t.zn p z with q | q | ⟨i, h1, _⟩
    · exact .inl q
    · exact .inr (.inl q)
    · simp at h1, rfl, t.mup, fun _ h => h⟩
  refine ⟨⟨r.len, fun i d e => ?_, r'.zl, fun i hi => ?_, r.inj, r'.sto, r'.mz, r'.mnd⟩, t'⟩
  · obtain ⟨v, e1, e2, e3⟩ := r.slot i d e
    exact ⟨v, e1, fun hi => r.ownS t' (r.oz i hi).2.1 (by simp) (fun z => by
      obtain ⟨h1, h2, o, h3⟩ := r.oz i hi
      rcases t.zn _ z with q | q | ⟨i, h1, _⟩
      · exact h1 q
      · rw [q] at h3; cases h3
      · simp at h1) (e2 hi), fun hi => r.rep t' (e3 hi)⟩
  · obtain ⟨h1, h2, o, h3⟩ := r.oz i hi
    refine ⟨fun z => ?_, t'.notmu h2 h3, t'.live _ _ h3⟩
    rcases t.zn _ z with q | q | ⟨i, h1, _⟩
    · exact h1 q
    · rw [q] at h3; cases h3
    · simp at h1
end
section
variable {X : Cx} {c : Cfg} {Γ : List Fn} {own own1 own2 : List Nat} {mu : Bool} {e : Expr} {es : List Expr} {as : List T}
theorem evs_app (ts us : List T) (s : S) : evs Γ (ts ++ us) s = (evs Γ ts s).bind fun ds s => (evs Γ us s).bind fun es s => .ok (ds ++ es) s := by
  induction ts generalizing s with
  | nil =>
    rw [List.nil_append, evs_nil, R.bind_ok]
    cases evs Γ us s <;> rfl
  | cons t ts ih =>
    rw [List.cons_append, evs_cons, evs_cons]
    cases ev Γ t s with
    | exc => rfl
    | fail => rfl
    | ok d s =>
      simp only [R.bind_ok, ih]
      cases evs Γ ts s with
      | exc => rfl
      | fail => rfl
      | ok ds s =>
        simp only [R.bind_ok]
        cases evs Γ us s <;> rfl
/-- arguments left out -/
structure Dfl (K : PySem.W.Frag) (Γ : List Fn) (das : List T) (dvs : List V) (dus : List Value) : Prop where
  vals : Vals dvs dus
  ev : ∃ dd : List D, (∀ s, evs Γ das s = .ok dd s) ∧ ∀ H Z μ, Reps K H Z μ dd dvs
theorem Dfl.nil {K : PySem.W.Frag} : Dfl K Γ [] [] [] := ⟨.nil, [], fun _ => rfl, fun _ _ _ => rfl⟩
/-- what is wanted behind the arguments -/
theorem call_pre {k np : Nat} {F : Fn} {das : List T} {dvs : List V} {dus : List Value} (hF : Γ[k]? = some F) (dfl : Dfl c.K Γ das dvs dus) (hlen : as.length + das.length = np) {σ : L2.St} {H : Hp} {Q : VK} (h : tE c own own1 mu .sh (ev Γ (.call k (as ++ das))) σ H Q) :
    tCallSD (spD c.K c.mg np F) dvs (WE c.W) (tAs c own own1 mu false (evs Γ as)) σ H Q := by
  obtain ⟨s, G, r, q⟩ := h
  obtain ⟨_, dd, hd, hrp⟩ := dfl
  rw [ev_call, evs_app] at q
  simp only [hd, R.bind_ok, Post.bind, Post.ok] at q
  refine ⟨s, G, r, q.evs.mono fun ds s1 ⟨hl, q⟩ vs H1 G1 r1 t1 rp => ?_⟩
  show spD c.K c.mg np F (vs ++ dvs) H1 Q (WE c.W σ)
  have rp : Reps c.K H1 G1.Z G1.μ ds vs := rp
  have rpa := rp.append (hrp H1 G1.Z G1.μ)
  have hld : dd.length = das.length := evs_len das s dd s (hd s)
  refine ⟨ds ++ dd, s1.st, G1, by rw [rpa.length, List.length_append, hl, hld, hlen], r1.bare, rpa, ?_⟩
  unfold callF at q
  rw [hF] at q
  cases eF : F (ds ++ dd) s1.st with
  | fail => simp only [eF] at q; exact q.elim
  | ok d st' =>
    simp only [eF] at q
    intro v H' G' r' t' rv
    obtain ⟨r2, t2⟩ := r1.called t' r'
    exact q v H' _ r2 ((t1.trans t2).weak (by simp)) rv
  | exc x st' =>
    simp only [eF] at q
    intro cls dd H' G' r' t' hx
    obtain ⟨r2, t2⟩ := r1.called t' r'
    obtain ⟨G3, r3, t3⟩ := r2.less (own' := []) (fun i hi => by simp at hi)
    exact q cls dd H' G3 r3 (((t1.trans t2).trans t3).weak fun _ => rfl) hx
theorem se_call {k kk np : Nat} {F : Fn} {x : Str} {f : Addr} {fd : FuncData} {ps : List Str} {p pos : Pos} {das : List T} {dvs : List V} {dus : List Value} (hF : Γ[k]? = some F) (dfl : Dfl c.K Γ das dvs dus) (hlen : as.length + das.length = np)
    (fn : FnOk X.prog X.w X.K X.mg X.base (L2.CX X.prog X.w) kk f fd ps (spD c.K c.mg np F)) (hr : Room kk X.A) (hg : Gl X x) (hm : X.mg x = some (.ref f)) (hk : PySem.W.keepIn X.K (.ref f) = true) (hb : Binds X.K fd ps dus) (tk : Takes X c.W)
    (ha : PA X (e :: es) (tAs c own own1 mu false (evs Γ as))) (hdb : (x == ("__debug__" : Str)) = false) (he : starEach (e :: es) X.env = (false, eval e X.env) :: starEach es X.env) (hpl : (backTo pos (starEach es X.env)).any (·.1) = false) :
    PE X (.Call (.Name x p) (e :: es) [] pos) (tE c own own1 mu .sh (ev Γ (.call k (as ++ das)))) :=
  imE (pe_callSD (E := WE c.W) fn hr hg hm hk hb dfl.vals (fun σ => passAt tk σ) ha hdb he hpl) fun σ H Q h => call_pre hF dfl hlen h
theorem se_call0 {k kk np : Nat} {F : Fn} {x : Str} {f : Addr} {fd : FuncData} {ps : List Str} {p pos : Pos} {das : List T} {dvs : List V} {dus : List Value} (hF : Γ[k]? = some F) (dfl : Dfl c.K Γ das dvs dus) (hlen : das.length = np)
    (fn : FnOk X.prog X.w X.K X.mg X.base (L2.CX X.prog X.w) kk f fd ps (spD c.K c.mg np F)) (hr : Room kk X.A) (hg : Gl X x) (hm : X.mg x = some (.ref f)) (hk : PySem.W.keepIn X.K (.ref f) = true) (hb : Binds X.K fd ps dus) (tk : Takes X c.W)
    (hdb : (x == ("__debug__" : Str)) = false) : PE X (.Call (.Name x p) [] [] pos) (tE c own own mu .sh (ev Γ (.call k das))) := by
  refine ⟨fun pins s σ H Q I h => ?_⟩
  have h' := call_pre (as := []) (c := c) hF dfl (by simpa using hlen) h
  obtain ⟨sx, Gx, rx, qx⟩ := h'
  have qx : spD c.K c.mg np F ([] ++ dvs) H Q (WE c.W σ) := qx [] H Gx rx Stp.refl rfl
  refine wpAny_Call_Name_kw (ld_glob I hg hm ?_ hdb)
  exact PySem.W.callWith_K0 I.kIn hk (run_fnSD (us := []) (E := WE c.W) fn hr hb dfl.vals (passAt tk σ) I .nil qx)
/-- a list that is handed around: into the store -/
theorem Rel.laidM {K : PySem.W.Frag} {s : S} {G : Gh} {σ : L2.St} {H : Hp} {ds : List D} {vs : List V} {a : Addr} (r : Rel K own s G σ H) (hz : vs.length ≤ sizeLine) (rp : Reps K H G.Z G.μ ds vs) (ha : H a = none) :
    Rel K own { s with st := s.st ++ [ds] } { G with μ := G.μ ++ [a] } σ (upd H a (.lst vs)) ∧ Stp own own mu G H { G with μ := G.μ ++ [a] } (upd H a (.lst vs)) ∧ (G.μ ++ [a])[s.st.length]? = some a := by
  obtain ⟨r1, t1, nz, nm⟩ := r.laidF (mu := mu) (o := .lst vs) ha
  have mm : ∀ (n : Nat) b, G.μ[n]? = some b → (G.μ ++ [a])[n]? = some b := fun n b e => by
    rw [List.getElem?_append_left (List.getElem?_eq_some_iff.mp e).1]; exact e
  have up : ∀ {d v}, Rep K (upd H a (.lst vs)) G.Z G.μ d v → Rep K (upd H a (.lst vs)) G.Z (G.μ ++ [a]) d v := fun {d v} h => Rep.mono (fun _ z => z) (fun _ _ _ q => q) mm d v h
  have ups : ∀ {d v}, Reps K (upd H a (.lst vs)) G.Z G.μ d v → Reps K (upd H a (.lst vs)) G.Z (G.μ ++ [a]) d v := fun {d v} h => Reps.mono (fun _ z => z) (fun _ _ _ q => q) mm d v h
  have here : (G.μ ++ [a])[s.st.length]? = some a := by rw [← r.sto.len]; simp
  refine ⟨⟨r1.len, fun i d e => ?_, r1.zl, fun i hi => ?_, r1.inj, ⟨?_, fun n xs e => ?_⟩, fun b hb => ?_, ?_⟩, ⟨fun p o e hm ho => t1.keep p o e hm ho, t1.live, t1.zz, t1.zn, rfl, ⟨[a], rfl, fun b hb => by rw [List.mem_singleton.mp hb]; exact ha⟩, t1.sub⟩, here⟩
  · obtain ⟨v, e1, e2, e3⟩ := r1.slot i d e
    exact ⟨v, e1, fun hi => Own.mono (fun _ z => z) (fun _ _ _ q => q) mm (fun _ q => q) (e2 hi), fun hi => up (e3 hi)⟩
  · obtain ⟨h1, h2, h3⟩ := r1.oz i hi
    refine ⟨h1, fun z => ?_, h3⟩
    rcases List.mem_append.mp z with z | z
    · exact h2 z
    · have : G.ad i = a := List.mem_singleton.mp z
      obtain ⟨_, _, o, q⟩ := r.oz i hi
      rw [this, ha] at q; cases q
  · simp [r.sto.len]
  · by_cases hn : n < s.st.length
    · have e : (s.st ++ [ds])[n]? = some xs := e
      rw [List.getElem?_append_left hn] at e
      obtain ⟨b, ws, e1, e2, e3, e4⟩ := r1.sto.at_ n xs e
      exact ⟨b, ws, mm n b e1, e2, e3, ups e4⟩
    · have e : (s.st ++ [ds])[n]? = some xs := e
      have hn' : n = s.st.length := by
        have := (List.getElem?_eq_some_iff.mp e).1
        simp at this; omega
      subst hn'
      have : xs = ds := by simpa using e.symm
      subst this
      exact ⟨a, vs, here, upd_same, hz, ups (r.reps t1 rp)⟩
  · rcases List.mem_append.mp hb with z | z
    · exact r1.mz b z
    · rw [List.mem_singleton.mp z]; exact nz
  · rw [List.nodup_append]
    refine ⟨r.mnd, by simp, fun x hx y hy => ?_⟩
    rw [List.mem_singleton.mp hy]
    exact fun ee => nm (ee ▸ hx)
theorem se_new {pos : Pos} (h : PA X es (tAs c own own1 mu false (evs Γ as))) (hn : as.length ≤ sizeLine) : PE X (.List es pos) (tE c own own1 mu .sh (ev Γ (.new as))) := imE (pe_lst h) fun σ H Q ⟨s, G, r, q⟩ => by
  rw [ev_new, Post.bind] at q
  refine ⟨s, G, r, q.evs.mono fun ds s1 ⟨hl, q⟩ vs H1 G1 r1 t1 rp => ?_⟩
  have rp : Reps c.K H1 G1.Z G1.μ ds vs := rp
  have hz : vs.length ≤ sizeLine := by rw [rp.length, hl]; exact hn
  refine ⟨hz, fun a ha => ?_⟩
  obtain ⟨r2, t2, e2⟩ := r1.laidM (mu := false) hz rp ha
  exact q (.ref a) _ _ r2 ((t1.trans t2).weak (by simp)) ⟨a, e2, rfl⟩
/-! ### comprehensions, as values -/
theorem imTs {X : Cx} {e : List Expr} {t t' : TT} (h : PTs X e t) (f : ∀ σ H Q, t' σ H Q → t σ H Q) : PTs X e t' := ⟨fun pins s σ H Q I q => h.run pins s σ H Q I (f σ H Q q)⟩
theorem sts_nil : PTs X [] (tT c own own mu (evAll Γ [])) := imTs pts_nil fun σ H Q ⟨s, G, r, q⟩ => q H G r Stp.refl
theorem sts_one {a : Expr} {ta : T} (h : PT X a (tT c own own1 mu (evT Γ ta))) : PTs X [a] (tT c own own1 mu (evAll Γ [ta])) := imTs (pts_one h) fun σ H Q ⟨s, G, r, q⟩ => by
  refine ⟨s, G, r, ?_⟩
  have e : evAll Γ [ta] s = evT Γ ta s := by
    rw [evAll_cons]
    unfold evT
    cases ev Γ ta s with
    | ok d s =>
      simp only [R.bind_ok]
      cases truthy d with
      | none => rfl
      | some b => cases b <;> rfl
    | exc => rfl
    | fail => rfl
  rw [← e]; exact q
end
end Lb

set_option maxRecDepth 100000
set_option maxHeartbeats 1000000
/-! len({x for x in e}), e a tuple of whole numbers: by the kit's SetComp_goes, as the guide's Ex_GoesCopy shows -/
namespace Lb
open PySem PySem.Spec PyProof.Rows L2
theorem nub_snoc (ns : List Int) (i : Int) : nubI (ns ++ [i]) = if i ∈ nubI ns then nubI ns else nubI ns ++ [i] := by
  unfold nubI
  rw [List.foldl_append]
  rfl
theorem nub_len (ns : List Int) : (nubI ns).length ≤ ns.length := by
  suffices h : ∀ (ns l : List Int), (ns.foldl (fun l i => if i ∈ l then l else l ++ [i]) l).length ≤ l.length + ns.length by simpa [nubI] using h ns []
  intro ns
  induction ns with
  | nil => intro l; simp
  | cons i r ih =>
    intro l
    refine Nat.le_trans (ih _) ?_
    show (if i ∈ l then l else l ++ [i]).length + r.length ≤ _
    split <;> simp <;> omega
/-- of the numbers so far -/
def SofN (ns : List Int) : Key → Bool
  | .inl i => decide (i ∈ nubI ns)
  | .inr _ => false
theorem below_ne {b N C : Nat} (h : b < N + 1) (hC : N + 1 ≤ C) : b ≠ C := by omega
theorem pe_nub {X : Cx} {x : Str} {iter : Expr} {scope : Scope} {p pa px pos cpos : Pos} {ti : TE} (hc : X.calm = true) (hg : Gl X "len") (hm : X.mg "len" = none) (hi : PE X iter ti)
    (hn1 : ∀ y ∈ scope.names, y.2 = .local) (hn2 : ∀ y ∈ scope.names, scope.names.lookup y.1 = some .local) (hx : scope.names.lookup x = some .local) (hk : scope.kind = .function) (hd : (x == ("__debug__" : Str)) = false) (hcd : (x == ("__classdict__" : Str)) = false) (hs : ∀ y, foldedSetIterable iter X.env y = pure y) :
    PE X (.Call (.Name "len" p) [.SetComp (.Name x px) [⟨.Name x pa, iter, [], 0⟩] scope pos] [] cpos) (fun σ H Q => ti σ H fun v H1 => ∃ a ns, v = .ref a ∧ SqT X.K H1 a (ns.map V.int) ∧ ns.length ≤ 1000 ∧ Q (.int (nubI ns).length) H1) := by
  refine ⟨fun pins s σ H Q I h => Call_ (ld_blt I hg hm boot_len (callWith_builtin1 (args_cons ?_ rfl) rfl rfl))⟩
  have hclos : closureFor scope X.env = pure (cloFrom X.env.cells scope.names []) := closure_ok fun y hy e => by rw [hn1 y hy] at e; cases e
  refine SetComp_goes hclos (fun y hy e => by rw [hn1 y hy] at e; cases e) hk (fun y hy _ => hn2 y hy) (thn (hi.run pins s σ H _ I h) ?_) hs
  rintro v s1 ⟨_, H1, I1, rv, a, ns, rfl, sq, hl, q⟩
  cases rv
  obtain ⟨us, ru, tu, _⟩ := I1.tuple sq
  have tu : s1.heap.IsTuple a us.toArray := tu
  have hlt : (a : Nat) < s1.heap.objs.size := by obtain ⟨o, ho, _⟩ := tu; exact Heap.lt_size ho
  have hlen : us.length = ns.length := by rw [← ru.length, List.length_map]
  refine wpAny_pyIter_tuple tu ⟨_, _, _, _, _, _, rfl, Goes.tuple (I1.ok.hd hc) s1.heap.objs.size a (Nat.ne_of_lt hlt) us.toArray, ⟨⟨_, Heap.get?_push_size _ rfl, rfl, rfl⟩, tu.push _⟩, fun D C s₃ hB hD => ?_⟩
  obtain ⟨⟨h₃, tk₃, rfl⟩, old, nD, nC, hDC, hnm⟩ := hB
  have nC' : (s1.heap.objs.size + 1 : Nat) ≤ C := by rw [Heap.size_push] at nC; exact nC
  have nD' : (s1.heap.objs.size + 1 : Nat) ≤ D := by rw [Heap.size_push] at nD; exact nD
  have kx : (compEnvC scope (cloFrom X.env.cells scope.names []) C X.env).kindOf x = some .local := lookup_relabel_local hx
  have hp : ((compEnvC scope (cloFrom X.env.cells scope.names []) C X.env).scope.kind == .class || ((compEnvC scope (cloFrom X.env.cells scope.names []) C X.env).scope.kind == .module && (compEnvC scope (cloFrom X.env.cells scope.names []) C X.env).locals != (compEnvC scope (cloFrom X.env.cells scope.names []) C X.env).globals)) = false := by
    show (scope.kind == .class || (scope.kind == .module && _)) = false
    rw [hk]; rfl
  -- so far: each of the first i numbers once
  refine ⟨fun i st => ∃ g tk m, st = { s1 with heap := g, toks := tk } ∧ g.Ns C m ∧ g.SetOf (mixKind X.prog X.w) D (SofN (ns.take i)) (nubI (ns.take i)).length ∧ ∀ b o, s1.heap.get? b = some o → g.get? b = some o, ?_, ?_, ?_, ?_⟩
  · refine ⟨h₃, tk₃, _, rfl, hnm, ⟨_, #[], 0, _, hD, ⟨rfl, rfl, rfl⟩, rfl, fun e he => by simp at he, fun k => ?_, by decide, by rfl, rfl⟩, fun b o e => old b o (Heap.get?_push_of_some _ e)⟩
    cases k <;> simp [SofN, nubI]
  · rintro i st g' tk' ⟨g, tk, m, rfl, n1, S1, k1⟩ kp _
    have off : ∀ b : Addr, b ≠ s1.heap.objs.size → b ∉ [s1.heap.objs.size] := fun b hb z => hb (by simpa using z)
    refine ⟨g', tk', m, rfl, n1.at' fun o e => kp _ o (off C (Nat.ne_of_gt nC')) e, ?_, fun b o e => kp b o (off b (Nat.ne_of_lt (Heap.lt_size e))) (k1 b o e)⟩
    obtain ⟨o, es, ep, t, ho, r⟩ := S1
    exact ⟨o, es, ep, t, kp _ o (off D (Nat.ne_of_gt nD')) ho, r⟩
  · rintro i v st hi hv ⟨w1, w2⟩ ⟨g, tk, m, rfl, n1, S1, k1⟩
    have hi' : i < ns.length := by simpa [hlen] using hi
    have hns : ns[i]? = some ns[i] := List.getElem?_eq_getElem hi'
    obtain ⟨u, hu, ru1⟩ := ru.get (i := i) (x := .int ns[i]) (by rw [List.getElem?_map, hns]; rfl)
    obtain rfl : v = u := by
      have : us[i]? = some v := by simpa using hv
      rw [hu] at this; exact (Option.some.inj this).symm
    obtain ⟨tn, rfl⟩ := ru1
    refine wpAny_assign_Name (wpAny_storeName_local kx n1 (fun g5 n5 b5 => ?_) hp)
    refine wpAny_tests_nil ?_
    show wpAny _ _ _ _ _ _
    rw [eval_Name _ _ _ hd]
    refine wpAny_bind (wpAny_standAt (wpAny_loadName_local hk kx n5 (v := .int ns[i] tn) (if_pos rfl) ?_))
    have neC : ∀ b : Addr, b < s1.heap.objs.size + 1 → b ≠ C := fun b hb => below_ne hb nC'
    have S5 : g5.SetOf (mixKind X.prog X.w) D (SofN (ns.take i)) (nubI (ns.take i)).length := by
      obtain ⟨o, es, ep, t, ho, r⟩ := S1
      exact ⟨o, es, ep, t, b5.extBut _ o hDC ho, r⟩
    refine call_set_add (k := Sum.inl ns[i]) (kV_is (k := Sum.inl ns[i]) ⟨tn, rfl⟩) rfl S5 (by have := nub_len (ns.take i); rw [List.length_take] at this; unfold scanBound; omega) fun g6 b6 S6 => ?_
    have neD : ∀ b : Addr, b < s1.heap.objs.size + 1 → b ≠ D := fun b hb => below_ne hb nD'
    have et : ns.take (i + 1) = ns.take i ++ [ns[i]] := by rw [List.take_add_one, hns]; rfl
    refine ⟨⟨g6, _, _, rfl, n5.at' fun o e => b6.extBut _ o (fun z => hDC z.symm) e, ?_, fun b o e => b6.extBut b o (neD b (Nat.lt_succ_of_lt (Heap.lt_size e))) (b5.extBut b o (neC b (Nat.lt_succ_of_lt (Heap.lt_size e))) (k1 b o e))⟩, ⟨w1.at fun o e => b6.extBut _ o (neD _ (Nat.lt_succ_self _)) (b5.extBut _ o (neC _ (Nat.lt_succ_self _)) e), ?_⟩⟩
    · rw [et, nub_snoc]
      have eS : (fun k' => SofN (ns.take i) k' || decide (k' = Sum.inl ns[i])) = SofN (ns.take i ++ [ns[i]]) := by
        funext k'
        cases k' with
        | inr y => simp [SofN]
        | inl j =>
          simp only [SofN, nub_snoc]
          by_cases hm : ns[i] ∈ nubI (ns.take i)
          · rw [if_pos hm]
            by_cases hj : j = ns[i]
            · subst hj; simp [hm]
            · simp [hj]
          · rw [if_neg hm]; simp [List.mem_append]
      rw [← eS]
      by_cases hm : ns[i] ∈ nubI (ns.take i)
      · have e1 : SofN (ns.take i) (Sum.inl ns[i]) = true := by simp [SofN, hm]
        rw [e1, if_pos rfl] at S6
        rw [if_pos hm]; exact S6
      · have e1 : SofN (ns.take i) (Sum.inl ns[i]) = false := by simp [SofN, hm]
        rw [e1, if_neg (by decide)] at S6
        rw [if_neg hm]; simpa using S6
    · obtain ⟨o, ho, r⟩ := w2
      exact ⟨o, b6.extBut _ o (neD _ (Nat.lt_succ_of_lt hlt)) (b5.extBut _ o (neC _ (Nat.lt_succ_of_lt hlt)) ho), r⟩
  · rintro st ⟨g, tk, m, rfl, n1, S1, k1⟩
    refine ⟨m, n1, fun g7 b7 => args_nil ?_⟩
    have e : ns.take us.toArray.size = ns := List.take_of_length_le (by simp [hlen])
    rw [e] at S1
    obtain ⟨o, es, ep, t, ho, hex, hdt, _, _, _, hf, hnn⟩ := S1
    have ho7 : g7.get? D = some o := b7.extBut _ o hDC ho
    have hb := nub_len ns
    refine call_len_set (s := { s1 with heap := g7, toks := tk }) ho7 hex hdt hf (by rw [hnn]; omega) ⟨.int (nubI ns).length, H1, ?_, ⟨_, by rw [hnn]⟩, q⟩
    exact I1.kept (t' := tk + 1 + 1) fun b o' e' => b7.extBut b o' (below_ne (Nat.lt_succ_of_lt (Heap.lt_size e')) nC') (k1 b o' e')
theorem ints_rep {K : PySem.W.Frag} {H : Hp} {Z : Zs} {μ : List Addr} : ∀ {xs : List D} {vs : List V} {ns : List Int}, Reps K H Z μ xs vs → intsOf xs = some ns → vs = ns.map V.int
  | [], vs, ns, h, e => by cases (show vs = [] from h); cases e; rfl
  | .int i :: xs, vs, ns, h, e => by
    obtain ⟨v, r, rfl, h1, h2⟩ := (show ∃ v r, vs = v :: r ∧ Rep K H Z μ (.int i) v ∧ Reps K H Z μ xs r from h)
    obtain ⟨ms, e1, rfl⟩ := Option.map_eq_some_iff.mp (show (intsOf xs).map (i :: ·) = some ns from e)
    rw [ints_rep h2 e1, show v = .int i from h1]; rfl
  | .non :: _, _, _, _, e => nomatch e
  | .bl _ :: _, _, _, _, e => nomatch e
  | .str _ :: _, _, _, _, e => nomatch e
  | .tup _ :: _, _, _, _, e => nomatch e
  | .lst _ :: _, _, _, _, e => nomatch e
  | .dic _ _ :: _, _, _, _, e => nomatch e
  | .ref _ :: _, _, _, _, e => nomatch e
theorem se_nub {X : Cx} {c : Cfg} {Γ : List Fn} {own own1 : List Nat} {mu : Bool} {t : T} {x : Str} {iter : Expr} {scope : Scope} {p pa px pos cpos : Pos} (hK : c.K = X.K) (hc : X.calm = true) (hg : Gl X "len") (hm : X.mg "len" = none) (hi : PE X iter (tE c own own1 mu .sh (ev Γ t)))
    (hn1 : ∀ y ∈ scope.names, y.2 = .local) (hn2 : ∀ y ∈ scope.names, scope.names.lookup y.1 = some .local) (hx : scope.names.lookup x = some .local) (hk : scope.kind = .function) (hd : (x == ("__debug__" : Str)) = false) (hcd : (x == ("__classdict__" : Str)) = false) (hs : ∀ y, foldedSetIterable iter X.env y = pure y) :
    PE X (.Call (.Name "len" p) [.SetComp (.Name x px) [⟨.Name x pa, iter, [], 0⟩] scope pos] [] cpos) (tE c own own1 mu .sh (ev Γ (.prim .nubL [t]))) :=
  imE (pe_nub hc hg hm hi hn1 hn2 hx hk hd hcd hs) fun σ H Q ⟨s, G, r, q⟩ => by
  simp only [ev_prim, evs_cons, evs_nil, Post.bind] at q
  refine ⟨s, G, r, q.mono fun d s1 q v H1 G1 r1 t1 rp => ?_⟩
  have rp : Rep c.K H1 G1.Z G1.μ d v := rp
  obtain ⟨z, hz, q⟩ := q.opt2
  cases d with
  | tup xs =>
    obtain ⟨ns, e1, e2⟩ := Option.bind_eq_some_iff.mp (show ((intsOf xs).bind fun ns => if ns.length ≤ 1000 then some (D.int ((nubI ns).length : Nat)) else none) = some z from hz)
    split at e2
    · rename_i hl
      cases e2
      obtain ⟨a, vs, rfl, k1, k2, k3⟩ := (show ∃ a vs, v = V.ref a ∧ TupAt c.K H1 G1.Z a vs ∧ vs.length ≤ sizeLine ∧ Reps c.K H1 G1.Z G1.μ xs vs from rp)
      have := ints_rep k3 e1
      subst this
      exact ⟨a, ns, rfl, by rw [← hK]; exact k1.sq, hl, q _ H1 G1 r1 t1 rfl⟩
    · cases e2
  | _ => cases hz
end Lb

set_option maxRecDepth 100000
set_option maxHeartbeats 1000000
namespace Lb
open PySem PySem.Spec PyProof.Rows L2
/-! ### dicts -/
section
variable {X : Cx} {c : Cfg} {Γ : List Fn} {own own1 own2 : List Nat} {mu : Bool} {e d : Expr} {es : List Expr} {as : List T} {te td : T} {pos : Pos} {k : Nat}
theorem se_dnew (t : Bool) : PE X (.Dict [] [] pos) (tE c own own false .fr (ev Γ (.dnew t))) := by
  cases t with
  | false =>
    refine imE pe_dnewK fun σ H Q ⟨s, G, r, q⟩ p hp => ?_
    obtain ⟨r', t', nz, nm⟩ := r.laidF (mu := false) (o := .dK []) hp
    exact q _ _ G r' t' ⟨p, ⟨rfl, [], ⟨[], upd_same, rfl, rfl⟩, rfl⟩, nz, nm, hp⟩
  | true =>
    refine imE pe_dnewT fun σ H Q ⟨s, G, r, q⟩ p hp => ?_
    obtain ⟨r', t', nz, nm⟩ := r.laidF (mu := false) (o := .dT []) hp
    exact q _ _ G r' t' ⟨p, ⟨rfl, [], ⟨[], upd_same, rfl, rfl⟩, rfl⟩, nz, nm, hp⟩
def rDIn (neg : Bool) : R2 := fun x y H Q => ∃ a o, y = .ref a ∧ DGet H a x o ∧ Q (.bl (neg != o.isSome)) H
theorem o_dIn (hu : X.A.units + 64 < cLine) : OpR X (compareOp .In) (rDIn false) := by
  intro pins s σ H x y v u Q I rx ry h
  obtain ⟨a, o, rfl, g, q⟩ := h
  cases ry
  refine d_in (by omega) I g rx fun s' I' => ⟨.bl o.isSome, H, I', rfl, ?_⟩
  cases ho : o.isSome <;> (rw [ho] at q; exact q)
theorem o_dNin (hu : X.A.units + 64 < cLine) : OpR X (compareOp .NotIn) (rDIn true) := by
  intro pins s σ H x y v u Q I rx ry h
  obtain ⟨a, o, rfl, g, q⟩ := h
  cases ry
  refine d_notIn (by omega) I g rx fun s' I' => ⟨.bl (!o.isSome), H, I', rfl, ?_⟩
  cases ho : o.isSome <;> (rw [ho] at q; exact q)
theorem keysB : ∀ {ds : List D}, ds.all keyB = true → ∃ ks : List Key, ds = ks.map kD
  | [], _ => ⟨[], rfl⟩
  | d :: ds, h => by
    simp only [List.all_cons, Bool.and_eq_true] at h
    obtain ⟨k, rfl⟩ := keyB_some h.1
    obtain ⟨ks, rfl⟩ := keysB h.2
    exact ⟨k :: ks, rfl⟩
theorem Stp.tupK {G G' : Gh} {H H' : Hp} {own' : List Nat} {p : Addr} {vs : List V} (t : Stp own own' false G H G' H') (h : H p = some (.tup vs)) (hm : p ∉ G.μ) : H' p = some (.tup vs) := by
  rcases t.keep p _ h hm (by simp) with q | ⟨_, q, _⟩
  · exact q
  · cases q
theorem tget {K : PySem.W.Frag} {H : Hp} {Z : Zs} {μ : List Addr} {kvs : List (D × D)} {v : V} {p : Addr} {ks : List Key} (h : RepT K H Z μ (.dic true kvs) v) (hp : H p = some (.tup (ks.map kV))) : ∃ a, v = .ref a ∧ ((dget kvs (.tup (ks.map kD)) = none ∧ DGet H a (.ref p) none) ∨ ∃ d w, dget kvs (.tup (ks.map kD)) = some d ∧ DGet H a (.ref p) (some w) ∧ Rep K H Z μ d w) := by
  obtain ⟨a, vs, rfl, _, ⟨ls, q1, e1, rfl⟩, r2⟩ := dicE h
  refine ⟨a, rfl, ?_⟩
  rcases RepE.find (f := fun k : List Key => D.tup (k.map kD)) kDs_eqv ks e1 r2 with ⟨z1, z2⟩ | ⟨d, w, z1, z2, z3⟩
  · exact .inl ⟨z1, .inr ⟨ls, ks, p, q1, rfl, hp, z2.symm⟩⟩
  · exact .inr ⟨d, w, z1, .inr ⟨ls, ks, p, q1, rfl, hp, z2.symm⟩, z3⟩
theorem inT_pre {neg : Bool} {σ : L2.St} {H : Hp} {Q : VK} (hl : as.length ≤ 1000) (h : tE c own own2 false .sh (ev Γ (.inT neg as td)) σ H Q) : tOp (rDIn neg) (tTup (tAs c own own1 false false (evs Γ as))) (tE c own1 own2 false .pk (ev Γ td)) σ H Q := by
  obtain ⟨s, G, r, q⟩ := h
  simp only [ev_inT, Post.bind] at q
  refine ⟨s, G, r, q.evs.mono fun ds s1 q vs H1 G1 r1 t1 rp1 => ?_⟩
  obtain ⟨ql, q⟩ := q
  have rp1 : Reps c.K H1 G1.Z G1.μ ds vs := rp1
  have hz : vs.length ≤ sizeLine := by rw [rp1.length, ql]; exact le1000 hl
  refine ⟨hz, fun p hp => ?_⟩
  obtain ⟨r2, t2, nz, nm⟩ := r1.laidF (mu := false) (o := .tup vs) hp
  have t12 : Stp own own1 false G H G1 (upd H1 p (.tup vs)) := t1.trans t2
  refine ⟨s1, G1, r2, (q.move t12).mono fun d s2 q v H3 G3 r3 t3 rp3 => ?_⟩
  have rp3 : RepT c.K H3 G3.Z G3.μ d v := rp3
  have hp3 : H3 p = some (.tup vs) := t3.tupK upd_same nm
  obtain ⟨kvs, rfl⟩ : ∃ kvs, d = .dic true kvs := by
    cases d with
    | dic t kvs =>
      cases t with
      | false => exact q.elim
      | true => exact ⟨kvs, rfl⟩
    | _ => exact q.elim
  · replace q : Post c own G σ H _ (if ds.all keyB = true then R.ok (D.bl (neg != (dget kvs (.tup ds)).isSome)) s2 else R.fail) := q
    split at q
    · rename_i hk
      obtain ⟨ks, rfl⟩ := keysB hk
      rw [kDs_rep rp1] at hp3
      obtain ⟨a, rfl, g⟩ := tget rp3 hp3
      rcases g with ⟨g1, g2⟩ | ⟨d, w, g1, g2, _⟩
      · rw [g1] at q
        exact ⟨a, none, rfl, g2, q _ H3 G3 r3 (t12.trans t3) rfl⟩
      · rw [g1] at q
        exact ⟨a, some w, rfl, g2, q _ H3 G3 r3 (t12.trans t3) rfl⟩
    · exact q.elim
theorem bool_inT {neg : Bool} (s : S) (x : D) (s' : S) (h : ev Γ (.inT neg as td) s = .ok x s') : ∃ k, x = .bl k := by
  rw [ev_inT] at h
  cases h1 : evs Γ as s with
  | fail => rw [h1] at h; cases h
  | exc => rw [h1] at h; cases h
  | ok ds s1 =>
    rw [h1, R.bind_ok] at h
    cases h2 : ev Γ td s1 with
    | fail => rw [h2] at h; cases h
    | exc => rw [h2] at h; cases h
    | ok y s2 =>
      rw [h2, R.bind_ok] at h
      cases y with
      | dic t kvs =>
        cases t with
        | false => cases h
        | true =>
          replace h : (if ds.all keyB = true then R.ok (D.bl (neg != (dget kvs (.tup ds)).isSome)) s2 else R.fail) = .ok x s' := h
          split at h
          · cases h; exact ⟨_, rfl⟩
          · cases h
      | _ => cases h
theorem se_inT (hu : X.A.units + 64 < cLine) {p2 : Pos} (ha : PA X es (tAs c own own1 false false (evs Γ as))) (hl : as.length ≤ 1000) (hb : PE X d (tE c own1 own2 false .pk (ev Γ td))) (hm : behindInMarks .In d = false) : PE X (.Compare (.Tuple es k p2) [.In] [d] pos) (tE c own own2 false .sh (ev Γ (.inT false as td))) ∧ PT X (.Compare (.Tuple es k p2) [.In] [d] pos) (tT c own own2 false (evT Γ (.inT false as td))) :=
  ⟨imE (pe_cmpR (o_dIn hu) (pe_tup ha) hb hm) fun σ H Q h => inT_pre hl h, imT (pt_cmpR (o_dIn hu) (pe_tup ha) hb hm) fun σ H Q h => inT_pre hl (tT_bool bool_inT h)⟩
theorem se_ninT (hu : X.A.units + 64 < cLine) {p2 : Pos} (ha : PA X es (tAs c own own1 false false (evs Γ as))) (hl : as.length ≤ 1000) (hb : PE X d (tE c own1 own2 false .pk (ev Γ td))) (hm : behindInMarks .NotIn d = false) : PE X (.Compare (.Tuple es k p2) [.NotIn] [d] pos) (tE c own own2 false .sh (ev Γ (.inT true as td))) ∧ PT X (.Compare (.Tuple es k p2) [.NotIn] [d] pos) (tT c own own2 false (evT Γ (.inT true as td))) :=
  ⟨imE (pe_cmpR (o_dNin hu) (pe_tup ha) hb hm) fun σ H Q h => inT_pre hl h, imT (pt_cmpR (o_dNin hu) (pe_tup ha) hb hm) fun σ H Q h => inT_pre hl (tT_bool bool_inT h)⟩
/-- d[(a, b)] -/
theorem se_getT (hu : X.A.units + 64 < cLine) {p2 : Pos} (hd : PE X d (tE c own own1 false .sh (ev Γ td))) (ha : PA X es (tAs c own1 own2 false false (evs Γ as))) (hl : as.length ≤ 1000) : PE X (.Subscript d (.Tuple es k p2) pos) (tE c own own2 false .sh (ev Γ (.getT td as))) :=
  imE (pe_dget (by omega) hd (pe_tup ha) (fun _ _ => rfl)) fun σ H Q ⟨s, G, r, q⟩ => by
  simp only [ev_getT, Post.bind] at q
  refine ⟨s, G, r, q.mono fun d1 s1 q v1 H1 G1 r1 t1 rp1 => ⟨s1, G1, r1, (q.move t1).evs.mono fun ds s2 q vs H2 G2 r2 t2 rp2 => ?_⟩⟩
  obtain ⟨ql, q⟩ := q
  have rp2 : Reps c.K H2 G2.Z G2.μ ds vs := rp2
  have hz : vs.length ≤ sizeLine := by rw [rp2.length, ql]; exact le1000 hl
  refine ⟨hz, fun p hp => ?_⟩
  obtain ⟨r3, t3, nz, nm⟩ := r2.laidF (mu := false) (o := .tup vs) hp
  obtain ⟨kvs, rfl⟩ : ∃ kvs, d1 = .dic true kvs := by
    cases d1 with
    | dic t kvs =>
      cases t with
      | false => exact q.elim
      | true => exact ⟨kvs, rfl⟩
    | _ => exact q.elim
  replace q : Post c own G σ H _ (if ds.all keyB = true then Lb.opt s2 (dget kvs (.tup ds)) else R.fail) := q
  split at q
  · rename_i hk
    obtain ⟨ks, rfl⟩ := keysB hk
    have hp3 : (upd H2 p (.tup vs)) p = some (.tup (ks.map kV)) := by rw [upd_same, kDs_rep rp2]
    have rp3 : Rep c.K (upd H2 p (.tup vs)) G2.Z G2.μ (.dic true kvs) v1 := r1.rep (t2.trans t3) rp1
    obtain ⟨a, rfl, g⟩ := tget (Rep.top r2.mz rp3) hp3
    obtain ⟨w, hw, q⟩ := q.opt2
    rcases g with ⟨g1, g2⟩ | ⟨d', w', g1, g2, g3⟩
    · rw [g1] at hw; cases hw
    · rw [g1] at hw
      cases hw
      exact ⟨a, w', rfl, g2, q w' _ G2 r3 ((t1.trans t2).trans t3) g3⟩
  · exact q.elim
/-! ### list(d.items()) -/
def rItR : V → Hp → VK → Prop := fun x H Q => ∃ (d : Addr) (kvs : List (Key × V)), x = .ref d ∧ Rd H d (.dK kvs) ∧
  ∀ (H' : Hp) (p : Addr) (ts : List Addr), (∀ b o, H b = some o → H' b = some o) → H p = none → (∀ t ∈ ts, H t = none) → p ∉ ts → H' p = some (.lst (ts.map V.ref)) → Paired (fun (t : Addr) (q : Key × V) => H' t = some (.tup [kV q.1, q.2])) ts kvs → Q (.ref p) H'
theorem pe_lit {p1 apos cpos : Pos} {f : Expr} {tf : TE} (hc : X.calm = true) (he : PE X f tf) (hg : Gl X "list") (hm : X.mg "list" = none) (hb : attributeBase f "items" X.env (eval f X.env) = eval f X.env) (hline : (apos.endLine == cpos.line) = true)
    (hs : starEach [.Call (.Attribute f "items" apos) [] [] cpos] X.env = (false, eval (.Call (.Attribute f "items" apos) [] [] cpos) X.env) :: starEach [] X.env) :
    PE X (.Call (.Name "list" p1) [.Call (.Attribute f "items" apos) [] [] cpos] [] pos) (fun σ H Q => tf σ H fun x H1 => rItR x H1 Q) := by
  constructor
  intro pins s σ H Q I hq
  refine wpAny_Call_Name_kw (ld_blt I hg hm (show bootBuiltins "list" = some (.type "list") by decide +kernel) (PyProof.Rows.callWith_type1 ?_ hs rfl))
  rw [hs]
  refine Calls.spliced_cons (wpAny_Call_method (T := "dict") (id := "dict.items") hb rfl hline F.plainAttrs_dict F.slot_dict_items F.type_dict_items (thn (he.run pins s σ H _ I hq) fun z s1 ⟨x, H1, I1, rx, a, kvs, ex, hd, q⟩ => ?_))
  cases ex
  cases (show z = Value.ref a from rx)
  obtain ⟨hz, h0, vs, kv, dd⟩ := dk_rd I1.hok hd
  obtain ⟨ep, at_⟩ := dd.dictAt
  have ln := Paired.length kv
  have J : Inv X pins σ H1 { s1 with heap := s1.heap.push { cls := .type "dict_items", data := .fields #[.ref a] } } := I1.kept (t' := s1.toks) fun _ _ w => Heap.get?_push_of_some _ w
  refine ⟨dd.typeIs, dd.mapOf.noDict, ?_⟩
  show wpAny _ _ (callWith cpos (.builtin "dict.items") [.ref a] [] []) _ X.xe s1
  refine method_meetsIn F.slot_dict_items F.entry_dict_items rfl (PySem.evalArgs_none ⟨rfl, dd.typeIs, F.args_dict_items_1 _, _, meets_dict_items (mixKind X.prog X.w) a h0, ⟨vs, dd⟩, Calls.spliced_nil ?_⟩)
  refine PySem.W.kdx_call (knd := mixKind X.prog X.w) (kvs := vs) (ep := ep) (I1.ok.hd hc) ⟨_, Heap.get?_push_size _ rfl, rfl, rfl⟩ (at_.push _) (by omega) fun h' tk acc n ts hk hS hl hG hA => ?_
  obtain ⟨H', k1, k2, k3, k4, k5, k6, L⟩ := LiI.items_laid (tk := tk) J hz kv hk hS hl hG hA
  exact ⟨.ref _, H', L, rfl, q H' _ ts k1 k2 k3 k4 k5 k6⟩
theorem pair_live {H' : Hp} : ∀ {ks : List (Key × V)} {ts : List Addr}, Paired (fun (t : Addr) (q : Key × V) => H' t = some (.tup [kV q.1, q.2])) ts ks → ∀ t ∈ ts, ∃ o, H' t = some o
  | _, _, .nil, t, ht => by simp at ht
  | _, _, .cons h pr, t, ht => by
    rcases List.mem_cons.mp ht with e | e
    · rw [e]; exact ⟨_, h⟩
    · exact pair_live pr t e
end
end Lb

set_option maxRecDepth 100000
set_option maxHeartbeats 1000000
/-! what a def put into the store is forgotten -/
namespace Lb
open PySem PySem.Spec PyProof.Rows L2
mutual
theorem same_eq : ∀ a b : D, D.same a b = true → a = b
  | .non, b, h => by cases b <;> first | rfl | cases h
  | .bl x, b, h => by cases b <;> first | cases h | (rename_i y; rw [show x = y from eq_of_beq h]) 
  | .int x, b, h => by cases b <;> first | cases h | (rename_i y; rw [show x = y from eq_of_beq h])
  | .str x, b, h => by cases b <;> first | cases h | (rename_i y; rw [show x = y from eq_of_beq h])
  | .ref x, b, h => by cases b <;> first | cases h | (rename_i y; rw [show x = y from eq_of_beq h])
  | .tup xs, b, h => by cases b <;> first | cases h | (rename_i ys; rw [sames_eq xs ys h])
  | .lst xs, b, h => by cases b <;> first | cases h | (rename_i ys; rw [sames_eq xs ys h])
  | .dic t xs, b, h => by
    cases b with
    | dic u ys =>
      obtain ⟨h1, h2⟩ := Bool.and_eq_true_iff.mp (show (t == u && D.sameE xs ys) = true from h)
      rw [show t = u from eq_of_beq h1, sameE_eq xs ys h2]
    | _ => cases h
theorem sames_eq : ∀ xs ys : List D, D.sames xs ys = true → xs = ys
  | [], [], _ => rfl
  | [], _ :: _, h => by cases h
  | _ :: _, [], h => by cases h
  | x :: xs, y :: ys, h => by
    obtain ⟨h1, h2⟩ := Bool.and_eq_true_iff.mp (show (D.same x y && D.sames xs ys) = true from h)
    rw [same_eq x y h1, sames_eq xs ys h2]
theorem sameE_eq : ∀ xs ys : List (D × D), D.sameE xs ys = true → xs = ys
  | [], [], _ => rfl
  | [], _ :: _, h => by cases h
  | _ :: _, [], h => by cases h
  | (a, x) :: xs, (b, y) :: ys, h => by
    obtain ⟨h1, h2⟩ := Bool.and_eq_true_iff.mp (show (D.same a b && (D.same x y && D.sameE xs ys)) = true from h)
    obtain ⟨h2, h3⟩ := Bool.and_eq_true_iff.mp h2
    rw [same_eq a b h1, same_eq x y h2, sameE_eq xs ys h3]
end
mutual
theorem same_refl : ∀ a : D, D.same a a = true
  | .non => rfl
  | .bl x => by simp [D.same]
  | .int x => by simp [D.same]
  | .str x => by simp [D.same]
  | .ref x => by simp [D.same]
  | .tup xs => sames_refl xs
  | .lst xs => sames_refl xs
  | .dic t xs => by
    show (t == t && D.sameE xs xs) = true
    rw [sameE_refl xs]; simp
theorem sames_refl : ∀ xs : List D, D.sames xs xs = true
  | [] => rfl
  | x :: xs => by
    show (D.same x x && D.sames xs xs) = true
    rw [same_refl x, sames_refl xs]; rfl
theorem sameE_refl : ∀ xs : List (D × D), D.sameE xs xs = true
  | [] => rfl
  | (a, x) :: xs => by
    show (D.same a a && (D.same x x && D.sameE xs xs)) = true
    rw [same_refl a, same_refl x, sameE_refl xs]; rfl
end
theorem sameS_eq : ∀ xs ys : Sto, sameS xs ys = true → xs = ys
  | [], [], _ => rfl
  | [], _ :: _, h => by cases h
  | _ :: _, [], h => by cases h
  | x :: xs, y :: ys, h => by
    obtain ⟨h1, h2⟩ := Bool.and_eq_true_iff.mp (show (D.sames x y && sameS xs ys) = true from h)
    rw [sames_eq x y h1, sameS_eq xs ys h2]
theorem sameS_refl : ∀ xs : Sto, sameS xs xs = true
  | [] => rfl
  | x :: xs => by
    show (D.sames x x && sameS xs xs) = true
    rw [sames_refl x, sameS_refl xs]; rfl
section
variable {K : PySem.W.Frag} {H : Hp} {Z : Zs} {μ l : List Addr}
mutual
theorem Rep.cut : ∀ (d : D) (v : V), D.bel μ.length d = true → Rep K H Z (μ ++ l) d v → Rep K H Z μ d v
  | .non, _, _, h => h
  | .bl _, _, _, h => h
  | .int _, _, _, h => h
  | .str _, _, _, h => h
  | .ref n, v, hb, h => by
    obtain ⟨a, e, h⟩ := (show ∃ a, (μ ++ l)[n]? = some a ∧ v = .ref a from h)
    have hn : n < μ.length := of_decide_eq_true hb
    rw [List.getElem?_append_left hn] at e
    exact ⟨a, e, h⟩
  | .tup ds, v, hb, h => by
    obtain ⟨a, vs, e, h1, h2, h3⟩ := (show ∃ a vs, v = V.ref a ∧ TupAt K H Z a vs ∧ vs.length ≤ sizeLine ∧ Reps K H Z (μ ++ l) ds vs from h)
    exact ⟨a, vs, e, h1, h2, Reps.cut ds vs hb h3⟩
  | .lst ds, v, hb, h => by
    obtain ⟨a, vs, e, h1, h2, h3⟩ := (show ∃ a vs, v = V.ref a ∧ (Z a ∧ Rd H a (.lst vs)) ∧ vs.length ≤ sizeLine ∧ Reps K H Z (μ ++ l) ds vs from h)
    exact ⟨a, vs, e, h1, h2, Reps.cut ds vs hb h3⟩
  | .dic t kvs, v, hb, h => by
    obtain ⟨a, vs, e, h1, h2, h3⟩ := (show ∃ a vs, v = V.ref a ∧ Z a ∧ DicAt (Rd H) a t (kvs.map Prod.fst) vs ∧ RepE K H Z (μ ++ l) kvs vs from h)
    exact ⟨a, vs, e, h1, h2, RepE.cut kvs vs hb h3⟩
theorem Reps.cut : ∀ (ds : List D) (vs : List V), D.bels μ.length ds = true → Reps K H Z (μ ++ l) ds vs → Reps K H Z μ ds vs
  | [], _, _, h => h
  | d :: ds, vs, hb, h => by
    obtain ⟨b1, b2⟩ := Bool.and_eq_true_iff.mp (show (D.bel μ.length d && D.bels μ.length ds) = true from hb)
    obtain ⟨v, r, e, h1, h2⟩ := (show ∃ v r, vs = v :: r ∧ Rep K H Z (μ ++ l) d v ∧ Reps K H Z (μ ++ l) ds r from h)
    exact ⟨v, r, e, Rep.cut d v b1 h1, Reps.cut ds r b2 h2⟩
theorem RepE.cut : ∀ (ds : List (D × D)) (vs : List V), D.belE μ.length ds = true → RepE K H Z (μ ++ l) ds vs → RepE K H Z μ ds vs
  | [], _, _, h => h
  | (k, d) :: ds, vs, hb, h => by
    obtain ⟨b1, b2⟩ := Bool.and_eq_true_iff.mp (show (D.bel μ.length d && D.belE μ.length ds) = true from hb)
    obtain ⟨v, r, e, h1, h2⟩ := (show ∃ v r, vs = v :: r ∧ Rep K H Z (μ ++ l) d v ∧ RepE K H Z (μ ++ l) ds r from h)
    exact ⟨v, r, e, Rep.cut d v b1 h1, RepE.cut ds r b2 h2⟩
end
mutual
theorem Rep.bel : ∀ (d : D) (v : V), Rep K H Z μ d v → D.bel μ.length d = true
  | .non, _, _ => rfl
  | .bl _, _, _ => rfl
  | .int _, _, _ => rfl
  | .str _, _, _ => rfl
  | .ref n, v, h => by
    obtain ⟨a, e, _⟩ := (show ∃ a, μ[n]? = some a ∧ v = .ref a from h)
    exact decide_eq_true (List.getElem?_eq_some_iff.mp e).1
  | .tup ds, v, h => by
    obtain ⟨a, vs, e, h1, h2, h3⟩ := (show ∃ a vs, v = V.ref a ∧ TupAt K H Z a vs ∧ vs.length ≤ sizeLine ∧ Reps K H Z μ ds vs from h)
    exact Reps.bel ds vs h3
  | .lst ds, v, h => by
    obtain ⟨a, vs, e, h1, h2, h3⟩ := (show ∃ a vs, v = V.ref a ∧ (Z a ∧ Rd H a (.lst vs)) ∧ vs.length ≤ sizeLine ∧ Reps K H Z μ ds vs from h)
    exact Reps.bel ds vs h3
  | .dic t kvs, v, h => by
    obtain ⟨a, vs, e, h1, h2, h3⟩ := (show ∃ a vs, v = V.ref a ∧ Z a ∧ DicAt (Rd H) a t (kvs.map Prod.fst) vs ∧ RepE K H Z μ kvs vs from h)
    exact RepE.bel kvs vs h3
theorem Reps.bel : ∀ (ds : List D) (vs : List V), Reps K H Z μ ds vs → D.bels μ.length ds = true
  | [], _, _ => rfl
  | d :: ds, vs, h => by
    obtain ⟨v, r, e, h1, h2⟩ := (show ∃ v r, vs = v :: r ∧ Rep K H Z μ d v ∧ Reps K H Z μ ds r from h)
    show (D.bel μ.length d && D.bels μ.length ds) = true
    rw [Rep.bel d v h1, Reps.bel ds r h2]; rfl
theorem RepE.bel : ∀ (ds : List (D × D)) (vs : List V), RepE K H Z μ ds vs → D.belE μ.length ds = true
  | [], _, _ => rfl
  | (k, d) :: ds, vs, h => by
    obtain ⟨v, r, e, h1, h2⟩ := (show ∃ v r, vs = v :: r ∧ Rep K H Z μ d v ∧ RepE K H Z μ ds r from h)
    show (D.bel μ.length d && D.belE μ.length ds) = true
    rw [Rep.bel d v h1, RepE.bel ds r h2]; rfl
end
end
/-- what a caller wants of a def's outcome -/
def PostD (K : PySem.W.Frag) (mg : Str → Option Value) (G : Gh) (H : Hp) (Q : VK) (E : XK) : R Sto D → Prop
  | .ok d st' => ∀ v H' G', Rel K [] ⟨[], st'⟩ G' [] H' → Stp [] [] false G H G' H' → Rep K H' G'.Z G'.μ d v → Q v H'
  | .exc e st' => ∀ cls dd H' G', Rel K [] ⟨[], st'⟩ G' [] H' → Stp [] [] false G H G' H' → ExcV mg H' e cls dd → E cls dd H'
  | .fail => False
section
variable {K : PySem.W.Frag} {mg : Str → Option Value} {G G' : Gh} {H H' : Hp} {Q : VK} {E : XK} {st st' : Sto}
theorem Rel.forget (r : Rel K [] ⟨[], st⟩ G [] H) (r' : Rel K [] ⟨[], st'⟩ G' [] H') (t : Stp [] [] false G H G' H') (e : st'.take st.length = st) : Rel K [] ⟨[], st⟩ { G' with μ := G.μ } [] H' ∧ Stp [] [] false G H { G' with μ := G.μ } H' := by
  obtain ⟨l, em, hl⟩ := t.mup
  have lm : G.μ.length = st.length := r.sto.len
  refine ⟨⟨rfl, fun i d e => by simp at e, r'.zl, fun i hi => by simp at hi, fun i hi => by simp at hi, ⟨lm, fun n xs en => ?_⟩, fun a ha => r'.mz a (by rw [em]; exact List.mem_append_left _ ha), r.mnd⟩, ⟨fun p o e hm ho => t.keep p o e hm ho, t.live, t.zz, t.zn, t.ad, ⟨[], by simp, fun _ h => by simp at h⟩, t.sub⟩⟩
  have hn : n < st.length := (List.getElem?_eq_some_iff.mp en).1
  have en' : st'[n]? = some xs := by
    rw [← e, List.getElem?_take_of_lt hn] at en
    exact en
  obtain ⟨a, vs, e1, e2, e3, e4⟩ := r'.sto.at_ n xs en'
  obtain ⟨b, us, f1, f2, f3, f4⟩ := r.sto.at_ n xs en
  have hb := Reps.bel xs us f4
  have e1 : G'.μ[n]? = some a := e1
  rw [em, List.getElem?_append_left (by omega)] at e1
  refine ⟨a, vs, e1, e2, e3, ?_⟩
  have e4 : Reps K H' G'.Z G'.μ xs vs := e4
  rw [em] at e4
  exact Reps.cut xs vs hb e4
theorem PostD.gc {x : R Sto D} (r : Rel K [] ⟨[], st⟩ G [] H) (h : PostD K mg G H Q E (gcR st x)) : PostD K mg G H Q E x := by
  cases x with
  | fail => exact h
  | ok d st' =>
    replace h : PostD K mg G H Q E (if (D.bel st.length d && sameS (st'.take st.length) st) = true then .ok d st else .fail) := h
    split at h
    · rename_i hc
      obtain ⟨h1, h2⟩ := Bool.and_eq_true_iff.mp hc
      intro v H' G' r' t rp
      obtain ⟨r2, t2⟩ := r.forget r' t (sameS_eq _ _ h2)
      refine h v H' _ r2 t2 ?_
      obtain ⟨l, em, _⟩ := t.mup
      have lm : G.μ.length = st.length := r.sto.len
      rw [em] at rp
      exact Rep.cut d v (by rw [lm]; exact h1) rp
    · exact h.elim
  | exc e st' =>
    replace h : PostD K mg G H Q E (if sameS (st'.take st.length) st = true then .exc e st else .fail) := h
    split at h
    · rename_i h2
      intro cls dd H' G' r' t hx
      obtain ⟨r2, t2⟩ := r.forget r' t (sameS_eq _ _ h2)
      exact h cls dd H' _ r2 t2 hx
    · exact h.elim
end
end Lb

set_option maxRecDepth 100000
set_option maxHeartbeats 1000000
namespace Lb
open PySem PySem.Spec PyProof.Rows L2
/-! ### statements: the frame of it -/
/-- since the def was entered -/
structure Ent (G0 : Gh) (H0 : Hp) (own : List Nat) (G : Gh) (H : Hp) : Prop where
  stp : Stp [] [] false G0 H0 { G with ad := G0.ad } H
  new : ∀ i ∈ own, H0 (G.ad i) = none
/-- a later moment: what is locked stays -/
structure Lt (G : Gh) (H : Hp) (G' : Gh) (H' : Hp) : Prop where
  zz : ∀ p, G.Z p → G'.Z p
  rd : ∀ p u, G.Z p → Rd H p u → Rd H' p u
  mm : ∀ (n : Nat) a, G.μ[n]? = some a → G'.μ[n]? = some a
  fz : ∀ p o u, G.Z p → H p = some (.frz o u) → H' p = some (.frz o u)
section
variable {K : PySem.W.Frag} {own own1 own' : List Nat} {s : S} {G G' G'' G0 : Gh} {σ : L2.St} {H H' H'' H0 : Hp} {mu : Bool}
theorem Lt.refl : Lt G H G H := ⟨fun _ z => z, fun _ _ _ q => q, fun _ _ q => q, fun _ _ _ _ q => q⟩
theorem Lt.trans (a : Lt G H G' H') (b : Lt G' H' G'' H'') : Lt G H G'' H'' := ⟨fun p z => b.zz p (a.zz p z), fun p u z q => b.rd p u (a.zz p z) (a.rd p u z q), fun n x e => b.mm n x (a.mm n x e), fun p o u z q => b.fz p o u (a.zz p z) (a.fz p o u z q)⟩
theorem Rel.lt (r : Rel K own s G σ H) (t : Stp own own' mu G H G' H') : Lt G H G' H' := ⟨t.zz, fun _ _ z q => r.rd t z q, t.mm, fun _ _ _ z q => r.fz t z q⟩
theorem Ent.step (en : Ent G0 H0 own G H) (t : Stp own own' mu G H G' H') : Ent G0 H0 own' G' H' := by
  have a := en.stp
  refine ⟨⟨fun p o e hm _ => ?_, fun p o e => ?_, fun p z => t.zz p (a.zz p z), fun p z => ?_, rfl, ?_, fun _ h => h⟩, fun i hi => by rw [t.ad]; exact en.new i (t.sub i hi)⟩
  · have ho : mu = true → ∀ i ∈ own, G.ad i ≠ p := fun _ i hi ee => by
      have := en.new i hi
      rw [ee, e] at this; cases this
    rcases a.keep p o e hm (by simp) with e1 | ⟨q1, q2, od, q3⟩
    · exact t.keep p o e1 (a.notmu hm e) ho
    · rcases t.keep p _ q3 (a.notmu hm e) ho with w | ⟨_, w, _⟩
      · exact .inr ⟨t.zz p q1, q2, od, w⟩
      · cases w
  · obtain ⟨o1, e1⟩ := a.live p o e
    exact t.live p o1 e1
  · rcases t.zn p z with q | q | ⟨i, h1, _, h3⟩
    · exact a.zn p q
    · exact .inr (.inl (a.fresh q))
    · exact .inr (.inl (by rw [← h3]; exact en.new i h1))
  · obtain ⟨l, e, hl⟩ := a.mup
    obtain ⟨l', e', hl'⟩ := t.mup
    have e : G.μ = G0.μ ++ l := e
    refine ⟨l ++ l', by rw [e', e, List.append_assoc], fun x hx => ?_⟩
    rcases List.mem_append.mp hx with hx | hx
    · exact hl x hx
    · exact a.fresh (hl' x hx)
theorem Ent.start (hG : Rel K [] s G σ H) : Ent G H [] G H := ⟨Stp.refl, fun i hi => by simp at hi⟩
theorem Ent.sub (en : Ent G0 H0 own G H) (h : ∀ i ∈ own', i ∈ own) : Ent G0 H0 own' G H := ⟨en.stp, fun i hi => en.new i (h i hi)⟩
end
/-- what is wanted of a statement that began at G, H -/
def PostS (c : Cfg) (G0 : Gh) (H0 : Hp) (own' : List Nat) (E : Ends) (G : Gh) (H : Hp) : R S Fl → Prop
  | .ok .next s' => ∀ σ' H' G', Rel c.K own' s' G' σ' H' → Ent G0 H0 own' G' H' → Lt G H G' H' → E.nx σ' H'
  | .ok (.ret d) s' => ∀ v H' G', Rel c.K [] ⟨[], s'.st⟩ G' [] H' → Ent G0 H0 [] G' H' → Rep c.K H' G'.Z G'.μ d v → E.rt v H'
  | .exc e s' => ∀ cls dd σ' H' G', Rel c.K [] s' G' σ' H' → Ent G0 H0 [] G' H' → ExcV c.mg H' e cls dd → c.W cls dd σ' H'
  | .fail => False
def tS (c : Cfg) (own own' : List Nat) (m : S → R S Fl) : TS := fun E σ H => ∃ s G G0 H0, Rel c.K own s G σ H ∧ Ent G0 H0 own G H ∧ PostS c G0 H0 own' E G H (m s)
section
variable {X : Cx} {c : Cfg} {Γ : List Fn} {own own1 own2 own' : List Nat} {mu : Bool} {s : S} {G G' G0 : Gh} {σ : L2.St} {H H' H0 : Hp} {E : Ends}
theorem PostS.move {r : R S Fl} (q : PostS c G0 H0 own' E G H r) (l : Lt G H G' H') : PostS c G0 H0 own' E G' H' r := by
  cases r with
  | fail => exact q
  | exc e s => exact q
  | ok f s =>
    cases f with
    | next => exact fun σ' H2 G2 r2 en l2 => q σ' H2 G2 r2 en (l.trans l2)
    | ret d => exact q
theorem PostS.ofE {α : Type} {m : R S α} {f : α → S → R S Fl} (r : Rel c.K own s G σ H) (en : Ent G0 H0 own G H) (q : PostS c G0 H0 own' E G H (m.bind f)) : Post c own G σ H (fun a s' => PostS c G0 H0 own' E G H (f a s')) m := by
  cases m with
  | fail => exact q
  | ok a s => exact q
  | exc e s => exact fun cls dd H2 G2 r2 t2 hx => q cls dd σ H2 G2 r2 (en.step t2) hx
theorem PostS.sub {r : R S Fl} (h : ∀ i ∈ own', i ∈ own1) (q : PostS c G0 H0 own' E G H r) : PostS c G0 H0 own1 E G H r := by
  cases r with
  | fail => exact q
  | exc e s => exact q
  | ok f s =>
    cases f with
    | ret d => exact q
    | next =>
      intro σ' H2 G2 r2 en l2
      obtain ⟨G3, r3, t3⟩ := r2.less h
      exact q σ' H2 G3 r3 (en.step t3) (l2.trans (r2.lt t3))
theorem tS.post (h : ∀ i ∈ own', i ∈ own1) {m : S → R S Fl} (q : tS c own own' m E σ H) : tS c own own1 m E σ H := by
  obtain ⟨s, G, G0, H0, r, en, q⟩ := q
  exact ⟨s, G, G0, H0, r, en, q.sub h⟩
theorem tS.pre (h : ∀ i ∈ own1, i ∈ own) {m : S → R S Fl} (q : tS c own own' m E σ H) : tS c own1 own' m E σ H := by
  obtain ⟨s, G, G0, H0, r, en, q⟩ := q
  obtain ⟨G1, r1, t1⟩ := r.less h
  exact ⟨s, G1, G0, H0, r1, en.step t1, q.move (r.lt t1)⟩
/-- fewer own slots behind, fewer ahead -/
theorem ss_post {b : List Stmt} {m : S → R S Fl} (h : PSs X b (tS c own own1 m)) (hs : ∀ i ∈ own', i ∈ own1) : PSs X b (tS c own own' m) := imSs h fun _ _ _ q => q.post hs
theorem ss_pre {b : List Stmt} {m : S → R S Fl} (h : PSs X b (tS c own1 own' m)) (hs : ∀ i ∈ own1, i ∈ own) : PSs X b (tS c own own' m) := imSs h fun _ _ _ q => q.pre hs
theorem sp_pre {b : Stmt} {m : S → R S Fl} (h : PS X b (tS c own1 own' m)) (hs : ∀ i ∈ own1, i ∈ own) : PS X b (tS c own own' m) := imS h fun _ _ _ q => q.pre hs
theorem sp_post {b : Stmt} {m : S → R S Fl} (h : PS X b (tS c own own1 m)) (hs : ∀ i ∈ own', i ∈ own1) : PS X b (tS c own own' m) := imS h fun _ _ _ q => q.post hs
theorem ss_nil : PSs X [] (tS c own own (exs Γ [])) := imSs pss_nil fun E σ H ⟨s, G, G0, H0, r, en, q⟩ => q σ H G r en Lt.refl
theorem ss_cons {st : Stmt} {rest : List Stmt} {t : St} {ts : List St} (h1 : PS X st (tS c own own1 (ex Γ t))) (h2 : PSs X rest (tS c own1 own2 (exs Γ ts))) : PSs X (st :: rest) (tS c own own2 (exs Γ (t :: ts))) :=
  imSs (pss_cons h1 h2) fun E σ H ⟨s, G, G0, H0, r, en, q⟩ => by
    rw [exs_cons] at q
    refine ⟨s, G, G0, H0, r, en, ?_⟩
    cases e : ex Γ t s with
    | fail => rw [e] at q; exact q
    | exc => rw [e] at q; exact q
    | ok f s1 =>
      rw [e] at q
      cases f with
      | ret d => exact q
      | next => exact fun σ' H' G' r' en' l => ⟨s1, G', G0, H0, r', en', PostS.move (r := exs Γ ts s1) q l⟩
theorem sp_pass {pos : Pos} : PS X (.Pass pos) (tS c own own (ex Γ .pass)) := imS ps_pass fun E σ H ⟨s, G, G0, H0, r, en, q⟩ => q σ H G r en Lt.refl
theorem sp_doc {x j pos pos'} : PS X (.Expr (.Constant (.str x) j pos) pos') (tS c own own (ex Γ .pass)) := imS ps_doc fun E σ H ⟨s, G, G0, H0, r, en, q⟩ => q σ H G r en Lt.refl
theorem sp_expr {e : Expr} {t : T} {pos : Pos} (he : PE X e (tE c own own1 mu .sh (ev Γ t))) (hs : swapsWith e none pos.line X.env = pure false) : PS X (.Expr e pos) (tS c own own1 (ex Γ (.expr t))) := imS (ps_expr he hs) fun E σ H ⟨s, G, G0, H0, r, en, q⟩ => by
  replace q : PostS c G0 H0 own1 E G H ((ev Γ t s).bind fun _ s => .ok .next s) := q
  exact ⟨s, G, r, (q.ofE r en).mono fun d s1 q v H1 G1 r1 t1 _ => q σ H1 G1 r1 (en.step t1) (r.lt t1)⟩
theorem sp_ret {e : Expr} {t : T} {pos : Pos} (he : PE X e (tE c own own1 mu .sh (ev Γ t))) : PS X (.Return (some e) pos) (tS c own own' (ex Γ (.ret t))) := imS (ps_ret he) fun E σ H ⟨s, G, G0, H0, r, en, q⟩ => by
  replace q : PostS c G0 H0 own' E G H ((ev Γ t s).bind fun d s => .ok (.ret d) s) := q
  refine ⟨s, G, r, (q.ofE r en).mono fun d s1 q v H1 G1 r1 t1 rp => ?_⟩
  exact q v H1 G1 r1.bare ((en.step t1).sub fun i hi => by simp at hi) rp
theorem sp_retN {pos : Pos} : PS X (.Return none pos) (tS c own own' (ex Γ .retN)) := imS ps_retN fun E σ H ⟨s, G, G0, H0, r, en, q⟩ => by
  exact q .non H G r.bare (en.sub fun i hi => by simp at hi) rfl
theorem sp_if {e : Expr} {t : T} {a b : List Stmt} {ta tb : List St} {pos : Pos} (he : PT X e (tT c own own1 mu (evT Γ t))) (ha : PSs X a (tS c own1 own2 (exs Γ ta))) (hb : PSs X b (tS c own1 own2 (exs Γ tb))) : PS X (.If e a b pos) (tS c own own2 (ex Γ (.ifs t ta tb))) :=
  imS (ps_if he ha hb) fun E σ H ⟨s, G, G0, H0, r, en, q⟩ => by
  replace q : PostS c G0 H0 own2 E G H ((evT Γ t s).bind fun b s => if b then exs Γ ta s else exs Γ tb s) := by
    have e : ex Γ (.ifs t ta tb) s = (evT Γ t s).bind fun b s => if b then exs Γ ta s else exs Γ tb s := by
      show (ev Γ t s).bind _ = _
      unfold evT
      cases ev Γ t s <;> rfl
    rw [← e]; exact q
  refine ⟨s, G, r, (q.ofE r en).mono fun b s1 q H1 G1 r1 t1 => ?_⟩
  cases b with
  | true => exact ⟨s1, G1, G0, H0, r1, en.step t1, PostS.move (r := exs Γ ta s1) q (r.lt t1)⟩
  | false => exact ⟨s1, G1, G0, H0, r1, en.step t1, PostS.move (r := exs Γ tb s1) q (r.lt t1)⟩
/-! ### names are set -/
theorem Ent.same (en : Ent G0 H0 own G H) (h : ∀ i ∈ own', i ∈ own) : Ent G0 H0 own' G H := en.sub h
theorem asg_pre {i : Nat} {t : T} (h : tS c own (drop1 own1 i) (ex Γ (.asg i t)) E σ H) : tAsg (tE c own own1 mu .sh (ev Γ t)) (gName i) E σ H := by
  obtain ⟨s, G, G0, H0, r, en, q⟩ := h
  replace q : PostS c G0 H0 (drop1 own1 i) E G H ((ev Γ t s).bind fun d s => .ok .next (setV i d s)) := q
  refine ⟨s, G, r, (q.ofE r en).mono fun d s1 q v H1 G1 r1 t1 rp => ?_⟩
  exact q _ H1 G1 (r1.setSh rp) ((en.step t1).sub fun j hj => (mem_drop1.mp hj).1) (r.lt t1)
/-- a new container becomes the slot's own -/
theorem Rel.setFr {i : Nat} {a : Addr} {d : D} {v : V} {K : PySem.W.Frag} (r : Rel K own s G σ H) (ho : Own K H G.Z G.μ a d v) (nz : ¬ G.Z a) (nm : a ∉ G.μ) (ne : ∀ j ∈ own, G.ad j ≠ a) :
    Rel K (i :: drop1 own i) (setV i d s) { G with ad := fun j => if j = i then a else G.ad j } (σ.set i (some v)) H := by
  have adi : ∀ j, j ∈ i :: drop1 own i → (j = i ∧ (if j = i then a else G.ad j) = a) ∨ (j ≠ i ∧ j ∈ own ∧ (if j = i then a else G.ad j) = G.ad j) := fun j hj => by
    rcases List.mem_cons.mp hj with e | e
    · exact .inl ⟨e, by rw [if_pos e]⟩
    · obtain ⟨h1, h2⟩ := mem_drop1.mp e
      exact .inr ⟨h2, h1, by rw [if_neg h2]⟩
  refine ⟨by simp [setV, r.len], fun j e hj => ?_, r.zl, fun j hj => ?_, fun j hj k hk ee => ?_, r.sto, r.mz, r.mnd⟩
  · simp only [setV] at hj
    by_cases hji : j = i
    · subst hji
      have hl : j < s.env.length := by
        have := (List.getElem?_eq_some_iff.mp hj).1
        rw [List.length_set] at this; exact this
      rw [List.getElem?_set_self hl] at hj
      cases hj
      refine ⟨v, ?_, fun _ => ?_, fun z => absurd List.mem_cons_self z⟩
      · rw [List.getElem?_set_self (by rw [← r.len]; exact hl)]
      · show Own K H G.Z G.μ (if j = j then a else G.ad j) _ _
        rw [if_pos rfl]; exact ho
    · rw [List.getElem?_set_ne (fun z => hji z.symm)] at hj
      obtain ⟨u, e1, e2, e3⟩ := r.slot j e hj
      refine ⟨u, by rw [List.getElem?_set_ne (fun z => hji z.symm)]; exact e1, fun z => ?_, fun z => e3 fun q => z (List.mem_cons_of_mem _ (mem_drop1.mpr ⟨q, hji⟩))⟩
      rcases adi j z with ⟨e, _⟩ | ⟨_, h2, h3⟩
      · exact absurd e hji
      · show Own K H G.Z G.μ (if j = i then a else G.ad j) _ _
        rw [h3]; exact e2 h2
  · show ¬ G.Z (if j = i then a else G.ad j) ∧ (if j = i then a else G.ad j) ∉ G.μ ∧ ∃ o, H (if j = i then a else G.ad j) = some o
    rcases adi j hj with ⟨_, h3⟩ | ⟨_, h2, h3⟩
    · rw [h3]; exact ⟨nz, nm, ho.live.2⟩
    · rw [h3]; exact r.oz j h2
  · have ee : (if j = i then a else G.ad j) = (if k = i then a else G.ad k) := ee
    rcases adi j hj with ⟨h1, h3⟩ | ⟨h1, h2, h3⟩ <;> rcases adi k hk with ⟨h1', h3'⟩ | ⟨h1', h2', h3'⟩
    · rw [h1, h1']
    · rw [h3, h3'] at ee; exact absurd ee.symm (ne k h2')
    · rw [h3, h3'] at ee; exact absurd ee (ne j h2)
    · rw [h3, h3'] at ee; exact r.inj j h2 k h2' ee
theorem asg_preF {i : Nat} {t : T} (h : tS c own (i :: drop1 own1 i) (ex Γ (.asg i t)) E σ H) : tAsg (tE c own own1 mu .fr (ev Γ t)) (gName i) E σ H := by
  obtain ⟨s, G, G0, H0, r, en, q⟩ := h
  replace q : PostS c G0 H0 (i :: drop1 own1 i) E G H ((ev Γ t s).bind fun d s => .ok .next (setV i d s)) := q
  refine ⟨s, G, r, (q.ofE r en).mono fun d s1 q v H1 G1 r1 t1 ⟨a, ho, nz, nm, new⟩ => ?_⟩
  have ent := en.step t1
  refine q _ H1 _ (r1.setFr ho nz nm (r.newNe t1 new)) ⟨ent.stp, fun j hj => ?_⟩ ⟨(r.lt t1).zz, (r.lt t1).rd, (r.lt t1).mm, (r.lt t1).fz⟩
  show H0 (if j = i then a else G1.ad j) = none
  by_cases hji : j = i
  · rw [if_pos hji]; exact en.stp.fresh new
  · rw [if_neg hji]
    rcases List.mem_cons.mp hj with e | e
    · exact absurd e hji
    · exact ent.new j (mem_drop1.mp e).1
end
end Lb

set_option maxRecDepth 100000
set_option maxHeartbeats 1000000
namespace Lb
open PySem PySem.Spec PyProof.Rows L2
section
variable {X : Cx} {c : Cfg} {Γ : List Fn} {own own1 own2 own3 ownL own' : List Nat} {mu mu1 mu2 : Bool} {e : Expr} {es : List Expr} {t : T} {ts as : List T} {pos : Pos}
theorem sp_asg {i : Nat} {x : Str} {pos' : Pos} (hN : X.N.Nodup) (hi : X.N[i]? = some x) (hx : Loc X.env.scope x) (he : PE X e (tE c own own1 mu .sh (ev Γ t))) (hs : swapsWith e (some (.Name x pos')) pos.line X.env = pure false) (hf : X.fn x = true ∨ X.env.scope.names.lookup x = some .local) :
    PS X (.Assign [.Name x pos'] e pos) (tS c own (drop1 own1 i) (ex Γ (.asg i t))) := imS (ps_set hN hi hx he hs hf) fun _ _ _ h => asg_pre h
theorem sp_asgF {i : Nat} {x : Str} {pos' : Pos} (hN : X.N.Nodup) (hi : X.N[i]? = some x) (hx : Loc X.env.scope x) (he : PE X e (tE c own own1 mu .fr (ev Γ t))) (hs : swapsWith e (some (.Name x pos')) pos.line X.env = pure false) (hf : X.fn x = true ∨ X.env.scope.names.lookup x = some .local) :
    PS X (.Assign [.Name x pos'] e pos) (tS c own (i :: drop1 own1 i) (ex Γ (.asg i t))) := imS (ps_set hN hi hx he hs hf) fun _ _ _ h => asg_preF h
/-- a, b = e -/
theorem sp_unp {g : Expr} {tg : Tg} (he : PE X e (tE c own own1 mu .sh (ev Γ t))) (hg : PG X g (tG c own1 tg)) (hs : swapsWithSole [g] e pos.line X.env = pure false) (hw : swappedStores [g] e X.env = pure none) (h1 : (assignEach [g] X.env).map (·.2) = [assign g X.env]) :
    PS X (.Assign [g] e pos) (tS c own (offT own1 (slotsT tg)) (ex Γ (.unp tg t))) := imS (ps_asg he hg hs hw h1) fun E σ H ⟨s, G, G0, H0, r, en, q⟩ => by
  replace q : PostS c G0 H0 (offT own1 (slotsT tg)) E G H ((ev Γ t s).bind fun d s => (opt s (setT tg d s)).bind fun s' _ => .ok .next s') := q
  refine ⟨s, G, r, (q.ofE r en).mono fun d s1 q v H1 G1 r1 t1 rp => ?_⟩
  cases e1 : setT tg d s1 with
  | none => rw [e1] at q; exact q.elim
  | some s2 =>
    rw [e1] at q
    exact ⟨d, s1, G1, s2, r1, .inl rp, e1, fun σ' r2 _ => q σ' H1 G1 r2 ((en.step t1).sub fun i hi => (mem_offT.mp hi).1) (r.lt t1)⟩
/-- a, b = e, f with local names -/
theorem sp_par {i j : Nat} {x y : Str} {a b : Expr} {ta tb : T} {px py pt : Pos} {kt k2 pt2} (hc : X.calm = true) (hN : X.N.Nodup) (hi : X.N[i]? = some x) (hj : X.N[j]? = some y) (hij : i ≠ j)
    (hx : X.env.scope.names.lookup x = some .local) (hy : X.env.scope.names.lookup y = some .local) (ha : PA X [a, b] (tAs c own own1 mu false (evs Γ [ta, tb])))
    (hw : swappedStores [.Tuple [.Name x px, .Name y py] kt pt] (.Tuple [a, b] k2 pt2) X.env = pure (some [x, y]))
    (hs : swapsWithSole [.Tuple [.Name x px, .Name y py] kt pt] (.Tuple [a, b] k2 pt2) pos.line X.env = pure false) :
    PS X (.Assign [.Tuple [.Name x px, .Name y py] kt pt] (.Tuple [a, b] k2 pt2) pos) (tS c own (drop1 (drop1 own1 i) j) (ex Γ (.par [i, j] [ta, tb]))) := imS (ps_par hc hN hi hj hij hx hy ha hw hs) fun E σ H ⟨s, G, G0, H0, r, en, q⟩ => by
  replace q : PostS c G0 H0 (drop1 (drop1 own1 i) j) E G H ((evs Γ [ta, tb] s).bind fun ds s => (opt s (setVs [i, j] ds s)).bind fun s' _ => .ok .next s') := q
  refine ⟨s, G, r, (q.ofE r en).evs.mono fun ds s1 ⟨hl, q⟩ vs H1 G1 r1 t1 rp => ?_⟩
  replace rp : Reps c.K H1 G1.Z G1.μ ds vs := rp
  match ds, hl with
  | [d1, d2], _ =>
    obtain ⟨v1, _, rfl, h1, v2, _, rfl, h2, rfl⟩ := rp
    refine ⟨v1, v2, rfl, ?_⟩
    exact q _ H1 G1 ((r1.setSh h1).setSh h2) ((en.step t1).sub fun k hk => (mem_drop1.mp (mem_drop1.mp hk).1).1) (r.lt t1)
theorem sp_par3 {i j l : Nat} {x y z : Str} {a b d : Expr} {ta tb td : T} {px py pz pt : Pos} {kt k2 pt2} (hc : X.calm = true) (hN : X.N.Nodup) (hi : X.N[i]? = some x) (hj : X.N[j]? = some y) (hl : X.N[l]? = some z) (hij : i ≠ j) (hil : i ≠ l) (hjl : j ≠ l)
    (hx : X.env.scope.names.lookup x = some .local) (hy : X.env.scope.names.lookup y = some .local) (hz : X.env.scope.names.lookup z = some .local) (ha : PA X [a, b, d] (tAs c own own1 mu false (evs Γ [ta, tb, td])))
    (hw : swappedStores [.Tuple [.Name x px, .Name y py, .Name z pz] kt pt] (.Tuple [a, b, d] k2 pt2) X.env = pure (some [x, y, z]))
    (hs : swapsWithSole [.Tuple [.Name x px, .Name y py, .Name z pz] kt pt] (.Tuple [a, b, d] k2 pt2) pos.line X.env = pure false) :
    PS X (.Assign [.Tuple [.Name x px, .Name y py, .Name z pz] kt pt] (.Tuple [a, b, d] k2 pt2) pos) (tS c own (drop1 (drop1 (drop1 own1 i) j) l) (ex Γ (.par [i, j, l] [ta, tb, td]))) := imS (ps_par3 hc hN hi hj hl hij hil hjl hx hy hz ha hw hs) fun E σ H ⟨s, G, G0, H0, r, en, q⟩ => by
  replace q : PostS c G0 H0 (drop1 (drop1 (drop1 own1 i) j) l) E G H ((evs Γ [ta, tb, td] s).bind fun ds s => (opt s (setVs [i, j, l] ds s)).bind fun s' _ => .ok .next s') := q
  refine ⟨s, G, r, (q.ofE r en).evs.mono fun ds s1 ⟨hl, q⟩ vs H1 G1 r1 t1 rp => ?_⟩
  replace rp : Reps c.K H1 G1.Z G1.μ ds vs := rp
  match ds, hl with
  | [d1, d2, d3], _ =>
    obtain ⟨v1, _, rfl, h1, v2, _, rfl, h2, v3, _, rfl, h3, rfl⟩ := rp
    refine ⟨v1, v2, v3, rfl, ?_⟩
    exact q _ H1 G1 (((r1.setSh h1).setSh h2).setSh h3) ((en.step t1).sub fun k hk => (mem_drop1.mp (mem_drop1.mp (mem_drop1.mp hk).1).1).1) (r.lt t1)
/-- xs.append(e) -/
theorem sp_app {i : Nat} {x : Str} {pn apos cpos : Pos} (hN : X.N[i]? = some x) (hv : Vis X.env.scope x) (hd : (x == ("__debug__" : Str)) = false) (hcd : (x == ("__classdict__" : Str)) = false) (hi : i ∈ own) (hi1 : i ∈ own1) (ha : PA X [e] (tAs c own own1 mu false (evs Γ [t])))
    (hbase : attributeBase (.Name x pn) "append" X.env (eval (.Name x pn) X.env) = eval (.Name x pn) X.env)
    (hfew : ((backTo cpos (starEach [e] X.env)).all (fun x => !x.1) && (backToKw cpos (keywordEach [] X.env)).all (fun x => x.1.isSome) && decide ([e].length + ([] : List Keyword).length + (if ([] : List Keyword).isEmpty then 0 else 1) < 30)) = true)
    (hline : (apos.endLine == cpos.line) = true) (hs : starEach [e] X.env = (false, eval e X.env) :: starEach [] X.env) :
    PS X (.Expr (.Call (.Attribute (.Name x pn) "append" apos) [e] [] cpos) pos) (tS c own own1 (ex Γ (.app i t))) :=
  imS (ps_expr (pe_bm PySem.F.plainAttrs_list PySem.F.slot_list_append PySem.F.type_list_append mt_append (pe_var hN hv hd hcd) ha hbase hfew hline hs) rfl) fun E σ H ⟨s, G, G0, H0, r, en, q⟩ => by
  replace q : PostS c G0 H0 own1 E G H ((opt s (lstAt i s)).bind fun _ s => (ev Γ t s).bind fun d s => match lstAt i s with
      | some xs => if xs.length < sizeLine then .ok .next (setV i (.lst (xs ++ [d])) s) else .fail
      | none => .fail) := q
  cases e0 : lstAt i s with
  | none => rw [e0] at q; exact q.elim
  | some ds0 =>
    rw [e0, opt_some, R.bind_ok] at q
    obtain ⟨v0, f1, f2, _⟩ := r.slot i _ (lstAt_some e0)
    obtain ⟨f3, vs0, f4, _⟩ := f2 hi
    refine ⟨v0, f1, ?_, s, G, r, ?_⟩
    · rw [f3]; exact .inl ⟨rfl, vs0, .inl (.inl f4)⟩
    · rw [evs_cons]
      simp only [evs_nil, Post.bind, Post.ok]
      refine (q.ofE r en).mono fun d s1 q vs H1 G1 r1 t1 rp => ?_
      replace rp : Reps c.K H1 G1.Z G1.μ [d] vs := rp
      obtain ⟨y, _, rfl, h1, rfl⟩ := rp
      cases e1 : lstAt i s1 with
      | none => rw [e1] at q; exact q.elim
      | some xs =>
        rw [e1] at q
        replace q : PostS c G0 H0 own1 E G H (if xs.length < sizeLine then R.ok .next (setV i (.lst (xs ++ [d])) s1) else .fail) := q
        by_cases hz : xs.length < sizeLine
        · rw [if_pos hz] at q
          obtain ⟨v1, g1, g2, _⟩ := r1.slot i _ (lstAt_some e1)
          obtain ⟨g3, vs1, g4, g5, g6⟩ := g2 hi1
          rw [f1] at g1
          cases g1
          rw [g3]
          have hlen := g6.length
          obtain ⟨rN, tN⟩ := r1.setOwn hi1 (lstAt_some e1) rfl (vs' := vs1 ++ [y]) (ds' := xs ++ [d]) (by simp; omega) (g6.append (Reps.one h1))
          refine ⟨G1.ad i, vs1, y, rfl, rfl, g4, by omega, ?_⟩
          exact q σ _ G1 rN ((en.step t1).step tN) ((r.lt t1).trans (r1.lt tN))
        · rw [if_neg hz] at q; exact q.elim
/-- x op= e, ints -/
theorem sp_aug {i : Nat} {x : Str} {op : Operator} {p : P} {f : Int → Int → Int} {pos' : Pos} (hN : X.N.Nodup) (hi : X.N[i]? = some x) (hx : Loc X.env.scope x) (hio : i ∉ own) (he : PE X e (tE c own own1 mu .sh (ev Γ t))) (ho : PIp X op (ipI f)) (hp : ∀ a b : Int, augR p (.int a) (.int b) = some (.int (f a b))) (hp0 : ∀ a b z, augR p a b = some z → ∃ i j, a = .int i ∧ b = .int j) (hf : X.fn x = true ∨ X.env.scope.names.lookup x = some .local) :
    PS X (.AugAssign (.Name x pos') op e pos) (tS c own (drop1 own1 i) (ex Γ (.aug i p t))) := imS (ps_aug hN hi hx he ho hf) fun E σ H ⟨s, G, G0, H0, r, en, q⟩ => by
  replace q : PostS c G0 H0 (drop1 own1 i) E G H ((getV i s).bind fun x s => (ev Γ t s).bind fun y s => (opt s (augR p x y)).bind fun z s => .ok .next (setV i z s)) := q
  obtain ⟨d, e1, q⟩ := (q.ofE r en).getV
  obtain ⟨v, e2, e3⟩ := relSh r hio e1
  refine ⟨v, e2, s, G, r, (q.ofE r en).mono fun y s1 q w H1 G1 r1 t1 rp => ?_⟩
  cases e4 : augR p d y with
  | none => rw [e4] at q; exact q.elim
  | some z =>
    rw [e4] at q
    obtain ⟨a, b, rfl, rfl⟩ := hp0 _ _ _ e4
    rw [hp] at e4
    cases e4
    refine ⟨a, b, e3, rp, ?_⟩
    exact q _ H1 G1 (r1.setSh (v := .int (f a b)) rfl) ((en.step t1).sub fun j hj => (mem_drop1.mp hj).1) (r.lt t1)
theorem aug_add (a b : Int) : augR .add (.int a) (.int b) = some (.int (a + b)) := rfl
theorem aug_sub (a b : Int) : augR .sub (.int a) (.int b) = some (.int (a - b)) := rfl
theorem aug_add0 (a b z : D) (h : augR .add a b = some z) : ∃ i j, a = .int i ∧ b = .int j := by
  cases a <;> cases b <;> first | exact ⟨_, _, rfl, rfl⟩ | cases h
theorem aug_sub0 (a b z : D) (h : augR .sub a b = some z) : ∃ i j, a = .int i ∧ b = .int j := by
  cases a <;> cases b <;> first | exact ⟨_, _, rfl, rfl⟩ | cases h
/-- o[i] = e, o in the store -/
theorem Rel.setM {K : PySem.W.Frag} {s : S} {G : Gh} {σ : L2.St} {H : Hp} {n : Nat} {a : Addr} {ds' : List D} {vs' : List V} (r : Rel K own s G σ H) (ha : G.μ[n]? = some a) (hz : vs'.length ≤ sizeLine) (h : Reps K H G.Z G.μ ds' vs') :
    Rel K own { s with st := s.st.set n ds' } G σ (upd H a (.lst vs')) ∧ Stp own own mu G H G (upd H a (.lst vs')) := by
  have hm := List.mem_of_getElem? ha
  have nz := r.mz a hm
  have hr : ∀ p u, G.Z p → Rd H p u → Rd (upd H a (.lst vs')) p u := fun p u z w => rd_ne (fun ee => nz (ee ▸ z)) w
  have mm : ∀ (n : Nat) a, G.μ[n]? = some a → G.μ[n]? = some a := fun _ _ q => q
  have live : ∀ p u, H p = some u → ∃ o', (upd H a (.lst vs')) p = some o' := fun p u q => by
    by_cases hp : p = a
    · exact ⟨_, by rw [hp]; exact upd_same⟩
    · exact ⟨u, by rw [upd_ne hp]; exact q⟩
  refine ⟨⟨r.len, fun j d hj => ?_, fun p z => ?_, fun j hj => ⟨(r.oz j hj).1, (r.oz j hj).2.1, ?_⟩, r.inj, ⟨by simp [r.sto.len], fun k xs q => ?_⟩, r.mz, r.mnd⟩, ⟨fun p o q hm' _ => by rw [upd_ne (show p ≠ a from fun ee => hm' (by rw [ee]; exact hm))]; exact .inl q, live, fun _ z => z, fun _ z => .inl z, rfl, ⟨[], by simp, fun _ q => by simp at q⟩, fun _ q => q⟩⟩
  · obtain ⟨v, e1, e2, e3⟩ := r.slot j d hj
    exact ⟨v, e1, fun z => Own.mono (fun _ q => q) hr mm (fun u q => by rw [upd_ne fun ee => (r.oz j z).2.1 (by rw [ee]; exact hm)]; exact q) (e2 z), fun z => Rep.mono (fun _ q => q) hr mm _ _ (e3 z)⟩
  · obtain ⟨u, q⟩ := r.zl p z
    exact live p u q
  · obtain ⟨_, _, u, q⟩ := r.oz j hj
    exact live _ u q
  · have q : (s.st.set n ds')[k]? = some xs := q
    by_cases hk : n = k
    · subst hk
      have hl : n < s.st.length := by
        have := (List.getElem?_eq_some_iff.mp q).1
        rw [List.length_set] at this; exact this
      rw [List.getElem?_set_self hl] at q
      cases q
      exact ⟨a, vs', ha, upd_same, hz, Reps.mono (fun _ z => z) hr mm _ _ h⟩
    · rw [List.getElem?_set_ne hk] at q
      obtain ⟨b, ws, e1, e2, e3, e4⟩ := r.sto.at_ k xs q
      refine ⟨b, ws, e1, ?_, e3, Reps.mono (fun _ z => z) hr mm _ _ e4⟩
      rw [upd_ne fun ee => ?_]; exact e2
      rw [ee] at e1
      exact hk ((List.getElem?_inj (List.getElem?_eq_some_iff.mp ha).1 r.mnd).mp (ha.trans e1.symm))
theorem sp_setR {eo ei : Expr} {to ti : T} {tpos : Pos} (he : PE X e (tE c own own1 mu .sh (ev Γ t))) (ho : PE X eo (tE c own1 own2 mu1 .sh (ev Γ to))) (hi : PE X ei (tE c own2 own3 mu2 .sh (ev Γ ti)))
    (hasg : ∀ v, assign (.Subscript eo ei tpos) X.env v = (do
      let ov ← holding [v] (eval eo X.env)
      let iv ← holding [v, ov] (eval ei X.env)
      standAt tpos
      holding [v, ov, iv] (setItem ov iv v)
      release [v, ov, iv] [])) (hs : swapsWithSole [.Subscript eo ei tpos] e pos.line X.env = pure false) (hw : swappedStores [.Subscript eo ei tpos] e X.env = pure none) (h1 : (assignEach [.Subscript eo ei tpos] X.env).map (·.2) = [assign (.Subscript eo ei tpos) X.env]) :
    PS X (.Assign [.Subscript eo ei tpos] e pos) (tS c own own3 (ex Γ (.setR to ti t))) := imS (ps_asg he (pg_sub ho hi set_list hasg) hs hw h1) fun E σ H ⟨s, G, G0, H0, r, en, q⟩ => by
  replace q : PostS c G0 H0 own3 E G H ((ev Γ t s).bind fun d s => (ev Γ to s).bind fun r s => (ev Γ ti s).bind fun k s => match r, k with
      | .ref n, .int i => (match s.st[n]? with
        | some xs => (match setL xs i d with
          | some ys => .ok .next { s with st := s.st.set n ys }
          | none => .fail)
        | none => .fail)
      | _, _ => .fail) := q
  refine ⟨s, G, r, (q.ofE r en).mono fun d s1 q v H1 G1 r1 t1 rp => ?_⟩
  have en1 := en.step t1
  have q1 := PostS.move q (r.lt t1)
  refine ⟨s1, G1, r1, (q1.ofE r1 en1).mono fun o s2 q vo H2 G2 r2 t2 rpo => ?_⟩
  have en2 := en1.step t2
  have q2 := PostS.move q (r1.lt t2)
  refine ⟨s2, G2, r2, (q2.ofE r2 en2).mono fun k s3 q vk H3 G3 r3 t3 rpk => ?_⟩
  have en3 := en2.step t3
  have rp3 : Rep c.K H3 G3.Z G3.μ d v := r2.rep t3 (r1.rep t2 rp)
  have rpo3 : Rep c.K H3 G3.Z G3.μ o vo := r2.rep t3 rpo
  clear q1 q2
  cases o with
  | ref n =>
    cases k with
    | int i =>
      cases e1 : s3.st[n]? with
      | none => simp only [e1] at q; exact q.elim
      | some xs =>
        simp only [e1] at q
        cases e2 : setL xs i d with
        | none => simp only [e2] at q; exact q.elim
        | some ys =>
          simp only [e2] at q
          unfold setL at e2
          cases e3 : L2.ixN xs.length i with
          | none => rw [e3] at e2; cases e2
          | some j =>
            rw [e3] at e2
            cases e2
            obtain ⟨a, ws, g1, g2, g3, g4⟩ := r3.sto.at_ n xs e1
            obtain ⟨a', h1, h2⟩ := rpo3
            rw [g1] at h1
            cases h1
            subst h2
            have hlen := g4.length
            obtain ⟨r4, t4⟩ := r3.setM (mu := false) g1 (vs' := ws.set j v) (ds' := xs.set j d) (by simpa using g3) (g4.set j rp3)
            refine ⟨a, ws, i, j, rfl, rpk, g2, by rw [hlen]; exact e3, ?_⟩
            exact q σ _ G3 r4 (en3.step t4) ((r2.lt t3).trans (r3.lt t4))
    | _ => exact q.elim
  | _ => exact q.elim
/-! ### errors of one's own -/
theorem pmk_own0 {C : Addr} {bmB : List Value} {B newId initId : String} {x : Str} {p : Pos} (F : ExcBaseFacts B newId initId bmB) (q : PySem.W.excIn X.K C bmB newId = true) (gC : X.mg x = some (.ref C))
    (kC : PySem.W.keepIn X.K (.ref C) = true) (r : Raises X (.ref C)) (hg : Gl X x) (hdb : (x == ("__debug__" : Str)) = false) :
    PMk X (.Call (.Name x p) [] [] pos) (fun _ H Q => Q (.ref C) none H) := by
  intro pins s σ H Q I h
  refine wpAny_Call_Name_kw (ld_glob I hg gC ?_ hdb)
  refine PySem.W.callWith_K0 I.kIn kC ?_
  show wpAny _ _ (call (.ref C) []) _ _ _
  obtain ⟨bm, N, nm, qn, bs, hdct, sn, sub, ab, col, dd, k0, k1, k2, k3, k5, mN, hC, hN, hni, T⟩ := exc_obj I.kIn q
  refine wpAny_call_exc_subT F T hC hN hni (fun h' e hm => ?_) (Nat.zero_le _)
  exact mk_of I hm r h (I.hok.gone hm.new)
theorem sp_raise0 {C : Addr} {x : Str} (hc : X.calm = true) (hmg : c.mg = X.mg) (tk : Takes X c.W) (gC : X.mg x = some (.ref C)) (he : PMk X e (fun _ H Q => Q (.ref C) none H)) : PS X (.Raise (some e) none pos) (tS c own own' (ex Γ (.raise x []))) := imS (ps_raise hc tk he) fun E σ H ⟨s, G, G0, H0, r, en, q⟩ => by
  obtain ⟨G1, r1, t1⟩ := r.less (own' := []) (fun i hi => by simp at hi)
  exact q (.ref C) none σ H G1 r1 (en.step t1) ⟨C, by rw [hmg]; exact gC, rfl, rfl, rfl⟩
end
end Lb

set_option maxRecDepth 100000
set_option maxHeartbeats 1000000
namespace Lb
open PySem PySem.Spec PyProof.Rows L2
theorem keepTo_length : ∀ (e0 e : List (Option D)), (keepTo e0 e).length = e.length
  | [], e => by unfold keepTo; rfl
  | some _ :: as, [] => rfl
  | none :: as, [] => rfl
  | some _ :: as, b :: bs => by show (b :: keepTo as bs).length = _; rw [List.length_cons, List.length_cons, keepTo_length as bs]
  | none :: as, b :: bs => by show (none :: keepTo as bs).length = _; rw [List.length_cons, List.length_cons, keepTo_length as bs]
theorem keepTo_some : ∀ (e0 e : List (Option D)) (j : Nat) (d : D), (keepTo e0 e)[j]? = some (some d) → e[j]? = some (some d)
  | [], e, j, d, h => by unfold keepTo at h; exact h
  | some _ :: as, [], _, _, h => h
  | none :: as, [], _, _, h => h
  | some _ :: as, b :: bs, 0, d, h => h
  | some _ :: as, b :: bs, j + 1, d, h => keepTo_some as bs j d h
  | none :: as, b :: bs, 0, d, h => by cases h
  | none :: as, b :: bs, j + 1, d, h => keepTo_some as bs j d h
section
variable {X : Cx} {c : Cfg} {Γ : List Fn} {own own1 own2 ownL ownB own' : List Nat} {mu : Bool} {e : Expr} {t : T} {as : List T} {pos : Pos}
theorem Rel.kept {K : PySem.W.Frag} {s : S} {G : Gh} {σ : L2.St} {H : Hp} {e0 : List (Option D)} (r : Rel K own s G σ H) : Rel K own { s with env := keepTo e0 s.env } G σ H :=
  r.slots (by rw [keepTo_length, r.len]) fun j d e => ⟨keepTo_some _ _ _ _ e, rfl⟩
def forBody (Γ : List Fn) (tg : Tg) (body : List St) : D → S → R S Fl := fun x s1 => match setT tg x s1 with
  | none => .fail
  | some s2 => exs Γ body s2
theorem sp_for {tgE iter : Expr} {body : List Stmt} {k : IK} {tg : Tg} {ts : List St} (hp : PassesOwn (model X.prog X.w) X.A X.env X.xe) (hc : X.calm = true) (hi : PI X tgE iter (tI c own own1 [] k (evI Γ k as))) (hsub : ∀ i ∈ ownL, i ∈ own1) (hdis : ∀ i ∈ slotsT tg, i ∉ ownL) (hwk : wkK k = true → tgB tg = true)
    (hg : PG X tgE (tG c ownL tg)) (hb : PSs X body (tS c ownL ownL (exs Γ ts))) (hs : ∀ x, foldedSetIterable iter X.env x = pure x) : PS X (.For tgE iter body [] pos) (tS c own ownL (ex Γ (.for_ k as tg ts))) :=
  imS (ps_for hp hc hi hg hb hs) fun E σ H ⟨s, G, G0, H0, r, en, q⟩ => by
  replace q : PostS c G0 H0 ownL E G H ((evI Γ k as s).bind fun xs s => forGo (forBody Γ tg ts) s.env xs s) := by
    have e : ex Γ (.for_ k as tg ts) s = (evI Γ k as s).bind fun xs s => forGo (forBody Γ tg ts) s.env xs s := by
      show (evs Γ as s).bind _ = _
      unfold evI
      cases evs Γ as s <;> rfl
    rw [← e]; exact q
  refine ⟨s, G, r, (q.ofE r en).mono fun xs s1 q J H1 G1 r1 t1 wk => ?_⟩
  obtain ⟨G2, r2, t2⟩ := r1.less hsub
  have en2 := (en.step t1).step t2
  have lt2 : Lt G H G2 H1 := (r.lt t1).trans (r1.lt t2)
  generalize he0 : s1.env = e0 at q
  refine ⟨fun i m σ' H' => m = xs.length - i ∧ i ≤ xs.length ∧ ∃ si Gi, Rel c.K ownL si Gi σ' H' ∧ Ent G0 H0 ownL Gi H' ∧ Lt G1 H1 Gi H' ∧ PostS c G0 H0 ownL E Gi H' (forGo (forBody Γ tg ts) e0 (xs.drop i) si), ⟨xs.length, by simp, Nat.zero_le _, s1, G2, r2, en2, r1.lt t2, by simpa using q.move lt2⟩, ?_⟩
  rintro i m σ4 H4 ⟨rfl, hi, si, Gi, r4, en4, lt4, q4⟩
  have wk2 := wk H4 Gi.Z Gi.μ lt4.zz lt4.rd lt4.mm (fun p o u z w => lt4.fz p o u z w) fun j hj => by simp at hj
  by_cases hend : i = xs.length
  · subst hend
    rw [List.drop_length] at q4
    exact .inl ⟨wk2.2.1, q4 σ4 H4 Gi r4 en4 Lt.refl⟩
  · have hi' : i < xs.length := Nat.lt_of_le_of_ne hi hend
    rw [List.drop_eq_getElem_cons hi'] at q4
    refine .inr ⟨wk2.1 i hi', fun σ' H' => ∃ si Gi, Rel c.K ownL si Gi σ' H' ∧ Ent G0 H0 ownL Gi H' ∧ Lt G1 H1 Gi H' ∧ PostS c G0 H0 ownL E Gi H' (forGo (forBody Γ tg ts) e0 (xs.drop (i + 1)) si), ?_, ?_⟩
    · rintro σ' H' ⟨sj, Gj, g1, g2, g3, g4⟩
      exact ⟨xs.length - (i + 1), by omega, rfl, hi', sj, Gj, g1, g2, g3, g4⟩
    · intro x H5 y
      obtain ⟨Z5, g5, rp5⟩ := wk2.2.2 i _ x H5 (List.getElem?_eq_getElem hi') y
      obtain ⟨r5, t5⟩ := r4.grow (mu := false) g5
      have en5 := en4.step t5
      replace q4 : PostS c G0 H0 ownL E Gi H4 ((forBody Γ tg ts xs[i] si).bind fun f s => match f with
        | .next => forGo (forBody Γ tg ts) e0 (xs.drop (i + 1)) { s with env := keepTo e0 s.env }
        | .ret d => .ok (.ret d) s) := q4
      unfold forBody at q4
      cases es : setT tg xs[i] si with
      | none => rw [es] at q4; exact q4.elim
      | some s6 =>
        rw [es] at q4
        refine ⟨xs[i], si, _, s6, r5, rp5.to hwk, es, fun σ6 r6 _ => ?_⟩
        rw [offT_off hdis] at r6
        have lt5 := r4.lt t5
        refine ⟨s6, _, G0, H0, r6, en5, ?_⟩
        replace q4 : PostS c G0 H0 ownL E Gi H4 ((exs Γ ts s6).bind fun f s => match f with
          | .next => forGo (forBody Γ tg ts) e0 (xs.drop (i + 1)) { s with env := keepTo e0 s.env }
          | .ret d => .ok (.ret d) s) := q4
        cases eb : exs Γ ts s6 with
        | fail => rw [eb] at q4; exact q4
        | exc => rw [eb] at q4; exact q4
        | ok f s7 =>
          rw [eb] at q4
          cases f with
          | ret d => exact q4
          | next => exact fun σ7 H7 G7 r7 en7 lt7 => ⟨_, G7, r7.kept, en7, (lt4.trans lt5).trans lt7, PostS.move (r := forGo (forBody Γ tg ts) e0 (xs.drop (i + 1)) { s7 with env := keepTo e0 s7.env }) q4 (lt5.trans lt7)⟩
theorem sp_while {body : List Stmt} {ts : List St} (hp : PassesOwn (model X.prog X.w) X.A X.env X.xe) (hsub : ∀ i ∈ ownL, i ∈ own) (hc : PT X e (tT c ownL ownL mu (evT Γ t))) (hb : PSs X body (tS c ownL ownL (exs Γ ts))) : PS X (.While e body [] pos) (tS c own ownL (ex Γ (.while_ t ts))) :=
  imS (ps_while hp hc hb) fun E σ H ⟨s, G, G0, H0, r, en, q⟩ => by
  replace q : PostS c G0 H0 ownL E G H (whGo (evT Γ t) (exs Γ ts) s.env fuel s) := q
  obtain ⟨G1, r1, t1⟩ := r.less hsub
  generalize fuel = n0 at q
  generalize s.env = e0 at q
  refine ⟨fun m σ' H' => ∃ si Gi, Rel c.K ownL si Gi σ' H' ∧ Ent G0 H0 ownL Gi H' ∧ PostS c G0 H0 ownL E Gi H' (whGo (evT Γ t) (exs Γ ts) e0 m si), ⟨n0, s, G1, r1, en.step t1, q.move (r.lt t1)⟩, ?_⟩
  rintro m σ2 H2 ⟨si, Gi, r2, en2, q2⟩
  cases m with
  | zero => exact q2.elim
  | succ m =>
    replace q2 : PostS c G0 H0 ownL E Gi H2 ((evT Γ t si).bind fun b s => if b then (exs Γ ts s).bind fun f s => (match f with
      | .next => whGo (evT Γ t) (exs Γ ts) e0 m { s with env := keepTo e0 s.env }
      | .ret d => .ok (.ret d) s) else .ok .next s) := q2
    refine ⟨si, Gi, r2, (q2.ofE r2 en2).mono fun b s3 q3 H3 G3 r3 t3 => ?_⟩
    have lt3 := r2.lt t3
    have en3 := en2.step t3
    cases b with
    | false => exact q3 σ2 H3 G3 r3 en3 lt3
    | true =>
      show ∃ N : L2.St → Hp → Prop, _ ∧ _
      refine ⟨fun σ' H' => ∃ si Gi, Rel c.K ownL si Gi σ' H' ∧ Ent G0 H0 ownL Gi H' ∧ PostS c G0 H0 ownL E Gi H' (whGo (evT Γ t) (exs Γ ts) e0 m si), fun σ' H' hh => ⟨m, Nat.lt_succ_self m, hh⟩, s3, G3, G0, H0, r3, en3, ?_⟩
      replace q3 : PostS c G0 H0 ownL E Gi H2 ((exs Γ ts s3).bind fun f s => (match f with
        | .next => whGo (evT Γ t) (exs Γ ts) e0 m { s with env := keepTo e0 s.env }
        | .ret d => .ok (.ret d) s)) := q3
      cases eb : exs Γ ts s3 with
      | fail => rw [eb] at q3; exact q3
      | exc => rw [eb] at q3; exact q3
      | ok f s7 =>
        rw [eb] at q3
        cases f with
        | ret d => exact q3
        | next => exact fun σ7 H7 G7 r7 en7 lt7 => ⟨_, G7, r7.kept, en7, PostS.move (r := whGo (evT Γ t) (exs Γ ts) e0 m { s7 with env := keepTo e0 s7.env }) q3 (lt3.trans lt7)⟩
/-! ### comprehensions -/
section
variable {elt tgE iter : Expr} {ifs : List Expr} {scope : Scope} {ownN : List (Str × Nat)} {k : IK} {tg : Tg} {ti : List T} {te : T}
theorem se_lc {os : List Nat} (hos : ∀ i ∈ os, i ∈ own1) (hmo : os ≠ [] → mu = false) (hc : X.calm = true) (hN : X.N.Nodup) (hi : PI X tgE iter (tI c own own1 os k (evI Γ k as))) (ok : BlkOk X.N X.env.scope scope ownN) (hsub : ∀ i ∈ own2, i ∈ own1) (hvs : ∀ i ∈ ownN.map (·.2), i ∉ own2) (hst : ∀ i ∈ slotsT tg, i ∈ ownN.map (·.2)) (hwk : wkK k = true → tgB tg = true)
    (hg : ∀ (s : Shared) (H : Hp) (C : Addr) (cl : List (Str × Addr)) (fp : List Addr), PG (X.blk s H scope (compEnvC scope cl C X.env) fp) tgE (tG c.inn own2 tg))
    (ht : ∀ (s : Shared) (H : Hp) (C : Addr) (cl : List (Str × Addr)) (fp : List Addr), PTs (X.blk s H scope (compEnvC scope cl C X.env) fp) ifs (tT c.inn own2 own2 mu (evAll Γ ti)))
    (he : ∀ (s : Shared) (H : Hp) (C : Addr) (cl : List (Str × Addr)) (fp : List Addr), PE (X.blk s H scope (compEnvC scope cl C X.env) fp) elt (tE c.inn own2 own2 mu .sh (ev Γ te))) (hs : ∀ x, foldedSetIterable iter X.env x = pure x) :
    PE X (.ListComp elt [⟨tgE, iter, ifs, 0⟩] scope pos) (tE c own own2 mu .fr (ev Γ (.lc k as tg (ownN.map (·.2)) ti te))) :=
  imE (pe_lc hc hN hi ok hg ht he hs) fun σ H Q h => lc_pre hsub hvs hst hwk hos hmo h
theorem sp_setLc {os : List Nat} (hos : ∀ i ∈ os, i ∈ own1) (hmo : os ≠ [] → mu = false) {i : Nat} {y : Str} {py spos : Pos} (hc : X.calm = true) (hN : X.N.Nodup) (hy : X.N[i]? = some y) (hyl : X.env.scope.names.lookup y = some .local) (hsw : swapsWith (.ListComp elt [⟨tgE, iter, ifs, 0⟩] scope pos) (some (.Name y py)) spos.line X.env = pure true)
    (hi : PI X tgE iter (tI c own own1 os k (evI Γ k as))) (ok : BlkOk X.N X.env.scope scope ownN) (hsub : ∀ i ∈ own2, i ∈ own1) (hvs : ∀ i ∈ ownN.map (·.2), i ∉ own2) (hst : ∀ i ∈ slotsT tg, i ∈ ownN.map (·.2)) (hwk : wkK k = true → tgB tg = true)
    (hg : ∀ (s : Shared) (H : Hp) (C : Addr) (cl : List (Str × Addr)) (fp : List Addr), PG (X.blk s H scope (compEnvC scope cl C X.env) fp) tgE (tG c.inn own2 tg))
    (ht : ∀ (s : Shared) (H : Hp) (C : Addr) (cl : List (Str × Addr)) (fp : List Addr), PTs (X.blk s H scope (compEnvC scope cl C X.env) fp) ifs (tT c.inn own2 own2 mu (evAll Γ ti)))
    (he : ∀ (s : Shared) (H : Hp) (C : Addr) (cl : List (Str × Addr)) (fp : List Addr), PE (X.blk s H scope (compEnvC scope cl C X.env) fp) elt (tE c.inn own2 own2 mu .sh (ev Γ te))) (hs : ∀ x, foldedSetIterable iter X.env x = pure x) :
    PS X (.Assign [.Name y py] (.ListComp elt [⟨tgE, iter, ifs, 0⟩] scope pos) spos) (tS c own (i :: drop1 own2 i) (ex Γ (.asg i (.lc k as tg (ownN.map (·.2)) ti te)))) :=
  imS (ps_setLc hc hN hy hyl hsw hi ok hg ht he hs) fun E σ H h => lc_pre hsub hvs hst hwk hos hmo (asg_preF h)
end
end
/-! ### a def -/
theorem Rel.begin {K : PySem.W.Frag} {N : List Str} {ds : List D} {vs : List V} {st : Sto} {G : Gh} {H : Hp} {n : Nat} (r : Rel K [] ⟨[], st⟩ G [] H) (rp : Reps K H G.Z G.μ ds vs) (hn : N.length = n) : Rel K [] ⟨ds.map some ++ List.replicate (n - ds.length) none, st⟩ G (L2.start N vs) H := by
  have hl := rp.length
  refine ⟨by simp [L2.start, hl, hn], fun i d e => ?_, r.zl, fun i hi => by simp at hi, fun i hi => by simp at hi, r.sto, r.mz, r.mnd⟩
  have e : (ds.map some ++ List.replicate (n - ds.length) none)[i]? = some (some d) := e
  have hi : i < ds.length := by
    by_cases hi : i < ds.length
    · exact hi
    · rw [List.getElem?_append_right (by simpa using hi), List.getElem?_replicate] at e
      split at e <;> cases e
  rw [List.getElem?_append_left (by simpa using hi), List.getElem?_map] at e
  have e' : ds[i]? = some d := by
    cases e1 : ds[i]? with
    | none => rw [e1] at e; cases e
    | some x => rw [e1] at e; cases e; rfl
  obtain ⟨v, e1, e2⟩ := rp.get' e'
  refine ⟨v, ?_, fun z => by simp at z, fun _ => e2⟩
  unfold L2.start
  rw [List.getElem?_append_left (by simpa using (List.getElem?_eq_some_iff.mp e1).1), List.getElem?_map, e1]
  rfl
/-- a def keeps the promise of its mirror -/
theorem fn_D {P : Program} {w : World} {K : PySem.W.Frag} {mg : Str → Option Value} {base : Heap} {k : Nat} {f : Addr} {name qual : Str} {params : Arguments} {body : List Stmt} {scope : Scope} {dV kV doc pm cdv ct oc : Value} {an od : Option Addr}
    {osl : Array (Option Value)} {N ps : List Str} {b : FD} {Γ : List Fn} {own' : List Nat} (lk : K.lookup f = some ⟨oc, od, .func (PySem.W.fnOf name qual params body scope dV kV doc pm an cdv ct), osl⟩) (hcd : PySem.W.codeIn K cdv qual = true) (S : FnScope N ps scope)
    (hnp : ps.length = b.np) (hn : N.length = b.n)
    (hbody : ∀ (A : Around) (outer : List Env) (s : Shared) (H : Hp) (E : XK), Room k (A.deeper (envOfC qual scope s.heap.objs.size f cdv)) →
      PSs (cxOf (L2.CX P w) P w K mg base N qual scope f cdv A outer s H E) body (tS ⟨K, mg, fun cls d _ H => E cls d H⟩ [] own' (exs Γ b.body))) :
    FnOk P w K mg base (L2.CX P w) (k + 1) f (PySem.W.fnOf name qual params body scope dV kV doc pm an cdv ct) ps (spD K mg b.np (runFn b Γ)) := by
  refine fn_of lk hcd S (fun vs H Q E h => ?_) fun A outer s H vs Q E hr h => ⟨_, hbody A outer s H E hr, ?_⟩
  · obtain ⟨_, _, _, h, _⟩ := h
    rw [h, hnp]
  · obtain ⟨ds, st, G, hl, r, rp, q⟩ := h
    have hld : ds.length = b.np := by rw [← rp.length]; exact hl
    rw [runFn_eq b Γ ds st hld] at q
    replace q : PostD K mg G H Q E (if b.gc = true then gcR st (runB b Γ ds st) else runB b Γ ds st) := q
    have q : PostD K mg G H Q E (runB b Γ ds st) := by
      split at q
      · exact PostD.gc r q
      · exact q
    unfold runB at q
    rw [← hld] at q
    refine ⟨_, G, G, H, r.begin rp hn, Ent.start r, ?_⟩
    cases eb : exs Γ b.body ⟨ds.map some ++ List.replicate (b.n - ds.length) none, st⟩ with
    | fail => rw [eb] at q; exact q
    | exc e s' =>
      rw [eb] at q
      exact fun cls dd σ' H' G' r' en' hx => q cls dd H' { G' with ad := G.ad } ⟨rfl, fun i d e => by simp at e, r'.zl, fun i hi => by simp at hi, fun i hi => by simp at hi, r'.sto, r'.mz, r'.mnd⟩ en'.stp hx
    | ok f s' =>
      rw [eb] at q
      cases f with
      | next => exact fun σ' H' G' r' en' _ => q .non H' { G' with ad := G.ad } ⟨rfl, fun i d e => by simp at e, r'.zl, fun i hi => by simp at hi, fun i hi => by simp at hi, r'.sto, r'.mz, r'.mnd⟩ en'.stp rfl
      | ret d => exact fun v H' G' r' en' rp' => q v H' { G' with ad := G.ad } ⟨rfl, fun i d e => by simp at e, r'.zl, fun i hi => by simp at hi, fun i hi => by simp at hi, r'.sto, r'.mz, r'.mnd⟩ en'.stp rp'
end Lb

set_option maxRecDepth 100000
set_option maxHeartbeats 1000000
namespace Lb
open PySem PySem.Spec PyProof.Rows L2
/-! ### a, b = e, f where some are new containers -/
/-- items, the new ones at the addresses as; H0: the heap ahead -/
def ItM (K : PySem.W.Frag) (Z : Zs) (μ : List Addr) (H H0 : Hp) : List Bool → List D → List V → List Addr → Prop
  | [], [], [], as => as = []
  | false :: ms, d :: ds, v :: vs, as => Rep K H Z μ d v ∧ ItM K Z μ H H0 ms ds vs as
  | true :: ms, d :: ds, v :: vs, as => ∃ a r, as = a :: r ∧ Own K H Z μ a d v ∧ ¬ Z a ∧ a ∉ μ ∧ H0 a = none ∧ a ∉ r ∧ ItM K Z μ H H0 ms ds vs r
  | _, _, _, _ => False
theorem ItM.new {K : PySem.W.Frag} {Z : Zs} {μ : List Addr} {H H0 : Hp} : ∀ {ms : List Bool} {ds : List D} {vs : List V} {as : List Addr}, ItM K Z μ H H0 ms ds vs as → ∀ a ∈ as, H0 a = none
  | [], [], [], as, h, a, ha => by
    have h : as = [] := h
    rw [h] at ha; cases ha
  | false :: ms, d :: ds, v :: vs, as, h, a, ha => ItM.new (show ItM K Z μ H H0 ms ds vs as from h.2) a ha
  | true :: ms, d :: ds, v :: vs, as, h, a, ha => by
    obtain ⟨b, r, rfl, _, _, _, h1, _, h2⟩ := (show ∃ a r, as = a :: r ∧ Own K H Z μ a d v ∧ ¬ Z a ∧ a ∉ μ ∧ H0 a = none ∧ a ∉ r ∧ ItM K Z μ H H0 ms ds vs r from h)
    rcases List.mem_cons.mp ha with e | e
    · rw [e]; exact h1
    · exact ItM.new h2 a e
theorem ItM.back {K : PySem.W.Frag} {Z : Zs} {μ : List Addr} {H H0 H1 : Hp} (f : ∀ a, H1 a = none → H0 a = none) : ∀ {ms : List Bool} {ds : List D} {vs : List V} {as : List Addr}, ItM K Z μ H H1 ms ds vs as → ItM K Z μ H H0 ms ds vs as
  | [], [], [], as, h => h
  | false :: ms, d :: ds, v :: vs, as, h => ⟨h.1, ItM.back f (show ItM K Z μ H H1 ms ds vs as from h.2)⟩
  | true :: ms, d :: ds, v :: vs, as, h => by
    obtain ⟨b, r, rfl, h1, h2, h3, h4, h5, h6⟩ := (show ∃ a r, as = a :: r ∧ Own K H Z μ a d v ∧ ¬ Z a ∧ a ∉ μ ∧ H1 a = none ∧ a ∉ r ∧ ItM K Z μ H H1 ms ds vs r from h)
    exact ⟨b, r, rfl, h1, h2, h3, f b h4, h5, ItM.back f h6⟩
def tAsM (c : Cfg) (own own' : List Nat) (mu : Bool) (ms : List Bool) (m : S → R S (List D)) : TA := fun σ H Q => ∃ s G, Rel c.K own s G σ H ∧
  Post c own G σ H (fun ds s' => ∀ vs H' G' as, Rel c.K own' s' G' σ H' → Stp own own' mu G H G' H' → ItM c.K G'.Z G'.μ H' H ms ds vs as → Q vs H') (m s)
section
variable {X : Cx} {c : Cfg} {Γ : List Fn} {own own1 own2 : List Nat} {mu1 mu2 : Bool} {e : Expr} {es : List Expr} {m1 : S → R S D} {m2 : S → R S (List D)} {ms : List Bool}
theorem sm_nil : PA X [] (tAsM c own own false [] fun s => .ok [] s) := imA pa_nil fun σ H Q ⟨s, G, r, q⟩ => q [] H G [] r Stp.refl rfl
theorem sm_sh (h1 : PE X e (tE c own own1 mu1 .sh m1)) (h2 : PA X es (tAsM c own1 own2 mu2 ms m2)) (hs : starEach (e :: es) X.env = (false, eval e X.env) :: starEach es X.env) :
    PA X (e :: es) (tAsM c own own2 (mu1 || mu2) (false :: ms) fun s => (m1 s).bind fun d s => (m2 s).bind fun ds s => .ok (d :: ds) s) := imA (pa_cons h1 h2 hs) fun σ H Q ⟨s, G, r, q⟩ => by
  simp only [Post.bind, Post.ok] at q
  refine ⟨s, G, r, q.mono fun d s1 q v H1 G1 r1 t1 rp1 => ⟨s1, G1, r1, (q.move t1).mono fun ds s2 q vs H2 G2 as r2 t2 rp2 => ?_⟩⟩
  exact q (v :: vs) H2 G2 as r2 (t1.trans t2) ⟨r1.rep t2 rp1, rp2.back fun _ z => t1.fresh z⟩
theorem sm_fr (h1 : PE X e (tE c own own1 mu1 .fr m1)) (h2 : PA X es (tAsM c own1 own2 mu2 ms m2)) (hs : starEach (e :: es) X.env = (false, eval e X.env) :: starEach es X.env) :
    PA X (e :: es) (tAsM c own own2 (mu1 || mu2) (true :: ms) fun s => (m1 s).bind fun d s => (m2 s).bind fun ds s => .ok (d :: ds) s) := imA (pa_cons h1 h2 hs) fun σ H Q ⟨s, G, r, q⟩ => by
  simp only [Post.bind, Post.ok] at q
  refine ⟨s, G, r, q.mono fun d s1 q v H1 G1 r1 t1 ⟨a, ho, nz, nm, new⟩ => ⟨s1, G1, r1, (q.move t1).mono fun ds s2 q vs H2 G2 as r2 t2 rp2 => ?_⟩⟩
  have ne := r.newNe t1 new
  obtain ⟨_, hl⟩ := ho.live
  refine q (v :: vs) H2 G2 (a :: as) r2 (t1.trans t2) ⟨a, as, rfl, r1.ownS t2 nm (fun _ => ne) (Rel.noz t2 nz hl ne) ho, Rel.noz t2 nz hl ne, ?_, new, fun z => ?_, rp2.back fun _ z => t1.fresh z⟩
  · obtain ⟨o, ho'⟩ := hl
    exact t2.notmu nm ho'
  · obtain ⟨o, ho'⟩ := hl
    rw [rp2.new a z] at ho'; cases ho'
/-- the slots behind -/
def ownM (own : List Nat) : List Nat → List Bool → List Nat
  | i :: is, true :: ms => ownM (i :: drop1 own i) is ms
  | i :: is, false :: ms => ownM (drop1 own i) is ms
  | _, _ => own
def setσ (σ : L2.St) : List Nat → List V → L2.St
  | i :: is, v :: vs => setσ (σ.set i (some v)) is vs
  | _, _ => σ
theorem setM {K : PySem.W.Frag} {H H0 : Hp} : ∀ (ms : List Bool) (is : List Nat) (ds : List D) (vs : List V) (as : List Addr) (own : List Nat) (s s' : S) (G : Gh) (σ : L2.St), Rel K own s G σ H → ItM K G.Z G.μ H H0 ms ds vs as → (∀ j ∈ own, ∀ a ∈ as, G.ad j ≠ a) → setVs is ds s = some s' →
    ∃ G', Rel K (ownM own is ms) s' G' (setσ σ is vs) H ∧ G'.Z = G.Z ∧ G'.μ = G.μ ∧ ∀ j ∈ ownM own is ms, (j ∈ own ∧ G'.ad j = G.ad j) ∨ G'.ad j ∈ as
  | [], is, ds, vs, as, own, s, s', G, σ, r, it, ne, e => by
    cases ds with
    | cons => cases vs <;> exact it.elim
    | nil =>
      cases vs with
      | cons => exact it.elim
      | nil =>
        cases is with
        | cons => cases e
        | nil =>
          cases e
          exact ⟨G, r, rfl, rfl, fun j hj => .inl ⟨hj, rfl⟩⟩
  | m :: ms, is, ds, vs, as, own, s, s', G, σ, r, it, ne, e => by
    cases ds with
    | nil => cases m <;> exact it.elim
    | cons d ds =>
      cases vs with
      | nil => cases m <;> exact it.elim
      | cons v vs =>
        cases is with
        | nil => cases e
        | cons i is =>
          have e : setVs is ds (setV i d s) = some s' := e
          cases m with
          | false =>
            obtain ⟨h1, h2⟩ := (show Rep K H G.Z G.μ d v ∧ ItM K G.Z G.μ H H0 ms ds vs as from it)
            obtain ⟨G', r', z1, z2, z3⟩ := setM ms is ds vs as (drop1 own i) _ s' G _ (r.setSh h1) h2 (fun j hj a ha => ne j (mem_drop1.mp hj).1 a ha) e
            refine ⟨G', r', z1, z2, fun j hj => ?_⟩
            rcases z3 j hj with ⟨q1, q2⟩ | q
            · exact .inl ⟨(mem_drop1.mp q1).1, q2⟩
            · exact .inr q
          | true =>
            obtain ⟨a, rr, rfl, h1, h2, h3, h4, h5, h6⟩ := (show ∃ a r, as = a :: r ∧ Own K H G.Z G.μ a d v ∧ ¬ G.Z a ∧ a ∉ G.μ ∧ H0 a = none ∧ a ∉ r ∧ ItM K G.Z G.μ H H0 ms ds vs r from it)
            have rF := r.setFr (i := i) h1 h2 h3 fun j hj => ne j hj a List.mem_cons_self
            obtain ⟨G', r', z1, z2, z3⟩ := setM ms is ds vs rr (i :: drop1 own i) _ s' { G with ad := fun j => if j = i then a else G.ad j } _ rF h6 (fun j hj b hb => by
              show (if j = i then a else G.ad j) ≠ b
              by_cases hji : j = i
              · rw [if_pos hji]; exact fun ee => h5 (ee ▸ hb)
              · rw [if_neg hji]
                rcases List.mem_cons.mp hj with q | q
                · exact absurd q hji
                · exact ne j (mem_drop1.mp q).1 b (List.mem_cons_of_mem _ hb)) e
            refine ⟨G', r', z1, z2, fun j hj => ?_⟩
            rcases z3 j hj with ⟨q1, q2⟩ | q
            · have q2 : G'.ad j = (if j = i then a else G.ad j) := q2
              by_cases hji : j = i
              · rw [if_pos hji] at q2; exact .inr (by rw [q2]; exact List.mem_cons_self)
              · rw [if_neg hji] at q2
                rcases List.mem_cons.mp q1 with q | q
                · exact absurd q hji
                · exact .inl ⟨(mem_drop1.mp q).1, q2⟩
            · exact .inr (List.mem_cons_of_mem _ q)
theorem par_pre {is : List Nat} {as : List T} {mu : Bool} {E : Ends} {σ : L2.St} {H : Hp} (h : tS c own (ownM own1 is ms) (ex Γ (.par is as)) E σ H) : tAsM c own own1 mu ms (evs Γ as) σ H fun vs H1 => ∀ us, us = vs → E.nx (setσ σ is us) H1 := by
  obtain ⟨s, G, G0, H0, r, en, q⟩ := h
  replace q : PostS c G0 H0 (ownM own1 is ms) E G H ((evs Γ as s).bind fun ds s => (opt s (setVs is ds s)).bind fun s' _ => .ok .next s') := q
  refine ⟨s, G, r, (q.ofE r en).mono fun ds s1 q vs H1 G1 ads r1 t1 it us hu => ?_⟩
  subst hu
  cases e : setVs is ds s1 with
  | none => rw [e] at q; exact q.elim
  | some s2 =>
    rw [e] at q
    obtain ⟨G2, r2, z1, z2, z3⟩ := setM ms is ds us ads own1 s1 s2 G1 σ r1 it (fun j hj a ha => r.newNe t1 (it.new a ha) j hj) e
    have en1 := en.step t1
    have lt1 := r.lt t1
    refine q _ H1 G2 r2 ⟨?_, fun j hj => ?_⟩ ⟨by rw [z1]; exact lt1.zz, lt1.rd, by rw [z2]; exact lt1.mm, lt1.fz⟩
    · have : ({ G2 with ad := G0.ad } : Gh) = { G1 with ad := G0.ad } := by
        obtain ⟨a, b, c'⟩ := G2
        cases z1; cases z2; rfl
      rw [this]; exact en1.stp
    · rcases z3 j hj with ⟨h1, h2⟩ | h1
      · rw [h2]; exact en1.new j h1
      · exact en.stp.fresh (it.new _ h1)
theorem ItM.len {K : PySem.W.Frag} {Z : Zs} {μ : List Addr} {H H0 : Hp} : ∀ {ms : List Bool} {ds : List D} {vs : List V} {as : List Addr}, ItM K Z μ H H0 ms ds vs as → vs.length = ms.length
  | [], [], [], as, h => rfl
  | false :: ms, d :: ds, v :: vs, as, h => by rw [List.length_cons, List.length_cons, ItM.len (show ItM K Z μ H H0 ms ds vs as from h.2)]
  | true :: ms, d :: ds, v :: vs, as, h => by
    obtain ⟨b, r, _, _, _, _, _, _, h2⟩ := (show ∃ a r, as = a :: r ∧ Own K H Z μ a d v ∧ ¬ Z a ∧ a ∉ μ ∧ H0 a = none ∧ a ∉ r ∧ ItM K Z μ H H0 ms ds vs r from h)
    rw [List.length_cons, List.length_cons, ItM.len h2]
theorem tAsM.len {m : S → R S (List D)} {mu : Bool} {σ : L2.St} {H : Hp} {Q : List V → Hp → Prop} (h : tAsM c own own1 mu ms m σ H Q) : tAsM c own own1 mu ms m σ H fun vs H1 => vs.length = ms.length ∧ Q vs H1 := by
  obtain ⟨s, G, r, q⟩ := h
  exact ⟨s, G, r, q.mono fun ds s1 q vs H1 G1 as r1 t1 it => ⟨it.len, q vs H1 G1 as r1 t1 it⟩⟩
theorem tAsM.mono {m : S → R S (List D)} {mu : Bool} {σ : L2.St} {H : Hp} {Q Q' : List V → Hp → Prop} (h : tAsM c own own1 mu ms m σ H Q) (f : ∀ vs H, Q vs H → Q' vs H) : tAsM c own own1 mu ms m σ H Q' := by
  obtain ⟨s, G, r, q⟩ := h
  exact ⟨s, G, r, q.mono fun ds s1 q vs H1 G1 as r1 t1 it => f _ _ (q vs H1 G1 as r1 t1 it)⟩
theorem sp_parM {i j : Nat} {x y : Str} {a b : Expr} {as : List T} {mu b1 b2 : Bool} {px py pt pos : Pos} {kt k2 pt2} (hc : X.calm = true) (hN : X.N.Nodup) (hi : X.N[i]? = some x) (hj : X.N[j]? = some y) (hij : i ≠ j)
    (hx : X.env.scope.names.lookup x = some .local) (hy : X.env.scope.names.lookup y = some .local) (ha : PA X [a, b] (tAsM c own own1 mu [b1, b2] (evs Γ as)))
    (hw : swappedStores [.Tuple [.Name x px, .Name y py] kt pt] (.Tuple [a, b] k2 pt2) X.env = pure (some [x, y]))
    (hs : swapsWithSole [.Tuple [.Name x px, .Name y py] kt pt] (.Tuple [a, b] k2 pt2) pos.line X.env = pure false) :
    PS X (.Assign [.Tuple [.Name x px, .Name y py] kt pt] (.Tuple [a, b] k2 pt2) pos) (tS c own (ownM own1 [i, j] [b1, b2]) (ex Γ (.par [i, j] as))) := imS (ps_par hc hN hi hj hij hx hy ha hw hs) fun E σ H h =>
  (par_pre h).len.mono fun vs H1 ⟨hl, q⟩ => match vs, hl with
    | [v, w], _ => ⟨v, w, rfl, q _ rfl⟩
theorem sp_parM3 {i j l : Nat} {x y z : Str} {a b d : Expr} {as : List T} {mu b1 b2 b3 : Bool} {px py pz pt pos : Pos} {kt k2 pt2} (hc : X.calm = true) (hN : X.N.Nodup) (hi : X.N[i]? = some x) (hj : X.N[j]? = some y) (hl : X.N[l]? = some z) (hij : i ≠ j) (hil : i ≠ l) (hjl : j ≠ l)
    (hx : X.env.scope.names.lookup x = some .local) (hy : X.env.scope.names.lookup y = some .local) (hz : X.env.scope.names.lookup z = some .local) (ha : PA X [a, b, d] (tAsM c own own1 mu [b1, b2, b3] (evs Γ as)))
    (hw : swappedStores [.Tuple [.Name x px, .Name y py, .Name z pz] kt pt] (.Tuple [a, b, d] k2 pt2) X.env = pure (some [x, y, z]))
    (hs : swapsWithSole [.Tuple [.Name x px, .Name y py, .Name z pz] kt pt] (.Tuple [a, b, d] k2 pt2) pos.line X.env = pure false) :
    PS X (.Assign [.Tuple [.Name x px, .Name y py, .Name z pz] kt pt] (.Tuple [a, b, d] k2 pt2) pos) (tS c own (ownM own1 [i, j, l] [b1, b2, b3]) (ex Γ (.par [i, j, l] as))) := imS (ps_par3 hc hN hi hj hl hij hil hjl hx hy hz ha hw hs) fun E σ H h =>
  (par_pre h).len.mono fun vs H1 ⟨hl, q⟩ => match vs, hl with
    | [u, v, w], _ => ⟨u, v, w, rfl, q _ rfl⟩
end
end Lb

set_option maxRecDepth 100000
set_option maxHeartbeats 1000000
namespace Lb
open PySem PySem.Spec PyProof.Rows L2
/-- names, one behind another -/
def tGsN (is : List Nat) : TGs := fun vs σ H Q => vs.length = is.length ∧ Q (setσ σ is vs) H
section
variable {X : Cx} {c : Cfg} {Γ : List Fn} {own own1 : List Nat} {mu : Bool} {ms : List Bool}
theorem sgn_nil : PGs X [] (tGsN []) := imGs pgs_nil fun vs σ H Q ⟨h1, h2⟩ => by
  cases vs with
  | nil => exact ⟨rfl, h2⟩
  | cons => cases h1
theorem sgn_cons {i : Nat} {x : Str} {pos : Pos} {es : List Expr} {is : List Nat} (hN : X.N.Nodup) (hi : X.N[i]? = some x) (hx : L2.Loc X.env.scope x) (hf : X.fn x = true ∨ X.env.scope.names.lookup x = some .local) (h : PGs X es (tGsN is)) : PGs X (.Name x pos :: es) (tGsN (i :: is)) :=
  imGs (pgs_cons (pg_name hN hi hx hf) h rfl) fun vs σ H Q ⟨h1, h2⟩ => by
  cases vs with
  | nil => cases h1
  | cons v vs => exact ⟨v, vs, rfl, by simpa using h1, h2⟩
theorem ItM.laid {K : PySem.W.Frag} {Z : Zs} {μ : List Addr} {H H0 : Hp} {p : Addr} {o : HO} (hp : H p = none) : ∀ {ms : List Bool} {ds : List D} {vs : List V} {as : List Addr}, ItM K Z μ H H0 ms ds vs as → ItM K Z μ (upd H p o) H0 ms ds vs as
  | [], [], [], as, h => h
  | false :: ms, d :: ds, v :: vs, as, h => ⟨Rep.mono (fun _ z => z) (fun q u _ w => by
      rcases w with w | ⟨x, w⟩
      · exact .inl (by rw [upd_ne (ne_of_none w hp)]; exact w)
      · exact .inr ⟨x, by rw [upd_ne (ne_of_none w hp)]; exact w⟩) (fun _ _ q => q) _ _ h.1, ItM.laid hp (show ItM K Z μ H H0 ms ds vs as from h.2)⟩
  | true :: ms, d :: ds, v :: vs, as, h => by
    obtain ⟨b, r, rfl, h1, h2, h3, h4, h5, h6⟩ := (show ∃ a r, as = a :: r ∧ Own K H Z μ a d v ∧ ¬ Z a ∧ a ∉ μ ∧ H0 a = none ∧ a ∉ r ∧ ItM K Z μ H H0 ms ds vs r from h)
    refine ⟨b, r, rfl, Own.mono (fun _ z => z) (fun q u _ w => ?_) (fun _ _ q => q) (fun o' w => by rw [upd_ne (ne_of_none w hp)]; exact w) h1, h2, h3, h4, h5, ItM.laid hp h6⟩
    rcases w with w | ⟨x, w⟩
    · exact .inl (by rw [upd_ne (ne_of_none w hp)]; exact w)
    · exact .inr ⟨x, by rw [upd_ne (ne_of_none w hp)]; exact w⟩
/-- a, b = e, f by way of the tuple -/
theorem sp_parU {ts es : List Expr} {is : List Nat} {as : List T} {k k2 : Nat} {pt pt2 pos : Pos} (hc : X.calm = true) (hg : PGs X ts (tGsN is)) (hln : is.length = ms.length) (hlt : ts.length = is.length) (hsz : ms.length ≤ 1000) (ha : PA X es (tAsM c own own1 mu ms (evs Γ as))) (hst : (assignEach ts X.env).findIdx? (·.1) = none) (hal : (assignEach ts X.env).length = ts.length)
    (hw : swappedStores [.Tuple ts k pt] (.Tuple es k2 pt2) X.env = pure none) (hs : swapsWithSole [.Tuple ts k pt] (.Tuple es k2 pt2) pos.line X.env = pure false) :
    PS X (.Assign [.Tuple ts k pt] (.Tuple es k2 pt2) pos) (tS c own (ownM own1 is ms) (ex Γ (.par is as))) :=
  imS (ps_asg (pe_tup ha) (pg_tup hc hg (by rw [hal, hlt]) hst) hs hw rfl) fun E σ H ⟨s, G, G0, H0, r, en, q⟩ => by
  replace q : PostS c G0 H0 (ownM own1 is ms) E G H ((evs Γ as s).bind fun ds s => (opt s (setVs is ds s)).bind fun s' _ => .ok .next s') := q
  refine ⟨s, G, r, (q.ofE r en).mono fun ds s1 q vs H1 G1 ads r1 t1 it => ?_⟩
  have hvl : vs.length = ms.length := it.len
  refine ⟨Nat.le_trans (by omega) (show 1000 ≤ sizeLine by decide), fun p hp => ?_⟩
  cases e : setVs is ds s1 with
  | none => rw [e] at q; exact q.elim
  | some s2 =>
    rw [e] at q
    obtain ⟨r1', t1', nz', nm'⟩ := r1.laidF (mu := false) (o := .tup vs) hp
    have t2 := t1.trans t1'
    obtain ⟨G2, r2, z1, z2, z3⟩ := setM ms is ds vs ads own1 s1 s2 G1 σ r1' (it.laid hp) (fun j hj a ha => r.newNe t1 (it.new a ha) j hj) e
    have en1 := en.step t2
    have lt1 := r.lt t2
    refine ⟨p, vs, rfl, .inl (.inl upd_same), by omega, by omega, ?_⟩
    refine q _ _ G2 r2 ⟨?_, fun j hj => ?_⟩ ⟨by rw [z1]; exact lt1.zz, lt1.rd, by rw [z2]; exact lt1.mm, lt1.fz⟩
    · have : ({ G2 with ad := G0.ad } : Gh) = { G1 with ad := G0.ad } := by
        obtain ⟨a, b, c'⟩ := G2
        cases z1; cases z2; rfl
      rw [this]; exact en1.stp
    · rcases z3 j hj with ⟨h1, h2⟩ | h1
      · rw [h2]; exact en1.new j h1
      · exact en.stp.fresh (it.new _ h1)
end
end Lb

set_option maxRecDepth 100000
set_option maxHeartbeats 1000000
namespace Lb
open PySem PySem.Spec PyProof.Rows L2
/-! ### a locked dict is shut, to be walked -/
structure Shut (H H2 : Hp) (d : Addr) (o : Obj) (u : HO) : Prop where
  at_ : H2 d = some (.frz o u)
  or_ : H2 = H ∨ (H d = some u ∧ H2 = upd H d (.frz o u))
def tShut (te : TE) : TE := fun σ H Q => te σ H fun x H1 => ∃ d u, x = .ref d ∧ Rd H1 d u ∧ isDic u = true ∧ ∀ o H2, Shut H1 H2 d o u → Q x H2
section
variable {X : Cx} {c : Cfg} {Γ : List Fn} {own own1 own2 : List Nat} {mu : Bool} {e tg : Expr} {es : List Expr} {as : List T} {te td ta : T} {pos apos cpos tpos : Pos} {elts : List Expr} {kk : Nat}
theorem pe_shut {t : TE} (he : PE X e t) : PE X e (tShut t) := by
  constructor
  intro pins s σ H Q I h
  refine thn (he.run pins s σ H _ I h) fun v s1 ⟨x, H1, I1, rx, d, u, ex, hd, hu, q⟩ => ?_
  rcases hd with hd | ⟨o, hd⟩
  · have mu : Mut (some u) := by cases u <;> first | exact True.intro | cases hu
    obtain ⟨od, I2⟩ := I1.lock hd mu
    exact ⟨x, _, I2, rx, q od _ ⟨upd_same, .inr ⟨hd, rfl⟩⟩⟩
  · exact ⟨x, H1, I1, rx, q o H1 ⟨hd, .inl rfl⟩⟩
theorem Rel.shut {K : PySem.W.Frag} {s : S} {G : Gh} {σ : L2.St} {H H2 : Hp} {d : Addr} {o : Obj} {u : HO} (r : Rel K own s G σ H) (z : G.Z d) (hu : isDic u = true) (h : Shut H H2 d o u) : Rel K own s G σ H2 ∧ Stp own own false G H G H2 := by
  rcases h.or_ with e | ⟨hd, e⟩
  · rw [e]; exact ⟨r, Stp.refl⟩
  subst e
  have rd : ∀ p w, Rd H p w → Rd (upd H d (.frz o u)) p w := fun p w q => by
    by_cases hp : p = d
    · subst hp
      rcases q with q | ⟨o', q⟩
      · rw [hd] at q; cases q; exact .inr ⟨o, upd_same⟩
      · rw [hd] at q; cases q; cases hu
    · rcases q with q | ⟨o', q⟩
      · exact .inl (by rw [upd_ne hp]; exact q)
      · exact .inr ⟨o', by rw [upd_ne hp]; exact q⟩
  have live : ∀ p, (∃ w, H p = some w) → ∃ w, (upd H d (.frz o u)) p = some w := fun p ⟨w, q⟩ => by
    by_cases hp : p = d
    · exact ⟨_, by rw [hp]; exact upd_same⟩
    · exact ⟨w, by rw [upd_ne hp]; exact q⟩
  refine ⟨⟨r.len, fun i x e => ?_, fun p q => live p (r.zl p q), fun i hi => ⟨(r.oz i hi).1, (r.oz i hi).2.1, live _ (r.oz i hi).2.2⟩, r.inj, ⟨r.sto.len, fun n xs e => ?_⟩, r.mz, r.mnd⟩, ⟨fun p w q hm ho => ?_, fun p w q => live p ⟨w, q⟩, fun _ q => q, fun _ q => .inl q, rfl, ⟨[], by simp, fun _ q => by simp at q⟩, fun _ q => q⟩⟩
  · obtain ⟨v, e1, e2, e3⟩ := r.slot i x e
    refine ⟨v, e1, fun hi => Own.mono (fun _ q => q) (fun p w _ q => rd p w q) (fun _ _ q => q) (fun w q => ?_) (e2 hi), fun hi => Rep.mono (fun _ q => q) (fun p w _ q => rd p w q) (fun _ _ q => q) _ _ (e3 hi)⟩
    rw [upd_ne fun e => (r.oz i hi).1 (by rw [e]; exact z)]; exact q
  · obtain ⟨a, vs, e1, e2, e3, e4⟩ := r.sto.at_ n xs e
    refine ⟨a, vs, e1, ?_, e3, Reps.mono (fun _ q => q) (fun p w _ q => rd p w q) (fun _ _ q => q) _ _ e4⟩
    rw [upd_ne fun e => r.mz a (List.mem_of_getElem? e1) (by rw [e]; exact z)]; exact e2
  · by_cases hp : p = d
    · subst hp
      rw [hd] at q
      cases q
      exact .inr ⟨z, hu, o, upd_same⟩
    · exact .inl (by rw [upd_ne hp]; exact q)
theorem RepE.at {K : PySem.W.Frag} {H : Hp} {Z : Zs} {μ : List Addr} : ∀ {kvs : List (D × D)} {ks : List (Key × V)} {i : Nat} {k : Key} {v : V}, kvs.map Prod.fst = ks.map (fun p => kD p.1) → RepE K H Z μ kvs (ks.map (·.2)) → ks[i]? = some (k, v) → ∃ d, kvs[i]? = some (kD k, d) ∧ Rep K H Z μ d v
  | [], [], i, _, _, _, _, e => by simp at e
  | [], _ :: _, _, _, _, e, _, _ => by simp at e
  | _ :: _, [], _, _, _, e, _, _ => by simp at e
  | (a, d) :: kvs, (b, w) :: ks, i, k, v, e, r, h => by
    obtain ⟨v', r', e', h1, h2⟩ := (show ∃ v r, w :: ks.map (·.2) = v :: r ∧ Rep K H Z μ d v ∧ RepE K H Z μ kvs r from r)
    cases e'
    simp only [List.map_cons, List.cons.injEq] at e
    obtain ⟨rfl, e2⟩ := e
    cases i with
    | zero => simp at h; obtain ⟨rfl, rfl⟩ := h; exact ⟨d, rfl, h1⟩
    | succ i => simpa using RepE.at e2 h2 (by simpa using h)
section
variable {K : PySem.W.Frag} {G : Gh} {H : Hp} {a : Addr} {o : Obj} {kvs : List (D × D)} {ks : List (Key × V)}
theorem kD_repR {K : PySem.W.Frag} {H : Hp} {Z : Zs} {μ : List Addr} (k : Key) : Rep K H Z μ (kD k) (kV k) := by cases k <;> exact rfl
theorem wk_keys (z : G.Z a) (h : H a = some (.frz o (.dK ks))) (e1 : kvs.map Prod.fst = ks.map (fun p => kD p.1)) (r : RepE K H G.Z G.μ kvs (ks.map (·.2))) : Wk K G H [] (wkK .keys) (kvs.map (·.1)) (Itk a o ks) := fun H2 Z2 μ2 hz hr hm hf _ => by
  have q := hf a o _ z h
  have ln : kvs.length = ks.length := by have := congrArg List.length e1; simpa using this
  rw [List.length_map]
  refine ⟨fun i hi => ⟨q, by omega⟩, ⟨q, by omega⟩, fun i d x H3 hd y => ?_⟩
  obtain ⟨rfl, k, v, hk, rfl⟩ := y
  obtain ⟨d', g1, _⟩ := RepE.at e1 r hk
  rw [List.getElem?_map, g1] at hd
  cases hd
  exact ⟨Z2, Grow.refl, .inl (kD_repR k)⟩
theorem wk_vals (z : G.Z a) (h : H a = some (.frz o (.dK ks))) (e1 : kvs.map Prod.fst = ks.map (fun p => kD p.1)) (r : RepE K H G.Z G.μ kvs (ks.map (·.2))) : Wk K G H [] (wkK .vals) (kvs.map (·.2)) (Itd a o ks) := fun H2 Z2 μ2 hz hr hm hf _ => by
  have q := hf a o _ z h
  have ln : kvs.length = ks.length := by have := congrArg List.length e1; simpa using this
  rw [List.length_map]
  refine ⟨fun i hi => ⟨q, by omega⟩, ⟨q, by omega⟩, fun i d x H3 hd y => ?_⟩
  obtain ⟨rfl, k, hk⟩ := y
  obtain ⟨d', g1, g2⟩ := RepE.at e1 r hk
  rw [List.getElem?_map, g1] at hd
  cases hd
  exact ⟨Z2, Grow.refl, .inl (Rep.mono hz hr hm _ _ g2)⟩
theorem wk_items (z : G.Z a) (h : H a = some (.frz o (.dK ks))) (e1 : kvs.map Prod.fst = ks.map (fun p => kD p.1)) (r : RepE K H G.Z G.μ kvs (ks.map (·.2))) : Wk K G H [] (wkK .items) (kvs.map fun p => .tup [p.1, p.2]) (Iti a o ks) := fun H2 Z2 μ2 hz hr hm hf _ => by
  have q := hf a o _ z h
  have ln : kvs.length = ks.length := by have := congrArg List.length e1; simpa using this
  rw [List.length_map]
  refine ⟨fun i hi => ⟨q, by omega⟩, ⟨q, by omega⟩, fun i d x H3 hd y => ?_⟩
  obtain ⟨T, k, v, hk, rfl, hT, rfl⟩ := y
  obtain ⟨d', g1, g2⟩ := RepE.at e1 r hk
  rw [List.getElem?_map, g1] at hd
  cases hd
  exact pair_out hT (kD_repR k) (Rep.mono hz hr hm _ _ g2)
end
/-- the walk begins -/
theorem shut_pre {k : IK} {f : List (D × D) → List D} {J : Addr → Obj → List (Key × V) → It} (hf : ∀ d xs, items k [d] = some xs → ∃ kvs, d = .dic false kvs ∧ xs = f kvs) (wk : ∀ {K : PySem.W.Frag} {G : Gh} {H : Hp} {a : Addr} {o : Obj} {kvs : List (D × D)} {ks : List (Key × V)}, G.Z a → H a = some (.frz o (.dK ks)) → kvs.map Prod.fst = ks.map (fun p => kD p.1) → RepE K H G.Z G.μ kvs (ks.map (·.2)) → Wk K G H [] (wkK k) (f kvs) (J a o ks))
    {σ : L2.St} {H : Hp} {R : It → Hp → Prop} (h : tI c own own1 [] k (evI Γ k [ta]) σ H R) : tShut (tE c own own1 false .sh (ev Γ ta)) σ H fun x H1 => ∃ d o kvs, x = .ref d ∧ H1 d = some (.frz o (.dK kvs)) ∧ R (J d o kvs) H1 := by
  obtain ⟨s, G, r, q⟩ := h
  simp only [evI, evs_cons, evs_nil, Post.bind, Post.ok] at q
  refine ⟨s, G, r, q.mono fun d s1 q v H1 G1 r1 t1 rp => ?_⟩
  obtain ⟨xs, hi, q⟩ := q.opt2
  obtain ⟨kvs, rfl, rfl⟩ := hf d xs hi
  obtain ⟨a, vs, rfl, z, ⟨ks, q1, e1, rfl⟩, r2⟩ := (show ∃ a vs, v = V.ref a ∧ G1.Z a ∧ DicAt (Rd H1) a false (kvs.map Prod.fst) vs ∧ RepE c.K H1 G1.Z G1.μ kvs vs from rp)
  refine ⟨a, .dK ks, rfl, q1, rfl, fun o H2 hs => ?_⟩
  obtain ⟨r3, t3⟩ := r1.shut z rfl hs
  refine ⟨a, o, ks, rfl, hs.at_, q _ H2 G1 r3 (t1.trans t3) (wk z hs.at_ e1 (RepE.mono (fun _ z => z) (fun p u z w => r1.rd t3 z w) (fun _ _ q => q) _ _ r2))⟩
theorem si_keys (ha : PE X e (tE c own own1 false .sh (ev Γ ta))) : PI X tg e (tI c own own1 [] .keys (evI Γ .keys [ta])) := imI (pi_keys (pe_shut ha)) fun σ H R h => by
  have := shut_pre (k := .keys) (J := fun d o ks => Itk d o ks) (f := fun (kvs : List (D × D)) => kvs.map (·.1)) (fun d xs h => by
    cases d <;> first | exact nomatch (show (none : Option (List D)) = some xs from h) | skip
    rename_i t kvs
    cases t with
    | true => exact nomatch (show (none : Option (List D)) = some xs from h)
    | false => cases h; exact ⟨kvs, rfl, rfl⟩) (fun z h e1 r => wk_keys z h e1 r) h
  obtain ⟨s, G, r, q⟩ := this
  refine ⟨s, G, r, q.mono fun d s1 q v H1 G1 r1 t1 rp => ?_⟩
  obtain ⟨a, u, e1, e2, e3, q⟩ := q v H1 G1 r1 t1 rp
  refine ⟨a, u, e1, e2, e3, fun o H2 hs => ?_⟩
  obtain ⟨d, o', kvs, e4, e5, e6⟩ := q o H2 hs
  exact ⟨d, o', e4, .inl ⟨kvs, e5, e6⟩⟩
theorem si_items (ha : PE X e (tE c own own1 false .sh (ev Γ ta))) (hb : attributeBase e "items" X.env (eval e X.env) = eval e X.env) (hline : (apos.endLine == cpos.line) = true) : PI X (.Tuple elts kk tpos) (.Call (.Attribute e "items" apos) [] [] cpos) (tI c own own1 [] .items (evI Γ .items [ta])) := imI (pi_items (pe_shut ha) hb hline) fun σ H R h =>
  shut_pre (k := .items) (J := fun d o ks => Iti d o ks) (f := fun (kvs : List (D × D)) => kvs.map fun p => .tup [p.1, p.2]) (fun d xs h => by
    cases d <;> first | exact nomatch (show (none : Option (List D)) = some xs from h) | skip
    rename_i t kvs
    cases t with
    | true => exact nomatch (show (none : Option (List D)) = some xs from h)
    | false => cases h; exact ⟨kvs, rfl, rfl⟩) (fun z h e1 r => wk_items z h e1 r) h
theorem si_vals (ha : PE X e (tE c own own1 false .sh (ev Γ ta))) (hb : attributeBase e "values" X.env (eval e X.env) = eval e X.env) (hline : (apos.endLine == cpos.line) = true) : PI X tg (.Call (.Attribute e "values" apos) [] [] cpos) (tI c own own1 [] .vals (evI Γ .vals [ta])) := imI (pi_values (pe_shut ha) hb hline) fun σ H R h =>
  shut_pre (k := .vals) (J := fun d o ks => Itd d o ks) (f := fun (kvs : List (D × D)) => kvs.map (·.2)) (fun d xs h => by
    cases d <;> first | exact nomatch (show (none : Option (List D)) = some xs from h) | skip
    rename_i t kvs
    cases t with
    | true => exact nomatch (show (none : Option (List D)) = some xs from h)
    | false => cases h; exact ⟨kvs, rfl, rfl⟩) (fun z h e1 r => wk_vals z h e1 r) h
end
end Lb

set_option maxRecDepth 100000
set_option maxHeartbeats 1000000
namespace Lb
open PySem PySem.Spec PyProof.Rows L2
/-! ### dicts: made of pairs, stored into -/
section
variable {K : PySem.W.Frag} {H : Hp} {Z : Zs} {μ : List Addr}
theorem pairs_reps : ∀ {xs : List D} {ps : List (D × D)} {vs : List V}, pairsOf xs = some ps → Reps K H Z μ xs vs → ∃ (ts : List Addr) (ks : List (Key × V)), vs = ts.map V.ref ∧ Paired (fun p kv => SqT K H p [kV kv.1, kv.2]) ts ks ∧ ps.map Prod.fst = ks.map (fun p => kD p.1) ∧ RepE K H Z μ ps (ks.map (·.2))
  | [], ps, vs, e, r => by
    cases e
    cases (show vs = [] from r)
    exact ⟨[], [], rfl, .nil, rfl, rfl⟩
  | x :: xs, ps, vs, e, r => by
    obtain ⟨v, r', rfl, h1, h2⟩ := (show ∃ v r, vs = v :: r ∧ Rep K H Z μ x v ∧ Reps K H Z μ xs r from r)
    obtain ⟨k, d, rfl⟩ : ∃ k d, x = .tup [k, d] := by
      cases x with
      | tup l =>
        match l, e with
        | [k, d], _ => exact ⟨k, d, rfl⟩
        | [], e => cases e
        | [_], e => cases e
        | _ :: _ :: _ :: _, e => cases e
      | _ => cases e
    replace e : (if keyB k then (pairsOf xs).map ((k, d) :: ·) else none) = some ps := e
    split at e
    · rename_i hk
      cases e2 : pairsOf xs with
      | none => rw [e2] at e; cases e
      | some qs =>
        rw [e2] at e
        cases e
        obtain ⟨kk, rfl⟩ := keyB_some hk
        obtain ⟨t, ws, rfl, g1, g2, g3⟩ := (show ∃ a vs, v = V.ref a ∧ TupAt K H Z a vs ∧ vs.length ≤ sizeLine ∧ Reps K H Z μ [kD kk, d] vs from h1)
        obtain ⟨w1, _, rfl, g4, w2, _, rfl, g5, rfl⟩ := g3
        cases kD_rep g4
        obtain ⟨ts, ks, rfl, f1, f2, f3⟩ := pairs_reps e2 h2
        exact ⟨t :: ts, (kk, w2) :: ks, rfl, .cons (SqT.of' g1) f1, by simp [f2], ⟨w2, _, rfl, g5, f3⟩⟩
    · cases e
theorem merge_reps : ∀ {ps : List (D × D)} {ks : List (Key × V)} {kvs : List (D × D)} {ls : List (Key × V)}, ps.map Prod.fst = ks.map (fun p => kD p.1) → RepE K H Z μ ps (ks.map (·.2)) → kvs.map Prod.fst = ls.map (fun p => kD p.1) → RepE K H Z μ kvs (ls.map (·.2)) → (mergeD kvs ps).map Prod.fst = (mergeK ls ks).map (fun p => kD p.1) ∧ RepE K H Z μ (mergeD kvs ps) ((mergeK ls ks).map (·.2))
  | [], [], kvs, ls, _, _, e, r => ⟨e, r⟩
  | [], _ :: _, _, _, e, _, _, _ => by simp at e
  | _ :: _, [], _, _, e, _, _, _ => by simp at e
  | (a, d) :: ps, (b, w) :: ks, kvs, ls, e, r, e2, r2 => by
    obtain ⟨v, r', e', h1, h2⟩ := (show ∃ v r, w :: ks.map (·.2) = v :: r ∧ Rep K H Z μ d v ∧ RepE K H Z μ ps r from r)
    cases e'
    simp only [List.map_cons, List.cons.injEq] at e
    obtain ⟨rfl, e3⟩ := e
    obtain ⟨q1, q2⟩ := RepE.put kD_eqv b h1 e2 r2
    exact merge_reps (kvs := dput kvs (kD b) d) (ls := putK ls b w) e3 h2 q1 q2
end
def rPD (K : PySem.W.Frag) : List V → Hp → VK → Prop := fun xs H Q => ∃ st Z μ ds d, StoR K H Z μ st ∧ RepTs K H Z μ ds xs ∧ prim st .dict ds = some d ∧ ∀ a ks kvs, d = .dic false kvs → H a = none → kvs.map Prod.fst = ks.map (fun p => kD p.1) → RepE K H Z μ kvs (ks.map (·.2)) → Q (.ref a) (upd H a (.dK ks))
section
variable {X : Cx} {c : Cfg} {Γ : List Fn} {own own1 own2 own' : List Nat} {mu : Bool} {e k : Expr} {es : List Expr} {as : List T} {t tk ta : T} {pos tpos p1 : Pos}
theorem c_dictF (hc : X.calm = true) : CallR X (.type "dict") (rPD X.K) := by
  intro pins s σ H xs us Q I r h
  obtain ⟨st, Z, μ, ds, d, hs, h1, hp, q⟩ := h
  obtain ⟨d1, rfl⟩ := un1 hp rfl (fun a b r => by cases a <;> rfl)
  obtain ⟨x, rfl, h2⟩ := repTs1 h1
  clear h1
  cases d1 <;> first | exact nomatch (show (none : Option D) = some d from hp) | skip
  rename_i ys
  replace hp : (pairsOf ys).map (fun ps => D.dic false (mergeD [] ps)) = some d := hp
  cases e : pairsOf ys with
  | none => rw [e] at hp; cases hp
  | some ps =>
    rw [e] at hp
    cases hp
    obtain ⟨a, vs, rfl, s1, z1, r1⟩ := lstE h2
    obtain ⟨ts, ks, rfl, f1, f2, f3⟩ := pairs_reps e r1
    obtain ⟨g1, g2⟩ := merge_reps (kvs := []) (ls := []) f2 f3 rfl rfl
    exact call_dictP hc pins s σ H _ us Q I r ⟨a, ts, ks, rfl, SqL.of' s1, f1, fun p hp => q p _ _ rfl hp g1 g2⟩
theorem se_dict (hK : c.K = X.K) (hc : X.calm = true) (hg : Gl X "dict") (hm : X.mg "dict" = none) (ha : PA X [e] (tAs c own own1 false true (evs Γ [ta]))) (he : starEach [e] X.env = (false, eval e X.env) :: starEach [] X.env) : PE X (.Call (.Name "dict" p1) [e] [] pos) (tE c own own1 false .fr (ev Γ (.prim .dict [ta]))) :=
  imE (pe_callTy (c_dictF hc) hg hm (show bootBuiltins "dict" = some (.type "dict") by decide +kernel) ha (by decide) (by decide) he (by rfl)) fun σ H Q ⟨s, G, r, q⟩ => by
  simp only [ev_prim, Post.bind] at q
  refine ⟨s, G, r, q.mono fun ds s1 q vs H1 G1 r1 t1 rp1 => ?_⟩
  obtain ⟨d, hp, q⟩ := q.opt2
  rw [← hK]
  refine ⟨_, _, _, _, _, r1.sto, rp1, hp, fun a ks kvs ed hn e1 r2 => ?_⟩
  subst ed
  obtain ⟨r', t', nz, nm⟩ := r1.laidF (mu := false) (o := .dK ks) hn
  exact q _ _ G1 r' (t1.trans t') ⟨a, ⟨rfl, ks.map (·.2), ⟨ks, upd_same, e1, rfl⟩, RepE.mono (fun _ z => z) (fun p u z w => r1.rd t' z w) (fun _ _ q => q) _ _ r2⟩, nz, nm, t1.fresh hn⟩
theorem pairsOf_back : ∀ {kvs ps : List (D × D)}, pairsOf (kvs.map fun p => D.tup [p.1, p.2]) = some ps → ps = kvs
  | [], ps, e => by cases e; rfl
  | (k, d) :: kvs, ps, e => by
    replace e : (if keyB k then (pairsOf (kvs.map fun p => D.tup [p.1, p.2])).map ((k, d) :: ·) else none) = some ps := e
    split at e
    · cases e2 : pairsOf (kvs.map fun p => D.tup [p.1, p.2]) with
      | none => rw [e2] at e; cases e
      | some qs => rw [e2] at e; cases e; rw [pairsOf_back e2]
    · cases e
theorem pairs_sq {K : PySem.W.Frag} {H' : Hp} : ∀ {ts : List Addr} {ks : List (Key × V)}, Paired (fun (t : Addr) (q : Key × V) => H' t = some (.tup [kV q.1, q.2])) ts ks → Paired (fun p kv => SqT K H' p [kV kv.1, kv.2]) ts ks
  | _, _, .nil => .nil
  | _, _, .cons h r => .cons (.inl (.inl h)) (pairs_sq r)
/-- dict(list(d.items())) -/
theorem se_dcopy {p2 apos cpos lpos : Pos} (hK : c.K = X.K) (hc : X.calm = true) (hg : Gl X "dict") (hm : X.mg "dict" = none) (hgl : Gl X "list") (hml : X.mg "list" = none) (he : PE X e (tE c own own1 false .pk (ev Γ ta))) (hb : attributeBase e "items" X.env (eval e X.env) = eval e X.env) (hline : (apos.endLine == cpos.line) = true) :
    PE X (.Call (.Name "dict" p1) [.Call (.Name "list" p2) [.Call (.Attribute e "items" apos) [] [] cpos] [] lpos] [] pos) (tE c own own1 false .fr (ev Γ (.prim .dict [.litems ta]))) :=
  imE (pe_callTy (call_dictP hc) hg hm (show bootBuiltins "dict" = some (.type "dict") by decide +kernel) (pa_cons (pe_lit hc he hgl hml hb hline rfl) pa_nil rfl) (by decide) (by decide) rfl (by rfl)) fun σ H Q ⟨s, G, r, q⟩ => by
  simp only [ev_prim, evs_cons, evs_nil, ev_litems, Post.bind, Post.ok] at q
  refine ⟨s, G, r, q.mono fun d s1 q v H1 G1 r1 t1 rp => ?_⟩
  obtain ⟨kvs, rfl⟩ : ∃ kvs, d = .dic false kvs := by
    cases d with
    | dic t kvs =>
      cases t with
      | true => exact q.elim
      | false => exact ⟨kvs, rfl⟩
    | _ => exact q.elim
  replace q : Post c own G σ H _ (if fits kvs then R.ok (D.lst (kvs.map fun p => .tup [p.1, p.2])) s1 else R.fail) := q
  split at q
  · obtain ⟨d, hp, q⟩ := Post.opt q
    replace hp : (pairsOf (kvs.map fun p => D.tup [p.1, p.2])).map (fun ps => D.dic false (mergeD [] ps)) = some d := hp
    cases e : pairsOf (kvs.map fun p => D.tup [p.1, p.2]) with
    | none => rw [e] at hp; cases hp
    | some ps =>
      rw [e] at hp
      cases hp
      cases pairsOf_back e
      obtain ⟨a, vs, rfl, _, ⟨ks, q1, e1, rfl⟩, r2⟩ := dicE rp
      refine ⟨a, ks, rfl, q1, fun H' p ts k1 k2 k3 k4 k5 k6 => ⟨p, ts, ks, rfl, .inl (.inl k5), pairs_sq k6, fun p2 hp2 => ?_⟩⟩
      obtain ⟨r3, t3⟩ := r1.grow (mu := false) (Z' := G1.Z) (H' := H') ⟨k1, fun _ z => z, fun _ z => .inl z⟩
      obtain ⟨r4, t4, nz, nm⟩ := r3.laidF (mu := false) (o := .dK (mergeK [] ks)) hp2
      obtain ⟨g1, g2⟩ := merge_reps (kvs := []) (ls := []) e1 r2 rfl rfl
      exact q _ _ G1 r4 ((t1.trans t3).trans t4) ⟨p2, ⟨rfl, _, ⟨_, upd_same, g1, rfl⟩, RepE.mono (fun _ z => z) (fun p u z w => r1.rd (t3.trans t4) z w) (fun _ _ q => q) _ _ g2⟩, nz, nm, t1.fresh (t3.fresh hp2)⟩
  · exact q.elim
/-- an own container changes -/
theorem Rel.setOwnG {K : PySem.W.Frag} {s : S} {G : Gh} {σ : L2.St} {H : Hp} {i : Nat} {d d' : D} {o : HO} (r : Rel K own s G σ H) (hi : i ∈ own) (e : s.env[i]? = some (some d)) (h : (∀ p u, G.Z p → Rd H p u → Rd (upd H (G.ad i) o) p u) → Own K (upd H (G.ad i) o) G.Z G.μ (G.ad i) d' (.ref (G.ad i))) :
    Rel K own (setV i d' s) G σ (upd H (G.ad i) o) ∧ Stp own own true G H G (upd H (G.ad i) o) := by
  obtain ⟨oz1, oz2, oz3⟩ := r.oz i hi
  have hr : ∀ p u, G.Z p → Rd H p u → Rd (upd H (G.ad i) o) p u := fun p u z q => by
    have hp : p ≠ G.ad i := fun e => oz1 (by rw [← e]; exact z)
    rcases q with q | ⟨o, q⟩
    · exact .inl (by rw [upd_ne hp]; exact q)
    · exact .inr ⟨o, by rw [upd_ne hp]; exact q⟩
  have live : ∀ p w, H p = some w → ∃ o', (upd H (G.ad i) o) p = some o' := fun p w q => by
    by_cases hp : p = G.ad i
    · exact ⟨_, by rw [hp]; exact upd_same⟩
    · exact ⟨w, by rw [upd_ne hp]; exact q⟩
  have mm : ∀ (n : Nat) a, G.μ[n]? = some a → G.μ[n]? = some a := fun _ _ q => q
  refine ⟨⟨by simp [setV, r.len], fun j x hj => ?_, fun p z => ?_, fun j hj => ⟨(r.oz j hj).1, (r.oz j hj).2.1, ?_⟩, r.inj, ⟨r.sto.len, fun n xs q => ?_⟩, r.mz, r.mnd⟩, ⟨fun p w q _ ho => ?_, live, fun _ z => z, fun _ z => .inl z, rfl, ⟨[], by simp, fun _ q => by simp at q⟩, fun _ q => q⟩⟩
  · simp only [setV] at hj
    by_cases hji : j = i
    · subst hji
      have hl : j < s.env.length := by
        have := (List.getElem?_eq_some_iff.mp hj).1
        rw [List.length_set] at this; exact this
      rw [List.getElem?_set_self hl] at hj
      cases hj
      obtain ⟨v, e1, e2, _⟩ := r.slot j _ e
      obtain ⟨e3, _⟩ := (e2 hi).live
      exact ⟨v, e1, fun _ => by rw [e3]; exact h hr, fun z => absurd hi z⟩
    · rw [List.getElem?_set_ne (fun z => hji z.symm)] at hj
      obtain ⟨u, e1, e2, e3⟩ := r.slot j x hj
      refine ⟨u, e1, fun z => Own.mono (fun _ q => q) hr mm (fun o q => ?_) (e2 z), fun z => Rep.mono (fun _ q => q) hr mm _ _ (e3 z)⟩
      rw [upd_ne (fun q => hji (r.inj j z i hi q))]; exact q
  · obtain ⟨o, q⟩ := r.zl p z
    exact live p o q
  · obtain ⟨_, _, o, q⟩ := r.oz j hj
    exact live _ o q
  · obtain ⟨b, vs, e1, e2, e3, e4⟩ := r.sto.at_ n xs q
    refine ⟨b, vs, e1, ?_, e3, Reps.mono (fun _ q => q) hr mm _ _ e4⟩
    rw [upd_ne (fun z => oz2 (by rw [← z]; exact List.mem_of_getElem? e1))]; exact e2
  · rw [upd_ne (fun z => ho rfl i hi z.symm)]; exact .inl q
theorem dicAt_some {b : Bool} {i : Nat} {s : S} {kvs : List (D × D)} (h : dicAt b i s = some kvs) : s.env[i]? = some (some (.dic b kvs)) := by
  unfold dicAt at h
  split at h
  · rename_i u l e
    split at h
    · rename_i hu
      cases h
      rw [e, hu]
    · cases h
  · cases h
/-- d[k] = e, d an own slot -/
theorem sp_dput {i : Nat} {x : Str} {pn : Pos} (hN : X.N[i]? = some x) (hv : Vis X.env.scope x) (hd : (x == ("__debug__" : Str)) = false) (hcd : (x == ("__classdict__" : Str)) = false) (hu : X.A.units + 64 < cLine) (hi1 : i ∈ own1) (hi2 : i ∈ own2) (he : PE X e (tE c own own1 mu .sh (ev Γ t))) (hk : PE X k (tE c own1 own2 false .pk (ev Γ tk)))
    (hs : swapsWith e (some (.Subscript (.Name x pn) k tpos)) pos.line X.env = pure false) : PS X (.Assign [.Subscript (.Name x pn) k tpos] e pos) (tS c own own2 (ex Γ (.dput i tk t))) :=
  imS (ps_dput (by omega) (pe_var hN hv hd hcd) hk he hs) fun E σ H ⟨s, G, G0, H0, r, en, q⟩ => by
  replace q : PostS c G0 H0 own2 E G H ((ev Γ t s).bind fun d s => (opt s (dicAt false i s)).bind fun _ s => (ev Γ tk s).bind fun x s => match dicAt false i s with
      | some kvs => if keyB x = true ∧ kvs.length < sizeLine then .ok .next (setV i (.dic false (dput kvs x d)) s) else .fail
      | none => .fail) := q
  refine ⟨s, G, r, (q.ofE r en).mono fun d s1 q v H1 G1 r1 t1 rp => ?_⟩
  cases e0 : dicAt false i s1 with
  | none => rw [e0] at q; exact q.elim
  | some kvs0 =>
    rw [e0, opt_some, R.bind_ok] at q
    obtain ⟨v0, f1, f2, _⟩ := r1.slot i _ (dicAt_some e0)
    obtain ⟨f3, _⟩ := (f2 hi1).live
    refine ⟨v0, f1, s1, G1, r1, ((q.move (r.lt t1)).ofE r1 (en.step t1)).mono fun y s2 q w H2 G2 r2 t2 rpk => ?_⟩
    cases e1 : dicAt false i s2 with
    | none => rw [e1] at q; exact q.elim
    | some kvs =>
      rw [e1] at q
      replace q : PostS c G0 H0 own2 E G1 H1 (if keyB y = true ∧ kvs.length < sizeLine then .ok .next (setV i (.dic false (dput kvs y d)) s2) else .fail) := q
      split at q
      · rename_i hc
        obtain ⟨kk, rfl⟩ := keyB_some hc.1
        obtain ⟨v1, g1, g2, _⟩ := r2.slot i _ (dicAt_some e1)
        obtain ⟨g3, ws, ⟨ks, g4, g5, rfl⟩, g6⟩ := g2 hi2
        rw [f1] at g1
        cases g1
        cases kD_repT rpk
        have hl : ks.length = kvs.length := by have := congrArg List.length g5; simpa using this.symm
        obtain ⟨q1, q2⟩ := RepE.put kD_eqv kk (r1.rep t2 rp) g5 g6
        obtain ⟨rN, tN⟩ := r2.setOwnG hi2 (dicAt_some e1) (d' := .dic false (dput kvs (kD kk) d)) (o := .dK (putK ks kk v)) fun hr => ⟨rfl, _, ⟨_, upd_same, q1, rfl⟩, RepE.mono (fun _ z => z) hr (fun _ _ q => q) _ _ q2⟩
        rw [g3]
        refine ⟨G2.ad i, _, rfl, .inl ⟨ks, kk, g4, rfl, by omega, rfl⟩, ?_⟩
        exact q σ _ G2 rN (((en.step t1).step t2).step tN) ((r1.lt t2).trans (r2.lt tN))
      · exact q.elim
theorem sp_dputT {i : Nat} {x : Str} {pn p2 : Pos} {kt : Nat} (hN : X.N[i]? = some x) (hv : Vis X.env.scope x) (hd : (x == ("__debug__" : Str)) = false) (hcd : (x == ("__classdict__" : Str)) = false) (hu : X.A.units + 64 < cLine) (hi1 : i ∈ own1) (hi2 : i ∈ own2) (he : PE X e (tE c own own1 mu .sh (ev Γ t))) (hk : PA X es (tAs c own1 own2 false false (evs Γ as)))
    (hs : swapsWith e (some (.Subscript (.Name x pn) (.Tuple es kt p2) tpos)) pos.line X.env = pure false) : PS X (.Assign [.Subscript (.Name x pn) (.Tuple es kt p2) tpos] e pos) (tS c own own2 (ex Γ (.dputT i as t))) :=
  imS (ps_dput (by omega) (pe_var hN hv hd hcd) (pe_tup hk) he hs) fun E σ H ⟨s, G, G0, H0, r, en, q⟩ => by
  replace q : PostS c G0 H0 own2 E G H ((ev Γ t s).bind fun d s => (opt s (dicAt true i s)).bind fun _ s => (evs Γ as s).bind fun xs s => match dicAt true i s with
      | some kvs => if xs.all keyB = true ∧ kvs.length < sizeLine ∧ xs.length ≤ 1000 then .ok .next (setV i (.dic true (dput kvs (.tup xs) d)) s) else .fail
      | none => .fail) := q
  refine ⟨s, G, r, (q.ofE r en).mono fun d s1 q v H1 G1 r1 t1 rp => ?_⟩
  cases e0 : dicAt true i s1 with
  | none => rw [e0] at q; exact q.elim
  | some kvs0 =>
    rw [e0, opt_some, R.bind_ok] at q
    obtain ⟨v0, f1, f2, _⟩ := r1.slot i _ (dicAt_some e0)
    refine ⟨v0, f1, s1, G1, r1, ((q.move (r.lt t1)).ofE r1 (en.step t1)).mono fun ys s2 q ws H2 G2 r2 t2 rpk => ?_⟩
    replace rpk : Reps c.K H2 G2.Z G2.μ ys ws := rpk
    cases e1 : dicAt true i s2 with
    | none => rw [e1] at q; exact q.elim
    | some kvs =>
      rw [e1] at q
      replace q : PostS c G0 H0 own2 E G1 H1 (if ys.all keyB = true ∧ kvs.length < sizeLine ∧ ys.length ≤ 1000 then .ok .next (setV i (.dic true (dput kvs (.tup ys) d)) s2) else .fail) := q
      split at q
      · rename_i hc
        obtain ⟨kk, rfl⟩ := keysB hc.1
        refine ⟨by rw [rpk.length]; exact Nat.le_trans hc.2.2 (by decide), fun p hp => ?_⟩
        obtain ⟨r3, t3, nz, nm⟩ := r2.laidF (mu := false) (o := .tup ws) hp
        obtain ⟨v1, g1, g2, _⟩ := r3.slot i _ (dicAt_some e1)
        obtain ⟨g3, us, ⟨ks, g4, g5, rfl⟩, g6⟩ := g2 hi2
        rw [f1] at g1
        cases g1
        have hl : ks.length = kvs.length := by have := congrArg List.length g5; simpa using this.symm
        have hp3 : (upd H2 p (.tup ws)) p = some (.tup (kk.map kV)) := by rw [upd_same, kDs_rep rpk]
        obtain ⟨q1, q2⟩ := RepE.put (f := fun k : List Key => D.tup (k.map kD)) kDs_eqv kk (r1.rep (t2.trans t3) rp) g5 g6
        obtain ⟨rN, tN⟩ := r3.setOwnG hi2 (dicAt_some e1) (d' := .dic true (dput kvs (.tup (kk.map kD)) d)) (o := .dT (putK ks kk v)) fun hr => ⟨rfl, _, ⟨_, upd_same, q1, rfl⟩, RepE.mono (fun _ z => z) hr (fun _ _ q => q) _ _ q2⟩
        rw [g3]
        refine ⟨G2.ad i, _, rfl, .inr ⟨ks, kk, p, g4, rfl, hp3, by omega, rfl⟩, ?_⟩
        exact q σ _ G2 rN ((((en.step t1).step t2).step t3).step tN) (((r1.lt t2).trans (r2.lt t3)).trans (r3.lt tN))
      · exact q.elim
end
end Lb

set_option maxRecDepth 100000
set_option maxHeartbeats 1000000
/-! dicts' comprehensions -/
namespace Lb
open PySem PySem.Spec PyProof.Rows L2
def dcBody (Γ : List Fn) (tg : Tg) (vs : List Nat) (ifs : List T) (ke ve : T) : D → S → R S (Option (D × D)) := fun x s1 => match setT tg x s1 with
  | none => .fail
  | some s2 => (evAll Γ ifs s2).bind fun b s3 => if b then (ev Γ ke s3).bind fun a s4 => (ev Γ ve s4).bind fun d s5 => .ok (some (a, d)) { s5 with env := wipeD s5.env vs } else .ok none { s3 with env := wipeD s3.env vs }
theorem ev_dc' (Γ : List Fn) (s : S) (k : IK) (as : List T) (tg : Tg) (vs : List Nat) (ifs : List T) (ke ve : T) : ev Γ (.dc k as tg vs ifs ke ve) s = (evI Γ k as s).bind fun xs s =>
    (dcGo (dcBody Γ tg vs ifs ke ve) xs [] { s with env := wipeD s.env vs }).noX.bind fun ds s' => .ok (.dic false ds) { s' with env := backD s.env s'.env vs } := by
  show (evs Γ as s).bind _ = _
  unfold evI
  cases evs Γ as s <;> rfl
theorem dcBody_ok {Γ : List Fn} {tg : Tg} {vs : List Nat} {ifs : List T} {ke ve : T} {x : D} {s s' : S} {o : Option (D × D)} (h : dcBody Γ tg vs ifs ke ve x s = .ok o s') :
    ∃ s2 b s3, setT tg x s = some s2 ∧ evAll Γ ifs s2 = .ok b s3 ∧ ((b = true ∧ ∃ a s4 d s5, ev Γ ke s3 = .ok a s4 ∧ ev Γ ve s4 = .ok d s5 ∧ o = some (a, d) ∧ s' = { s5 with env := wipeD s5.env vs }) ∨ (b = false ∧ o = none ∧ s' = { s3 with env := wipeD s3.env vs })) := by
  unfold dcBody at h
  cases e1 : setT tg x s with
  | none => rw [e1] at h; cases h
  | some s2 =>
    rw [e1] at h
    replace h : (evAll Γ ifs s2).bind (fun b s3 => if b then (ev Γ ke s3).bind fun a s4 => (ev Γ ve s4).bind fun d s5 => .ok (some (a, d)) { s5 with env := wipeD s5.env vs } else .ok none { s3 with env := wipeD s3.env vs }) = .ok o s' := h
    cases e2 : evAll Γ ifs s2 with
    | exc => rw [e2] at h; cases h
    | fail => rw [e2] at h; cases h
    | ok b s3 =>
      rw [e2, R.bind_ok] at h
      refine ⟨s2, b, s3, rfl, e2, ?_⟩
      cases b with
      | false =>
        rw [if_neg (by decide)] at h
        cases h
        exact .inr ⟨rfl, rfl, rfl⟩
      | true =>
        rw [if_pos rfl] at h
        cases e3 : ev Γ ke s3 with
        | exc => rw [e3] at h; cases h
        | fail => rw [e3] at h; cases h
        | ok a s4 =>
          rw [e3, R.bind_ok] at h
          cases e4 : ev Γ ve s4 with
          | exc => rw [e4] at h; cases h
          | fail => rw [e4] at h; cases h
          | ok d s5 =>
            rw [e4, R.bind_ok] at h
            cases h
            exact .inl ⟨rfl, a, s4, d, s5, rfl, e4, rfl, rfl⟩
theorem dcGo_cons {body : D → S → R S (Option (D × D))} {x : D} {xs : List D} {s s' : S} {acc r : List (D × D)} (h : dcGo body (x :: xs) acc s = .ok r s') : ∃ o s1, body x s = .ok o s1 ∧ ((o = none ∧ dcGo body xs acc s1 = .ok r s') ∨ ∃ k v, o = some (k, v) ∧ keyB k = true ∧ acc.length < sizeLine ∧ dcGo body xs (dput acc k v) s1 = .ok r s') := by
  unfold dcGo at h
  cases e : body x s with
  | exc => rw [e] at h; cases h
  | fail => rw [e] at h; cases h
  | ok o s1 =>
    rw [e, R.bind_ok] at h
    refine ⟨o, s1, rfl, ?_⟩
    cases o with
    | none => exact .inl ⟨rfl, h⟩
    | some p =>
      obtain ⟨k, v⟩ := p
      replace h : (if keyB k = true ∧ acc.length < sizeLine then dcGo body xs (dput acc k v) s1 else .fail) = .ok r s' := h
      split at h
      · rename_i hc
        exact .inr ⟨k, v, rfl, hc.1, hc.2, h⟩
      · cases h
section
variable {X : Cx} {c : Cfg} {Γ : List Fn} {own own1 own2 : List Nat} {mu : Bool}
theorem dc_pre {k : IK} {as : List T} {tg : Tg} {vs : List Nat} {ifs : List T} {ke ve : T} (hsub : ∀ i ∈ own2, i ∈ own1) (hvs : ∀ i ∈ vs, i ∉ own2) (hst : ∀ i ∈ slotsT tg, i ∈ vs) (hwk : wkK k = true → tgB tg = true) {σ : L2.St} {H : Hp} {Q : VK}
    (h : tE c own own2 mu .fr (ev Γ (.dc k as tg vs ifs ke ve)) σ H Q) : tDc (tI c own own1 [] k (evI Γ k as)) (tG c.inn own2 tg) (tT c.inn own2 own2 mu (evAll Γ ifs)) (tE c.inn own2 own2 mu .sh (ev Γ ke)) (tE c.inn own2 own2 mu .sh (ev Γ ve)) vs σ H Q := by
  obtain ⟨s, G, r, q⟩ := h
  rw [ev_dc', Post.bind] at q
  refine ⟨s, G, r, q.mono fun xs s1 q J H1 G1 r1 t1 wk => fun D hD => ?_⟩
  obtain ⟨G2, r2, t2⟩ := r1.less hsub
  have t12 := t1.trans t2
  cases eL : dcGo (dcBody Γ tg vs ifs ke ve) xs [] { s1 with env := wipeD s1.env vs } with
  | exc => rw [eL] at q; exact q.elim
  | fail => rw [eL] at q; exact q.elim
  | ok tot sF =>
    rw [eL] at q
    replace q : Post c own G σ H _ (R.ok (Lb.D.dic false tot) { sF with env := backD s1.env sF.env vs }) := q
    rw [Post.ok] at q
    obtain ⟨r3, t3, nz3, nm3⟩ := r2.laidF (mu := mu) (o := .dK []) hD
    have r3w : Rel c.K own2 { s1 with env := wipeD s1.env vs } G2 (wipe σ vs) (upd H1 D (.dK [])) := r3.wiped
    have neD : ∀ i ∈ own2, G2.ad i ≠ D := fun i hi ee => by
      obtain ⟨_, _, o, qq⟩ := r2.oz i hi
      rw [ee, hD] at qq; cases qq
    refine ⟨fun i m H' => m = xs.length - i ∧ i ≤ xs.length ∧ ∃ si Gi ks acc, Rel c.K own2 si Gi (wipe σ vs) H' ∧ Stp own2 own2 mu G2 H1 Gi H' ∧ ¬ Gi.Z D ∧ D ∉ Gi.μ ∧ H' D = some (.dK ks) ∧ acc.map Prod.fst = ks.map (fun p => kD p.1) ∧ RepE c.K H' Gi.Z Gi.μ acc (ks.map (·.2)) ∧
      dcGo (dcBody Γ tg vs ifs ke ve) (xs.drop i) acc si = .ok tot sF, ⟨xs.length, by simp, Nat.zero_le _, _, G2, [], [], r3w, t3, nz3, nm3, upd_same, rfl, rfl, by simpa using eL⟩, ?_⟩
    rintro i m H4 ⟨rfl, hi, si, Gi, ks, acc, r4, t4, nz4, nm4, hD4, ek4, rp4, e4⟩
    have tA : Stp own2 own2 mu G2 H1 Gi H4 := t4
    have wk2 := wk H4 Gi.Z Gi.μ (fun p z => tA.zz p (t2.zz p z)) (fun p u z w => r2.rd tA (t2.zz p z) (r1.rd t2 z w)) (fun n a w => tA.mm n a (t2.mm n a w)) (fun p o u z w => r2.fz tA (t2.zz p z) (r1.fz t2 z w)) (fun j hj => by simp at hj)
    by_cases hend : i = xs.length
    · subst hend
      refine .inl ⟨wk2.2.1, ?_⟩
      rw [List.drop_length] at e4
      cases e4
      have hl1 : s1.env.length = sF.env.length := by rw [r1.len, r4.len, wipe_length]
      have rB : Rel c.K own2 { sF with env := backD s1.env sF.env vs } Gi σ H4 := by
        refine ⟨by rw [backD_length, r4.len, wipe_length], fun j d ej => ?_, r4.zl, r4.oz, r4.inj, r4.sto, r4.mz, r4.mnd⟩
        rcases backD_some hl1 ej with ⟨h1, h2⟩ | ⟨h1, h2⟩
        · obtain ⟨v, e1, _, e3⟩ := r2.slot j d h2
          exact ⟨v, e1, fun z => absurd z (hvs j h1), fun z => r2.rep tA (e3 z)⟩
        · obtain ⟨v, e1, e2⟩ := r4.slot j d h2
          exact ⟨v, by rw [wipe_off h1] at e1; exact e1, e2⟩
      exact q (.ref D) H4 Gi rB ((t12.trans tA).weak (by cases mu <;> simp)) ⟨D, ⟨rfl, _, ⟨ks, hD4, ek4, rfl⟩, rp4⟩, nz4, nm4, t1.fresh hD⟩
    · have hi' : i < xs.length := Nat.lt_of_le_of_ne hi hend
      rw [List.drop_eq_getElem_cons hi'] at e4
      obtain ⟨o, s5, b1, b2⟩ := dcGo_cons e4
      obtain ⟨s6, b, s7, c1, c2, c3⟩ := dcBody_ok b1
      refine .inr ⟨wk2.1 i hi', fun H' => ∃ Gi ks' acc', Rel c.K own2 s5 Gi (wipe σ vs) H' ∧ Stp own2 own2 mu G2 H1 Gi H' ∧ ¬ Gi.Z D ∧ D ∉ Gi.μ ∧ H' D = some (.dK ks') ∧ acc'.map Prod.fst = ks'.map (fun p => kD p.1) ∧ RepE c.K H' Gi.Z Gi.μ acc' (ks'.map (·.2)) ∧ dcGo (dcBody Γ tg vs ifs ke ve) (xs.drop (i + 1)) acc' s5 = .ok tot sF, ?_, ?_⟩
      · rintro H' ⟨Gj, ks', acc', g1, g2, g3, g4, g5, g6, g7, g8⟩
        exact ⟨xs.length - (i + 1), by omega, rfl, hi', s5, Gj, ks', acc', g1, g2, g3, g4, g5, g6, g7, g8⟩
      · intro x H5 y
        obtain ⟨Z5, g5, rp5⟩ := wk2.2.2 i _ x H5 (List.getElem?_eq_getElem hi') y
        obtain ⟨r5, t5⟩ := r4.grow (mu := mu) g5
        refine ⟨xs[i], si, _, s6, r5, rp5.to hwk, c1, fun σ2 r6 bt => ⟨wipe_but hst bt, ?_⟩⟩
        rw [offT_off fun i hi => hvs i (hst i hi)] at r6
        refine ⟨s6, _, r6, ?_⟩
        rw [c2]
        intro H7 G7 r7 t7
        have back : ∀ {sx : S} {Gx : Gh} {Hx : Hp}, Rel c.K own2 sx Gx σ2 Hx → Rel c.K own2 { sx with env := wipeD sx.env vs } Gx (wipe σ vs) Hx := fun {sx Gx Hx} rx =>
          rx.slots (by rw [wipeD_length, wipe_length, rx.len, bt.1, wipe_length]) fun j d ej => by
            obtain ⟨w1, w2⟩ := wipeD_some ej
            exact ⟨w1, (bt.2 j fun z => w2 (hst j z)).symm⟩
        have tB : Stp own2 own2 mu Gi H4 G7 H7 := (t5.trans t7).weak (by simp)
        have neDi : ∀ i ∈ own2, Gi.ad i ≠ D := by rw [t4.ad]; exact neD
        have oD : Own c.K H4 Gi.Z Gi.μ D (.dic false acc) (.ref D) := ⟨rfl, _, ⟨ks, hD4, ek4, rfl⟩, rp4⟩
        rcases c3 with ⟨rfl, a, s8, d, s9, d1, d2, d3, d4⟩ | ⟨rfl, d2, d3⟩
        · rw [if_pos rfl]
          rcases b2 with ⟨b3, _⟩ | ⟨kx, dx, b3, b4, b5, b6⟩
          · rw [d3] at b3; cases b3
          rw [d3] at b3
          cases b3
          refine ⟨s7, G7, r7, ?_⟩
          rw [d1]
          intro v8 H8 G8 r8 t8 rp8
          refine ⟨s8, G8, r8, ?_⟩
          rw [d2]
          intro v H9 G9 r9 t9 rp9
          have tC : Stp own2 own2 mu Gi H4 G9 H9 := ((tB.trans t8).trans t9).weak (by simp)
          have nz9 : ¬ G9.Z D := Rel.noz tC nz4 ⟨_, hD4⟩ neDi
          have nm9 : D ∉ G9.μ := tC.notmu nm4 hD4
          have hD9 : H9 D = some (.dK ks) := tC.exact hD4 nm4 (fun _ => neDi) nz9
          have rp9' : RepE c.K H9 G9.Z G9.μ acc (ks.map (·.2)) := RepE.mono tC.zz (fun p u z w => r4.rd tC z w) tC.mm _ _ rp4
          obtain ⟨kk, rfl⟩ := keyB_some b4
          have hv8 : v8 = kV kk := kD_rep rp8
          obtain ⟨q1, q2⟩ := RepE.put kD_eqv kk (show Rep c.K H9 G9.Z G9.μ d v from rp9) ek4 rp9'
          have hln : ks.length < sizeLine := by
            have := congrArg List.length ek4
            simp at this
            omega
          refine ⟨ks, kk, hv8, hD9, hln, G9, _, _, ?_, ?_, nz9, nm9, upd_same, q1, ?_, b6⟩
          · subst d4
            refine back ?_
            have ne9 : ∀ i ∈ own2, G9.ad i ≠ D := by rw [tC.ad]; exact neDi
            exact r9.other nz9 nm9 ne9 ⟨_, hD9⟩
          · have tD : Stp own2 own2 mu G2 H1 G9 H9 := (t4.trans tC).weak (by simp)
            exact tD.other hD
          · have hr : ∀ p u, G9.Z p → Rd H9 p u → Rd (upd H9 D (.dK (putK ks kk v))) p u := fun p u z w => rd_ne (fun ee => nz9 (ee ▸ z)) w
            exact RepE.mono (fun _ z => z) hr (fun _ _ w => w) _ _ q2
        · rw [if_neg (by decide)]
          rcases b2 with ⟨_, b3⟩ | ⟨kx, dx, b3, _⟩
          · have nz7 : ¬ G7.Z D := Rel.noz tB nz4 ⟨_, hD4⟩ neDi
            refine ⟨G7, ks, acc, ?_, (t4.trans tB).weak (by simp), nz7, tB.notmu nm4 hD4, tB.exact hD4 nm4 (fun _ => neDi) nz7, ek4, RepE.mono tB.zz (fun p u z w => r4.rd tB z w) tB.mm _ _ rp4, b3⟩
            subst d3
            exact back r7
          · rw [d2] at b3; cases b3
theorem se_dc {k : IK} {as : List T} {tgx iter : Expr} {tg : Tg} {ifs : List Expr} {tifs : List T} {kx vx : Expr} {ke ve : T} {scope : Scope} {pos : Pos} {ob : List (Str × Nat)} (hc : X.calm = true) (hN : X.N.Nodup) (hi : PI X tgx iter (tI c own own1 [] k (evI Γ k as))) (ok : BlkOk X.N X.env.scope scope ob) (hsub : ∀ i ∈ own2, i ∈ own1) (hvs : ∀ i ∈ ob.map (·.2), i ∉ own2) (hst : ∀ i ∈ slotsT tg, i ∈ ob.map (·.2)) (hwk : wkK k = true → tgB tg = true)
    (hg : ∀ (s : Shared) (H : Hp) (C : Addr) (cl : List (Str × Addr)) (fp : List Addr), PG (X.blk s H scope (compEnvC scope cl C X.env) fp) tgx (tG c.inn own2 tg)) (ht : ∀ (s : Shared) (H : Hp) (C : Addr) (cl : List (Str × Addr)) (fp : List Addr), PTs (X.blk s H scope (compEnvC scope cl C X.env) fp) ifs (tT c.inn own2 own2 mu (evAll Γ tifs)))
    (hk : ∀ (s : Shared) (H : Hp) (C : Addr) (cl : List (Str × Addr)) (fp : List Addr), PE (X.blk s H scope (compEnvC scope cl C X.env) fp) kx (tE c.inn own2 own2 mu .sh (ev Γ ke))) (he : ∀ (s : Shared) (H : Hp) (C : Addr) (cl : List (Str × Addr)) (fp : List Addr), PE (X.blk s H scope (compEnvC scope cl C X.env) fp) vx (tE c.inn own2 own2 mu .sh (ev Γ ve)))
    (hf : ∀ x, foldedSetIterable iter X.env x = pure x) : PE X (.DictComp kx vx [⟨tgx, iter, ifs, 0⟩] scope pos) (tE c own own2 mu .fr (ev Γ (.dc k as tg (ob.map (·.2)) tifs ke ve))) :=
  imE (pe_dc hc hN hi ok hg ht hk he hf) fun σ H Q h => dc_pre hsub hvs hst hwk h
end
end Lb

set_option maxRecDepth 100000
set_option maxHeartbeats 1000000
/-! d.setdefault(k, []).append(e) -/
namespace Lb
open PySem PySem.Spec PyProof.Rows L2
section
variable {X : Cx} {c : Cfg} {Γ : List Fn} {own own1 own2 own' : List Nat} {mu : Bool} {e k : Expr} {es : List Expr} {as : List T} {t tk ta : T} {pos tpos p1 : Pos}
/-- the item goes to the list at n -/
theorem sd_end {n : Nat} {a : Addr} {s : S} {G G0 : Gh} {σ : L2.St} {H H0 : Hp} {E : Ends} (hi : X.K = c.K) (r : Rel c.K own1 s G σ H) (en : Ent G0 H0 own1 G H) (ha : G.μ[n]? = some a) (q : PostS c G0 H0 own2 E G H (sdEnd (.ref n) (ev Γ t s))) :
    tyV X.K "list" (.ref a) H ∧ tAs c own1 own2 mu false (evs Γ [t]) σ H fun xs H2 => rAppend (.ref a) xs H2 fun _ H3 => E.nx σ H3 := by
  have hn : n < s.st.length := by rw [← r.sto.len]; exact (List.getElem?_eq_some_iff.mp ha).1
  obtain ⟨b, vs, e1, e2, e3, e4⟩ := r.sto.at_ n _ (List.getElem?_eq_getElem hn)
  rw [ha] at e1
  cases e1
  refine ⟨.inl ⟨rfl, vs, .inl (.inl e2)⟩, s, G, r, ?_⟩
  replace q : PostS c G0 H0 own2 E G H ((ev Γ t s).bind fun d s => match s.st[n]? with
    | some xs => if xs.length < sizeLine then .ok .next { s with st := s.st.set n (xs ++ [d]) } else .fail
    | none => .fail) := q
  rw [evs_cons]
  simp only [evs_nil, Post.bind, Post.ok]
  refine (q.ofE r en).mono fun d s1 q ws H1 G1 r1 t1 rp => ?_
  replace rp : Reps c.K H1 G1.Z G1.μ [d] ws := rp
  obtain ⟨y, _, rfl, h1, rfl⟩ := rp
  have ha1 := t1.mm n a ha
  cases en1 : s1.st[n]? with
  | none => rw [en1] at q; exact q.elim
  | some xs =>
    rw [en1] at q
    replace q : PostS c G0 H0 own2 E G H (if xs.length < sizeLine then R.ok .next { s1 with st := s1.st.set n (xs ++ [d]) } else .fail) := q
    split at q
    · rename_i hz
      obtain ⟨b, us, f1, f2, f3, f4⟩ := r1.sto.at_ n _ en1
      rw [ha1] at f1
      cases f1
      have hl := f4.length
      obtain ⟨rN, tN⟩ := r1.setM (mu := false) (ds' := xs ++ [d]) (vs' := us ++ [y]) ha1 (by simp; omega) (f4.append (Reps.one h1))
      exact ⟨a, us, y, rfl, rfl, f2, by omega, q σ _ G1 rN ((en.step t1).step tN) ((r.lt t1).trans (r1.lt tN))⟩
    · exact q.elim
theorem sp_sdapp {i : Nat} {x : Str} {pn lp apos cpos apos2 cpos2 : Pos} (hK : c.K = X.K) (hN : X.N[i]? = some x) (hv : Vis X.env.scope x) (hd : (x == ("__debug__" : Str)) = false) (hcd : (x == ("__classdict__" : Str)) = false) (hi : i ∈ own) (hi1 : i ∈ own1) (hk : PE X k (tE c own own1 false .pk (ev Γ tk))) (ha : PA X [e] (tAs c own1 own2 mu false (evs Γ [t])))
    (m : M2 X (.Name x pn) "setdefault" apos k (.List [] lp) cpos) (hbase : attributeBase (.Call (.Attribute (.Name x pn) "setdefault" apos) [k, .List [] lp] [] cpos) "append" X.env (eval (.Call (.Attribute (.Name x pn) "setdefault" apos) [k, .List [] lp] [] cpos) X.env) = eval (.Call (.Attribute (.Name x pn) "setdefault" apos) [k, .List [] lp] [] cpos) X.env)
    (hfew : ((backTo cpos2 (starEach [e] X.env)).all (fun x => !x.1) && (backToKw cpos2 (keywordEach [] X.env)).all (fun x => x.1.isSome) && decide ([e].length + ([] : List Keyword).length + (if ([] : List Keyword).isEmpty then 0 else 1) < 30)) = true)
    (hline : (apos2.endLine == cpos2.line) = true) (hs : starEach [e] X.env = (false, eval e X.env) :: starEach [] X.env) :
    PS X (.Expr (.Call (.Attribute (.Call (.Attribute (.Name x pn) "setdefault" apos) [k, .List [] lp] [] cpos) "append" apos2) [e] [] cpos2) pos) (tS c own own2 (ex Γ (.sdapp i tk t))) :=
  imS (ps_expr (pe_bm PySem.F.plainAttrs_list PySem.F.slot_list_append PySem.F.type_list_append mt_append (pe_dsetd (pe_var hN hv hd hcd) hk (pe_lst pa_nil) m) ha hbase hfew hline hs) rfl) fun E σ H ⟨s, G, G0, H0, r, en, q⟩ => by
  replace q : PostS c G0 H0 own2 E G H ((opt s (dicAt false i s)).bind fun _ s => (ev Γ tk s).bind fun x s => match dicAt false i s with
      | some kvs => if keyB x = true ∧ kvs.length < sizeLine then (match dget kvs x with
        | some v => sdEnd v (ev Γ t s)
        | none => sdEnd (.ref s.st.length) (ev Γ t ⟨s.env.set i (some (.dic false (dput kvs x (.ref s.st.length)))), s.st ++ [[]]⟩)) else .fail
      | none => .fail) := q
  cases e0 : dicAt false i s with
  | none => rw [e0] at q; exact q.elim
  | some kvs0 =>
    rw [e0, opt_some, R.bind_ok] at q
    obtain ⟨v0, f1, f2, _⟩ := r.slot i _ (dicAt_some e0)
    obtain ⟨f3, _, ⟨ks0, f4, _⟩, _⟩ := f2 hi
    refine ⟨v0, f1, G.ad i, f3, .inl ⟨ks0, .inl f4⟩, s, G, r, (q.ofE r en).mono fun y s2 q w H2 G2 r2 t2 rpk => ?_⟩
    cases e1 : dicAt false i s2 with
    | none => rw [e1] at q; exact q.elim
    | some kvs =>
      rw [e1] at q
      replace q : PostS c G0 H0 own2 E G H (if keyB y = true ∧ kvs.length < sizeLine then (match dget kvs y with
        | some v => sdEnd v (ev Γ t s2)
        | none => sdEnd (.ref s2.st.length) (ev Γ t ⟨s2.env.set i (some (.dic false (dput kvs y (.ref s2.st.length)))), s2.st ++ [[]]⟩)) else .fail) := q
      split at q
      · rename_i hc
        obtain ⟨kk, rfl⟩ := keyB_some hc.1
        cases kD_repT rpk
        obtain ⟨v1, g1, g2, _⟩ := r2.slot i _ (dicAt_some e1)
        obtain ⟨g3, us, ⟨ks, g4, g5, rfl⟩, g6⟩ := g2 hi1
        rw [f1] at g1
        cases g1
        have had : G2.ad i = G.ad i := by rw [t2.ad]
        have hl : ks.length = kvs.length := by have := congrArg List.length g5; simpa using this.symm
        refine ⟨Nat.zero_le _, fun p hp => ?_⟩
        have hne : G2.ad i ≠ p := fun ee => by rw [ee, hp] at g4; cases g4
        refine ⟨ks, kk, by rw [← had, upd_ne hne]; exact g4, rfl, by omega, fun v hv => ?_, fun hv => ?_⟩
        · rcases RepE.find kD_eqv kk g5 g6 with ⟨z1, z2⟩ | ⟨d, v', z1, z2, z3⟩
          · rw [z2] at hv; cases hv
          rw [z2] at hv
          cases hv
          rw [z1] at q
          obtain ⟨r3, t3, nz, nm⟩ := r2.laidF (mu := false) (o := .lst []) hp
          obtain ⟨n, rfl⟩ : ∃ n, d = .ref n := by
            cases d with
            | ref n => exact ⟨n, rfl⟩
            | _ => exact q.elim
          obtain ⟨a, ea, rfl⟩ := (show ∃ a, G2.μ[n]? = some a ∧ v = .ref a from z3)
          exact sd_end hK.symm r3 ((en.step t2).step t3) ea (q.move ((r.lt t2).trans (r2.lt t3)))
        · rcases RepE.find kD_eqv kk g5 g6 with ⟨z1, z2⟩ | ⟨d, v', z1, z2, z3⟩
          · rw [z1] at q
            obtain ⟨r3, t3, e3⟩ := r2.laidM (mu := false) (vs := []) (ds := []) (Nat.zero_le _) rfl hp
            obtain ⟨v2, k1, k2, _⟩ := r3.slot i (.dic false kvs) (dicAt_some e1)
            obtain ⟨k3, us', ⟨ks', k4, k5, rfl⟩, k6⟩ := k2 hi1
            have had3 : G2.ad i = G.ad i := had
            have eks : ks' = ks := by
              have k4 : (upd H2 p (.lst [])) (G2.ad i) = some (.dK ks') := k4
              rw [upd_ne hne, g4] at k4
              cases k4; rfl
            subst eks
            obtain ⟨q1, q2⟩ := RepE.put (K := c.K) kD_eqv kk (d' := .ref s2.st.length) (v' := .ref p) ⟨p, e3, rfl⟩ k5 k6
            obtain ⟨rN, tN⟩ := r3.setOwnG hi1 (dicAt_some e1) (d' := .dic false (dput kvs (kD kk) (.ref s2.st.length))) (o := .dK (putK ks' kk (.ref p))) fun hr => ⟨rfl, _, ⟨_, upd_same, q1, rfl⟩, RepE.mono (fun _ z => z) hr (fun _ _ q => q) _ _ q2⟩
            have fin := sd_end (t := t) (own2 := own2) (mu := mu) (E := E) hK.symm rN ((((en.step t2).step t3)).step tN) e3 (q.move (((r.lt t2).trans (r2.lt t3)).trans (r3.lt tN)))
            rw [← had]
            exact fin
          · rw [z2] at hv; cases hv
      · exact q.elim
end
end Lb

set_option maxRecDepth 100000
set_option maxHeartbeats 1000000
/-! calls with keywords -/
namespace Lb
open PySem PySem.Spec PyProof.Rows L2
section
variable {X : Cx} {CX : CXT} {k n : Nat} {f : Addr} {fd : FuncData} {ps ks : List Str} {sp : Sp} {E : L2.St → XK} {x : Str} {p pos : Pos} {e : Expr} {es : List Expr} {kws : List Keyword} {t tk : TA} {g : List Value → List Value → List Value} {gV : List V → List V → List V}
theorem run_kw {pins : List (Addr × Obj)} {σ : L2.St} {H : Hp} {s : Shared} {Q : VK} {us ws : List Value} {vs zs : List V} (F : FnOk X.prog X.w X.K X.mg X.base CX k f fd ps sp) (hr : Room k X.A) (hb : KBn X.K fd ps n ks g gV) (hx : PassesAt CX X σ (E σ))
    (I : Inv X pins σ H s) (r : Vals vs us) (rz : Vals zs ws) (l1 : vs.length = n) (l2 : zs.length = ks.length) (h : sp (gV vs zs) H Q (E σ)) : wpAny (model X.prog X.w) X.A (call (.ref f) us (ks.zip ws)) (EP X pins σ Q) X.xe s := by
  have bt := hb.to s us ws I.kIn (by rw [← r.length]; exact l1) (by rw [← rz.length]; exact l2)
  refine wpAny_call (codeAny_mono (F.run X.A X.stack s H ⟨us, ks.zip ws⟩ (g us ws) (gV vs zs) Q (E σ) hr I.env0 bt (hb.rel r rz) h) fun out s' hq => ?_)
  match out, hq with
  | .error ee, hq => exact hx pins H s ee s' I hq
  | .ok (.ret u), hq => exact I.after hq
  | .ok .next, hq => exact False.elim hq
  | .ok .brk, hq => exact False.elim hq
  | .ok .cont, hq => exact False.elim hq
theorem pe_kw (F : FnOk X.prog X.w X.K X.mg X.base CX k f fd ps sp) (hr : Room k X.A) (hg : Gl X x) (hm : X.mg x = some (.ref f)) (hk : PySem.W.keepIn X.K (.ref f) = true) (hb : KBn X.K fd ps n ks g gV) (hx : ∀ σ, PassesAt CX X σ (E σ))
    (ha : PA X (e :: es) t) (hkw : PK X kws tk) (hall : (backToKw pos (keywordEach kws X.env)).all (·.1.isSome) = true) (hks : (backToKw pos (keywordEach kws X.env)).filterMap (·.1) = ks)
    (hdb : (x == ("__debug__" : Str)) = false) (he : starEach (e :: es) X.env = (false, eval e X.env) :: starEach es X.env) (hpl : ((backTo pos (starEach (e :: es) X.env)).any (·.1) || (backToKw pos (keywordEach kws X.env)).any (·.1.isNone)) = false) :
    PE X (.Call (.Name x p) (e :: es) kws pos) (fun σ H Q => t σ H fun vs H1 => tk σ H1 fun zs H2 => vs.length = n ∧ zs.length = ks.length ∧ sp (gV vs zs) H2 Q (E σ)) := by
  constructor
  intro pins s σ H Q I h
  refine wpAny_Call_Name_kw (ld_glob I hg hm ?_ hdb)
  refine PySem.W.callWith_KW (h₀ := X.base) I.ok.mod.kin hk hall (thn (ha.run pos pins s σ H _ I h) fun us s1 ⟨vs, H1, I1, r, q⟩ => thn (hkw.run pos pins s1 σ H1 _ I1 q) fun ws s2 ⟨zs, H2, I2, rz, l1, l2, q2⟩ => ⟨I2.kIn, ?_⟩) hpl he
  rw [hks]
  exact run_kw F hr hb (hx σ) I2 r rz l1 l2 q2
end
theorem perm_vals {vs : List V} {us : List Value} (r : Vals vs us) : ∀ ix : List Nat, Vals (permL ix vs) (permL ix us)
  | [] => .nil
  | j :: ix => by
    have ih := perm_vals r ix
    unfold permL at ih ⊢
    rw [List.filterMap_cons, List.filterMap_cons]
    cases e : vs[j]? with
    | none =>
      have : us[j]? = none := by
        rw [List.getElem?_eq_none_iff] at e ⊢
        rw [← r.length]; exact e
      rw [this]; exact ih
    | some v =>
      obtain ⟨u, hu, ru⟩ := r.get e
      rw [hu]
      exact .cons ru ih
theorem perm_reps {K : PySem.W.Frag} {H : Hp} {Z : Zs} {μ : List Addr} {ds : List D} {vs : List V} (r : Reps K H Z μ ds vs) : ∀ ix : List Nat, Reps K H Z μ (permL ix ds) (permL ix vs)
  | [] => rfl
  | j :: ix => by
    have ih := perm_reps r ix
    unfold permL at ih ⊢
    rw [List.filterMap_cons, List.filterMap_cons]
    cases e : ds[j]? with
    | none =>
      have : vs[j]? = none := by
        rw [List.getElem?_eq_none_iff] at e ⊢
        rw [r.length]; exact e
      rw [this]; exact ih
    | some d =>
      obtain ⟨v, hv, rv⟩ := r.get' e
      rw [hv]
      exact ⟨v, _, rfl, rv, ih⟩
section
variable {X : Cx} {c : Cfg} {Γ : List Fn} {own own1 own2 : List Nat} {mu mu1 mu2 : Bool} {e : Expr} {es : List Expr} {as bs : List T} {kws : List Keyword}
theorem sk_nil : PK X [] (tAs c own own false false fun s => .ok [] s) := ⟨fun pos pins s σ H Q I ⟨s1, G, r, q⟩ => pk_nil.run pos pins s σ H Q I (q [] H G r Stp.refl rfl)⟩
theorem sk_cons {nm : Option Str} {kpos : Pos} {m1 : S → R S D} {m2 : S → R S (List D)} (h1 : PE X e (tE c own own1 mu1 .sh m1)) (h2 : PK X kws (tAs c own1 own2 mu2 false m2)) :
    PK X (⟨nm, e, kpos⟩ :: kws) (tAs c own own2 (mu1 || mu2) false fun s => (m1 s).bind fun d s => (m2 s).bind fun ds s => .ok (d :: ds) s) := ⟨fun pos pins s σ H Q I ⟨s1, G, r, q⟩ => (pk_cons h1 h2).run pos pins s σ H Q I (by
  simp only [Post.bind, Post.ok] at q
  refine ⟨s1, G, r, q.mono fun d s2 q v H1 G1 r1 t1 rp1 => ⟨s2, G1, r1, (q.move t1).mono fun ds s3 q vs H2 G2 r2 t2 rp2 => ?_⟩⟩
  exact q (v :: vs) H2 G2 r2 (t1.trans t2) ⟨v, vs, rfl, r1.rep t2 rp1, rp2⟩)⟩
theorem se_kw {k kk np n : Nat} {F : Fn} {x : Str} {f : Addr} {fd : FuncData} {ps ks : List Str} {p pos : Pos} {ix : List Nat} (hF : Γ[k]? = some F) (hix : ∀ {α : Type} (xs : List α), xs.length = n + ks.length → (permL ix xs).length = np) (hn : as.length = n) (hk2 : bs.length = ks.length)
    (fn : FnOk X.prog X.w X.K X.mg X.base (L2.CX X.prog X.w) kk f fd ps (spD c.K c.mg np F)) (hr : Room kk X.A) (hg : Gl X x) (hm : X.mg x = some (.ref f)) (hk : PySem.W.keepIn X.K (.ref f) = true) (hb : KBn X.K fd ps n ks (fun us ws => permL ix (us ++ ws)) (fun vs zs => permL ix (vs ++ zs))) (tk : Takes X c.W)
    (ha : PA X (e :: es) (tAs c own own1 mu1 false (evs Γ as))) (hkw : PK X kws (tAs c own1 own2 mu2 false (evs Γ bs))) (hall : (backToKw pos (keywordEach kws X.env)).all (·.1.isSome) = true) (hks : (backToKw pos (keywordEach kws X.env)).filterMap (·.1) = ks)
    (hdb : (x == ("__debug__" : Str)) = false) (he : starEach (e :: es) X.env = (false, eval e X.env) :: starEach es X.env) (hpl : ((backTo pos (starEach (e :: es) X.env)).any (·.1) || (backToKw pos (keywordEach kws X.env)).any (·.1.isNone)) = false) :
    PE X (.Call (.Name x p) (e :: es) kws pos) (tE c own own2 (mu1 || mu2) .sh (ev Γ (.callP k (as ++ bs) ix))) :=
  imE (pe_kw (E := WE c.W) fn hr hg hm hk hb (fun σ => passAt tk σ) ha hkw hall hks hdb he hpl) fun σ H Q ⟨s, G, r, q⟩ => by
  rw [ev_callP, evs_app] at q
  simp only [Post.bind, Post.ok] at q
  refine ⟨s, G, r, q.evs.mono fun ds s1 q vs H1 G1 r1 t1 rp1 => ?_⟩
  obtain ⟨l1, q⟩ := q
  refine ⟨s1, G1, r1, (q.move t1).evs.mono fun es s2 q zs H2 G2 r2 t2 rp2 => ?_⟩
  obtain ⟨l2, q⟩ := q
  replace rp1 : Reps c.K H1 G1.Z G1.μ ds vs := rp1
  replace rp2 : Reps c.K H2 G2.Z G2.μ es zs := rp2
  have rp : Reps c.K H2 G2.Z G2.μ (ds ++ es) (vs ++ zs) := (r1.reps t2 rp1).append rp2
  have lv : vs.length = n := by rw [rp1.length, l1, hn]
  have lz : zs.length = ks.length := by rw [rp2.length, l2, hk2]
  refine ⟨lv, lz, permL ix (ds ++ es), s2.st, G2, hix _ (by rw [List.length_append, lv, lz]), r2.bare, perm_reps rp ix, ?_⟩
  unfold callF at q
  rw [hF] at q
  replace q : Post c own G σ H _ (match F (permL ix (ds ++ es)) s2.st with
    | .ok d st => R.ok d { s2 with st := st }
    | .exc e st => .exc e { s2 with st := st }
    | .fail => .fail) := q
  cases eF : F (permL ix (ds ++ es)) s2.st with
  | fail => rw [eF] at q; exact q
  | ok d st =>
    rw [eF] at q
    intro v H3 G3 r3 t3 rp3
    obtain ⟨r4, t4⟩ := r2.called t3 r3
    exact q v H3 _ r4 (((t1.trans t2).trans t4).weak (by simp)) rp3
  | exc ex st =>
    rw [eF] at q
    intro cls dd H3 G3 r3 t3 hx
    obtain ⟨r4, t4⟩ := r2.called t3 r3
    obtain ⟨G5, r5, t5⟩ := r4.less (own' := []) fun i hi => by simp at hi
    exact q cls dd H3 G5 r5 ((((t1.trans t2).trans t4).trans t5).weak fun _ => rfl) hx
end
end Lb

set_option maxRecDepth 100000
set_option maxHeartbeats 1000000
/-! list(range(n)), tuple(range(n)), xs.index(i), calls with keywords alone -/
namespace Lb
open PySem PySem.Spec PyProof.Rows L2
theorem rangeD_ints : ∀ (n : Nat) (lo : Int), rangeD lo n = ((List.range n).map fun (i : Nat) => lo + (i : Int)).map D.int
  | 0, _ => rfl
  | n + 1, lo => by
    rw [rangeD, rangeD_ints n, List.range_succ_eq_map, List.map_cons, List.map_cons, List.map_map]
    congr 1
    · simp
    · rw [List.map_map, List.map_map]
      apply List.map_congr_left
      intro i _
      simp only [Function.comp]
      congr 1
      omega
theorem rgV_ints (b : Int) : rgV 0 b = ((List.range b.toNat).map fun (i : Nat) => (0 : Int) + (i : Int)).map V.int := by
  unfold rgV
  rw [List.map_map, Int.sub_zero]
  rfl
section
variable {X : Cx} {c : Cfg} {Γ : List Fn} {own own1 own2 : List Nat} {mu mu1 mu2 : Bool} {a b e : Expr} {es : List Expr} {ta tb te : T} {as bs : List T} {kws : List Keyword} {pos : Pos}
theorem rgOk_of {n : Int} (h : 0 ≤ n ∧ n ≤ 1000) : RgOk 0 n := RgOk.of_le (Int.le_refl _) (by omega) (by omega) h.1
theorem se_rngL {p1 p2 : Pos} (hc : X.calm = true) (hl : Gl X "list") (hlm : X.mg "list" = none) (hg : Gl X "range") (hm : X.mg "range" = none) (ha : PE X a (tE c own own1 false .pk (ev Γ ta))) (na : starEach [a] X.env = (false, eval a X.env) :: starEach [] X.env) {cpos : Pos}
    (nb : starEach [.Call (.Name "range" p2) [a] [] cpos] X.env = (false, eval (.Call (.Name "range" p2) [a] [] cpos) X.env) :: starEach [] X.env) :
    PE X (.Call (.Name "list" p1) [.Call (.Name "range" p2) [a] [] cpos] [] pos) (tE c own own1 false .fr (ev Γ (.prim .rngL [ta]))) := imE (pe_listRg hc hl hlm (prg_1 hg hm ha na) nb) fun σ H Q ⟨s, G, r, q⟩ => by
  simp only [ev_prim, evs_cons, evs_nil, Post.bind, Post.ok] at q
  refine ⟨s, G, r, q.mono fun d1 s1 q v1 H1 G1 r1 t1 rp1 => ?_⟩
  obtain ⟨d, hp, q⟩ := q.opt2
  cases d1 <;> first | exact nomatch (show (none : Option D) = some d from hp) | skip
  rename_i n
  replace hp : (if 0 ≤ n ∧ n ≤ 1000 then some (D.lst (rangeD 0 n.toNat)) else none) = some d := hp
  split at hp
  · rename_i hn
    cases hp
    have e1 : v1 = .int n := rp1
    subst e1
    refine ⟨n, rfl, rgOk_of hn, fun p hp => ?_⟩
    have o := r1.outF (mu := false) (d := .lst (rangeD 0 n.toNat)) (Q := fun v H' => Q v H') fun v H' G' r' t' rp => q v H' G' r' (t1.trans t') (by
      obtain ⟨x, h1, h2, h3, h4⟩ := rp
      exact ⟨x, h1, h2, h3, t1.fresh h4⟩)
    rw [rgV_ints]
    exact o p _ _ rfl hp (by rw [List.length_map, List.length_map, List.length_range]; exact le1000 (by omega)) (by rw [rangeD_ints]; exact intsR _)
  · cases hp
theorem pe_tupRgZ {x : Expr} {tr : L2.St → Hp → (Int → Int → Hp → Prop) → Prop} {p : Pos} (hc : X.calm = true) (hg : Gl X "tuple") (hm : X.mg "tuple" = none) (he : PRg X x tr) (na : starEach [x] X.env = (false, eval x X.env) :: starEach [] X.env) :
    PE X (.Call (.Name "tuple" p) [x] [] pos) (fun σ H Q => tr σ H fun lo hi H1 => RgOk lo hi ∧ ∀ (l : Addr) (ob : Obj), ob.dict = none → H1 l = none → Q (.ref l) (upd H1 l (.frz ob (.tup (rgV lo hi))))) := by
  constructor
  intro pins s σ H Q I h
  refine Call_ (ld_blt I hg hm boot_tuple (PyProof.Rows.callWith_type1 (args_cons (thn (he pins s σ H _ I h) fun z s1 ⟨ra, lo, hi, t, u, v, H1, ez, hr, I1, ok, q⟩ => args_nil ?_) na) na))
  subst ez
  obtain ⟨b1, b2, b3, b4, b5⟩ := ok
  refine call_tuple_range (n := (hi - lo).toNat) (I1.ok.hd hc) hr (small_one b1 b2 b3 b4) (rangeSize_nat lo hi) b5 fun h' tk acc hk hi' => ?_
  have I2 : Inv X pins σ H1 { s1 with heap := h', toks := tk } := I1.kept hk
  have L := laidT (t' := tk) I2 (xs := rgV lo hi) (us := acc.toList) (by rw [rgV_length, sizeLine_eq]; omega) (vals_rg hi')
  unfold tupO at L
  rw [Array.toArray_toList] at L
  exact ⟨.ref _, _, L, rfl, q _ _ rfl (I2.hok.fresh (Nat.le_refl _))⟩
theorem se_rngT {p1 p2 : Pos} (hc : X.calm = true) (hl : Gl X "tuple") (hlm : X.mg "tuple" = none) (hg : Gl X "range") (hm : X.mg "range" = none) (ha : PE X a (tE c own own1 false .pk (ev Γ ta))) (na : starEach [a] X.env = (false, eval a X.env) :: starEach [] X.env) {cpos : Pos}
    (nb : starEach [.Call (.Name "range" p2) [a] [] cpos] X.env = (false, eval (.Call (.Name "range" p2) [a] [] cpos) X.env) :: starEach [] X.env) :
    PE X (.Call (.Name "tuple" p1) [.Call (.Name "range" p2) [a] [] cpos] [] pos) (tE c own own1 false .sh (ev Γ (.prim .rngT [ta]))) := imE (pe_tupRgZ hc hl hlm (prg_1 hg hm ha na) nb) fun σ H Q ⟨s, G, r, q⟩ => by
  simp only [ev_prim, evs_cons, evs_nil, Post.bind, Post.ok] at q
  refine ⟨s, G, r, q.mono fun d1 s1 q v1 H1 G1 r1 t1 rp1 => ?_⟩
  obtain ⟨d, hp, q⟩ := q.opt2
  cases d1 <;> first | exact nomatch (show (none : Option D) = some d from hp) | skip
  rename_i n
  replace hp : (if 0 ≤ n ∧ n ≤ 1000 then some (D.tup (rangeD 0 n.toNat)) else none) = some d := hp
  split at hp
  · rename_i hn
    cases hp
    have e1 : v1 = .int n := rp1
    subst e1
    refine ⟨n, rfl, rgOk_of hn, fun p ob hd hp => ?_⟩
    have o := r1.out (mu := false) (d := .tup (rangeD 0 n.toNat)) (Q := fun v H' => Q v H') fun v H' G' r' t' rp => q v H' G' r' (t1.trans t') rp
    rw [rgV_ints]
    exact o.tup hd (by rw [List.length_map, List.length_map, List.length_range]; exact le1000 (by omega)) (by rw [rangeD_ints]; exact intsR _) p hp
  · cases hp
/-- what is not taken: it must not be come to -/
theorem se_no : PE X e (tE c own own false .sh (ev Γ .no)) := ⟨fun pins s σ H Q I ⟨s1, G, r, q⟩ => False.elim q⟩
/-! keywords alone -/
section
variable {CX : CXT} {k n : Nat} {f : Addr} {fd : FuncData} {ps ks : List Str} {sp : Sp} {E : L2.St → XK} {x : Str} {p : Pos} {tk : TA} {g : List Value → List Value → List Value} {gV : List V → List V → List V}
theorem pe_kw0 (F : FnOk X.prog X.w X.K X.mg X.base CX k f fd ps sp) (hr : Room k X.A) (hg : Gl X x) (hm : X.mg x = some (.ref f)) (hk : PySem.W.keepIn X.K (.ref f) = true) (hb : KBn X.K fd ps 0 ks g gV) (hx : ∀ σ, PassesAt CX X σ (E σ))
    (hkw : PK X kws tk) (hall : (backToKw pos (keywordEach kws X.env)).all (·.1.isSome) = true) (hks : (backToKw pos (keywordEach kws X.env)).filterMap (·.1) = ks)
    (hdb : (x == ("__debug__" : Str)) = false) (hpl : ((backTo pos (starEach [] X.env)).any (·.1) || (backToKw pos (keywordEach kws X.env)).any (·.1.isNone)) = false) :
    PE X (.Call (.Name x p) [] kws pos) (fun σ H Q => tk σ H fun zs H2 => zs.length = ks.length ∧ sp (gV [] zs) H2 Q (E σ)) := by
  constructor
  intro pins s σ H Q I h
  refine wpAny_Call_Name_kw (ld_glob I hg hm ?_ hdb)
  refine PySem.W.callWith_KW0 (h₀ := X.base) I.ok.mod.kin hk hall (thn (hkw.run pos pins s σ H _ I h) fun ws s2 ⟨zs, H2, I2, rz, l2, q2⟩ => ⟨I2.kIn, ?_⟩) hpl
  rw [hks]
  exact run_kw (us := []) F hr hb (hx σ) I2 .nil rz rfl l2 q2
end
theorem se_kw0 {k kk np : Nat} {F : Fn} {x : Str} {f : Addr} {fd : FuncData} {ps ks : List Str} {p : Pos} {ix : List Nat} (hF : Γ[k]? = some F) (hix : ∀ {α : Type} (xs : List α), xs.length = 0 + ks.length → (permL ix xs).length = np) (hk2 : bs.length = ks.length)
    (fn : FnOk X.prog X.w X.K X.mg X.base (L2.CX X.prog X.w) kk f fd ps (spD c.K c.mg np F)) (hr : Room kk X.A) (hg : Gl X x) (hm : X.mg x = some (.ref f)) (hk : PySem.W.keepIn X.K (.ref f) = true) (hb : KBn X.K fd ps 0 ks (fun us ws => permL ix (us ++ ws)) (fun vs zs => permL ix (vs ++ zs))) (tk : Takes X c.W)
    (hkw : PK X kws (tAs c own own2 mu2 false (evs Γ bs))) (hall : (backToKw pos (keywordEach kws X.env)).all (·.1.isSome) = true) (hks : (backToKw pos (keywordEach kws X.env)).filterMap (·.1) = ks)
    (hdb : (x == ("__debug__" : Str)) = false) (hpl : ((backTo pos (starEach [] X.env)).any (·.1) || (backToKw pos (keywordEach kws X.env)).any (·.1.isNone)) = false) :
    PE X (.Call (.Name x p) [] kws pos) (tE c own own2 mu2 .sh (ev Γ (.callP k bs ix))) :=
  imE (pe_kw0 (E := WE c.W) fn hr hg hm hk hb (fun σ => passAt tk σ) hkw hall hks hdb hpl) fun σ H Q ⟨s, G, r, q⟩ => by
  rw [ev_callP] at q
  simp only [Post.bind, Post.ok] at q
  refine ⟨s, G, r, q.evs.mono fun es s2 q zs H2 G2 r2 t2 rp2 => ?_⟩
  obtain ⟨l2, q⟩ := q
  replace rp2 : Reps c.K H2 G2.Z G2.μ es zs := rp2
  have lz : zs.length = ks.length := by rw [rp2.length, l2, hk2]
  refine ⟨lz, permL ix es, s2.st, G2, hix _ (by rw [List.nil_append, lz, Nat.zero_add]), r2.bare, by rw [List.nil_append]; exact perm_reps rp2 ix, ?_⟩
  unfold callF at q
  rw [hF] at q
  replace q : Post c own G σ H _ (match F (permL ix es) s2.st with
    | .ok d st => R.ok d { s2 with st := st }
    | .exc e st => .exc e { s2 with st := st }
    | .fail => .fail) := q
  cases eF : F (permL ix es) s2.st with
  | fail => rw [eF] at q; exact q
  | ok d st =>
    rw [eF] at q
    intro v H3 G3 r3 t3 rp3
    obtain ⟨r4, t4⟩ := r2.called t3 r3
    exact q v H3 _ r4 ((t2.trans t4).weak (by simp)) rp3
  | exc ex st =>
    rw [eF] at q
    intro cls dd H3 G3 r3 t3 hx
    obtain ⟨r4, t4⟩ := r2.called t3 r3
    obtain ⟨G5, r5, t5⟩ := r4.less (own' := []) fun i hi => by simp at hi
    exact q cls dd H3 G5 r5 (((t2.trans t4).trans t5).weak fun _ => rfl) hx
end
end Lb

set_option maxRecDepth 100000
set_option maxHeartbeats 1000000
/-! repr of data where no repr is under way; d.get(k, e) -/
namespace Lb
open PySem PySem.Spec PyProof.Rows L2
section
mutual
theorem toP_noDict : ∀ (n : Nat) (d : D), d.flat n = true → (toP d).hasDict = false
  | _, .non, _ => rfl
  | _, .bl _, _ => rfl
  | _, .int _, _ => rfl
  | _, .str _, _ => rfl
  | 0, .tup _, h => by cases h
  | 0, .lst _, h => by cases h
  | n + 1, .tup xs, h => toPs_noDict n xs h
  | n + 1, .lst xs, h => toPs_noDict n xs h
  | 0, .dic _ _, h => by cases h
  | _ + 1, .dic _ _, h => by cases h
  | 0, .ref _, h => by cases h
  | _ + 1, .ref _, h => by cases h
theorem toPs_noDict : ∀ (n : Nat) (ds : List D), D.flats n ds = true → PyData.hasDictAll (toPs ds) = false
  | _, [], _ => rfl
  | n, x :: xs, h => by
    obtain ⟨h1, h2⟩ := Bool.and_eq_true_iff.mp (show (D.flat n x && D.flats n xs) = true from h)
    show (PyData.hasDict (toP x) || PyData.hasDictAll (toPs xs)) = false
    rw [toP_noDict n x h1, toPs_noDict n xs h2]; rfl
end
end
section
variable {X : Cx} {c : Cfg} {Γ : List Fn} {own own1 own2 own3 : List Nat} {o e f : Expr} {td tk tf : T} {apos cpos : Pos}
theorem c_repr (hg : X.A.guards = some []) (hu : X.A.units + 64 < cLine) : CallR X (.builtin "repr") (rP X.K .repr) := by
  intro pins s σ H xs us Q I r h
  obtain ⟨st, Z, μ, ds, d, hs, h1, hp, q⟩ := h
  obtain ⟨d1, rfl⟩ := un1 hp rfl (fun a b r => rfl)
  obtain ⟨x, rfl, h2⟩ := repTs1 h1
  obtain ⟨u, rfl, ru⟩ : ∃ u, us = [u] ∧ RelV x u := by
    cases r with
    | cons r t => cases t; exact ⟨_, rfl, r⟩
  replace hp : (if reprOk d1 then some (D.str (reprD d1)) else none) = some d := hp
  split at hp
  rotate_left
  · cases hp
  rename_i hr
  cases hp
  simp only [reprOk, Bool.and_eq_true, decide_eq_true_eq] at hr
  obtain ⟨⟨hf, hsh⟩, hz⟩ := hr
  obtain ⟨as, rd⟩ := repT_reads I hf h2 ru
  have fin : ∀ {h' : Heap} {t tk : Tok}, (∀ b ob, s.heap.get? b = some ob → h'.get? b = some ob) → EP X pins σ Q (.str (toP d1).shown t) { s with heap := h', toks := tk } := fun {h' t tk} hk => ⟨.str (reprD d1), H, I.kept hk, ⟨t, rfl⟩, q.same rfl⟩
  have hd := toP_depth 60 d1 hf
  have hn := toP_noDict 60 d1 hf
  obtain ⟨pd, hpd⟩ : ∃ pd, pd = toP d1 := ⟨_, rfl⟩
  rw [← hpd] at rd hsh hz hd hn
  have fin : ∀ {h' : Heap} {t tk : Tok}, (∀ b ob, s.heap.get? b = some ob → h'.get? b = some ob) → EP X pins σ Q (.str pd.shown t) { s with heap := h', toks := tk } := fun {h' t tk} hk => by rw [hpd]; exact fin hk
  clear hpd
  cases rd with
  | none => exact PySem.P.repr_of_none (fin fun _ _ q => q)
  | bool b => exact PySem.P.repr_of_bool (fin fun _ _ q => q)
  | int i t => exact PySem.P.repr_of_int (by simpa [PyData.showable] using hsh) (fin fun _ _ q => q)
  | str y t => exact PySem.P.repr_of_str (fin fun _ _ q => q) (by simpa only [PyData.shown] using hz)
  | list k1 k2 k3 k4 => exact repr_of_reads' (.list k1 k2 k3 k4) hsh (fun z => by rw [hn] at z; cases z) hg (by omega) (fun _ _ q => q) (fun h' t tk hk => fin hk) hz
  | tuple k1 k2 k3 k4 => exact repr_of_reads' (.tuple k1 k2 k3 k4) hsh (fun z => by rw [hn] at z; cases z) hg (by omega) (fun _ _ q => q) (fun h' t tk hk => fin hk) hz
  | dict k1 k2 k3 k4 k5 => cases hn
/-- d.get(k, e) -/
theorem se_dgetD (hu : X.A.units + 64 < cLine) (hd : PE X o (tE c own own1 false .pk (ev Γ td))) (hk : PE X e (tE c own1 own2 false .sh (ev Γ tk))) (hf : PE X f (tE c own2 own3 false .sh (ev Γ tf))) (m : M2 X o "get" apos e f cpos) :
    PE X (.Call (.Attribute o "get" apos) [e, f] [] cpos) (tE c own own3 false .sh (ev Γ (.dgetD td tk tf))) :=
  imE (pe_dget2 (by omega) hd hk hf m) fun σ H Q ⟨s, G, r, q⟩ => by
  simp only [ev_dgetD, Post.bind] at q
  refine ⟨s, G, r, q.mono fun d1 s1 q v1 H1 G1 r1 t1 rp1 => ?_⟩
  have rp1 : RepT c.K H1 G1.Z G1.μ d1 v1 := rp1
  obtain ⟨kvs, rfl⟩ : ∃ kvs, d1 = .dic false kvs := by
    cases d1 with
    | dic t kvs =>
      cases t with
      | true => exact q.elim
      | false => exact ⟨kvs, rfl⟩
    | _ => exact q.elim
  replace q : Post c own G σ H _ ((ev Γ tk s1).bind fun y s => (ev Γ tf s).bind fun z s => if keyB y = true then R.ok ((dget kvs y).getD z) s else R.fail) := q
  obtain ⟨a, vs, rfl, _, ⟨ks, z1, _⟩, _⟩ := dicE rp1
  simp only [Post.bind] at q
  refine ⟨a, rfl, .inl ⟨ks, z1⟩, s1, G1, r1, (q.move t1).mono fun y s2 q v2 H2 G2 r2 t2 rp2 => ⟨s2, G2, r2, (q.move (t1.trans t2)).mono fun z s3 q v3 H3 G3 r3 t3 rp3 => ?_⟩⟩
  have rp2 : Rep c.K H2 G2.Z G2.μ y v2 := rp2
  have rp3 : Rep c.K H3 G3.Z G3.μ z v3 := rp3
  have rq2 : Rep c.K H3 G3.Z G3.μ y v2 := r2.rep t3 rp2
  have rq1 : RepT c.K H3 G3.Z G3.μ (.dic false kvs) (.ref a) := r2.repT t3 (r1.repT t2 rp1)
  split at q
  · rename_i hkb
    obtain ⟨k, rfl⟩ := keyB_some hkb
    obtain ⟨a', vs, ea, _, ⟨ks, g1, e1, rfl⟩, g2⟩ := dicE rq1
    cases ea
    rcases RepE.find kD_eqv k e1 g2 with ⟨q1, q2⟩ | ⟨d, v, q1, q2, q3⟩
    · rw [q1] at q
      exact ⟨none, .inl ⟨ks, k, g1, kD_rep rq2, q2.symm⟩, q _ H3 G3 r3 ((t1.trans t2).trans t3) rp3⟩
    · rw [q1] at q
      exact ⟨some v, .inl ⟨ks, k, g1, kD_rep rq2, q2.symm⟩, q _ H3 G3 r3 ((t1.trans t2).trans t3) q3⟩
  · exact q.elim
end
end Lb

set_option maxRecDepth 100000
set_option maxHeartbeats 1000000
/-! xs[i] = e, xs an own list -/
namespace Lb
open PySem PySem.Spec PyProof.Rows L2
section
variable {X : Cx} {c : Cfg} {Γ : List Fn} {own own1 own2 own3 : List Nat} {mu mu1 mu2 : Bool} {e k : Expr} {t tk : T} {pos tpos : Pos}
theorem sp_setL {i : Nat} {x : Str} {pn : Pos} (hN : X.N[i]? = some x) (hv : Vis X.env.scope x) (hd : (x == ("__debug__" : Str)) = false) (hcd : (x == ("__classdict__" : Str)) = false) (hi1 : i ∈ own1) (hi2 : i ∈ own2) (he : PE X e (tE c own own1 mu .sh (ev Γ t))) (hk : PE X k (tE c own1 own2 false .pk (ev Γ tk)))
    (hasg : ∀ v, assign (.Subscript (.Name x pn) k tpos) X.env v = (do
      let ov ← holding [v] (eval (.Name x pn) X.env)
      let iv ← holding [v, ov] (eval k X.env)
      standAt tpos
      holding [v, ov, iv] (setItem ov iv v)
      release [v, ov, iv] [])) (hs : swapsWithSole [.Subscript (.Name x pn) k tpos] e pos.line X.env = pure false) (hw : swappedStores [.Subscript (.Name x pn) k tpos] e X.env = pure none) (h1 : (assignEach [.Subscript (.Name x pn) k tpos] X.env).map (·.2) = [assign (.Subscript (.Name x pn) k tpos) X.env]) :
    PS X (.Assign [.Subscript (.Name x pn) k tpos] e pos) (tS c own own2 (ex Γ (.setL i tk t))) := imS (ps_asg he (pg_sub (pe_var hN hv hd hcd) hk set_list hasg) hs hw h1) fun E σ H ⟨s, G, G0, H0, r, en, q⟩ => by
  replace q : PostS c G0 H0 own2 E G H ((ev Γ t s).bind fun d s => (opt s (lstAt i s)).bind fun _ s => (ev Γ tk s).bind fun y s => match y, lstAt i s with
      | .int z, some xs => (match setL xs z d with
        | some ys => .ok .next (setV i (.lst ys) s)
        | none => .fail)
      | _, _ => .fail) := q
  refine ⟨s, G, r, (q.ofE r en).mono fun d s1 q v H1 G1 r1 t1 rp => ?_⟩
  cases e0 : lstAt i s1 with
  | none => rw [e0] at q; exact q.elim
  | some xs0 =>
    rw [e0, opt_some, R.bind_ok] at q
    obtain ⟨v0, f1, f2, _⟩ := r1.slot i _ (lstAt_some e0)
    obtain ⟨f3, _⟩ := (f2 hi1).live
    refine ⟨v0, f1, s1, G1, r1, ((q.move (r.lt t1)).ofE r1 (en.step t1)).mono fun y s2 q w H2 G2 r2 t2 rpk => ?_⟩
    cases e1 : lstAt i s2 with
    | none => rw [e1] at q; cases y <;> exact q.elim
    | some xs =>
      rw [e1] at q
      cases y with
      | int z =>
        replace q : PostS c G0 H0 own2 E G1 H1 (match setL xs z d with
          | some ys => .ok .next (setV i (.lst ys) s2)
          | none => .fail) := q
        cases e2 : setL xs z d with
        | none => rw [e2] at q; exact q.elim
        | some ys =>
          rw [e2] at q
          replace q : PostS c G0 H0 own2 E G1 H1 (.ok .next (setV i (.lst ys) s2)) := q
          unfold setL at e2
          cases e3 : L2.ixN xs.length z with
          | none => rw [e3] at e2; cases e2
          | some j =>
            rw [e3] at e2
            cases e2
            obtain ⟨v1, g1, g2, _⟩ := r2.slot i _ (lstAt_some e1)
            obtain ⟨g3, ws, g4, g5, g6⟩ := g2 hi2
            rw [f1] at g1
            cases g1
            have hlen := g6.length
            have rp2 : Rep c.K H2 G2.Z G2.μ d v := r1.rep t2 rp
            obtain ⟨rN, tN⟩ := r2.setOwnG hi2 (lstAt_some e1) (d' := .lst (xs.set j d)) (o := .lst (ws.set j v)) fun hr => ⟨rfl, _, upd_same, by simpa using g5, Reps.mono (fun _ q => q) hr (fun _ _ q => q) _ _ (g6.set j rp2)⟩
            rw [g3]
            have e4 : w = .int z := rpk
            subst e4
            refine ⟨G2.ad i, ws, z, j, rfl, rfl, g4, by rw [hlen]; exact e3, ?_⟩
            exact q σ _ G2 rN (((en.step t1).step t2).step tN) ((r1.lt t2).trans (r2.lt tN))
      | _ => exact q.elim
end
end Lb

set_option maxRecDepth 100000
set_option maxHeartbeats 1000000
/-! xs[i] += e, xs an own list of whole numbers -/
namespace Lb
open PySem PySem.Spec PyProof.Rows L2
section
variable {X : Cx} {c : Cfg} {Γ : List Fn} {own own1 own2 : List Nat} {mu : Bool} {e k : Expr} {t tk : T} {pos tpos : Pos}
theorem get_list : PGet X (fun o i H Q => ∃ p xs k x, o = .ref p ∧ i = .int k ∧ 0 ≤ k ∧ H p = some (.lst xs) ∧ xs[k.toNat]? = some x ∧ Q x H) := by
  rintro pins s σ H o i ov iv Q I ro ri ⟨p, xs, k, x, rfl, rfl, h0, hp, hx, q⟩
  cases ro
  obtain ⟨t, rfl⟩ := ri
  obtain ⟨its, n, r, ho, hz⟩ := I.lst hp
  obtain ⟨u, hu, ru⟩ := r.get hx
  have hl := r.length
  have hk : k.toNat < xs.length := (List.getElem?_eq_some_iff.mp hx).1
  have hn := line63
  exact wpAny_getItem_list ⟨_, ho, rfl, _, rfl⟩ h0 (by omega) (by simpa using hu) ⟨x, H, I, ru, q⟩
theorem sp_augL {i : Nat} {x : Str} {pn : Pos} (hN : X.N[i]? = some x) (hv : Vis X.env.scope x) (hd : (x == ("__debug__" : Str)) = false) (hcd : (x == ("__classdict__" : Str)) = false) (hi0 : i ∈ own) (hi1 : i ∈ own1) (hi2 : i ∈ own2) (hk : PE X k (tE c own own1 false .pk (ev Γ tk))) (he : PE X e (tE c own1 own2 false .pk (ev Γ t)))
    (ha : ∀ ov iv new, augStore k ov iv new = (do holding [new, ov, iv] (setItem ov iv new); release [new, ov, iv] []; pure .next)) : PS X (.AugAssign (.Subscript (.Name x pn) k tpos) .Add e pos) (tS c own own2 (ex Γ (.augL i tk t))) :=
  imS (ps_augS (pe_var hN hv hd hcd) hk get_list he ip_add set_list ha) fun E σ H ⟨s, G, G0, H0, r, en, q⟩ => by
  replace q : PostS c G0 H0 own2 E G H ((opt s (lstAt i s)).bind fun _ s => (ev Γ tk s).bind fun y s => match y, lstAt i s with
      | .int z, some xs => if 0 ≤ z then (opt s (xs[z.toNat]?)).bind fun x s => (ev Γ t s).bind fun w s => (opt s (augR .add x w)).bind fun v s => (opt s (lstAt i s)).bind fun ys s => (opt s (setL ys z v)).bind fun zs s => .ok .next (setV i (.lst zs) s) else .fail
      | _, _ => .fail) := q
  cases e0 : lstAt i s with
  | none => rw [e0] at q; exact q.elim
  | some xs0 =>
    rw [e0, opt_some, R.bind_ok] at q
    obtain ⟨v0, f1, f2, _⟩ := r.slot i _ (lstAt_some e0)
    obtain ⟨f3, _⟩ := (f2 hi0).live
    refine ⟨v0, f1, s, G, r, (q.ofE r en).mono fun y s1 q w H1 G1 r1 t1 rpk => ?_⟩
    cases e1 : lstAt i s1 with
    | none => rw [e1] at q; cases y <;> exact q.elim
    | some xs =>
      rw [e1] at q
      cases y with
      | int z =>
        replace q : PostS c G0 H0 own2 E G H (if 0 ≤ z then (opt s1 (xs[z.toNat]?)).bind fun x s => (ev Γ t s).bind fun w s => (opt s (augR .add x w)).bind fun v s => (opt s (lstAt i s)).bind fun ys s => (opt s (setL ys z v)).bind fun zs s => .ok .next (setV i (.lst zs) s) else .fail) := q
        by_cases hz : 0 ≤ z
        · rw [if_pos hz] at q
          cases e2 : xs[z.toNat]? with
          | none => rw [e2] at q; exact q.elim
          | some x0 =>
            rw [e2, opt_some, R.bind_ok] at q
            obtain ⟨v1, g1, g2, _⟩ := r1.slot i _ (lstAt_some e1)
            obtain ⟨g3, ws, g4, g5, g6⟩ := g2 hi1
            rw [f1] at g1
            cases g1
            obtain ⟨vx, hvx, rpx⟩ := g6.get' e2
            have ew : w = .int z := rpk
            subst ew
            refine ⟨G1.ad i, ws, z, vx, g3, rfl, hz, g4, hvx, s1, G1, r1, ((q.move (r.lt t1)).ofE r1 (en.step t1)).mono fun d s2 q u H2 G2 r2 t2 rpe => ?_⟩
            cases e3 : augR .add x0 d with
            | none => rw [e3] at q; exact q.elim
            | some vn =>
              rw [e3, opt_some, R.bind_ok] at q
              obtain ⟨a, b, rfl, rfl⟩ := aug_add0 _ _ _ e3
              cases e3
              cases e4 : lstAt i s2 with
              | none => rw [e4] at q; exact q.elim
              | some ys =>
                rw [e4, opt_some, R.bind_ok] at q
                cases e5 : setL ys z (.int (a + b)) with
                | none => rw [e5] at q; exact q.elim
                | some zs =>
                  rw [e5, opt_some, R.bind_ok] at q
                  have ex : vx = .int a := rpx
                  have eu : u = .int b := rpe
                  subst ex eu
                  refine ⟨a, b, rfl, rfl, ?_⟩
                  unfold setL at e5
                  cases e6 : L2.ixN ys.length z with
                  | none => rw [e6] at e5; cases e5
                  | some j =>
                    rw [e6] at e5
                    cases e5
                    obtain ⟨v2, k1, k2, _⟩ := r2.slot i _ (lstAt_some e4)
                    obtain ⟨k3, us, k4, k5, k6⟩ := k2 hi2
                    rw [f1] at k1
                    cases k1
                    have hlen := k6.length
                    obtain ⟨rN, tN⟩ := r2.setOwnG hi2 (lstAt_some e4) (d' := .lst (ys.set j (.int (a + b)))) (o := .lst (us.set j (.int (a + b)))) fun hr => ⟨rfl, _, upd_same, by simpa using k5, Reps.mono (fun _ q => q) hr (fun _ _ q => q) _ _ (k6.set j (show Rep c.K H2 G2.Z G2.μ (.int (a + b)) (.int (a + b)) from rfl))⟩
                    refine ⟨G2.ad i, us, z, j, k3, rfl, k4, by rw [hlen]; exact e6, ?_⟩
                    exact q σ _ G2 rN (((en.step t1).step t2).step tN) ((r1.lt t2).trans (r2.lt tN))
        · rw [if_neg hz] at q; exact q.elim
      | _ => exact q.elim
theorem sp_unpL (hK : c.K = X.K) {es : List Expr} {ts : List Tg} {kt : Nat} {pt : Pos} (hc : X.calm = true) (he : PE X e (tE c own own1 mu .sh (ev Γ t))) (hg : PGs X es (tGs c own1 ts)) (hn : (assignEach es X.env).length = ts.length) (hst : (assignEach es X.env).findIdx? (·.1) = none)
    (hs : swapsWithSole [.Tuple es kt pt] e pos.line X.env = pure false) (hw : swappedStores [.Tuple es kt pt] e X.env = pure none) (h1 : (assignEach [.Tuple es kt pt] X.env).map (·.2) = [assign (.Tuple es kt pt) X.env]) :
    PS X (.Assign [.Tuple es kt pt] e pos) (tS c own (offT own1 (slotsTs ts)) (ex Γ (.unpL ts t))) := imS (ps_asg he (pg_unl hc hg hn hst) hs hw h1) fun E σ H ⟨s, G, G0, H0, r, en, q⟩ => by
  replace q : PostS c G0 H0 (offT own1 (slotsTs ts)) E G H ((ev Γ t s).bind fun d s => (opt s (setLs ts d s)).bind fun s' _ => .ok .next s') := q
  refine ⟨s, G, r, (q.ofE r en).mono fun d s1 q v H1 G1 r1 t1 rp => ?_⟩
  cases d with
  | lst ds =>
    replace q : PostS c G0 H0 (offT own1 (slotsTs ts)) E G H ((opt s1 (setTs ts ds s1)).bind fun s' _ => .ok .next s') := q
    cases e1 : setTs ts ds s1 with
    | none => rw [e1] at q; exact q.elim
    | some s2 =>
      rw [e1] at q
      obtain ⟨a, vs, rfl, h2, h3, h4⟩ := (show ∃ a vs, v = V.ref a ∧ (G1.Z a ∧ Rd H1 a (.lst vs)) ∧ vs.length ≤ sizeLine ∧ Reps c.K H1 G1.Z G1.μ ds vs from rp)
      rw [← hK]
      refine ⟨a, vs, rfl, .inl h2.2, by rw [h4.length]; exact setTs_len ts ds s1 s2 e1, ds, s1, G1, s2, r1, h4, e1, fun σ' r2 _ => q σ' H1 G1 r2 ((en.step t1).sub fun i hi => (mem_offT.mp hi).1) (r.lt t1)⟩
  | _ => exact q.elim
end
end Lb

set_option maxRecDepth 100000
set_option maxHeartbeats 1000000
/-! xs.extend(e), e a new list -/
namespace Lb
open PySem PySem.Spec PyProof.Rows L2
section
variable {X : Cx} {c : Cfg} {Γ : List Fn} {own own1 : List Nat} {mu : Bool} {e : Expr} {t : T} {pos : Pos}
theorem sp_ext {i : Nat} {x : Str} {pn apos cpos : Pos} (hN : X.N[i]? = some x) (hv : Vis X.env.scope x) (hd : (x == ("__debug__" : Str)) = false) (hcd : (x == ("__classdict__" : Str)) = false) (hi : i ∈ own) (hi1 : i ∈ own1) (he : PE X e (tE c own own1 mu .fr (ev Γ t)))
    (hbase : attributeBase (.Name x pn) "extend" X.env (eval (.Name x pn) X.env) = eval (.Name x pn) X.env)
    (hfew : ((backTo cpos (starEach [e] X.env)).all (fun x => !x.1) && (backToKw cpos (keywordEach [] X.env)).all (fun x => x.1.isSome) && decide ([e].length + ([] : List Keyword).length + (if ([] : List Keyword).isEmpty then 0 else 1) < 30)) = true)
    (hline : (apos.endLine == cpos.line) = true) (hs : starEach [e] X.env = (false, eval e X.env) :: starEach [] X.env) :
    PS X (.Expr (.Call (.Attribute (.Name x pn) "extend" apos) [e] [] cpos) pos) (tS c own own1 (ex Γ (.extL i t))) :=
  imS (ps_expr (pe_bm PySem.F.plainAttrs_list PySem.F.slot_list_extend PySem.F.type_list_extend mt_extend (pe_var hN hv hd hcd) (pa_cons he pa_nil hs) hbase hfew hline hs) rfl) fun E σ H ⟨s, G, G0, H0, r, en, q⟩ => by
  replace q : PostS c G0 H0 own1 E G H ((opt s (lstAt i s)).bind fun _ s => (ev Γ t s).bind fun d s => match d, lstAt i s with
      | .lst ys, some xs => if xs.length + ys.length ≤ sizeLine then .ok .next (setV i (.lst (xs ++ ys)) s) else .fail
      | _, _ => .fail) := q
  cases e0 : lstAt i s with
  | none => rw [e0] at q; exact q.elim
  | some ds0 =>
    rw [e0, opt_some, R.bind_ok] at q
    obtain ⟨v0, f1, f2, _⟩ := r.slot i _ (lstAt_some e0)
    obtain ⟨f3, vs0, f4, _⟩ := f2 hi
    refine ⟨v0, f1, ?_, s, G, r, ?_⟩
    · rw [f3]; exact .inl ⟨rfl, vs0, .inl (.inl f4)⟩
    · refine (q.ofE r en).mono fun d s1 q v H1 G1 r1 t1 rp => ?_
      obtain ⟨b, ow, nz, nm, new⟩ := rp
      cases e1 : lstAt i s1 with
      | none =>
        rw [e1] at q
        cases d <;> exact q.elim
      | some xs =>
        rw [e1] at q
        cases d with
        | lst ys =>
          replace q : PostS c G0 H0 own1 E G H (if xs.length + ys.length ≤ sizeLine then R.ok .next (setV i (.lst (xs ++ ys)) s1) else .fail) := q
          obtain ⟨rfl, zs, k1, k2, k3⟩ := ow
          by_cases hz : xs.length + ys.length ≤ sizeLine
          · rw [if_pos hz] at q
            obtain ⟨v1, g1, g2, _⟩ := r1.slot i _ (lstAt_some e1)
            obtain ⟨g3, vs1, g4, g5, g6⟩ := g2 hi1
            rw [f1] at g1
            cases g1
            rw [g3]
            have h1 := g6.length
            have h2 := k3.length
            obtain ⟨rN, tN⟩ := r1.setOwn hi1 (lstAt_some e1) rfl (vs' := vs1 ++ zs) (ds' := xs ++ ys) (by simp; omega) (g6.append k3)
            refine ⟨G1.ad i, b, vs1, zs, rfl, rfl, g4, k1, by omega, ?_⟩
            exact q σ _ G1 rN ((en.step t1).step tN) ((r.lt t1).trans (r1.lt tN))
          · rw [if_neg hz] at q; exact q.elim
        | _ => exact q.elim
end
end Lb

set_option maxRecDepth 100000
set_option maxHeartbeats 1000000
/-! x = {k: v for ..} on one line: the name takes the dict while the block still stands (the kit has dc_core for the block, and no rule for this statement) -/
namespace Lb
open PySem PySem.Spec PyProof PyProof.Rows L2
section
variable {X : Cx} {c : Cfg} {Γ : List Fn} {own own1 own2 : List Nat} {mu : Bool}
theorem swaps_dict {kx vx : Expr} {gs : List Comprehension} {scope : Scope} {pos py : Pos} {y : Str} {n : Nat} {env : Env} (h : (env.blockKind == .function && env.kindOf y == some .local && py.line == pos.line && !(scope.names.any fun (a, k) => a == y && (k == .local || k == .cell))) = true) :
    swapsWith (.DictComp kx vx gs scope pos) (some (.Name y py)) n env = pure true := by
  show (pure (env.blockKind == .function && env.kindOf y == some .local && py.line == pos.line && !(scope.names.any fun (a, k) => a == y && (k == .local || k == .cell))) : Sem Bool) = _
  rw [h]
theorem sp_setDc {i : Nat} {y : Str} {py spos : Pos} {k : IK} {as : List T} {tgx iter : Expr} {tg : Tg} {ifs : List Expr} {tifs : List T} {kx vx : Expr} {ke ve : T} {scope : Scope} {pos : Pos} {ob : List (Str × Nat)} (hc : X.calm = true) (hN : X.N.Nodup) (hy : X.N[i]? = some y) (hyl : X.env.scope.names.lookup y = some .local)
    (hsw : swapsWith (.DictComp kx vx [⟨tgx, iter, ifs, 0⟩] scope pos) (some (.Name y py)) spos.line X.env = pure true) (hi : PI X tgx iter (tI c own own1 [] k (evI Γ k as))) (ok : BlkOk X.N X.env.scope scope ob) (hsub : ∀ i ∈ own2, i ∈ own1) (hvs : ∀ i ∈ ob.map (·.2), i ∉ own2) (hst : ∀ i ∈ slotsT tg, i ∈ ob.map (·.2)) (hwk : wkK k = true → tgB tg = true)
    (hg : ∀ (s : Shared) (H : Hp) (C : Addr) (cl : List (Str × Addr)) (fp : List Addr), PG (X.blk s H scope (compEnvC scope cl C X.env) fp) tgx (tG c.inn own2 tg)) (ht : ∀ (s : Shared) (H : Hp) (C : Addr) (cl : List (Str × Addr)) (fp : List Addr), PTs (X.blk s H scope (compEnvC scope cl C X.env) fp) ifs (tT c.inn own2 own2 mu (evAll Γ tifs)))
    (hk : ∀ (s : Shared) (H : Hp) (C : Addr) (cl : List (Str × Addr)) (fp : List Addr), PE (X.blk s H scope (compEnvC scope cl C X.env) fp) kx (tE c.inn own2 own2 mu .sh (ev Γ ke))) (he : ∀ (s : Shared) (H : Hp) (C : Addr) (cl : List (Str × Addr)) (fp : List Addr), PE (X.blk s H scope (compEnvC scope cl C X.env) fp) vx (tE c.inn own2 own2 mu .sh (ev Γ ve)))
    (hf : ∀ x, foldedSetIterable iter X.env x = pure x) : PS X (.Assign [.Name y py] (.DictComp kx vx [⟨tgx, iter, ifs, 0⟩] scope pos) spos) (tS c own (i :: drop1 own2 i) (ex Γ (.asg i (.dc k as tg (ob.map (·.2)) tifs ke ve)))) := by
  constructor
  intro pins s σ H E I h
  have h1 := dc_pre (mu := mu) hsub hvs hst hwk (asg_preF h)
  -- the name's store, with the block's frame still there
  have last : ∀ (D C : Addr) (s1 : Shared) (m : Str → Option Value) (H1 : Hp), Inv X pins σ H1 s1 → gName i (.ref D) σ H1 E.nx → s1.heap.Ns C m → FpOk X pins H1 C → compPost (model X.prog X.w) X.A X.xe (some (assign (.Name y py) X.env)) (fun _ s2 => SP X pins E .next s2) (.ref D) C (.ok .next) s1 := by
    intro D C s1 m H1 I1 q hn f
    refine wpAny_assign_Name (store_ok2 (v := V.ref D) I1 hN hy (.inl hyl) rfl (fun s2 I2 st => ?_) (.inr hyl))
    obtain ⟨a, sb, ha⟩ := st
    have ne : C ≠ a := by
      cases ha with
      | inl e => exact fun z => f.2.1 (z.trans e)
      | inr e => exact fun z => f.2.2.2.2.1 y a e z.symm
    exact ⟨m, hn.sameBut sb ne, fun h3 sb3 => ⟨_, H1, I2.turnedL (ch := [C]) (fun b o hb e => (sb3.2 b (by simpa using hb)).trans e) (fun b hb => by rw [List.mem_singleton.mp hb]; exact f), q⟩⟩
  rw [exec_Assign_Name_used _ _ _ _ hsw]
  exact wpAny_bind (wpAny_standAt (wpAny_bind (wpAny_bind (thn (dc_core (use := some (assign (.Name y py) X.env)) (Qf := fun _ s2 => SP X pins E .next s2) hc hN I hi ok hg ht hk he hf h1 last) fun _ s2 q => wpAny_pure (wpAny_pure q)))))
end
end Lb

set_option maxRecDepth 100000
set_option maxHeartbeats 1000000
/-! from the text to the small language: each step comes with its proof -/
namespace Lb
open PySem PySem.Spec PyProof.Rows L2
/-- what is known of a global name: a built-in; a def of ours (its place, how many parameters, what stands for those left out); an error of ours -/
inductive GK where
  | blt
  | fn (k np : Nat) (das : List T) (ko : Bool) (kps : List (Nat × List Str × List Nat))
  | exc
  | cst (t : T)
structure CE where
  N : List Str
  sc : Scope
  fn : Str → Bool
  gl : List (Str × GK)
  kk : Nat
  /-- names that hold dicts; that hold dicts with tuples for keys -/
  dks : List Str
  tks : List Str
  /-- names that hold own lists into which items are stored -/
  lks : List Str
  /-- no repr is under way around the def -/
  gd : Bool := false
def GOk (P : Program) (w : World) (K : PySem.W.Frag) (mg : Str → Option Value) (base : Heap) (kk : Nat) (Γ : List Fn) (x : Str) : GK → Prop
  | .blt => mg x = none
  | .fn k np das ko kps => ∃ (F : Fn) (f : Addr) (fd : FuncData) (ps : List Str) (dvs : List V) (dus : List Value), Γ[k]? = some F ∧ FnOk P w K mg base (L2.CX P w) kk f fd ps (spD K mg np F) ∧ mg x = some (.ref f) ∧ PySem.W.keepIn K (.ref f) = true ∧ (∀ j, j ≤ das.length → (ko = true → j = 0) → Binds K fd ps (dus.drop j) ∧ Dfl K Γ (das.drop j) (dvs.drop j) (dus.drop j)) ∧ ∀ q ∈ kps, KBn K fd ps q.1 q.2.1 (fun us ws => permL q.2.2 (us ++ ws)) (fun vs zs => permL q.2.2 (vs ++ zs))
  | .exc => ∃ C bmB B newId initId, ExcBaseFacts B newId initId bmB ∧ PySem.W.excIn K C bmB newId = true ∧ mg x = some (.ref C) ∧ PySem.W.keepIn K (.ref C) = true ∧ PySem.W.subIn K (.ref C) (.type "BaseException") = some true ∧ PySem.W.typeIn K (.ref C) = some (.type "type")
  | .cst t => ∃ (d : D) (u : Value) (v : V), (∀ s, ev Γ t s = .ok d s) ∧ mg x = some u ∧ RelV v u ∧ ∀ H Z μ, Rep K H Z μ d v
structure Cc (ce : CE) (Γ : List Fn) (c : Cfg) (X : Cx) : Prop where
  K : c.K = X.K
  mg : c.mg = X.mg
  N : X.N = ce.N
  nd : X.N.Nodup
  sc : X.env.scope = ce.sc
  fn : ∀ x, ce.fn x = true → X.fn x = true
  calm : X.calm = true
  tk : Takes X c.W
  gl : ∀ x g, ce.gl.lookup x = some g → GOk X.prog X.w c.K c.mg X.base ce.kk Γ x g
  room : Room ce.kk X.A
  gd : ce.gd = true → X.A.guards = some []
/-! ### names -/
def ixS (x : Str) : List Str → Option Nat
  | [] => none
  | y :: r => if (y == x) = true then some 0 else (ixS x r).map (· + 1)
theorem ixS_get {x : Str} : ∀ {N : List Str} {i : Nat}, ixS x N = some i → N[i]? = some x
  | [], _, h => by cases h
  | y :: r, i, h => by
    unfold ixS at h
    by_cases hy : (y == x) = true
    · rw [if_pos hy] at h; cases h
      rw [eq_of_beq hy]; rfl
    · rw [if_neg hy] at h
      cases e : ixS x r with
      | none => rw [e] at h; cases h
      | some j => rw [e] at h; cases h; exact ixS_get (N := r) e
def visB (sc : Scope) (x : Str) : Bool := match sc.names.lookup x with
  | some .local => true
  | some .cell => true
  | some .free => true
  | _ => false
theorem visB_ok {sc : Scope} {x : Str} (h : visB sc x = true) : Vis sc x := by
  unfold visB at h
  unfold Vis
  split at h <;> first | (rename_i e; simp [e]) | cases h
structure NameOk (ce : CE) (x : Str) (i : Nat) : Prop where
  ix : ce.N[i]? = some x
  vis : Vis ce.sc x
  dbg : (x == ("__debug__" : Str)) = false
  cdc : (x == ("__classdict__" : Str)) = false
def nameIx (ce : CE) (x : Str) : Option { i : Nat // NameOk ce x i } :=
  if hv : visB ce.sc x = true then if hd : (x == ("__debug__" : Str)) = false then if hc : (x == ("__classdict__" : Str)) = false then
    match h : ixS x ce.N with
    | some i => some ⟨i, ixS_get h, visB_ok hv, hd, hc⟩
    | none => none
  else none else none else none
def glB (ce : CE) (x : Str) : Bool := (ce.sc.names.lookup x == some .globalImplicit) && !(x == ("__debug__" : Str))
section
variable {ce : CE} {Γ : List Fn} {c : Cfg} {X : Cx}
theorem Cc.ix (cc : Cc ce Γ c X) {x : Str} {i : Nat} (h : NameOk ce x i) : X.N[i]? = some x := by rw [cc.N]; exact h.ix
theorem Cc.vis (cc : Cc ce Γ c X) {x : Str} {i : Nat} (h : NameOk ce x i) : Vis X.env.scope x := by rw [cc.sc]; exact h.vis
theorem Cc.g (cc : Cc ce Γ c X) {x : Str} (h : glB ce x = true) : Gl X x := by
  unfold glB at h
  show X.env.scope.names.lookup x = _
  rw [cc.sc]
  simp only [Bool.and_eq_true, beq_iff_eq] at h
  exact h.1
theorem glB_dbg {x : Str} (h : glB ce x = true) : (x == ("__debug__" : Str)) = false := by
  unfold glB at h
  simp only [Bool.and_eq_true, Bool.not_eq_true'] at h
  exact h.2
theorem Cc.un (cc : Cc ce Γ c X) : X.A.units + 64 < cLine := cc.room.units
theorem Cc.blt (cc : Cc ce Γ c X) {x : Str} (h : ce.gl.lookup x = some .blt) : X.mg x = none := by rw [← cc.mg]; exact cc.gl x _ h
end
/-! ### side conditions -/
def starOk : Expr → Bool
  | .Starred _ _ => false
  | _ => true
theorem starOk_eq {e : Expr} (h : starOk e = true) (es : List Expr) (env : Env) : starEach (e :: es) env = (false, eval e env) :: starEach es env := by
  cases e <;> first | rfl | cases h
theorem starOk_any {pos : Pos} {env : Env} : ∀ {es : List Expr}, es.all starOk = true → (backTo pos (starEach es env)).any (·.1) = false
  | [], _ => rfl
  | e :: es, h => by
    simp only [List.all_cons, Bool.and_eq_true] at h
    rw [starOk_eq h.1]
    show (false || (backTo pos (starEach es env)).any (·.1)) = false
    rw [starOk_any h.2]; rfl
theorem starOk_few {pos : Pos} {env : Env} {e : Expr} (h : starOk e = true) : ((backTo pos (starEach [e] env)).all (fun x => !x.1) && (backToKw pos (keywordEach [] env)).all (fun x => x.1.isSome) && decide ([e].length + ([] : List Keyword).length + (if ([] : List Keyword).isEmpty then 0 else 1) < 30)) = true := by
  rw [starOk_eq h]; rfl
theorem starOk_2e {pos : Pos} {env : Env} {e f : Expr} (h : starOk e = true) (h2 : starOk f = true) : backTo pos (starEach [e, f] env) = [(false, eval e env), (false, eval f env)] := by
  rw [starOk_eq h, starOk_eq h2]; rfl
theorem starOk_few2 {pos : Pos} {env : Env} {e f : Expr} (h : starOk e = true) (h2 : starOk f = true) : ((backTo pos (starEach [e, f] env)).all (fun x => !x.1) && (backToKw pos (keywordEach [] env)).all (fun x => x.1.isSome) && decide (([e, f] : List Expr).length + ([] : List Keyword).length + (if ([] : List Keyword).isEmpty then 0 else 1) < 30)) = true := by
  rw [starOk_2e h h2]; rfl
def plainIxB : Expr → Bool
  | .Slice _ _ _ _ => false
  | _ => true
theorem plainIxB_ok {e : Expr} (h : plainIxB e = true) : PlainIx e := by
  cases e <;> first | (intro o i; rfl) | cases h
/-- a test that goes by the value -/
def valB : Expr → Bool
  | .UnaryOp .Not _ _ => false
  | .BoolOp _ _ _ => false
  | .IfExp _ _ _ _ => false
  | .Compare _ _ _ _ => false
  | _ => true
theorem valB_ok {e : Expr} (h : valB e = true) (env : Env) (whole : Sem Value) : isTrue e env whole = (do let v ← whole; standAt e.pos; holding [v] (PySem.truthy v)) := by
  cases e <;> first | rfl | cases h | skip
  rename_i op a p
  cases op <;> first | rfl | cases h
def setB : Expr → Bool
  | .Set _ _ _ => true
  | _ => false
theorem noFold {e : Expr} (h : setB e = false) (env : Env) (x : Value) : foldedSetIterable e env x = pure x := by
  cases e <;> first | rfl | cases h
def superB : Expr → Bool
  | .Call (.Name _ _) [] [] _ => true
  | _ => false
theorem base_ok {e : Expr} (h : superB e = false) (m : Str) (env : Env) (w : Sem Value) : attributeBase e m env w = w := by
  unfold attributeBase
  split
  · cases h
  · rfl
/-! ### results -/
structure RE (ce : CE) (Γ : List Fn) (own : List Nat) (e : Expr) where
  t : T
  own' : List Nat
  mu : Bool
  md : Md
  ok : ∀ c X, Cc ce Γ c X → PE X e (tE c own own' mu md (ev Γ t))
/-- shared; looked at; new -/
structure RSh (ce : CE) (Γ : List Fn) (own : List Nat) (e : Expr) where
  t : T
  own' : List Nat
  mu : Bool
  ok : ∀ c X, Cc ce Γ c X → PE X e (tE c own own' mu .sh (ev Γ t))
structure RPk (ce : CE) (Γ : List Fn) (own : List Nat) (e : Expr) where
  t : T
  own' : List Nat
  ok : ∀ c X, Cc ce Γ c X → PE X e (tE c own own' false .pk (ev Γ t))
structure RFr (ce : CE) (Γ : List Fn) (own : List Nat) (e : Expr) where
  t : T
  own' : List Nat
  mu : Bool
  ok : ∀ c X, Cc ce Γ c X → PE X e (tE c own own' mu .fr (ev Γ t))
structure RTt (ce : CE) (Γ : List Fn) (own : List Nat) (e : Expr) where
  t : T
  own' : List Nat
  mu : Bool
  ok : ∀ c X, Cc ce Γ c X → PT X e (tT c own own' mu (evT Γ t))
structure RA (ce : CE) (Γ : List Fn) (own : List Nat) (es : List Expr) where
  ts : List T
  own' : List Nat
  mu : Bool
  len : ts.length = es.length
  ok : ∀ c X, Cc ce Γ c X → PA X es (tAs c own own' mu false (evs Γ ts))
structure RAp (ce : CE) (Γ : List Fn) (own : List Nat) (es : List Expr) where
  ts : List T
  own' : List Nat
  len : ts.length = es.length
  ok : ∀ c X, Cc ce Γ c X → PA X es (tAs c own own' false true (evs Γ ts))
section
variable {ce : CE} {Γ : List Fn} {own : List Nat} {e : Expr} {es : List Expr}
def RE.sh (r : RE ce Γ own e) : Option (RSh ce Γ own e) :=
  match h : r.md with
  | .sh => some ⟨r.t, r.own', r.mu, fun c X cc => by have := r.ok c X cc; rw [h] at this; exact this⟩
  | .fr => some ⟨r.t, r.own', r.mu, fun c X cc => by have := r.ok c X cc; rw [h] at this; exact seSh this⟩
  | .pk => none
def RE.pk (r : RE ce Γ own e) : Option (RPk ce Γ own e) :=
  match hm : r.mu with
  | true => none
  | false => match h : r.md with
    | .sh => some ⟨r.t, r.own', fun c X cc => by have := r.ok c X cc; rw [h, hm] at this; exact sePk this⟩
    | .fr => some ⟨r.t, r.own', fun c X cc => by have := r.ok c X cc; rw [h, hm] at this; exact sePkF this⟩
    | .pk => some ⟨r.t, r.own', fun c X cc => by have := r.ok c X cc; rw [h, hm] at this; exact this⟩
def RE.fr (r : RE ce Γ own e) : Option (RFr ce Γ own e) :=
  match h : r.md with
  | .fr => some ⟨r.t, r.own', r.mu, fun c X cc => by have := r.ok c X cc; rw [h] at this; exact this⟩
  | _ => none
end
/-- what one level of depth can do -/
structure Cs (Γ : List Fn) where
  e : (ce : CE) → (own : List Nat) → (e : Expr) → Option (RE ce Γ own e)
  t : (ce : CE) → (own : List Nat) → (e : Expr) → Option (RTt ce Γ own e)
section
variable {Γ : List Fn} (r : Cs Γ) (ce : CE)
def eSh (own : List Nat) (e : Expr) : Option (RSh ce Γ own e) := (r.e ce own e).bind RE.sh
def ePk (own : List Nat) : (e : Expr) → Option (RPk ce Γ own e)
  | .Name x pos => (match nameIx ce x with
      | some i => some ⟨.var i.1, own, fun c X cc => se_pk (cc.ix i.2) (cc.vis i.2) i.2.dbg i.2.cdc⟩
      | none => (r.e ce own (.Name x pos)).bind RE.pk)
  | e => (r.e ce own e).bind RE.pk
def aSh : (es : List Expr) → (own : List Nat) → Option (RA ce Γ own es)
  | [], own => some ⟨[], own, false, rfl, fun c X cc => sa_nil⟩
  | e :: es, own => if hs : starOk e = true then
      (eSh r ce own e).bind fun a => (aSh es a.own').map fun b => ⟨a.t :: b.ts, b.own', a.mu || b.mu, by rw [List.length_cons, List.length_cons, b.len], fun c X cc => sa_sh (a.ok c X cc) (b.ok c X cc) (starOk_eq hs es X.env)⟩
    else none
def aPk : (es : List Expr) → (own : List Nat) → Option (RAp ce Γ own es)
  | [], own => some ⟨[], own, rfl, fun c X cc => sa_nil⟩
  | e :: es, own => if hs : starOk e = true then
      (ePk r ce own e).bind fun a => (aPk es a.own').map fun b => ⟨a.t :: b.ts, b.own', by rw [List.length_cons, List.length_cons, b.len], fun c X cc => sa_pk (a.ok c X cc) (b.ok c X cc) (starOk_eq hs es X.env)⟩
    else none
end
/-! ### operators -/
structure ROp (op : Operator) where
  p : P
  ok : ∀ X : Cx, OpR X (binaryOp op) (rP2 X.K p)
def opOf : (op : Operator) → Option (ROp op)
  | .Add => some ⟨.add, fun _ => o_add⟩
  | .Sub => some ⟨.sub, fun _ => o_sub⟩
  | .Mult => some ⟨.mul, fun _ => o_mul⟩
  | .Mod => some ⟨.mod, fun _ => o_mod⟩
  | .FloorDiv => some ⟨.fdiv, fun _ => o_fdiv⟩
  | .Pow => some ⟨.pow, fun _ => o_pow⟩
  | _ => none
theorem bp2 {p : P} (h0 : ∀ st, prim st p [] = none) (h1 : ∀ st a, prim st p [a] = none) (h3 : ∀ st a b c r, prim st p (a :: b :: c :: r) = none) (h2 : ∀ st a b d, prim st p [a, b] = some d → ∃ k, d = .bl k) : BoolP p := fun st ds d h => by
  match ds, h with
  | [], h => rw [h0] at h; cases h
  | [a], h => rw [h1] at h; cases h
  | [a, b], h => exact h2 st a b d h
  | a :: b :: c :: r, h => rw [h3] at h; cases h
theorem bp1 {p : P} (h0 : ∀ st, prim st p [] = none) (h1 : ∀ st a d, prim st p [a] = some d → ∃ k, d = .bl k) (h3 : ∀ st a b r, prim st p (a :: b :: r) = none) : BoolP p := fun st ds d h => by
  match ds, h with
  | [], h => rw [h0] at h; cases h
  | [a], h => exact h1 st a d h
  | a :: b :: r, h => rw [h3] at h; cases h
theorem bpm {o : Option Bool} {f : Bool → Bool} {d : D} (h : o.map (fun c => D.bl (f c)) = some d) : ∃ k, d = .bl k := by
  cases o with
  | none => cases h
  | some c => cases h; exact ⟨_, rfl⟩
theorem boolP_lt : BoolP .lt := bp2 (fun _ => rfl) (fun _ a => by cases a <;> rfl) (fun _ a b c r => by cases a <;> cases b <;> rfl) fun st a b d h => by
  cases a <;> cases b <;> first
    | exact nomatch (show (none : Option D) = some d from h)
    | (rename_i xs ys; exact bpm (f := id) (show (ltR (.tup xs) (.tup ys)).map (fun c => D.bl (id c)) = some d from h))
    | (cases h; exact ⟨_, rfl⟩)
theorem boolP_le : BoolP .le := bp2 (fun _ => rfl) (fun _ a => by cases a <;> rfl) (fun _ a b c r => by cases a <;> cases b <;> rfl) fun st a b d h => by
  cases a <;> cases b <;> first | exact nomatch (show (none : Option D) = some d from h) | (cases h; exact ⟨_, rfl⟩)
theorem boolP_gt : BoolP .gt := bp2 (fun _ => rfl) (fun _ a => by cases a <;> rfl) (fun _ a b c r => by cases a <;> cases b <;> rfl) fun st a b d h => by
  cases a <;> cases b <;> first | exact nomatch (show (none : Option D) = some d from h) | (cases h; exact ⟨_, rfl⟩)
theorem boolP_ge : BoolP .ge := bp2 (fun _ => rfl) (fun _ a => by cases a <;> rfl) (fun _ a b c r => by cases a <;> cases b <;> rfl) fun st a b d h => by
  cases a <;> cases b <;> first | exact nomatch (show (none : Option D) = some d from h) | (cases h; exact ⟨_, rfl⟩)
theorem boolP_isB : BoolP .isB := bp2 (fun _ => rfl) (fun _ a => by cases a <;> rfl) (fun _ a b c r => by cases a <;> cases b <;> rfl) fun st a b d h => by
  cases a <;> cases b <;> first | exact nomatch (show (none : Option D) = some d from h) | (cases h; exact ⟨_, rfl⟩)
theorem boolP_nisB : BoolP .nisB := bp2 (fun _ => rfl) (fun _ a => by cases a <;> rfl) (fun _ a b c r => by cases a <;> cases b <;> rfl) fun st a b d h => by
  cases a <;> cases b <;> first | exact nomatch (show (none : Option D) = some d from h) | (cases h; exact ⟨_, rfl⟩)
theorem boolP_eq : BoolP .eq := bp2 (fun _ => rfl) (fun _ a => rfl) (fun _ a b c r => rfl) fun st a b d h => bpm (f := id) (show (eqR a b).map (fun c => D.bl (id c)) = some d from h)
theorem boolP_ne : BoolP .ne := bp2 (fun _ => rfl) (fun _ a => rfl) (fun _ a b c r => rfl) fun st a b d h => bpm (f := not) (show (eqR a b).map (fun c => D.bl (!c)) = some d from h)
theorem bpi {c : Prop} [Decidable c] {k : Bool} {d : D} (h : (if c then some (D.bl k) else none) = some d) : ∃ k, d = .bl k := by
  split at h
  · cases h; exact ⟨_, rfl⟩
  · cases h
theorem boolP_inn : BoolP .inn := bp2 (fun _ => rfl) (fun _ a => rfl) (fun _ a b c r => by cases b <;> first | rfl | (rename_i t kvs; cases t <;> rfl)) fun st a b d h => by
  cases b <;> first | exact nomatch (show (none : Option D) = some d from h) | skip
  · rename_i ys; exact bpm (f := id) (show (inR a ys).map (fun c => D.bl (id c)) = some d from h)
  · rename_i ys; exact bpm (f := id) (show (inR a ys).map (fun c => D.bl (id c)) = some d from h)
  · rename_i t kvs
    cases t with
    | true => exact nomatch (show (none : Option D) = some d from h)
    | false => exact bpi (show (if keyB a = true then some (D.bl (dget kvs a).isSome) else none) = some d from h)
theorem boolP_nin : BoolP .nin := bp2 (fun _ => rfl) (fun _ a => rfl) (fun _ a b c r => by cases b <;> first | rfl | (rename_i t kvs; cases t <;> rfl)) fun st a b d h => by
  cases b <;> first | exact nomatch (show (none : Option D) = some d from h) | skip
  · rename_i ys; exact bpm (f := not) (show (inR a ys).map (fun c => D.bl (!c)) = some d from h)
  · rename_i ys; exact bpm (f := not) (show (inR a ys).map (fun c => D.bl (!c)) = some d from h)
  · rename_i t kvs
    cases t with
    | true => exact nomatch (show (none : Option D) = some d from h)
    | false => exact bpi (show (if keyB a = true then some (D.bl (!(dget kvs a).isSome)) else none) = some d from h)
theorem boolP_isN : BoolP .isN := bp1 (fun _ => rfl) (fun st a d h => by cases a <;> (cases h; exact ⟨_, rfl⟩)) fun _ a b r => by cases a <;> rfl
theorem boolP_notN : BoolP .notN := bp1 (fun _ => rfl) (fun st a d h => by cases a <;> (cases h; exact ⟨_, rfl⟩)) fun _ a b r => by cases a <;> rfl
structure RCm (op : CmpOp) where
  p : P
  bl : BoolP p
  ok : ∀ X : Cx, X.A.units + 64 < cLine → OpR X (compareOp op) (rP2 X.K p)
def cmOf : (op : CmpOp) → Option (RCm op)
  | .Eq => some ⟨.eq, boolP_eq, fun _ h => o_eq h⟩
  | .NotEq => some ⟨.ne, boolP_ne, fun _ h => o_ne h⟩
  | .Lt => some ⟨.lt, boolP_lt, fun _ h => o_lt h⟩
  | .LtE => some ⟨.le, boolP_le, fun _ _ => o_le⟩
  | .Gt => some ⟨.gt, boolP_gt, fun _ _ => o_gt⟩
  | .GtE => some ⟨.ge, boolP_ge, fun _ _ => o_ge⟩
  | .In => some ⟨.inn, boolP_inn, fun _ h => o_in h⟩
  | .NotIn => some ⟨.nin, boolP_nin, fun _ h => o_nin h⟩
  | .Is => some ⟨.isB, boolP_isB, fun _ _ => o_isB⟩
  | .IsNot => some ⟨.nisB, boolP_nisB, fun _ _ => o_nisB⟩
structure RIs (op : CmpOp) where
  p : P
  bl : BoolP p
  ok : ∀ X : Cx, OpR X (compareOp op) (fun x y H Q => y = .non ∧ rP X.K p [x] H Q)
def isOf : (op : CmpOp) → Option (RIs op)
  | .Is => some ⟨.isN, boolP_isN, fun _ => o_isN⟩
  | .IsNot => some ⟨.notN, boolP_notN, fun _ => o_notN⟩
  | _ => none
end Lb

set_option maxRecDepth 100000
set_option maxHeartbeats 2000000
namespace Lb
open PySem PySem.Spec PyProof.Rows L2
/-! ### targets -/
structure RG (ce : CE) (Γ : List Fn) (e : Expr) where
  tg : Tg
  ok : ∀ c X own, Cc ce Γ c X → PG X e (tG c own tg)
structure RGs (ce : CE) (Γ : List Fn) (es : List Expr) where
  ts : List Tg
  len : ts.length = es.length
  ok : ∀ c X own, Cc ce Γ c X → PGs X es (tGs c own ts)
def locB (ce : CE) (x : Str) : Bool := match ce.sc.names.lookup x with
  | some .local => true
  | some .cell => ce.fn x
  | _ => false
theorem Cc.loc {ce : CE} {Γ : List Fn} {c : Cfg} {X : Cx} (cc : Cc ce Γ c X) {x : Str} (h : locB ce x = true) : L2.Loc X.env.scope x ∧ (X.fn x = true ∨ X.env.scope.names.lookup x = some .local) := by
  rw [cc.sc]
  unfold locB at h
  unfold L2.Loc
  split at h
  · rename_i e; exact ⟨.inl e, .inr e⟩
  · rename_i e; exact ⟨.inr e, .inl (cc.fn x h)⟩
  · cases h
theorem assignEach_eq {e : Expr} (h : starOk e = true) (es : List Expr) (env : Env) : assignEach (e :: es) env = (false, assign e env) :: assignEach es env := by
  cases e <;> first | rfl | cases h
theorem assignEach_len {env : Env} : ∀ (es : List Expr), (assignEach es env).length = es.length
  | [] => rfl
  | e :: es => by cases e <;> (show (_ :: assignEach es env).length = _; rw [List.length_cons, List.length_cons, assignEach_len es])
theorem assignEach_idx {env : Env} : ∀ {es : List Expr}, es.all starOk = true → (assignEach es env).findIdx? (·.1) = none
  | [], _ => rfl
  | e :: es, h => by
    simp only [List.all_cons, Bool.and_eq_true] at h
    rw [assignEach_eq h.1, List.findIdx?_cons, assignEach_idx h.2]
    rfl
def gName' (ce : CE) (Γ : List Fn) (x : Str) (pos : Pos) : Option (RG ce Γ (.Name x pos)) :=
  if h : locB ce x = true then match hi : ixS x ce.N with
    | some i => some ⟨.name i, fun c X own cc => sg_name cc.nd (by rw [cc.N]; exact ixS_get hi) (cc.loc h).1 (cc.loc h).2⟩
    | none => none
  else none
def gList (ce : CE) (Γ : List Fn) (g : (e : Expr) → Option (RG ce Γ e)) : (es : List Expr) → Option (RGs ce Γ es)
  | [] => some ⟨[], rfl, fun c X own cc => sgs_nil⟩
  | e :: es => if hs : starOk e = true then
      (g e).bind fun a => (gList ce Γ g es).map fun b => ⟨a.tg :: b.ts, by rw [List.length_cons, List.length_cons, b.len], fun c X own cc => sgs_cons (a.ok c X own cc) (b.ok c X _ cc) (by rw [assignEach_eq hs]; rfl)⟩
    else none
def gN (ce : CE) (Γ : List Fn) : Nat → (e : Expr) → Option (RG ce Γ e)
  | _, .Name x pos => gName' ce Γ x pos
  | n + 1, .Tuple es k pos => if hs : es.all starOk = true then
      (gList ce Γ (gN ce Γ n) es).map fun b => ⟨.tup b.ts, fun c X own cc => sg_tup cc.K cc.calm (b.ok c X own cc) (by rw [assignEach_len, b.len]) (assignEach_idx hs)⟩
    else none
  | _, _ => none
/-! ### blocks -/
def CE.blk (ce : CE) (scope : Scope) : CE := { ce with sc := relS scope ce.sc, fn := fun x => scope.names.lookup x == some .cell }
theorem Cc.blk {ce : CE} {Γ : List Fn} {c : Cfg} {X : Cx} (cc : Cc ce Γ c X) (scope : Scope) (s : Shared) (H : Hp) (C : Addr) (cl : List (Str × Addr)) (fp : List Addr) : Cc (ce.blk scope) Γ c.inn (X.blk s H scope (compEnvC scope cl C X.env) fp) where
  K := cc.K
  mg := cc.mg
  N := cc.N
  nd := cc.nd
  sc := by show relS scope X.env.scope = relS scope ce.sc; rw [cc.sc]
  fn := fun x h => h
  calm := cc.calm
  tk := fun u s' ⟨a, B, sI, pins, σ, H, cls, d, e, I, nb, up, sky, na, os, ag, w⟩ => w
  gl := cc.gl
  room := cc.room
  gd := cc.gd
def blkOwn (N : List Str) : List (Str × NameKind) → List (Str × Nat)
  | [] => []
  | (x, k) :: r => if (k == .local || k == .cell) = true then match ixS x N with
      | some i => (x, i) :: blkOwn N r
      | none => blkOwn N r
    else blkOwn N r
def blkB (N : List Str) (sc scope : Scope) (own : List (Str × Nat)) : Bool :=
  (scope.kind == .function) && (scope.names.all (fun y => scope.names.lookup y.1 == some y.2) && (own.all (fun p => N[p.2]? == some p.1) &&
  (scope.names.all (fun y => !(y.2 == .free) || (sc.names.lookup y.1 == some .cell || sc.names.lookup y.1 == some .free)) &&
  scope.names.all (fun y => !(y.2 == .local || y.2 == .cell) || ((own.map (·.1)).contains y.1 || !N.contains y.1)))))
theorem blkB_ok {N : List Str} {sc scope : Scope} {own : List (Str × Nat)} (h : blkB N sc scope own = true) : BlkOk N sc scope own := by
  unfold blkB at h
  simp only [Bool.and_eq_true, List.all_eq_true, beq_iff_eq, Bool.or_eq_true, Bool.not_eq_true'] at h
  obtain ⟨h1, h2, h3, h4, h5⟩ := h
  refine ⟨h1, h2, h3, fun y hy e => ?_, fun y hy e => ?_⟩
  · rcases h4 y hy with q | q
    · rw [e] at q; cases q
    · exact q
  · rcases h5 y hy with q | q | q
    · rcases e with e | e <;> (rw [e] at q; cases q)
    · exact .inl (List.contains_iff_mem.mp q)
    · exact .inr fun z => by rw [List.contains_iff_mem.mpr z] at q; cases q
/-! ### what is walked -/
structure RI (ce : CE) (Γ : List Fn) (own : List Nat) (tg iter : Expr) where
  k : IK
  as : List T
  own' : List Nat
  os : List Nat := []
  hos : ∀ i ∈ os, i ∈ own' := by simp
  ok : ∀ c X, Cc ce Γ c X → PI X tg iter (tI c own own' os k (evI Γ k as))
section
variable {Γ : List Fn} (r : Cs Γ) (ce : CE) (own : List Nat)
def bltB (x : Str) : Bool := glB ce x && (match ce.gl.lookup x with
  | some .blt => true
  | _ => false)
theorem bltB_ok {x : Str} (h : bltB ce x = true) : glB ce x = true ∧ ce.gl.lookup x = some .blt := by
  unfold bltB at h
  simp only [Bool.and_eq_true] at h
  refine ⟨h.1, ?_⟩
  have := h.2
  split at this
  · assumption
  · cases this
theorem Cc.b {ce : CE} {Γ : List Fn} {c : Cfg} {X : Cx} (cc : Cc ce Γ c X) {x : Str} (h : bltB ce x = true) : Gl X x ∧ X.mg x = none := ⟨cc.g (bltB_ok ce h).1, cc.blt (bltB_ok ce h).2⟩
def iSeq' (tg iter : Expr) : Option (RI ce Γ own tg iter) := (eSh r ce own iter).bind fun a =>
  match h : a.mu with
  | false => some ⟨.seq, [a.t], a.own', [], by simp, fun c X cc => si_seq cc.K (by have := a.ok c X cc; rw [h] at this; exact this)⟩
  | true => none
def iRange (tg : Expr) (p pos : Pos) (f : Str) (hf : (f == ("range" : Str)) = true) : (args : List Expr) → Option (RI ce Γ own tg (.Call (.Name f p) args [] pos))
  | [e] => if hb : bltB ce f = true then if hs : starOk e = true then (aPk r ce [e] own).bind fun a => match h : a.ts with
      | [t] => some ⟨.rng1, [t], a.own', [], by simp, fun c X cc => by
          have hb := cc.b hb
          have ok := a.ok c X cc
          rw [h] at ok
          rw [eq_of_beq hf] at hb ⊢
          exact si_rng1 hb.1 hb.2 ok (starOk_eq hs [] X.env)⟩
      | _ => none
    else none else none
  | [e, e2] => if hb : bltB ce f = true then if hs : starOk e = true then if hs2 : starOk e2 = true then (aPk r ce [e, e2] own).bind fun a => match h : a.ts with
      | [t, t2] => some ⟨.rng2, [t, t2], a.own', [], by simp, fun c X cc => by
          have hb := cc.b hb
          have ok := a.ok c X cc
          rw [h] at ok
          rw [eq_of_beq hf] at hb ⊢
          exact si_rng2 hb.1 hb.2 ok (by rw [starOk_eq hs, starOk_eq hs2]; rfl) (starOk_eq hs2 [] X.env)⟩
      | _ => none
    else none else none else none
  | _ => none
def iEnum (elts : List Expr) (kk : Nat) (tpos p pos : Pos) (f : Str) (hf : (f == ("enumerate" : Str)) = true) : (args : List Expr) → Option (RI ce Γ own (.Tuple elts kk tpos) (.Call (.Name f p) args [] pos))
  | [e] => if hb : bltB ce f = true then if hs : starOk e = true then (aSh r ce [e] own).bind fun a => match h : a.ts, hm : a.mu with
      | [t], false => some ⟨.enum, [t], a.own', [], by simp, fun c X cc => by
          have hb := cc.b hb
          have ok := a.ok c X cc
          rw [h, hm] at ok
          rw [eq_of_beq hf] at hb ⊢
          exact si_enum cc.K hb.1 hb.2 ok (starOk_eq hs [] X.env)⟩
      | _, _ => none
    else none else none
  | _ => none
def iZip (elts : List Expr) (kk : Nat) (tpos p pos : Pos) (f : Str) (hf : (f == ("zip" : Str)) = true) : (args : List Expr) → Option (RI ce Γ own (.Tuple elts kk tpos) (.Call (.Name f p) args [] pos))
  | [e, e2] => if hb : bltB ce f = true then if hs : starOk e = true then if hs2 : starOk e2 = true then (aSh r ce [e, e2] own).bind fun a => match h : a.ts, hm : a.mu with
      | [t, t2], false => some ⟨.zip, [t, t2], a.own', [], by simp, fun c X cc => by
          have hb := cc.b hb
          have ok := a.ok c X cc
          rw [h, hm] at ok
          rw [eq_of_beq hf] at hb ⊢
          exact si_zip cc.K hb.1 hb.2 ok (starOk_eq hs _ X.env) (starOk_any (by simp [hs2]))⟩
      | _, _ => none
    else none else none else none
  | _ => none
def iZipS (elts : List Expr) (kk : Nat) (tpos p pos : Pos) (f : Str) (hf : (f == ("zip" : Str)) = true) (nm : Str) (hn : (nm == Str.ofString "strict") = true) (j : Nat) (cpos kpos : Pos) : (args : List Expr) → Option (RI ce Γ own (.Tuple elts kk tpos) (.Call (.Name f p) args [⟨some nm, .Constant (.bool true) j cpos, kpos⟩] pos))
  | [e, e2] => if hb : bltB ce f = true then if hs : starOk e = true then if hs2 : starOk e2 = true then (aSh r ce [e, e2] own).bind fun a => match h : a.ts, hm : a.mu with
      | [t, t2], false => some ⟨.zipS, [t, t2], a.own', [], by simp, fun c X cc => by
          have hb := cc.b hb
          have ok := a.ok c X cc
          rw [h, hm] at ok
          rw [eq_of_beq hf] at hb ⊢
          rw [eq_of_beq hn]
          exact si_zipS cc.K hb.1 hb.2 ok (starOk_eq hs _ X.env) (starOk_any (by simp [hs, hs2]))⟩
      | _, _ => none
    else none else none else none
  | _ => none
def iKeys' (tg iter : Expr) : Option (RI ce Γ own tg iter) := (eSh r ce own iter).bind fun a =>
  match h : a.mu with
  | false => some ⟨.keys, [a.t], a.own', [], by simp, fun c X cc => si_keys (by have := a.ok c X cc; rw [h] at this; exact this)⟩
  | true => none
def iMeth (tg o : Expr) (m : Str) (apos cpos : Pos) : Option (RI ce Γ own tg (.Call (.Attribute o m apos) [] [] cpos)) :=
  if hsu : superB o = false then if hl : (apos.endLine == cpos.line) = true then (eSh r ce own o).bind fun a => match h : a.mu with
    | true => none
    | false =>
      if hm : (m == ("values" : Str)) = true then some ⟨.vals, [a.t], a.own', [], by simp, fun c X cc => by
        rw [eq_of_beq hm]
        exact si_vals (by have := a.ok c X cc; rw [h] at this; exact this) (base_ok hsu _ _ _) hl⟩
      else if hm : (m == ("items" : Str)) = true then (match tg with
        | .Tuple elts kk tpos => some ⟨.items, [a.t], a.own', [], by simp, fun c X cc => by
            rw [eq_of_beq hm]
            exact si_items (by have := a.ok c X cc; rw [h] at this; exact this) (base_ok hsu _ _ _) hl⟩
        | _ => none)
      else none
  else none else none
/-- an own list, walked while nothing changes it -/
def iOwn (tg : Expr) : (iter : Expr) → Option (RI ce Γ own tg iter)
  | .Name x pos => if ce.dks.contains x = true then none else (nameIx ce x).bind fun i => if hi : i.1 ∈ own then
      some ⟨.seq, [.var i.1], own, [i.1], fun j hj => by rw [List.mem_singleton.mp hj]; exact hi, fun c X cc => si_own cc.K (cc.ix i.2) (cc.vis i.2) i.2.dbg i.2.cdc hi⟩ else none
  | _ => none
def cI (tg : Expr) : (iter : Expr) → Option (RI ce Γ own tg iter)
  | .Name x pos => if ce.dks.contains x = true then iKeys' r ce own tg (.Name x pos) else iSeq' r ce own tg (.Name x pos)
  | .Call (.Attribute o m apos) [] [] cpos => iMeth r ce own tg o m apos cpos
  | .Call (.Name f p) args [] pos =>
      if h : (f == ("range" : Str)) = true then iRange r ce own tg p pos f h args
      else if h : (f == ("enumerate" : Str)) = true then (match tg with
        | .Tuple elts kk tpos => iEnum r ce own elts kk tpos p pos f h args
        | _ => none)
      else if h : (f == ("zip" : Str)) = true then (match tg with
        | .Tuple elts kk tpos => iZip r ce own elts kk tpos p pos f h args
        | _ => none)
      else iSeq' r ce own tg (.Call (.Name f p) args [] pos)
  | .Call (.Name f p) args [⟨some nm, .Constant (.bool true) j cpos, kpos⟩] pos =>
      if h : (f == ("zip" : Str)) = true then if hn : (nm == Str.ofString "strict") = true then (match tg with
        | .Tuple elts kk tpos => iZipS r ce own elts kk tpos p pos f h nm hn j cpos kpos args
        | _ => none) else none
      else iSeq' r ce own tg (.Call (.Name f p) args [⟨some nm, .Constant (.bool true) j cpos, kpos⟩] pos)
  | iter => iSeq' r ce own tg iter
end
/-! ### list comprehensions -/
theorem stMu {X : Cx} {c : Cfg} {own own' : List Nat} {mu mu1 : Bool} {e : List Expr} {m : S → R S Bool} (h : PTs X e (tT c own own' mu1 m)) (hm : mu1 = true → mu = true) : PTs X e (tT c own own' mu m) := imTs h fun σ H Q ⟨s, G, r, q⟩ =>
  ⟨s, G, r, q.mono fun d s' q H' G' r' t => q H' G' r' (t.weak hm)⟩
theorem peCast {X : Cx} {c : Cfg} {o1 o2 o3 : List Nat} {mu : Bool} {md : Md} {e : Expr} {m : S → R S D} (h : o2 = o1) (h1 : o1 = o3) (p : PE X e (tE c o1 o2 mu md m)) : PE X e (tE c o3 o3 mu md m) := by
  subst h; subst h1; exact p
/-- the body of a block: its tests and what it makes; the own slots as they were -/
structure RB (ce : CE) (Γ : List Fn) (own : List Nat) (ifs : List Expr) (elt : Expr) where
  ti : List T
  te : T
  mu : Bool
  okI : ∀ c X, Cc ce Γ c X → PTs X ifs (tT c own own mu (evAll Γ ti))
  okE : ∀ c X, Cc ce Γ c X → PE X elt (tE c own own mu .sh (ev Γ te))
section
variable {Γ : List Fn} (r : Cs Γ) (ce : CE)
/-- .. or which slots must go -/
def cB (own : List Nat) : (ifs : List Expr) → (elt : Expr) → Option (RB ce Γ own ifs elt ⊕ List Nat)
  | [], elt => (eSh r ce own elt).map fun a => if h : a.own' = own then .inl ⟨[], a.t, a.mu, fun c X cc => sts_nil, fun c X cc => by have := a.ok c X cc; rw [h] at this; exact this⟩ else .inr a.own'
  | [i], elt => (r.t ce own i).bind fun b => (eSh r ce b.own' elt).map fun a =>
      if h1 : b.own' = own then if h : a.own' = b.own' then .inl ⟨[b.t], a.t, a.mu || b.mu, fun c X cc => stMu (sts_one (by have := b.ok c X cc; rw [h1] at this; exact this)) (by intro z; simp [z]), fun c X cc => seMu (mu1 := a.mu) (peCast h h1 (a.ok c X cc)) (by intro z; simp [z])⟩ else .inr a.own' else .inr a.own'
  | _, _ => none
structure RL (ce : CE) (Γ : List Fn) (own : List Nat) (tg iter : Expr) (ifs : List Expr) (elt : Expr) (scope : Scope) where
  I : RI ce Γ own tg iter
  vs : List (Str × Nat)
  G : RG (ce.blk scope) Γ tg
  own2 : List Nat
  B : RB (ce.blk scope) Γ own2 ifs elt
  blk : blkB ce.N ce.sc scope vs = true
  sub : ∀ i ∈ own2, i ∈ I.own'
  dis : ∀ i ∈ vs.map (·.2), i ∉ own2
  st : ∀ i ∈ slotsT G.tg, i ∈ vs.map (·.2)
  wk : wkK I.k = true → tgB G.tg = true
  mo : I.os ≠ [] → B.mu = false
  fold : setB iter = false
def lFin (own : List Nat) {tg iter : Expr} (ifs : List Expr) (elt : Expr) (scope : Scope) (I : RI ce Γ own tg iter) (vs : List (Str × Nat)) (G : RG (ce.blk scope) Γ tg) (own2 : List Nat) (B : RB (ce.blk scope) Γ own2 ifs elt) : Option (RL ce Γ own tg iter ifs elt scope) :=
  if h1 : blkB ce.N ce.sc scope vs = true then if h2 : own2.all (fun i => I.own'.contains i) = true then if h3 : (vs.map (·.2)).all (fun i => !own2.contains i) = true then if h4 : (slotsT G.tg).all (fun i => (vs.map (·.2)).contains i) = true then if h5 : setB iter = false then if h6 : (!wkK I.k || tgB G.tg) = true then if h7 : (I.os.isEmpty || !B.mu) = true then
    some ⟨I, vs, G, own2, B, h1, fun i hi => by have := List.all_eq_true.mp h2 i hi; simpa using this, fun i hi => by have := List.all_eq_true.mp h3 i hi; simpa using this, fun i hi => by have := List.all_eq_true.mp h4 i hi; simpa using this, fun z => by rw [z] at h6; simpa using h6, fun z => by
      cases hb : B.mu with
      | false => rfl
      | true => rw [hb] at h7; exact absurd (by simpa using h7) z, h5⟩
  else none else none else none else none else none else none else none
def cLw (own : List Nat) (tg iter : Expr) (ifs : List Expr) (elt : Expr) (scope : Scope) (I : RI ce Γ own tg iter) : Option (RL ce Γ own tg iter ifs elt scope) :=
  (gN (ce.blk scope) Γ 4 tg).bind fun G => (cB r (ce.blk scope) (offT I.own' ((blkOwn ce.N scope.names).map (·.2))) ifs elt).bind fun o => match o with
    | .inl B => lFin ce own ifs elt scope I (blkOwn ce.N scope.names) G _ B
    | .inr own2 => (cB r (ce.blk scope) own2 ifs elt).bind fun o => match o with
      | .inl B => lFin ce own ifs elt scope I (blkOwn ce.N scope.names) G _ B
      | .inr _ => none
def cL (own : List Nat) (tg iter : Expr) (ifs : List Expr) (elt : Expr) (scope : Scope) : Option (RL ce Γ own tg iter ifs elt scope) :=
  ((iOwn ce own tg iter).bind fun I => cLw r ce own tg iter ifs elt scope I).orElse fun _ => (cI r ce own tg iter).bind fun I => cLw r ce own tg iter ifs elt scope I
end
section
variable {ce : CE} {Γ : List Fn} {own : List Nat} {tg iter elt : Expr} {ifs : List Expr} {scope : Scope}
def RL.T (l : RL ce Γ own tg iter ifs elt scope) : T := .lc l.I.k l.I.as l.G.tg (l.vs.map (·.2)) l.B.ti l.B.te
theorem RL.ok (l : RL ce Γ own tg iter ifs elt scope) {c : Cfg} {X : Cx} (cc : Cc ce Γ c X) (pos : Pos) : PE X (.ListComp elt [⟨tg, iter, ifs, 0⟩] scope pos) (tE c own l.own2 l.B.mu .fr (ev Γ l.T)) :=
  se_lc l.I.hos l.mo cc.calm cc.nd (l.I.ok c X cc) (by rw [cc.N, cc.sc]; exact blkB_ok l.blk) l.sub l.dis l.st l.wk (fun s H C cl fp => l.G.ok _ _ _ (cc.blk scope s H C cl fp)) (fun s H C cl fp => l.B.okI _ _ (cc.blk scope s H C cl fp)) (fun s H C cl fp => l.B.okE _ _ (cc.blk scope s H C cl fp)) (fun x => noFold l.fold X.env x)
theorem RL.okS (l : RL ce Γ own tg iter ifs elt scope) {c : Cfg} {X : Cx} (cc : Cc ce Γ c X) (pos : Pos) {i : Nat} {y : Str} {py spos : Pos} (hy : ce.N[i]? = some y) (hyl : ce.sc.names.lookup y = some .local) (hk : ce.sc.kind = .function) (hl : (py.line == pos.line) = true) (ha : (scope.names.any fun (n, k) => n == y && (k == .local || k == .cell)) = false) :
    PS X (.Assign [.Name y py] (.ListComp elt [⟨tg, iter, ifs, 0⟩] scope pos) spos) (tS c own (i :: drop1 l.own2 i) (ex Γ (.asg i l.T))) :=
  sp_setLc l.I.hos l.mo cc.calm cc.nd (by rw [cc.N]; exact hy) (by rw [cc.sc]; exact hyl) (sw_true (by rw [cc.sc]; exact hk) (by rw [cc.sc]; exact hyl) hl ha) (l.I.ok c X cc) (by rw [cc.N, cc.sc]; exact blkB_ok l.blk) l.sub l.dis l.st l.wk (fun s H C cl fp => l.G.ok _ _ _ (cc.blk scope s H C cl fp)) (fun s H C cl fp => l.B.okI _ _ (cc.blk scope s H C cl fp)) (fun s H C cl fp => l.B.okE _ _ (cc.blk scope s H C cl fp)) (fun x => noFold l.fold X.env x)
end
end Lb

set_option maxRecDepth 100000
set_option maxHeartbeats 2000000
namespace Lb
open PySem PySem.Spec PyProof.Rows L2
/-! ### built-ins -/
structure RBf (f : Str) where
  id : String
  p : P
  hn : f ≠ "__name__"
  hv : bootBuiltins f = some (.builtin id)
  hc : ∀ X : Cx, X.calm = true → CallR X (.builtin id) (rP X.K p)
theorem lb_len : bootBuiltins "len" = some (.builtin "len") := by decide +kernel
theorem lb_max : bootBuiltins "max" = some (.builtin "max") := by decide +kernel
theorem lb_min : bootBuiltins "min" = some (.builtin "min") := by decide +kernel
theorem lb_sum : bootBuiltins "sum" = some (.builtin "sum") := by decide +kernel
theorem lb_all : bootBuiltins "all" = some (.builtin "all") := by decide +kernel
theorem lb_any : bootBuiltins "any" = some (.builtin "any") := by decide +kernel
theorem lb_isi : bootBuiltins "isinstance" = some (.builtin "isinstance") := by decide +kernel
theorem lb_tuple : bootBuiltins "tuple" = some (.type "tuple") := by decide +kernel
theorem lb_list : bootBuiltins "list" = some (.type "list") := by decide +kernel
theorem lb_int : bootBuiltins "int" = some (.type "int") := by decide +kernel
theorem lb_bool : bootBuiltins "bool" = some (.type "bool") := by decide +kernel
theorem lb_str : bootBuiltins "str" = some (.type "str") := by decide +kernel
theorem lb_dict : bootBuiltins "dict" = some (.type "dict") := by decide +kernel
theorem lb_repr : bootBuiltins "repr" = some (.builtin "repr") := by decide +kernel
theorem lb_sorted : bootBuiltins "sorted" = some (.builtin "sorted") := by decide +kernel
def bltOf (f : Str) : Option (RBf f) :=
  if h : (f == ("len" : Str)) = true then some ⟨"len", .len, by rw [eq_of_beq h]; decide, by rw [eq_of_beq h]; exact lb_len, fun X _ => c_len⟩
  else if h : (f == ("max" : Str)) = true then some ⟨"max", .max2, by rw [eq_of_beq h]; decide, by rw [eq_of_beq h]; exact lb_max, fun X hc => c_max2 hc⟩
  else if h : (f == ("min" : Str)) = true then some ⟨"min", .min2, by rw [eq_of_beq h]; decide, by rw [eq_of_beq h]; exact lb_min, fun X hc => c_min2 hc⟩
  else if h : (f == ("sum" : Str)) = true then some ⟨"sum", .sum, by rw [eq_of_beq h]; decide, by rw [eq_of_beq h]; exact lb_sum, fun X hc => c_sum hc⟩
  else if h : (f == ("all" : Str)) = true then some ⟨"all", .all, by rw [eq_of_beq h]; decide, by rw [eq_of_beq h]; exact lb_all, fun X hc => c_all hc⟩
  else if h : (f == ("any" : Str)) = true then some ⟨"any", .any, by rw [eq_of_beq h]; decide, by rw [eq_of_beq h]; exact lb_any, fun X hc => c_any hc⟩
  else none
structure RTy (y : Str) where
  t : Ty
  hn : y ≠ "__name__"
  hv : bootBuiltins y = some (.type (tyN t))
def tyOf (y : Str) : Option (RTy y) :=
  if h : (y == ("int" : Str)) = true then some ⟨.int, by rw [eq_of_beq h]; decide, by rw [eq_of_beq h]; exact lb_int⟩
  else if h : (y == ("bool" : Str)) = true then some ⟨.bool, by rw [eq_of_beq h]; decide, by rw [eq_of_beq h]; exact lb_bool⟩
  else if h : (y == ("str" : Str)) = true then some ⟨.str, by rw [eq_of_beq h]; decide, by rw [eq_of_beq h]; exact lb_str⟩
  else if h : (y == ("tuple" : Str)) = true then some ⟨.tuple, by rw [eq_of_beq h]; decide, by rw [eq_of_beq h]; exact lb_tuple⟩
  else if h : (y == ("list" : Str)) = true then some ⟨.list, by rw [eq_of_beq h]; decide, by rw [eq_of_beq h]; exact lb_list⟩
  else if h : (y == ("dict" : Str)) = true then some ⟨.dict, by rw [eq_of_beq h]; decide, by rw [eq_of_beq h]; exact lb_dict⟩
  else none
/-! ### calls -/
section
variable {Γ : List Fn} (r : Cs Γ) (ce : CE) (own : List Nat)
def cBlt (f : Str) (p1 pos : Pos) : (args : List Expr) → Option (RE ce Γ own (.Call (.Name f p1) args [] pos))
  | e :: es => if hb : bltB ce f = true then if hs : starOk e = true then if hss : es.all starOk = true then
      (match bltOf f with
      | some b => (aPk r ce (e :: es) own).map fun a => ⟨.prim b.p a.ts, a.own', false, .sh, fun c X cc => se_callB cc.K (b.hc X cc.calm) (cc.b hb).1 (cc.b hb).2 b.hv (a.ok c X cc) b.hn (glB_dbg (bltB_ok ce hb).1) (starOk_eq hs es X.env) (starOk_any hss)⟩
      | none =>
        if h : (f == ("tuple" : Str)) = true then (aPk r ce (e :: es) own).map fun a => ⟨.prim .tuple a.ts, a.own', false, .sh, fun c X cc => se_callTy cc.K (id := "tuple") c_tuple (cc.b hb).1 (cc.b hb).2 (by rw [eq_of_beq h]; exact lb_tuple) (a.ok c X cc) (by rw [eq_of_beq h]; decide) (glB_dbg (bltB_ok ce hb).1) (starOk_eq hs es X.env) (starOk_any hss)⟩
        else if h : (f == ("list" : Str)) = true then (aPk r ce (e :: es) own).map fun a => ⟨.prim .list a.ts, a.own', false, .fr, fun c X cc => se_callTyF cc.K (id := "list") c_listF (cc.b hb).1 (cc.b hb).2 (by rw [eq_of_beq h]; exact lb_list) (a.ok c X cc) (by rw [eq_of_beq h]; decide) (glB_dbg (bltB_ok ce hb).1) (starOk_eq hs es X.env) (starOk_any hss)⟩
        else none)
    else none else none else none
  | [] => none
/-- built-ins of one thing -/
def cOne (f : Str) (p1 pos : Pos) (e : Expr) : Option (RE ce Γ own (.Call (.Name f p1) [e] [] pos)) :=
  if hb : bltB ce f = true then if hs : starOk e = true then
    if h : (f == ("min" : Str)) = true then (aPk r ce [e] own).map fun a => ⟨.prim .minL a.ts, a.own', false, .sh, fun c X cc => se_callB cc.K (id := "min") (c_minL cc.calm cc.un) (cc.b hb).1 (cc.b hb).2 (by rw [eq_of_beq h]; exact lb_min) (a.ok c X cc) (by rw [eq_of_beq h]; decide) (glB_dbg (bltB_ok ce hb).1) (starOk_eq hs [] X.env) rfl⟩
    else if h : (f == ("max" : Str)) = true then (aPk r ce [e] own).map fun a => ⟨.prim .maxL a.ts, a.own', false, .sh, fun c X cc => se_callB cc.K (id := "max") (c_maxL cc.calm cc.un) (cc.b hb).1 (cc.b hb).2 (by rw [eq_of_beq h]; exact lb_max) (a.ok c X cc) (by rw [eq_of_beq h]; decide) (glB_dbg (bltB_ok ce hb).1) (starOk_eq hs [] X.env) rfl⟩
    else if h : (f == ("int" : Str)) = true then (aPk r ce [e] own).map fun a => ⟨.prim .int1 a.ts, a.own', false, .sh, fun c X cc => se_callTy cc.K (id := "int") c_int1 (cc.b hb).1 (cc.b hb).2 (by rw [eq_of_beq h]; exact lb_int) (a.ok c X cc) (by rw [eq_of_beq h]; decide) (glB_dbg (bltB_ok ce hb).1) (starOk_eq hs [] X.env) rfl⟩
    else if h : (f == ("repr" : Str)) = true then if hg : ce.gd = true then (aPk r ce [e] own).map fun a => ⟨.prim .repr a.ts, a.own', false, .sh, fun c X cc => se_callB cc.K (id := "repr") (c_repr (cc.gd hg) cc.un) (cc.b hb).1 (cc.b hb).2 (by rw [eq_of_beq h]; exact lb_repr) (a.ok c X cc) (by rw [eq_of_beq h]; decide) (glB_dbg (bltB_ok ce hb).1) (starOk_eq hs [] X.env) rfl⟩ else none
    else if h : (f == ("sorted" : Str)) = true then (aPk r ce [e] own).map fun a => ⟨.prim .sorted a.ts, a.own', false, .fr, fun c X cc => se_callBF cc.K (id := "sorted") (c_sortedF cc.calm cc.un) (cc.b hb).1 (cc.b hb).2 (by rw [eq_of_beq h]; exact lb_sorted) (a.ok c X cc) (by rw [eq_of_beq h]; decide) (glB_dbg (bltB_ok ce hb).1) (starOk_eq hs [] X.env) rfl⟩
    else if h : (f == ("dict" : Str)) = true then (aPk r ce [e] own).bind fun a => match ht : a.ts with
      | [t] => some ⟨.prim .dict [t], a.own', false, .fr, fun c X cc => by
          have q := cc.b hb
          have ok := a.ok c X cc
          rw [ht] at ok
          rw [eq_of_beq h] at q ⊢
          exact se_dict cc.K cc.calm q.1 q.2 ok (starOk_eq hs [] X.env)⟩
      | _ => none
    else none
  else none else none
/-- dict(list(d.items())) -/
def cLit (f : Str) (p1 pos : Pos) (g : Str) (p2 lpos apos cpos : Pos) (o : Expr) (m : Str) : Option (RE ce Γ own (.Call (.Name f p1) [.Call (.Name g p2) [.Call (.Attribute o m apos) [] [] cpos] [] lpos] [] pos)) :=
  if hb : bltB ce f = true then if h : (f == ("dict" : Str)) = true then if hb2 : bltB ce g = true then if h2 : (g == ("list" : Str)) = true then if hm : (m == ("items" : Str)) = true then if hsu : superB o = false then if hl : (apos.endLine == cpos.line) = true then
    (ePk r ce own o).map fun a => ⟨.prim .dict [.litems a.t], a.own', false, .fr, fun c X cc => by
      have q := cc.b hb
      have q2 := cc.b hb2
      rw [eq_of_beq h] at q ⊢
      rw [eq_of_beq h2] at q2 ⊢
      rw [eq_of_beq hm]
      exact se_dcopy cc.K cc.calm q.1 q.2 q2.1 q2.2 (a.ok c X cc) (base_ok hsu _ _ _) hl⟩
  else none else none else none else none else none else none else none
/-- list(range(e)), tuple(range(e)) -/
def cRg (f : Str) (p1 pos p2 cpos : Pos) (g : Str) (e : Expr) : Option (RE ce Γ own (.Call (.Name f p1) [.Call (.Name g p2) [e] [] cpos] [] pos)) :=
  if hb : bltB ce f = true then if hg : bltB ce g = true then if hgr : (g == ("range" : Str)) = true then if hs : starOk e = true then
    if h : (f == ("list" : Str)) = true then (ePk r ce own e).map fun a => ⟨.prim .rngL [a.t], a.own', false, .fr, fun c X cc => by
      have q := cc.b hb
      have q2 := cc.b hg
      rw [eq_of_beq h] at q ⊢
      rw [eq_of_beq hgr] at q2 ⊢
      exact se_rngL cc.calm q.1 q.2 q2.1 q2.2 (a.ok c X cc) (starOk_eq hs [] X.env) rfl⟩
    else if h : (f == ("tuple" : Str)) = true then (ePk r ce own e).map fun a => ⟨.prim .rngT [a.t], a.own', false, .sh, fun c X cc => by
      have q := cc.b hb
      have q2 := cc.b hg
      rw [eq_of_beq h] at q ⊢
      rw [eq_of_beq hgr] at q2 ⊢
      exact se_rngT cc.calm q.1 q.2 q2.1 q2.2 (a.ok c X cc) (starOk_eq hs [] X.env) rfl⟩
    else none
  else none else none else none else none
/-- len({x for x in e}) -/
def cNub (f : Str) (p1 pos : Pos) (x y : Str) (px pa spos : Pos) (iter : Expr) (as : Int) (scope : Scope) : Option (RE ce Γ own (.Call (.Name f p1) [.SetComp (.Name x px) [⟨.Name y pa, iter, [], as⟩] scope spos] [] pos)) :=
  if hb : bltB ce f = true then if h : (f == ("len" : Str)) = true then if hxy : (x == y) = true then if ha : as = 0 then if h1 : (scope.names.all fun z => z.2 == .local && scope.names.lookup z.1 == some .local) = true then if hx : (scope.names.lookup x == some .local) = true then if hk : (scope.kind == .function) = true then if hd : (x == ("__debug__" : Str)) = false then if hcd : (x == ("__classdict__" : Str)) = false then if hf : setB iter = false then
    (eSh r ce own iter).map fun a => ⟨.prim .nubL [a.t], a.own', a.mu, .sh, fun c X cc => by
      have q := cc.b hb
      rw [eq_of_beq h] at q ⊢
      rw [← eq_of_beq hxy, ha]
      have h1 := List.all_eq_true.mp h1
      exact se_nub cc.K cc.calm q.1 q.2 (a.ok c X cc) (fun z hz => by have := h1 z hz; simp at this; exact this.1) (fun z hz => by have := h1 z hz; simp at this; exact this.2) (eq_of_beq hx) (eq_of_beq hk) hd hcd (fun z => noFold hf X.env z)⟩
  else none else none else none else none else none else none else none else none else none else none
def cIsI (f : Str) (hf : (f == ("isinstance" : Str)) = true) (p1 pos : Pos) : (args : List Expr) → Option (RE ce Γ own (.Call (.Name f p1) args [] pos))
  | [e, .Name y p2] => if hb : bltB ce f = true then if hy : bltB ce y = true then if hs : starOk e = true then
      (match tyOf y with
      | some b => (ePk r ce own e).map fun a => ⟨.prim (.isI b.t) [a.t], a.own', false, .sh, fun c X cc => by
          have h1 := cc.b hb
          have h2 := cc.b hy
          rw [eq_of_beq hf] at h1 ⊢
          exact se_isI cc.K h1.1 h1.2 lb_isi (a.ok c X cc) h2.1 h2.2 b.hv b.hn (glB_dbg (bltB_ok ce hy).1) (starOk_eq hs _ X.env)⟩
      | none => none)
    else none else none else none
  | _ => none
/-- a def of ours, positional -/
def cFn (f : Str) (p1 pos : Pos) (k np : Nat) (das : List T) (ko : Bool) (kps : List (Nat × List Str × List Nat)) (hl : ce.gl.lookup f = some (.fn k np das ko kps)) : (args : List Expr) → Option (RE ce Γ own (.Call (.Name f p1) args [] pos))
  | [] => if hb : glB ce f = true then if hn : das.length = np then
      some ⟨.call k das, own, false, .sh, fun c X cc => by
        obtain ⟨F, fa, fd, ps, dvs, dus, h1, h2, h3, h4, h5, _⟩ := cc.gl f _ hl
        have h5 := h5 0 (Nat.zero_le _) fun _ => rfl
        rw [cc.mg] at h3
        have fn : FnOk X.prog X.w X.K X.mg X.base (L2.CX X.prog X.w) ce.kk fa fd ps (spD c.K c.mg np F) := by rw [← cc.K, ← cc.mg]; exact h2
        exact se_call0 h1 h5.2 (by simpa using hn) fn cc.room (cc.g hb) h3 (by rw [← cc.K]; exact h4) (by rw [← cc.K]; exact h5.1) cc.tk (glB_dbg hb)⟩
    else none else none
  | e :: es => if hb : glB ce f = true then if hs : starOk e = true then if hss : es.all starOk = true then
      let j := das.length - (np - (e :: es).length)
      if hj : (!ko || j == 0) = true then if hn : (e :: es).length + (das.drop j).length = np then
        (aSh r ce (e :: es) own).map fun a => ⟨.call k (a.ts ++ das.drop j), a.own', a.mu, .sh, fun c X cc => by
          obtain ⟨F, fa, fd, ps, dvs, dus, h1, h2, h3, h4, h5, _⟩ := cc.gl f _ hl
          have h5 := h5 j (Nat.sub_le _ _) fun z => by rw [z] at hj; simpa using hj
          rw [cc.mg] at h3
          have fn : FnOk X.prog X.w X.K X.mg X.base (L2.CX X.prog X.w) ce.kk fa fd ps (spD c.K c.mg np F) := by rw [← cc.K, ← cc.mg]; exact h2
          exact se_call h1 h5.2 (by rw [a.len]; exact hn) fn cc.room (cc.g hb) h3 (by rw [← cc.K]; exact h4) (by rw [← cc.K]; exact h5.1) cc.tk (a.ok c X cc) (glB_dbg hb) (starOk_eq hs es X.env) (starOk_any hss)⟩
      else none else none
    else none else none else none
def cCall (f : Str) (p1 pos : Pos) (args : List Expr) : Option (RE ce Γ own (.Call (.Name f p1) args [] pos)) :=
  match h : ce.gl.lookup f with
  | some .blt => if hf : (f == ("isinstance" : Str)) = true then cIsI r ce own f hf p1 pos args else (match args with
      | [.Call (.Name g p2) [.Call (.Attribute o m apos) [] [] cpos] [] lpos] => (cLit r ce own f p1 pos g p2 lpos apos cpos o m).orElse fun _ => (cOne r ce own f p1 pos _).orElse fun _ => cBlt r ce own f p1 pos _
      | [.Call (.Name g p2) [e] [] cpos] => (cRg r ce own f p1 pos p2 cpos g e).orElse fun _ => (cOne r ce own f p1 pos _).orElse fun _ => cBlt r ce own f p1 pos _
      | [e] => (cOne r ce own f p1 pos e).orElse fun _ => cBlt r ce own f p1 pos [e]
      | args => cBlt r ce own f p1 pos args)
  | some (.fn k np das ko kps) => cFn r ce own f p1 pos k np das ko kps h args
  | _ => none
/-! ### keywords -/
structure RK (own : List Nat) (kws : List Keyword) where
  ts : List T
  own' : List Nat
  mu : Bool
  len : ts.length = kws.length
  ok : ∀ c X, Cc ce Γ c X → PK X kws (tAs c own own' mu false (evs Γ ts))
def aKw : (kws : List Keyword) → (own : List Nat) → Option (RK (Γ := Γ) ce own kws)
  | [], own => some ⟨[], own, false, rfl, fun c X cc => sk_nil⟩
  | ⟨nm, e, kpos⟩ :: kws, own => (eSh r ce own e).bind fun a => (aKw kws a.own').map fun b => ⟨a.t :: b.ts, b.own', a.mu || b.mu, by rw [List.length_cons, List.length_cons, b.len], fun c X cc => sk_cons (a.ok c X cc) (b.ok c X cc)⟩
theorem kw_all {pos : Pos} {env : Env} : ∀ {kws : List Keyword}, kws.all (·.arg.isSome) = true → (backToKw pos (keywordEach kws env)).all (·.1.isSome) = true
  | [], _ => rfl
  | ⟨nm, e, kp⟩ :: kws, h => by
    simp only [List.all_cons, Bool.and_eq_true] at h
    show (nm.isSome && (backToKw pos (keywordEach kws env)).all (·.1.isSome)) = true
    rw [kw_all h.2, h.1]; rfl
theorem kw_none {pos : Pos} {env : Env} : ∀ {kws : List Keyword}, kws.all (·.arg.isSome) = true → (backToKw pos (keywordEach kws env)).any (·.1.isNone) = false
  | [], _ => rfl
  | ⟨nm, e, kp⟩ :: kws, h => by
    simp only [List.all_cons, Bool.and_eq_true] at h
    show (nm.isNone || (backToKw pos (keywordEach kws env)).any (·.1.isNone)) = false
    rw [kw_none h.2]
    cases nm with
    | none => cases h.1
    | some _ => rfl
theorem kw_names {pos : Pos} {env : Env} : ∀ (kws : List Keyword), (backToKw pos (keywordEach kws env)).filterMap (·.1) = kws.filterMap (·.arg)
  | [] => rfl
  | ⟨nm, e, kp⟩ :: kws => by
    show ((nm, _) :: backToKw pos (keywordEach kws env)).filterMap (·.1) = _
    rw [List.filterMap_cons, List.filterMap_cons, kw_names kws]
theorem permL_len {α : Type} {xs : List α} : ∀ {ix : List Nat}, (∀ j ∈ ix, j < xs.length) → (permL ix xs).length = ix.length
  | [], _ => rfl
  | j :: ix, h => by
    have := h j List.mem_cons_self
    unfold permL
    rw [List.filterMap_cons, List.getElem?_eq_getElem this]
    show (permL ix xs).length + 1 = _
    rw [permL_len fun i hi => h i (List.mem_cons_of_mem _ hi)]; rfl
def cFnK (f : Str) (p1 pos : Pos) (k np : Nat) (das : List T) (ko : Bool) (kps : List (Nat × List Str × List Nat)) (hl : ce.gl.lookup f = some (.fn k np das ko kps)) (kws : List Keyword) : (args : List Expr) → Option (RE ce Γ own (.Call (.Name f p1) args kws pos))
  | [] => if hb : glB ce f = true then if hk : kws.all (·.arg.isSome) = true then
      (match hq : kps.find? (fun q => q.1 == 0 && q.2.1 == kws.filterMap (·.arg)) with
      | none => none
      | some q => if hi : (q.2.2.length == np && q.2.2.all fun j => decide (j < kws.length)) = true then if hkl : (kws.filterMap (·.arg)).length = kws.length then
          (aKw r ce kws own).map fun b => ⟨.callP k b.ts q.2.2, b.own', b.mu, .sh, fun c X cc => by
            obtain ⟨F, fa, fd, ps, dvs, dus, h1, h2, h3, h4, _, h5⟩ := cc.gl f _ hl
            have hm := List.mem_of_find?_eq_some hq
            have hp := List.find?_some hq
            simp only [Bool.and_eq_true, beq_iff_eq] at hp hi
            have h6 := h5 q hm
            rw [hp.1, hp.2] at h6
            rw [cc.mg] at h3
            have fn : FnOk X.prog X.w X.K X.mg X.base (L2.CX X.prog X.w) ce.kk fa fd ps (spD c.K c.mg np F) := by rw [← cc.K, ← cc.mg]; exact h2
            exact se_kw0 h1 (fun xs hx => by
              rw [permL_len fun j hj => ?_, hi.1]
              have := of_decide_eq_true (List.all_eq_true.mp hi.2 j hj)
              rw [hx, hkl, Nat.zero_add]; exact this) (by rw [b.len, hkl]) fn cc.room (cc.g hb) h3 (by rw [← cc.K]; exact h4) (by rw [← cc.K]; exact h6) cc.tk (b.ok c X cc) (kw_all hk) (kw_names kws) (glB_dbg hb) (by rw [kw_none hk]; rfl)⟩
        else none else none)
    else none else none
  | e :: es => if hb : glB ce f = true then if hs : starOk e = true then if hss : es.all starOk = true then if hk : kws.all (·.arg.isSome) = true then
      (match hq : kps.find? (fun q => q.1 == (e :: es).length && q.2.1 == kws.filterMap (·.arg)) with
      | none => none
      | some q => if hi : (q.2.2.length == np && q.2.2.all fun j => decide (j < (e :: es).length + kws.length)) = true then if hkl : (kws.filterMap (·.arg)).length = kws.length then
          (aSh r ce (e :: es) own).bind fun a => (aKw r ce kws a.own').map fun b => ⟨.callP k (a.ts ++ b.ts) q.2.2, b.own', a.mu || b.mu, .sh, fun c X cc => by
            obtain ⟨F, fa, fd, ps, dvs, dus, h1, h2, h3, h4, _, h5⟩ := cc.gl f _ hl
            have hm := List.mem_of_find?_eq_some hq
            have hp := List.find?_some hq
            simp only [Bool.and_eq_true, beq_iff_eq] at hp hi
            have h6 := h5 q hm
            rw [hp.1, hp.2] at h6
            rw [cc.mg] at h3
            have fn : FnOk X.prog X.w X.K X.mg X.base (L2.CX X.prog X.w) ce.kk fa fd ps (spD c.K c.mg np F) := by rw [← cc.K, ← cc.mg]; exact h2
            exact se_kw h1 (fun xs hx => by
              rw [permL_len fun j hj => ?_, hi.1]
              have := of_decide_eq_true (List.all_eq_true.mp hi.2 j hj)
              rw [hx, hkl]; exact this) a.len (by rw [b.len, hkl]) fn cc.room (cc.g hb) h3 (by rw [← cc.K]; exact h4) (by rw [← cc.K]; exact h6) cc.tk (a.ok c X cc) (b.ok c X cc) (kw_all hk) (kw_names kws) (glB_dbg hb) (starOk_eq hs es X.env) (by rw [kw_none hk, starOk_any (by simp only [List.all_cons, hs, hss]; rfl)]; rfl)⟩
        else none else none)
    else none else none else none else none
def cCallK (f : Str) (p1 pos : Pos) (args : List Expr) (kws : List Keyword) : Option (RE ce Γ own (.Call (.Name f p1) args kws pos)) :=
  match h : ce.gl.lookup f with
  | some (.fn k np das ko kps) => cFnK r ce own f p1 pos k np das ko kps h kws args
  | _ => none
/-- methods -/
def cMeth (o : Expr) (m : Str) (apos cpos : Pos) : (args : List Expr) → Option (RE ce Γ own (.Call (.Attribute o m apos) args [] cpos))
  | [e] => if hs : starOk e = true then if hline : (apos.endLine == cpos.line) = true then
      if hm : (m == ("pop" : Str)) = true then
        (match o with
        | .Name x pn => (nameIx ce x).bind fun i => (aPk r ce [e] own).bind fun a => match h : a.ts with
          | [t] => if hi : i.1 ∈ own then if hi1 : i.1 ∈ a.own' then some ⟨.pop i.1 t, a.own', true, .sh, fun c X cc => by
              have ok := a.ok c X cc
              rw [h] at ok
              rw [eq_of_beq hm]
              exact se_pop cc.K (cc.ix i.2) (cc.vis i.2) i.2.dbg i.2.cdc hi hi1 ok (base_ok rfl _ _ _) (starOk_few hs) hline (starOk_eq hs [] X.env)⟩ else none else none
          | _ => none
        | _ => none)
      else if hm : (m == ("count" : Str)) = true then if hsu : superB o = false then
        (ePk r ce own o).bind fun b => (aPk r ce [e] b.own').bind fun a => match h : a.ts with
          | [t] => some ⟨.meth .cnt b.t [t], a.own', false, .sh, fun c X cc => by
              have ok := a.ok c X cc
              rw [h] at ok
              rw [eq_of_beq hm]
              exact se_seqM cc.K PySem.F.slot_list_count PySem.F.slot_tuple_count PySem.F.type_list_count PySem.F.type_tuple_count (m_cnt cc.un false) (m_cnt cc.un true) (b.ok c X cc) ok (base_ok hsu _ _ _) (starOk_few hs) hline (starOk_eq hs [] X.env)⟩
          | _ => none
        else none
      else if hm : (m == ("index" : Str)) = true then if hsu : superB o = false then
        (ePk r ce own o).bind fun b => (aPk r ce [e] b.own').bind fun a => match h : a.ts with
          | [t] => some ⟨.meth .ixOf b.t [t], a.own', false, .sh, fun c X cc => by
              have ok := a.ok c X cc
              rw [h] at ok
              rw [eq_of_beq hm]
              exact se_seqM cc.K PySem.F.slot_list_index PySem.F.slot_tuple_index PySem.F.type_list_index PySem.F.type_tuple_index (m_ix cc.un false) (m_ix cc.un true) (b.ok c X cc) ok (base_ok hsu _ _ _) (starOk_few hs) hline (starOk_eq hs [] X.env)⟩
          | _ => none
        else none
      else none
    else none else none
  | [e, f] => if hs : starOk e = true then if hs2 : starOk f = true then if hline : (apos.endLine == cpos.line) = true then if hm : (m == ("get" : Str)) = true then if hsu : superB o = false then
      (ePk r ce own o).bind fun b => (eSh r ce b.own' e).bind fun x => match hx : x.mu with
        | true => none
        | false => (eSh r ce x.own' f).bind fun y => match hy : y.mu with
          | true => none
          | false => some ⟨.dgetD b.t x.t y.t, y.own', false, .sh, fun c X cc => by
              have ok1 := x.ok c X cc
              rw [hx] at ok1
              have ok2 := y.ok c X cc
              rw [hy] at ok2
              rw [eq_of_beq hm]
              exact se_dgetD cc.un (b.ok c X cc) ok1 ok2 ⟨base_ok hsu _ _ _, starOk_few2 hs hs2, hline, starOk_2e hs hs2⟩⟩
    else none else none else none else none else none
  | _ => none
/-! ### and, or -/
structure RBo (op : PySem.BoolOp) (pos : Pos) (es : List Expr) where
  t : T
  own' : List Nat
  ok : ∀ c X, Cc ce Γ c X → PE X (.BoolOp op es pos) (tE c own own' false .sh (ev Γ t))
def cBo (op : PySem.BoolOp) (pos : Pos) : (es : List Expr) → (own : List Nat) → Option (RBo (Γ := Γ) ce own op pos es)
  | [], _ => none
  | [a], own => (eSh r ce own a).bind fun x => match h : x.mu with
      | false => some ⟨x.t, x.own', fun c X cc => se_one (by have := x.ok c X cc; rw [h] at this; exact this)⟩
      | true => none
  | a :: b :: rest, own => (eSh r ce own a).bind fun x => match h : x.mu with
      | false => (cBo op pos (b :: rest) x.own').bind fun y => if ho : y.own' = x.own' then
          (match op, y with
          | .And, y => some ⟨.and x.t y.t, y.own', fun c X cc => se_and cc.K (by have := x.ok c X cc; rw [h] at this; exact this) (y.ok c X cc) ho⟩
          | .Or, y => some ⟨.or x.t y.t, y.own', fun c X cc => se_or cc.K (by have := x.ok c X cc; rw [h] at this; exact this) (y.ok c X cc) ho⟩)
        else none
      | true => none
structure RTo (op : PySem.BoolOp) (pos : Pos) (es : List Expr) where
  t : T
  own' : List Nat
  ok : ∀ c X, Cc ce Γ c X → PW X (.BoolOp op es pos) (tT c own own' false (evT Γ t))
def tBo (op : PySem.BoolOp) (pos : Pos) : (es : List Expr) → (own : List Nat) → Option (RTo (Γ := Γ) ce own op pos es)
  | [], _ => none
  | [a], own => (r.t ce own a).bind fun x => match h : x.mu with
      | false => some ⟨x.t, x.own', fun c X cc => st_one (by have := x.ok c X cc; rw [h] at this; exact this)⟩
      | true => none
  | a :: b :: rest, own => (r.t ce own a).bind fun x => match h : x.mu with
      | false => (tBo op pos (b :: rest) x.own').bind fun y => if ho : y.own' = x.own' then
          (match op, y with
          | .And, y => some ⟨.and x.t y.t, y.own', fun c X cc => st_and (by have := x.ok c X cc; rw [h] at this; exact this) (y.ok c X cc) ho⟩
          | .Or, y => some ⟨.or x.t y.t, y.own', fun c X cc => st_or (by have := x.ok c X cc; rw [h] at this; exact this) (y.ok c X cc) ho⟩)
        else none
      | true => none
/-! ### comparisons -/
def noneB : Expr → Bool
  | .Constant .none _ _ => true
  | _ => false
structure RCp (a : Expr) (ops : List CmpOp) (bs : List Expr) (pos : Pos) where
  t : T
  own' : List Nat
  ok : ∀ c X, Cc ce Γ c X → PE X (.Compare a ops bs pos) (tE c own own' false .sh (ev Γ t))
  okT : ∀ c X, Cc ce Γ c X → PT X (.Compare a ops bs pos) (tT c own own' false (evT Γ t))
def cCmp1 (a b : Expr) (op : CmpOp) (pos : Pos) : Option (RCp (Γ := Γ) ce own a [op] [b] pos) :=
  if hb : setB b = false then
    (ePk r ce own a).bind fun x => (ePk r ce x.own' b).bind fun y => (cmOf op).map fun o =>
      have hm : behindInMarks op b = false := by cases b <;> first | rfl | cases hb
      ⟨.prim o.p [x.t, y.t], y.own', fun c X cc => se_cmp cc.K (o.ok X cc.un) (x.ok c X cc) (y.ok c X cc) hm, fun c X cc => st_cmp cc.K (o.ok X cc.un) o.bl (x.ok c X cc) (y.ok c X cc) hm⟩
  else none
/-- (a, b) in d -/
def cInT (es : List Expr) (kt : Nat) (pt pos : Pos) (b : Expr) : (op : CmpOp) → Option (RCp (Γ := Γ) ce own (.Tuple es kt pt) [op] [b] pos)
  | .In => if hb : setB b = false then (aSh r ce es own).bind fun x => (ePk r ce x.own' b).bind fun y => match hm : x.mu with
      | false => if hl : x.ts.length ≤ 1000 then
          have hs : behindInMarks .In b = false := by cases b <;> first | rfl | cases hb
          some ⟨.inT false x.ts y.t, y.own', fun c X cc => (se_inT cc.un (by have := x.ok c X cc; rw [hm] at this; exact this) hl (y.ok c X cc) hs).1, fun c X cc => (se_inT cc.un (by have := x.ok c X cc; rw [hm] at this; exact this) hl (y.ok c X cc) hs).2⟩ else none
      | true => none
    else none
  | .NotIn => if hb : setB b = false then (aSh r ce es own).bind fun x => (ePk r ce x.own' b).bind fun y => match hm : x.mu with
      | false => if hl : x.ts.length ≤ 1000 then
          have hs : behindInMarks .NotIn b = false := by cases b <;> first | rfl | cases hb
          some ⟨.inT true x.ts y.t, y.own', fun c X cc => (se_ninT cc.un (by have := x.ok c X cc; rw [hm] at this; exact this) hl (y.ok c X cc) hs).1, fun c X cc => (se_ninT cc.un (by have := x.ok c X cc; rw [hm] at this; exact this) hl (y.ok c X cc) hs).2⟩ else none
      | true => none
    else none
  | _ => none
def tkB : Expr → Bool
  | .Name x _ => ce.tks.contains x
  | _ => false
def cCmp (a : Expr) (pos : Pos) : (ops : List CmpOp) → (bs : List Expr) → Option (RCp (Γ := Γ) ce own a ops bs pos)
  | [op], [.Constant .none j p] => (match isOf op with
      | some o => (ePk r ce own a).map fun x => ⟨.prim o.p [x.t], x.own', fun c X cc => se_isN cc.K (o.ok X) (x.ok c X cc) rfl, fun c X cc => st_isN cc.K (o.ok X) o.bl (x.ok c X cc) rfl⟩
      | none => cCmp1 r ce own a (.Constant .none j p) op pos)
  | [op], [b] => (match a with
      | .Tuple es kt pt => if tkB ce b = true then cInT r ce own es kt pt pos b op else cCmp1 r ce own (.Tuple es kt pt) b op pos
      | a => cCmp1 r ce own a b op pos)
  | [op, op'], [b, d] => if hb : setB d = false then
      (ePk r ce own a).bind fun x => (ePk r ce x.own' b).bind fun y => (ePk r ce y.own' d).bind fun z => (cmOf op).bind fun o => (cmOf op').bind fun o' => if ho : z.own' = y.own' then
        have hm : lastMarks [op, op'] [b, d] = false := by show behindInMarks op' d = false; cases d <;> first | rfl | cases hb
        some ⟨.chain o.p o'.p x.t y.t z.t, z.own', fun c X cc => se_chain cc.K (o.ok X cc.un) (o'.ok X cc.un) o.bl (x.ok c X cc) (y.ok c X cc) (z.ok c X cc) ho hm, fun c X cc => st_chain cc.K (o.ok X cc.un) (o'.ok X cc.un) o.bl o'.bl (x.ok c X cc) (y.ok c X cc) (z.ok c X cc) ho hm⟩
      else none
    else none
  | _, _ => none
/-! ### subscripts -/
def cSub (a : Expr) (pos : Pos) : (b : Expr) → Option (RE ce Γ own (.Subscript a b pos))
  | .Slice (some lo) none none p2 => (ePk r ce own a).bind fun x => (ePk r ce x.own' lo).map fun y => ⟨.prim (.cut true false) [x.t, y.t], y.own', false, .sh, fun c X cc => se_cutLo cc.K (x.ok c X cc) (y.ok c X cc)⟩
  | .Slice none (some hi) none p2 => (ePk r ce own a).bind fun x => (ePk r ce x.own' hi).map fun y => ⟨.prim (.cut false true) [x.t, y.t], y.own', false, .sh, fun c X cc => se_cutHi cc.K (x.ok c X cc) (y.ok c X cc)⟩
  | .Slice (some lo) (some hi) none p2 => (ePk r ce own a).bind fun x => (ePk r ce x.own' lo).bind fun y => (ePk r ce y.own' hi).map fun z => ⟨.cut2 x.t y.t z.t, z.own', false, .sh, fun c X cc => se_cut2 cc.K (x.ok c X cc) (y.ok c X cc) (z.ok c X cc)⟩
  | .Slice none none (some (.UnaryOp .USub (.Constant (.int i) k p1) p2)) p3 => if h : i = 1 then (ePk r ce own a).map fun x => ⟨.prim .rev [x.t], x.own', false, .sh, fun c X cc => by rw [h]; exact se_rev cc.K (x.ok c X cc)⟩ else none
  | .Tuple es kt pt => if tkB ce a = true then (eSh r ce own a).bind fun x => (aSh r ce es x.own').bind fun y => match hm : x.mu, hm2 : y.mu with
      | false, false => if hl : y.ts.length ≤ 1000 then some ⟨.getT x.t y.ts, y.own', false, .sh, fun c X cc => se_getT cc.un (by have := x.ok c X cc; rw [hm] at this; exact this) (by have := y.ok c X cc; rw [hm2] at this; exact this) hl⟩ else none
      | _, _ => none
    else none
  | b => if hb : plainIxB b = true then (ePk r ce own a).bind fun x => (ePk r ce x.own' b).map fun y => ⟨.prim .idx [x.t, y.t], y.own', false, .sh, fun c X cc => se_idx cc.K cc.un (x.ok c X cc) (y.ok c X cc) (plainIxB_ok hb)⟩ else none
/-! ### arithmetic -/
def cBin (a b : Expr) (op : Operator) (pos : Pos) : Option (RE ce Γ own (.BinOp a op b pos)) :=
  (ePk r ce own a).bind fun x => (ePk r ce x.own' b).bind fun y => match op, h : x.t with
    | .Mult, .lst as => some ⟨.prim .mul [.lst as, y.t], y.own', false, .fr, fun c X cc => se_binF cc.K o_mulF (by have := x.ok c X cc; rw [h] at this; exact this) (y.ok c X cc)⟩
    | op, _ => (opOf op).map fun o => ⟨.prim o.p [x.t, y.t], y.own', false, .sh, fun c X cc => se_bin cc.K (o.ok X) (x.ok c X cc) (y.ok c X cc)⟩
def cIte (a e1 e2 : Expr) (pos : Pos) : Option (RE ce Γ own (.IfExp a e1 e2 pos)) :=
  (r.t ce own a).bind fun x => match h : x.mu with
    | false => (eSh r ce x.own' e1).bind fun y => (eSh r ce x.own' e2).bind fun z => if ho : z.own' = y.own' then some ⟨.ite x.t y.t z.t, y.own', y.mu || z.mu, .sh, fun c X cc => by
        have hx := x.ok c X cc
        rw [h] at hx
        have hz := z.ok c X cc
        rw [ho] at hz
        exact se_ite hx (seMu (y.ok c X cc) (by intro q; simp [q])) (seMu hz (by intro q; simp [q]))⟩ else none
    | true => none
/-! ### names of the module that stand for a constant -/
def cGlob (x : Str) (pos : Pos) : Option (RE ce Γ own (.Name x pos)) :=
  if hg : glB ce x = true then match h : ce.gl.lookup x with
    | some (.cst t) => some ⟨t, own, false, .sh, fun c X cc => by
        obtain ⟨d, u, v, h1, h2, h3, h4⟩ := cc.gl x _ h
        rw [cc.mg] at h2
        refine ⟨fun pins s σ H Q I ⟨s1, G, r, q⟩ => ld_glob I (cc.g hg) h2 ⟨v, H, I, h3, ?_⟩ (glB_dbg hg)⟩
        rw [h1] at q
        exact q v H G r Stp.refl (h4 H G.Z G.μ)⟩
    | _ => none
  else none
/-! ### dicts' comprehensions -/
structure RDb (ce : CE) (Γ : List Fn) (own : List Nat) (ifs : List Expr) (kx vx : Expr) where
  ti : List T
  tk : T
  tv : T
  okI : ∀ c X, Cc ce Γ c X → PTs X ifs (tT c own own false (evAll Γ ti))
  okK : ∀ c X, Cc ce Γ c X → PE X kx (tE c own own false .sh (ev Γ tk))
  okV : ∀ c X, Cc ce Γ c X → PE X vx (tE c own own false .sh (ev Γ tv))
def cDe (ce : CE) (own : List Nat) (ifs : List Expr) (kx vx : Expr) : Option (RDb ce Γ own ifs kx vx) :=
  (eSh r ce own kx).bind fun a => (eSh r ce own vx).bind fun b =>
    match hm : a.mu, hm2 : b.mu with
    | false, false => if h : a.own' = own then if h2 : b.own' = own then
        (match ifs with
        | [] => some ⟨[], a.t, b.t, fun c X cc => sts_nil, fun c X cc => by have := a.ok c X cc; rw [h, hm] at this; exact this, fun c X cc => by have := b.ok c X cc; rw [h2, hm2] at this; exact this⟩
        | [i] => (r.t ce own i).bind fun x => match hm3 : x.mu with
          | false => if h3 : x.own' = own then some ⟨[x.t], a.t, b.t, fun c X cc => sts_one (by have := x.ok c X cc; rw [h3, hm3] at this; exact this), fun c X cc => by have := a.ok c X cc; rw [h, hm] at this; exact this, fun c X cc => by have := b.ok c X cc; rw [h2, hm2] at this; exact this⟩ else none
          | true => none
        | _ => none)
      else none else none
    | _, _ => none
structure RDc (ce : CE) (Γ : List Fn) (own : List Nat) (tg iter : Expr) (ifs : List Expr) (kx vx : Expr) (scope : Scope) where
  T : T
  own2 : List Nat
  mu : Bool
  ok : ∀ {c X}, Cc ce Γ c X → ∀ pos, PE X (.DictComp kx vx [⟨tg, iter, ifs, 0⟩] scope pos) (tE c own own2 mu .fr (ev Γ T))
  okS : ∀ {c X}, Cc ce Γ c X → ∀ (pos : Pos) {i : Nat} {y : Str} {py spos : Pos}, ce.N[i]? = some y → ce.sc.names.lookup y = some .local → ce.sc.kind = .function → (py.line == pos.line) = true → (scope.names.any fun (n, k) => n == y && (k == .local || k == .cell)) = false → PS X (.Assign [.Name y py] (.DictComp kx vx [⟨tg, iter, ifs, 0⟩] scope pos) spos) (tS c own (i :: drop1 own2 i) (ex Γ (.asg i T)))
structure RDp (ce : CE) (Γ : List Fn) (own : List Nat) (tg iter : Expr) (ifs : List Expr) (kx vx : Expr) (scope : Scope) where
  I : RI ce Γ own tg iter
  vs : List (Str × Nat)
  G : RG (ce.blk scope) Γ tg
  own2 : List Nat
  B : RDb (ce.blk scope) Γ own2 ifs kx vx
  blk : blkB ce.N ce.sc scope vs = true
  sub : ∀ i ∈ own2, i ∈ I.own'
  dis : ∀ i ∈ vs.map (·.2), i ∉ own2
  st : ∀ i ∈ slotsT G.tg, i ∈ vs.map (·.2)
  wk : wkK I.k = true → tgB G.tg = true
  no : I.os = []
  fold : setB iter = false
def RDp.T {ce : CE} {Γ : List Fn} {own : List Nat} {tg iter : Expr} {ifs : List Expr} {kx vx : Expr} {scope : Scope} (l : RDp ce Γ own tg iter ifs kx vx scope) : T := .dc l.I.k l.I.as l.G.tg (l.vs.map (·.2)) l.B.ti l.B.tk l.B.tv
theorem RDp.ok {ce : CE} {Γ : List Fn} {own : List Nat} {tg iter : Expr} {ifs : List Expr} {kx vx : Expr} {scope : Scope} (l : RDp ce Γ own tg iter ifs kx vx scope) {c : Cfg} {X : Cx} (cc : Cc ce Γ c X) (pos : Pos) : PE X (.DictComp kx vx [⟨tg, iter, ifs, 0⟩] scope pos) (tE c own l.own2 false .fr (ev Γ l.T)) :=
  se_dc cc.calm cc.nd (by have := l.I.ok c X cc; rw [l.no] at this; exact this) (by rw [cc.N, cc.sc]; exact blkB_ok l.blk) l.sub l.dis l.st l.wk (fun s H C cl fp => l.G.ok _ _ _ (cc.blk scope s H C cl fp)) (fun s H C cl fp => l.B.okI _ _ (cc.blk scope s H C cl fp)) (fun s H C cl fp => l.B.okK _ _ (cc.blk scope s H C cl fp)) (fun s H C cl fp => l.B.okV _ _ (cc.blk scope s H C cl fp)) (fun x => noFold l.fold X.env x)
theorem RDp.okS {ce : CE} {Γ : List Fn} {own : List Nat} {tg iter : Expr} {ifs : List Expr} {kx vx : Expr} {scope : Scope} (l : RDp ce Γ own tg iter ifs kx vx scope) {c : Cfg} {X : Cx} (cc : Cc ce Γ c X) (pos : Pos) {i : Nat} {y : Str} {py spos : Pos} (hy : ce.N[i]? = some y) (hyl : ce.sc.names.lookup y = some .local) (hk : ce.sc.kind = .function) (hl : (py.line == pos.line) = true) (ha : (scope.names.any fun (n, k) => n == y && (k == .local || k == .cell)) = false) :
    PS X (.Assign [.Name y py] (.DictComp kx vx [⟨tg, iter, ifs, 0⟩] scope pos) spos) (tS c own (i :: drop1 l.own2 i) (ex Γ (.asg i l.T))) :=
  sp_setDc (mu := false) cc.calm cc.nd (by rw [cc.N]; exact hy) (by rw [cc.sc]; exact hyl) (swaps_dict (by
    have e1 : X.env.blockKind = .function := by unfold Env.blockKind; rw [cc.sc, hk]; rfl
    have e2 : X.env.kindOf y = some .local := by show X.env.scope.names.lookup y = _; rw [cc.sc]; exact hyl
    rw [e1, e2, hl, ha]; rfl)) (by have := l.I.ok c X cc; rw [l.no] at this; exact this) (by rw [cc.N, cc.sc]; exact blkB_ok l.blk) l.sub l.dis l.st l.wk (fun s H C cl fp => l.G.ok _ _ _ (cc.blk scope s H C cl fp)) (fun s H C cl fp => l.B.okI _ _ (cc.blk scope s H C cl fp)) (fun s H C cl fp => l.B.okK _ _ (cc.blk scope s H C cl fp)) (fun s H C cl fp => l.B.okV _ _ (cc.blk scope s H C cl fp)) (fun x => noFold l.fold X.env x)
def RDp.rc {ce : CE} {Γ : List Fn} {own : List Nat} {tg iter : Expr} {ifs : List Expr} {kx vx : Expr} {scope : Scope} (l : RDp ce Γ own tg iter ifs kx vx scope) : RDc ce Γ own tg iter ifs kx vx scope where
  T := l.T
  own2 := l.own2
  mu := false
  ok := fun cc pos => RDp.ok l cc pos
  okS := fun cc pos => RDp.okS l cc pos
def dFin {tg iter : Expr} (ifs : List Expr) (kx vx : Expr) (scope : Scope) (I : RI ce Γ own tg iter) (vs : List (Str × Nat)) (G : RG (ce.blk scope) Γ tg) (own2 : List Nat) (B : RDb (ce.blk scope) Γ own2 ifs kx vx) : Option (RDp ce Γ own tg iter ifs kx vx scope) :=
  if h1 : blkB ce.N ce.sc scope vs = true then if h2 : own2.all (fun i => I.own'.contains i) = true then if h3 : (vs.map (·.2)).all (fun i => !own2.contains i) = true then if h4 : (slotsT G.tg).all (fun i => (vs.map (·.2)).contains i) = true then if h5 : setB iter = false then if h6 : (!wkK I.k || tgB G.tg) = true then if h7 : I.os = [] then
    some ⟨I, vs, G, own2, B, h1, fun i hi => by have := List.all_eq_true.mp h2 i hi; simpa using this, fun i hi => by have := List.all_eq_true.mp h3 i hi; simpa using this, fun i hi => by have := List.all_eq_true.mp h4 i hi; simpa using this, fun z => by rw [z] at h6; simpa using h6, h7, h5⟩
  else none else none else none else none else none else none else none
def cD (tg iter : Expr) (ifs : List Expr) (kx vx : Expr) (scope : Scope) : Option (RDc ce Γ own tg iter ifs kx vx scope) :=
  (cI r ce own tg iter).bind fun I => (gN (ce.blk scope) Γ 4 tg).bind fun G => (cDe r (ce.blk scope) (offT I.own' ((blkOwn ce.N scope.names).map (·.2))) ifs kx vx).bind fun B =>
    (dFin ce own ifs kx vx scope I (blkOwn ce.N scope.names) G _ B).map fun l => l.rc
/-! ### one level -/
def eNext : (e : Expr) → Option (RE ce Γ own e)
  | .Constant (.int i) k pos => some ⟨.cn (.int i), own, false, .sh, fun c X cc => se_int⟩
  | .Constant (.bool b) k pos => some ⟨.cn (.bl b), own, false, .sh, fun c X cc => se_bl⟩
  | .Constant (.str x) k pos => some ⟨.cn (.str x), own, false, .sh, fun c X cc => se_str⟩
  | .Constant .none k pos => some ⟨.cn .non, own, false, .sh, fun c X cc => se_non⟩
  | .Name x pos => (match nameIx ce x with
      | some i => if hi : i.1 ∈ own then some ⟨.var i.1, drop1 own i.1, false, .sh, fun c X cc => se_frz (cc.ix i.2) (cc.vis i.2) i.2.dbg i.2.cdc⟩
          else some ⟨.var i.1, own, false, .sh, fun c X cc => se_var (cc.ix i.2) (cc.vis i.2) i.2.dbg i.2.cdc hi⟩
      | none => cGlob ce own x pos)
  | .BinOp a op b pos => cBin r ce own a b op pos
  | .UnaryOp .USub a pos => (ePk r ce own a).map fun x => ⟨.prim .neg [x.t], x.own', false, .sh, fun c X cc => se_neg cc.K (x.ok c X cc)⟩
  | .UnaryOp .Not a pos => (ePk r ce own a).map fun x => ⟨.prim .pnot [x.t], x.own', false, .sh, fun c X cc => se_not cc.K (x.ok c X cc)⟩
  | .Compare a ops bs pos => (cCmp r ce own a pos ops bs).map fun x => ⟨x.t, x.own', false, .sh, x.ok⟩
  | .BoolOp op es pos => (cBo r ce op pos es own).map fun x => ⟨x.t, x.own', false, .sh, x.ok⟩
  | .IfExp a e1 e2 pos => cIte r ce own a e1 e2 pos
  | .Call (.Name f p1) [.SetComp (.Name x px) [⟨.Name y pa, iter, [], as⟩] scope spos] [] pos => cNub r ce own f p1 pos x y px pa spos iter as scope
  | .Call (.Name f p1) args [] pos => cCall r ce own f p1 pos args
  | .Call (.Name f p1) args kws pos => cCallK r ce own f p1 pos args kws
  | .Dict [] [] pos => some ⟨.dnew false, own, false, .fr, fun c X cc => se_dnew false⟩
  | .DictComp kx vx [⟨tg, iter, ifs, as⟩] scope pos => if ha : as = 0 then (cD r ce own tg iter ifs kx vx scope).map fun l => ⟨l.T, l.own2, l.mu, .fr, fun c X cc => by rw [ha]; exact l.ok cc pos⟩ else none
  | .Call (.Attribute o m apos) args [] cpos => cMeth r ce own o m apos cpos args
  | .Tuple es k pos => (aSh r ce es own).bind fun x => if hl : x.ts.length ≤ 1000 then some ⟨.tup x.ts, x.own', x.mu, .sh, fun c X cc => se_tup (x.ok c X cc) hl⟩ else none
  | .List es pos => (aSh r ce es own).bind fun x => if hl : x.ts.length ≤ 1000 then some ⟨.lst x.ts, x.own', x.mu, .fr, fun c X cc => se_lst (x.ok c X cc) hl⟩ else none
  | .Subscript a b pos => cSub r ce own a pos b
  | .ListComp elt [⟨tg, iter, ifs, as⟩] scope pos => if ha : as = 0 then (cL r ce own tg iter ifs elt scope).map fun l => ⟨l.T, l.own2, l.B.mu, .fr, fun c X cc => by rw [ha]; exact l.ok cc pos⟩ else none
  | _ => none
def tVal (e : Expr) (hv : valB e = true) : Option (RTt ce Γ own e) := (ePk r ce own e).map fun x => ⟨x.t, x.own', false, fun c X cc => st_val cc.K (x.ok c X cc) (valB_ok hv X.env)⟩
def tNext : (e : Expr) → Option (RTt ce Γ own e)
  | .UnaryOp .Not a pos => (r.t ce own a).map fun x => ⟨.prim .pnot [x.t], x.own', x.mu, fun c X cc => st_not (x.ok c X cc)⟩
  | .BoolOp op es pos => (tBo r ce op pos es own).map fun x => ⟨x.t, x.own', false, fun c X cc => (x.ok c X cc).pt⟩
  | .Compare a ops bs pos => (cCmp r ce own a pos ops bs).map fun x => ⟨x.t, x.own', false, x.okT⟩
  | e => if hv : valB e = true then tVal r ce own e hv else none
end
def lvl (Γ : List Fn) : Nat → Cs Γ
  | 0 => ⟨fun _ _ _ => none, fun _ _ _ => none⟩
  | n + 1 => ⟨fun ce own e => eNext (lvl Γ n) ce own e, fun ce own e => tNext (lvl Γ n) ce own e⟩
end Lb

set_option maxRecDepth 100000
set_option maxHeartbeats 2000000
namespace Lb
open PySem PySem.Spec PyProof.Rows L2
/-! ### which stores are swapped -/
def swN (ko : Str → Option NameKind) (ts : List Expr) : List Str := ts.filterMap fun
  | .Name id pos => if ko id == some .local && pos.line == (ts.head?.map (·.pos.line)).getD 0 then some id else none
  | _ => none
def swM (ko : Str → Option NameKind) (ts vs : List Expr) : Option (Option (List Str)) :=
  if (!(ts.length == 2 || ts.length == 3) || vs.length != ts.length) = true then some none
  else if (vs.any fun | .Starred .. => true | _ => false) = true then some none
  else if ((swN ko ts).length != ts.length || (swN ko ts).eraseDups.length != (swN ko ts).length) = true then some none
  else if vs.all (foldedForSure 8) = true then some none
  else if vs.all (constantsAlone 8) = true then none
  else some (some (swN ko ts))
theorem swM_ok {env : Env} (hk : env.scope.kind = .function) {ts vs : List Expr} {k k2 : Nat} {p p2 : Pos} {r : Option (List Str)} (hr : swM env.kindOf ts vs = some r) : swappedStores [.Tuple ts k p] (.Tuple vs k2 p2) env = pure r := by
  have hb : env.blockKind = .function := by unfold Env.blockKind; rw [hk]; rfl
  unfold swM at hr
  unfold swappedStores
  simp only [hb, bne_self_eq_false, Bool.or_false]
  split at hr
  · rename_i h1; cases hr; exact if_pos h1
  · rename_i h1
    refine (if_neg h1).trans ?_
    split at hr
    · rename_i h2; cases hr; exact if_pos h2
    · rename_i h2
      refine (if_neg h2).trans ?_
      split at hr
      · rename_i h3; cases hr; exact if_pos h3
      · rename_i h3
        refine (if_neg h3).trans ?_
        split at hr
        · rename_i h4; cases hr; exact if_pos h4
        · rename_i h4
          refine (if_neg h4).trans ?_
          split at hr
          · cases hr
          · rename_i h5
            cases hr
            exact if_neg h5
def compB : Expr → Bool
  | .ListComp .. => true
  | .SetComp .. => true
  | .DictComp .. => true
  | _ => false
theorem noSwap {e : Expr} (h : compB e = false) (t : Option Expr) (l : Nat) (env : Env) : swapsWith e t l env = pure false := by
  cases e <;> first | rfl | cases h
theorem swNone {g e : Expr} (env : Env) (h : (match g, e with
    | .Tuple _ _ _, .Tuple _ _ _ => false
    | .List _ _, .Tuple _ _ _ => false
    | _, _ => true) = true) : swappedStores [g] e env = pure none := by
  cases g <;> cases e <;> first | rfl | cases h
theorem sw_off {elt : Expr} {gs : List Comprehension} {scope : Scope} {pos py : Pos} {y : Str} {l : Nat} {env : Env} (h : (py.line == pos.line) = false) : swapsWith (.ListComp elt gs scope pos) (some (.Name y py)) l env = pure false := by
  unfold swapsWith
  simp only [Expr.pos, h, Bool.and_false, Bool.false_and]
theorem sw_cell {elt : Expr} {gs : List Comprehension} {scope : Scope} {pos py : Pos} {y : Str} {l : Nat} {env : Env} (h : (env.kindOf y == some .local) = false) : swapsWith (.ListComp elt gs scope pos) (some (.Name y py)) l env = pure false := by
  unfold swapsWith
  simp only [h, Bool.and_false, Bool.false_and]
theorem sw_offD {kx vx : Expr} {gs : List Comprehension} {scope : Scope} {pos py : Pos} {y : Str} {l : Nat} {env : Env} (h : (py.line == pos.line) = false) : swapsWith (.DictComp kx vx gs scope pos) (some (.Name y py)) l env = pure false := by
  unfold swapsWith
  simp only [Expr.pos, h, Bool.and_false, Bool.false_and]
theorem sw_cellD {kx vx : Expr} {gs : List Comprehension} {scope : Scope} {pos py : Pos} {y : Str} {l : Nat} {env : Env} (h : (env.kindOf y == some .local) = false) : swapsWith (.DictComp kx vx gs scope pos) (some (.Name y py)) l env = pure false := by
  unfold swapsWith
  simp only [h, Bool.and_false, Bool.false_and]
end Lb

set_option maxRecDepth 100000
set_option maxHeartbeats 2000000
namespace Lb
open PySem PySem.Spec PyProof.Rows L2
theorem noSole {g e : Expr} (h : compB e = false) (gs : g = g) (l : Nat) (env : Env) : swapsWithSole [g] e l env = pure false := noSwap h (some g) l env
structure Cd (ce : CE) (Γ : List Fn) (c : Cfg) (X : Cx) : Prop where
  cc : Cc ce Γ c X
  hp : PassesOwn (model X.prog X.w) X.A X.env X.xe
structure RSt (ce : CE) (Γ : List Fn) (own : List Nat) (st : Stmt) where
  t : St
  own' : List Nat
  ok : ∀ c X, Cd ce Γ c X → PS X st (tS c own own' (ex Γ t))
structure RSs (ce : CE) (Γ : List Fn) (own : List Nat) (b : List Stmt) where
  ts : List St
  own' : List Nat
  ok : ∀ c X, Cd ce Γ c X → PSs X b (tS c own own' (exs Γ ts))
def subB (a b : List Nat) : Bool := a.all fun i => b.contains i
theorem subB_ok {a b : List Nat} (h : subB a b = true) : ∀ i ∈ a, i ∈ b := fun i hi => by
  have := List.all_eq_true.mp h i hi
  simpa using this
def meet (a b : List Nat) : List Nat := a.filter fun i => b.contains i
theorem meet_l {a b : List Nat} : ∀ i ∈ meet a b, i ∈ a := fun i hi => (List.mem_filter.mp hi).1
theorem meet_r {a b : List Nat} : ∀ i ∈ meet a b, i ∈ b := fun i hi => by
  have := (List.mem_filter.mp hi).2
  simpa using this
def disB (a b : List Nat) : Bool := a.all fun i => !b.contains i
theorem disB_ok {a b : List Nat} (h : disB a b = true) : ∀ i ∈ a, i ∉ b := fun i hi => by
  have := List.all_eq_true.mp h i hi
  simpa using this
structure Ss (ce : CE) (Γ : List Fn) where
  ss : (own : List Nat) → (b : List Stmt) → Option (RSs ce Γ own b)
section
variable {Γ : List Fn} (r : Cs Γ) (ce : CE) (nw : Bool) (own : List Nat)
theorem Cc.ko {ce : CE} {Γ : List Fn} {c : Cfg} {X : Cx} (cc : Cc ce Γ c X) : X.env.kindOf = fun x => ce.sc.names.lookup x := by
  funext x
  show X.env.scope.names.lookup x = _
  rw [cc.sc]
/-- x = e -/
def sAsg (x : Str) (px : Pos) (pos : Pos) (e : Expr) : Option (RSt ce Γ own (.Assign [.Name x px] e pos)) :=
  if hl : locB ce x = true then match hi : ixS x ce.N with
    | none => none
    | some i =>
      let gen : (∀ (c : Cfg) (X : Cx), Cd ce Γ c X → swapsWith e (some (.Name x px)) pos.line X.env = pure false) → Option (RSt ce Γ own (.Assign [.Name x px] e pos)) := fun hs =>
        (r.e ce own e).bind fun a => match h : a.md with
          | .fr => some ⟨.asg i a.t, i :: drop1 a.own' i, fun c X cd => sp_asgF cd.cc.nd (by rw [cd.cc.N]; exact ixS_get hi) (cd.cc.loc hl).1 (by have := a.ok c X cd.cc; rw [h] at this; exact this) (hs c X cd) (cd.cc.loc hl).2⟩
          | .sh => some ⟨.asg i a.t, drop1 a.own' i, fun c X cd => sp_asg cd.cc.nd (by rw [cd.cc.N]; exact ixS_get hi) (cd.cc.loc hl).1 (by have := a.ok c X cd.cc; rw [h] at this; exact this) (hs c X cd) (cd.cc.loc hl).2⟩
          | .pk => none
      (match e, gen with
      | .ListComp elt gs scope p2, gen => if hcl : (ce.sc.names.lookup x == some .local) = false then gen fun c X cd => sw_cell (by rw [cd.cc.ko]; exact hcl) else if hline : (px.line == p2.line) = true then
          (match gs with
          | [⟨tg, iter, ifs, as⟩] => if ha : as = 0 then if hy : (ce.sc.names.lookup x == some .local) = true then if hk : (ce.sc.kind == .function) = true then if hn : (scope.names.any fun (n, k) => n == x && (k == .local || k == .cell)) = false then
              (cL r ce own tg iter ifs elt scope).map fun l => ⟨.asg i l.T, i :: drop1 l.own2 i, fun c X cd => by rw [ha]; exact l.okS cd.cc p2 (ixS_get hi) (eq_of_beq hy) (eq_of_beq hk) hline hn⟩
            else none else none else none else none
          | _ => none)
        else gen fun c X cd => sw_off (by simpa using hline)
      | .DictComp kx vx gs scope p2, gen => if hcl : (ce.sc.names.lookup x == some .local) = false then gen fun c X cd => sw_cellD (by rw [cd.cc.ko]; exact hcl) else if hline : (px.line == p2.line) = true then
          (match gs with
          | [⟨tg, iter, ifs, as⟩] => if ha : as = 0 then if hy : (ce.sc.names.lookup x == some .local) = true then if hk : (ce.sc.kind == .function) = true then if hn : (scope.names.any fun (n, k) => n == x && (k == .local || k == .cell)) = false then
              (cD r ce own tg iter ifs kx vx scope).map fun l => ⟨.asg i l.T, i :: drop1 l.own2 i, fun c X cd => by rw [ha]; exact l.okS cd.cc p2 (ixS_get hi) (eq_of_beq hy) (eq_of_beq hk) hline hn⟩
            else none else none else none else none
          | _ => none)
        else gen fun c X cd => sw_offD (by simpa using hline)
      | .Dict [] [] dp, gen => if ce.tks.contains x = true then
          some ⟨.asg i (.dnew true), i :: drop1 own i, fun c X cd => sp_asgF (mu := false) cd.cc.nd (by rw [cd.cc.N]; exact ixS_get hi) (cd.cc.loc hl).1 (se_dnew true) (noSwap rfl _ _ _) (cd.cc.loc hl).2⟩
        else gen fun c X cd => noSwap rfl _ _ _
      | e, gen => if hc : compB e = false then gen fun c X cd => noSwap hc _ _ _ else none)
  else none
/-- a, b = e -/
def sUnp (ts : List Expr) (k : Nat) (pt pos : Pos) (e : Expr) : Option (RSt ce Γ own (.Assign [.Tuple ts k pt] e pos)) :=
  if hc : compB e = false then
    (eSh r ce own e).bind fun a => (gN ce Γ 4 (.Tuple ts k pt)).bind fun g =>
      let fin : (∀ (c : Cfg) (X : Cx), Cd ce Γ c X → swappedStores [.Tuple ts k pt] e X.env = pure none) → RSt ce Γ own (.Assign [.Tuple ts k pt] e pos) := fun hw =>
        ⟨.unp g.tg a.t, offT a.own' (slotsT g.tg), fun c X cd => sp_unp (a.ok c X cd.cc) (g.ok c X a.own' cd.cc) (noSole hc rfl _ _) (hw c X cd) rfl⟩
      (match e, fin with
      | .Tuple vs k2 p2, fin => if hk : (ce.sc.kind == .function) = true then (match h : swM (fun x => ce.sc.names.lookup x) ts vs with
          | some none => some (fin fun c X cd => swM_ok (by rw [cd.cc.sc]; exact eq_of_beq hk) (by rw [cd.cc.ko]; exact h))
          | _ => none) else none
      | e, fin => if h : (match e with
          | .Tuple _ _ _ => false
          | _ => true) = true then some (fin fun c X cd => swNone _ (by cases e <;> first | rfl | cases h)) else none)
  else none
structure RAM (es : List Expr) where
  ts : List T
  own' : List Nat
  mu : Bool
  ms : List Bool
  ok : ∀ c X, Cc ce Γ c X → PA X es (tAsM c own own' mu ms (evs Γ ts))
def aM : (es : List Expr) → (own : List Nat) → Option (RAM (Γ := Γ) ce own es)
  | [], own => some ⟨[], own, false, [], fun c X cc => sm_nil⟩
  | e :: es, own => if hs : starOk e = true then
      (r.e ce own e).bind fun a => (aM es a.own').bind fun b => match h : a.md with
        | .sh => some ⟨a.t :: b.ts, b.own', a.mu || b.mu, false :: b.ms, fun c X cc => sm_sh (by have := a.ok c X cc; rw [h] at this; exact this) (b.ok c X cc) (starOk_eq hs es X.env)⟩
        | .fr => some ⟨a.t :: b.ts, b.own', a.mu || b.mu, true :: b.ms, fun c X cc => sm_fr (by have := a.ok c X cc; rw [h] at this; exact this) (b.ok c X cc) (starOk_eq hs es X.env)⟩
        | .pk => none
    else none
/-- a, b = c, d with local names -/
def sPar2 (x y : Str) (px py pt pos p2 : Pos) (k k2 : Nat) (a b : Expr) : Option (RSt ce Γ own (.Assign [.Tuple [.Name x px, .Name y py] k pt] (.Tuple [a, b] k2 p2) pos)) :=
  match hi : ixS x ce.N, hj : ixS y ce.N, hw : swM (fun x => ce.sc.names.lookup x) [.Name x px, .Name y py] [a, b] with
  | some i, some j, some (some l) => if hl : l = [x, y] then if hij : i ≠ j then if hx : (ce.sc.names.lookup x == some .local) = true then if hy : (ce.sc.names.lookup y == some .local) = true then if hk : (ce.sc.kind == .function) = true then
      (aM r ce [a, b] own).bind fun v => match h : v.ms with
        | [b1, b2] => some ⟨.par [i, j] v.ts, ownM v.own' [i, j] [b1, b2], fun c X cd => by
            have ok := v.ok c X cd.cc
            rw [h] at ok
            exact sp_parM cd.cc.calm cd.cc.nd (by rw [cd.cc.N]; exact ixS_get hi) (by rw [cd.cc.N]; exact ixS_get hj) hij (by rw [cd.cc.sc]; exact eq_of_beq hx) (by rw [cd.cc.sc]; exact eq_of_beq hy) ok (swM_ok (by rw [cd.cc.sc]; exact eq_of_beq hk) (by rw [cd.cc.ko, ← hl]; exact hw)) (noSole rfl rfl _ _)⟩
        | _ => none
    else none else none else none else none else none
  | _, _, _ => none
def sPar3 (x y z : Str) (px py pz pt pos p2 : Pos) (k k2 : Nat) (a b d : Expr) : Option (RSt ce Γ own (.Assign [.Tuple [.Name x px, .Name y py, .Name z pz] k pt] (.Tuple [a, b, d] k2 p2) pos)) :=
  match hi : ixS x ce.N, hj : ixS y ce.N, hm : ixS z ce.N, hw : swM (fun x => ce.sc.names.lookup x) [.Name x px, .Name y py, .Name z pz] [a, b, d] with
  | some i, some j, some m, some (some l) => if hl : l = [x, y, z] then if hij : i ≠ j ∧ i ≠ m ∧ j ≠ m then if hx : (ce.sc.names.lookup x == some .local) = true then if hy : (ce.sc.names.lookup y == some .local) = true then if hz : (ce.sc.names.lookup z == some .local) = true then if hk : (ce.sc.kind == .function) = true then
      (aM r ce [a, b, d] own).bind fun v => match h : v.ms with
        | [b1, b2, b3] => some ⟨.par [i, j, m] v.ts, ownM v.own' [i, j, m] [b1, b2, b3], fun c X cd => by
            have ok := v.ok c X cd.cc
            rw [h] at ok
            exact sp_parM3 cd.cc.calm cd.cc.nd (by rw [cd.cc.N]; exact ixS_get hi) (by rw [cd.cc.N]; exact ixS_get hj) (by rw [cd.cc.N]; exact ixS_get hm) hij.1 hij.2.1 hij.2.2 (by rw [cd.cc.sc]; exact eq_of_beq hx) (by rw [cd.cc.sc]; exact eq_of_beq hy) (by rw [cd.cc.sc]; exact eq_of_beq hz) ok (swM_ok (by rw [cd.cc.sc]; exact eq_of_beq hk) (by rw [cd.cc.ko, ← hl]; exact hw)) (noSole rfl rfl _ _)⟩
        | _ => none
    else none else none else none else none else none else none
  | _, _, _, _ => none
structure RGN (ts : List Expr) where
  is : List Nat
  len : ts.length = is.length
  ok : ∀ c X, Cc ce Γ c X → PGs X ts (tGsN is)
def gNm : (ts : List Expr) → Option (RGN (Γ := Γ) ce ts)
  | [] => some ⟨[], rfl, fun c X cc => sgn_nil⟩
  | .Name x pos :: ts => if h : locB ce x = true then match hi : ixS x ce.N with
      | some i => (gNm ts).map fun g => ⟨i :: g.is, by rw [List.length_cons, List.length_cons, g.len], fun c X cc => sgn_cons cc.nd (by rw [cc.N]; exact ixS_get hi) (cc.loc h).1 (cc.loc h).2 (g.ok c X cc)⟩
      | none => none
    else none
  | _ => none
def sParU (ts vs : List Expr) (k k2 : Nat) (pt p2 pos : Pos) : Option (RSt ce Γ own (.Assign [.Tuple ts k pt] (.Tuple vs k2 p2) pos)) :=
  match hw : swM (fun x => ce.sc.names.lookup x) ts vs with
  | some none => if hk : (ce.sc.kind == .function) = true then if hst : ts.all starOk = true then
      (gNm (Γ := Γ) ce ts).bind fun g => (aM r ce vs own).bind fun v => if hl : g.is.length = v.ms.length then if hz : v.ms.length ≤ 1000 then
        some ⟨.par g.is v.ts, ownM v.own' g.is v.ms, fun c X cd => sp_parU cd.cc.calm (g.ok c X cd.cc) hl g.len hz (v.ok c X cd.cc) (assignEach_idx hst) (assignEach_len ts) (swM_ok (by rw [cd.cc.sc]; exact eq_of_beq hk) (by rw [cd.cc.ko]; exact hw)) (noSole rfl rfl _ _)⟩
      else none else none
    else none else none
  | _ => none
/-- o[i] = e, o in the store -/
theorem asgSub {o i : Expr} (hs : (match i with
    | .Slice _ _ _ _ => false
    | _ => true) = true) (tpos : Pos) (env : Env) (v : Value) : assign (.Subscript o i tpos) env v = (do
      let ov ← holding [v] (eval o env)
      let iv ← holding [v, ov] (eval i env)
      standAt tpos
      holding [v, ov, iv] (setItem ov iv v)
      release [v, ov, iv] []) := by
  cases i <;> first | rfl | cases hs
def sSub (o i : Expr) (tpos pos : Pos) (e : Expr) : Option (RSt ce Γ own (.Assign [.Subscript o i tpos] e pos)) :=
  if hc : compB e = false then if hi : (match i with
    | .Slice _ _ _ _ => false
    | _ => true) = true then
    (eSh r ce own e).bind fun a => (eSh r ce a.own' o).bind fun b => (eSh r ce b.own' i).map fun d =>
      ⟨.setR b.t d.t a.t, d.own', fun c X cd => sp_setR (a.ok c X cd.cc) (b.ok c X cd.cc) (d.ok c X cd.cc) (fun v => asgSub hi tpos X.env v) (noSole hc rfl _ _) (swNone _ (by cases e <;> rfl)) rfl⟩
  else none else none
/-- d[k] = e, d an own slot -/
def sPut (x : Str) (pn : Pos) (k : Expr) (tpos pos : Pos) (e : Expr) : Option (RSt ce Γ own (.Assign [.Subscript (.Name x pn) k tpos] e pos)) :=
  if hc : compB e = false then (nameIx ce x).bind fun i => (eSh r ce own e).bind fun a => if hi1 : i.1 ∈ a.own' then
    let one : Option (RSt ce Γ own (.Assign [.Subscript (.Name x pn) k tpos] e pos)) := (ePk r ce a.own' k).bind fun b => if hi2 : i.1 ∈ b.own' then
      some ⟨.dput i.1 b.t a.t, b.own', fun c X cd => sp_dput (cd.cc.ix i.2) (cd.cc.vis i.2) i.2.dbg i.2.cdc cd.cc.un hi1 hi2 (a.ok c X cd.cc) (b.ok c X cd.cc) (noSwap hc _ _ _)⟩ else none
    (match k, one with
    | .Tuple es kt p2, one => if ce.tks.contains x = true then (aSh r ce es a.own').bind fun b => match hm : b.mu with
        | false => if hi2 : i.1 ∈ b.own' then some ⟨.dputT i.1 b.ts a.t, b.own', fun c X cd => sp_dputT (cd.cc.ix i.2) (cd.cc.vis i.2) i.2.dbg i.2.cdc cd.cc.un hi1 hi2 (a.ok c X cd.cc) (by have := b.ok c X cd.cc; rw [hm] at this; exact this) (noSwap hc _ _ _)⟩ else none
        | true => none
      else one
    | _, one => one)
  else none else none
/-- xs[i] = e, xs an own list -/
def sSetL (x : Str) (pn : Pos) (k : Expr) (tpos pos : Pos) (e : Expr) : Option (RSt ce Γ own (.Assign [.Subscript (.Name x pn) k tpos] e pos)) :=
  if hc : compB e = false then if hi : (match k with
    | .Slice _ _ _ _ => false
    | _ => true) = true then (nameIx ce x).bind fun i => (eSh r ce own e).bind fun a => if hi1 : i.1 ∈ a.own' then (ePk r ce a.own' k).bind fun b => if hi2 : i.1 ∈ b.own' then
      some ⟨.setL i.1 b.t a.t, b.own', fun c X cd => sp_setL (cd.cc.ix i.2) (cd.cc.vis i.2) i.2.dbg i.2.cdc hi1 hi2 (a.ok c X cd.cc) (b.ok c X cd.cc) (fun v => asgSub hi tpos X.env v) (noSole hc rfl _ _) (swNone _ (by cases e <;> rfl)) rfl⟩ else none else none
  else none else none
/-- a, b, .. = a list made there -/
def sUnpL (ts : List Expr) (k : Nat) (pt pos : Pos) (elt : Expr) (gs : List Comprehension) (scope : Scope) (p2 : Pos) : Option (RSt ce Γ own (.Assign [.Tuple ts k pt] (.ListComp elt gs scope p2) pos)) :=
  if hs : ts.all starOk = true then (eSh r ce own (.ListComp elt gs scope p2)).bind fun a => (gList ce Γ (gN ce Γ 4) ts).map fun b =>
    ⟨.unpL b.ts a.t, offT a.own' (slotsTs b.ts), fun c X cd => sp_unpL cd.cc.K cd.cc.calm (a.ok c X cd.cc) (b.ok c X a.own' cd.cc) (by rw [assignEach_len, b.len]) (assignEach_idx hs) rfl (swNone _ rfl) rfl⟩
  else none
/-- xs[i] += e, xs an own list -/
def sAugL (x : Str) (pn : Pos) (k : Expr) (tpos pos : Pos) (e : Expr) : Option (RSt ce Γ own (.AugAssign (.Subscript (.Name x pn) k tpos) .Add e pos)) :=
  if hi : (match k with
    | .Slice _ _ _ _ => false
    | _ => true) = true then (nameIx ce x).bind fun i => if hi0 : i.1 ∈ own then (ePk r ce own k).bind fun a => if hi1 : i.1 ∈ a.own' then (ePk r ce a.own' e).bind fun b => if hi2 : i.1 ∈ b.own' then
      some ⟨.augL i.1 a.t b.t, b.own', fun c X cd => sp_augL (cd.cc.ix i.2) (cd.cc.vis i.2) i.2.dbg i.2.cdc hi0 hi1 hi2 (a.ok c X cd.cc) (b.ok c X cd.cc) (fun ov iv new => by cases k <;> first | rfl | cases hi)⟩ else none else none else none
  else none
theorem starOk_two {pos : Pos} {env : Env} {e : Expr} {lp : Pos} (h : starOk e = true) : backTo pos (starEach [e, .List [] lp] env) = backTo pos ((false, eval e env) :: [(false, eval (.List [] lp) env)]) := by
  rw [starOk_eq h]; rfl
def sSd (x : Str) (pn lp apos cpos apos2 cpos2 pos : Pos) (m m2 : Str) (hm : (m == ("setdefault" : Str)) = true) (hm2 : (m2 == ("append" : Str)) = true) (k e : Expr) : Option (RSt ce Γ own (.Expr (.Call (.Attribute (.Call (.Attribute (.Name x pn) m apos) [k, .List [] lp] [] cpos) m2 apos2) [e] [] cpos2) pos)) :=
  if hs : starOk e = true then if hsk : starOk k = true then if hl : (apos.endLine == cpos.line) = true then if hl2 : (apos2.endLine == cpos2.line) = true then
    (nameIx ce x).bind fun i => (ePk r ce own k).bind fun a => (aSh r ce [e] a.own').bind fun b => match h : b.ts with
      | [t] => if hi : i.1 ∈ own then if hi1 : i.1 ∈ a.own' then some ⟨.sdapp i.1 a.t t, b.own', fun c X cd => by
          have ok := b.ok c X cd.cc
          rw [h] at ok
          rw [eq_of_beq hm, eq_of_beq hm2]
          exact sp_sdapp cd.cc.K (cd.cc.ix i.2) (cd.cc.vis i.2) i.2.dbg i.2.cdc hi hi1 (a.ok c X cd.cc) ok ⟨base_ok rfl _ _ _, by rw [starOk_eq hsk]; rfl, hl, by rw [starOk_eq hsk]; rfl⟩ (base_ok rfl _ _ _) (starOk_few hs) hl2 (starOk_eq hs [] X.env)⟩ else none else none
      | _ => none
  else none else none else none else none
/-- xs.append(e) -/
def sApp (x : Str) (pn apos cpos pos : Pos) (m : Str) (hm : (m == ("append" : Str)) = true) (e : Expr) : Option (RSt ce Γ own (.Expr (.Call (.Attribute (.Name x pn) m apos) [e] [] cpos) pos)) :=
  if hs : starOk e = true then if hline : (apos.endLine == cpos.line) = true then
    (nameIx ce x).bind fun i => (aSh r ce [e] own).bind fun a => match h : a.ts with
      | [t] => if hi : i.1 ∈ own then if hi1 : i.1 ∈ a.own' then some ⟨.app i.1 t, a.own', fun c X cd => by
          have ok := a.ok c X cd.cc
          rw [h] at ok
          rw [eq_of_beq hm]
          exact sp_app (cd.cc.ix i.2) (cd.cc.vis i.2) i.2.dbg i.2.cdc hi hi1 ok (base_ok rfl _ _ _) (starOk_few hs) hline (starOk_eq hs [] X.env)⟩ else none else none
      | _ => none
  else none else none
def sExt (x : Str) (pn apos cpos pos : Pos) (m : Str) (hm : (m == ("extend" : Str)) = true) (e : Expr) : Option (RSt ce Γ own (.Expr (.Call (.Attribute (.Name x pn) m apos) [e] [] cpos) pos)) :=
  if hs : starOk e = true then if hline : (apos.endLine == cpos.line) = true then
    (nameIx ce x).bind fun i => ((r.e ce own e).bind RE.fr).bind fun a => if hi : i.1 ∈ own then if hi1 : i.1 ∈ a.own' then some ⟨.extL i.1 a.t, a.own', fun c X cd => by
          have ok := a.ok c X cd.cc
          rw [eq_of_beq hm]
          exact sp_ext (cd.cc.ix i.2) (cd.cc.vis i.2) i.2.dbg i.2.cdc hi hi1 ok (base_ok rfl _ _ _) (starOk_few hs) hline (starOk_eq hs [] X.env)⟩ else none else none
  else none else none
def sExpr (e : Expr) (pos : Pos) : Option (RSt ce Γ own (.Expr e pos)) :=
  if hc : compB e = false then (eSh r ce own e).map fun a => ⟨.expr a.t, a.own', fun c X cd => sp_expr (a.ok c X cd.cc) (noSwap hc _ _ _)⟩ else none
def sRet (e : Expr) (pos : Pos) : Option (RSt ce Γ own (.Return (some e) pos)) :=
  let gen : Option (RSt ce Γ own (.Return (some e) pos)) := (eSh r ce own e).map fun a => ⟨.ret a.t, own, fun c X cd => sp_ret (a.ok c X cd.cc)⟩
  match nw, e, gen with
  | true, .List es p, _ => (aSh r ce es own).bind fun a => if hl : a.ts.length ≤ 1000 then some ⟨.ret (.new a.ts), own, fun c X cd => sp_ret (se_new (a.ok c X cd.cc) (Nat.le_trans hl (by decide)))⟩ else none
  | _, _, gen => gen
def sAug (x : Str) (px pos : Pos) (op : Operator) (e : Expr) : Option (RSt ce Γ own (.AugAssign (.Name x px) op e pos)) :=
  if hl : locB ce x = true then match hi : ixS x ce.N with
    | none => none
    | some i => if hio : i ∉ own then (eSh r ce own e).bind fun a => match op with
        | .Add => some ⟨.aug i .add a.t, drop1 a.own' i, fun c X cd => sp_aug cd.cc.nd (by rw [cd.cc.N]; exact ixS_get hi) (cd.cc.loc hl).1 hio (a.ok c X cd.cc) ip_add aug_add aug_add0 (cd.cc.loc hl).2⟩
        | .Sub => some ⟨.aug i .sub a.t, drop1 a.own' i, fun c X cd => sp_aug cd.cc.nd (by rw [cd.cc.N]; exact ixS_get hi) (cd.cc.loc hl).1 hio (a.ok c X cd.cc) ip_sub aug_sub aug_sub0 (cd.cc.loc hl).2⟩
        | _ => none
      else none
  else none
def sRaise (x : Str) (p p2 pos : Pos) : Option (RSt ce Γ own (.Raise (some (.Call (.Name x p) [] [] p2)) none pos)) :=
  if hg : glB ce x = true then match h : ce.gl.lookup x with
    | some .exc => some ⟨.raise x [], own, fun c X cd => by
        obtain ⟨C, bmB, B, newId, initId, h1, h2, h3, h4, h5, h6⟩ := cd.cc.gl x _ h
        rw [cd.cc.K] at h2 h4 h5 h6
        rw [cd.cc.mg] at h3
        exact sp_raise0 cd.cc.calm cd.cc.mg cd.cc.tk h3 (pmk_own0 h1 h2 h3 h4 (raises_own h5 h6) (cd.cc.g hg) (glB_dbg hg))⟩
    | _ => none
  else none
variable (q : Ss ce Γ)
def sIf (e : Expr) (a b : List Stmt) (pos : Pos) : Option (RSt ce Γ own (.If e a b pos)) :=
  (r.t ce own e).bind fun x => (q.ss x.own' a).bind fun y => (q.ss x.own' b).map fun z =>
    ⟨.ifs x.t y.ts z.ts, meet y.own' z.own', fun c X cd => sp_if (x.ok c X cd.cc) (ss_post (y.ok c X cd) meet_l) (ss_post (z.ok c X cd) meet_r)⟩
/-- the same with a slot less of one's own -/
def lessSt {own1 : List Nat} {st : Stmt} (x : RSt ce Γ own1 st) : Option (RSt ce Γ own st) :=
  if h : subB own1 own = true then some ⟨x.t, x.own', fun c X cd => sp_pre (x.ok c X cd) (subB_ok h)⟩ else none
def firstN {α : Type} (f : Nat → Option α) : List Nat → Option α
  | [] => none
  | i :: r => (f i).orElse fun _ => firstN f r
def sIfL (e : Expr) (a b : List Stmt) (pos : Pos) : Option (RSt ce Γ own (.If e a b pos)) :=
  (sIf r ce own q e a b pos).orElse fun _ => firstN (fun i => (sIf r ce (own.filter fun j => j != i) q e a b pos).bind (lessSt ce own)) own
def forFin (tg iter : Expr) (body : List Stmt) (pos : Pos) (I : RI ce Γ own tg iter) (G : RG ce Γ tg) : Nat → (ownL : List Nat) → Option (RSt ce Γ own (.For tg iter body [] pos))
  | 0, _ => none
  | n + 1, ownL => (q.ss ownL body).bind fun B =>
      if h1 : subB ownL B.own' = true then if h2 : subB ownL I.own' = true then if h3 : disB (slotsT G.tg) ownL = true then if h4 : setB iter = false then if h6 : (!wkK I.k || tgB G.tg) = true then if h7 : I.os = [] then
        some ⟨.for_ I.k I.as G.tg B.ts, ownL, fun c X cd => sp_for cd.hp cd.cc.calm (by have := I.ok c X cd.cc; rw [h7] at this; exact this) (subB_ok h2) (disB_ok h3) (fun z => by rw [z] at h6; simpa using h6) (G.ok c X ownL cd.cc) (ss_post (B.ok c X cd) (subB_ok h1)) (fun x => noFold h4 X.env x)⟩
      else none else none else none else none else none else forFin tg iter body pos I G n (meet ownL B.own')
def sFor (tg iter : Expr) (body : List Stmt) (pos : Pos) : Option (RSt ce Γ own (.For tg iter body [] pos)) :=
  (cI r ce own tg iter).bind fun I => (gN ce Γ 4 tg).bind fun G => forFin ce own q tg iter body pos I G 4 (offT I.own' (slotsT G.tg))
def whFin (e : Expr) (body : List Stmt) (pos : Pos) : Nat → (ownL : List Nat) → Option (RSt ce Γ own (.While e body [] pos))
  | 0, _ => none
  | n + 1, ownL => (r.t ce ownL e).bind fun x => if h0 : x.own' = ownL then (q.ss ownL body).bind fun B =>
      if h1 : subB ownL B.own' = true then if h2 : subB ownL own = true then
        some ⟨.while_ x.t B.ts, ownL, fun c X cd => sp_while (mu := x.mu) cd.hp (subB_ok h2) (by have := x.ok c X cd.cc; rw [h0] at this; exact this) (ss_post (B.ok c X cd) (subB_ok h1))⟩
      else none else whFin e body pos n (meet ownL B.own')
    else whFin e body pos n (meet ownL x.own')
def sNext : (st : Stmt) → Option (RSt ce Γ own st)
  | .Pass pos => some ⟨.pass, own, fun c X cd => sp_pass⟩
  | .Expr (.Constant (.str x) j p) pos => some ⟨.pass, own, fun c X cd => sp_doc⟩
  | .Expr (.Call (.Attribute (.Name x pn) m apos) [e] [] cpos) pos => if hm : (m == ("append" : Str)) = true then sApp r ce own x pn apos cpos pos m hm e else if hm2 : (m == ("extend" : Str)) = true then sExt r ce own x pn apos cpos pos m hm2 e else sExpr r ce own _ pos
  | .Expr (.Call (.Attribute (.Call (.Attribute (.Name x pn) m apos) [k, .List [] lp] [] cpos) m2 apos2) [e] [] cpos2) pos => if hm : (m == ("setdefault" : Str)) = true then if hm2 : (m2 == ("append" : Str)) = true then sSd r ce own x pn lp apos cpos apos2 cpos2 pos m m2 hm hm2 k e else none else none
  | .Expr e pos => sExpr r ce own e pos
  | .Assign [.Name x px] e pos => sAsg r ce own x px pos e
  | .Assign [.Tuple ts k pt] (.Tuple vs k2 p2) pos => (match ts, vs with
      | [.Name x px, .Name y py], [a, b] => (sPar2 r ce own x y px py pt pos p2 k k2 a b).orElse fun _ => sParU r ce own _ _ k k2 pt p2 pos
      | [.Name x px, .Name y py, .Name z pz], [a, b, d] => (sPar3 r ce own x y z px py pz pt pos p2 k k2 a b d).orElse fun _ => sParU r ce own _ _ k k2 pt p2 pos
      | ts, vs => (sParU r ce own ts vs k k2 pt p2 pos).orElse fun _ => sUnp r ce own ts k pt pos (.Tuple vs k2 p2))
  | .Assign [.Tuple ts k pt] (.ListComp elt gs scope p2) pos => sUnpL r ce own ts k pt pos elt gs scope p2
  | .Assign [.Tuple ts k pt] e pos => sUnp r ce own ts k pt pos e
  | .Assign [.Subscript (.Name x pn) i tpos] e pos => if ce.lks.contains x = true then sSetL r ce own x pn i tpos pos e else (sPut r ce own x pn i tpos pos e).orElse fun _ => sSub r ce own (.Name x pn) i tpos pos e
  | .Assign [.Subscript o i tpos] e pos => sSub r ce own o i tpos pos e
  | .AugAssign (.Name x px) op e pos => sAug r ce own x px pos op e
  | .AugAssign (.Subscript (.Name x pn) k tpos) .Add e pos => sAugL r ce own x pn k tpos pos e
  | .If e a b pos => sIfL r ce own q e a b pos
  | .For tg iter body [] pos => sFor r ce own q tg iter body pos
  | .While e body [] pos => whFin r ce own q e body pos 4 own
  | .Return (some e) pos => sRet r ce nw own e pos
  | .Return none pos => some ⟨.retN, own, fun c X cd => sp_retN⟩
  | .Raise (some (.Call (.Name x p) [] [] p2)) none pos => sRaise ce own x p p2 pos
  | _ => none
def ssNext : (b : List Stmt) → (own : List Nat) → Option (RSs ce Γ own b)
  | [], own => some ⟨[], own, fun c X cd => ss_nil⟩
  | st :: b, own => (sNext r ce nw own q st).bind fun x => (ssNext b x.own').map fun y => ⟨x.t :: y.ts, y.own', fun c X cd => ss_cons (x.ok c X cd) (y.ok c X cd)⟩
end
def slv {Γ : List Fn} (r : Cs Γ) (ce : CE) (nw : Bool) : Nat → Ss ce Γ
  | 0 => ⟨fun _ _ => none⟩
  | n + 1 => ⟨fun own b => ssNext r ce nw (slv r ce nw n) b own⟩
/-- a def's body -/
def cBody (Γ : List Fn) (ce : CE) (nw : Bool) (body : List Stmt) : Option (RSs ce Γ [] body) := (slv (lvl Γ 40) ce nw 20).ss [] body
end Lb

set_option maxRecDepth 100000
set_option maxHeartbeats 2000000
/-! all defs of a text, one behind another -/
namespace Lb
open PySem PySem.Spec PyProof.Rows L2
def fnE : Nat → List LD → List (Str × GK)
  | _, [] => []
  | i, l :: r => (l.d.at_.1, .fn i l.b.np l.das l.ko l.kps) :: fnE (i + 1) r
theorem fnE_mem {x : Str} {g : GK} : ∀ {L : List LD} {i : Nat}, (x, g) ∈ fnE i L → ∃ j l, L[j]? = some l ∧ x = l.d.at_.1 ∧ g = .fn (i + j) l.b.np l.das l.ko l.kps
  | [], _, h => by cases h
  | l :: r, i, h => by
    rcases List.mem_cons.mp h with e | e
    · cases e; exact ⟨0, l, rfl, rfl, rfl⟩
    · obtain ⟨j, l', h1, h2, h3⟩ := fnE_mem e
      exact ⟨j + 1, l', h1, h2, by rw [h3]; congr 1; omega⟩
abbrev FunL (K : PySem.W.Frag) (l : LD) (fd : FuncData) : Prop := FunD K l.d.name l.d.qual l.d.params l.d.body l.d.scope (l.d.dvs K) (l.d.kws K) (He.fAd K l.d.at_) fd
def ceL (g0 : List (Str × GK)) (L : List LD) (l : LD) (i : Nat) : CE := ⟨l.N, l.d.scope, fun _ => true, fnE 0 (L.take i) ++ g0, i, l.dks, l.tks, l.lks, l.gd⟩
def bodyIs (g0 : List (Str × GK)) (L : List LD) (Γ : List Fn) (l : LD) (i : Nat) : Prop := (cBody Γ (ceL g0 L l i) l.nw l.d.body).map RSs.ts = some l.b.body
/-- how a def is called -/
def BindL (l : LD) : Prop := ∀ K fd, FunL K l fd → l.ex K = true → ∃ (dvs : List V) (dus : List Value), ∀ Γ j, j ≤ l.das.length → (l.ko = true → j = 0) → Binds K fd l.ps (dus.drop j) ∧ Dfl K Γ (l.das.drop j) (dvs.drop j) (dus.drop j)
structure LOk (g0 : List (Str × GK)) (L : List LD) (Γs : List Fn) (l : LD) (i : Nat) : Prop where
  sc : FnScope l.N l.ps l.d.scope
  np : l.ps.length = l.b.np
  n : l.N.length = l.b.n
  mir : Γs[i]? = some (runFn l.b (Γs.take i))
  cmp : bodyIs g0 L (Γs.take i) l i
  bind : BindL l
  kw : ∀ K fd, FunL K l fd → ∀ q ∈ l.kps, KBn K fd l.ps q.1 q.2.1 (fun us ws => permL q.2.2 (us ++ ws)) (fun vs zs => permL q.2.2 (vs ++ zs))
/-- what the module holds -/
structure Mo (K : PySem.W.Frag) (mg : Str → Option Value) (g0 : List (Str × GK)) (L : List LD) : Prop where
  g0 : ∀ x g, (x, g) ∈ g0 → ∀ P w base kk Γ, GOk P w K mg base kk Γ x g
  fn : ∀ (i : Nat) (l : LD), L[i]? = some l → ∃ fd, FunL K l fd
  gl : ∀ (i : Nat) (l : LD), L[i]? = some l → mg l.d.at_.1 = some (.ref (He.fAd K l.d.at_))
  ex : ∀ (i : Nat) (l : LD), L[i]? = some l → l.ex K = true
theorem mem_lookup' {α : Type} : ∀ {l : List (Str × α)} {n : Str} {c : α}, l.lookup n = some c → (n, c) ∈ l
  | (k, v) :: r, n, c, h => by
    rw [List.lookup_cons] at h
    cases hb : n == k with
    | true => rw [hb] at h; cases h; rw [eq_of_beq hb]; exact List.mem_cons_self
    | false => rw [hb] at h; exact List.mem_cons_of_mem _ (mem_lookup' h)
theorem one_fn {P : Program} {w : World} {K : PySem.W.Frag} {mg : Str → Option Value} {base : Heap} {l : LD} {i : Nat} {g0 : List (Str × GK)} {L : List LD} {Γ : List Fn} {fd : FuncData} (F : FunL K l fd) (sc : FnScope l.N l.ps l.d.scope) (np : l.ps.length = l.b.np) (n : l.N.length = l.b.n)
    (gd : l.gd = false) (cmp : bodyIs g0 L Γ l i) (gl : ∀ x g, (ceL g0 L l i).gl.lookup x = some g → GOk P w K mg base i Γ x g) : FnOk P w K mg base (L2.CX P w) (i + 1) (He.fAd K l.d.at_) fd l.ps (spD K mg l.b.np (runFn l.b Γ)) := by
  obtain ⟨oc, od, dV, kV, doc, pm, an, cdv, ct, osl, rfl, lk, hcd, _, _⟩ := F.ex
  unfold bodyIs at cmp
  cases e : cBody Γ (ceL g0 L l i) l.nw l.d.body with
  | none => rw [e] at cmp; cases cmp
  | some r =>
    rw [e] at cmp
    have cmp : r.ts = l.b.body := Option.some.inj cmp
    refine fn_D (own' := r.own') lk hcd sc np n fun A outer s H E hr => ?_
    rw [← cmp]
    refine r.ok _ _ ⟨⟨rfl, rfl, rfl, sc.nd, rfl, fun _ _ => rfl, rfl, takes_of rfl rfl rfl rfl, gl, hr, fun z => by rw [show (ceL g0 L l i).gd = l.gd from rfl, gd] at z; cases z⟩, passes_of rfl⟩
theorem all_fn {P : Program} {w : World} {K : PySem.W.Frag} {mg : Str → Option Value} {base : Heap} {g0 : List (Str × GK)} {L : List LD} {Γs : List Fn} (M : Mo K mg g0 L) (ok : ∀ (i : Nat) (l : LD), L[i]? = some l → LOk g0 L Γs l i) :
    ∀ (i : Nat) (l : LD), L[i]? = some l → l.gd = false → (∀ (j : Nat) (l' : LD), j < i → L[j]? = some l' → l'.gd = false) → ∃ fd, FunL K l fd ∧ FnOk P w K mg base (L2.CX P w) (i + 1) (He.fAd K l.d.at_) fd l.ps (spD K mg l.b.np (runFn l.b (Γs.take i))) := by
  intro i
  induction i using Nat.strongRecOn with
  | ind i ih =>
    intro l hl hgd hgds
    obtain ⟨fd, F⟩ := M.fn i l hl
    have o := ok i l hl
    refine ⟨fd, F, one_fn F o.sc o.np o.n hgd o.cmp fun x g hx => ?_⟩
    have hx : (fnE 0 (L.take i) ++ g0).lookup x = some g := hx
    rcases List.mem_append.mp (mem_lookup' hx) with h | h
    · obtain ⟨j, l', h1, rfl, rfl⟩ := fnE_mem h
      have hj : j < i := by
        have := (List.getElem?_eq_some_iff.mp h1).1
        rw [List.length_take] at this; omega
      rw [List.getElem?_take_of_lt hj] at h1
      obtain ⟨fd', F', ok'⟩ := ih j hj l' h1 (hgds j l' hj h1) fun k l2 hk => hgds k l2 (by omega)
      have o' := ok j l' h1
      obtain ⟨dvs, dus, hb⟩ := o'.bind K fd' F' (M.ex j l' h1)
      refine ⟨_, _, fd', l'.ps, dvs, dus, ?_, ok'.mono (by omega), M.gl j l' h1, F'.kp, fun k hk ho => hb _ k hk ho, o'.kw K fd' F'⟩
      rw [Nat.zero_add, List.getElem?_take_of_lt hj]
      exact o'.mir
    · exact M.g0 x g h P w base i _
theorem bindNone {l : LD} (h : l.das = []) (f : ∀ K fd, FunL K l fd → Binds K fd l.ps []) : BindL l := fun K fd F _ => ⟨[], [], fun Γ j hj _ => by
  rw [h, List.drop_nil, List.drop_nil, List.drop_nil]
  exact ⟨f K fd F, .nil⟩⟩
theorem empB_ok {K : PySem.W.Frag} {a : Addr} (h : empB K a = true) : KTup K a [] ∧ ∃ o, K.lookup a = some o ∧ o.dict = none := by
  unfold empB at h
  cases e : K.lookup a with
  | none => rw [e] at h; cases h
  | some o =>
    rw [e] at h
    simp only [Bool.and_eq_true] at h
    obtain ⟨h1, h2, h3⟩ := h
    cases ec : o.cls with
    | type c =>
      rw [ec] at h1
      cases ed : o.data with
      | seq its n =>
        rw [ed] at h2
        have hi : its = #[] := by simpa using h2
        subst hi
        exact ⟨⟨o, #[], n, e, by rw [ec, eq_of_beq h1], ed, Nat.zero_le _, .nil⟩, o, rfl, by simpa using h3⟩
      | _ => rw [ed] at h2; cases h2
    | _ => rw [ec] at h1; cases h1
theorem bindKo {l : LD} {x : Str} (n : Nat) (h0 : l.d.dfl = []) (hk : l.d.kwd = [(x, .adr fun K => kwAd K l.d.at_.1 x)]) (hdas : l.das = [.tup []]) (hko : l.ko = true) (hex : l.ex = fun K => empB K (kwAd K l.d.at_.1 x)) (hn : n + 1 = l.ps.length)
    (h : ∀ (D : Addr) (doc pm : Value) (an : Option Addr) (cdv ct : Value) (us ks : List Value), us.length = n → ks.length = 1 → KwChain D ([x].zip ks) (bindArgs (PySem.W.fnOf l.d.name l.d.qual l.d.params l.d.body l.d.scope .none (.ref D) doc pm an cdv ct) ⟨us, []⟩) (l.ps.zip (us ++ ks))) : BindL l := fun K fd F he => by
  have ed : l.d.dvs K = [] := by unfold He.DefD.dvs; rw [h0]; rfl
  have ek : l.d.kws K = [(x, .ref (kwAd K l.d.at_.1 x))] := by unfold He.DefD.kws; rw [hk]; rfl
  unfold FunL at F
  rw [ed, ek] at F
  obtain ⟨ds, r, b⟩ := FunD.binds0 (ps := l.ps) F n (by simp) (by simpa using hn) fun D doc pm an cdv ct us ks h1 h2 => h D doc pm an cdv ct us ks h1 h2
  rw [hex] at he
  refine ⟨[.ref (kwAd K l.d.at_.1 x)], ds, fun Γ j hj ho => ?_⟩
  have hj0 := ho hko
  subst hj0
  rw [hdas]
  exact ⟨b, ⟨r, [.tup []], fun s => rfl, fun H Z μ => ⟨_, [], rfl, ⟨_, [], rfl, .inr (empB_ok he), Nat.zero_le _, rfl⟩, rfl⟩⟩⟩
theorem kwOk {l : LD} {K : PySem.W.Frag} {fd : FuncData} (F : FunL K l fd) (h0 : l.d.dfl = []) {n : Nat} {ks : List Str} {ix : List Nat} (h : ∀ (kV doc pm : Value) (an : Option Addr) (cdv ct : Value) (us ws : List Value), us.length = n → ws.length = ks.length → bindArgs (PySem.W.fnOf l.d.name l.d.qual l.d.params l.d.body l.d.scope .none kV doc pm an cdv ct) ⟨us, ks.zip ws⟩ = pure (l.ps.zip (permL ix (us ++ ws)))) :
    KBn K fd l.ps n ks (fun us ws => permL ix (us ++ ws)) (fun vs zs => permL ix (vs ++ zs)) := by
  have ed : l.d.dvs K = [] := by unfold He.DefD.dvs; rw [h0]; rfl
  unfold FunL at F
  rw [ed] at F
  obtain ⟨oc, od, dV, kV, doc, pm, an, cdv, ct, osl, rfl, lk, hcd, hD, hK⟩ := F.ex
  rcases hD with ⟨_, rfl⟩ | ⟨e, _⟩
  · exact ⟨fun s us ws X l1 l2 => BindsTo.of_looks fun M => PySem.W.Looks.of_pure (h kV doc pm an cdv ct us ws l1 l2), fun r1 r2 => perm_vals (r1.append r2) ix⟩
  · exact absurd rfl e
theorem kwC {α : Type} {P : α → Prop} {a : α} {l : List α} (h : P a) (t : ∀ q ∈ l, P q) : ∀ q ∈ a :: l, P q := fun q hq => by
  rcases List.mem_cons.mp hq with e | e
  · rw [e]; exact h
  · exact t q e
theorem kwN {α : Type} {P : α → Prop} : ∀ q ∈ ([] : List α), P q := fun q hq => by simp at hq
theorem fd_eq {K : PySem.W.Frag} {l : LD} {fd fd' : FuncData} (F : FunL K l fd) (F' : FunL K l fd') : fd = fd' := by
  obtain ⟨oc, od, dV, kV, doc, pm, an, cdv, ct, osl, _, lk, _⟩ := F.ex
  obtain ⟨oc', od', dV', kV', doc', pm', an', cdv', ct', osl', _, lk', _⟩ := F'.ex
  rw [lk] at lk'
  cases lk'
  rfl
section
variable {K : PySem.W.Frag} {mg : Str → Option Value} {x : Str}
theorem g_int {i : Int} (h : ∃ t, mg x = some (.int i t)) : ∀ P w base kk Γ, GOk P w K mg base kk Γ x (.cst (.cn (.int i))) := fun P w base kk Γ => by
  obtain ⟨t, h⟩ := h
  exact ⟨.int i, _, .int i, fun _ => rfl, h, ⟨_, rfl⟩, fun _ _ _ => rfl⟩
theorem g_str {z : Str} (h : ∃ t, mg x = some (.str z t)) : ∀ P w base kk Γ, GOk P w K mg base kk Γ x (.cst (.cn (.str z))) := fun P w base kk Γ => by
  obtain ⟨t, h⟩ := h
  exact ⟨.str z, _, .str z, fun _ => rfl, h, ⟨_, rfl⟩, fun _ _ _ => rfl⟩
theorem strsB_ok : ∀ {us : List Value} {zs : List Str}, strsB us zs = true → Vals (zs.map V.str) us
  | [], [], _ => .nil
  | .str x t :: r, y :: ys, h => by
    simp only [strsB, Bool.and_eq_true] at h
    rw [← eq_of_beq h.1]
    exact .cons ⟨t, rfl⟩ (strsB_ok h.2)
theorem strs_rep {H : Hp} {Z : Zs} {μ : List Addr} : ∀ zs : List Str, Reps K H Z μ (zs.map D.str) (zs.map V.str)
  | [] => rfl
  | z :: zs => ⟨_, _, rfl, rfl, strs_rep zs⟩
theorem evs_strs (Γ : List Fn) (s : S) : ∀ zs : List Str, evs Γ (zs.map fun z => T.cn (.str z)) s = .ok (zs.map D.str) s
  | [] => rfl
  | z :: zs => by
    show (R.ok (D.str z) s).bind _ = _
    rw [R.bind_ok]
    show (evs Γ (zs.map fun z => T.cn (.str z)) s).bind _ = _
    rw [evs_strs Γ s zs]; rfl
/-- a module's constant: a tuple of texts -/
theorem g_tup {zs : List Str} (hz : zs.length ≤ 1000) (h : mg x = some (.ref (He.ga K x))) (q : tupC K (He.ga K x) zs = true) : ∀ P w base kk Γ, GOk P w K mg base kk Γ x (.cst (.tup (zs.map fun z => .cn (.str z)))) := fun P w base kk Γ => by
  refine ⟨.tup (zs.map D.str), _, .ref (He.ga K x), fun s => ?_, h, rfl, fun H Z μ => ?_⟩
  · show (evs Γ (zs.map fun z => T.cn (.str z)) s).bind _ = _
    rw [evs_strs]; rfl
  · have hz' : (zs.map V.str).length ≤ sizeLine := by rw [List.length_map]; exact Nat.le_trans hz (by decide)
    unfold tupC at q
    cases e : K.lookup (He.ga K x) with
    | none => rw [e] at q; cases q
    | some o =>
      rw [e] at q
      simp only [Bool.and_eq_true] at q
      obtain ⟨q1, q2, q3⟩ := q
      cases ec : o.cls with
      | type c =>
        rw [ec] at q1
        cases ed : o.data with
        | seq its n =>
          rw [ed] at q2
          have v := strsB_ok q2
          refine ⟨_, _, rfl, .inr ⟨⟨o, its, n, e, by rw [ec, eq_of_beq q1], ed, ?_, v⟩, o, e, by simpa using q3⟩, hz', strs_rep zs⟩
          have := v.length
          rw [List.length_map] at this
          have hs : its.size = zs.length := by rw [← Array.length_toList]; exact this.symm
          rw [hs]
          exact Nat.le_trans hz (by decide)
        | _ => rw [ed] at q2; cases q2
      | _ => rw [ec] at q1; cases q1
theorem g_exc (h : mg x = some (.ref (He.ga K x))) (q : PySem.W.excIn K (He.ga K x) He.veBase "ValueError.__new__" = true ∧ PySem.W.keepIn K (.ref (He.ga K x)) = true ∧ PySem.W.subIn K (.ref (He.ga K x)) (.type "BaseException") = some true ∧
    PySem.W.typeIn K (.ref (He.ga K x)) = some (.type "type")) : ∀ P w base kk Γ, GOk P w K mg base kk Γ x .exc := fun P w base kk Γ =>
  ⟨_, _, _, _, _, PySem.F.excBase_ValueError, q.1, h, q.2.1, q.2.2.1, q.2.2.2⟩
end
/-! ### the head -/
theorem noLst_ok {K : PySem.W.Frag} (h : noLst K = true) {a : Addr} {o : Obj} (e : K.lookup a = some o) : o.cls ≠ .type "list" := fun z => by
  have hm : ∀ (l : PySem.W.Frag), l.lookup a = some o → (a, o) ∈ l := fun l e => by
    induction l with
    | nil => cases e
    | cons p r ih =>
      obtain ⟨k, v⟩ := p
      rw [List.lookup_cons] at e
      cases hb : a == k with
      | true => rw [hb] at e; cases e; rw [eq_of_beq hb]; exact List.mem_cons_self
      | false => rw [hb] at e; exact List.mem_cons_of_mem _ (ih e)
  have := List.all_eq_true.mp h _ (hm K e)
  rw [z] at this
  simp at this
section
variable {fa : List He.Fa} {fn : List He.DefD} {ex : PySem.W.Frag → Bool} {K : PySem.W.Frag}
theorem SaysL.d (c : SaysL fa fn ex K) : He.SaysD fa fn K := congrArg (fun z : AlL => z.2) c
theorem SaysL.n (c : SaysL fa fn ex K) : noLst K = true ∧ ex K = true := He.ba (congrArg (fun z : AlL => z.1) c)
end
/-- the law's promise from what its mirror yields -/
theorem law_sp {K : PySem.W.Frag} {mg : Str → Option Value} {F : Fn} (hn : noLst K = true) {H : Hp} {a : Addr} {ns : List Int} (hl : ns.length ≤ sizeLine) (hS : SqL K H a (ns.map V.int)) (h : ∃ st', F [.lst (ns.map D.int)] [] = .ok (.bl true) st') :
    spD K mg 1 F [.ref a] H (fun v _ => v = .bl true) (fun _ _ _ => False) := by
  obtain ⟨st', e⟩ := h
  have hR : Rd H a (.lst (ns.map V.int)) := by
    rcases hS with q | ⟨o, its, n, q1, q2, _⟩
    · exact q
    · exact absurd q2 (noLst_ok hn q1)
  have hlive : ∃ o, H a = some o := by
    rcases hR with q | ⟨o, q⟩
    · exact ⟨_, q⟩
    · exact ⟨_, q⟩
  refine ⟨[.lst (ns.map D.int)], [], ⟨fun p => ∃ o, H p = some o, fun _ => 0, []⟩, rfl, ⟨rfl, fun i d e => by simp at e, fun p z => z, fun i hi => by simp at hi, fun i hi => by simp at hi, ⟨rfl, fun n xs e => by simp at e⟩, fun a ha => by simp at ha, List.nodup_nil⟩, ⟨_, _, rfl, ⟨a, _, rfl, ⟨hlive, hR⟩, by simpa using hl, intsR ns⟩, rfl⟩, ?_⟩
  rw [e]
  exact fun v H' G' _ _ rp => rp
theorem law_fn {P : Program} {w : World} {K : PySem.W.Frag} {mg : Str → Option Value} {base : Heap} {k : Nat} {f : Addr} {fd : FuncData} {ps : List Str} {sp : Sp} (F : FnOk P w K mg base (L2.CX P w) k f fd ps sp) :
    FnOk P w K mg base CX0 k f fd ps (fun vs H Q _ => sp vs H Q (fun _ _ _ => False)) := by
  refine ⟨fun vs H Q E h => F.len vs H Q _ h, fun A outer s H args us vs Q E hr e0 hb r h => codeAny_mono (F.run A outer s H args us vs Q (fun _ _ _ => False) hr e0 hb r h) fun res s' q => ?_⟩
  cases res with
  | ok fl =>
    cases fl <;> exact q
  | error e => obtain ⟨_, _, _, _, _, _, _, _, _, _, _, _, z⟩ := q; exact z.elim
end Lb

set_option maxRecDepth 100000
set_option maxHeartbeats 2000000
/-! a law that asks repr: its def told where the law is called from, where no repr is under way -/
namespace Lb
open PySem PySem.Spec PyProof.Rows L2
/-- what a def's body has to yield -/
theorem body_D {K : PySem.W.Frag} {mg : Str → Option Value} {b : FD} {Γ : List Fn} {N : List Str} {own' : List Nat} {H : Hp} {vs : List V} {Q : VK} {E : XK} (hn : N.length = b.n) (h : spD K mg b.np (runFn b Γ) vs H Q E) :
    tS ⟨K, mg, fun cls d _ H => E cls d H⟩ [] own' (exs Γ b.body) { nx := fun _ H' => Q .non H', rt := Q } (L2.start N vs) H := by
  obtain ⟨ds, st, G, hl, r, rp, q⟩ := h
  have hld : ds.length = b.np := by rw [← rp.length]; exact hl
  rw [runFn_eq b Γ ds st hld] at q
  have q : PostD K mg G H Q E (runB b Γ ds st) := by
    replace q : PostD K mg G H Q E (if b.gc = true then gcR st (runB b Γ ds st) else runB b Γ ds st) := q
    split at q
    · exact PostD.gc r q
    · exact q
  unfold runB at q
  rw [← hld] at q
  refine ⟨_, G, G, H, r.begin rp hn, Ent.start r, ?_⟩
  cases eb : exs Γ b.body ⟨ds.map some ++ List.replicate (b.n - ds.length) none, st⟩ with
  | fail => rw [eb] at q; exact q
  | exc e s' =>
    rw [eb] at q
    exact fun cls dd σ' H' G' r' en' hx => q cls dd H' { G' with ad := G.ad } ⟨rfl, fun i d e => by simp at e, r'.zl, fun i hi => by simp at hi, fun i hi => by simp at hi, r'.sto, r'.mz, r'.mnd⟩ en'.stp hx
  | ok f s' =>
    rw [eb] at q
    cases f with
    | next => exact fun σ' H' G' r' en' _ => q .non H' { G' with ad := G.ad } ⟨rfl, fun i d e => by simp at e, r'.zl, fun i hi => by simp at hi, fun i hi => by simp at hi, r'.sto, r'.mz, r'.mnd⟩ en'.stp rfl
    | ret d => exact fun v H' G' r' en' rp' => q v H' { G' with ad := G.ad } ⟨rfl, fun i d e => by simp at e, r'.zl, fun i hi => by simp at hi, fun i hi => by simp at hi, r'.sto, r'.mz, r'.mnd⟩ en'.stp rp'
/-- the last def of a text, at the very place where it is called -/
theorem last_fn {P : Program} {w : World} {K : PySem.W.Frag} {mg : Str → Option Value} {base : Heap} {g0 : List (Str × GK)} {L : List LD} {Γs : List Fn} (M : Mo K mg g0 L) (ok : ∀ (i : Nat) (l : LD), L[i]? = some l → LOk g0 L Γs l i) {i : Nat} {l : LD} (hl : L[i]? = some l)
    (hgd : ∀ (j : Nat) (l' : LD), j < i → L[j]? = some l' → l'.gd = false) :
    ∃ fd, FunL K l fd ∧ ∀ (A : Around) (outer : List Env) (s : Shared) (H : Hp) (args : Args) (us : List Value) (vs : List V) (Q : VK) (E : XK), A.guards = some [] → Room (i + 1) A → Env0 P w K mg base A outer s H → BindsTo s fd args (l.ps.zip us) → Vals vs us → spD K mg l.b.np (runFn l.b (Γs.take i)) vs H Q E →
      codeAny (model P w) A (.call (.ref (He.fAd K l.d.at_)) args) (CR (L2.CX P w) outer P w H s Q E) s := by
  obtain ⟨fd, F⟩ := M.fn i l hl
  have o := ok i l hl
  refine ⟨fd, F, fun A outer s H args us vs Q E hg hr e0 hb rv h => ?_⟩
  obtain ⟨oc, od, dV, kV, doc, pm, an, cdv, ct, osl, rfl, lk, hcd, _, _⟩ := F.ex
  have cmp := o.cmp
  unfold bodyIs at cmp
  cases e : cBody (Γs.take i) (ceL g0 L l i) l.nw l.d.body with
  | none => rw [e] at cmp; cases cmp
  | some r =>
    rw [e] at cmp
    have cmp : r.ts = l.b.body := Option.some.inj cmp
    have hlen : vs.length = l.ps.length := by
      obtain ⟨_, _, _, h1, _⟩ := h
      rw [h1, o.np]
    refine LamX.run_ofS lk hcd o.sc hr e0 hb rv hlen fun hr2 => ⟨_, ?_, body_D (own' := r.own') o.n h⟩
    rw [← cmp]
    refine r.ok _ _ ⟨⟨rfl, rfl, rfl, o.sc.nd, rfl, fun _ _ => rfl, rfl, takes_of rfl rfl rfl rfl, fun x g hx => ?_, hr2, fun _ => hg⟩, passes_of rfl⟩
    have hx : (fnE 0 (L.take i) ++ g0).lookup x = some g := hx
    rcases List.mem_append.mp (mem_lookup' hx) with h | h
    · obtain ⟨j, l', h1, rfl, rfl⟩ := fnE_mem h
      have hj : j < i := by
        have := (List.getElem?_eq_some_iff.mp h1).1
        rw [List.length_take] at this; omega
      rw [List.getElem?_take_of_lt hj] at h1
      obtain ⟨fd', F', ok'⟩ := all_fn (P := P) (w := w) (base := base) M ok j l' h1 (hgd j l' hj h1) fun k l2 hk => hgd k l2 (by omega)
      have o' := ok j l' h1
      obtain ⟨dvs, dus, hb⟩ := o'.bind K fd' F' (M.ex j l' h1)
      refine ⟨_, _, fd', l'.ps, dvs, dus, ?_, ok'.mono (show j + 1 ≤ i by omega), M.gl j l' h1, F'.kp, fun k hk ho => hb _ k hk ho, o'.kw K fd' F'⟩
      rw [Nat.zero_add, List.getElem?_take_of_lt hj]
      exact o'.mir
    · exact M.g0 x g h P w base i _
theorem gdB {L : List LD} {k : Nat} (h : ((L.take k).all fun l => !l.gd) = true) : ∀ (j : Nat) (l : LD), j < k → L[j]? = some l → l.gd = false := fun j l hj e => by
  have m : l ∈ L.take k := List.mem_of_getElem? (i := j) (by rw [List.getElem?_take_of_lt hj]; exact e)
  simpa using List.all_eq_true.mp h l m
/-- from the call of the law to the statement: the script alone is tracked -/
theorem walkG {l : PySem.W.OpenLaw} {n : Nat} {q : Program} {loose : List Str} {XP : (Str → Option Value) → Heap → Prop} {YP : World → Heap → Prop} {d : DefRec}
    (hn : l.most = some n) (hn2 : n ≤ sizeLine) (hdf : d.params.defaults = [])
    (F : ∀ (w : World) (mg : Str → Option Value) (fa : Addr) (h : Heap), YP w h → h.Ns mainGlobals mg → mg d.name = some (.ref fa) → ∃ K : PySem.W.Frag, K.In h ∧ noLst K = true ∧
      ∀ (base : Heap) (s : Shared) (H : Hp) (a : Addr) (ns : List Int), ns.length ≤ n → Env0 l.prog w K mg base callerA [] s H → SqL K H a (ns.map V.int) →
        codeAny (model l.prog w) callerA (.call (.ref fa) ⟨[.ref a], []⟩) (CR CX0 [] l.prog w H s (fun v _ => v = .bl true) fun _ _ _ => False) s) :
    PySem.W.WalkO q loose XP YP l.row.toRowW d [] (fun f vs => PySem.call f vs) := by
  refine Att.attach_call hn hdf fun w s₀ s₁ mg mb fa o pm cd doc a vs ns G Y ho hd hcd hmg hobj hints hlen hg => ?_
  obtain ⟨K, KX, nl, run⟩ := F w mg fa _ Y G.T.g hmg
  have rv := vals_ints hints
  have hkn : K.lookup a = none := by
    cases e : K.lookup a with
    | none => rfl
    | some u =>
      have := KX a u e
      rw [hobj] at this
      cases this
      exact absurd rfl (noLst_ok nl e)
  generalize hob : ({ cls := .type "list", data := .seq vs.toArray } : Obj) = ob at hobj
  let H : Hp := fun b => if b = a then some (.frz ob (.lst (ns.map V.int))) else none
  have hH : H a = some (.frz ob (.lst (ns.map V.int))) := if_pos rfl
  have hN : ∀ b, b ≠ a → H b = none := fun b h => if_neg h
  have off : ∀ {b : Addr} {u : Obj}, s₁.heap.get? b = some u → b ≠ a → (hidT s₁.heap H).get? b = some u := fun e h => hidT_get e (hN _ h)
  have nsO : ∀ {b : Addr} {m : Str → Option Value}, s₁.heap.Ns b m → (hidT s₁.heap H).Ns b m := fun {b m} ⟨u, es, ep, e, du, rest⟩ => ⟨u, es, ep, off e (fun z => by
    rw [z, hobj] at e
    cases e
    rw [← hob] at du
    exact nomatch (show Data.seq vs.toArray _ = Data.dict es ep from du)), du, rest⟩
  have KB : K.In (hidT s₁.heap H) := fun b u e => off (KX b u e) fun z => by rw [z, hkn] at e; cases e
  have hok : HOk l.prog w H s₁.heap := fun b u e => by
    by_cases z : b = a
    · rw [z, hH] at e
      cases e
      refine ⟨by rw [z]; exact hobj, by rw [List.length_map]; exact Nat.le_trans hlen hn2, vs, _, rv, by rw [z, hobj, ← hob]⟩
    · rw [hN b z] at e; cases e
  have e0 : Env0 l.prog w K mg (hidT s₁.heap H) callerA [] s₁ H := by
    obtain ⟨mc, c1, c2⟩ := G.T.nolimit
    exact ⟨rfl, ⟨KB, nsO G.T.g, ⟨mb, nsO G.T.b, G.T.builtins⟩, mc, nsO c1, c2⟩, fun b u e => of_hidT e, Nat.le_of_eq (hidT_size _ _), trivial, fun b z => by simp [frs] at z, hok, .of_eq hg⟩
  refine codeAny_mono (run _ s₁ H a ns hlen e0 (.inl (.inr ⟨ob, hH⟩))) fun res s' h => ?_
  match res, h with
  | .ok (.ret u), h =>
    obtain ⟨v, H', os, bare, un, hok', r', q⟩ := h
    have q' : v = .bl true := q
    rw [q'] at r'
    cases (show u = Value.bool true from r')
    refine ⟨rfl, OldK.of_keep fun b u e => ?_, os, bare⟩
    by_cases z : b = a
    · have k1 := un.frzs a ob _ hH
      have k2 := (hok' a _ k1).1
      rw [z, hobj] at e
      cases e
      rw [z]
      exact k2
    · exact un.keep b u e (hN b z) (fun y => by simp [frs] at y) (by simp)
  | .ok .next, h => exact h.elim
  | .ok .brk, h => exact h.elim
  | .ok .cont, h => exact h.elim
  | .error e, h => exact h.elim
end Lb

set_option maxRecDepth 100000
set_option maxHeartbeats 1000000
/-! for the plain half: comprehensions, loops -/
namespace Lb
open PySem L2
theorem wipeD_in {e : List (Option D)} : ∀ {vs : List Nat} {i : Nat}, i ∈ vs → i < e.length → (wipeD e vs)[i]? = some none
  | v :: vs, i, hi, hl => by
    unfold wipeD
    by_cases h : v = i
    · subst h
      rw [List.getElem?_set_self (by rw [wipeD_length]; exact hl)]
    · rw [List.getElem?_set_ne h]
      rcases List.mem_cons.mp hi with q | q
      · exact absurd q.symm h
      · exact wipeD_in q hl
theorem wipeD_out {e : List (Option D)} : ∀ {vs : List Nat} {i : Nat}, i ∉ vs → (wipeD e vs)[i]? = e[i]?
  | [], _, _ => rfl
  | v :: vs, i, hi => by
    unfold wipeD
    rw [List.getElem?_set_ne (fun z => hi (by rw [z]; exact List.mem_cons_self))]
    exact wipeD_out fun z => hi (List.mem_cons_of_mem _ z)
theorem backD_in {e0 e : List (Option D)} (hl : e0.length = e.length) : ∀ {vs : List Nat} {i : Nat}, i ∈ vs → (backD e0 e vs)[i]? = e0[i]?
  | v :: vs, i, hi => by
    unfold backD
    by_cases h : v = i
    · subst h
      cases q : e0[v]? with
      | none =>
        show (backD e0 e vs)[v]? = none
        rw [List.getElem?_eq_none_iff] at q ⊢
        rw [backD_length, ← hl]; exact q
      | some o =>
        show ((backD e0 e vs).set v o)[v]? = some o
        rw [List.getElem?_set_self (by rw [backD_length, ← hl]; exact (List.getElem?_eq_some_iff.mp q).1)]
    · have hi' : i ∈ vs := by
        rcases List.mem_cons.mp hi with q | q
        · exact absurd q.symm h
        · exact q
      cases q : e0[v]? with
      | none => exact backD_in hl hi'
      | some o =>
        show ((backD e0 e vs).set v o)[i]? = _
        rw [List.getElem?_set_ne h]; exact backD_in hl hi'
theorem backD_out {e0 e : List (Option D)} : ∀ {vs : List Nat} {i : Nat}, i ∉ vs → (backD e0 e vs)[i]? = e[i]?
  | [], _, _ => rfl
  | v :: vs, i, hi => by
    unfold backD
    have h : v ≠ i := fun z => hi (by rw [z]; exact List.mem_cons_self)
    have hi' : i ∉ vs := fun z => hi (List.mem_cons_of_mem _ z)
    cases q : e0[v]? with
    | none => exact backD_out hi'
    | some o =>
      show ((backD e0 e vs).set v o)[i]? = _
      rw [List.getElem?_set_ne h]; exact backD_out hi'
theorem back_wipe (e : List (Option D)) (vs : List Nat) : backD e (wipeD e vs) vs = e := by
  apply List.ext_getElem?
  intro i
  by_cases hi : i ∈ vs
  · exact backD_in (by rw [wipeD_length]) hi
  · rw [backD_out hi, wipeD_out hi]
theorem lcGo_pure {body : D → S → R S (Option D)} {s : S} (f : D → Option D) : ∀ (xs : List D), (∀ x ∈ xs, body x s = .ok (f x) s) → lcGo body xs s = .ok (xs.filterMap f) s
  | [], _ => rfl
  | x :: xs, h => by
    unfold lcGo
    rw [h x List.mem_cons_self, R.bind_ok, lcGo_pure f xs fun y hy => h y (List.mem_cons_of_mem _ hy), R.bind_ok, List.filterMap_cons]
    cases f x <;> rfl
section
variable {Γ : List Fn} {s : S} {k : IK} {as : List T} {tg : Tg} {vs : List Nat} {ifs : List T} {t : T} {env : List (Option D)} {st : Sto}
/-- a comprehension that changes nothing -/
theorem ev_lcP {xs : List D} (f : D → Option D) (hI : evI Γ k as s = .ok xs ⟨env, st⟩) (hb : ∀ x ∈ xs, lcBody Γ tg vs ifs t x ⟨wipeD env vs, st⟩ = .ok (f x) ⟨wipeD env vs, st⟩) (hl : xs.length ≤ sizeLine) :
    ev Γ (.lc k as tg vs ifs t) s = .ok (.lst (xs.filterMap f)) ⟨env, st⟩ := by
  rw [ev_lc', hI, R.bind_ok, lcGo_pure f xs hb]
  have : fits (xs.filterMap f) = true := decide_eq_true (Nat.le_trans (List.length_filterMap_le ..) hl)
  simp only [R.noX, R.bind_ok, this, if_true, back_wipe]
/-- .. that makes one item each -/
theorem ev_lcM {xs : List D} (f : D → D) (hI : evI Γ k as s = .ok xs ⟨env, st⟩) (hb : ∀ x ∈ xs, lcBody Γ tg vs ifs t x ⟨wipeD env vs, st⟩ = .ok (some (f x)) ⟨wipeD env vs, st⟩) (hl : xs.length ≤ sizeLine) :
    ev Γ (.lc k as tg vs ifs t) s = .ok (.lst (xs.map f)) ⟨env, st⟩ := by
  rw [ev_lcP (fun x => some (f x)) hI hb hl]
  congr 2
  exact List.filterMap_eq_map ▸ rfl
end
theorem lcGo_Y {β : Type} {body : D → S → R S (Option D)} {s : S} (g : β → D) (p : β → Bool) (h : β → D) : ∀ (ys : List β), (∀ y ∈ ys, body (g y) s = .ok (if p y then some (h y) else none) s) → lcGo body (ys.map g) s = .ok ((ys.filter p).map h) s
  | [], _ => rfl
  | y :: ys, hb => by
    rw [List.map_cons]
    unfold lcGo
    rw [hb y List.mem_cons_self, R.bind_ok, lcGo_Y g p h ys fun z hz => hb z (List.mem_cons_of_mem _ hz), R.bind_ok]
    cases hp : p y with
    | true => rw [List.filter_cons_of_pos hp]; simp
    | false => rw [List.filter_cons_of_neg (by simp [hp])]; simp
section
variable {Γ : List Fn} {s : S} {k : IK} {as : List T} {tg : Tg} {vs : List Nat} {ifs : List T} {t : T} {env : List (Option D)} {st : Sto} {β : Type}
theorem ev_lcF (ys : List β) (g : β → D) (p : β → Bool) (h : β → D) (hI : evI Γ k as s = .ok (ys.map g) ⟨env, st⟩) (hb : ∀ y ∈ ys, lcBody Γ tg vs ifs t (g y) ⟨wipeD env vs, st⟩ = .ok (if p y then some (h y) else none) ⟨wipeD env vs, st⟩) (hl : ys.length ≤ sizeLine) :
    ev Γ (.lc k as tg vs ifs t) s = .ok (.lst ((ys.filter p).map h)) ⟨env, st⟩ := by
  rw [ev_lc', hI, R.bind_ok, lcGo_Y g p h ys hb]
  have : fits ((ys.filter p).map h) = true := decide_eq_true (by rw [List.length_map]; exact Nat.le_trans (List.length_filter_le ..) hl)
  simp only [R.noX, R.bind_ok, this, if_true, back_wipe]
theorem ev_lcY (ys : List β) (g : β → D) (h : β → D) (hI : evI Γ k as s = .ok (ys.map g) ⟨env, st⟩) (hb : ∀ y ∈ ys, lcBody Γ tg vs ifs t (g y) ⟨wipeD env vs, st⟩ = .ok (some (h y)) ⟨wipeD env vs, st⟩) (hl : ys.length ≤ sizeLine) :
    ev Γ (.lc k as tg vs ifs t) s = .ok (.lst (ys.map h)) ⟨env, st⟩ := by
  have := ev_lcF (Γ := Γ) (tg := tg) (vs := vs) (ifs := ifs) (t := t) ys g (fun _ => true) h hI (fun y hy => by rw [hb y hy]; rfl) hl
  rw [this]
  congr 3
  exact List.filter_eq_self.mpr fun _ _ => rfl
end
theorem ev_lcS {Γ : List Fn} {s : S} {k : IK} {as : List T} {tg : Tg} {vs : List Nat} {ifs : List T} {t : T} {env : List (Option D)} {st st' : Sto} {xs ds : List D} (hI : evI Γ k as s = .ok xs ⟨env, st⟩) (hb : lcGo (lcBody Γ tg vs ifs t) xs ⟨wipeD env vs, st⟩ = .ok ds ⟨wipeD env vs, st'⟩) (hl : ds.length ≤ sizeLine) :
    ev Γ (.lc k as tg vs ifs t) s = .ok (.lst ds) ⟨env, st'⟩ := by
  rw [ev_lc', hI, R.bind_ok, hb]
  have : fits ds = true := decide_eq_true hl
  simp only [R.noX, R.bind_ok, this, if_true, back_wipe]
theorem exs_whileB (Γ : List Fn) (s : S) (c : T) (body ts : List St) : exs Γ (.while_ c body :: ts) s = thenS (whGo (evT Γ c) (exs Γ body) s.env fuel s) (exs Γ ts) := rfl
theorem whGo_succ (c : S → R S Bool) (body : S → R S Fl) (e0 : List (Option D)) (n : Nat) (s : S) : whGo c body e0 (n + 1) s = (c s).bind fun b s => if b then (body s).bind fun f s => (match f with
      | .next => whGo c body e0 n { s with env := keepTo e0 s.env }
      | .ret d => .ok (.ret d) s) else .ok .next s := rfl
@[simp] theorem evT_eq (Γ : List Fn) (t : T) (s : S) : evT Γ t s = (ev Γ t s).bind fun x s => opt s (truthy x) := rfl
theorem bls_mapY {β : Type} (f : β → Bool) : ∀ ys : List β, bls (ys.map fun x => D.bl (f x)) = some (ys.map f)
  | [] => rfl
  | x :: xs => by
    show (bls (xs.map fun x => D.bl (f x))).map _ = _
    rw [bls_mapY f xs]; rfl
theorem allR_Y {β : Type} (f : β → Bool) (ys : List β) : allR (ys.map fun x => D.bl (f x)) = some (ys.all f) := by
  unfold allR
  rw [bls_mapY]
  simp [List.all_map]
theorem anyR_Y {β : Type} (f : β → Bool) (ys : List β) : anyR (ys.map fun x => D.bl (f x)) = some (ys.any f) := by
  unfold anyR
  rw [bls_mapY]
  simp [List.any_map]
theorem sumR_Y {β : Type} (f : β → Int) : ∀ ys : List β, sumR (ys.map fun x => D.int (f x)) = some (ys.map f).sum
  | [] => rfl
  | x :: xs => by
    show (sumR (xs.map fun x => D.int (f x))).map _ = _
    rw [sumR_Y f xs]; rfl
theorem zipL_map {β γ : Type} (g : β → D) (h : γ → D) : ∀ (xs : List β) (ys : List γ), zipL (xs.map g) (ys.map h) = (xs.zip ys).map fun p => .tup [g p.1, h p.2]
  | [], _ => rfl
  | _ :: _, [] => rfl
  | x :: xs, y :: ys => by
    show D.tup [g x, h y] :: zipL (xs.map g) (ys.map h) = _
    rw [zipL_map g h xs ys]; rfl
def enumI {β : Type} : Nat → List β → List (Nat × β)
  | _, [] => []
  | i, x :: xs => (i, x) :: enumI (i + 1) xs
theorem enumL_map {β : Type} (g : β → D) : ∀ (xs : List β) (i : Nat), enumL i (xs.map g) = (enumI i xs).map fun p => .tup [.int p.1, g p.2]
  | [], _ => rfl
  | x :: xs, i => by
    show D.tup [.int i, g x] :: enumL (i + 1) (xs.map g) = _
    rw [enumL_map g xs (i + 1)]; rfl
theorem enumI_len {β : Type} : ∀ (xs : List β) (i : Nat), (enumI i xs).length = xs.length
  | [], _ => rfl
  | x :: xs, i => by rw [enumI, List.length_cons, List.length_cons, enumI_len xs]
theorem enumI_mem {β : Type} {p : Nat × β} : ∀ {xs : List β} {i : Nat}, p ∈ enumI i xs ↔ i ≤ p.1 ∧ xs[p.1 - i]? = some p.2
  | [], i => by simp [enumI]
  | x :: xs, i => by
    rw [enumI, List.mem_cons, enumI_mem]
    constructor
    · rintro (e | ⟨h1, h2⟩)
      · subst e; simp
      · refine ⟨by omega, ?_⟩
        rw [show p.1 - i = (p.1 - (i + 1)) + 1 by omega]
        simpa using h2
    · rintro ⟨h1, h2⟩
      by_cases h : p.1 = i
      · left
        rw [h] at h2
        simp at h2
        exact Prod.ext h h2.symm
      · right
        refine ⟨by omega, ?_⟩
        rw [show p.1 - i = (p.1 - (i + 1)) + 1 by omega] at h2
        simpa using h2
theorem rangeD_map : ∀ (n : Nat) (lo : Int), rangeD lo n = (List.range n).map fun (i : Nat) => D.int (lo + (i : Int))
  | 0, _ => rfl
  | n + 1, lo => by
    rw [rangeD, rangeD_map n, List.range_succ_eq_map, List.map_cons, List.map_map]
    congr 1
    · simp
    · apply List.map_congr_left
      intro i _
      simp only [Function.comp]
      congr 1
      omega
theorem atN (xs : List D) (n : Nat) : atI xs (n : Int) = xs[n]? := by
  unfold atI ixN
  rw [if_pos (by omega)]
  by_cases h : (n : Int) < xs.length
  · rw [if_pos h]; simp
  · rw [if_neg h]; simp; omega
theorem exs_forB (Γ : List Fn) (s : S) (k : IK) (as : List T) (tg : Tg) (body ts : List St) : exs Γ (.for_ k as tg body :: ts) s = thenS ((evI Γ k as s).bind fun xs s => forGo (forBody Γ tg body) s.env xs s) (exs Γ ts) := by
  rw [exs_for]
  unfold evI
  cases evs Γ as s <;> rfl
theorem forGo_nil (body : D → S → R S Fl) (e0 : List (Option D)) (s : S) : forGo body e0 [] s = .ok .next s := rfl
theorem forGo_cons (body : D → S → R S Fl) (e0 : List (Option D)) (x : D) (xs : List D) (s : S) : forGo body e0 (x :: xs) s = (body x s).bind fun f s => match f with
    | .next => forGo body e0 xs { s with env := keepTo e0 s.env }
    | .ret d => .ok (.ret d) s := rfl
theorem forBody_eq (Γ : List Fn) (tg : Tg) (body : List St) (x : D) (s1 s2 : S) (h : setT tg x s1 = some s2) : forBody Γ tg body x s1 = exs Γ body s2 := by
  unfold forBody; rw [h]
@[simp] theorem keepTo_some' (d : D) (as : List (Option D)) (b : Option D) (bs : List (Option D)) : keepTo (some d :: as) (b :: bs) = b :: keepTo as bs := rfl
@[simp] theorem keepTo_none' (as : List (Option D)) (b : Option D) (bs : List (Option D)) : keepTo (none :: as) (b :: bs) = none :: keepTo as bs := rfl
@[simp] theorem keepTo_nil' (bs : List (Option D)) : keepTo [] bs = bs := by unfold keepTo; rfl
theorem atI_int (xs : List D) (i : Int) (h : 0 ≤ i) : atI xs i = xs[i.toNat]? := by
  have := atN xs i.toNat
  rwa [Int.toNat_of_nonneg h] at this
@[simp] theorem augR_sub (a b : Int) : augR .sub (.int a) (.int b) = some (.int (a - b)) := rfl
@[simp] theorem augR_add (a b : Int) : augR .add (.int a) (.int b) = some (.int (a + b)) := rfl
theorem flats_ints : ∀ (ns : List Int) (k : Nat), D.flats k (ns.map D.int) = true
  | [], k => by cases k <;> rfl
  | n :: ns, k => by
    show (D.flat k (.int n) && D.flats k (ns.map D.int)) = true
    rw [flats_ints ns k]
    cases k <;> rfl
theorem flat_int (i : Int) (k : Nat) : D.flat k (.int i) = true := by cases k <;> rfl
def hasI (ns : List Int) (i : Int) : Bool := ns.contains i
theorem hasI_iff {ns : List Int} {i : Int} : hasI ns i = true ↔ i ∈ ns := List.contains_iff_mem
theorem inR_ints (i : Int) (ns : List Int) : inR (.int i) (ns.map D.int) = some (hasI ns i) := by
  unfold hasI inR
  rw [flats_ints, flat_int]
  simp only [Bool.and_self, if_true]
  congr 1
  rw [List.any_map, Bool.eq_iff_iff, List.any_eq_true, List.contains_iff_mem]
  constructor
  · rintro ⟨x, hx, h⟩
    have : x = i := by simpa [D.eqv] using h
    exact this ▸ hx
  · intro h
    exact ⟨i, h, by simp [D.eqv]⟩
@[simp] theorem ite_okS {σ α : Type} {c : Prop} [Decidable c] (a b : α) (s : σ) : (if c then R.ok a s else R.ok b s) = R.ok (if c then a else b) s := by split <;> rfl
@[simp] theorem ite_blS {c : Prop} [Decidable c] (a b : Bool) : (if c then D.bl a else D.bl b) = D.bl (if c then a else b) := by split <;> rfl
@[simp] theorem ite_retS {c : Prop} [Decidable c] (a b : D) : (if c then Fl.ret a else Fl.ret b) = Fl.ret (if c then a else b) := by split <;> rfl
@[simp] theorem setT_name (i : Nat) (d : D) (s : S) : setT (.name i) d s = some (setV i d s) := rfl
@[simp] theorem setT_tup (ts : List Tg) (ds : List D) (s : S) : setT (.tup ts) (.tup ds) s = setTs ts ds s := rfl
@[simp] theorem setTs_nil (s : S) : setTs [] [] s = some s := rfl
@[simp] theorem setTs_cons (t : Tg) (ts : List Tg) (d : D) (ds : List D) (s : S) : setTs (t :: ts) (d :: ds) s = (setT t d s).bind fun s => setTs ts ds s := rfl
@[simp] theorem wipeD_nil (e : List (Option D)) : wipeD e [] = e := rfl
@[simp] theorem wipeD_cons (e : List (Option D)) (i : Nat) (is : List Nat) : wipeD e (i :: is) = (wipeD e is).set i none := rfl
@[simp] theorem evI_eq (Γ : List Fn) (k : IK) (as : List T) (s : S) : evI Γ k as s = (evs Γ as s).bind fun ds s => opt s (items k ds) := rfl
@[simp] theorem items_seqL (xs : List D) : items .seq [.lst xs] = some xs := rfl
@[simp] theorem items_seqT (xs : List D) : items .seq [.tup xs] = some xs := rfl
theorem items_rng1 (j : Int) : items .rng1 [.int j] = if small j then some (rangeD 0 j.toNat) else none := rfl
theorem items_rng2 (i j : Int) : items .rng2 [.int i, .int j] = if small i && small j then some (rangeD i (j - i).toNat) else none := rfl
@[simp] theorem items_enumL (xs : List D) : items .enum [.lst xs] = some (enumL 0 xs) := rfl
@[simp] theorem items_enumT (xs : List D) : items .enum [.tup xs] = some (enumL 0 xs) := rfl
@[simp] theorem items_zipT (xs ys : List D) : items .zip [.tup xs, .tup ys] = some (zipL xs ys) := rfl
@[simp] theorem items_zipL (xs ys : List D) : items .zip [.lst xs, .lst ys] = some (zipL xs ys) := rfl
theorem lcBody_eq (Γ : List Fn) (tg : Tg) (vs : List Nat) (ifs : List T) (e : T) (x : D) (s1 s2 : S) (h : setT tg x s1 = some s2) : lcBody Γ tg vs ifs e x s1 = (evAll Γ ifs s2).bind fun b s3 => if b then (ev Γ e s3).bind fun d s4 => .ok (some d) { s4 with env := wipeD s4.env vs } else .ok none { s3 with env := wipeD s3.env vs } := by
  unfold lcBody; rw [h]
theorem cutL_lo (xs : List D) (n : Nat) : cutL xs (some (n : Int)) none = xs.drop n := by
  unfold cutL HT.sIx
  simp only [show ¬ ((n : Int) < 0) by omega, if_false, Int.toNat_natCast]
  by_cases h : n ≤ xs.length
  · rw [Nat.min_eq_left h, List.take_of_length_le (by simp)]
  · rw [Nat.min_eq_right (by omega), List.drop_eq_nil_of_le (Nat.le_refl _), List.drop_eq_nil_of_le (by omega), List.take_nil]
theorem cutL_hi (xs : List D) (n : Nat) : cutL xs none (some (n : Int)) = xs.take n := by
  unfold cutL HT.sIx
  simp only [show ¬ ((n : Int) < 0) by omega, if_false, Int.toNat_natCast, List.drop_zero, Nat.sub_zero]
  by_cases h : n ≤ xs.length
  · rw [Nat.min_eq_left h]
  · rw [Nat.min_eq_right (by omega), List.take_of_length_le (Nat.le_refl _), List.take_of_length_le (by omega)]
theorem bls_map (f : D → Bool) : ∀ xs : List D, bls (xs.map fun x => D.bl (f x)) = some (xs.map f)
  | [] => rfl
  | x :: xs => by
    show (bls (xs.map fun x => D.bl (f x))).map _ = _
    rw [bls_map f xs]; rfl
theorem allR_map (f : D → Bool) (xs : List D) : allR (xs.map fun x => D.bl (f x)) = some (xs.all f) := by
  unfold allR
  rw [bls_map]
  simp [List.all_map]
theorem anyR_map (f : D → Bool) (xs : List D) : anyR (xs.map fun x => D.bl (f x)) = some (xs.any f) := by
  unfold anyR
  rw [bls_map]
  simp [List.any_map]
end Lb

set_option maxRecDepth 100000
set_option maxHeartbeats 1000000
/-! for the plain half: what is wanted of a run -/
namespace Lb
open PySem L2
/-- it ends well, and so -/
def wp {σ α : Type} : R σ α → (α → σ → Prop) → Prop
  | .ok a s, Q => Q a s
  | _, _ => False
section
variable {σ α β : Type}
@[simp] theorem wp_ok (a : α) (s : σ) (Q : α → σ → Prop) : wp (.ok a s) Q = Q a s := rfl
@[simp] theorem wp_exc (e : X) (s : σ) (Q : α → σ → Prop) : wp (.exc e s) Q = False := rfl
@[simp] theorem wp_fail (Q : α → σ → Prop) : wp (.fail : R σ α) Q = False := rfl
@[simp] theorem wp_bind (r : R σ α) (f : α → σ → R σ β) (Q : β → σ → Prop) : wp (r.bind f) Q = wp r fun a s => wp (f a s) Q := by cases r <;> rfl
@[simp] theorem wp_ite (c : Prop) [Decidable c] (a b : R σ α) (Q : α → σ → Prop) : wp (if c then a else b) Q = if c then wp a Q else wp b Q := by split <;> rfl
theorem wp_mono {r : R σ α} {Q Q' : α → σ → Prop} (h : wp r Q) (f : ∀ a s, Q a s → Q' a s) : wp r Q' := by
  cases r with
  | ok a s => exact f a s h
  | exc => exact h
  | fail => exact h
theorem wp_iff {r : R σ α} {Q : α → σ → Prop} : wp r Q ↔ ∃ a s, r = .ok a s ∧ Q a s := by
  cases r with
  | ok a s => exact ⟨fun h => ⟨a, s, rfl, h⟩, fun ⟨_, _, e, h⟩ => by cases e; exact h⟩
  | exc => exact ⟨fun h => h.elim, fun ⟨_, _, e, _⟩ => by cases e⟩
  | fail => exact ⟨fun h => h.elim, fun ⟨_, _, e, _⟩ => by cases e⟩
theorem wp_eq {r : R σ α} {x : α} {y : σ} (h : wp r fun a s => a = x ∧ s = y) : r = .ok x y := by
  obtain ⟨a, s, e, rfl, rfl⟩ := wp_iff.mp h
  exact e
theorem wp_of {r : R σ α} {x : α} {y : σ} {Q : α → σ → Prop} (e : r = .ok x y) (h : Q x y) : wp r Q := by rw [e]; exact h
end
/-- what a def hands back by its flow -/
def flD : Fl → D
  | .ret d => d
  | .next => .non
@[simp] theorem flD_ret (d : D) : flD (.ret d) = d := rfl
@[simp] theorem flD_next : flD .next = .non := rfl
theorem wp_run {b : FD} {Γ : List Fn} {ds : List D} {st : Sto} {Q : D → Sto → Prop} (h : ds.length = b.np) (hg : b.gc = false) : wp (runFn b Γ ds st) Q = wp (exs Γ b.body ⟨ds.map some ++ List.replicate (b.n - b.np) none, st⟩) fun f s => Q (flD f) s.st := by
  rw [runFn_eq b Γ ds st h, hg]
  show wp (runB b Γ ds st) Q = _
  unfold runB
  cases exs Γ b.body ⟨ds.map some ++ List.replicate (b.n - b.np) none, st⟩ with
  | ok f s => cases f <;> rfl
  | exc => rfl
  | fail => rfl
/-- a def whose part of the store is forgotten -/
theorem wp_runG {b : FD} {Γ : List Fn} {ds : List D} {st : Sto} {Q : D → Sto → Prop} (h : ds.length = b.np) (hg : b.gc = true) (q : wp (exs Γ b.body ⟨ds.map some ++ List.replicate (b.n - b.np) none, st⟩) fun f s => D.bel st.length (flD f) = true ∧ s.st.take st.length = st ∧ Q (flD f) st) : wp (runFn b Γ ds st) Q := by
  rw [runFn_eq b Γ ds st h, hg]
  show wp (gcR st (runB b Γ ds st)) Q
  unfold runB
  cases e : exs Γ b.body ⟨ds.map some ++ List.replicate (b.n - b.np) none, st⟩ with
  | ok f s =>
    rw [e] at q
    obtain ⟨q1, q2, q3⟩ := q
    cases f with
    | ret d =>
      show wp (if (D.bel st.length d && sameS (s.st.take st.length) st) = true then R.ok d st else .fail) Q
      rw [show D.bel st.length d = true from q1, q2, sameS_refl]
      exact q3
    | next =>
      show wp (if (D.bel st.length .non && sameS (s.st.take st.length) st) = true then R.ok D.non st else .fail) Q
      rw [show D.bel st.length .non = true from q1, q2, sameS_refl]
      exact q3
  | exc => rw [e] at q; exact q.elim
  | fail => rw [e] at q; exact q.elim
/-- the flow of a statement -/
def flK (k : S → Prop) (Q : Fl → S → Prop) : Fl → S → Prop
  | .next, s => k s
  | .ret d, s => Q (.ret d) s
@[simp] theorem flK_next (k : S → Prop) (Q : Fl → S → Prop) (s : S) : flK k Q .next s = k s := rfl
@[simp] theorem flK_ret (k : S → Prop) (Q : Fl → S → Prop) (d : D) (s : S) : flK k Q (.ret d) s = Q (.ret d) s := rfl
@[simp] theorem wp_then (r : R S Fl) (k : S → R S Fl) (Q : Fl → S → Prop) : wp (thenS r k) Q = wp r (flK (fun s => wp (k s) Q) Q) := by
  cases r with
  | ok f s => cases f <;> rfl
  | exc => rfl
  | fail => rfl
/-- a call's outcome in the caller -/
def callM (e : List (Option D)) : R Sto D → R S D
  | .ok d st => .ok d ⟨e, st⟩
  | .exc x st => .exc x ⟨e, st⟩
  | .fail => .fail
@[simp] theorem callM_ok (e : List (Option D)) (d : D) (st : Sto) : callM e (.ok d st) = .ok d ⟨e, st⟩ := rfl
@[simp] theorem callM_exc (e : List (Option D)) (x : X) (st : Sto) : callM e (.exc x st) = .exc x ⟨e, st⟩ := rfl
@[simp] theorem wp_callM (e : List (Option D)) (r : R Sto D) (Q : D → S → Prop) : wp (callM e r) Q = wp r fun d st => Q d ⟨e, st⟩ := by cases r <;> rfl
theorem wp_callF {Γ : List Fn} {k : Nat} {f : Fn} (h : Γ[k]? = some f) (ds : List D) (e : List (Option D)) (st : Sto) (Q : D → S → Prop) : wp (callF Γ k ds ⟨e, st⟩) Q = wp (f ds st) fun d st => Q d ⟨e, st⟩ := by
  rw [callF_eq, h]
  show wp (match f ds st with
    | .ok d st => R.ok d ⟨e, st⟩
    | .exc x st => .exc x ⟨e, st⟩
    | .fail => .fail) Q = _
  cases f ds st <;> rfl
theorem wp_opt {α : Type} {s : S} {o : Option α} {a : α} {Q : α → S → Prop} (h : o = some a) : wp (opt s o) Q = Q a s := by rw [h]; rfl
section
variable {body : D → S → R S Fl} {e0 : List (Option D)} {Q : Fl → S → Prop} {β : Type}
theorem wp_forAll (I : List D → S → Prop) (step : ∀ J, J = I → ∀ x r s, I (x :: r) s → wp (body x s) (flK (fun s' => J r { s' with env := keepTo e0 s'.env }) Q)) (hend : ∀ s, I [] s → Q .next s) : ∀ (xs : List D) (s : S), I xs s → wp (forGo body e0 xs s) Q
  | [], s, h => hend s h
  | x :: xs, s, h => by
    rw [forGo_cons, wp_bind]
    refine wp_mono (step I rfl x xs s h) fun f s' q => ?_
    cases f with
    | next => exact wp_forAll I step hend xs _ q
    | ret d => exact q
/-- a loop by what holds behind the part taken -/
theorem wp_forY (ys : List β) (g : β → D) (I : List β → S → Prop) {s : S} (h0 : I [] s) (step : ∀ J, J = I → ∀ pre y post s, ys = pre ++ y :: post → I pre s → wp (body (g y) s) (flK (fun s' => J (pre ++ [y]) { s' with env := keepTo e0 s'.env }) Q)) (hend : ∀ s, I ys s → Q .next s) : wp (forGo body e0 (ys.map g) s) Q := by
  suffices h : ∀ (post pre : List β) (s : S), ys = pre ++ post → I pre s → wp (forGo body e0 (post.map g) s) Q from h ys [] s rfl h0
  intro post
  induction post with
  | nil => intro pre s e h; exact hend s (by rw [e, List.append_nil]; exact h)
  | cons y post ih =>
    intro pre s e h
    rw [List.map_cons, forGo_cons, wp_bind]
    refine wp_mono (step I rfl pre y post s e h) fun f s' q => ?_
    cases f with
    | next => exact ih (pre ++ [y]) _ (by rw [e, List.append_assoc]; rfl) q
    | ret d => exact q
/-- a while by a number that falls -/
theorem wp_while {c : S → R S Bool} {body : S → R S Fl} (I : Nat → S → Prop) (step : ∀ J, J = I → ∀ k s, I k s → wp (c s) fun b s1 => if b = true then ∃ k', k = k' + 1 ∧ wp (body s1) (flK (fun s2 => J k' { s2 with env := keepTo e0 s2.env }) Q) else Q .next s1) : ∀ (k : Nat) {n : Nat} {s : S}, I k s → k < n → wp (whGo c body e0 n s) Q
  | k, 0, s, _, hk => absurd hk (Nat.not_lt_zero _)
  | k, n + 1, s, h, hk => by
    rw [whGo_succ, wp_bind]
    refine wp_mono (step I rfl k s h) fun b s1 q => ?_
    cases b with
    | false => exact q
    | true =>
      rw [if_pos rfl] at q ⊢
      obtain ⟨k', rfl, q⟩ := q
      rw [wp_bind]
      refine wp_mono q fun f s2 q => ?_
      cases f with
      | next => exact wp_while I step k' q (by omega)
      | ret d => exact q
end
theorem wp_wh {Γ : List Fn} {s : S} {c : T} {body ts : List St} {Q : Fl → S → Prop} (h : wp (whGo (evT Γ c) (exs Γ body) s.env fuel s) (flK (fun s => wp (exs Γ ts s) Q) Q)) : wp (exs Γ (.while_ c body :: ts) s) Q := by
  rw [exs_whileB, wp_then]; exact h
theorem wp_for {Γ : List Fn} {s : S} {k : IK} {as : List T} {tg : Tg} {body ts : List St} {Q : Fl → S → Prop} (h : wp (evI Γ k as s) fun xs s => wp (forGo (forBody Γ tg body) s.env xs s) (flK (fun s => wp (exs Γ ts s) Q) Q)) : wp (exs Γ (.for_ k as tg body :: ts) s) Q := by
  rw [exs_forB, wp_then, wp_bind]; exact h
theorem wp_lc {Γ : List Fn} {s : S} {k : IK} {as : List T} {tg : Tg} {vs : List Nat} {ifs : List T} {t : T} {Q : D → S → Prop} (h : wp (evI Γ k as s) fun xs s1 => wp (lcGo (lcBody Γ tg vs ifs t) xs { s1 with env := wipeD s1.env vs }) fun ds s2 => ds.length ≤ sizeLine ∧ Q (.lst ds) { s2 with env := backD s1.env s2.env vs }) : wp (ev Γ (.lc k as tg vs ifs t) s) Q := by
  rw [ev_lc', wp_bind]
  refine wp_mono h fun xs s1 h => ?_
  rw [wp_bind]
  cases e : lcGo (lcBody Γ tg vs ifs t) xs { s1 with env := wipeD s1.env vs } with
  | ok ds s2 =>
    rw [e] at h
    have hf : fits ds = true := decide_eq_true h.1
    show wp (if fits ds = true then R.ok (D.lst ds) _ else R.fail) Q
    rw [if_pos hf]
    exact h.2
  | exc => rw [e] at h; exact h.elim
  | fail => rw [e] at h; exact h.elim
section
variable {body : D → S → R S (Option D)} {Q : List D → S → Prop} {β : Type}
theorem wp_lcY (ys : List β) (g : β → D) (I : List β → List D → S → Prop) {s : S} (h0 : I [] [] s) (step : ∀ J, J = I → ∀ pre y post ds s, ys = pre ++ y :: post → I pre ds s → wp (body (g y) s) fun o s' => J (pre ++ [y]) (ds ++ o.toList) s') (hend : ∀ ds s, I ys ds s → Q ds s) : wp (lcGo body (ys.map g) s) Q := by
  suffices h : ∀ (post pre : List β) (ds : List D) (s : S), ys = pre ++ post → I pre ds s → wp (lcGo body (post.map g) s) fun es s' => Q (ds ++ es) s' by simpa using h ys [] [] s rfl h0
  intro post
  induction post with
  | nil =>
    intro pre ds s e h
    show Q (ds ++ []) s
    rw [List.append_nil]
    exact hend ds s (by rw [e, List.append_nil]; exact h)
  | cons y post ih =>
    intro pre ds s e h
    rw [List.map_cons, lcGo, wp_bind]
    refine wp_mono (step I rfl pre y post ds s e h) fun o s' q => ?_
    rw [wp_bind]
    refine wp_mono (ih (pre ++ [y]) _ _ (by rw [e, List.append_assoc]; rfl) q) fun es s2 q2 => ?_
    rw [wp_ok, ← List.append_assoc]
    exact q2
end
section
variable {Γ : List Fn} {k : IK} {as : List T} {tg : Tg} {vs : List Nat} {ifs : List T} {t : T} {env : List (Option D)} {st : Sto} {β : Type} {s : S} {Q : D → S → Prop}
/-- a comprehension that changes nothing -/
theorem wp_lcF (ys : List β) (g : β → D) (p : β → Bool) (h : β → D) (hI : wp (evI Γ k as ⟨env, st⟩) fun xs s1 => xs = ys.map g ∧ s1 = ⟨env, st⟩) (hl : ys.length ≤ 1000) (hb : ∀ y ∈ ys, wp (lcBody Γ tg vs ifs t (g y) ⟨wipeD env vs, st⟩) fun o s1 => o = (if p y then some (h y) else none) ∧ s1 = ⟨wipeD env vs, st⟩) (hQ : Q (.lst ((ys.filter p).map h)) ⟨env, st⟩) : wp (ev Γ (.lc k as tg vs ifs t) ⟨env, st⟩) Q :=
  wp_of (ev_lcF ys g p h (wp_eq hI) (fun y hy => wp_eq (hb y hy)) (Nat.le_trans hl (by decide))) hQ
theorem wp_lcM (ys : List β) (g : β → D) (h : β → D) (hI : wp (evI Γ k as ⟨env, st⟩) fun xs s1 => xs = ys.map g ∧ s1 = ⟨env, st⟩) (hl : ys.length ≤ 1000) (hb : ∀ y ∈ ys, wp (lcBody Γ tg vs ifs t (g y) ⟨wipeD env vs, st⟩) fun o s1 => o = some (h y) ∧ s1 = ⟨wipeD env vs, st⟩) (hQ : Q (.lst (ys.map h)) ⟨env, st⟩) : wp (ev Γ (.lc k as tg vs ifs t) ⟨env, st⟩) Q :=
  wp_of (ev_lcY ys g h (wp_eq hI) (fun y hy => wp_eq (hb y hy)) (Nat.le_trans hl (by decide))) hQ
end
theorem wp_lcB {Γ : List Fn} {tg : Tg} {vs : List Nat} {ifs : List T} {e : T} {x : D} {s1 s2 : S} {Q : Option D → S → Prop} (h : setT tg x s1 = some s2) (q : wp (evAll Γ ifs s2) fun b s3 => if b = true then wp (ev Γ e s3) (fun d s4 => Q (some d) { s4 with env := wipeD s4.env vs }) else Q none { s3 with env := wipeD s3.env vs }) : wp (lcBody Γ tg vs ifs e x s1) Q := by
  rw [lcBody_eq Γ tg vs ifs e x s1 s2 h, wp_bind]
  refine wp_mono q fun b s3 q => ?_
  cases b with
  | true => rw [if_pos rfl] at q ⊢; rw [wp_bind]; exact q
  | false => exact q
theorem wp_forB {Γ : List Fn} {tg : Tg} {body : List St} {x : D} {s1 s2 : S} {Q : Fl → S → Prop} (h : setT tg x s1 = some s2) (q : wp (exs Γ body s2) Q) : wp (forBody Γ tg body x s1) Q := by
  rw [forBody_eq Γ tg body x s1 s2 h]; exact q
theorem wp_app {Γ : List Fn} {i : Nat} {e : T} {ts : List St} {s : S} {Q : Fl → S → Prop} (h : (∃ xs, lstAt i s = some xs) ∧ wp (ev Γ e s) fun d s1 => ∃ xs, lstAt i s1 = some xs ∧ xs.length < sizeLine ∧ wp (exs Γ ts (setV i (.lst (xs ++ [d])) s1)) Q) : wp (exs Γ (.app i e :: ts) s) Q := by
  obtain ⟨⟨xs, h1⟩, h⟩ := h
  rw [exs_app, wp_then, wp_bind, wp_opt h1, wp_bind]
  refine wp_mono h fun d s1 ⟨ys, e1, e2, q⟩ => ?_
  rw [e1]
  show wp (if ys.length < sizeLine then _ else _) _
  rw [if_pos e2]
  exact q
/-- what comes of an expression, by a word of ours; the names stay -/
theorem wp_cut {Γ : List Fn} {t : T} {env : List (Option D)} {st : Sto} {Q : D → S → Prop} (P : D → Sto → Prop) (h : wp (ev Γ t ⟨env, st⟩) fun d s => P d s.st ∧ s.env = env) (k : ∀ d st', P d st' → Q d ⟨env, st'⟩) : wp (ev Γ t ⟨env, st⟩) Q :=
  wp_mono h fun d s q => by obtain ⟨q1, q2⟩ := q; cases s; subst q2; exact k d _ q1
theorem small_nat (n : Nat) (h : n ≤ 1000) : small (n : Int) = true := by
  unfold small
  exact Nat.ble_eq_true_of_le (by omega)
theorem items_nat (k : Nat) (h : k ≤ 1000) : items .rng1 [.int (k : Int)] = some ((List.range k).map fun (i : Nat) => D.int (i : Int)) := by
  rw [items_rng1, if_pos (small_nat _ h), Int.toNat_natCast, rangeD_map]
  simp
theorem line1000 : 1000 ≤ sizeLine := by decide
theorem le_line {α : Type} {xs : List α} (h : xs.length ≤ 1000) : xs.length ≤ sizeLine := Nat.le_trans h (by decide)
theorem lt_line {n : Nat} (h : n < 1000) : n < sizeLine := Nat.lt_of_lt_of_le h (by decide)
@[simp] theorem backD_nil (e0 e : List (Option D)) : backD e0 e [] = e := rfl
@[simp] theorem backD_cons (e0 e : List (Option D)) (i : Nat) (is : List Nat) : backD e0 e (i :: is) = match e0[i]? with
    | some o => (backD e0 e is).set i o
    | none => backD e0 e is := rfl
end Lb

set_option maxRecDepth 1000000
set_option maxHeartbeats 0
namespace Lb
open PySem PySem.Spec PyProof.Rows L2
def G_is_whole : List Fn := []
def m_is_whole : Fn := runFn b_is_whole G_is_whole
theorem r_is_whole (ds : List D) (st : Sto) (Q : D → Sto → Prop) (h : ds.length = 1) : wp (m_is_whole ds st) Q = wp (exs G_is_whole b_is_whole.body ⟨ds.map some ++ List.replicate 0 none, st⟩) fun f s => Q (flD f) s.st := wp_run h rfl
def G_is_among : List Fn := [m_is_whole]
def m_is_among : Fn := runFn b_is_among G_is_among
theorem r_is_among (ds : List D) (st : Sto) (Q : D → Sto → Prop) (h : ds.length = 3) : wp (m_is_among ds st) Q = wp (exs G_is_among b_is_among.body ⟨ds.map some ++ List.replicate 0 none, st⟩) fun f s => Q (flD f) s.st := wp_run h rfl
@[simp] theorem g_is_among_is_whole (ds : List D) (e : List (Option D)) (st : Sto) : callF G_is_among 0 ds ⟨e, st⟩ = callM e (m_is_whole ds st) := rfl
def G_is_row : List Fn := [m_is_whole, m_is_among]
def m_is_row : Fn := runFn b_is_row G_is_row
theorem r_is_row (ds : List D) (st : Sto) (Q : D → Sto → Prop) (h : ds.length = 3) : wp (m_is_row ds st) Q = wp (exs G_is_row b_is_row.body ⟨ds.map some ++ List.replicate 0 none, st⟩) fun f s => Q (flD f) s.st := wp_run h rfl
def G_are_rising : List Fn := [m_is_whole, m_is_among, m_is_row]
def m_are_rising : Fn := runFn b_are_rising G_are_rising
theorem r_are_rising (ds : List D) (st : Sto) (Q : D → Sto → Prop) (h : ds.length = 1) : wp (m_are_rising ds st) Q = wp (exs G_are_rising b_are_rising.body ⟨ds.map some ++ List.replicate 2 none, st⟩) fun f s => Q (flD f) s.st := wp_run h rfl
def G_is_road_row : List Fn := [m_is_whole, m_is_among, m_is_row, m_are_rising]
def m_is_road_row : Fn := runFn b_is_road_row G_is_road_row
theorem r_is_road_row (ds : List D) (st : Sto) (Q : D → Sto → Prop) (h : ds.length = 2) : wp (m_is_road_row ds st) Q = wp (exs G_is_road_row b_is_road_row.body ⟨ds.map some ++ List.replicate 1 none, st⟩) fun f s => Q (flD f) s.st := wp_run h rfl
@[simp] theorem g_is_road_row_is_among (ds : List D) (e : List (Option D)) (st : Sto) : callF G_is_road_row 1 ds ⟨e, st⟩ = callM e (m_is_among ds st) := rfl
@[simp] theorem g_is_road_row_is_row (ds : List D) (e : List (Option D)) (st : Sto) : callF G_is_road_row 2 ds ⟨e, st⟩ = callM e (m_is_row ds st) := rfl
def G_is_turn : List Fn := [m_is_whole, m_is_among, m_is_row, m_are_rising, m_is_road_row]
def m_is_turn : Fn := runFn b_is_turn G_is_turn
theorem r_is_turn (ds : List D) (st : Sto) (Q : D → Sto → Prop) (h : ds.length = 2) : wp (m_is_turn ds st) Q = wp (exs G_is_turn b_is_turn.body ⟨ds.map some ++ List.replicate 1 none, st⟩) fun f s => Q (flD f) s.st := wp_run h rfl
@[simp] theorem g_is_turn_is_whole (ds : List D) (e : List (Option D)) (st : Sto) : callF G_is_turn 0 ds ⟨e, st⟩ = callM e (m_is_whole ds st) := rfl
@[simp] theorem g_is_turn_is_among (ds : List D) (e : List (Option D)) (st : Sto) : callF G_is_turn 1 ds ⟨e, st⟩ = callM e (m_is_among ds st) := rfl
@[simp] theorem g_is_turn_is_row (ds : List D) (e : List (Option D)) (st : Sto) : callF G_is_turn 2 ds ⟨e, st⟩ = callM e (m_is_row ds st) := rfl
@[simp] theorem g_is_turn_are_rising (ds : List D) (e : List (Option D)) (st : Sto) : callF G_is_turn 3 ds ⟨e, st⟩ = callM e (m_are_rising ds st) := rfl
def G_are_lights : List Fn := [m_is_whole, m_is_among, m_is_row, m_are_rising, m_is_road_row, m_is_turn]
def m_are_lights : Fn := runFn b_are_lights G_are_lights
theorem r_are_lights (ds : List D) (st : Sto) (Q : D → Sto → Prop) (h : ds.length = 3) : wp (m_are_lights ds st) Q = wp (exs G_are_lights b_are_lights.body ⟨ds.map some ++ List.replicate 3 none, st⟩) fun f s => Q (flD f) s.st := wp_run h rfl
@[simp] theorem g_are_lights_is_among (ds : List D) (e : List (Option D)) (st : Sto) : callF G_are_lights 1 ds ⟨e, st⟩ = callM e (m_is_among ds st) := rfl
@[simp] theorem g_are_lights_is_row (ds : List D) (e : List (Option D)) (st : Sto) : callF G_are_lights 2 ds ⟨e, st⟩ = callM e (m_is_row ds st) := rfl
@[simp] theorem g_are_lights_is_turn (ds : List D) (e : List (Option D)) (st : Sto) : callF G_are_lights 5 ds ⟨e, st⟩ = callM e (m_is_turn ds st) := rfl
def G_ends_at : List Fn := [m_is_whole, m_is_among, m_is_row, m_are_rising, m_is_road_row, m_is_turn, m_are_lights]
def m_ends_at : Fn := runFn b_ends_at G_ends_at
theorem r_ends_at (ds : List D) (st : Sto) (Q : D → Sto → Prop) (h : ds.length = 2) : wp (m_ends_at ds st) Q = wp (exs G_ends_at b_ends_at.body ⟨ds.map some ++ List.replicate 4 none, st⟩) fun f s => Q (flD f) s.st := wp_run h rfl
def G_is_town : List Fn := [m_is_whole, m_is_among, m_is_row, m_are_rising, m_is_road_row, m_is_turn, m_are_lights, m_ends_at]
def m_is_town : Fn := runFn b_is_town G_is_town
theorem r_is_town (ds : List D) (st : Sto) (Q : D → Sto → Prop) (h : ds.length = 1) : wp (m_is_town ds st) Q = wp (exs G_is_town b_is_town.body ⟨ds.map some ++ List.replicate 7 none, st⟩) fun f s => Q (flD f) s.st := wp_run h rfl
@[simp] theorem g_is_town_is_among (ds : List D) (e : List (Option D)) (st : Sto) : callF G_is_town 1 ds ⟨e, st⟩ = callM e (m_is_among ds st) := rfl
@[simp] theorem g_is_town_is_row (ds : List D) (e : List (Option D)) (st : Sto) : callF G_is_town 2 ds ⟨e, st⟩ = callM e (m_is_row ds st) := rfl
@[simp] theorem g_is_town_is_road_row (ds : List D) (e : List (Option D)) (st : Sto) : callF G_is_town 4 ds ⟨e, st⟩ = callM e (m_is_road_row ds st) := rfl
@[simp] theorem g_is_town_are_lights (ds : List D) (e : List (Option D)) (st : Sto) : callF G_is_town 6 ds ⟨e, st⟩ = callM e (m_are_lights ds st) := rfl
@[simp] theorem g_is_town_ends_at (ds : List D) (e : List (Option D)) (st : Sto) : callF G_is_town 7 ds ⟨e, st⟩ = callM e (m_ends_at ds st) := rfl
def G_need_town : List Fn := [m_is_whole, m_is_among, m_is_row, m_are_rising, m_is_road_row, m_is_turn, m_are_lights, m_ends_at, m_is_town]
def m_need_town : Fn := runFn b_need_town G_need_town
theorem r_need_town (ds : List D) (st : Sto) (Q : D → Sto → Prop) (h : ds.length = 1) : wp (m_need_town ds st) Q = wp (exs G_need_town b_need_town.body ⟨ds.map some ++ List.replicate 0 none, st⟩) fun f s => Q (flD f) s.st := wp_run h rfl
@[simp] theorem g_need_town_is_town (ds : List D) (e : List (Option D)) (st : Sto) : callF G_need_town 8 ds ⟨e, st⟩ = callM e (m_is_town ds st) := rfl
def G_is_road : List Fn := [m_is_whole, m_is_among, m_is_row, m_are_rising, m_is_road_row, m_is_turn, m_are_lights, m_ends_at, m_is_town, m_need_town]
def m_is_road : Fn := runFn b_is_road G_is_road
theorem r_is_road (ds : List D) (st : Sto) (Q : D → Sto → Prop) (h : ds.length = 2) : wp (m_is_road ds st) Q = wp (exs G_is_road b_is_road.body ⟨ds.map some ++ List.replicate 0 none, st⟩) fun f s => Q (flD f) s.st := wp_run h rfl
@[simp] theorem g_is_road_is_among (ds : List D) (e : List (Option D)) (st : Sto) : callF G_is_road 1 ds ⟨e, st⟩ = callM e (m_is_among ds st) := rfl
def G_need_road : List Fn := [m_is_whole, m_is_among, m_is_row, m_are_rising, m_is_road_row, m_is_turn, m_are_lights, m_ends_at, m_is_town, m_need_town, m_is_road]
def m_need_road : Fn := runFn b_need_road G_need_road
theorem r_need_road (ds : List D) (st : Sto) (Q : D → Sto → Prop) (h : ds.length = 2) : wp (m_need_road ds st) Q = wp (exs G_need_road b_need_road.body ⟨ds.map some ++ List.replicate 0 none, st⟩) fun f s => Q (flD f) s.st := wp_run h rfl
@[simp] theorem g_need_road_is_road (ds : List D) (e : List (Option D)) (st : Sto) : callF G_need_road 10 ds ⟨e, st⟩ = callM e (m_is_road ds st) := rfl
def G_turn_at : List Fn := [m_is_whole, m_is_among, m_is_row, m_are_rising, m_is_road_row, m_is_turn, m_are_lights, m_ends_at, m_is_town, m_need_town, m_is_road, m_need_road]
def m_turn_at : Fn := runFn b_turn_at G_turn_at
theorem r_turn_at (ds : List D) (st : Sto) (Q : D → Sto → Prop) (h : ds.length = 3) : wp (m_turn_at ds st) Q = wp (exs G_turn_at b_turn_at.body ⟨ds.map some ++ List.replicate 5 none, st⟩) fun f s => Q (flD f) s.st := wp_run h rfl
def G_green_by : List Fn := [m_is_whole, m_is_among, m_is_row, m_are_rising, m_is_road_row, m_is_turn, m_are_lights, m_ends_at, m_is_town, m_need_town, m_is_road, m_need_road, m_turn_at]
def m_green_by : Fn := runFn b_green_by G_green_by
theorem r_green_by (ds : List D) (st : Sto) (Q : D → Sto → Prop) (h : ds.length = 3) : wp (m_green_by ds st) Q = wp (exs G_green_by b_green_by.body ⟨ds.map some ++ List.replicate 1 none, st⟩) fun f s => Q (flD f) s.st := wp_run h rfl
@[simp] theorem g_green_by_turn_at (ds : List D) (e : List (Option D)) (st : Sto) : callF G_green_by 12 ds ⟨e, st⟩ = callM e (m_turn_at ds st) := rfl
def G_is_green : List Fn := [m_is_whole, m_is_among, m_is_row, m_are_rising, m_is_road_row, m_is_turn, m_are_lights, m_ends_at, m_is_town, m_need_town, m_is_road, m_need_road, m_turn_at, m_green_by]
def m_is_green : Fn := runFn b_is_green G_is_green
theorem r_is_green (ds : List D) (st : Sto) (Q : D → Sto → Prop) (h : ds.length = 3) : wp (m_is_green ds st) Q = wp (exs G_is_green b_is_green.body ⟨ds.map some ++ List.replicate 0 none, st⟩) fun f s => Q (flD f) s.st := wp_run h rfl
@[simp] theorem g_is_green_is_whole (ds : List D) (e : List (Option D)) (st : Sto) : callF G_is_green 0 ds ⟨e, st⟩ = callM e (m_is_whole ds st) := rfl
@[simp] theorem g_is_green_need_town (ds : List D) (e : List (Option D)) (st : Sto) : callF G_is_green 9 ds ⟨e, st⟩ = callM e (m_need_town ds st) := rfl
@[simp] theorem g_is_green_need_road (ds : List D) (e : List (Option D)) (st : Sto) : callF G_is_green 11 ds ⟨e, st⟩ = callM e (m_need_road ds st) := rfl
@[simp] theorem g_is_green_green_by (ds : List D) (e : List (Option D)) (st : Sto) : callF G_is_green 13 ds ⟨e, st⟩ = callM e (m_green_by ds st) := rfl
def G_never_by : List Fn := [m_is_whole, m_is_among, m_is_row, m_are_rising, m_is_road_row, m_is_turn, m_are_lights, m_ends_at, m_is_town, m_need_town, m_is_road, m_need_road, m_turn_at, m_green_by, m_is_green]
def m_never_by : Fn := runFn b_never_by G_never_by
theorem r_never_by (ds : List D) (st : Sto) (Q : D → Sto → Prop) (h : ds.length = 1) : wp (m_never_by ds st) Q = wp (exs G_never_by b_never_by.body ⟨ds.map some ++ List.replicate 5 none, st⟩) fun f s => Q (flD f) s.st := wp_run h rfl
def G_never_green : List Fn := [m_is_whole, m_is_among, m_is_row, m_are_rising, m_is_road_row, m_is_turn, m_are_lights, m_ends_at, m_is_town, m_need_town, m_is_road, m_need_road, m_turn_at, m_green_by, m_is_green, m_never_by]
def m_never_green : Fn := runFn b_never_green G_never_green
theorem r_never_green (ds : List D) (st : Sto) (Q : D → Sto → Prop) (h : ds.length = 1) : wp (m_never_green ds st) Q = wp (exs G_never_green b_never_green.body ⟨ds.map some ++ List.replicate 0 none, st⟩) fun f s => Q (flD f) s.st := wp_run h rfl
@[simp] theorem g_never_green_need_town (ds : List D) (e : List (Option D)) (st : Sto) : callF G_never_green 9 ds ⟨e, st⟩ = callM e (m_need_town ds st) := rfl
@[simp] theorem g_never_green_never_by (ds : List D) (e : List (Option D)) (st : Sto) : callF G_never_green 15 ds ⟨e, st⟩ = callM e (m_never_by ds st) := rfl
def G_l_cell_at : List Fn := [m_is_whole, m_is_among, m_is_row, m_are_rising, m_is_road_row, m_is_turn, m_are_lights, m_ends_at, m_is_town, m_need_town, m_is_road, m_need_road, m_turn_at, m_green_by, m_is_green, m_never_by, m_never_green]
def m_l_cell_at : Fn := runFn b_l_cell_at G_l_cell_at
theorem r_l_cell_at (ds : List D) (st : Sto) (Q : D → Sto → Prop) (h : ds.length = 2) : wp (m_l_cell_at ds st) Q = wp (exs G_l_cell_at b_l_cell_at.body ⟨ds.map some ++ List.replicate 0 none, st⟩) fun f s => Q (flD f) s.st := wp_run h rfl
def G_l_pen : List Fn := [m_is_whole, m_is_among, m_is_row, m_are_rising, m_is_road_row, m_is_turn, m_are_lights, m_ends_at, m_is_town, m_need_town, m_is_road, m_need_road, m_turn_at, m_green_by, m_is_green, m_never_by, m_never_green, m_l_cell_at]
def m_l_pen : Fn := runFn b_l_pen G_l_pen
theorem r_l_pen (ds : List D) (st : Sto) (Q : D → Sto → Prop) (h : ds.length = 1) : wp (m_l_pen ds st) Q = wp (exs G_l_pen b_l_pen.body ⟨ds.map some ++ List.replicate 0 none, st⟩) fun f s => Q (flD f) s.st := wp_run h rfl
def G_l_draw : List Fn := [m_is_whole, m_is_among, m_is_row, m_are_rising, m_is_road_row, m_is_turn, m_are_lights, m_ends_at, m_is_town, m_need_town, m_is_road, m_need_road, m_turn_at, m_green_by, m_is_green, m_never_by, m_never_green, m_l_cell_at, m_l_pen]
def m_l_draw : Fn := runFn b_l_draw G_l_draw
theorem r_l_draw (ds : List D) (st : Sto) (Q : D → Sto → Prop) (h : ds.length = 2) : wp (m_l_draw ds st) Q = wp (exs G_l_draw b_l_draw.body ⟨ds.map some ++ List.replicate 2 none, st⟩) fun f s => Q (flD f) s.st := wp_run h rfl
def G_l_lights : List Fn := [m_is_whole, m_is_among, m_is_row, m_are_rising, m_is_road_row, m_is_turn, m_are_lights, m_ends_at, m_is_town, m_need_town, m_is_road, m_need_road, m_turn_at, m_green_by, m_is_green, m_never_by, m_never_green, m_l_cell_at, m_l_pen, m_l_draw]
def m_l_lights : Fn := runFn b_l_lights G_l_lights
theorem r_l_lights (ds : List D) (st : Sto) (Q : D → Sto → Prop) (h : ds.length = 4) : wp (m_l_lights ds st) Q = wp (exs G_l_lights b_l_lights.body ⟨ds.map some ++ List.replicate 7 none, st⟩) fun f s => Q (flD f) s.st := wp_run h rfl
@[simp] theorem g_l_lights_l_draw (ds : List D) (e : List (Option D)) (st : Sto) : callF G_l_lights 19 ds ⟨e, st⟩ = callM e (m_l_draw ds st) := rfl
def G_l_town : List Fn := [m_is_whole, m_is_among, m_is_row, m_are_rising, m_is_road_row, m_is_turn, m_are_lights, m_ends_at, m_is_town, m_need_town, m_is_road, m_need_road, m_turn_at, m_green_by, m_is_green, m_never_by, m_never_green, m_l_cell_at, m_l_pen, m_l_draw, m_l_lights]
def m_l_town : Fn := runFn b_l_town G_l_town
theorem r_l_town (ds : List D) (st : Sto) (Q : D → Sto → Prop) (h : ds.length = 1) : wp (m_l_town ds st) Q = wp (exs G_l_town b_l_town.body ⟨ds.map some ++ List.replicate 8 none, st⟩) fun f s => Q (flD f) s.st := wp_run h rfl
@[simp] theorem g_l_town_l_draw (ds : List D) (e : List (Option D)) (st : Sto) : callF G_l_town 19 ds ⟨e, st⟩ = callM e (m_l_draw ds st) := rfl
@[simp] theorem g_l_town_l_lights (ds : List D) (e : List (Option D)) (st : Sto) : callF G_l_town 20 ds ⟨e, st⟩ = callM e (m_l_lights ds st) := rfl
def G_l_shifted : List Fn := [m_is_whole, m_is_among, m_is_row, m_are_rising, m_is_road_row, m_is_turn, m_are_lights, m_ends_at, m_is_town, m_need_town, m_is_road, m_need_road, m_turn_at, m_green_by, m_is_green, m_never_by, m_never_green, m_l_cell_at, m_l_pen, m_l_draw, m_l_lights, m_l_town]
def m_l_shifted : Fn := runFn b_l_shifted G_l_shifted
theorem r_l_shifted (ds : List D) (st : Sto) (Q : D → Sto → Prop) (h : ds.length = 2) : wp (m_l_shifted ds st) Q = wp (exs G_l_shifted b_l_shifted.body ⟨ds.map some ++ List.replicate 2 none, st⟩) fun f s => Q (flD f) s.st := wp_run h rfl
def G_l_turned : List Fn := [m_is_whole, m_is_among, m_is_row, m_are_rising, m_is_road_row, m_is_turn, m_are_lights, m_ends_at, m_is_town, m_need_town, m_is_road, m_need_road, m_turn_at, m_green_by, m_is_green, m_never_by, m_never_green, m_l_cell_at, m_l_pen, m_l_draw, m_l_lights, m_l_town, m_l_shifted]
def m_l_turned : Fn := runFn b_l_turned G_l_turned
theorem r_l_turned (ds : List D) (st : Sto) (Q : D → Sto → Prop) (h : ds.length = 1) : wp (m_l_turned ds st) Q = wp (exs G_l_turned b_l_turned.body ⟨ds.map some ++ List.replicate 2 none, st⟩) fun f s => Q (flD f) s.st := wp_run h rfl
def G_l_green_row : List Fn := [m_is_whole, m_is_among, m_is_row, m_are_rising, m_is_road_row, m_is_turn, m_are_lights, m_ends_at, m_is_town, m_need_town, m_is_road, m_need_road, m_turn_at, m_green_by, m_is_green, m_never_by, m_never_green, m_l_cell_at, m_l_pen, m_l_draw, m_l_lights, m_l_town, m_l_shifted, m_l_turned]
def m_l_green_row : Fn := runFn b_l_green_row G_l_green_row
theorem r_l_green_row (ds : List D) (st : Sto) (Q : D → Sto → Prop) (h : ds.length = 3) : wp (m_l_green_row ds st) Q = wp (exs G_l_green_row b_l_green_row.body ⟨ds.map some ++ List.replicate 1 none, st⟩) fun f s => Q (flD f) s.st := wp_run h rfl
@[simp] theorem g_l_green_row_is_green (ds : List D) (e : List (Option D)) (st : Sto) : callF G_l_green_row 14 ds ⟨e, st⟩ = callM e (m_is_green ds st) := rfl
def G_l_right : List Fn := [m_is_whole, m_is_among, m_is_row, m_are_rising, m_is_road_row, m_is_turn, m_are_lights, m_ends_at, m_is_town, m_need_town, m_is_road, m_need_road, m_turn_at, m_green_by, m_is_green, m_never_by, m_never_green, m_l_cell_at, m_l_pen, m_l_draw, m_l_lights, m_l_town, m_l_shifted, m_l_turned, m_l_green_row]
def m_l_right : Fn := runFn b_l_right G_l_right
theorem r_l_right (ds : List D) (st : Sto) (Q : D → Sto → Prop) (h : ds.length = 4) : wp (m_l_right ds st) Q = wp (exs G_l_right b_l_right.body ⟨ds.map some ++ List.replicate 5 none, st⟩) fun f s => Q (flD f) s.st := wp_run h rfl
@[simp] theorem g_l_right_never_green (ds : List D) (e : List (Option D)) (st : Sto) : callF G_l_right 16 ds ⟨e, st⟩ = callM e (m_never_green ds st) := rfl
@[simp] theorem g_l_right_l_shifted (ds : List D) (e : List (Option D)) (st : Sto) : callF G_l_right 22 ds ⟨e, st⟩ = callM e (m_l_shifted ds st) := rfl
@[simp] theorem g_l_right_l_turned (ds : List D) (e : List (Option D)) (st : Sto) : callF G_l_right 23 ds ⟨e, st⟩ = callM e (m_l_turned ds st) := rfl
@[simp] theorem g_l_right_l_green_row (ds : List D) (e : List (Option D)) (st : Sto) : callF G_l_right 24 ds ⟨e, st⟩ = callM e (m_l_green_row ds st) := rfl
def G_law : List Fn := [m_is_whole, m_is_among, m_is_row, m_are_rising, m_is_road_row, m_is_turn, m_are_lights, m_ends_at, m_is_town, m_need_town, m_is_road, m_need_road, m_turn_at, m_green_by, m_is_green, m_never_by, m_never_green, m_l_cell_at, m_l_pen, m_l_draw, m_l_lights, m_l_town, m_l_shifted, m_l_turned, m_l_green_row, m_l_right]
def m_law : Fn := runFn b_law G_law
theorem r_law (ds : List D) (st : Sto) (Q : D → Sto → Prop) (h : ds.length = 1) : wp (m_law ds st) Q = wp (exs G_law b_law.body ⟨ds.map some ++ List.replicate 8 none, st⟩) fun f s => Q (flD f) s.st := wp_run h rfl
@[simp] theorem g_law_never_green (ds : List D) (e : List (Option D)) (st : Sto) : callF G_law 16 ds ⟨e, st⟩ = callM e (m_never_green ds st) := rfl
@[simp] theorem g_law_l_cell_at (ds : List D) (e : List (Option D)) (st : Sto) : callF G_law 17 ds ⟨e, st⟩ = callM e (m_l_cell_at ds st) := rfl
@[simp] theorem g_law_l_pen (ds : List D) (e : List (Option D)) (st : Sto) : callF G_law 18 ds ⟨e, st⟩ = callM e (m_l_pen ds st) := rfl
@[simp] theorem g_law_l_draw (ds : List D) (e : List (Option D)) (st : Sto) : callF G_law 19 ds ⟨e, st⟩ = callM e (m_l_draw ds st) := rfl
@[simp] theorem g_law_l_town (ds : List D) (e : List (Option D)) (st : Sto) : callF G_law 21 ds ⟨e, st⟩ = callM e (m_l_town ds st) := rfl
@[simp] theorem g_law_l_turned (ds : List D) (e : List (Option D)) (st : Sto) : callF G_law 23 ds ⟨e, st⟩ = callM e (m_l_turned ds st) := rfl
@[simp] theorem g_law_l_right (ds : List D) (e : List (Option D)) (st : Sto) : callF G_law 25 ds ⟨e, st⟩ = callM e (m_l_right ds st) := rfl
def MM : List Fn := [m_is_whole, m_is_among, m_is_row, m_are_rising, m_is_road_row, m_is_turn, m_are_lights, m_ends_at, m_is_town, m_need_town, m_is_road, m_need_road, m_turn_at, m_green_by, m_is_green, m_never_by, m_never_green, m_l_cell_at, m_l_pen, m_l_draw, m_l_lights, m_l_town, m_l_shifted, m_l_turned, m_l_green_row, m_l_right, m_law]
def G0 : List (Str × GK) := [(("isinstance" : Str), GK.blt), (("int" : Str), GK.blt), (("bool" : Str), GK.blt), (("tuple" : Str), GK.blt), (("list" : Str), GK.blt), (("len" : Str), GK.blt), (("max" : Str), GK.blt), (("min" : Str), GK.blt), (("sum" : Str), GK.blt), (("all" : Str), GK.blt), (("any" : Str), GK.blt), (("range" : Str), GK.blt), (("enumerate" : Str), GK.blt), (("zip" : Str), GK.blt), (("MOST_CROSSINGS" : Str), GK.cst (.cn (.int 6))), (("MOST_ROUND" : Str), GK.cst (.cn (.int 12))), (("MOST_ROADS" : Str), GK.cst (.cn (.int 10))), (("MOST_LONG" : Str), GK.cst (.cn (.int 5))), (("MOST_ROWS" : Str), GK.cst (.cn (.int 4))), (("NoTown" : Str), GK.exc), (("NoRoad" : Str), GK.exc), (("NoBeat" : Str), GK.exc)]
theorem k_is_whole : LOk G0 LL MM L_is_whole 0 := ⟨⟨rfl, rfl, rfl, by decide +kernel, rfl, by decide +kernel, by decide +kernel⟩, rfl, rfl, rfl, by unfold bodyIs; kernel_rfl, bindNone rfl fun K fd F => FunD.bindsN F fun _ _ _ _ _ _ us hl => match us, hl with | [_], _ => rfl, fun K fd F => kwN⟩
theorem k_is_among : LOk G0 LL MM L_is_among 1 := ⟨⟨rfl, rfl, rfl, by decide +kernel, rfl, by decide +kernel, by decide +kernel⟩, rfl, rfl, rfl, by unfold bodyIs; kernel_rfl, bindNone rfl fun K fd F => FunD.bindsN F fun _ _ _ _ _ _ us hl => match us, hl with | [_, _, _], _ => rfl, fun K fd F => kwN⟩
theorem k_is_row : LOk G0 LL MM L_is_row 2 := ⟨⟨rfl, rfl, rfl, by decide +kernel, rfl, by decide +kernel, by decide +kernel⟩, rfl, rfl, rfl, by unfold bodyIs; kernel_rfl, bindNone rfl fun K fd F => FunD.bindsN F fun _ _ _ _ _ _ us hl => match us, hl with | [_, _, _], _ => rfl, fun K fd F => kwN⟩
theorem k_are_rising : LOk G0 LL MM L_are_rising 3 := ⟨⟨rfl, rfl, rfl, by decide +kernel, rfl, by decide +kernel, by decide +kernel⟩, rfl, rfl, rfl, by unfold bodyIs; kernel_rfl, bindNone rfl fun K fd F => FunD.bindsN F fun _ _ _ _ _ _ us hl => match us, hl with | [_], _ => rfl, fun K fd F => kwN⟩
theorem k_is_road_row : LOk G0 LL MM L_is_road_row 4 := ⟨⟨rfl, rfl, rfl, by decide +kernel, rfl, by decide +kernel, by decide +kernel⟩, rfl, rfl, rfl, by unfold bodyIs; kernel_rfl, bindNone rfl fun K fd F => FunD.bindsN F fun _ _ _ _ _ _ us hl => match us, hl with | [_, _], _ => rfl, fun K fd F => kwN⟩
theorem k_is_turn : LOk G0 LL MM L_is_turn 5 := ⟨⟨rfl, rfl, rfl, by decide +kernel, rfl, by decide +kernel, by decide +kernel⟩, rfl, rfl, rfl, by unfold bodyIs; kernel_rfl, bindNone rfl fun K fd F => FunD.bindsN F fun _ _ _ _ _ _ us hl => match us, hl with | [_, _], _ => rfl, fun K fd F => kwN⟩
theorem k_are_lights : LOk G0 LL MM L_are_lights 6 := ⟨⟨rfl, rfl, rfl, by decide +kernel, rfl, by decide +kernel, by decide +kernel⟩, rfl, rfl, rfl, by unfold bodyIs; kernel_rfl, bindNone rfl fun K fd F => FunD.bindsN F fun _ _ _ _ _ _ us hl => match us, hl with | [_, _, _], _ => rfl, fun K fd F => kwN⟩
theorem k_ends_at : LOk G0 LL MM L_ends_at 7 := ⟨⟨rfl, rfl, rfl, by decide +kernel, rfl, by decide +kernel, by decide +kernel⟩, rfl, rfl, rfl, by unfold bodyIs; kernel_rfl, bindNone rfl fun K fd F => FunD.bindsN F fun _ _ _ _ _ _ us hl => match us, hl with | [_, _], _ => rfl, fun K fd F => kwN⟩
theorem k_is_town : LOk G0 LL MM L_is_town 8 := ⟨⟨rfl, rfl, rfl, by decide +kernel, rfl, by decide +kernel, by decide +kernel⟩, rfl, rfl, rfl, by unfold bodyIs; kernel_rfl, bindNone rfl fun K fd F => FunD.bindsN F fun _ _ _ _ _ _ us hl => match us, hl with | [_], _ => rfl, fun K fd F => kwN⟩
theorem k_need_town : LOk G0 LL MM L_need_town 9 := ⟨⟨rfl, rfl, rfl, by decide +kernel, rfl, by decide +kernel, by decide +kernel⟩, rfl, rfl, rfl, by unfold bodyIs; kernel_rfl, bindNone rfl fun K fd F => FunD.bindsN F fun _ _ _ _ _ _ us hl => match us, hl with | [_], _ => rfl, fun K fd F => kwN⟩
theorem k_is_road : LOk G0 LL MM L_is_road 10 := ⟨⟨rfl, rfl, rfl, by decide +kernel, rfl, by decide +kernel, by decide +kernel⟩, rfl, rfl, rfl, by unfold bodyIs; kernel_rfl, bindNone rfl fun K fd F => FunD.bindsN F fun _ _ _ _ _ _ us hl => match us, hl with | [_, _], _ => rfl, fun K fd F => kwN⟩
theorem k_need_road : LOk G0 LL MM L_need_road 11 := ⟨⟨rfl, rfl, rfl, by decide +kernel, rfl, by decide +kernel, by decide +kernel⟩, rfl, rfl, rfl, by unfold bodyIs; kernel_rfl, bindNone rfl fun K fd F => FunD.bindsN F fun _ _ _ _ _ _ us hl => match us, hl with | [_, _], _ => rfl, fun K fd F => kwN⟩
theorem k_turn_at : LOk G0 LL MM L_turn_at 12 := ⟨⟨rfl, rfl, rfl, by decide +kernel, rfl, by decide +kernel, by decide +kernel⟩, rfl, rfl, rfl, by unfold bodyIs; kernel_rfl, bindNone rfl fun K fd F => FunD.bindsN F fun _ _ _ _ _ _ us hl => match us, hl with | [_, _, _], _ => rfl, fun K fd F => kwN⟩
theorem k_green_by : LOk G0 LL MM L_green_by 13 := ⟨⟨rfl, rfl, rfl, by decide +kernel, rfl, by decide +kernel, by decide +kernel⟩, rfl, rfl, rfl, by unfold bodyIs; kernel_rfl, bindNone rfl fun K fd F => FunD.bindsN F fun _ _ _ _ _ _ us hl => match us, hl with | [_, _, _], _ => rfl, fun K fd F => kwN⟩
theorem k_is_green : LOk G0 LL MM L_is_green 14 := ⟨⟨rfl, rfl, rfl, by decide +kernel, rfl, by decide +kernel, by decide +kernel⟩, rfl, rfl, rfl, by unfold bodyIs; kernel_rfl, bindNone rfl fun K fd F => FunD.bindsN F fun _ _ _ _ _ _ us hl => match us, hl with | [_, _, _], _ => rfl, fun K fd F => kwN⟩
theorem k_never_by : LOk G0 LL MM L_never_by 15 := ⟨⟨rfl, rfl, rfl, by decide +kernel, rfl, by decide +kernel, by decide +kernel⟩, rfl, rfl, rfl, by unfold bodyIs; kernel_rfl, bindNone rfl fun K fd F => FunD.bindsN F fun _ _ _ _ _ _ us hl => match us, hl with | [_], _ => rfl, fun K fd F => kwN⟩
theorem k_never_green : LOk G0 LL MM L_never_green 16 := ⟨⟨rfl, rfl, rfl, by decide +kernel, rfl, by decide +kernel, by decide +kernel⟩, rfl, rfl, rfl, by unfold bodyIs; kernel_rfl, bindNone rfl fun K fd F => FunD.bindsN F fun _ _ _ _ _ _ us hl => match us, hl with | [_], _ => rfl, fun K fd F => kwN⟩
theorem k_l_cell_at : LOk G0 LL MM L_l_cell_at 17 := ⟨⟨rfl, rfl, rfl, by decide +kernel, rfl, by decide +kernel, by decide +kernel⟩, rfl, rfl, rfl, by unfold bodyIs; kernel_rfl, bindNone rfl fun K fd F => FunD.bindsN F fun _ _ _ _ _ _ us hl => match us, hl with | [_, _], _ => rfl, fun K fd F => kwN⟩
theorem k_l_pen : LOk G0 LL MM L_l_pen 18 := ⟨⟨rfl, rfl, rfl, by decide +kernel, rfl, by decide +kernel, by decide +kernel⟩, rfl, rfl, rfl, by unfold bodyIs; kernel_rfl, bindNone rfl fun K fd F => FunD.bindsN F fun _ _ _ _ _ _ us hl => match us, hl with | [_], _ => rfl, fun K fd F => kwN⟩
theorem k_l_draw : LOk G0 LL MM L_l_draw 19 := ⟨⟨rfl, rfl, rfl, by decide +kernel, rfl, by decide +kernel, by decide +kernel⟩, rfl, rfl, rfl, by unfold bodyIs; kernel_rfl, bindNone rfl fun K fd F => FunD.bindsN F fun _ _ _ _ _ _ us hl => match us, hl with | [_, _], _ => rfl, fun K fd F => kwN⟩
theorem k_l_lights : LOk G0 LL MM L_l_lights 20 := ⟨⟨rfl, rfl, rfl, by decide +kernel, rfl, by decide +kernel, by decide +kernel⟩, rfl, rfl, rfl, by unfold bodyIs; kernel_rfl, bindNone rfl fun K fd F => FunD.bindsN F fun _ _ _ _ _ _ us hl => match us, hl with | [_, _, _, _], _ => rfl, fun K fd F => kwN⟩
theorem k_l_town : LOk G0 LL MM L_l_town 21 := ⟨⟨rfl, rfl, rfl, by decide +kernel, rfl, by decide +kernel, by decide +kernel⟩, rfl, rfl, rfl, by unfold bodyIs; kernel_rfl, bindNone rfl fun K fd F => FunD.bindsN F fun _ _ _ _ _ _ us hl => match us, hl with | [_], _ => rfl, fun K fd F => kwN⟩
theorem k_l_shifted : LOk G0 LL MM L_l_shifted 22 := ⟨⟨rfl, rfl, rfl, by decide +kernel, rfl, by decide +kernel, by decide +kernel⟩, rfl, rfl, rfl, by unfold bodyIs; kernel_rfl, bindNone rfl fun K fd F => FunD.bindsN F fun _ _ _ _ _ _ us hl => match us, hl with | [_, _], _ => rfl, fun K fd F => kwN⟩
theorem k_l_turned : LOk G0 LL MM L_l_turned 23 := ⟨⟨rfl, rfl, rfl, by decide +kernel, rfl, by decide +kernel, by decide +kernel⟩, rfl, rfl, rfl, by unfold bodyIs; kernel_rfl, bindNone rfl fun K fd F => FunD.bindsN F fun _ _ _ _ _ _ us hl => match us, hl with | [_], _ => rfl, fun K fd F => kwN⟩
theorem k_l_green_row : LOk G0 LL MM L_l_green_row 24 := ⟨⟨rfl, rfl, rfl, by decide +kernel, rfl, by decide +kernel, by decide +kernel⟩, rfl, rfl, rfl, by unfold bodyIs; kernel_rfl, bindNone rfl fun K fd F => FunD.bindsN F fun _ _ _ _ _ _ us hl => match us, hl with | [_, _, _], _ => rfl, fun K fd F => kwN⟩
theorem k_l_right : LOk G0 LL MM L_l_right 25 := ⟨⟨rfl, rfl, rfl, by decide +kernel, rfl, by decide +kernel, by decide +kernel⟩, rfl, rfl, rfl, by unfold bodyIs; kernel_rfl, bindNone rfl fun K fd F => FunD.bindsN F fun _ _ _ _ _ _ us hl => match us, hl with | [_, _, _, _], _ => rfl, fun K fd F => kwN⟩
theorem k_law : LOk G0 LL MM L_law 26 := ⟨⟨rfl, rfl, rfl, by decide +kernel, rfl, by decide +kernel, by decide +kernel⟩, rfl, rfl, rfl, by unfold bodyIs; kernel_rfl, bindNone rfl fun K fd F => FunD.bindsN F fun _ _ _ _ _ _ us hl => match us, hl with | [_], _ => rfl, fun K fd F => kwN⟩
theorem okAll : ∀ (i : Nat) (l : LD), LL[i]? = some l → LOk G0 LL MM l i := fun i l h => match i, h with
  | 0, h => Option.some.inj h ▸ k_is_whole
  | 1, h => Option.some.inj h ▸ k_is_among
  | 2, h => Option.some.inj h ▸ k_is_row
  | 3, h => Option.some.inj h ▸ k_are_rising
  | 4, h => Option.some.inj h ▸ k_is_road_row
  | 5, h => Option.some.inj h ▸ k_is_turn
  | 6, h => Option.some.inj h ▸ k_are_lights
  | 7, h => Option.some.inj h ▸ k_ends_at
  | 8, h => Option.some.inj h ▸ k_is_town
  | 9, h => Option.some.inj h ▸ k_need_town
  | 10, h => Option.some.inj h ▸ k_is_road
  | 11, h => Option.some.inj h ▸ k_need_road
  | 12, h => Option.some.inj h ▸ k_turn_at
  | 13, h => Option.some.inj h ▸ k_green_by
  | 14, h => Option.some.inj h ▸ k_is_green
  | 15, h => Option.some.inj h ▸ k_never_by
  | 16, h => Option.some.inj h ▸ k_never_green
  | 17, h => Option.some.inj h ▸ k_l_cell_at
  | 18, h => Option.some.inj h ▸ k_l_pen
  | 19, h => Option.some.inj h ▸ k_l_draw
  | 20, h => Option.some.inj h ▸ k_l_lights
  | 21, h => Option.some.inj h ▸ k_l_town
  | 22, h => Option.some.inj h ▸ k_l_shifted
  | 23, h => Option.some.inj h ▸ k_l_turned
  | 24, h => Option.some.inj h ▸ k_l_green_row
  | 25, h => Option.some.inj h ▸ k_l_right
  | 26, h => Option.some.inj h ▸ k_law
  | (n + 27), h => nomatch (show (none : Option LD) = some l from h)
theorem mo {K : PySem.W.Frag} {h : Heap} {mg : Str → Option Value} (X : K.In h) (G : h.Ns mainGlobals mg) (c : He.SaysD fa fn K) (hx : (LL.all fun l => l.ex K) = true) : Mo K mg G0 LL where
  g0 := fun x g hx => by
    simp only [G0, List.mem_cons, Prod.mk.injEq, List.not_mem_nil, or_false] at hx
    rcases hx with ⟨rfl, rfl⟩ | ⟨rfl, rfl⟩ | ⟨rfl, rfl⟩ | ⟨rfl, rfl⟩ | ⟨rfl, rfl⟩ | ⟨rfl, rfl⟩ | ⟨rfl, rfl⟩ | ⟨rfl, rfl⟩ | ⟨rfl, rfl⟩ | ⟨rfl, rfl⟩ | ⟨rfl, rfl⟩ | ⟨rfl, rfl⟩ | ⟨rfl, rfl⟩ | ⟨rfl, rfl⟩ | ⟨rfl, rfl⟩ | ⟨rfl, rfl⟩ | ⟨rfl, rfl⟩ | ⟨rfl, rfl⟩ | ⟨rfl, rfl⟩ | ⟨rfl, rfl⟩ | ⟨rfl, rfl⟩ | ⟨rfl, rfl⟩
    · exact fun P w base kk Γ => He.free_ok X G (c.fact 27 rfl)
    · exact fun P w base kk Γ => He.free_ok X G (c.fact 28 rfl)
    · exact fun P w base kk Γ => He.free_ok X G (c.fact 29 rfl)
    · exact fun P w base kk Γ => He.free_ok X G (c.fact 30 rfl)
    · exact fun P w base kk Γ => He.free_ok X G (c.fact 31 rfl)
    · exact fun P w base kk Γ => He.free_ok X G (c.fact 32 rfl)
    · exact fun P w base kk Γ => He.free_ok X G (c.fact 33 rfl)
    · exact fun P w base kk Γ => He.free_ok X G (c.fact 34 rfl)
    · exact fun P w base kk Γ => He.free_ok X G (c.fact 35 rfl)
    · exact fun P w base kk Γ => He.free_ok X G (c.fact 36 rfl)
    · exact fun P w base kk Γ => He.free_ok X G (c.fact 37 rfl)
    · exact fun P w base kk Γ => He.free_ok X G (c.fact 38 rfl)
    · exact fun P w base kk Γ => He.free_ok X G (c.fact 39 rfl)
    · exact fun P w base kk Γ => He.free_ok X G (c.fact 40 rfl)
    · exact g_int (He.int_ok X G (c.fact 41 rfl))
    · exact g_int (He.int_ok X G (c.fact 42 rfl))
    · exact g_int (He.int_ok X G (c.fact 43 rfl))
    · exact g_int (He.int_ok X G (c.fact 44 rfl))
    · exact g_int (He.int_ok X G (c.fact 45 rfl))
    · exact g_exc (He.glo_ok X G (c.fact 46 rfl)) (He.exc_ok (c.fact 47 rfl))
    · exact g_exc (He.glo_ok X G (c.fact 48 rfl)) (He.exc_ok (c.fact 49 rfl))
    · exact g_exc (He.glo_ok X G (c.fact 50 rfl)) (He.exc_ok (c.fact 51 rfl))
  fn := fun i l hl => c.def_ i (d := l.d) (by show (LL.map LD.d)[i]? = _; rw [List.getElem?_map, hl]; rfl)
  gl := fun i l h => match i, h with
    | 0, h => Option.some.inj h ▸ He.glo_ok X G (c.fact 0 rfl)
    | 1, h => Option.some.inj h ▸ He.glo_ok X G (c.fact 1 rfl)
    | 2, h => Option.some.inj h ▸ He.glo_ok X G (c.fact 2 rfl)
    | 3, h => Option.some.inj h ▸ He.glo_ok X G (c.fact 3 rfl)
    | 4, h => Option.some.inj h ▸ He.glo_ok X G (c.fact 4 rfl)
    | 5, h => Option.some.inj h ▸ He.glo_ok X G (c.fact 5 rfl)
    | 6, h => Option.some.inj h ▸ He.glo_ok X G (c.fact 6 rfl)
    | 7, h => Option.some.inj h ▸ He.glo_ok X G (c.fact 7 rfl)
    | 8, h => Option.some.inj h ▸ He.glo_ok X G (c.fact 8 rfl)
    | 9, h => Option.some.inj h ▸ He.glo_ok X G (c.fact 9 rfl)
    | 10, h => Option.some.inj h ▸ He.glo_ok X G (c.fact 10 rfl)
    | 11, h => Option.some.inj h ▸ He.glo_ok X G (c.fact 11 rfl)
    | 12, h => Option.some.inj h ▸ He.glo_ok X G (c.fact 12 rfl)
    | 13, h => Option.some.inj h ▸ He.glo_ok X G (c.fact 13 rfl)
    | 14, h => Option.some.inj h ▸ He.glo_ok X G (c.fact 14 rfl)
    | 15, h => Option.some.inj h ▸ He.glo_ok X G (c.fact 15 rfl)
    | 16, h => Option.some.inj h ▸ He.glo_ok X G (c.fact 16 rfl)
    | 17, h => Option.some.inj h ▸ He.glo_ok X G (c.fact 17 rfl)
    | 18, h => Option.some.inj h ▸ He.glo_ok X G (c.fact 18 rfl)
    | 19, h => Option.some.inj h ▸ He.glo_ok X G (c.fact 19 rfl)
    | 20, h => Option.some.inj h ▸ He.glo_ok X G (c.fact 20 rfl)
    | 21, h => Option.some.inj h ▸ He.glo_ok X G (c.fact 21 rfl)
    | 22, h => Option.some.inj h ▸ He.glo_ok X G (c.fact 22 rfl)
    | 23, h => Option.some.inj h ▸ He.glo_ok X G (c.fact 23 rfl)
    | 24, h => Option.some.inj h ▸ He.glo_ok X G (c.fact 24 rfl)
    | 25, h => Option.some.inj h ▸ He.glo_ok X G (c.fact 25 rfl)
    | 26, h => Option.some.inj h ▸ He.glo_ok X G (c.fact 26 rfl)
    | (n + 27), h => nomatch (show (none : Option LD) = some l from h)
  ex := fun i l h => List.all_eq_true.mp hx l (List.mem_of_getElem? h)
theorem facts (hlaw : ∀ ns : List Int, ns.length ≤ 63 → ∃ st', m_law [.lst (ns.map D.int)] [] = .ok (.bl true) st') {P : Program} {w : World} {K : PySem.W.Frag} {h : Heap} {mg : Str → Option Value} {f : Addr} (X : K.In h) (G : h.Ns mainGlobals mg) (hfa : mg ("law" : Str) = some (.ref f)) (c : SaysL fa fn exK K) :
    ∃ (fd : FuncData) (sp : Sp), (∀ (s : Shared) (v : Value), BindsTo s fd ⟨[v], []⟩ [("_law_script", v)]) ∧ (∀ (H : Hp) (a : Addr) (ns : List Int), ns.length ≤ 63 → SqL K H a (ns.map V.int) → sp [.ref a] H (fun v _ => v = .bl true) fun _ _ _ => False) ∧ ∀ base : Heap, FnOk P w K mg base CX0 27 f fd ["_law_script"] sp := by
  have M := mo X G c.d c.n.2
  have e := hfa.symm.trans (M.gl 26 L_law rfl)
  cases e
  obtain ⟨fd, F⟩ := M.fn 26 L_law rfl
  have b := FunD.bindsA (ps := ["_law_script"]) F fun _ _ _ _ _ _ us hl => match us, hl with | [_], _ => rfl
  refine ⟨fd, fun vs H Q _ => spD K mg 1 m_law vs H Q (fun _ _ _ => False), fun s v => b s [v] rfl, fun H a ns hl hS => law_sp (mg := mg) (F := m_law) c.n.1 (Nat.le_trans hl (by decide)) hS (hlaw ns hl), fun base => ?_⟩
  obtain ⟨fd', F', ok⟩ := all_fn (P := P) (w := w) (base := base) M okAll 26 L_law rfl rfl (gdB rfl)
  have e2 : fd' = fd := fd_eq F' F
  subst e2
  exact law_fn ok
end Lb

set_option maxRecDepth 100000
set_option maxHeartbeats 1000000
namespace Lb
open PySem L2
theorem eqvs_map {β : Type} [DecidableEq β] (f : β → D) (h : ∀ x y, D.eqv (f x) (f y) = decide (x = y)) : ∀ xs ys : List β, D.eqvs (xs.map f) (ys.map f) = decide (xs = ys)
  | [], [] => rfl
  | [], _ :: _ => rfl
  | _ :: _, [] => rfl
  | x :: xs, y :: ys => by
    show (D.eqv (f x) (f y) && D.eqvs (xs.map f) (ys.map f)) = _
    rw [h, eqvs_map f h xs ys]
    by_cases e : x = y <;> simp [e]
theorem flats_map {β : Type} (f : β → D) {k : Nat} : ∀ xs : List β, (∀ x ∈ xs, D.flat k (f x) = true) → D.flats k (xs.map f) = true
  | [], _ => by cases k <;> rfl
  | x :: xs, h => by
    have e : D.flats k ((x :: xs).map f) = (D.flat k (f x) && D.flats k (xs.map f)) := by cases k <;> rfl
    rw [e, h x List.mem_cons_self, flats_map f xs fun y hy => h y (List.mem_cons_of_mem _ hy)]; rfl
theorem eqR_lst {β : Type} [DecidableEq β] (f : β → D) (h : ∀ x y, D.eqv (f x) (f y) = decide (x = y)) (hf : ∀ x, D.flat 59 (f x) = true) (xs ys : List β) : eqR (.lst (xs.map f)) (.lst (ys.map f)) = some (decide (xs = ys)) := by
  have e1 : ∀ zs : List β, D.flat 60 (.lst (zs.map f)) = true := fun zs => flats_map f zs fun x _ => hf x
  show (if (D.flat 60 (.lst (xs.map f)) && D.flat 60 (.lst (ys.map f))) = true then some (D.eqvs (xs.map f) (ys.map f)) else none) = _
  rw [e1, e1, eqvs_map f h]; rfl
theorem eqR_tup {β : Type} [DecidableEq β] (f : β → D) (h : ∀ x y, D.eqv (f x) (f y) = decide (x = y)) (hf : ∀ x, D.flat 59 (f x) = true) (xs ys : List β) : eqR (.tup (xs.map f)) (.tup (ys.map f)) = some (decide (xs = ys)) := by
  have e1 : ∀ zs : List β, D.flat 60 (.tup (zs.map f)) = true := fun zs => flats_map f zs fun x _ => hf x
  show (if (D.flat 60 (.tup (xs.map f)) && D.flat 60 (.tup (ys.map f))) = true then some (D.eqvs (xs.map f) (ys.map f)) else none) = _
  rw [e1, e1, eqvs_map f h]; rfl
theorem eqv_bl (x y : Bool) : D.eqv (.bl x) (.bl y) = decide (x = y) := by cases x <;> cases y <;> rfl
theorem eqv_int (x y : Int) : D.eqv (.int x) (.int y) = decide (x = y) := by
  show (x == y) = _
  by_cases h : x = y <;> simp [h]
theorem eqR_bls (xs ys : List Bool) : eqR (.lst (xs.map D.bl)) (.lst (ys.map D.bl)) = some (decide (xs = ys)) := eqR_lst D.bl eqv_bl (fun _ => rfl) xs ys
theorem eqR_ints (xs ys : List Int) : eqR (.tup (xs.map D.int)) (.tup (ys.map D.int)) = some (decide (xs = ys)) := eqR_tup D.int eqv_int (fun _ => rfl) xs ys
theorem cnt_bls (st : Sto) (xs : List Bool) : prim st .cnt [.lst (xs.map D.bl), .bl true] = some (.int (xs.countP id : Nat)) := by
  have e : D.flats 60 (xs.map D.bl) = true := flats_map D.bl xs fun _ _ => rfl
  rw [prim_cnt]
  rw [show D.flat 60 (.bl true) = true from rfl, e]
  simp [List.countP_map]
  congr 1
  apply List.countP_congr
  intro b _
  cases b <;> simp [D.eqv]
theorem items_int {i : Int} (h0 : 0 ≤ i) (h : i ≤ 1000) : items .rng1 [.int i] = some ((List.range i.toNat).map fun (k : Nat) => D.int (k : Int)) := by
  have := items_nat i.toNat (by omega)
  rwa [Int.toNat_of_nonneg h0] at this
end Lb

set_option maxRecDepth 100000
set_option maxHeartbeats 1000000
/-! for the plain half: dicts -/
namespace Lb
open PySem L2
theorem wp_dput {Γ : List Fn} {i : Nat} {k e : T} {ts : List St} {s : S} {Q : Fl → S → Prop} (h : wp (ev Γ e s) fun d s1 => (∃ kvs, dicAt false i s1 = some kvs) ∧ wp (ev Γ k s1) fun x s2 => ∃ kvs, dicAt false i s2 = some kvs ∧ keyB x = true ∧ kvs.length < sizeLine ∧ wp (exs Γ ts (setV i (.dic false (dput kvs x d)) s2)) Q) : wp (exs Γ (.dput i k e :: ts) s) Q := by
  rw [exs_dput, wp_then, wp_bind]
  refine wp_mono h fun d s1 ⟨⟨kvs, h1⟩, h⟩ => ?_
  rw [wp_bind, wp_opt h1, wp_bind]
  refine wp_mono h fun x s2 ⟨ks, e1, e2, e3, q⟩ => ?_
  rw [e1]
  show wp (if keyB x = true ∧ ks.length < sizeLine then _ else _) _
  rw [if_pos ⟨e2, e3⟩]
  exact q
theorem wp_dputT {Γ : List Fn} {i : Nat} {k : List T} {e : T} {ts : List St} {s : S} {Q : Fl → S → Prop} (h : wp (ev Γ e s) fun d s1 => (∃ kvs, dicAt true i s1 = some kvs) ∧ wp (evs Γ k s1) fun xs s2 => ∃ kvs, dicAt true i s2 = some kvs ∧ xs.all keyB = true ∧ kvs.length < sizeLine ∧ xs.length ≤ 1000 ∧ wp (exs Γ ts (setV i (.dic true (dput kvs (.tup xs) d)) s2)) Q) : wp (exs Γ (.dputT i k e :: ts) s) Q := by
  rw [exs_dputT, wp_then, wp_bind]
  refine wp_mono h fun d s1 ⟨⟨kvs, h1⟩, h⟩ => ?_
  rw [wp_bind, wp_opt h1, wp_bind]
  refine wp_mono h fun x s2 ⟨ks, e1, e2, e3, e4, q⟩ => ?_
  rw [e1]
  show wp (if x.all keyB = true ∧ ks.length < sizeLine ∧ x.length ≤ 1000 then _ else _) _
  rw [if_pos ⟨e2, e3, e4⟩]
  exact q
@[simp] theorem dicAt_eq (u : Bool) (i : Nat) (e : List (Option D)) (st : Sto) : dicAt u i ⟨e, st⟩ = match e[i]? with
  | some (some (.dic v kvs)) => if v = u then some kvs else none
  | _ => none := rfl
@[simp] theorem keyB_int (i : Int) : keyB (.int i) = true := rfl
@[simp] theorem keyB_str (i : Str) : keyB (.str i) = true := rfl
/-! keys of one kind -/
theorem dget_map {β : Type} (f : β → D) (v : β → D) (h : ∀ x y, D.eqv (f x) (f y) = true ↔ x = y) {l : List β} {x : β} (hx : x ∈ l) (hv : ∀ y ∈ l, x = y → v y = v x) : dget (l.map fun y => (f y, v y)) (f x) = some (v x) := by
  unfold dget
  induction l with
  | nil => cases hx
  | cons y l ih =>
    rw [List.map_cons, List.find?_cons]
    by_cases e : y = x
    · subst e
      have : D.eqv (f y) (f y) = true := (h y y).mpr rfl
      simp [this]
    · have : D.eqv (f y) (f x) = false := by
        rw [← Bool.not_eq_true]; exact fun z => e ((h y x).mp z)
      simp only [this]
      rcases List.mem_cons.mp hx with q | q
      · exact absurd q.symm e
      · exact ih q fun z hz => hv z (List.mem_cons_of_mem _ hz)
theorem dget_map_none {β γ : Type} (f : β → D) (g : γ → D) (v : γ → D) {l : List γ} {x : β} (hx : ∀ y ∈ l, D.eqv (g y) (f x) = false) : dget (l.map fun y => (g y, v y)) (f x) = none := by
  unfold dget
  rw [Option.map_eq_none_iff, List.find?_eq_none]
  intro p hp
  obtain ⟨y, hy, rfl⟩ := List.mem_map.mp hp
  simp [hx y hy]
theorem dput_new {kvs : List (D × D)} {k v : D} (h : ∀ p ∈ kvs, D.eqv p.1 k = false) : dput kvs k v = kvs ++ [(k, v)] := by
  unfold dput
  rw [if_neg]
  intro q
  obtain ⟨p, hp, e⟩ := List.any_eq_true.mp q
  rw [h p hp] at e
  cases e
theorem eqv_nat (x y : Nat) : D.eqv (.int (x : Int)) (.int (y : Int)) = true ↔ x = y := by
  rw [eqv_int, decide_eq_true_eq]; omega
theorem eqv_nat_f {x y : Nat} (h : x ≠ y) : D.eqv (.int (x : Int)) (.int (y : Int)) = false := by
  rw [eqv_int, decide_eq_false_iff_not]; omega
/-- a dict of numbers -/
def natD (l : List Nat) (v : Nat → D) : List (D × D) := l.map fun (k : Nat) => (.int (k : Int), v k)
theorem dget_natD {l : List Nat} {v : Nat → D} (k : Nat) : dget (natD l v) (.int (k : Int)) = if k ∈ l then some (v k) else none := by
  by_cases h : k ∈ l
  · rw [if_pos h]
    exact dget_map (fun k : Nat => D.int (k : Int)) v (fun x y => eqv_nat x y) h fun y _ e => by rw [e]
  · rw [if_neg h]
    exact dget_map_none (fun k : Nat => D.int (k : Int)) (fun k : Nat => D.int (k : Int)) v fun y hy => eqv_nat_f fun e => h (e ▸ hy)
theorem dput_natD {l : List Nat} {v : Nat → D} {k : Nat} (h : k ∉ l) : dput (natD l v) (.int (k : Int)) (v k) = natD (l ++ [k]) v := by
  rw [dput_new]
  · unfold natD; simp
  · intro p hp
    obtain ⟨y, hy, rfl⟩ := List.mem_map.mp hp
    exact eqv_nat_f fun e => h (e ▸ hy)
theorem dput_natD_in {l : List Nat} {v : Nat → D} {k : Nat} (h : k ∈ l) : dput (natD l v) (.int (k : Int)) (v k) = natD l v := by
  unfold dput natD
  rw [if_pos]
  · rw [List.map_map]
    apply List.map_congr_left
    intro y hy
    simp only [Function.comp]
    by_cases e : y = k
    · subst e; simp [eqv_int]
    · rw [if_neg (by rw [eqv_nat]; exact e)]
  · rw [List.any_eq_true]
    exact ⟨_, List.mem_map.mpr ⟨k, h, rfl⟩, by simp [eqv_int]⟩
/-! groups -/
/-- keys in the order of their first sight -/
def gkeys : List (Nat × D) → List Nat
  | l => l.foldl (fun acc p => if p.1 ∈ acc then acc else acc ++ [p.1]) []
theorem gkeys_snoc (l : List (Nat × D)) (x : Nat) (d : D) : gkeys (l ++ [(x, d)]) = if x ∈ gkeys l then gkeys l else gkeys l ++ [x] := by
  unfold gkeys; rw [List.foldl_append]; rfl
def gof (l : List (Nat × D)) (x : Nat) : List D := (l.filter fun p => decide (p.1 = x)).map (·.2)
theorem gof_snoc (l : List (Nat × D)) (x y : Nat) (d : D) : gof (l ++ [(x, d)]) y = if x = y then gof l y ++ [d] else gof l y := by
  unfold gof
  rw [List.filter_append, List.map_append]
  by_cases h : x = y <;> simp [h]
def snocRec {β : Type} {P : List β → Prop} (h0 : P []) (h1 : ∀ l x, P l → P (l ++ [x])) (l : List β) : P l := by
  rw [← List.reverse_reverse l]
  induction l.reverse with
  | nil => exact h0
  | cons x r ih => rw [List.reverse_cons]; exact h1 _ _ ih
theorem gkeys_mem {l : List (Nat × D)} {x : Nat} : x ∈ gkeys l ↔ ∃ d, (x, d) ∈ l := by
  refine snocRec (P := fun l => x ∈ gkeys l ↔ ∃ d, (x, d) ∈ l) (by simp [gkeys]) (fun l p ih => ?_) l
  obtain ⟨y, e⟩ := p
  rw [gkeys_snoc]
  constructor
  · intro h
    by_cases hy : y ∈ gkeys l
    · rw [if_pos hy] at h
      obtain ⟨d, hd⟩ := ih.mp h
      exact ⟨d, List.mem_append_left _ hd⟩
    · rw [if_neg hy] at h
      rcases List.mem_append.mp h with q | q
      · obtain ⟨d, hd⟩ := ih.mp q
        exact ⟨d, List.mem_append_left _ hd⟩
      · rw [List.mem_singleton.mp q]
        exact ⟨e, by simp⟩
  · rintro ⟨d, hd⟩
    rcases List.mem_append.mp hd with q | q
    · have := ih.mpr ⟨d, q⟩
      split
      · exact this
      · exact List.mem_append_left _ this
    · have e1 : x = y := by simpa using (congrArg Prod.fst (List.mem_singleton.mp q))
      subst e1
      split
      · assumption
      · simp
theorem gkeys_nodup (l : List (Nat × D)) : (gkeys l).Nodup := by
  refine snocRec (P := fun l => (gkeys l).Nodup) (by simp [gkeys]) (fun l p ih => ?_) l
  obtain ⟨y, e⟩ := p
  rw [gkeys_snoc]
  split
  · exact ih
  · rename_i h
    rw [List.nodup_append]
    refine ⟨ih, by simp, fun a ha b hb => ?_⟩
    rw [List.mem_singleton.mp hb]
    exact fun z => h (z ▸ ha)
theorem gkeys_len (l : List (Nat × D)) : (gkeys l).length ≤ l.length := by
  refine snocRec (P := fun l => (gkeys l).length ≤ l.length) (by simp [gkeys]) (fun l p ih => ?_) l
  obtain ⟨y, e⟩ := p
  rw [gkeys_snoc]
  split <;> simp <;> omega
theorem gof_len (l : List (Nat × D)) (x : Nat) : (gof l x).length ≤ l.length := by
  unfold gof; rw [List.length_map]; exact List.length_filter_le _ _
/-- the groups' dict, behind n things of the store -/
def gdicF (n : Nat) : Nat → List Nat → List (D × D)
  | _, [] => []
  | i, x :: r => (.int (x : Int), .ref (n + i)) :: gdicF n (i + 1) r
theorem gdicF_snoc (n : Nat) : ∀ (l : List Nat) (i x : Nat), gdicF n i (l ++ [x]) = gdicF n i l ++ [(.int (x : Int), .ref (n + (i + l.length)))]
  | [], i, x => by simp [gdicF]
  | y :: l, i, x => by
    rw [List.cons_append, gdicF, gdicF_snoc n l (i + 1) x, gdicF]
    simp
    omega
theorem gdicF_len (n : Nat) : ∀ (l : List Nat) (i : Nat), (gdicF n i l).length = l.length
  | [], i => rfl
  | y :: l, i => by rw [gdicF, List.length_cons, gdicF_len n l, List.length_cons]
theorem gdicF_get (n : Nat) : ∀ (l : List Nat) (i x : Nat), x ∈ l → ∃ j, l[j]? = some x ∧ dget (gdicF n i l) (.int (x : Int)) = some (.ref (n + (i + j)))
  | y :: l, i, x, h => by
    by_cases e : y = x
    · subst e
      exact ⟨0, rfl, by simp [dget, gdicF, eqv_int]⟩
    · have hx : x ∈ l := by
        rcases List.mem_cons.mp h with q | q
        · exact absurd q.symm e
        · exact q
      obtain ⟨j, h1, h2⟩ := gdicF_get n l (i + 1) x hx
      refine ⟨j + 1, by simpa using h1, ?_⟩
      have h3 : dget (gdicF n i (y :: l)) (.int (x : Int)) = dget (gdicF n (i + 1) l) (.int (x : Int)) := by
        unfold dget gdicF
        rw [List.find?_cons]
        have : D.eqv (.int (y : Int)) (.int (x : Int)) = false := eqv_nat_f e
        simp only [this]
        cases l <;> rfl
      rw [h3, h2]
      congr 2
      omega
theorem gdicF_keys (n : Nat) : ∀ (l : List Nat) (i : Nat) (p : D × D), p ∈ gdicF n i l → ∃ x ∈ l, p.1 = .int (x : Int)
  | y :: l, i, p, h => by
    rw [gdicF] at h
    rcases List.mem_cons.mp h with q | q
    · exact ⟨y, by simp, by rw [q]⟩
    · obtain ⟨x, hx, e⟩ := gdicF_keys n l (i + 1) p q
      exact ⟨x, by simp [hx], e⟩
theorem gdicF_none (n : Nat) (l : List Nat) (i x : Nat) (h : x ∉ l) : dget (gdicF n i l) (.int (x : Int)) = none := by
  unfold dget
  rw [Option.map_eq_none_iff, List.find?_eq_none]
  intro p hp
  obtain ⟨y, hy, e⟩ := gdicF_keys n l i p hp
  rw [e, eqv_int]
  simp only [decide_eq_true_eq]
  exact fun z => h ((show y = x by omega) ▸ hy)
def gdic (n : Nat) (l : List (Nat × D)) : List (D × D) := gdicF n 0 (gkeys l)
def gsto (st : Sto) (l : List (Nat × D)) : Sto := st ++ (gkeys l).map (gof l)
theorem exs_sdapp (Γ : List Fn) (s : S) (i : Nat) (k e : T) (ts : List St) : exs Γ (.sdapp i k e :: ts) s = thenS ((opt s (dicAt false i s)).bind fun _ s => (ev Γ k s).bind fun x s => match dicAt false i s with
      | some kvs => if keyB x = true ∧ kvs.length < sizeLine then (match dget kvs x with
        | some v => sdEnd v (ev Γ e s)
        | none => sdEnd (.ref s.st.length) (ev Γ e ⟨s.env.set i (some (.dic false (dput kvs x (.ref s.st.length)))), s.st ++ [[]]⟩)) else .fail
      | none => .fail) (exs Γ ts) := rfl
theorem gsto_in {st : Sto} {l : List (Nat × D)} {x : Nat} {d : D} {j : Nat} (h : (gkeys l)[j]? = some x) : (gsto st l)[st.length + j]? = some (gof l x) ∧ (gsto st l).set (st.length + j) (gof l x ++ [d]) = gsto st (l ++ [(x, d)]) := by
  have hx : x ∈ gkeys l := List.mem_of_getElem? h
  have hj : j < (gkeys l).length := (List.getElem?_eq_some_iff.mp h).1
  constructor
  · unfold gsto
    rw [List.getElem?_append_right (by omega)]
    simp [h]
  · unfold gsto
    rw [gkeys_snoc, if_pos hx, List.set_append_right _ _ (by omega)]
    congr 1
    apply List.ext_getElem?
    intro m
    rw [List.getElem?_set, List.getElem?_map, List.getElem?_map]
    simp only [Nat.add_sub_cancel_left, List.length_map]
    by_cases e : j = m
    · subst e
      rw [if_pos rfl, if_pos hj, h]
      simp [gof_snoc]
    · rw [if_neg e]
      cases q : (gkeys l)[m]? with
      | none => rfl
      | some y =>
        have : x ≠ y := by
          intro z
          subst z
          have nd := gkeys_nodup l
          obtain ⟨hm, q'⟩ := List.getElem?_eq_some_iff.mp q
          obtain ⟨hj', h'⟩ := List.getElem?_eq_some_iff.mp h
          exact e ((List.getElem_inj nd).mp (h'.trans q'.symm))
        simp [gof_snoc, this]
theorem gof_none {l : List (Nat × D)} {x : Nat} (h : x ∉ gkeys l) : gof l x = [] := by
  unfold gof
  rw [List.map_eq_nil_iff, List.filter_eq_nil_iff]
  intro p hp
  simp
  intro e
  exact h (gkeys_mem.mpr ⟨p.2, e ▸ hp⟩)
theorem gsto_new {st : Sto} {l : List (Nat × D)} {x : Nat} {d : D} (h : x ∉ gkeys l) : (gsto st l ++ [[]]).set (gsto st l).length [d] = gsto st (l ++ [(x, d)]) := by
  rw [List.set_append_right _ _ (by omega), Nat.sub_self]
  unfold gsto
  rw [gkeys_snoc, if_neg h, List.map_append, List.append_assoc]
  congr 1
  congr 1
  · apply List.map_congr_left
    intro y hy
    rw [gof_snoc, if_neg (fun z : x = y => h (z ▸ hy))]
  · simp [gof_snoc, gof_none h]
theorem gsto_len (st : Sto) (l : List (Nat × D)) : (gsto st l).length = st.length + (gkeys l).length := by simp [gsto]
theorem gsto_nil (st : Sto) : gsto st [] = st := by simp [gsto, gkeys]
theorem gdic_nil (n : Nat) : gdic n [] = [] := rfl
theorem wp_sdapp {Γ : List Fn} {i : Nat} {k e : T} {ts : List St} {env : List (Option D)} {st : Sto} {l : List (Nat × D)} {Q : Fl → S → Prop} (x : Nat) (d : D)
    (hi : env[i]? = some (some (.dic false (gdic st.length l)))) (hk : ev Γ k ⟨env, gsto st l⟩ = .ok (.int (x : Int)) ⟨env, gsto st l⟩) (he : ∀ env' st', (∀ j, j ≠ i → env'[j]? = env[j]?) → ev Γ e ⟨env', st'⟩ = .ok d ⟨env', st'⟩) (hl : l.length < 1000)
    (q : wp (exs Γ ts ⟨env.set i (some (.dic false (gdic st.length (l ++ [(x, d)])))), gsto st (l ++ [(x, d)])⟩) Q) : wp (exs Γ (.sdapp i k e :: ts) ⟨env, gsto st l⟩) Q := by
  have hd : dicAt false i ⟨env, gsto st l⟩ = some (gdic st.length l) := by
    unfold dicAt; rw [hi]; rfl
  have hil : i < env.length := (List.getElem?_eq_some_iff.mp hi).1
  rw [exs_sdapp, wp_then, wp_bind, wp_opt hd, wp_bind, hk, wp_ok, hd]
  have hz : (gdic st.length l).length < sizeLine := by
    unfold gdic; rw [gdicF_len]; exact lt_line (Nat.lt_of_le_of_lt (gkeys_len l) hl)
  show wp (if keyB (.int (x : Int)) = true ∧ (gdic st.length l).length < sizeLine then _ else _) _
  rw [if_pos ⟨rfl, hz⟩]
  by_cases hx : x ∈ gkeys l
  · obtain ⟨j, h1, h2⟩ := gdicF_get st.length (gkeys l) 0 x hx
    rw [show dget (gdic st.length l) (.int (x : Int)) = some (.ref (st.length + j)) by unfold gdic; rw [h2, Nat.zero_add]]
    show wp ((ev Γ e ⟨env, gsto st l⟩).bind fun d s => _) _
    rw [he env _ fun _ _ => rfl, R.bind_ok]
    show wp (match (gsto st l)[st.length + j]? with
      | some xs => if xs.length < sizeLine then R.ok Fl.next _ else .fail
      | none => .fail) _
    rw [(gsto_in (d := d) h1).1]
    show wp (if (gof l x).length < sizeLine then _ else _) _
    rw [if_pos (lt_line (Nat.lt_of_le_of_lt (gof_len l x) hl)), wp_ok, flK_next, (gsto_in h1).2]
    have e2 : env.set i (some (.dic false (gdic st.length (l ++ [(x, d)])))) = env := by
      rw [show gdic st.length (l ++ [(x, d)]) = gdic st.length l by unfold gdic; rw [gkeys_snoc, if_pos hx]]
      apply List.ext_getElem?
      intro m
      rw [List.getElem?_set]
      by_cases em : i = m
      · subst em; rw [if_pos rfl, if_pos hil, hi]
      · rw [if_neg em]
    rw [e2] at q
    exact q
  · rw [show dget (gdic st.length l) (.int (x : Int)) = none from gdicF_none st.length (gkeys l) 0 x hx]
    show wp ((ev Γ e ⟨env.set i _, gsto st l ++ [[]]⟩).bind fun d s => _) _
    rw [he _ _ fun j hj => by rw [List.getElem?_set_ne (fun z => hj z.symm)], R.bind_ok]
    show wp (match (gsto st l ++ [[]])[(gsto st l).length]? with
      | some xs => if xs.length < sizeLine then R.ok Fl.next _ else .fail
      | none => .fail) _
    rw [show (gsto st l ++ [[]])[(gsto st l).length]? = some [] by simp]
    show wp (if ([] : List D).length < sizeLine then _ else _) _
    rw [if_pos (by decide), wp_ok, flK_next]
    show wp (exs Γ ts ⟨env.set i _, (gsto st l ++ [[]]).set (gsto st l).length [d]⟩) Q
    rw [gsto_new hx]
    have e3 : dput (gdic st.length l) (.int (x : Int)) (.ref (gsto st l).length) = gdic st.length (l ++ [(x, d)]) := by
      rw [dput_new]
      · unfold gdic
        rw [gkeys_snoc, if_neg hx, gdicF_snoc, gsto_len, Nat.zero_add]
      · intro p hp
        obtain ⟨y, hy, e⟩ := gdicF_keys _ _ _ p hp
        rw [e]
        exact eqv_nat_f fun z => hx (z ▸ hy)
    rw [← e3] at q
    exact q
/-! comprehensions of dicts -/
theorem ev_dcB (Γ : List Fn) (s : S) (k : IK) (as : List T) (tg : Tg) (vs : List Nat) (ifs : List T) (ke ve : T) : ev Γ (.dc k as tg vs ifs ke ve) s = (evI Γ k as s).bind fun xs s =>
      (dcGo (dcBody Γ tg vs ifs ke ve) xs [] { s with env := wipeD s.env vs }).noX.bind fun ds s' => .ok (.dic false ds) { s' with env := backD s.env s'.env vs } := by
  show ((evs Γ as s).bind fun ds s => (opt s (items k ds)).bind fun xs s => _) = ((evs Γ as s).bind fun ds s => opt s (items k ds)).bind _
  cases evs Γ as s <;> rfl
theorem dcGo_Y {β : Type} {body : D → S → R S (Option (D × D))} {s : S} (g : β → D) (K : β → Nat) (V : β → D) : ∀ (ys pre : List β), (∀ y ∈ ys, body (g y) s = .ok (some (.int (K y : Int), V y)) s) → ((pre ++ ys).map K).Nodup → (pre ++ ys).length ≤ 1000 → dcGo body (ys.map g) (pre.map fun y => (.int (K y : Int), V y)) s = .ok ((pre ++ ys).map fun y => (.int (K y : Int), V y)) s
  | [], pre, _, _, _ => by rw [List.append_nil]; rfl
  | y :: ys, pre, hb, hn, hl => by
    rw [List.map_cons]
    unfold dcGo
    rw [hb y List.mem_cons_self, R.bind_ok]
    have hlen : pre.length < 1000 := by simp at hl; omega
    show (if keyB (.int (K y : Int)) = true ∧ (pre.map fun y => ((.int (K y : Int) : D), V y)).length < sizeLine then _ else _) = _
    rw [if_pos ⟨rfl, by rw [List.length_map]; exact lt_line hlen⟩, dput_new]
    · have := dcGo_Y (body := body) (s := s) g K V ys (pre ++ [y]) (fun z hz => hb z (List.mem_cons_of_mem _ hz)) (by simpa using hn) (by simpa using hl)
      simpa using this
    · intro p hp
      obtain ⟨z, hz, rfl⟩ := List.mem_map.mp hp
      refine eqv_nat_f fun e => ?_
      rw [List.map_append, List.map_cons, List.nodup_append] at hn
      exact hn.2.2 (K z) (List.mem_map_of_mem hz) (K y) List.mem_cons_self e
section
variable {Γ : List Fn} {k : IK} {as : List T} {tg : Tg} {vs : List Nat} {ifs : List T} {ke ve : T} {env : List (Option D)} {st : Sto} {β : Type} {Q : D → S → Prop}
theorem wp_dcM (ys : List β) (g : β → D) (K : β → Nat) (V : β → D) (hI : wp (evI Γ k as ⟨env, st⟩) fun xs s1 => xs = ys.map g ∧ s1 = ⟨env, st⟩) (hl : ys.length ≤ 1000) (hn : (ys.map K).Nodup) (hb : ∀ y ∈ ys, wp (dcBody Γ tg vs ifs ke ve (g y) ⟨wipeD env vs, st⟩) fun o s1 => o = some (.int (K y : Int), V y) ∧ s1 = ⟨wipeD env vs, st⟩) (hQ : Q (.dic false (ys.map fun y => (.int (K y : Int), V y))) ⟨env, st⟩) : wp (ev Γ (.dc k as tg vs ifs ke ve) ⟨env, st⟩) Q := by
  rw [ev_dcB, wp_eq hI, R.bind_ok]
  have := dcGo_Y (body := dcBody Γ tg vs ifs ke ve) (s := ⟨wipeD env vs, st⟩) g K V ys [] (fun y hy => wp_eq (hb y hy)) (by simpa using hn) (by simpa using hl)
  simp only [List.map_nil, List.nil_append] at this
  rw [this]
  simp only [R.noX, R.bind_ok, back_wipe]
  exact hQ
end
theorem wp_dcB {Γ : List Fn} {tg : Tg} {vs : List Nat} {ifs : List T} {ke ve : T} {x : D} {s1 s2 : S} {Q : Option (D × D) → S → Prop} (h : setT tg x s1 = some s2) (q : wp (evAll Γ ifs s2) fun b s3 => if b = true then wp (ev Γ ke s3) (fun a s4 => wp (ev Γ ve s4) fun d s5 => Q (some (a, d)) { s5 with env := wipeD s5.env vs }) else Q none { s3 with env := wipeD s3.env vs }) : wp (dcBody Γ tg vs ifs ke ve x s1) Q := by
  unfold dcBody
  rw [h]
  show wp ((evAll Γ ifs s2).bind fun b s3 => _) Q
  rw [wp_bind]
  refine wp_mono q fun b s3 q => ?_
  cases b with
  | true =>
    rw [if_pos rfl] at q ⊢
    rw [wp_bind]
    refine wp_mono q fun a s4 q => ?_
    rw [wp_bind]
    exact q
  | false => exact q
@[simp] theorem items_items (kvs : List (D × D)) : items .items [.dic false kvs] = some (kvs.map fun p => .tup [p.1, p.2]) := rfl
@[simp] theorem items_vals (kvs : List (D × D)) : items .vals [.dic false kvs] = some (kvs.map (·.2)) := rfl
@[simp] theorem items_keys (kvs : List (D × D)) : items .keys [.dic false kvs] = some (kvs.map (·.1)) := rfl
theorem items_zipS (xs ys : List D) (h : xs.length = ys.length) : items .zipS [.tup xs, .tup ys] = some (zipL xs ys) := by
  show (if xs.length = ys.length then some (zipL xs ys) else none) = _
  rw [if_pos h]
@[simp] theorem prim_innD (st : Sto) (k : Int) (kvs : List (D × D)) : prim st .inn [.int k, .dic false kvs] = some (.bl (dget kvs (.int k)).isSome) := rfl
@[simp] theorem prim_ninD (st : Sto) (k : Int) (kvs : List (D × D)) : prim st .nin [.int k, .dic false kvs] = some (.bl (!(dget kvs (.int k)).isSome)) := rfl
@[simp] theorem prim_idxD (st : Sto) (k : Int) (kvs : List (D × D)) : prim st .idx [.dic false kvs, .int k] = dget kvs (.int k) := rfl
@[simp] theorem prim_lenD (st : Sto) (t : Bool) (kvs : List (D × D)) : prim st .len [.dic t kvs] = some (.int kvs.length) := rfl
theorem prim_minR (st : Sto) (n : Nat) (x : D) (xs : List D) (h : st[n]? = some (x :: xs)) (ha : alkAll (x :: xs) = true) : prim st .minL [.ref n] = some (D.minv x xs) := by
  show ((st[n]?).bind fun ys => match ys with
    | x :: xs => if alkAll (x :: xs) then some (D.minv x xs) else none
    | [] => none) = _
  rw [h]
  show (if alkAll (x :: xs) then some (D.minv x xs) else none) = _
  rw [if_pos ha]
/-! sorted -/
theorem sorted_eq {l m : List Int} (hp : l.Perm m) (h1 : l.Pairwise (· ≤ ·)) (h2 : m.Pairwise (· ≤ ·)) : l = m := hp.eq_of_pairwise (fun a b _ _ x y => Int.le_antisymm x y) h1 h2
theorem intsOf_map : ∀ l : List Int, intsOf (l.map D.int) = some l
  | [] => rfl
  | i :: r => by
    show (intsOf (r.map D.int)).map _ = _
    rw [intsOf_map r]; rfl
/-- the keys of a dict of numbers, sorted -/
theorem sorted_natD (st : Sto) (l : List Nat) (v : Nat → D) (m : List Nat) (hm : m.Pairwise (· < ·)) (hn : l.Nodup) (he : ∀ k, k ∈ l ↔ k ∈ m) (hl : l.length < 64) : prim st .sorted [.dic false (natD l v)] = some (.lst (m.map fun (k : Nat) => D.int (k : Int))) := by
  show ((intsOf ((natD l v).map (·.1))).bind fun ns => if ns.length < 64 then some (D.lst ((sortI ns).map .int)) else none) = _
  have e1 : (natD l v).map (·.1) = (l.map fun (k : Nat) => (k : Int)).map D.int := by unfold natD; simp
  rw [e1, intsOf_map]
  show (if (l.map fun (k : Nat) => (k : Int)).length < 64 then some (D.lst ((sortI (l.map fun (k : Nat) => (k : Int))).map .int)) else none) = _
  rw [if_pos (by simpa using hl)]
  have nm : m.Nodup := hm.imp fun h => Nat.ne_of_lt h
  have hp : l.Perm m := (List.perm_ext_iff_of_nodup hn nm).mpr he
  have : sortI (l.map fun (k : Nat) => (k : Int)) = m.map fun (k : Nat) => (k : Int) := by
    refine sorted_eq ((sortI_perm _).trans (hp.map _)) (sortI_sorted _) ?_
    rw [List.pairwise_map]
    exact hm.imp fun h => by omega
  rw [this, List.map_map]
  rfl
/-! one statement at a time: what follows is hidden -/
def exsO (Γ : List Fn) (ts : List St) (s : S) : R S Fl := exs Γ ts s
theorem exsO_eq (Γ : List Fn) (ts : List St) (s : S) : exsO Γ ts s = exs Γ ts s := rfl
theorem exs_step (Γ : List Fn) (t : St) (ts : List St) (s : S) : exs Γ (t :: ts) s = thenS (exs Γ [t] s) (exsO Γ ts) := by
  have e : exs Γ [t] s = ex Γ t s := by
    rw [exs_cons]
    cases ex Γ t s with
    | ok f s => cases f <;> rfl
    | exc => rfl
    | fail => rfl
  rw [e, exs_cons]
  rfl
theorem wp_forO {Γ : List Fn} {s : S} {k : IK} {as : List T} {tg : Tg} {body ts : List St} {Q : Fl → S → Prop} (h : wp (evI Γ k as s) fun xs s => wp (forGo (forBody Γ tg body) s.env xs s) (flK (fun s => wp (exsO Γ ts s) Q) Q)) : wp (exs Γ (.for_ k as tg body :: ts) s) Q := wp_for h
end Lb

set_option maxRecDepth 100000
set_option maxHeartbeats 1000000
/-! towns, ways, cars, by types -/
namespace Lb
open PySem L2
def isW : D → Bool
  | .int _ => true
  | _ => false
def amD (d : D) (lo hi : Int) : Bool := match d with
  | .int i => decide (lo ≤ i) && decide (i ≤ hi)
  | _ => false
def rowD (d : D) (lo hi : Int) : Bool := match d with
  | .tup xs => decide (lo ≤ (xs.length : Int)) && decide ((xs.length : Int) ≤ hi)
  | _ => false
/-- thing: three whole numbers -/
def roadRow (d : D) (n : Int) : Bool := match d with
  | .tup [a, b, l] => amD l 1 5 && (amD a 0 (n - 1) && amD b 0 (n - 1))
  | _ => false
theorem rowD_len {d : D} {lo hi : Int} (h : rowD d lo hi = true) : ∃ xs, d = .tup xs ∧ lo ≤ (xs.length : Int) ∧ (xs.length : Int) ≤ hi := by
  cases d <;> simp [rowD] at h
  exact ⟨_, rfl, h⟩
def riseI (ns : List Int) : Bool := (ns.zip (ns.drop 1)).all fun p => decide (p.1 < p.2)
/-- a town -/
structure Tw where
  n : Int
  c : Int
  roads : List (Int × Int × Int)
  lights : List (Option (Int × List (Int × List Int)))
def roadT (r : Int × Int × Int) : D := .tup [.int r.1, .int r.2.1, .int r.2.2]
def rowT (r : Int × List Int) : D := .tup [.int r.1, .tup (r.2.map D.int)]
def lightT : Option (Int × List (Int × List Int)) → D
  | none => .non
  | some l => .tup [.int l.1, .tup (l.2.map rowT)]
def Tw.D (t : Tw) : D := .tup [.int t.n, .int t.c, .tup (t.roads.map roadT), .tup (t.lights.map lightT)]
/-- the roads that end at k -/
def endsI (roads : List (Int × Int × Int)) (k : Int) : List Int := ((enumI 0 roads).filter fun p => decide (p.2.2.1 = k)).map fun p => (p.1 : Int)
structure OkL (t : Tw) (k : Int) (l : Int × List (Int × List Int)) : Prop where
  s : 0 ≤ l.1 ∧ l.1 < t.c
  rows : 1 ≤ l.2.length ∧ l.2.length ≤ 4
  row : ∀ r ∈ l.2, 1 ≤ r.1 ∧ r.1 ≤ 12 ∧ riseI r.2 = true ∧ r.2.length ≤ 10 ∧ ∀ g ∈ r.2, g ∈ endsI t.roads k
  sum : (l.2.map (·.1)).sum = t.c
structure Ok (t : Tw) : Prop where
  n : 1 ≤ t.n ∧ t.n ≤ 6
  c : 1 ≤ t.c ∧ t.c ≤ 12
  roads : 1 ≤ t.roads.length ∧ t.roads.length ≤ 10
  road : ∀ r ∈ t.roads, (0 ≤ r.1 ∧ r.1 < t.n) ∧ (0 ≤ r.2.1 ∧ r.2.1 < t.n) ∧ 1 ≤ r.2.2 ∧ r.2.2 ≤ 5
  lights : (t.lights.length : Int) = t.n
  light : ∀ (k : Nat) l, t.lights[k]? = some (some l) → OkL t k l
theorem contains_iff {ns : List Int} {g : Int} : ns.contains g = true ↔ g ∈ ns := List.contains_iff_mem
/-- the turn that stands at rest -/
def turnI : Int → List (Int × List Int) → List Int
  | _, [] => []
  | rest, (b, g) :: r => if rest < b then g else turnI (rest - b) r
/-- the lights at the end of the road i -/
def lightAt (t : Tw) (i : Nat) : Option (Option (Int × List (Int × List Int))) := (t.roads[i]?).bind fun r => t.lights[r.2.1.toNat]?
theorem lightAt_some (t : Tw) (ok : Ok t) (i : Nat) (hi : i < t.roads.length) : ∃ r o, t.roads[i]? = some r ∧ 0 ≤ r.2.1 ∧ t.lights[r.2.1.toNat]? = some o ∧ lightAt t i = some o ∧ ∀ l, o = some l → OkL t r.2.1 l := by
  have h1 : t.roads[i]? = some t.roads[i] := List.getElem?_eq_getElem hi
  obtain ⟨_, h2, _⟩ := ok.road _ (List.getElem_mem hi)
  have hl := ok.lights
  have hk : (t.roads[i]).2.1.toNat < t.lights.length := by omega
  refine ⟨_, _, h1, h2.1, List.getElem?_eq_getElem hk, by unfold lightAt; rw [h1]; exact List.getElem?_eq_getElem hk, fun l e => ?_⟩
  have := ok.light (t.roads[i]).2.1.toNat l (by rw [List.getElem?_eq_getElem hk, e])
  rwa [Int.toNat_of_nonneg h2.1] at this
def greenI (t : Tw) (i : Nat) (beat : Int) : Bool := match lightAt t i with
  | some (some l) => hasI (turnI ((beat - l.1) % t.c) l.2) (i : Int)
  | _ => true
def neverB (t : Tw) (i : Nat) : Bool := match lightAt t i with
  | some (some l) => !(l.2.any fun r => hasI r.2 (i : Int))
  | _ => false
def neverI (t : Tw) : List Int := ((List.range t.roads.length).filter (neverB t)).map fun (i : Nat) => (i : Int)
theorem riseI_iff : ∀ {ns : List Int}, riseI ns = true ↔ ns.Pairwise (· < ·)
  | [] => by simp [riseI]
  | [a] => by simp [riseI]
  | a :: b :: r => by
    have ih := riseI_iff (ns := b :: r)
    have e : riseI (a :: b :: r) = (decide (a < b) && riseI (b :: r)) := by simp [riseI]
    rw [e, Bool.and_eq_true, ih, decide_eq_true_eq, List.pairwise_cons (a := a)]
    constructor
    · rintro ⟨h1, h2⟩
      refine ⟨fun x hx => ?_, h2⟩
      rcases List.mem_cons.mp hx with q | q
      · rw [q]; exact h1
      · exact Int.lt_trans h1 ((List.pairwise_cons.mp h2).1 x q)
    · rintro ⟨h1, h2⟩
      exact ⟨h1 b List.mem_cons_self, h2⟩
theorem rise_sub {gs ns : List Int} (h : gs.Sublist ns) (hr : riseI ns = true) : riseI gs = true := riseI_iff.mpr ((riseI_iff.mp hr).sublist h)
theorem enumI_rise {β : Type} : ∀ (xs : List β) (i : Nat), ((enumI i xs).map fun p => (p.1 : Int)).Pairwise (· < ·)
  | [], _ => by simp [enumI]
  | x :: xs, i => by
    rw [enumI, List.map_cons, List.pairwise_cons]
    refine ⟨fun y hy => ?_, enumI_rise xs (i + 1)⟩
    obtain ⟨p, hp, rfl⟩ := List.mem_map.mp hy
    have := (enumI_mem.mp hp).1
    show (i : Int) < (p.1 : Int)
    omega
theorem ends_rise (roads : List (Int × Int × Int)) (k : Int) : riseI (endsI roads k) = true := by
  rw [riseI_iff]
  exact (enumI_rise roads 0).sublist (List.Sublist.map _ List.filter_sublist)
theorem ends_len (roads : List (Int × Int × Int)) (k : Int) : (endsI roads k).length ≤ roads.length := by
  unfold endsI
  rw [List.length_map]
  exact Nat.le_trans (List.length_filter_le ..) (Nat.le_of_eq (enumI_len roads 0))
def RoadOk (n : Int) (r : Int × Int × Int) : Prop := (0 ≤ r.1 ∧ r.1 < n) ∧ (0 ≤ r.2.1 ∧ r.2.1 < n) ∧ 1 ≤ r.2.2 ∧ r.2.2 ≤ 5
theorem flats_roads : ∀ (rs : List (Int × Int × Int)) (k : Nat), D.flats (k + 1) (rs.map roadT) = true
  | [], k => rfl
  | r :: rs, k => by
    show (D.flat (k + 1) (roadT r) && D.flats (k + 1) (rs.map roadT)) = true
    rw [flats_roads rs k]
    have : D.flat (k + 1) (roadT r) = D.flats k [.int r.1, .int r.2.1, .int r.2.2] := rfl
    rw [this]
    have := flats_ints [r.1, r.2.1, r.2.2] k
    simp at this
    rw [this]
    rfl
theorem erase_map {β γ : Type} (f : β → γ) : ∀ (xs : List β) (k : Nat), (xs.map f).eraseIdx k = (xs.eraseIdx k).map f
  | [], _ => rfl
  | x :: xs, 0 => rfl
  | x :: xs, k + 1 => by
    show f x :: (xs.map f).eraseIdx k = _
    rw [erase_map f xs k]; rfl
theorem okL_of {t : Tw} {c : Int} {roads : List (Int × Int × Int)} {k : Int} {l : Int × List (Int × List Int)} (h : OkL ⟨0, c, roads, []⟩ k l) (hc : t.c = c) (hr : t.roads = roads) : OkL t k l := by
  subst hc; subst hr
  exact ⟨h.s, h.rows, h.row, h.sum⟩
theorem pre_lt {k : Nat} {pre post : List Nat} {x : Nat} (e : List.range k = pre ++ x :: post) : x = pre.length ∧ x < k := by
  have hx : x < k := List.mem_range.mp (e ▸ List.mem_append_right _ List.mem_cons_self)
  have h := congrArg (fun l => l[pre.length]?) e
  simp at h
  have hp : pre.length < k := by
    have := congrArg List.length e
    simp at this; omega
  rw [List.getElem?_range hp] at h
  exact ⟨(Option.some.inj h).symm, hx⟩
theorem wp_pop {Γ : List Fn} {i : Nat} {e : T} {s : S} {Q : D → S → Prop} (h : (∃ xs, lstAt i s = some xs) ∧ wp (ev Γ e s) fun x s1 => ∃ k xs d r, x = .int k ∧ lstAt i s1 = some xs ∧ popL xs k = some (d, r) ∧ Q d (setV i (.lst r) s1)) : wp (ev Γ (.pop i e) s) Q := by
  obtain ⟨⟨xs, h1⟩, h⟩ := h
  rw [ev_pop, wp_bind, wp_opt h1, wp_bind]
  refine wp_mono h fun x s1 ⟨k, xs, d, r, hx, e1, e2, q⟩ => ?_
  subst hx
  rw [e1]
  show wp (match popL xs k with
        | some (d, r) => R.ok d (setV i (.lst r) s1)
        | none => .fail) Q
  rw [e2]
  exact q
theorem mem_erase {β : Type} : ∀ {xs : List β} {a : Nat} {y r : β}, xs[a]? = some y → r ∈ xs → r = y ∨ r ∈ xs.eraseIdx a
  | [], _, _, _, _, hr => nomatch hr
  | x :: xs, 0, y, r, h, hr => by
    simp at h; subst h
    simpa using hr
  | x :: xs, a + 1, y, r, h, hr => by
    simp at h
    rcases List.mem_cons.mp hr with rfl | hr
    · exact .inr (by simp)
    · exact (mem_erase h hr).imp id fun q => by simp [q]
/-- from each crossing leads a road -/
def Outr (k : Nat) (rs : List (Int × Int × Int)) : Prop := ∀ c : Nat, c < k → ∃ a b, ((c : Int), a, b) ∈ rs
def Outs (t : Tw) : Prop := ∀ c : Nat, (c : Int) < t.n → ∃ r ∈ t.roads, r.1 = (c : Int)
def rdAt (t : Tw) (i : Nat) : Int × Int × Int := (t.roads[i]?).getD (0, 0, 1)
theorem rdAt_get (t : Tw) (i : Nat) (h : i < t.roads.length) : t.roads[i]? = some (rdAt t i) := by
  unfold rdAt; rw [List.getElem?_eq_getElem h]; rfl
theorem rd_at (t : Tw) (i : Nat) (h : i < t.roads.length) : atI (t.roads.map roadT) (i : Int) = some (roadT (rdAt t i)) := by
  rw [atN, List.getElem?_map, rdAt_get t i h]; rfl
def wayT (w : List Nat) : D := .tup (w.map fun (i : Nat) => D.int i)
structure OkW (t : Tw) (w : List Nat) : Prop where
  len : 1 ≤ w.length ∧ w.length ≤ 8
  rd : ∀ i ∈ w, i < t.roads.length
  meet : ∀ p ∈ w.zip (w.drop 1), (rdAt t p.1).2.1 = (rdAt t p.2).1
structure OkS (t : Tw) (w : List Nat) : Prop where
  rd : ∀ i ∈ w, i < t.roads.length
  rise : w.Pairwise (· < ·)
  len : w.length ≤ 10
def carT (c : Int × List Nat) : D := .tup [.int c.1, wayT c.2]
structure OkC (t : Tw) (c : Int × List Nat) : Prop where
  b : 0 ≤ c.1 ∧ c.1 ≤ 99
  w : OkW t c.2
structure OkCs (t : Tw) (cs : List (Int × List Nat)) : Prop where
  len : 1 ≤ cs.length ∧ cs.length ≤ 8
  car : ∀ c ∈ cs, OkC t c
def carsT (cs : List (Int × List Nat)) : D := .tup (cs.map carT)
def outI (roads : List (Int × Int × Int)) (k : Int) : List Int := ((enumI 0 roads).filter fun p => decide (p.2.1 = k)).map fun p => (p.1 : Int)
theorem out_ne (t : Tw) (ok : Ok t) (o : Outs t) (i : Nat) (hi : i < t.roads.length) : outI t.roads (rdAt t i).2.1 ≠ [] := by
  have hr := (ok.road (rdAt t i) (List.mem_of_getElem? (rdAt_get t i hi))).2.1
  obtain ⟨r, h1, h2⟩ := o (rdAt t i).2.1.toNat (by omega)
  obtain ⟨j, hj⟩ := List.mem_iff_getElem?.mp h1
  have m : (j, r) ∈ (enumI 0 t.roads).filter fun p => decide (p.2.1 = (rdAt t i).2.1) := by
    rw [List.mem_filter]
    exact ⟨enumI_mem.mpr ⟨Nat.zero_le _, by simpa using hj⟩, by simp; omega⟩
  intro e
  have : (j : Int) ∈ outI t.roads (rdAt t i).2.1 := List.mem_map.mpr ⟨(j, r), m, rfl⟩
  rw [e] at this
  cases this
theorem at_last (xs : List D) (d : D) : atI (xs ++ [d]) (-1) = some d := by
  simp [atI, ixN]
  rw [if_pos (by omega)]
  have e : (-1 + ((xs.length : Int) + 1)).toNat = xs.length := by omega
  simp [e]
theorem zip_snoc : ∀ (w : List Nat) (l i : Nat) (p : Nat × Nat), p ∈ (w ++ [l] ++ [i]).zip ((w ++ [l] ++ [i]).drop 1) → p ∈ (w ++ [l]).zip ((w ++ [l]).drop 1) ∨ p = (l, i)
  | [], l, i, p, h => by simpa using h
  | [a], l, i, p, h => by simpa using h
  | a :: b :: w, l, i, p, h => by
    have ih := zip_snoc (b :: w) l i p
    simp at h ih ⊢
    rcases h with h | h
    · exact .inl (.inl h)
    · rcases ih h with q | q
      · exact .inl (.inr q)
      · exact .inr q
theorem okW_snoc {t : Tw} {w : List Nat} {l i : Nat} (h : OkW t (w ++ [l])) (hl : w.length < 7) (hi : i < t.roads.length) (hm : (rdAt t l).2.1 = (rdAt t i).1) : OkW t (w ++ [l] ++ [i]) := by
  refine ⟨by simp; omega, fun j hj => ?_, fun p hp => ?_⟩
  · rcases List.mem_append.mp hj with q | q
    · exact h.rd j q
    · rw [List.mem_singleton.mp q]; exact hi
  · rcases zip_snoc w l i p hp with q | rfl
    · exact h.meet p q
    · exact hm
end Lb

set_option maxRecDepth 100000
set_option maxHeartbeats 1000000
namespace Lb
open PySem L2
theorem s_is_whole (d : D) (st : Sto) : m_is_whole [d] st = .ok (.bl (isW d)) st := by
  cases d <;> simp [m_is_whole, runFn, b_is_whole, isTy, isW]
theorem s_is_among (d : D) (lo hi : Int) (st : Sto) : m_is_among [d, .int lo, .int hi] st = .ok (.bl (amD d lo hi)) st := by
  cases d <;> simp [m_is_among, runFn, b_is_among, s_is_whole, isW, amD]
theorem s_is_row (d : D) (lo hi : Int) (st : Sto) : m_is_row [d, .int lo, .int hi] st = .ok (.bl (rowD d lo hi)) st := by
  cases d <;> simp [m_is_row, runFn, b_is_row, isTy, rowD]
theorem s_is_road_row (d : D) (n : Int) (st : Sto) : m_is_road_row [d, .int n] st = .ok (.bl (roadRow d n)) st := by
  by_cases h : rowD d 3 3 = true
  · obtain ⟨xs, rfl, h1, h2⟩ := rowD_len h
    have h3 : xs.length = 3 := by omega
    match xs, h3 with
    | [a, b, l], _ =>
      cases hl : amD l 1 5 with
      | false => simp [m_is_road_row, runFn, b_is_road_row, s_is_row, rowD, s_is_among, atI, ixN, hl, roadRow]
      | true =>
        simp [m_is_road_row, runFn, b_is_road_row, s_is_row, rowD, s_is_among, atI, ixN, hl, roadRow]
        rw [ev_lcM (xs := [a, b]) (env := [some (D.tup [a, b, l]), some (D.int n), none]) (st := st) (fun x => D.bl (amD x 0 (n - 1)))]
        · simp [allR, bls]
        · simp; rfl
        · intro x hx
          rw [lcBody_eq _ _ _ _ _ _ _ _ rfl]
          simp [s_is_among]
        · exact (by decide : 2 ≤ sizeLine)
  · have hr : roadRow d n = false := by
      cases d <;> try rfl
      rename_i xs
      match xs with
      | [] => rfl
      | [_] => rfl
      | [_, _] => rfl
      | [_, _, _] => simp [rowD] at h
      | _ :: _ :: _ :: _ :: _ => rfl
    simp [m_is_road_row, runFn, b_is_road_row, s_is_row, h, hr]
end Lb

set_option maxRecDepth 100000
set_option maxHeartbeats 1000000
namespace Lb
open PySem L2
theorem s_are_rising (ns : List Int) (st : Sto) (hl : ns.length ≤ 1000) : m_are_rising [.tup (ns.map D.int)] st = .ok (.bl (riseI ns)) st := by
  simp [m_are_rising, runFn, b_are_rising]
  rw [ev_lcY (β := Int × Int) (env := [some (D.tup (ns.map D.int)), none, none]) (st := st) (ns.zip (ns.drop 1)) (fun p => .tup [.int p.1, .int p.2]) (fun p => .bl (decide (p.1 < p.2)))]
  · simp [allR_Y, riseI]
  · have := cutL_lo (ns.map D.int) 1
    simp at this
    simp [this]
    rw [← List.map_tail, zipL_map]
  · intro p hp
    rw [lcBody_eq _ _ _ _ _ _ _ _ rfl]
    simp
  · have := List.length_zip (l₁ := ns) (l₂ := ns.drop 1)
    exact Nat.le_trans (by omega) line1000
theorem s_ends_at (roads : List (Int × Int × Int)) (k : Int) (st : Sto) (hl : roads.length ≤ 1000) : m_ends_at [.tup (roads.map roadT), .int k] st = .ok (.lst ((endsI roads k).map D.int)) st := by
  simp [m_ends_at, runFn, b_ends_at]
  rw [ev_lcF (β := Nat × (Int × Int × Int)) (env := [some (D.tup (roads.map roadT)), some (D.int k), none, none, none, none]) (st := st) (enumI 0 roads) (fun p => .tup [.int p.1, roadT p.2]) (fun p => decide (p.2.2.1 = k)) (fun p => .int p.1)]
  · simp [endsI]
  · simp [enumL_map]
  · intro p hp
    rw [lcBody_eq _ _ _ _ _ _ _ _ rfl]
    simp [eqR]
  · rw [enumI_len]; exact Nat.le_trans hl line1000
theorem s_is_turn (r : Int × List Int) (es : List Int) (st : Sto) (h1 : 1 ≤ r.1 ∧ r.1 ≤ 12) (h2 : riseI r.2 = true) (h3 : r.2.length ≤ 10) (h4 : ∀ g ∈ r.2, g ∈ es) : m_is_turn [rowT r, .lst (es.map D.int)] st = .ok (.bl true) st := by
  have ha : amD (.int r.1) 1 12 = true := by simp [amD, h1]
  simp [m_is_turn, runFn, b_is_turn, rowT, s_is_row, rowD, s_is_among, atI, ixN, ha, isTy]
  rw [ev_lcY (β := Int) (env := [some (D.tup [.int r.1, .tup (r.2.map D.int)]), some (D.lst (es.map D.int)), none]) (st := st) r.2 D.int (fun g => .bl (hasI es g))]
  · simp [allR_Y, s_are_rising _ _ (Nat.le_trans h3 (by decide)), h2, atI, ixN]
    intro g hg
    exact hasI_iff.mpr (h4 g hg)
  · simp [atI, ixN]
  · intro g hg
    rw [lcBody_eq _ _ _ _ _ _ _ _ rfl]
    simp [s_is_whole, isW, inR_ints]
  · exact Nat.le_trans h3 (by decide)
theorem s_are_lights (t : Tw) (k : Int) (o : Option (Int × List (Int × List Int))) (st : Sto) (hc : t.c ≤ 12) (h : ∀ l, o = some l → OkL t k l) : m_are_lights [lightT o, .int t.c, .lst ((endsI t.roads k).map D.int)] st = .ok (.bl true) st := by
  cases o with
  | none => simp [m_are_lights, runFn, b_are_lights, lightT]
  | some l =>
    have ok := h l rfl
    have ha : amD (.int l.1) 0 (t.c - 1) = true := by simp [amD]; have := ok.s; omega
    have hr : rowD (.tup (l.2.map rowT)) 1 4 = true := by simp [rowD]; have := ok.rows; omega
    simp [m_are_lights, runFn, b_are_lights, lightT, s_is_row, rowD, s_is_among, atI, ixN, ha]
    rw [if_neg (by have := ok.rows; omega)]
    rw [ev_lcY (β := Int × List Int) (env := [some (D.tup [.int l.1, .tup (l.2.map rowT)]), some (D.int t.c), some (D.lst ((endsI t.roads k).map D.int)), none, none, none]) (st := st) l.2 rowT (fun _ => .bl true)]
    · simp [allR_Y (fun _ : Int × List Int => true), thenS]
      rw [ev_lcY (β := Int × List Int) (env := [some (D.tup [.int l.1, .tup (l.2.map rowT)]), some (D.int t.c), some (D.lst ((endsI t.roads k).map D.int)), none, none, none]) (st := st) l.2 rowT (fun r => .int r.1)]
      · simp [sumR_Y, ok.sum, eqR]
      · simp [atI, ixN]
      · intro r hr
        rw [lcBody_eq _ _ _ _ _ _ _ _ rfl]
        simp
      · exact Nat.le_trans ok.rows.2 (by decide)
    · simp [atI, ixN]
    · intro r hr
      obtain ⟨q1, q2, q3, q4, q5⟩ := ok.row r hr
      rw [lcBody_eq _ _ _ _ _ _ _ _ rfl]
      simp [s_is_turn r _ _ ⟨q1, q2⟩ q3 q4 q5]
    · exact Nat.le_trans ok.rows.2 (by decide)
end Lb

set_option maxRecDepth 100000
set_option maxHeartbeats 1000000
namespace Lb
open PySem L2
theorem s_is_town (t : Tw) (ok : Ok t) (st : Sto) : m_is_town [t.D] st = .ok (.bl true) st := by
  have hn : amD (.int t.n) 1 6 = true := by simp [amD]; exact ok.n
  have hc : amD (.int t.c) 1 12 = true := by simp [amD]; exact ok.c
  simp [m_is_town, runFn, b_is_town, Tw.D, s_is_row, rowD, s_is_among, atI, ixN, hn, hc]
  rw [if_neg (by have := ok.roads; omega)]
  rw [ev_lcY (β := Int × Int × Int) (env := [some t.D, some (.int t.n), some (.int t.c), some (.tup (t.roads.map roadT)), some (.tup (t.lights.map lightT)), none, none, none]) (st := st) t.roads roadT (fun _ => .bl true)]
  · simp [allR_Y (fun _ : Int × Int × Int => true), thenS, s_is_row, rowD, ok.lights]
    rw [ev_lcY (β := Nat × Option (Int × List (Int × List Int))) (env := [some t.D, some (.int t.n), some (.int t.c), some (.tup (t.roads.map roadT)), some (.tup (t.lights.map lightT)), none, none, none]) (st := st) (enumI 0 t.lights) (fun p => .tup [.int p.1, lightT p.2]) (fun _ => .bl true)]
    · simp [allR_Y (fun _ : Nat × Option (Int × List (Int × List Int)) => true)]
    · simp [enumL_map]
    · intro p hp
      rw [lcBody_eq _ _ _ _ _ _ _ _ rfl]
      have h2 := (enumI_mem.mp hp).2
      simp only [Nat.sub_zero] at h2
      simp [s_ends_at _ _ _ (Nat.le_trans ok.roads.2 (by decide)), s_are_lights t p.1 p.2 st ok.c.2 fun l e => ok.light p.1 l (by rw [h2, e])]
    · rw [enumI_len]
      have := ok.lights
      have := ok.n
      exact Nat.le_trans (show t.lights.length ≤ 1000 by omega) line1000
  · simp [Tw.D]
  · intro r hr
    rw [lcBody_eq _ _ _ _ _ _ _ _ rfl]
    obtain ⟨h1, h2, h3⟩ := ok.road r hr
    have : roadRow (roadT r) t.n = true := by
      simp [roadRow, roadT, amD]
      omega
    simp [s_is_road_row, this]
  · exact Nat.le_trans ok.roads.2 (by decide)
end Lb

set_option maxRecDepth 100000
set_option maxHeartbeats 1000000
namespace Lb
open PySem L2
theorem s_need_town (t : Tw) (ok : Ok t) (st : Sto) : m_need_town [t.D] st = .ok .non st := by
  simp [m_need_town, runFn, b_need_town, s_is_town t ok]
theorem s_is_road (t : Tw) (i : Nat) (hi : i < t.roads.length) (st : Sto) : m_is_road [t.D, .int i] st = .ok (.bl true) st := by
  simp [m_is_road, runFn, b_is_road, Tw.D, atI, ixN, s_is_among, amD]
  omega
end Lb

set_option maxRecDepth 100000
set_option maxHeartbeats 1000000
namespace Lb
open PySem L2
theorem s_turn_at (t : Tw) (l : Int × List (Int × List Int)) (beat : Int) (st : Sto) (hc : 0 < t.c) : m_turn_at [t.D, lightT (some l), .int beat] st = .ok (.tup ((turnI ((beat - l.1) % t.c) l.2).map D.int)) st := by
  refine wp_eq ?_
  rw [r_turn_at _ _ _ rfl]
  simp [b_turn_at, lightT, Tw.D, atI, ixN, prim_mod, hc]
  refine wp_for ?_
  simp
  refine wp_forAll (fun r s => ∃ rest rows, r = rows.map rowT ∧ s = ⟨[_, _, _, _, _, some (.int rest), none, none], st⟩ ∧ turnI rest rows = turnI ((beat - l.1) % t.c) l.2) ?_ ?_ _ _ ⟨_, _, rfl, rfl, rfl⟩
  · rintro J hJ x r s ⟨rest, rows, hr, rfl, h⟩
    match rows, hr with
    | (k, g) :: rows, hr =>
      cases hr
      refine wp_forB (by simp [rowT]; rfl) ?_
      simp
      by_cases hk : rest < k
      · simp [hk, turnI] at h ⊢
        simp [h]
      · simp [hk, turnI] at h ⊢
        subst hJ
        exact ⟨_, rows, rfl, rfl, h⟩
  · rintro s ⟨rest, rows, hr, rfl, h⟩
    match rows, hr with
    | [], hr => simp [turnI] at h ⊢; exact h
theorem s_green_by (t : Tw) (ok : Ok t) (i : Nat) (hi : i < t.roads.length) (beat : Int) (st : Sto) : m_green_by [t.D, .int i, .int beat] st = .ok (.bl (greenI t i beat)) st := by
  obtain ⟨r, o, h1, h2, h3, h4, h5⟩ := lightAt_some t ok i hi
  have hc : 0 < t.c := by have := ok.c; omega
  have e1 : atI (t.roads.map roadT) (i : Int) = some (roadT r) := by rw [atN, List.getElem?_map, h1]; rfl
  have e2 : atI (t.lights.map lightT) r.2.1 = some (lightT o) := by rw [atI_int _ _ h2, List.getElem?_map, h3]; rfl
  have e3 : atI [D.int t.n, D.int t.c, D.tup (t.roads.map roadT), D.tup (t.lights.map lightT)] 3 = some (D.tup (t.lights.map lightT)) := rfl
  have e4 : atI [D.int t.n, D.int t.c, D.tup (t.roads.map roadT), D.tup (t.lights.map lightT)] 2 = some (D.tup (t.roads.map roadT)) := rfl
  have e5 : atI [D.int r.1, D.int r.2.1, D.int r.2.2] 1 = some (D.int r.2.1) := rfl
  cases o with
  | none =>
    simp [m_green_by, runFn, b_green_by, Tw.D, e1, e2, e3, e4, e5, roadT, greenI, h4, lightT]
  | some l =>
    have ht := s_turn_at t l beat st hc
    simp [lightT, Tw.D] at ht
    simp [m_green_by, runFn, b_green_by, Tw.D, e1, e2, e3, e4, e5, roadT, greenI, h4, lightT, ht, inR_ints]
end Lb

set_option maxRecDepth 100000
set_option maxHeartbeats 1000000
namespace Lb
open PySem L2
theorem s_need_road (t : Tw) (i : Nat) (hi : i < t.roads.length) (st : Sto) : m_need_road [t.D, .int i] st = .ok .non st := by
  simp [m_need_road, runFn, b_need_road, s_is_road t i hi]
theorem s_is_green (t : Tw) (ok : Ok t) (i : Nat) (hi : i < t.roads.length) (beat : Int) (hb : 0 ≤ beat) (st : Sto) : m_is_green [t.D, .int i, .int beat] st = .ok (.bl (greenI t i beat)) st := by
  simp [m_is_green, runFn, b_is_green, s_need_town t ok, s_need_road t i hi, s_is_whole, isW, s_green_by t ok i hi, show ¬ beat < 0 by omega]
theorem s_never_by (t : Tw) (ok : Ok t) (st : Sto) : m_never_by [t.D] st = .ok (.tup ((neverI t).map D.int)) st := by
  refine wp_eq ?_
  rw [r_never_by _ _ _ rfl]
  simp [b_never_by]
  refine wp_for ?_
  have hl : t.roads.length ≤ 1000 := Nat.le_trans ok.roads.2 (by decide)
  simp [Tw.D, atI, ixN, items_nat _ hl]
  refine wp_forY _ _ (fun pre s => s = ⟨[_, some (.lst ((pre.filter (neverB t)).map fun (i : Nat) => D.int (i : Int))), none, none, none, none], st⟩) rfl ?_ ?_
  · rintro J hJ pre i post s e rfl
    have hi : i < t.roads.length := List.mem_range.mp (e ▸ List.mem_append_right _ List.mem_cons_self)
    have hz : (List.filter (neverB t) pre).length < sizeLine := by
      refine lt_line (Nat.lt_of_le_of_lt (List.length_filter_le ..) ?_)
      have := congrArg List.length e
      simp at this
      omega
    obtain ⟨r, o, h1, h2, h3, h4, h5⟩ := lightAt_some t ok i hi
    have e1 : atI (t.roads.map roadT) (i : Int) = some (roadT r) := by rw [atN, List.getElem?_map, h1]; rfl
    have e2 : atI (t.lights.map lightT) r.2.1 = some (lightT o) := by rw [atI_int _ _ h2, List.getElem?_map, h3]; rfl
    have e3 : atI [D.int t.n, D.int t.c, D.tup (t.roads.map roadT), D.tup (t.lights.map lightT)] 3 = some (D.tup (t.lights.map lightT)) := rfl
    have e4 : atI [D.int t.n, D.int t.c, D.tup (t.roads.map roadT), D.tup (t.lights.map lightT)] 2 = some (D.tup (t.roads.map roadT)) := rfl
    have e5 : atI [D.int r.1, D.int r.2.1, D.int r.2.2] 1 = some (D.int r.2.1) := rfl
    refine wp_forB rfl ?_
    simp [e1, e2, e3, e4, e5, roadT]
    cases o with
    | none =>
      have hn : neverB t i = false := by simp [neverB, h4]
      simp [lightT]
      subst hJ
      simp [hn]
    | some l =>
      simp [lightT]
      refine wp_lcM l.2 rowT (fun r => .bl (hasI r.2 (i : Int))) (by simp [atI, ixN]) (Nat.le_trans (h5 l rfl).rows.2 (by decide)) ?_ ?_
      · intro r hr
        refine wp_lcB rfl ?_
        simp [inR_ints]
      · cases hn : neverB t i with
        | false =>
          have hn' : (l.2.any fun r => hasI r.2 (i : Int)) = true := by simpa [neverB, h4] using hn
          simp [anyR_Y, hn']
          subst hJ
          simp [hn]
        | true =>
          have hn' : (l.2.any fun r => hasI r.2 (i : Int)) = false := by simpa [neverB, h4] using hn
          simp [anyR_Y, hn']
          refine wp_app ?_
          simp [lstAt, hz]
          subst hJ
          simp [hn]
  · rintro s rfl
    simp [neverI]
theorem s_never_green (t : Tw) (ok : Ok t) (st : Sto) : m_never_green [t.D] st = .ok (.tup ((neverI t).map D.int)) st := by
  simp [m_never_green, runFn, b_never_green, s_need_town t ok, s_never_by t ok]
end Lb

set_option maxRecDepth 100000
set_option maxHeartbeats 1000000
namespace Lb
open PySem L2
/-! ### the pen -/
/-- the n-th thing of the store is a pen that was asked at most B times in vain -/
def Pen (st : Sto) (n : Nat) (B : Int) : Prop := ∃ a b c : Int, st[n]? = some [.int a, .int b, .int c] ∧ 0 ≤ a ∧ 0 ≤ b ∧ b < 1000000007 ∧ 0 ≤ c ∧ c ≤ B
theorem Pen.le {st : Sto} {n : Nat} {B B' : Int} (p : Pen st n B) (h : B ≤ B') : Pen st n B' := by
  obtain ⟨a, b, c, h1, h2, h3, h4, h5, h6⟩ := p
  exact ⟨a, b, c, h1, h2, h3, h4, h5, by omega⟩
theorem st_set {st : Sto} {n : Nat} {xs ys : List D} (h : st[n]? = some xs) : (st.set n ys)[n]? = some ys := by
  rw [List.getElem?_set_self (List.getElem?_eq_some_iff.mp h).1]
theorem s_draw (st : Sto) (n : Nat) (B m : Int) (p : Pen st n B) (hB : B ≤ 1000000000) (hm : 0 < m) (hm2 : m < 1073741824) :
    ∃ r st', m_l_draw [.ref n, .int m] st = .ok (.int r) st' ∧ 0 ≤ r ∧ r < m ∧ Pen st' n (B + 1) := by
  obtain ⟨a, b, c, h1, h2, h3, h4, h5, h6⟩ := p
  by_cases ha : 0 < a
  · refine ⟨a % m, st.set n [.int (a / m), .int b, .int c], ?_, Int.emod_nonneg _ (by omega), Int.emod_lt_of_pos _ hm, ⟨a / m, b, c, st_set h1, Int.ediv_nonneg h2 (by omega), h3, h4, h5, by omega⟩⟩
    simp [m_l_draw, runFn, b_l_draw, h1, atI, ixN, ha, prim_mod, prim_fdiv, hm, hm2, exs_setR, setL]
  · have hbig : big = 18446744073709551616 := by decide
    have x0 : ∀ k : Int, 0 ≤ k % 2147483647 ∧ k % 2147483647 < 2147483647 := fun k => ⟨Int.emod_nonneg _ (by omega), Int.emod_lt_of_pos _ (by omega)⟩
    have x1 : ∀ k : Int, 0 ≤ k % 2147483629 ∧ k % 2147483629 < 2147483629 := fun k => ⟨Int.emod_nonneg _ (by omega), Int.emod_lt_of_pos _ (by omega)⟩
    generalize hs1 : (b + 17 * (c + 1)) * (69621 + 2 * (c + 1)) % 2147483647 = s1
    generalize hs2 : (s1 * s1 + 40503 * (c + 1) + 5) % 2147483629 = s2
    have q1 := x0 ((b + 17 * (c + 1)) * (69621 + 2 * (c + 1)))
    rw [hs1] at q1
    have q2 := x1 (s1 * s1 + 40503 * (c + 1) + 5)
    rw [hs2] at q2
    refine ⟨s2 * 48271 % 2147483647 / 32 % m, st.set n [.int a, .int b, .int (c + 1)], ?_, Int.emod_nonneg _ (by omega), Int.emod_lt_of_pos _ hm, ⟨a, b, c + 1, st_set h1, h2, h3, h4, by omega, by omega⟩⟩
    have y1 : (-big < b + 17 * (c + 1) ∧ b + 17 * (c + 1) < big) := by rw [hbig]; omega
    have y2 : (-big < s1 ∧ s1 < big) := by rw [hbig]; omega
    have y3 : (-big < s2 ∧ s2 < big) := by rw [hbig]; omega
    have y4 : (-big < (17 : Int) ∧ (17 : Int) < big) := by rw [hbig]; omega
    have y5 : (-big < (2 : Int) ∧ (2 : Int) < big) := by rw [hbig]; omega
    have y6 : (-big < (40503 : Int) ∧ (40503 : Int) < big) := by rw [hbig]; omega
    simp [m_l_draw, runFn, b_l_draw, h1, atI, ixN, ha, prim_mod, prim_fdiv, prim_mul, hm, exs_setR, setL, st_set h1, y1, y2, y3, y4, y5, y6, hs1, hs2]
/-- a draw -/
theorem w_draw {st : Sto} {n : Nat} {m : Int} {Q : D → Sto → Prop} (B : Int) (p : Pen st n B) (hB : B ≤ 1000000000) (hm : 0 < m) (hm2 : m < 1073741824) (h : ∀ r st', 0 ≤ r → r < m → Pen st' n (B + 1) → Q (.int r) st') : wp (m_l_draw [.ref n, .int m] st) Q := by
  obtain ⟨r, st', e, r1, r2, p'⟩ := s_draw st n B m p hB hm hm2
  exact wp_of e (h r st' r1 r2 p')
theorem w_cell_at {ns : List Int} {k : Nat} {st : Sto} {Q : D → Sto → Prop} (h : ∀ v : Int, Q (.int v) st) : wp (m_l_cell_at [.lst (ns.map D.int), .int k] st) Q := by
  rw [r_l_cell_at _ _ _ rfl]
  by_cases hk : k < ns.length
  · have e : atI (ns.map D.int) (k : Int) = some (.int ns[k]) := by rw [atN, List.getElem?_map, List.getElem?_eq_getElem hk]; rfl
    simp [b_l_cell_at, hk, e, h]
  · simp [b_l_cell_at, hk, h]
theorem w_pen {v : Int} {st : Sto} {Q : D → Sto → Prop} (h : ∀ st', Pen st' st.length 0 → Q (.ref st.length) st') : wp (m_l_pen [.int v] st) Q := by
  have e : m_l_pen [.int v] st = .ok (.ref st.length) (st ++ [[.int (if 1000000000000000000 < v then v - 1000000000000000000 else 0), .int (v % 1000000007), .int 0]]) := by
    simp [m_l_pen, runFn, b_l_pen, prim_pow, prim_mod]
  refine wp_of e (h _ ⟨(if 1000000000000000000 < v then v - 1000000000000000000 else 0), v % 1000000007, 0, by simp, ?_, Int.emod_nonneg _ (by omega), Int.emod_lt_of_pos _ (by omega), Int.le_refl _, Int.le_refl _⟩)
  split <;> omega
/-! ### rising lists -/
/-! ### lights are drawn -/
structure LI (n : Nat) (B c : Int) (es : List Int) (m : Nat) (rows : List (Int × List Int)) (left : Int) (st : Sto) : Prop where
  m : left ≤ m
  z : 0 ≤ left
  lc : left ≤ c
  t : 0 < left → rows.length ≤ 3
  f : rows.length ≤ 4
  e : left = 0 → rows.length ≠ 0
  p : Pen st n (B + 1 + 12 * (c - left))
  s : (rows.map (·.1)).sum = c - left
  r : ∀ r ∈ rows, 1 ≤ r.1 ∧ r.1 ≤ c ∧ r.2.Sublist es
theorem w_lights {n : Nat} {roads : List (Int × Int × Int)} {k c : Int} {st : Sto} {Q : D → Sto → Prop} (B : Int) (p : Pen st n B) (hB : B ≤ 1000000) (hc : 1 ≤ c ∧ c ≤ 12) (hr : roads.length ≤ 10)
    (h : ∀ (o : Option (Int × List (Int × List Int))) (st' : Sto), Pen st' n (B + 200) → (∀ l, o = some l → OkL ⟨0, c, roads, []⟩ k l) → Q (lightT o) st') : wp (m_l_lights [.ref n, .lst (roads.map roadT), .int k, .int c] st) Q := by
  rw [r_l_lights _ _ _ rfl]
  simp [b_l_lights]
  refine w_draw B p (by omega) (by omega) (by omega) fun r0 st1 r1 r2 p1 => ?_
  simp
  by_cases hz : r0 < 2
  · simp [hz]
    exact h none st1 (p1.le (by omega)) fun l e => by cases e
  · simp [hz]
    refine wp_lcF (enumI 0 roads) (fun p => .tup [.int p.1, roadT p.2]) (fun p => decide (p.2.2.1 = k)) (fun p => .int p.1) (by simp [enumL_map]) (by rw [enumI_len]; omega) ?_ ?_
    · intro p hp
      refine wp_lcB rfl ?_
      by_cases hk : p.2.2.1 = k <;> simp [roadT, atI, ixN, eqR, hk]
    have e3 : ((enumI 0 roads).filter fun p => decide (p.2.2.1 = k)).map (fun p => D.int (p.1 : Int)) = (endsI roads k).map D.int := by unfold endsI; rw [List.map_map]; rfl
    rw [e3]
    have hns : (endsI roads k).length ≤ 10 := Nat.le_trans (ends_len roads k) hr
    simp [setVs]
    refine wp_wh ?_
    refine wp_while (fun m s => ∃ (rows : List (Int × List Int)) (left : Int) (st : Sto), s = ⟨[_, _, _, _, some (.lst ((endsI roads k).map D.int)), some (.lst (rows.map rowT)), some (.int left), none, none, none, none], st⟩ ∧ LI n B c (endsI roads k) m rows left st) ?_ 12 ⟨[], c, st1, rfl, by omega, by omega, by omega, by simp, by simp, by omega, by simpa using p1, by simp, by simp⟩ (by decide)
    rintro J hJ m s ⟨rows, left, st2, rfl, hm, h0, hlc, h3, h4, hn, p2, sum2, q2⟩
    refine wp_of (x := decide (0 < left)) (y := ⟨_, st2⟩) (by simp; rfl) ?_
    by_cases hl : 0 < left
    · rw [if_pos (decide_eq_true hl)]
      match m, hm with
      | 0, hm => omega
      | m + 1, hm =>
        refine ⟨m, rfl, ?_⟩
        have hr3 := h3 hl
        have hz : rows.length < sizeLine := lt_line (by omega)
        rw [exs_asg, wp_bind]
        refine wp_cut (fun d st3 => ∃ b : Int, d = .int b ∧ Pen st3 n (B + 1 + 12 * (c - left) + 1) ∧ 1 ≤ b ∧ b ≤ left ∧ (b < left → rows.length < 3)) ?_ ?_
        · by_cases hr : rows.length < 3
          · simp [show (rows.length : Int) < 3 by omega]
            refine w_draw _ p2 (by omega) (by omega) (by omega) fun r st3 r1 r2 p3 => ?_
            simp
            refine ⟨p3, ?_, ?_, fun _ => hr⟩ <;> split <;> omega
          · simp [show ¬ (rows.length : Int) < 3 by omega]
            exact ⟨p2.le (by omega), by omega⟩
        rintro d st3 ⟨b, rfl, p3, b1, b2, b3⟩
        simp
        refine wp_lc ?_
        simp
        refine wp_lcY (endsI roads k) D.int (fun pre ds s => ∃ (gs : List Int) (st : Sto), ds = gs.map D.int ∧ gs.Sublist pre ∧ s = ⟨[_, _, _, _, _, _, _, _, _, _, _], st⟩ ∧ Pen st n (B + 1 + 12 * (c - left) + 1 + pre.length)) ⟨[], st3, rfl, .slnil, rfl, by simpa using p3⟩ ?_ ?_
        · rintro J2 hJ2 pre g post ds s e ⟨gs, st4, rfl, hs, rfl, p4⟩
          have hlen := congrArg List.length e
          simp at hlen
          refine wp_lcB rfl ?_
          simp
          refine w_draw _ p4 (by omega) (by omega) (by omega) fun r st5 r1 r2 p5 => ?_
          by_cases hr : 1 < r
          · simp [hr]
            subst hJ2
            exact ⟨gs ++ [g], st5, by simp, hs.append (List.Sublist.refl _), rfl, p5.le (by simp; omega)⟩
          · simp [hr]
            subst hJ2
            exact ⟨gs, st5, by simp, hs.trans (List.sublist_append_left _ _), rfl, p5.le (by simp; omega)⟩
        rintro ds s ⟨gs, st4, rfl, hs, rfl, p4⟩
        refine ⟨by rw [List.length_map]; exact le_line (Nat.le_trans hs.length_le (by omega)), ?_⟩
        simp
        refine wp_app ?_
        simp [lstAt, hz]
        subst hJ
        refine ⟨rows ++ [(b, gs)], left - b, st4, by simp [rowT], by omega, by omega, by omega, fun q => by have := b3 (by omega); simp; omega, by simp; omega, by simp, p4.le (by omega), by simp [sum2]; omega, fun r hr => ?_⟩
        rcases List.mem_append.mp hr with q | q
        · exact q2 r q
        · rw [List.mem_singleton.mp q]; exact ⟨b1, by show b ≤ c; omega, hs⟩
    · have : left = 0 := by omega
      subst this
      simp
      refine w_draw _ p2 (by omega) (by omega) (by omega) fun r5 st3 s1 s2 p3 => ?_
      refine h (some (r5, rows)) st3 (p3.le (by omega)) fun l e => ?_
      cases e
      refine ⟨⟨s1, s2⟩, ⟨?_, h4⟩, fun r hr' => ?_, by simpa using sum2⟩
      · have := hn rfl
        show 1 ≤ rows.length
        omega
      · obtain ⟨a1, a2, a3⟩ := q2 r hr'
        exact ⟨a1, by omega, rise_sub a3 (ends_rise roads k), Nat.le_trans a3.length_le hns, fun g hg => a3.subset hg⟩
end Lb

set_option maxRecDepth 100000
set_option maxHeartbeats 1000000
namespace Lb
open PySem L2
theorem pick_circle (r : Int) (h1 : 0 ≤ r) (h2 : r < 6) : ∃ c : Int, atI [D.int 1, D.int 2, D.int 3, D.int 4, D.int 6, D.int 12] r = some (.int c) ∧ 1 ≤ c ∧ c ≤ 12 := by
  have : r = 0 ∨ r = 1 ∨ r = 2 ∨ r = 3 ∨ r = 4 ∨ r = 5 := by omega
  rcases this with rfl | rfl | rfl | rfl | rfl | rfl
  · exact ⟨1, rfl, by omega, by omega⟩
  · exact ⟨2, rfl, by omega, by omega⟩
  · exact ⟨3, rfl, by omega, by omega⟩
  · exact ⟨4, rfl, by omega, by omega⟩
  · exact ⟨6, rfl, by omega, by omega⟩
  · exact ⟨12, rfl, by omega, by omega⟩
theorem ne_nil (rs : List (Int × Int × Int)) : eqR (.lst (rs.map roadT)) (.lst []) = some rs.isEmpty := by
  have e1 : D.flat 60 (.lst (rs.map roadT)) = true := flats_roads rs 58
  have e2 : D.flat 60 (.lst []) = true := rfl
  show (if (D.flat 60 (.lst (rs.map roadT)) && D.flat 60 (.lst [])) = true then some (D.eqv (.lst (rs.map roadT)) (.lst [])) else none) = _
  rw [e1, e2]
  cases rs with
  | nil => rfl
  | cons r rs => rfl
theorem pop_road (rs : List (Int × Int × Int)) (i : Int) (h1 : 0 ≤ i) (h2 : i < rs.length) : ∃ r, rs[i.toNat]? = some r ∧ popL (rs.map roadT) i = some (roadT r, (rs.eraseIdx i.toNat).map roadT) := by
  have hl : i.toNat < rs.length := by omega
  refine ⟨rs[i.toNat], List.getElem?_eq_getElem hl, ?_⟩
  unfold popL ixN
  rw [if_pos h1, if_pos (by simpa using h2)]
  simp [List.getElem?_eq_getElem hl, erase_map]
structure MI (kk n : Nat) (B : Int) (q : Int × Int × Int → Prop) (k m : Nat) (left mixed : List (Int × Int × Int)) (st : Sto) : Prop where
  o : ∀ c : Nat, c < kk → ∃ r, (r ∈ left ∨ r ∈ mixed) ∧ r.1 = (c : Int)
  m : left.length = m
  l : left.length + mixed.length = k
  q1 : ∀ r ∈ left, q r
  q2 : ∀ r ∈ mixed, q r
  p : Pen st n (B + mixed.length)
theorem w_townO {n : Nat} {st : Sto} {Q : D → Sto → Prop} (B : Int) (p : Pen st n B) (hB : B ≤ 900000) (h : ∀ (t : Tw) (st' : Sto), Ok t → t.n ≤ 4 → Outs t → Pen st' n (B + 2000) → Q t.D st') : wp (m_l_town [.ref n] st) Q := by
  rw [r_l_town _ _ _ rfl]
  simp [b_l_town]
  refine w_draw B p (by omega) (by omega) (by omega) fun r st1 r1 r2 p1 => ?_
  simp
  refine w_draw _ p1 (by omega) (by omega) (by omega) fun s st2 s1 s2 p2 => ?_
  obtain ⟨c, ec, c1, c2⟩ := pick_circle s s1 s2
  obtain ⟨k, hk⟩ : ∃ k : Nat, 1 + r = (k : Int) := ⟨(1 + r).toNat, by omega⟩
  have hk4 : 1 ≤ k ∧ k ≤ 4 := by omega
  simp [ec, hk, setVs]
  refine wp_lc ?_
  simp [items_nat k (by omega)]
  refine wp_lcY (List.range k) (fun i : Nat => D.int (i : Int)) (fun pre ds s => ∃ (rs : List (Int × Int × Int)) (st : Sto), ds = rs.map roadT ∧ s = ⟨[_, _, _, _, _, _, _, _, _], st⟩ ∧ (∀ r ∈ rs, RoadOk k r) ∧ rs.length = pre.length ∧ Outr pre.length rs ∧ Pen st n (B + 1 + 1 + pre.length)) ⟨[], st2, rfl, rfl, by simp, rfl, fun c hc => absurd hc (by simp), by simpa using p2⟩ ?_ ?_
  · rintro J hJ pre x post ds s e ⟨rs, st3, rfl, rfl, o3, l3, u3, p3⟩
    obtain ⟨hxp, hx⟩ := pre_lt e
    refine wp_lcB rfl ?_
    simp [prim_mod, show 0 < k by omega]
    refine w_draw _ p3 (by omega) (by omega) (by omega) fun u st4 u1 u2 p4 => ?_
    simp
    subst hJ
    refine ⟨rs ++ [((x : Int), ((x : Int) + 1) % (k : Int), 1 + u)], st4, by simp [roadT], rfl, fun q hq => ?_, by simp; omega, fun d hd => ?_, p4.le (by simp; omega)⟩
    rotate_left
    · by_cases hdp : d < pre.length
      · obtain ⟨a, b, q⟩ := u3 d hdp
        exact ⟨a, b, List.mem_append_left _ q⟩
      · have : d = x := by simp at hd; omega
        subst this
        exact ⟨_, _, List.mem_append_right _ (List.mem_singleton.mpr rfl)⟩
    rcases List.mem_append.mp hq with q' | q'
    · exact o3 q q'
    · rw [List.mem_singleton.mp q']
      exact ⟨⟨by show (0 : Int) ≤ x; omega, by show (x : Int) < k; omega⟩, ⟨Int.emod_nonneg _ (by omega), Int.emod_lt_of_pos _ (by omega)⟩, by show 1 ≤ 1 + u; omega, by show 1 + u ≤ 5; omega⟩
  rintro ds s ⟨rs, st3, rfl, rfl, o3, l3, u3, p3⟩
  simp at l3
  rw [List.length_range] at u3
  refine ⟨by rw [List.length_map]; exact le_line (by omega), ?_⟩
  simp
  refine wp_for ?_
  simp
  refine w_draw _ p3 (by simp; omega) (by omega) (by omega) fun u st4 u1 u2 p4 => ?_
  obtain ⟨w, hw⟩ : ∃ w : Nat, u = (w : Int) := ⟨u.toNat, by omega⟩
  subst hw
  simp [items_nat w (by omega)]
  refine wp_forY (List.range w) (fun i : Nat => D.int (i : Int)) (fun pre s => ∃ (rs : List (Int × Int × Int)) (st : Sto), s = ⟨[_, _, _, some (.lst (rs.map roadT)), _, none, none, none, none], st⟩ ∧ (∀ r ∈ rs, RoadOk k r) ∧ rs.length = k + pre.length ∧ Outr k rs ∧ Pen st n (B + 1 + 1 + k + 1 + 3 * pre.length)) ⟨rs, st4, rfl, o3, by simpa using l3, u3, p4.le (by simp)⟩ ?_ ?_
  · rintro J hJ pre x post s e ⟨rs, st5, rfl, o5, l5, u5, p5⟩
    obtain ⟨hp, hx⟩ := pre_lt e
    refine wp_forB rfl (wp_app ?_)
    simp [lstAt]
    refine w_draw _ p5 (by omega) (by omega) (by omega) fun a st6 a1 a2 p6 => ?_
    refine w_draw _ p6 (by omega) (by omega) (by omega) fun b st7 b1 b2 p7 => ?_
    refine w_draw _ p7 (by omega) (by omega) (by omega) fun d st8 d1 d2 p8 => ?_
    simp
    refine ⟨lt_line (by omega), ?_⟩
    subst hJ
    refine ⟨rs ++ [(a, b, 1 + d)], st8, by simp [roadT], fun q hq => ?_, by simp; omega, fun c hc => (u5 c hc).imp fun _ q => q.imp fun _ q => List.mem_append_left _ q, p8.le (by simp; omega)⟩
    rcases List.mem_append.mp hq with q' | q'
    · exact o5 q q'
    · rw [List.mem_singleton.mp q']
      exact ⟨⟨a1, a2⟩, ⟨b1, b2⟩, by show 1 ≤ 1 + d; omega, by show 1 + d ≤ 5; omega⟩
  rintro s ⟨rs, st5, rfl, o5, l5, u5, p5⟩
  simp at l5
  simp [setVs]
  refine wp_wh ?_
  refine wp_while (fun m s => ∃ (left mixed : List (Int × Int × Int)) (st : Sto), s = ⟨[_, _, _, _, _, none, some (.lst (left.map roadT)), some (.lst (mixed.map roadT)), none], st⟩ ∧ MI k n (B + 1 + 1 + k + 1 + 3 * w) (RoadOk k) (k + w) m left mixed st) ?_ (k + w) ⟨rs, [], st5, rfl, fun c hc => (let ⟨a, b, q⟩ := u5 c hc; ⟨_, .inl q, rfl⟩), l5, by simpa using l5, o5, by simp, by simpa using p5⟩ (Nat.lt_of_lt_of_le (show k + w < 100 by omega) (by decide))
  rintro J hJ m s ⟨left, mixed, st6, rfl, u6, hm, hl, q1, q2, p6⟩
  refine wp_of (x := !left.isEmpty) (y := ⟨_, st6⟩) (by
    simp [ne_nil left]
    rfl) ?_
  cases left with
  | cons x left =>
    simp at hm hl
    rw [if_pos (by rfl)]
    match m, hm with
    | m + 1, hm =>
      refine ⟨m, rfl, wp_app ?_⟩
      refine ⟨⟨mixed.map roadT, by simp [lstAt]⟩, wp_pop ?_⟩
      refine ⟨⟨(x :: left).map roadT, by simp [lstAt]⟩, ?_⟩
      simp only [ev_call, evs_cons, evs_nil, ev_var, ev_prim, wp_bind, getV_eq, List.getElem?_cons_succ, List.getElem?_cons_zero, wp_ok, prim_lenL, opt_some, g_l_town_l_draw, wp_callM]
      refine w_draw _ p6 (by omega) (by simp <;> omega) (by simp; omega) fun a st7 a1 a2 p7 => ?_
      obtain ⟨y, g1, g2⟩ := pop_road (x :: left) a a1 (by simpa using a2)
      have hy : y ∈ x :: left := List.mem_of_getElem? g1
      have hlen : ((x :: left).eraseIdx a.toNat).length = left.length := by rw [List.length_eraseIdx_of_lt (by simp at a2 ⊢; omega)]; simp
      refine ⟨a, _, _, _, rfl, by simp [lstAt], g2, mixed.map roadT, by simp [lstAt], by rw [List.length_map]; exact lt_line (by omega), ?_⟩
      simp
      subst hJ
      refine ⟨(x :: left).eraseIdx a.toNat, mixed ++ [y], st7, by simp, fun d hd => ?_, by omega, by simp [hlen]; omega, fun r hr => q1 r (List.mem_of_mem_eraseIdx hr), fun r hr => ?_, p7.le (by simp; omega)⟩
      · obtain ⟨r, hr, er⟩ := u6 d hd
        refine ⟨r, ?_, er⟩
        rcases hr with hr | hr
        · rcases mem_erase g1 hr with rfl | q
          · exact .inr (by simp)
          · exact .inl q
        · exact .inr (List.mem_append_left _ hr)
      rcases List.mem_append.mp hr with q' | q'
      · exact q2 r q'
      · rw [List.mem_singleton.mp q']; exact q1 y hy
  | nil =>
    simp at hl
    simp
    refine wp_lc ?_
    simp [items_nat k (by omega)]
    refine wp_lcY (List.range k) (fun i : Nat => D.int (i : Int)) (fun pre ds s => ∃ (os : List (Option (Int × List (Int × List Int)))) (st : Sto), ds = os.map lightT ∧ s = ⟨[_, _, _, _, _, _, _, _, _], st⟩ ∧ (∀ (j : Nat) l, os[j]? = some (some l) → OkL ⟨0, c, mixed, []⟩ j l) ∧ os.length = pre.length ∧ Pen st n (B + 100 + 200 * pre.length)) ⟨[], st6, rfl, rfl, by simp, rfl, p6.le (by simp; omega)⟩ ?_ ?_
    · rintro J2 hJ2 pre x post ds s e ⟨os, st7, rfl, rfl, o7, l7, p7⟩
      obtain ⟨hp, hx⟩ := pre_lt e
      refine wp_lcB rfl ?_
      simp
      refine w_lights _ p7 (by omega) ⟨c1, c2⟩ (by omega) fun o st8 p8 o8 => ?_
      subst hJ2
      refine ⟨os ++ [o], st8, by simp, rfl, fun j l hj => ?_, by simp; omega, p8.le (by simp; omega)⟩
      rw [List.getElem?_append] at hj
      split at hj
      · exact o7 j l hj
      · rename_i hjl
        have : j = os.length := by
          have := (List.getElem?_eq_some_iff.mp hj).1
          simp at this; omega
        subst this
        simp at hj
        have := o8 l hj
        rwa [show x = os.length by omega] at this
    rintro ds s ⟨os, st7, rfl, rfl, o7, l7, p7⟩
    simp at l7
    refine ⟨by rw [List.length_map]; exact le_line (by omega), ?_⟩
    simp
    refine h ⟨k, c, mixed, os⟩ st7 ⟨by show 1 ≤ (k : Int) ∧ (k : Int) ≤ 6; omega, ⟨c1, c2⟩, ⟨by show 1 ≤ mixed.length; omega, by show mixed.length ≤ 10; omega⟩, fun r hr => q2 r hr, by show (os.length : Int) = k; omega, fun j l hj => okL_of (o7 j l hj) rfl rfl⟩ (by show (k : Int) ≤ 4; omega) (fun d hd => (let ⟨r, hr, er⟩ := u6 d (by have : (d : Int) < k := hd; omega); ⟨r, hr.elim (fun q => nomatch q) id, er⟩)) (p7.le (by simp; omega))
theorem w_town {n : Nat} {st : Sto} {Q : D → Sto → Prop} (B : Int) (p : Pen st n B) (hB : B ≤ 900000) (h : ∀ (t : Tw) (st' : Sto), Ok t → t.n ≤ 4 → Pen st' n (B + 2000) → Q t.D st') : wp (m_l_town [.ref n] st) Q := w_townO B p hB fun t st' a b _ c => h t st' a b c
end Lb

set_option maxRecDepth 100000
set_option maxHeartbeats 1000000
/-! lights over a whole circle -/
namespace Lb
open PySem L2
theorem countP_range_const {p : Nat → Bool} {b : Bool} : ∀ n : Nat, (∀ k, k < n → p k = b) → (List.range n).countP p = if b then n else 0
  | 0, _ => by cases b <;> rfl
  | n + 1, h => by
    rw [List.range_succ, List.countP_append, countP_range_const n fun k hk => h k (by omega)]
    have := h n (by omega)
    cases b <;> simp [this]
def rowsSum (i : Int) (rows : List (Int × List Int)) : Int := ((rows.filter fun r => hasI r.2 i).map (·.1)).sum
theorem cnt_rows (i : Int) : ∀ (rows : List (Int × List Int)) (n : Nat), (∀ r ∈ rows, 0 ≤ r.1) → (rows.map (·.1)).sum = n → (((List.range n).countP fun (k : Nat) => hasI (turnI (k : Int) rows) i : Nat) : Int) = rowsSum i rows
  | [], n, _, hn => by
    simp at hn
    have : n = 0 := by omega
    subst this
    rfl
  | (b, g) :: rows, n, h, hn => by
    have hb := h (b, g) List.mem_cons_self
    simp at hb hn
    have hs : 0 ≤ (rows.map (·.1)).sum := by
      have : ∀ l : List (Int × List Int), (∀ r ∈ l, 0 ≤ r.1) → 0 ≤ (l.map (·.1)).sum := fun l => by
        induction l with
        | nil => intro _; simp
        | cons x l ih =>
          intro h
          have h1 := h x List.mem_cons_self
          have h2 := ih fun r hr => h r (List.mem_cons_of_mem _ hr)
          simp
          omega
      exact this rows fun r hr => h r (List.mem_cons_of_mem _ hr)
    obtain ⟨B, rfl⟩ : ∃ B : Nat, b = B := ⟨b.toNat, by omega⟩
    obtain ⟨m, hm⟩ : ∃ m : Nat, n = B + m := ⟨n - B, by omega⟩
    subst hm
    have ih := cnt_rows i rows m (fun r hr => h r (List.mem_cons_of_mem _ hr)) (by omega)
    rw [List.range_add, List.countP_append, List.countP_map]
    rw [countP_range_const (b := hasI g i) B fun k hk => by simp [turnI, hk]]
    have e : (fun k : Nat => hasI (turnI (k : Int) ((↑B, g) :: rows)) i) ∘ (fun x => B + x) = fun k : Nat => hasI (turnI (k : Int) rows) i := by
      funext k
      have : ¬ (((B + k : Nat) : Int) < B) := by omega
      show hasI (if ((B + k : Nat) : Int) < B then g else turnI (((B + k : Nat) : Int) - B) rows) i = _
      rw [if_neg this, show ((B + k : Nat) : Int) - B = k by omega]
    rw [e, Int.natCast_add, ih]
    unfold rowsSum
    cases hg : hasI g i <;> simp [hg]
theorem cnt_rot (p : Int → Bool) (n : Nat) (hn : 0 < n) (a : Int) : ((List.range n).countP fun (k : Nat) => p ((a + (k : Int)) % (n : Int))) = (List.range n).countP fun (k : Nat) => p (k : Int) := by
  have h0 : 0 ≤ a % (n : Int) := Int.emod_nonneg _ (by omega)
  have h1 : a % (n : Int) < n := Int.emod_lt_of_pos _ (by omega)
  obtain ⟨d, hd⟩ : ∃ d : Nat, a % (n : Int) = d := ⟨(a % (n : Int)).toNat, by omega⟩
  have hdn : d ≤ n := by omega
  have e0 : ∀ k : Nat, (a + (k : Int)) % (n : Int) = ((d : Int) + k) % n := fun k => by
    rw [← hd, Int.emod_add_emod]
  obtain ⟨m, rfl⟩ : ∃ m : Nat, n = d + m := ⟨n - d, by omega⟩
  have l1 : (List.range (d + m)).countP (fun (k : Nat) => p (k : Int)) = (List.range d).countP (fun (k : Nat) => p (k : Int)) + (List.range m).countP (fun (k : Nat) => p ((d : Int) + k)) := by
    rw [List.range_add, List.countP_append, List.countP_map]
    congr 1
  have l2 : (List.range (d + m)).countP (fun (k : Nat) => p ((a + (k : Int)) % ((d + m : Nat) : Int))) = (List.range m).countP (fun (k : Nat) => p ((d : Int) + k)) + (List.range d).countP (fun (k : Nat) => p (k : Int)) := by
    rw [Nat.add_comm d m, List.range_add, List.countP_append, List.countP_map]
    congr 1
    · apply List.countP_congr
      intro k hk
      have := List.mem_range.mp hk
      rw [Nat.add_comm m d, e0, Int.emod_eq_of_lt (by omega) (by omega)]
    · apply List.countP_congr
      intro k hk
      have := List.mem_range.mp hk
      simp only [Function.comp]
      rw [Nat.add_comm m d, e0, show ((d : Int) + ((m + k : Nat) : Int)) = k + ((d + m : Nat) : Int) by omega, Int.add_emod_right, Int.emod_eq_of_lt (by omega) (by omega)]
  rw [l1, l2, Nat.add_comm]
theorem rowsSum_rev (i : Int) (rows : List (Int × List Int)) : rowsSum i rows.reverse = rowsSum i rows := by
  unfold rowsSum
  rw [List.filter_reverse, List.map_reverse, List.sum_reverse]
theorem rowsSum_zero (i : Int) : ∀ rows : List (Int × List Int), (∀ r ∈ rows, 1 ≤ r.1) → 0 ≤ rowsSum i rows ∧ (rowsSum i rows = 0 ↔ (rows.any fun r => hasI r.2 i) = false)
  | [], _ => by simp [rowsSum]
  | r :: rows, h => by
    have ih := rowsSum_zero i rows fun q hq => h q (List.mem_cons_of_mem _ hq)
    have h1 := h r List.mem_cons_self
    cases hr : hasI r.2 i with
    | false =>
      have e : rowsSum i (r :: rows) = rowsSum i rows := by unfold rowsSum; rw [List.filter_cons_of_neg (by simp [hr])]
      rw [e]
      simpa [hr] using ih
    | true =>
      have e : rowsSum i (r :: rows) = r.1 + rowsSum i rows := by unfold rowsSum; rw [List.filter_cons_of_pos (by simp [hr])]; simp
      rw [e]
      refine ⟨by omega, ?_⟩
      simp [hr]
      omega
/-- beats of a circle at which lights show the road -/
theorem cnt_circle (c : Nat) (hc : 0 < c) (i s b : Int) (rows : List (Int × List Int)) (hr : ∀ r ∈ rows, 1 ≤ r.1) (hs : (rows.map (·.1)).sum = c) : (((List.range c).countP fun (k : Nat) => hasI (turnI ((b + (k : Int) - s) % (c : Int)) rows) i : Nat) : Int) = rowsSum i rows := by
  rw [← cnt_rows i rows c (fun r q => by have := hr r q; omega) hs]
  have := cnt_rot (fun z => hasI (turnI z rows) i) c hc (b - s)
  rw [← this]
  congr 1
  apply List.countP_congr
  intro k _
  rw [show b - s + (k : Int) = b + k - s by omega]
end Lb

set_option maxRecDepth 100000
set_option maxHeartbeats 1000000
namespace Lb
open PySem L2
/-! ### towns changed -/
def shiftT (t : Tw) (m : Int) : Tw := { t with lights := t.lights.map (Option.map fun l => ((l.1 + m) % t.c, l.2)) }
def turnT (t : Tw) : Tw := { t with lights := t.lights.map (Option.map fun l => (l.1, l.2.reverse)) }
def bareT (t : Tw) : Tw := { t with lights := List.replicate t.n.toNat none }
theorem ok_shift {t : Tw} (ok : Ok t) (m : Int) : Ok (shiftT t m) := by
  refine ⟨ok.n, ok.c, ok.roads, ok.road, by simpa [shiftT] using ok.lights, fun k l h => ?_⟩
  simp only [shiftT, List.getElem?_map] at h
  cases e : t.lights[k]? with
  | none => rw [e] at h; simp at h
  | some o =>
    cases o with
    | none => rw [e] at h; simp at h
    | some l0 =>
      rw [e] at h
      simp at h
      subst h
      have o := ok.light k l0 e
      exact ⟨⟨Int.emod_nonneg _ (by have := ok.c; omega), Int.emod_lt_of_pos _ (by have := ok.c; omega)⟩, o.rows, o.row, o.sum⟩
theorem ok_turn {t : Tw} (ok : Ok t) : Ok (turnT t) := by
  refine ⟨ok.n, ok.c, ok.roads, ok.road, by simpa [turnT] using ok.lights, fun k l h => ?_⟩
  simp only [turnT, List.getElem?_map] at h
  cases e : t.lights[k]? with
  | none => rw [e] at h; simp at h
  | some o =>
    cases o with
    | none => rw [e] at h; simp at h
    | some l0 =>
      rw [e] at h
      simp at h
      subst h
      have o := ok.light k l0 e
      exact ⟨o.s, by simpa using o.rows, fun r hr => o.row r (by simpa using hr), by
        have := o.sum
        show (l0.2.reverse.map (·.1)).sum = t.c
        rw [List.map_reverse, List.sum_reverse]; exact this⟩
theorem ok_bare {t : Tw} (ok : Ok t) : Ok (bareT t) := by
  refine ⟨ok.n, ok.c, ok.roads, ok.road, by have := ok.n; simp [bareT]; omega, fun k l h => ?_⟩
  simp only [bareT, List.getElem?_replicate] at h
  split at h <;> simp at h
theorem lightAt_map (t : Tw) (f : Option (Int × List (Int × List Int)) → Option (Int × List (Int × List Int))) (i : Nat) : lightAt { t with lights := t.lights.map f } i = (lightAt t i).map f := by
  unfold lightAt
  cases t.roads[i]? with
  | none => rfl
  | some r => simp
theorem s_shifted (t : Tw) (ok : Ok t) (m : Int) (st : Sto) : m_l_shifted [t.D, .int m] st = .ok (shiftT t m).D st := by
  refine wp_eq ?_
  rw [r_l_shifted _ _ _ rfl]
  simp [b_l_shifted]
  refine wp_for ?_
  have hc : 0 < t.c := by have := ok.c; omega
  have hl : t.lights.length ≤ 6 := by have := ok.lights; have := ok.n; omega
  simp [Tw.D, atI, ixN]
  refine wp_forY _ lightT (fun pre s => s = ⟨[_, _, some (.lst ((pre.map (Option.map fun l : Int × List (Int × List Int) => ((l.1 + m) % t.c, l.2))).map lightT)), none], st⟩) rfl ?_ ?_
  · rintro J hJ pre o post s e rfl
    have hlen := congrArg List.length e
    simp at hlen
    have hz : pre.length < sizeLine := lt_line (by omega)
    refine wp_forB rfl (wp_app ?_)
    cases o with
    | none =>
      simp [lstAt, lightT, hz]
      subst hJ
      simp [lightT]
    | some l =>
      simp [lstAt, lightT, hz, atI, ixN, prim_mod, hc]
      subst hJ
      simp [lightT]
  · rintro s rfl
    simp [cutD, cutL, HT.sIx, fits, shiftT, (by decide : 4 ≤ sizeLine)]
theorem s_turned (t : Tw) (ok : Ok t) (st : Sto) : m_l_turned [t.D] st = .ok (turnT t).D st := by
  refine wp_eq ?_
  rw [r_l_turned _ _ _ rfl]
  simp [b_l_turned]
  have hl : t.lights.length ≤ 6 := by have := ok.lights; have := ok.n; omega
  refine wp_lcM t.lights lightT (fun o => lightT (o.map fun l => (l.1, l.2.reverse))) (by simp [Tw.D, atI, ixN]) (by omega) ?_ ?_
  · intro o ho
    refine wp_lcB rfl ?_
    cases o with
    | none => simp [lightT]
    | some l => simp [lightT, atI, ixN]
  · simp [cutD, cutL, HT.sIx, fits, turnT, Tw.D, (by decide : 4 ≤ sizeLine)]
def greenRow (t : Tw) (i : Nat) (b : Int) : List Bool := (List.range t.c.toNat).map fun (k : Nat) => greenI t i (b + k)
theorem s_green_row (t : Tw) (ok : Ok t) (i : Nat) (hi : i < t.roads.length) (b : Int) (hb : 0 ≤ b) (st : Sto) : m_l_green_row [t.D, .int i, .int b] st = .ok (.lst ((greenRow t i b).map D.bl)) st := by
  refine wp_eq ?_
  rw [r_l_green_row _ _ _ rfl]
  simp [b_l_green_row]
  have hc := ok.c
  refine wp_lcM (List.range t.c.toNat) (fun k : Nat => D.int (k : Int)) (fun k => .bl (greenI t i (b + k))) ?_ (by simp; omega) ?_ ?_
  · simp [Tw.D, atI, ixN, items_int (show 0 ≤ t.c by omega) (show t.c ≤ 1000 by omega)]
  · intro k hk
    refine wp_lcB rfl ?_
    simp [s_is_green t ok i hi (b + k) (by omega)]
  · simp [greenRow]
/-! ### what the law says of rows -/
theorem green_some {t : Tw} {i : Nat} {l : Int × List (Int × List Int)} (h : lightAt t i = some (some l)) (b : Int) : greenI t i b = hasI (turnI ((b - l.1) % t.c) l.2) (i : Int) := by unfold greenI; rw [h]
theorem green_none {t : Tw} {i : Nat} (h : lightAt t i = some none) (b : Int) : greenI t i b = true := by unfold greenI; rw [h]
theorem row_later (t : Tw) (i : Nat) (b : Int) : greenRow t i (b + t.c) = greenRow t i b := by
  unfold greenRow
  apply List.map_congr_left
  intro k _
  unfold greenI
  split
  · rename_i l e
    rw [show b + t.c + (k : Int) - l.1 = (b + k - l.1) + t.c by omega, Int.add_emod_right]
  · rfl
theorem row_shift (t : Tw) (i : Nat) (b m : Int) : greenRow (shiftT t m) i (b + m) = greenRow t i b := by
  unfold greenRow
  apply List.map_congr_left
  intro k _
  unfold greenI
  rw [show lightAt (shiftT t m) i = _ from lightAt_map t _ i]
  cases lightAt t i with
  | none => rfl
  | some o =>
    cases o with
    | none => rfl
    | some l =>
      show hasI (turnI ((b + m + k - (l.1 + m) % t.c) % t.c) l.2) i = _
      rw [Int.sub_emod, Int.emod_emod, ← Int.sub_emod, show b + m + (k : Int) - (l.1 + m) = b + k - l.1 by omega]
theorem row_none (t : Tw) (i : Nat) (h : lightAt t i = some none) (b : Int) : greenRow t i b = List.replicate t.c.toNat true := by
  unfold greenRow
  rw [List.map_congr_left (g := fun _ => true) fun k _ => green_none h _, List.map_const']
  simp
theorem row_count (t : Tw) (hc : 1 ≤ t.c) (i : Nat) (l : Int × List (Int × List Int)) (h : lightAt t i = some (some l)) (hr : ∀ r ∈ l.2, 1 ≤ r.1) (hs : (l.2.map (·.1)).sum = t.c) (b : Int) : (((greenRow t i b).countP id : Nat) : Int) = rowsSum i l.2 := by
  obtain ⟨c, hcc⟩ : ∃ c : Nat, t.c = c := ⟨t.c.toNat, by omega⟩
  rw [← cnt_circle c (by omega) i l.1 b l.2 hr (by rw [hs, hcc])]
  unfold greenRow
  rw [List.countP_map, hcc, Int.toNat_natCast]
  congr 1
  apply List.countP_congr
  intro k _
  simp only [Function.comp, id, green_some h, hcc]
theorem never_mem (t : Tw) (i : Nat) (hi : i < t.roads.length) : hasI (neverI t) (i : Int) = neverB t i := by
  rw [Bool.eq_iff_iff, hasI_iff]
  unfold neverI
  simp
  constructor
  · rintro ⟨a, ⟨h1, h2⟩, h3⟩
    have : a = i := by omega
    rwa [← this]
  · intro h
    exact ⟨i, ⟨hi, h⟩, rfl⟩
theorem prim_mulB (st : Sto) (n : Int) (h0 : 0 ≤ n) (h1 : n ≤ 1000) : prim st .mul [.lst [.bl true], .int n] = some (.lst ((List.replicate n.toNat true).map D.bl)) := by
  rw [prim_mulL, if_pos ⟨h0, h1, by simp⟩]
  simp
theorem s_right (t : Tw) (ok : Ok t) (i : Nat) (hi : i < t.roads.length) (m b : Int) (hm : 0 ≤ m) (hb : 0 ≤ b) (st : Sto) : m_l_right [t.D, .int i, .int m, .int b] st = .ok (.bl true) st := by
  refine wp_eq ?_
  rw [r_l_right _ _ _ rfl]
  have hc := ok.c
  obtain ⟨r, o, h1, h2, h3, h4, h5⟩ := lightAt_some t ok i hi
  have e1 : atI (t.roads.map roadT) (i : Int) = some (roadT r) := by rw [atN, List.getElem?_map, h1]; rfl
  have e2 : atI (t.lights.map lightT) r.2.1 = some (lightT o) := by rw [atI_int _ _ h2, List.getElem?_map, h3]; rfl
  have d1 : prim st .idx [t.D, .int 1] = some (.int t.c) := rfl
  have d2 : prim st .idx [t.D, .int 2] = some (.tup (t.roads.map roadT)) := rfl
  have d3 : prim st .idx [t.D, .int 3] = some (.tup (t.lights.map lightT)) := rfl
  have d4 : prim st .idx [roadT r, .int 1] = some (.int r.2.1) := rfl
  have hr := row_later t i b
  have hsh := row_shift t i b m
  simp [b_l_right, s_green_row t ok i hi b hb, d1, d2, d3, d4, e1, e2, setVs, s_green_row t ok i hi (b + t.c) (by omega), hr, eqR_bls, s_shifted t ok, s_green_row (shiftT t m) (ok_shift ok m) i hi (b + m) (by omega), hsh]
  cases o with
  | none =>
    have hn : neverB t i = false := by unfold neverB; rw [h4]
    have er : eqR (.lst (List.replicate t.c.toNat (.bl true))) (.lst (List.replicate t.c.toNat (.bl true))) = some true := by
      have := eqR_bls (List.replicate t.c.toNat true) (List.replicate t.c.toNat true)
      rwa [List.map_replicate, decide_eq_true rfl] at this
    simp [er, lightT, prim_mulB st t.c (by omega) (by omega), row_none t i h4, eqR_bls, s_never_green t ok, inR_ints, never_mem t i hi, hn]
  | some l =>
    have okl := h5 l rfl
    have hr1 : ∀ r ∈ l.2, 1 ≤ r.1 := fun r hr => (okl.row r hr).1
    have cnt1 := row_count t (by omega) i l h4 hr1 okl.sum b
    have hturn : lightAt (turnT t) i = some (some (l.1, l.2.reverse)) := by
      rw [show lightAt (turnT t) i = _ from lightAt_map t _ i, h4]; rfl
    have cnt2 := row_count (turnT t) (show 1 ≤ t.c by omega) i (l.1, l.2.reverse) hturn (fun r hr => hr1 r (by simpa using hr)) (by
      show (l.2.reverse.map (·.1)).sum = t.c
      rw [List.map_reverse, List.sum_reverse]; exact okl.sum) 0
    rw [show rowsSum i (l.1, l.2.reverse).2 = rowsSum i l.2.reverse from rfl, rowsSum_rev] at cnt2
    have hn : neverB t i = !(l.2.any fun r => hasI r.2 (i : Int)) := by unfold neverB; rw [h4]
    obtain ⟨hz1, hz2⟩ := rowsSum_zero (i : Int) l.2 hr1
    simp [lightT]
    refine wp_lcF l.2 rowT (fun r => hasI r.2 (i : Int)) (fun r => .int r.1) (by simp [atI, ixN]) (Nat.le_trans okl.rows.2 (by decide)) ?_ ?_
    · intro r hr
      refine wp_lcB rfl ?_
      cases hh : hasI r.2 (i : Int) <;> simp [inR_ints, hh]
    have hsum : sumR ((l.2.filter fun r => hasI r.2 (i : Int)).map fun r => D.int r.1) = some (rowsSum i l.2) := sumR_Y _ _
    have sq : ∀ ds, seqOf (.lst ds) = some ds := fun _ => rfl
    simp [sq, hsum, cnt_bls, cnt1, s_never_green t ok, inR_ints, never_mem t i hi, hn, s_turned t ok, s_green_row (turnT t) (ok_turn ok) i hi 0 (by omega), cnt2]
    cases ha : (l.2.any fun r => hasI r.2 (i : Int)) with
    | false =>
      have := hz2.mpr ha
      simp [this]
    | true =>
      have : rowsSum i l.2 ≠ 0 := fun z => by rw [hz2.mp z] at ha; cases ha
      simp [this]
end Lb

set_option maxRecDepth 100000
set_option maxHeartbeats 1000000
namespace Lb
open PySem L2
theorem never_bare (t : Tw) (ok : Ok t) : neverI (bareT t) = [] := by
  unfold neverI
  rw [List.map_eq_nil_iff, List.filter_eq_nil_iff]
  intro i hi
  have hi := List.mem_range.mp hi
  obtain ⟨r, o, h1, h2, h3, h4, h5⟩ := lightAt_some (bareT t) (ok_bare ok) i hi
  have : o = none := by
    simp only [bareT, List.getElem?_replicate] at h3
    split at h3
    · cases h3; rfl
    · cases h3
  unfold neverB
  rw [h4, this]
  simp
theorem never_turn (t : Tw) : neverI (turnT t) = neverI t := by
  unfold neverI
  show ((List.range t.roads.length).filter (neverB (turnT t))).map _ = _
  congr 1
  apply List.filter_congr
  intro i _
  unfold neverB
  rw [show lightAt (turnT t) i = _ from lightAt_map t _ i]
  cases lightAt t i with
  | none => rfl
  | some o =>
    cases o with
    | none => rfl
    | some l => simp
theorem prim_mulN (st : Sto) (n : Int) (h0 : 1 ≤ n) (h1 : n ≤ 1000) : prim st .mul [.tup [.non], .int n] = some (.tup (List.replicate n.toNat .non)) := by
  rw [prim_mulT, if_pos ⟨by omega, h1, by simp⟩]
  simp
theorem hlaw (ns : List Int) (hl : ns.length ≤ 63) : ∃ st', m_law [.lst (ns.map D.int)] [] = .ok (.bl true) st' := by
  suffices h : wp (m_law [.lst (ns.map D.int)] []) fun d _ => d = .bl true by
    obtain ⟨a, s, e, rfl⟩ := wp_iff.mp h
    exact ⟨s, e⟩
  rw [r_law _ _ _ rfl]
  simp [b_law]
  refine wp_for ?_
  obtain ⟨k, hk, hk4⟩ : ∃ k : Nat, (if 1 < (if 4 < (ns.length : Int) then 4 else (ns.length : Int)) then (if 4 < (ns.length : Int) then 4 else (ns.length : Int)) else 1) = (k : Int) ∧ k ≤ 4 := by
    refine ⟨(if 1 < (if 4 < (ns.length : Int) then 4 else (ns.length : Int)) then (if 4 < (ns.length : Int) then 4 else (ns.length : Int)) else 1).toNat, ?_, ?_⟩ <;> (split <;> (try split) <;> omega)
  simp [hk, items_nat k (by omega)]
  refine wp_forY _ _ (fun pre s => ∃ st, s = ⟨[_, none, none, none, none, none, none, none, none], st⟩) ⟨_, rfl⟩ ?_ ?_
  · rintro J hJ pre x post s e ⟨st, rfl⟩
    refine wp_forB rfl ?_
    simp
    refine w_cell_at fun v => ?_
    refine w_pen fun st1 p1 => ?_
    generalize st.length = n at p1 ⊢
    refine wp_for ?_
    simp
    have e3 : items .rng1 [.int 3] = some ((List.range 3).map fun (i : Nat) => D.int (i : Int)) := items_nat 3 (by omega)
    simp only [e3, opt_some, wp_ok]
    refine wp_forY _ _ (fun pre s => ∃ st, s = ⟨[_, _, some (.ref n), none, none, none, none, none, none], st⟩ ∧ Pen st n (3000 * pre.length)) ⟨_, rfl, by simpa using p1⟩ ?_ ?_
    · rintro J2 hJ2 pre2 x2 post2 s e2 ⟨st2, rfl, p2⟩
      obtain ⟨hx1, hx2⟩ := pre_lt e2
      refine wp_forB rfl ?_
      simp
      refine w_town _ p2 (by omega) fun t st3 ok hn4 p3 => ?_
      have hc := ok.c
      have hn := ok.n
      have hroads := ok.roads
      have d1 : ∀ st, prim st .idx [t.D, .int 1] = some (.int t.c) := fun _ => rfl
      have d2 : ∀ st, prim st .idx [t.D, .int 2] = some (.tup (t.roads.map roadT)) := fun _ => rfl
      have d0 : ∀ st, prim st .idx [t.D, .int 0] = some (.int t.n) := fun _ => rfl
      have dc : ∀ st, prim st (.cut false true) [t.D, .int 3] = some (.tup [.int t.n, .int t.c, .tup (t.roads.map roadT)]) := fun _ => rfl
      simp [d1]
      refine w_draw _ p3 (by omega) (by omega) (by omega) fun m st4 m1 m2 p4 => ?_
      refine w_draw _ p4 (by omega) (by omega) (by omega) fun b st5 b1 b2 p5 => ?_
      simp [setVs]
      refine wp_lcM (List.range t.roads.length) (fun k : Nat => D.int (k : Int)) (fun _ => .bl true) (by simp [d2, items_nat _ (show t.roads.length ≤ 1000 by omega)]) (by simp; omega) ?_ ?_
      · intro i hi
        refine wp_lcB rfl ?_
        simp [s_right t ok i (List.mem_range.mp hi) m b m1 b1]
      have hb : D.tup ([.int t.n, .int t.c, .tup (t.roads.map roadT)] ++ [D.tup (List.replicate t.n.toNat .non)]) = (bareT t).D := by
        simp [bareT, Tw.D, lightT]
      simp at hb
      have e0 := eqR_ints [] []
      simp at e0
      simp [allR_Y (fun _ : Nat => true), d0, dc, prim_mulN _ t.n (by omega) (by omega), fits, (by decide : 4 ≤ sizeLine), hb, s_never_green _ (ok_bare ok), never_bare t ok, s_turned t ok, s_never_green _ (ok_turn ok), s_never_green t ok, never_turn, eqR_ints, e0]
      subst hJ2
      exact ⟨_, rfl, p5.le (by simp; omega)⟩
    · rintro s ⟨st2, rfl, p2⟩
      subst hJ
      simp
  · rintro s ⟨st, rfl⟩
    simp
end Lb

set_option maxRecDepth 1000000
set_option maxHeartbeats 0
theorem PySem.Challenge.cw_lanebeats_k09_whole_lights_holds : PySem.Challenge.rw_lanebeats_k09_whole_lights.Holds := by
  w_on; o_law
  refine HandSHeadRun.head_any (r := PySem.W.OpenLaw.row PySem.Challenge.rw_lanebeats_k09_whole_lights) (q := PySem.W.view (PySem.W.OpenLaw.row PySem.Challenge.rw_lanebeats_k09_whole_lights).prog [39]) (H := Lb.hk) (ob := Lb.ob) (M := 20000) (loose := Lb.loose) (d := HandSHeadRun.topDef (PySem.W.OpenLaw.row PySem.Challenge.rw_lanebeats_k09_whole_lights).prog 39) (kwd := []) Lb.ob_eq
    (by kernel_rfl) (fun s => by kernel_rfl) Lb.run (by kernel_rfl) (by kernel_rfl) (by kernel_rfl) (by rfl) (by first | assumption | decide +kernel) (by decide +kernel) ⟨rfl, rfl, rfl, rfl, rfl, by decide +kernel⟩ ?hw ?hc
  case hw => w_witness2
  case hc =>
    refine L2.walk_ofE (l := PySem.Challenge.rw_lanebeats_k09_whole_lights) (n := 63) (k := 27) (x := "_law_script") (CX := L2.CX0) rfl (by decide) (by kernel_rfl) ⟨rfl, by decide, by decide⟩ ?F (fun _ _ _ _ z => z)
    intro w mg fa h Y G hmg0
    obtain ⟨K, KX, c⟩ := Y
    have hmg : mg ("law" : PySem.Str) = some (.ref fa) := by
      have e : (HandSHeadRun.topDef (PySem.W.OpenLaw.row PySem.Challenge.rw_lanebeats_k09_whole_lights).prog 39).name = ("law" : PySem.Str) := by kernel_rfl
      rw [← e]
      exact hmg0
    obtain ⟨fd, sp, hb, hs, hF⟩ := Lb.facts Lb.hlaw (P := (PySem.Challenge.rw_lanebeats_k09_whole_lights).prog) (w := w) KX G hmg c
    exact ⟨K, fd, sp, KX, hb, fun H a ns hl _ hS => hs H a ns hl hS, fun base _ _ => hF base⟩
