import PyProof.Rows.All
import Wide.All
import OpenK.AllK
import Wide.FinOn
import HandS.ForMost
import HandS.ForExc
import HandS.Walk
import HandS.Zip
import HandS.IsInst
import HandS.Defaults
import HandS.HeadHook2
import KE.DataEq
import HandS.TupAny
import HandS.TupMul
import HandS.SetFor
import HandS.Style
import KE.DataFind
import HandS.Flow
import KE.GoesEnum
import KE.GoesMore
import HandS.ExcOwn
import HandS.CallSlots
import HandS.Small
import HandS.Head0
import HandS.Head1
import HandS.Head2
import HandS.HeadEnd
import HandS.HeadHook1
import PySem.Challenge.RW_lanebeats_k09_whole_lights
set_option linter.all false
set_option Elab.async false
set_option maxRecDepth 100000
/-! Lb: a small language without places, and what it means. Values are trees; lists and dicts by value; pens and the like stand in a store. -/
namespace Lb
open PySem PySem.Spec PyProof.Rows L2

inductive D where
  | non | bl (b : Bool) | int (i : Int) | str (s : Str) | tup (xs : List D) | lst (xs : List D) | dic (kvs : List (D × D)) | ref (n : Nat)
  deriving Inhabited

/-- an error: its class by name, its fields -/
structure X where
  cls : Str
  fs : List D
inductive R (σ α : Type) where
  | ok (a : α) (s : σ) | exc (e : X) (s : σ) | fail
def R.bind {σ α β : Type} : R σ α → (α → σ → R σ β) → R σ β
  | .ok a s, f => f a s
  | .exc e s, _ => .exc e s
  | .fail, _ => .fail
/-- an error within is no answer -/
def R.noX {σ α : Type} : R σ α → R σ α
  | .exc _ _ => .fail
  | r => r
@[simp] theorem R.noX_ok {σ α : Type} (a : α) (s : σ) : (R.ok a s).noX = .ok a s := rfl
@[simp] theorem R.bind_ok {σ α β : Type} (a : α) (s : σ) (f : α → σ → R σ β) : (R.ok a s).bind f = f a s := rfl
@[simp] theorem R.bind_exc {σ α β : Type} (e : X) (s : σ) (f : α → σ → R σ β) : (R.exc e s : R σ α).bind f = .exc e s := rfl
@[simp] theorem R.bind_fail {σ α β : Type} (f : α → σ → R σ β) : (R.fail : R σ α).bind f = .fail := rfl
abbrev Sto := List (List D)
structure S where
  env : List (Option D)
  st : Sto
abbrev Fn := List D → Sto → R Sto D

/-! ### values -/
mutual
def D.eqv : D → D → Bool
  | .non, .non => true
  | .bl a, .bl b => a == b
  | .bl a, .int j => (if a then 1 else 0) == j
  | .int i, .bl b => i == (if b then 1 else 0)
  | .int i, .int j => i == j
  | .str x, .str y => x == y
  | .lst xs, .lst ys => D.eqvs xs ys
  | .tup xs, .tup ys => D.eqvs xs ys
  | _, _ => false
def D.eqvs : List D → List D → Bool
  | [], [] => true
  | x :: xs, y :: ys => D.eqv x y && D.eqvs xs ys
  | _, _ => false
end
mutual
/-- no dict and no thing of the store within, at most so deep -/
def D.flat : Nat → D → Bool
  | _, .non => true
  | _, .bl _ => true
  | _, .int _ => true
  | _, .str _ => true
  | n + 1, .tup xs => D.flats n xs
  | n + 1, .lst xs => D.flats n xs
  | _, _ => false
def D.flats : Nat → List D → Bool
  | _, [] => true
  | n, x :: xs => D.flat n x && D.flats n xs
end
def eqR : D → D → Option Bool
  | .int i, .int j => some (i == j)
  | .str x, .str y => some (x == y)
  | .bl x, .bl y => some (x == y)
  | .non, .non => some true
  | a, b => if D.flat 60 a && D.flat 60 b then some (D.eqv a b) else none
def inR (x : D) (ys : List D) : Option Bool := if D.flat 60 x && D.flats 60 ys then some (ys.any fun y => D.eqv y x) else none
def truthy : D → Option Bool
  | .non => some false
  | .bl b => some b
  | .int i => some (i != 0)
  | .str s => if s.length ≤ sizeLine then some ((s.length : Int) != 0) else none
  | .tup xs => some (!xs.isEmpty)
  | .lst xs => some (!xs.isEmpty)
  | .dic _ => none
  | .ref _ => none
def bls : List D → Option (List Bool)
  | [] => some []
  | .bl b :: xs => (bls xs).map (b :: ·)
  | _ => none
def allR (xs : List D) : Option Bool := (bls xs).map (·.all id)
def anyR (xs : List D) : Option Bool := (bls xs).map (·.any id)
def sumR : List D → Option Int
  | [] => some 0
  | .int i :: xs => (sumR xs).map (i + ·)
  | _ => none
inductive Ty where
  | int | bool | str | tuple | list | dict
  deriving DecidableEq
def isTy : Ty → D → Option Bool
  | .list, .ref _ => some true
  | .int, .int _ => some true
  | .int, .bl _ => some true
  | .bool, .bl _ => some true
  | .str, .str _ => some true
  | .tuple, .tup _ => some true
  | .list, .lst _ => some true
  | .dict, .dic _ => some true
  | _, _ => some false

def isNon' : D → Bool
  | .non => true
  | _ => false
inductive P where
  | add | sub | mul | mod | fdiv | pow | neg | pnot
  | eq | ne | lt | le | gt | ge | isN | notN | isB | inn | nin
  | len | isI (t : Ty) | max2 | min2 | sum | all | any | tuple | list
  | idx | cut (lo hi : Bool) | rev | cnt
  deriving DecidableEq
def cutD (lo hi : Bool) : List D → Option (Option Int × Option Int)
  | [.int i, .int j] => if lo && hi then some (some i, some j) else none
  | [.int i] => if lo && !hi then some (some i, none) else if !lo && hi then some (none, some i) else none
  | [] => if !lo && !hi then some (none, none) else none
  | _ => none
def cutL (xs : List D) (lo hi : Option Int) : List D := (xs.drop (HT.sIx xs.length 0 lo)).take (HT.sIx xs.length xs.length hi - HT.sIx xs.length 0 lo)
def fits {α : Type} (xs : List α) : Bool := decide (xs.length ≤ sizeLine)
def big : Int := 2 ^ 64
def prim (st : Sto) : P → List D → Option D
  | .add, [.int a, .int b] => some (.int (a + b))
  | .add, [.tup a, .tup b] => if fits (a ++ b) then some (.tup (a ++ b)) else none
  | .add, [.lst a, .lst b] => if fits (a ++ b) then some (.lst (a ++ b)) else none
  | .sub, [.int a, .int b] => some (.int (a - b))
  | .mul, [.int a, .int b] => if (-big < a ∧ a < big) ∨ (-big < b ∧ b < big) then some (.int (a * b)) else none
  | .mul, [.lst a, .int n] => if 0 ≤ n ∧ n ≤ 1000 ∧ a.length ≤ 1000 then some (.lst (List.replicate n.toNat a).flatten) else none
  | .mul, [.tup a, .int n] => if 1 ≤ n ∧ n ≤ 1000 ∧ a.length ≤ 1000 ∧ a ≠ [] then some (.tup (List.replicate n.toNat a).flatten) else none
  | .mod, [.int a, .int b] => if 0 < b then some (.int (a % b)) else none
  | .fdiv, [.int a, .int b] => if 0 < b ∧ b < 1073741824 then some (.int (a / b)) else none
  | .pow, [.int a, .int b] => if 0 ≤ b ∧ b ≤ 1000 ∧ a.natAbs < 2 ^ 64 then some (.int (a ^ b.toNat)) else none
  | .neg, [.int a] => some (.int (-a))
  | .pnot, [a] => (truthy a).map fun b => .bl (!b)
  | .eq, [a, b] => (eqR a b).map .bl
  | .ne, [a, b] => (eqR a b).map fun c => .bl (!c)
  | .lt, [.int a, .int b] => some (.bl (decide (a < b)))
  | .le, [.int a, .int b] => some (.bl (decide (a ≤ b)))
  | .gt, [.int a, .int b] => some (.bl (decide (b < a)))
  | .ge, [.int a, .int b] => some (.bl (decide (b ≤ a)))
  | .isN, [.non] => some (.bl true)
  | .isN, [_] => some (.bl false)
  | .notN, [.non] => some (.bl false)
  | .notN, [_] => some (.bl true)
  | .isB, [.bl a, .bl b] => some (.bl (a == b))
  | .inn, [x, .tup ys] => (inR x ys).map .bl
  | .inn, [x, .lst ys] => (inR x ys).map .bl
  | .nin, [x, .tup ys] => (inR x ys).map fun c => .bl (!c)
  | .nin, [x, .lst ys] => (inR x ys).map fun c => .bl (!c)
  | .len, [.tup xs] => some (.int xs.length)
  | .len, [.lst xs] => some (.int xs.length)
  | .isI t, [x] => (isTy t x).map .bl
  | .max2, [.int a, .int b] => some (.int (if b > a then b else a))
  | .min2, [.int a, .int b] => some (.int (if b < a then b else a))
  | .sum, [.lst xs] => (sumR xs).map .int
  | .all, [.lst xs] => (allR xs).map .bl
  | .any, [.lst xs] => (anyR xs).map .bl
  | .tuple, [.lst xs] => some (.tup xs)
  | .tuple, [.tup xs] => some (.tup xs)
  | .list, [.lst xs] => some (.lst xs)
  | .list, [.tup xs] => some (.lst xs)
  | .idx, [.tup xs, .int i] => atI xs i
  | .idx, [.lst xs, .int i] => atI xs i
  | .idx, [.ref n, .int i] => (st[n]?).bind fun xs => atI xs i
  | .cut lo hi, .tup xs :: r => (cutD lo hi r).map fun q => .tup (cutL xs q.1 q.2)
  | .cut lo hi, .lst xs :: r => (cutD lo hi r).map fun q => .lst (cutL xs q.1 q.2)
  | .rev, [.tup xs] => some (.tup xs.reverse)
  | .cnt, [.lst xs, x] => if D.flat 60 x && D.flats 60 xs then some (.int ((xs.countP fun y => D.eqv y x : Nat) : Int)) else none
  | _, _ => none

/-! ### the language -/
inductive Cn where
  | non | bl (b : Bool) | int (i : Int) | str (s : Str)
  deriving DecidableEq
def Cn.d : Cn → D
  | .non => .non
  | .bl b => .bl b
  | .int i => .int i
  | .str s => .str s
/-- what is walked -/
inductive IK where
  | seq | rng1 | rng2 | enum | zip
  deriving DecidableEq
inductive Tg where
  | name (i : Nat) | tup (ts : List Tg)
inductive T where
  | cn (c : Cn)
  | var (i : Nat)
  | prim (p : P) (as : List T)
  | and (a b : T) | or (a b : T) | ite (c a b : T)
  | chain (p q : P) (a b c : T)
  | call (k : Nat) (as : List T)
  | tup (as : List T) | lst (as : List T) | new (as : List T)
  | lc (k : IK) (as : List T) (tg : Tg) (vs : List Nat) (ifs : List T) (e : T)
  | pop (i : Nat) (e : T)
  | cut2 (a b c : T)
  | meth (p : P) (o : T) (as : List T)
inductive St where
  | asg (i : Nat) (e : T)
  | unp (tg : Tg) (e : T)
  | par (is : List Nat) (as : List T)
  | app (i : Nat) (e : T)
  | setR (o ix e : T)
  | aug (i : Nat) (p : P) (e : T)
  | ifs (c : T) (a b : List St)
  | for_ (k : IK) (as : List T) (tg : Tg) (body : List St)
  | while_ (c : T) (body : List St)
  | ret (e : T) | retN
  | raise (c : Str) (as : List T)
  | expr (e : T)
  | pass
inductive Fl where
  | next | ret (d : D)

/-! ### what it means -/
def getV (i : Nat) (s : S) : R S D := match s.env[i]? with
  | some (some d) => .ok d s
  | _ => .fail
def setV (i : Nat) (d : D) (s : S) : S := { s with env := s.env.set i (some d) }
def opt {α : Type} (s : S) : Option α → R S α
  | some a => .ok a s
  | none => .fail
mutual
def setT : Tg → D → S → Option S
  | .name i, d, s => some (setV i d s)
  | .tup ts, .tup ds, s => setTs ts ds s
  | .tup _, _, _ => none
def setTs : List Tg → List D → S → Option S
  | [], [], s => some s
  | t :: ts, d :: ds, s => (setT t d s).bind fun s => setTs ts ds s
  | _, _, _ => none
end
def wipeD (e : List (Option D)) : List Nat → List (Option D)
  | [] => e
  | i :: is => (wipeD e is).set i none
/-- the slots vs of e0 put back into e -/
def backD (e0 e : List (Option D)) : List Nat → List (Option D)
  | [] => e
  | i :: is => match e0[i]? with
    | some o => (backD e0 e is).set i o
    | none => backD e0 e is
def rangeD (lo : Int) : Nat → List D
  | 0 => []
  | n + 1 => .int lo :: rangeD (lo + 1) n
def enumL (i : Nat) : List D → List D
  | [] => []
  | x :: xs => .tup [.int i, x] :: enumL (i + 1) xs
def zipL : List D → List D → List D
  | x :: xs, y :: ys => .tup [x, y] :: zipL xs ys
  | _, _ => []
def seqOf : D → Option (List D)
  | .lst xs => some xs
  | .tup xs => some xs
  | _ => none
def small (i : Int) : Bool := Nat.ble i.natAbs 4000000000000000000
def items : IK → List D → Option (List D)
  | .seq, [x] => seqOf x
  | .rng1, [.int j] => if small j then some (rangeD 0 j.toNat) else none
  | .rng2, [.int i, .int j] => if small i && small j then some (rangeD i (j - i).toNat) else none
  | .enum, [x] => (seqOf x).map (enumL 0)
  | .zip, [.tup xs, .tup ys] => some (zipL xs ys)
  | .zip, [.lst xs, .lst ys] => some (zipL xs ys)
  | _, _ => none
/-- the turns of a comprehension: body gives the item made, or none -/
def lcGo (body : D → S → R S (Option D)) : List D → S → R S (List D)
  | [], s => .ok [] s
  | x :: xs, s => (body x s).bind fun o s => (lcGo body xs s).bind fun r s => .ok (o.toList ++ r) s
def callF (Γ : List Fn) (k : Nat) (ds : List D) (s : S) : R S D := match Γ[k]? with
  | some f => (match f ds s.st with
    | .ok d st => .ok d { s with st := st }
    | .exc e st => .exc e { s with st := st }
    | .fail => .fail)
  | none => .fail
def popL (xs : List D) (i : Int) : Option (D × List D) := (L2.ixN xs.length i).bind fun k => (xs[k]?).map fun x => (x, xs.eraseIdx k)
/-- the list at a slot -/
def lstAt (i : Nat) (s : S) : Option (List D) := match s.env[i]? with
  | some (some (.lst xs)) => some xs
  | _ => none
mutual
def ev (Γ : List Fn) : T → S → R S D
  | .cn c, s => .ok c.d s
  | .var i, s => getV i s
  | .prim p as, s => (evs Γ as s).bind fun ds s => opt s (prim s.st p ds)
  | .and a b, s => (ev Γ a s).bind fun x s => (opt s (truthy x)).bind fun c s => if c then ev Γ b s else .ok x s
  | .or a b, s => (ev Γ a s).bind fun x s => (opt s (truthy x)).bind fun c s => if c then .ok x s else ev Γ b s
  | .ite c a b, s => (ev Γ c s).bind fun x s => (opt s (truthy x)).bind fun c s => if c then ev Γ a s else ev Γ b s
  | .chain p q a b c, s => (ev Γ a s).bind fun x s => (ev Γ b s).bind fun y s => (opt s (prim s.st p [x, y])).bind fun u s => (opt s (truthy u)).bind fun k s =>
      if k then (ev Γ c s).bind fun z s => opt s (prim s.st q [y, z]) else .ok u s
  | .call k as, s => (evs Γ as s).bind fun ds s => callF Γ k ds s
  | .tup as, s => (evs Γ as s).bind fun ds s => .ok (.tup ds) s
  | .lst as, s => (evs Γ as s).bind fun ds s => .ok (.lst ds) s
  | .new as, s => (evs Γ as s).bind fun ds s => .ok (.ref s.st.length) { s with st := s.st ++ [ds] }
  | .lc k as tg vs ifs e, s => (evs Γ as s).bind fun ds s => (opt s (items k ds)).bind fun xs s =>
      (lcGo (fun x s1 => match setT tg x s1 with
        | none => .fail
        | some s2 => (evAll Γ ifs s2).bind fun b s3 => if b then (ev Γ e s3).bind fun d s4 => .ok (some d) { s4 with env := wipeD s4.env vs } else .ok none { s3 with env := wipeD s3.env vs }) xs { s with env := wipeD s.env vs }).noX.bind fun ds s' =>
      if fits ds then .ok (.lst ds) { s' with env := backD s.env s'.env vs } else .fail
  | .pop i e, s => (opt s (lstAt i s)).bind fun _ s => (ev Γ e s).bind fun x s => match x, lstAt i s with
      | .int k, some xs => (match popL xs k with
        | some (d, r) => .ok d (setV i (.lst r) s)
        | none => .fail)
      | _, _ => .fail
  | .cut2 a b c, s => (ev Γ a s).bind fun x s => (ev Γ b s).bind fun y s => match y with
      | .int i => (ev Γ c s).bind fun z s => opt s (prim s.st (.cut true true) [x, .int i, z])
      | _ => .fail
  | .meth p o as, s => (ev Γ o s).bind fun x s => match x with
      | .lst ds => (evs Γ as s).bind fun es s => opt s (prim s.st p (.lst ds :: es))
      | _ => .fail
def evs (Γ : List Fn) : List T → S → R S (List D)
  | [], s => .ok [] s
  | t :: ts, s => (ev Γ t s).bind fun d s => (evs Γ ts s).bind fun ds s => .ok (d :: ds) s
def evAll (Γ : List Fn) : List T → S → R S Bool
  | [], s => .ok true s
  | t :: ts, s => (ev Γ t s).bind fun d s => (opt s (truthy d)).bind fun c s => if c then evAll Γ ts s else .ok false s
end

/-- slots that were empty are emptied again -/
def keepTo : List (Option D) → List (Option D) → List (Option D)
  | some _ :: as, b :: bs => b :: keepTo as bs
  | none :: as, _ :: bs => none :: keepTo as bs
  | _, bs => bs
def forGo (body : D → S → R S Fl) (e0 : List (Option D)) : List D → S → R S Fl
  | [], s => .ok .next s
  | x :: xs, s => (body x s).bind fun f s => match f with
    | .next => forGo body e0 xs { s with env := keepTo e0 s.env }
    | .ret d => .ok (.ret d) s
def whGo (c : S → R S Bool) (body : S → R S Fl) (e0 : List (Option D)) : Nat → S → R S Fl
  | 0, _ => .fail
  | n + 1, s => (c s).bind fun b s => if b then (body s).bind fun f s => (match f with
      | .next => whGo c body e0 n { s with env := keepTo e0 s.env }
      | .ret d => .ok (.ret d) s) else .ok .next s
/-- turns of a while at most -/
def fuel : Nat := 1000000
def setVs : List Nat → List D → S → Option S
  | [], [], s => some s
  | i :: is, d :: ds, s => setVs is ds (setV i d s)
  | _, _, _ => none
def setL (xs : List D) (i : Int) (d : D) : Option (List D) := (L2.ixN xs.length i).map fun k => xs.set k d
def augR : P → D → D → Option D
  | .add, .int a, .int b => some (.int (a + b))
  | .sub, .int a, .int b => some (.int (a - b))
  | _, _, _ => none
mutual
def ex (Γ : List Fn) : St → S → R S Fl
  | .asg i e, s => (ev Γ e s).bind fun d s => .ok .next (setV i d s)
  | .unp tg e, s => (ev Γ e s).bind fun d s => (opt s (setT tg d s)).bind fun s' _ => .ok .next s'
  | .par is as, s => (evs Γ as s).bind fun ds s => (opt s (setVs is ds s)).bind fun s' _ => .ok .next s'
  | .app i e, s => (opt s (lstAt i s)).bind fun _ s => (ev Γ e s).bind fun d s => match lstAt i s with
      | some xs => if xs.length < sizeLine then .ok .next (setV i (.lst (xs ++ [d])) s) else .fail
      | none => .fail
  | .setR o ix e, s => (ev Γ e s).bind fun d s => (ev Γ o s).bind fun r s => (ev Γ ix s).bind fun k s => match r, k with
      | .ref n, .int i => (match s.st[n]? with
        | some xs => (match setL xs i d with
          | some ys => .ok .next { s with st := s.st.set n ys }
          | none => .fail)
        | none => .fail)
      | _, _ => .fail
  | .aug i p e, s => (getV i s).bind fun x s => (ev Γ e s).bind fun y s => (opt s (augR p x y)).bind fun z s => .ok .next (setV i z s)
  | .ifs c a b, s => (ev Γ c s).bind fun x s => (opt s (truthy x)).bind fun c s => if c then exs Γ a s else exs Γ b s
  | .for_ k as tg body, s => (evs Γ as s).bind fun ds s => (opt s (items k ds)).bind fun xs s =>
      forGo (fun x s1 => match setT tg x s1 with
        | none => .fail
        | some s2 => exs Γ body s2) s.env xs s
  | .while_ c body, s => whGo (fun s => (ev Γ c s).bind fun x s => opt s (truthy x)) (fun s => exs Γ body s) s.env fuel s
  | .ret e, s => (ev Γ e s).bind fun d s => .ok (.ret d) s
  | .retN, s => .ok (.ret .non) s
  | .raise c as, s => (evs Γ as s).bind fun ds s => .exc ⟨c, ds⟩ s
  | .expr e, s => (ev Γ e s).bind fun _ s => .ok .next s
  | .pass, s => .ok .next s
def exs (Γ : List Fn) : List St → S → R S Fl
  | [], s => .ok .next s
  | t :: ts, s => (ex Γ t s).bind fun f s => match f with
    | .next => exs Γ ts s
    | .ret d => .ok (.ret d) s
end
/-- a def: how many parameters, how many slots, the body -/
structure FD where
  np : Nat
  n : Nat
  body : List St
def runFn (b : FD) (Γ : List Fn) : Fn := fun ds st =>
  if ds.length = b.np then match exs Γ b.body ⟨ds.map some ++ List.replicate (b.n - b.np) none, st⟩ with
    | .ok (.ret d) s => .ok d s.st
    | .ok .next s => .ok .non s.st
    | .exc e s => .exc e s.st
    | .fail => .fail
  else .fail
end Lb

namespace Lb
open PySem
section
variable (Γ : List Fn) (s : S)
@[simp] theorem ev_cn (c : Cn) : ev Γ (.cn c) s = .ok c.d s := rfl
@[simp] theorem ev_var (i : Nat) : ev Γ (.var i) s = getV i s := rfl
@[simp] theorem ev_prim (p : P) (as : List T) : ev Γ (.prim p as) s = (evs Γ as s).bind fun ds s => opt s (prim s.st p ds) := rfl
@[simp] theorem ev_and (a b : T) : ev Γ (.and a b) s = (ev Γ a s).bind fun x s => (opt s (truthy x)).bind fun c s => if c then ev Γ b s else .ok x s := rfl
@[simp] theorem ev_or (a b : T) : ev Γ (.or a b) s = (ev Γ a s).bind fun x s => (opt s (truthy x)).bind fun c s => if c then .ok x s else ev Γ b s := rfl
@[simp] theorem ev_ite (c a b : T) : ev Γ (.ite c a b) s = (ev Γ c s).bind fun x s => (opt s (truthy x)).bind fun c s => if c then ev Γ a s else ev Γ b s := rfl
@[simp] theorem ev_chain (p q : P) (a b c : T) : ev Γ (.chain p q a b c) s = (ev Γ a s).bind fun x s => (ev Γ b s).bind fun y s => (opt s (prim s.st p [x, y])).bind fun u s => (opt s (truthy u)).bind fun k s =>
      if k then (ev Γ c s).bind fun z s => opt s (prim s.st q [y, z]) else .ok u s := rfl
@[simp] theorem ev_call (k : Nat) (as : List T) : ev Γ (.call k as) s = (evs Γ as s).bind fun ds s => callF Γ k ds s := rfl
@[simp] theorem ev_tup (as : List T) : ev Γ (.tup as) s = (evs Γ as s).bind fun ds s => .ok (.tup ds) s := rfl
@[simp] theorem ev_lst (as : List T) : ev Γ (.lst as) s = (evs Γ as s).bind fun ds s => .ok (.lst ds) s := rfl
@[simp] theorem ev_new (as : List T) : ev Γ (.new as) s = (evs Γ as s).bind fun ds s => .ok (.ref s.st.length) { s with st := s.st ++ [ds] } := rfl
theorem ev_lc (k : IK) (as : List T) (tg : Tg) (vs : List Nat) (ifs : List T) (e : T) : ev Γ (.lc k as tg vs ifs e) s = (evs Γ as s).bind fun ds s => (opt s (items k ds)).bind fun xs s =>
      (lcGo (fun x s1 => match setT tg x s1 with
        | none => .fail
        | some s2 => (evAll Γ ifs s2).bind fun b s3 => if b then (ev Γ e s3).bind fun d s4 => .ok (some d) { s4 with env := wipeD s4.env vs } else .ok none { s3 with env := wipeD s3.env vs }) xs { s with env := wipeD s.env vs }).noX.bind fun ds s' =>
      if fits ds then .ok (.lst ds) { s' with env := backD s.env s'.env vs } else .fail := rfl
theorem ev_pop (i : Nat) (e : T) : ev Γ (.pop i e) s = (opt s (lstAt i s)).bind fun _ s => (ev Γ e s).bind fun x s => match x, lstAt i s with
      | .int k, some xs => (match popL xs k with
        | some (d, r) => .ok d (setV i (.lst r) s)
        | none => .fail)
      | _, _ => .fail := rfl
@[simp] theorem ev_cut2 (a b c : T) : ev Γ (.cut2 a b c) s = (ev Γ a s).bind fun x s => (ev Γ b s).bind fun y s => match y with
      | .int i => (ev Γ c s).bind fun z s => opt s (prim s.st (.cut true true) [x, .int i, z])
      | _ => .fail := rfl
@[simp] theorem ev_meth (p : P) (o : T) (as : List T) : ev Γ (.meth p o as) s = (ev Γ o s).bind fun x s => match x with
      | .lst ds => (evs Γ as s).bind fun es s => opt s (prim s.st p (.lst ds :: es))
      | _ => .fail := rfl
@[simp] theorem evs_nil : evs Γ [] s = .ok [] s := rfl
@[simp] theorem evs_cons (t : T) (ts : List T) : evs Γ (t :: ts) s = (ev Γ t s).bind fun d s => (evs Γ ts s).bind fun ds s => .ok (d :: ds) s := rfl
@[simp] theorem evAll_nil : evAll Γ [] s = .ok true s := rfl
@[simp] theorem evAll_cons (t : T) (ts : List T) : evAll Γ (t :: ts) s = (ev Γ t s).bind fun d s => (opt s (truthy d)).bind fun c s => if c then evAll Γ ts s else .ok false s := rfl
@[simp] theorem exs_nil : exs Γ [] s = .ok .next s := rfl
theorem exs_cons (t : St) (ts : List St) : exs Γ (t :: ts) s = (ex Γ t s).bind fun f s => match f with
    | .next => exs Γ ts s
    | .ret d => .ok (.ret d) s := rfl
@[simp] theorem exs_asg (i : Nat) (e : T) (ts : List St) : exs Γ (.asg i e :: ts) s = (ev Γ e s).bind fun d s => exs Γ ts (setV i d s) := by
  rw [exs_cons]; show ((ev Γ e s).bind fun d s => R.ok Fl.next (setV i d s)).bind _ = _; cases ev Γ e s <;> rfl
@[simp] theorem exs_unp (tg : Tg) (e : T) (ts : List St) : exs Γ (.unp tg e :: ts) s = (ev Γ e s).bind fun d s => (opt s (setT tg d s)).bind fun s' _ => exs Γ ts s' := by
  rw [exs_cons]; show ((ev Γ e s).bind fun d s => (opt s (setT tg d s)).bind fun s' _ => R.ok Fl.next s').bind _ = _
  cases ev Γ e s with
  | ok d s => simp only [R.bind_ok]; cases setT tg d s <;> rfl
  | exc => rfl
  | fail => rfl
@[simp] theorem exs_par (is : List Nat) (as : List T) (ts : List St) : exs Γ (.par is as :: ts) s = (evs Γ as s).bind fun ds s => (opt s (setVs is ds s)).bind fun s' _ => exs Γ ts s' := by
  rw [exs_cons]; show ((evs Γ as s).bind fun ds s => (opt s (setVs is ds s)).bind fun s' _ => R.ok Fl.next s').bind _ = _
  cases evs Γ as s with
  | ok ds s => simp only [R.bind_ok]; cases setVs is ds s <;> rfl
  | exc => rfl
  | fail => rfl
@[simp] theorem exs_ret (e : T) (ts : List St) : exs Γ (.ret e :: ts) s = (ev Γ e s).bind fun d s => .ok (.ret d) s := by
  rw [exs_cons]; show ((ev Γ e s).bind fun d s => R.ok (Fl.ret d) s).bind _ = _; cases ev Γ e s <;> rfl
@[simp] theorem exs_retN (ts : List St) : exs Γ (.retN :: ts) s = .ok (.ret .non) s := rfl
@[simp] theorem exs_pass (ts : List St) : exs Γ (.pass :: ts) s = exs Γ ts s := rfl
@[simp] theorem exs_expr (e : T) (ts : List St) : exs Γ (.expr e :: ts) s = (ev Γ e s).bind fun _ s => exs Γ ts s := by
  rw [exs_cons]; show ((ev Γ e s).bind fun _ s => R.ok Fl.next s).bind _ = _; cases ev Γ e s <;> rfl
@[simp] theorem exs_raise (c : Str) (as : List T) (ts : List St) : exs Γ (.raise c as :: ts) s = (evs Γ as s).bind fun ds s => .exc ⟨c, ds⟩ s := by
  rw [exs_cons]; show ((evs Γ as s).bind fun ds s => (R.exc ⟨c, ds⟩ s : R S Fl)).bind _ = _; cases evs Γ as s <;> rfl
/-- what follows a statement whose flow is told -/
def thenS (r : R S Fl) (k : S → R S Fl) : R S Fl := r.bind fun f s => match f with
  | .next => k s
  | .ret d => .ok (.ret d) s
@[simp] theorem thenS_next (s : S) (k : S → R S Fl) : thenS (.ok .next s) k = k s := rfl
@[simp] theorem thenS_ret (d : D) (s : S) (k : S → R S Fl) : thenS (.ok (.ret d) s) k = .ok (.ret d) s := rfl
@[simp] theorem thenS_exc (e : X) (s : S) (k : S → R S Fl) : thenS (.exc e s) k = .exc e s := rfl
@[simp] theorem thenS_fail (k : S → R S Fl) : thenS .fail k = .fail := rfl
@[simp] theorem exs_ifs (c : T) (a b ts : List St) : exs Γ (.ifs c a b :: ts) s = (ev Γ c s).bind fun x s => (opt s (truthy x)).bind fun c s => if c then thenS (exs Γ a s) (exs Γ ts) else thenS (exs Γ b s) (exs Γ ts) := by
  rw [exs_cons]; show ((ev Γ c s).bind fun x s => (opt s (truthy x)).bind fun c s => if c then exs Γ a s else exs Γ b s).bind _ = _
  cases ev Γ c s with
  | ok d s =>
    simp only [R.bind_ok]
    cases truthy d with
    | none => rfl
    | some c => cases c <;> rfl
  | exc => rfl
  | fail => rfl
theorem exs_app (i : Nat) (e : T) (ts : List St) : exs Γ (.app i e :: ts) s = thenS ((opt s (lstAt i s)).bind fun _ s => (ev Γ e s).bind fun d s => match lstAt i s with
      | some xs => if xs.length < sizeLine then .ok .next (setV i (.lst (xs ++ [d])) s) else .fail
      | none => .fail) (exs Γ ts) := rfl
theorem exs_setR (o ix e : T) (ts : List St) : exs Γ (.setR o ix e :: ts) s = thenS ((ev Γ e s).bind fun d s => (ev Γ o s).bind fun r s => (ev Γ ix s).bind fun k s => match r, k with
      | .ref n, .int i => (match s.st[n]? with
        | some xs => (match setL xs i d with
          | some ys => .ok .next { s with st := s.st.set n ys }
          | none => .fail)
        | none => .fail)
      | _, _ => .fail) (exs Γ ts) := rfl
@[simp] theorem exs_aug (i : Nat) (p : P) (e : T) (ts : List St) : exs Γ (.aug i p e :: ts) s = thenS ((getV i s).bind fun x s => (ev Γ e s).bind fun y s => (opt s (augR p x y)).bind fun z s => .ok .next (setV i z s)) (exs Γ ts) := rfl
theorem exs_for (k : IK) (as : List T) (tg : Tg) (body ts : List St) : exs Γ (.for_ k as tg body :: ts) s = thenS ((evs Γ as s).bind fun ds s => (opt s (items k ds)).bind fun xs s =>
      forGo (fun x s1 => match setT tg x s1 with
        | none => .fail
        | some s2 => exs Γ body s2) s.env xs s) (exs Γ ts) := rfl
theorem exs_while (c : T) (body ts : List St) : exs Γ (.while_ c body :: ts) s = thenS (whGo (fun s => (ev Γ c s).bind fun x s => opt s (truthy x)) (fun s => exs Γ body s) s.env fuel s) (exs Γ ts) := rfl
end
@[simp] theorem opt_some {α : Type} (s : S) (a : α) : opt s (some a) = .ok a s := rfl
@[simp] theorem opt_none {α : Type} (s : S) : opt s (none : Option α) = .fail := rfl
@[simp] theorem truthy_non : truthy .non = some false := rfl
@[simp] theorem truthy_bl (b : Bool) : truthy (.bl b) = some b := rfl
@[simp] theorem truthy_int (i : Int) : truthy (.int i) = some (i != 0) := rfl
@[simp] theorem truthy_tup (xs : List D) : truthy (.tup xs) = some (!xs.isEmpty) := rfl
@[simp] theorem truthy_lst (xs : List D) : truthy (.lst xs) = some (!xs.isEmpty) := rfl
@[simp] theorem getV_0 (d : D) (r : List (Option D)) (st : Sto) : getV 0 ⟨some d :: r, st⟩ = .ok d ⟨some d :: r, st⟩ := rfl
@[simp] theorem getV_eq (i : Nat) (e : List (Option D)) (st : Sto) : getV i ⟨e, st⟩ = match e[i]? with
  | some (some d) => .ok d ⟨e, st⟩
  | _ => .fail := rfl
@[simp] theorem setV_eq (i : Nat) (d : D) (e : List (Option D)) (st : Sto) : setV i d ⟨e, st⟩ = ⟨e.set i (some d), st⟩ := rfl
theorem callF_eq (Γ : List Fn) (k : Nat) (ds : List D) (e : List (Option D)) (st : Sto) : callF Γ k ds ⟨e, st⟩ = match Γ[k]? with
  | some f => (match f ds st with
    | .ok d st => .ok d ⟨e, st⟩
    | .exc x st => .exc x ⟨e, st⟩
    | .fail => .fail)
  | none => .fail := rfl
@[simp] theorem cn_non : Cn.non.d = .non := rfl
@[simp] theorem cn_bl (b : Bool) : (Cn.bl b).d = .bl b := rfl
@[simp] theorem cn_int (i : Int) : (Cn.int i).d = .int i := rfl
@[simp] theorem cn_str (s : Str) : (Cn.str s).d = .str s := rfl
theorem runFn_eq (b : FD) (Γ : List Fn) (ds : List D) (st : Sto) (h : ds.length = b.np) : runFn b Γ ds st = match exs Γ b.body ⟨ds.map some ++ List.replicate (b.n - b.np) none, st⟩ with
    | .ok (.ret d) s => .ok d s.st
    | .ok .next s => .ok .non s.st
    | .exc e s => .exc e s.st
    | .fail => .fail := if_pos h
end Lb

namespace Lb
open PySem L2
section
variable (st : Sto) (a b n i j : Int) (x y : D) (xs ys : List D)
@[simp] theorem prim_add : prim st .add [.int a, .int b] = some (.int (a + b)) := rfl
@[simp] theorem prim_addT : prim st .add [.tup xs, .tup ys] = if fits (xs ++ ys) then some (.tup (xs ++ ys)) else none := rfl
@[simp] theorem prim_addL : prim st .add [.lst xs, .lst ys] = if fits (xs ++ ys) then some (.lst (xs ++ ys)) else none := rfl
@[simp] theorem prim_sub : prim st .sub [.int a, .int b] = some (.int (a - b)) := rfl
theorem prim_mul : prim st .mul [.int a, .int b] = if (-big < a ∧ a < big) ∨ (-big < b ∧ b < big) then some (.int (a * b)) else none := rfl
theorem prim_mulL : prim st .mul [.lst xs, .int n] = if 0 ≤ n ∧ n ≤ 1000 ∧ xs.length ≤ 1000 then some (.lst (List.replicate n.toNat xs).flatten) else none := rfl
theorem prim_mulT : prim st .mul [.tup xs, .int n] = if 1 ≤ n ∧ n ≤ 1000 ∧ xs.length ≤ 1000 ∧ xs ≠ [] then some (.tup (List.replicate n.toNat xs).flatten) else none := rfl
theorem prim_mod : prim st .mod [.int a, .int b] = if 0 < b then some (.int (a % b)) else none := rfl
theorem prim_fdiv : prim st .fdiv [.int a, .int b] = if 0 < b ∧ b < 1073741824 then some (.int (a / b)) else none := rfl
theorem prim_pow : prim st .pow [.int a, .int b] = if 0 ≤ b ∧ b ≤ 1000 ∧ a.natAbs < 2 ^ 64 then some (.int (a ^ b.toNat)) else none := rfl
@[simp] theorem prim_neg : prim st .neg [.int a] = some (.int (-a)) := rfl
@[simp] theorem prim_pnot : prim st .pnot [x] = (truthy x).map fun b => .bl (!b) := rfl
@[simp] theorem prim_eq : prim st .eq [x, y] = (eqR x y).map .bl := rfl
@[simp] theorem prim_ne : prim st .ne [x, y] = (eqR x y).map fun c => .bl (!c) := rfl
@[simp] theorem prim_lt : prim st .lt [.int a, .int b] = some (.bl (decide (a < b))) := rfl
@[simp] theorem prim_le : prim st .le [.int a, .int b] = some (.bl (decide (a ≤ b))) := rfl
@[simp] theorem prim_gt : prim st .gt [.int a, .int b] = some (.bl (decide (b < a))) := rfl
@[simp] theorem prim_ge : prim st .ge [.int a, .int b] = some (.bl (decide (b ≤ a))) := rfl
def isNon : D → Bool
  | .non => true
  | _ => false
@[simp] theorem prim_isN : prim st .isN [x] = some (.bl (isNon x)) := by cases x <;> rfl
@[simp] theorem prim_notN : prim st .notN [x] = some (.bl (!isNon x)) := by cases x <;> rfl
@[simp] theorem isNon_non : isNon .non = true := rfl
@[simp] theorem isNon_tup : isNon (.tup xs) = false := rfl
@[simp] theorem isNon_int : isNon (.int a) = false := rfl
@[simp] theorem isNon_bl (c : Bool) : isNon (.bl c) = false := rfl
@[simp] theorem isNon_str (z : Str) : isNon (.str z) = false := rfl
@[simp] theorem isNon_lst : isNon (.lst xs) = false := rfl
@[simp] theorem isNon_dic (z : List (D × D)) : isNon (.dic z) = false := rfl
@[simp] theorem prim_isB (c d : Bool) : prim st .isB [.bl c, .bl d] = some (.bl (c == d)) := rfl
@[simp] theorem prim_innT : prim st .inn [x, .tup ys] = (inR x ys).map .bl := rfl
@[simp] theorem prim_innL : prim st .inn [x, .lst ys] = (inR x ys).map .bl := rfl
@[simp] theorem prim_ninT : prim st .nin [x, .tup ys] = (inR x ys).map fun c => .bl (!c) := rfl
@[simp] theorem prim_ninL : prim st .nin [x, .lst ys] = (inR x ys).map fun c => .bl (!c) := rfl
@[simp] theorem prim_lenT : prim st .len [.tup xs] = some (.int xs.length) := rfl
@[simp] theorem prim_lenL : prim st .len [.lst xs] = some (.int xs.length) := rfl
@[simp] theorem prim_isI (t : Ty) : prim st (.isI t) [x] = (isTy t x).map .bl := rfl
@[simp] theorem prim_max2 : prim st .max2 [.int a, .int b] = some (.int (if b > a then b else a)) := rfl
@[simp] theorem prim_min2 : prim st .min2 [.int a, .int b] = some (.int (if b < a then b else a)) := rfl
@[simp] theorem prim_sum : prim st .sum [.lst xs] = (sumR xs).map .int := rfl
@[simp] theorem prim_all : prim st .all [.lst xs] = (allR xs).map .bl := rfl
@[simp] theorem prim_any : prim st .any [.lst xs] = (anyR xs).map .bl := rfl
@[simp] theorem prim_tupleL : prim st .tuple [.lst xs] = some (.tup xs) := rfl
@[simp] theorem prim_tupleT : prim st .tuple [.tup xs] = some (.tup xs) := rfl
@[simp] theorem prim_listL : prim st .list [.lst xs] = some (.lst xs) := rfl
@[simp] theorem prim_listT : prim st .list [.tup xs] = some (.lst xs) := rfl
@[simp] theorem prim_idxT : prim st .idx [.tup xs, .int i] = atI xs i := rfl
@[simp] theorem prim_idxL : prim st .idx [.lst xs, .int i] = atI xs i := rfl
@[simp] theorem prim_idxR (k : Nat) : prim st .idx [.ref k, .int i] = (st[k]?).bind fun xs => atI xs i := rfl
@[simp] theorem prim_cutT (lo hi : Bool) (r : List D) : prim st (.cut lo hi) (.tup xs :: r) = (cutD lo hi r).map fun q => .tup (cutL xs q.1 q.2) := rfl
@[simp] theorem prim_cutL (lo hi : Bool) (r : List D) : prim st (.cut lo hi) (.lst xs :: r) = (cutD lo hi r).map fun q => .lst (cutL xs q.1 q.2) := rfl
@[simp] theorem prim_rev : prim st .rev [.tup xs] = some (.tup xs.reverse) := rfl
theorem prim_cnt : prim st .cnt [.lst xs, x] = if D.flat 60 x && D.flats 60 xs then some (.int ((xs.countP fun y => D.eqv y x : Nat) : Int)) else none := rfl
@[simp] theorem cutD_lo : cutD true false [.int i] = some (some i, none) := rfl
@[simp] theorem cutD_hi : cutD false true [.int i] = some (none, some i) := rfl
@[simp] theorem cutD_lh : cutD true true [.int i, .int j] = some (some i, some j) := rfl
@[simp] theorem cutD_no : cutD false false [] = some (none, none) := rfl
@[simp] theorem eqR_int : eqR (.int a) (.int b) = some (a == b) := rfl
@[simp] theorem eqR_bl (c d : Bool) : eqR (.bl c) (.bl d) = some (c == d) := rfl
@[simp] theorem eqR_str (c d : Str) : eqR (.str c) (.str d) = some (c == d) := rfl
@[simp] theorem atI_0 {α : Type} (x : α) (xs : List α) : atI (x :: xs) 0 = some x := by simp [atI, L2.ixN]
@[simp] theorem atI_1 {α : Type} (x y : α) (xs : List α) : atI (x :: y :: xs) 1 = some y := by
  have : (1 : Int) < (xs.length : Int) + 1 + 1 := by omega
  simp [atI, L2.ixN, this]
@[simp] theorem atI_2 {α : Type} (x y z : α) (xs : List α) : atI (x :: y :: z :: xs) 2 = some z := by
  have : (2 : Int) < (xs.length : Int) + 1 + 1 + 1 := by omega
  simp [atI, L2.ixN, this]
@[simp] theorem atI_3 {α : Type} (x y z u : α) (xs : List α) : atI (x :: y :: z :: u :: xs) 3 = some u := by
  have : (3 : Int) < (xs.length : Int) + 1 + 1 + 1 + 1 := by omega
  simp [atI, L2.ixN, this]
end
/-- what kind a thing is -/
inductive Kd where
  | non | bl | int | str | tup | lst | dic | ref
  deriving DecidableEq
end Lb

set_option maxRecDepth 100000
/-! how trees stand in the heap -/
namespace Lb
open PySem PySem.Spec PyProof.Rows L2

def KTup (K : PySem.W.Frag) (a : Addr) (xs : List V) : Prop := ∃ (o : Obj) (its : Array Value) (n : Nat), K.lookup a = some o ∧ o.cls = .type "tuple" ∧ o.data = .seq its n ∧ its.size ≤ sizeLine ∧ Vals xs its.toList
def kD : Key → D
  | .inl i => .int i
  | .inr x => .str x
/-- a dict by its keys and what stands there -/
def DicAt (Rdr : Addr → HO → Prop) (a : Addr) (keys : List D) (vs : List V) : Prop :=
  (∃ ks : List (Key × V), Rdr a (.dK ks) ∧ keys = ks.map (fun p => kD p.1) ∧ vs = ks.map (·.2)) ∨
  (∃ ks : List (List Key × V), Rdr a (.dT ks) ∧ keys = ks.map (fun p => .tup (p.1.map kD)) ∧ vs = ks.map (·.2))
abbrev Zs := Addr → Prop

section
variable (K : PySem.W.Frag)
mutual
/-- v stands for the tree; all that can be changed of it is locked (Z) -/
def Rep (H : Hp) (Z : Zs) (μ : List Addr) : D → V → Prop
  | .non, v => v = .non
  | .bl b, v => v = .bl b
  | .int i, v => v = .int i
  | .str x, v => v = .str x
  | .ref n, v => ∃ a, μ[n]? = some a ∧ v = .ref a
  | .tup ds, v => ∃ a vs, v = .ref a ∧ ((Z a ∧ Rd H a (.tup vs)) ∨ KTup K a vs) ∧ vs.length ≤ sizeLine ∧ Reps H Z μ ds vs
  | .lst ds, v => ∃ a vs, v = .ref a ∧ (Z a ∧ Rd H a (.lst vs)) ∧ vs.length ≤ sizeLine ∧ Reps H Z μ ds vs
  | .dic kvs, v => ∃ a vs, v = .ref a ∧ Z a ∧ DicAt (Rd H) a (kvs.map Prod.fst) vs ∧ RepE H Z μ kvs vs
def Reps (H : Hp) (Z : Zs) (μ : List Addr) : List D → List V → Prop
  | [], vs => vs = []
  | d :: ds, vs => ∃ v r, vs = v :: r ∧ Rep H Z μ d v ∧ Reps H Z μ ds r
def RepE (H : Hp) (Z : Zs) (μ : List Addr) : List (D × D) → List V → Prop
  | [], vs => vs = []
  | (_, d) :: ds, vs => ∃ v r, vs = v :: r ∧ Rep H Z μ d v ∧ RepE H Z μ ds r
end
/-- the top may still be changed by its owner -/
def RepT (H : Hp) (Z : Zs) (μ : List Addr) : D → V → Prop
  | .lst ds, v => ∃ a vs, v = .ref a ∧ (a ∉ μ ∧ Rd H a (.lst vs)) ∧ vs.length ≤ sizeLine ∧ Reps K H Z μ ds vs
  | .dic kvs, v => ∃ a vs, v = .ref a ∧ a ∉ μ ∧ DicAt (Rd H) a (kvs.map Prod.fst) vs ∧ RepE K H Z μ kvs vs
  | d, v => Rep K H Z μ d v
def RepTs (H : Hp) (Z : Zs) (μ : List Addr) : List D → List V → Prop
  | [], vs => vs = []
  | d :: ds, vs => ∃ v r, vs = v :: r ∧ RepT K H Z μ d v ∧ RepTs H Z μ ds r
/-- a container of one's own at a -/
def Own (H : Hp) (Z : Zs) (μ : List Addr) (a : Addr) : D → V → Prop
  | .lst ds, v => v = .ref a ∧ ∃ vs, H a = some (.lst vs) ∧ vs.length ≤ sizeLine ∧ Reps K H Z μ ds vs
  | .dic kvs, v => v = .ref a ∧ ∃ vs, DicAt (fun a o => H a = some o) a (kvs.map Prod.fst) vs ∧ RepE K H Z μ kvs vs
  | _, _ => False
end

section
variable {K : PySem.W.Frag} {H H' : Hp} {Z Z' : Zs} {μ μ' : List Addr}
theorem DicAt.mono {R R' : Addr → HO → Prop} {a : Addr} {keys : List D} {vs : List V} (h : DicAt R a keys vs) (f : ∀ u, R a u → R' a u) : DicAt R' a keys vs := by
  rcases h with ⟨ks, h1, h2⟩ | ⟨ks, h1, h2⟩
  · exact .inl ⟨ks, f _ h1, h2⟩
  · exact .inr ⟨ks, f _ h1, h2⟩
mutual
theorem Rep.mono (hz : ∀ p, Z p → Z' p) (hr : ∀ p u, Z p → Rd H p u → Rd H' p u) (hm : ∀ (n : Nat) a, μ[n]? = some a → μ'[n]? = some a) : ∀ (d : D) (v : V), Rep K H Z μ d v → Rep K H' Z' μ' d v
  | .non, _, h => h
  | .bl _, _, h => h
  | .int _, _, h => h
  | .str _, _, h => h
  | .ref n, v, h => by
    obtain ⟨a, e, h⟩ := (show ∃ a, μ[n]? = some a ∧ v = .ref a from h)
    exact ⟨a, hm n a e, h⟩
  | .tup ds, v, h => by
    obtain ⟨a, vs, e, h1, h2, h3⟩ := (show ∃ a vs, v = V.ref a ∧ ((Z a ∧ Rd H a (.tup vs)) ∨ KTup K a vs) ∧ vs.length ≤ sizeLine ∧ Reps K H Z μ ds vs from h)
    exact ⟨a, vs, e, h1.imp (fun q => ⟨hz _ q.1, hr _ _ q.1 q.2⟩) id, h2, Reps.mono hz hr hm ds vs h3⟩
  | .lst ds, v, h => by
    obtain ⟨a, vs, e, h1, h2, h3⟩ := (show ∃ a vs, v = V.ref a ∧ (Z a ∧ Rd H a (.lst vs)) ∧ vs.length ≤ sizeLine ∧ Reps K H Z μ ds vs from h)
    exact ⟨a, vs, e, ⟨hz _ h1.1, hr _ _ h1.1 h1.2⟩, h2, Reps.mono hz hr hm ds vs h3⟩
  | .dic kvs, v, h => by
    obtain ⟨a, vs, e, h1, h2, h3⟩ := (show ∃ a vs, v = V.ref a ∧ Z a ∧ DicAt (Rd H) a (kvs.map Prod.fst) vs ∧ RepE K H Z μ kvs vs from h)
    exact ⟨a, vs, e, hz _ h1, h2.mono fun u => hr _ u h1, RepE.mono hz hr hm kvs vs h3⟩
theorem Reps.mono (hz : ∀ p, Z p → Z' p) (hr : ∀ p u, Z p → Rd H p u → Rd H' p u) (hm : ∀ (n : Nat) a, μ[n]? = some a → μ'[n]? = some a) : ∀ (ds : List D) (vs : List V), Reps K H Z μ ds vs → Reps K H' Z' μ' ds vs
  | [], _, h => h
  | d :: ds, vs, h => by
    obtain ⟨v, r, e, h1, h2⟩ := (show ∃ v r, vs = v :: r ∧ Rep K H Z μ d v ∧ Reps K H Z μ ds r from h)
    exact ⟨v, r, e, Rep.mono hz hr hm d v h1, Reps.mono hz hr hm ds r h2⟩
theorem RepE.mono (hz : ∀ p, Z p → Z' p) (hr : ∀ p u, Z p → Rd H p u → Rd H' p u) (hm : ∀ (n : Nat) a, μ[n]? = some a → μ'[n]? = some a) : ∀ (ds : List (D × D)) (vs : List V), RepE K H Z μ ds vs → RepE K H' Z' μ' ds vs
  | [], _, h => h
  | (_, d) :: ds, vs, h => by
    obtain ⟨v, r, e, h1, h2⟩ := (show ∃ v r, vs = v :: r ∧ Rep K H Z μ d v ∧ RepE K H Z μ ds r from h)
    exact ⟨v, r, e, Rep.mono hz hr hm d v h1, RepE.mono hz hr hm ds r h2⟩
end
theorem Reps.length : ∀ {ds : List D} {vs : List V}, Reps K H Z μ ds vs → vs.length = ds.length
  | [], _, h => by cases (show _ = [] from h); rfl
  | d :: ds, vs, h => by
    obtain ⟨v, r, e, _, h2⟩ := (show ∃ v r, vs = v :: r ∧ Rep K H Z μ d v ∧ Reps K H Z μ ds r from h)
    rw [e, List.length_cons, List.length_cons, Reps.length h2]
theorem Reps.append : ∀ {ds es : List D} {vs us : List V}, Reps K H Z μ ds vs → Reps K H Z μ es us → Reps K H Z μ (ds ++ es) (vs ++ us)
  | [], _, _, _, h, h' => by cases (show _ = [] from h); exact h'
  | d :: ds, es, vs, us, h, h' => by
    obtain ⟨v, r, e, h1, h2⟩ := (show ∃ v r, vs = v :: r ∧ Rep K H Z μ d v ∧ Reps K H Z μ ds r from h)
    subst e
    exact ⟨v, r ++ us, rfl, h1, Reps.append h2 h'⟩
theorem Reps.get : ∀ {ds : List D} {vs : List V} {i : Nat} {v : V}, Reps K H Z μ ds vs → vs[i]? = some v → ∃ d, ds[i]? = some d ∧ Rep K H Z μ d v
  | [], _, i, v, h, e => by cases (show _ = [] from h); simp at e
  | d :: ds, vs, i, v, h, e => by
    obtain ⟨w, r, e1, h1, h2⟩ := (show ∃ v r, vs = v :: r ∧ Rep K H Z μ d v ∧ Reps K H Z μ ds r from h)
    subst e1
    cases i with
    | zero => simp at e; subst e; exact ⟨d, rfl, h1⟩
    | succ i => simpa using Reps.get h2 (by simpa using e)
theorem Reps.get' : ∀ {ds : List D} {vs : List V} {i : Nat} {d : D}, Reps K H Z μ ds vs → ds[i]? = some d → ∃ v, vs[i]? = some v ∧ Rep K H Z μ d v
  | [], _, i, v, h, e => by simp at e
  | d :: ds, vs, i, d', h, e => by
    obtain ⟨w, r, e1, h1, h2⟩ := (show ∃ v r, vs = v :: r ∧ Rep K H Z μ d v ∧ Reps K H Z μ ds r from h)
    subst e1
    cases i with
    | zero => simp at e; subst e; exact ⟨w, rfl, h1⟩
    | succ i => simpa using Reps.get' h2 (by simpa using e)
theorem Reps.take : ∀ {ds : List D} {vs : List V} (n : Nat), Reps K H Z μ ds vs → Reps K H Z μ (ds.take n) (vs.take n)
  | [], _, n, h => by cases (show _ = [] from h); simp; rfl
  | d :: ds, vs, n, h => by
    obtain ⟨w, r, e1, h1, h2⟩ := (show ∃ v r, vs = v :: r ∧ Rep K H Z μ d v ∧ Reps K H Z μ ds r from h)
    subst e1
    cases n with
    | zero => rfl
    | succ n => exact ⟨w, _, rfl, h1, Reps.take n h2⟩
theorem Reps.drop : ∀ {ds : List D} {vs : List V} (n : Nat), Reps K H Z μ ds vs → Reps K H Z μ (ds.drop n) (vs.drop n)
  | [], _, n, h => by cases (show _ = [] from h); simp; rfl
  | d :: ds, vs, n, h => by
    obtain ⟨w, r, e1, h1, h2⟩ := (show ∃ v r, vs = v :: r ∧ Rep K H Z μ d v ∧ Reps K H Z μ ds r from h)
    subst e1
    cases n with
    | zero => exact ⟨w, _, rfl, h1, h2⟩
    | succ n => exact Reps.drop n h2
theorem Reps.one {d : D} {v : V} (h : Rep K H Z μ d v) : Reps K H Z μ [d] [v] := ⟨v, [], rfl, h, rfl⟩
theorem Reps.reverse : ∀ {ds : List D} {vs : List V}, Reps K H Z μ ds vs → Reps K H Z μ ds.reverse vs.reverse
  | [], _, h => by cases (show _ = [] from h); rfl
  | d :: ds, vs, h => by
    obtain ⟨w, r, e1, h1, h2⟩ := (show ∃ v r, vs = v :: r ∧ Rep K H Z μ d v ∧ Reps K H Z μ ds r from h)
    subst e1
    rw [List.reverse_cons, List.reverse_cons]
    exact (Reps.reverse h2).append (Reps.one h1)
theorem Reps.set : ∀ {ds : List D} {vs : List V} (n : Nat) {d : D} {v : V}, Reps K H Z μ ds vs → Rep K H Z μ d v → Reps K H Z μ (ds.set n d) (vs.set n v)
  | [], _, n, _, _, h, _ => by cases (show _ = [] from h); simp; rfl
  | d :: ds, vs, n, _, _, h, q => by
    obtain ⟨w, r, e1, h1, h2⟩ := (show ∃ v r, vs = v :: r ∧ Rep K H Z μ d v ∧ Reps K H Z μ ds r from h)
    subst e1
    cases n with
    | zero => exact ⟨_, _, rfl, q, h2⟩
    | succ n => exact ⟨w, _, rfl, h1, Reps.set n h2 q⟩
theorem Reps.erase : ∀ {ds : List D} {vs : List V} (n : Nat), Reps K H Z μ ds vs → Reps K H Z μ (ds.eraseIdx n) (vs.eraseIdx n)
  | [], _, n, h => by cases (show _ = [] from h); simp; rfl
  | d :: ds, vs, n, h => by
    obtain ⟨w, r, e1, h1, h2⟩ := (show ∃ v r, vs = v :: r ∧ Rep K H Z μ d v ∧ Reps K H Z μ ds r from h)
    subst e1
    cases n with
    | zero => exact h2
    | succ n => exact ⟨w, _, rfl, h1, Reps.erase n h2⟩
theorem Reps.flatten {ds : List D} {vs : List V} (h : Reps K H Z μ ds vs) : ∀ n : Nat, Reps K H Z μ (List.replicate n ds).flatten (List.replicate n vs).flatten
  | 0 => rfl
  | n + 1 => by
    rw [List.replicate_succ, List.replicate_succ, List.flatten_cons, List.flatten_cons]
    exact h.append (Reps.flatten h n)
theorem Rep.top {d : D} {v : V} (hz : ∀ a ∈ μ, ¬ Z a) (h : Rep K H Z μ d v) : RepT K H Z μ d v := by
  cases d with
  | lst ds =>
    obtain ⟨a, vs, e, h1, h2⟩ := (show ∃ a vs, v = V.ref a ∧ (Z a ∧ Rd H a (.lst vs)) ∧ vs.length ≤ sizeLine ∧ Reps K H Z μ ds vs from h)
    exact ⟨a, vs, e, ⟨fun m => hz a m h1.1, h1.2⟩, h2⟩
  | dic kvs =>
    obtain ⟨a, vs, e, h1, h2⟩ := (show ∃ a vs, v = V.ref a ∧ Z a ∧ DicAt (Rd H) a (kvs.map Prod.fst) vs ∧ RepE K H Z μ kvs vs from h)
    exact ⟨a, vs, e, fun m => hz a m h1, h2⟩
  | _ => exact h
theorem Own.top {d : D} {v : V} {a : Addr} (hm : a ∉ μ) (h : Own K H Z μ a d v) : RepT K H Z μ d v := by
  cases d with
  | lst ds =>
    obtain ⟨e, vs, h1, h2⟩ := (show v = V.ref a ∧ ∃ vs, H a = some (.lst vs) ∧ vs.length ≤ sizeLine ∧ Reps K H Z μ ds vs from h)
    exact ⟨a, vs, e, ⟨hm, .inl h1⟩, h2⟩
  | dic kvs =>
    obtain ⟨e, vs, h1, h2⟩ := (show v = V.ref a ∧ ∃ vs, DicAt (fun a o => H a = some o) a (kvs.map Prod.fst) vs ∧ RepE K H Z μ kvs vs from h)
    exact ⟨a, vs, e, hm, h1.mono fun u q => .inl q, h2⟩
  | _ => exact h.elim
theorem Own.live {d : D} {v : V} {a : Addr} (h : Own K H Z μ a d v) : v = .ref a ∧ ∃ o, H a = some o := by
  cases d with
  | lst ds =>
    obtain ⟨e, vs, h1, _⟩ := (show v = V.ref a ∧ ∃ vs, H a = some (.lst vs) ∧ vs.length ≤ sizeLine ∧ Reps K H Z μ ds vs from h)
    exact ⟨e, _, h1⟩
  | dic kvs =>
    obtain ⟨e, vs, h1, _⟩ := (show v = V.ref a ∧ ∃ vs, DicAt (fun a o => H a = some o) a (kvs.map Prod.fst) vs ∧ RepE K H Z μ kvs vs from h)
    rcases h1 with ⟨ks, q, _⟩ | ⟨ks, q, _⟩
    · exact ⟨e, _, q⟩
    · exact ⟨e, _, q⟩
  | _ => exact h.elim
theorem Own.mono {d : D} {v : V} {a : Addr} (hz : ∀ p, Z p → Z' p) (hr : ∀ p u, Z p → Rd H p u → Rd H' p u) (hm : ∀ (n : Nat) a, μ[n]? = some a → μ'[n]? = some a) (ha : ∀ o, H a = some o → H' a = some o) (h : Own K H Z μ a d v) : Own K H' Z' μ' a d v := by
  cases d with
  | lst ds =>
    obtain ⟨e, vs, h1, h2, h3⟩ := (show v = V.ref a ∧ ∃ vs, H a = some (.lst vs) ∧ vs.length ≤ sizeLine ∧ Reps K H Z μ ds vs from h)
    exact ⟨e, vs, ha _ h1, h2, Reps.mono hz hr hm _ _ h3⟩
  | dic kvs =>
    obtain ⟨e, vs, h1, h2⟩ := (show v = V.ref a ∧ ∃ vs, DicAt (fun a o => H a = some o) a (kvs.map Prod.fst) vs ∧ RepE K H Z μ kvs vs from h)
    exact ⟨e, vs, h1.mono fun u q => ha _ q, RepE.mono hz hr hm _ _ h2⟩
  | _ => exact h.elim
/-- locked: what was one's own is shared -/
theorem Own.lock {d : D} {v : V} {a : Addr} (hz : ∀ p, Z p → Z' p) (ha : Z' a) (h : Own K H Z μ a d v) : Rep K H Z' μ d v := by
  cases d with
  | lst ds =>
    obtain ⟨e, vs, h1, h2, h3⟩ := (show v = V.ref a ∧ ∃ vs, H a = some (.lst vs) ∧ vs.length ≤ sizeLine ∧ Reps K H Z μ ds vs from h)
    exact ⟨a, vs, e, ⟨ha, .inl h1⟩, h2, Reps.mono hz (fun _ _ _ q => q) (fun _ _ q => q) _ _ h3⟩
  | dic kvs =>
    obtain ⟨e, vs, h1, h2⟩ := (show v = V.ref a ∧ ∃ vs, DicAt (fun a o => H a = some o) a (kvs.map Prod.fst) vs ∧ RepE K H Z μ kvs vs from h)
    exact ⟨a, vs, e, ha, h1.mono fun u q => .inl q, RepE.mono hz (fun _ _ _ q => q) (fun _ _ q => q) _ _ h2⟩
  | _ => exact h.elim
theorem RepT.mono {d : D} {v : V} (hz : ∀ p, Z p → Z' p) (hk : ∀ p o, p ∉ μ → H p = some o → H' p = some o) (hzm : ∀ a ∈ μ, ¬ Z a) (hm : ∃ l, μ' = μ ++ l ∧ ∀ a ∈ l, H a = none) (h : RepT K H Z μ d v) : RepT K H' Z' μ' d v := by
  have rd : ∀ {p u}, p ∉ μ → Rd H p u → Rd H' p u := fun {p u} hp r => by
    rcases r with r | ⟨o, r⟩
    · exact .inl (hk _ _ hp r)
    · exact .inr ⟨o, hk _ _ hp r⟩
  have hr : ∀ p u, Z p → Rd H p u → Rd H' p u := fun p u q r => rd (fun m => hzm p m q) r
  have hmm : ∀ (n : Nat) a, μ[n]? = some a → μ'[n]? = some a := fun n a e => by
    obtain ⟨l, rfl, _⟩ := hm
    rw [List.getElem?_append_left (List.getElem?_eq_some_iff.mp e).1]; exact e
  have live : ∀ {p u}, Rd H p u → ∃ o, H p = some o := fun {p u} r => by
    rcases r with r | ⟨o, r⟩
    · exact ⟨_, r⟩
    · exact ⟨_, r⟩
  have out : ∀ {p u}, Rd H p u → p ∉ μ → p ∉ μ' := fun {p u} r hp q => by
    obtain ⟨l, rfl, hl⟩ := hm
    obtain ⟨o, e⟩ := live r
    rcases List.mem_append.mp q with q | q
    · exact hp q
    · rw [hl p q] at e; cases e
  cases d with
  | lst ds =>
    obtain ⟨a, vs, e, h1, h2, h3⟩ := (show ∃ a vs, v = V.ref a ∧ (a ∉ μ ∧ Rd H a (.lst vs)) ∧ vs.length ≤ sizeLine ∧ Reps K H Z μ ds vs from h)
    exact ⟨a, vs, e, ⟨out h1.2 h1.1, rd h1.1 h1.2⟩, h2, Reps.mono hz hr hmm _ _ h3⟩
  | dic kvs =>
    obtain ⟨a, vs, e, h1, h2, h3⟩ := (show ∃ a vs, v = V.ref a ∧ a ∉ μ ∧ DicAt (Rd H) a (kvs.map Prod.fst) vs ∧ RepE K H Z μ kvs vs from h)
    refine ⟨a, vs, e, ?_, h2.mono fun u q => rd h1 q, RepE.mono hz hr hmm _ _ h3⟩
    rcases h2 with ⟨_, q, _⟩ | ⟨_, q, _⟩
    · exact out q h1
    · exact out q h1
  | _ => exact Rep.mono hz hr hmm _ _ h
end
end Lb

set_option maxRecDepth 100000
/-! states and steps -/
namespace Lb
open PySem PySem.Spec PyProof.Rows L2

structure Gh where
  Z : Zs
  ad : Nat → Addr
  μ : List Addr
structure StoR (K : PySem.W.Frag) (H : Hp) (Z : Zs) (μ : List Addr) (st : Sto) : Prop where
  len : μ.length = st.length
  at_ : ∀ (n : Nat) (xs : List D), st[n]? = some xs → ∃ a vs, μ[n]? = some a ∧ H a = some (.lst vs) ∧ vs.length ≤ sizeLine ∧ Reps K H Z μ xs vs
structure Rel (K : PySem.W.Frag) (own : List Nat) (s : S) (G : Gh) (σ : L2.St) (H : Hp) : Prop where
  len : s.env.length = σ.length
  slot : ∀ (i : Nat) (d : D), s.env[i]? = some (some d) → ∃ v, σ[i]? = some (some v) ∧ (i ∈ own → Own K H G.Z G.μ (G.ad i) d v) ∧ (i ∉ own → Rep K H G.Z G.μ d v)
  zl : ∀ p, G.Z p → ∃ o, H p = some o
  oz : ∀ i ∈ own, ¬ G.Z (G.ad i) ∧ G.ad i ∉ G.μ ∧ ∃ o, H (G.ad i) = some o
  inj : ∀ i ∈ own, ∀ j ∈ own, G.ad i = G.ad j → i = j
  sto : StoR K H G.Z G.μ s.st
  mz : ∀ a ∈ G.μ, ¬ G.Z a
  mnd : G.μ.Nodup
/-- from one moment to a later one of the same frame -/
structure Stp (own own' : List Nat) (mu : Bool) (G : Gh) (H : Hp) (G' : Gh) (H' : Hp) : Prop where
  keep : ∀ p o, H p = some o → p ∉ G.μ → (mu = true → ∀ i ∈ own, G.ad i ≠ p) → H' p = some o
  live : ∀ p o, H p = some o → ∃ o', H' p = some o'
  zz : ∀ p, G.Z p → G'.Z p
  zn : ∀ p, G'.Z p → G.Z p ∨ H p = none ∨ ∃ i, i ∈ own ∧ i ∉ own' ∧ G.ad i = p
  ad : G'.ad = G.ad
  mup : ∃ l, G'.μ = G.μ ++ l ∧ ∀ a ∈ l, H a = none
  sub : ∀ i ∈ own', i ∈ own
section
variable {K : PySem.W.Frag} {own own' own'' : List Nat} {s s' : S} {G G' G'' : Gh} {σ : L2.St} {H H' H'' : Hp} {mu mu' : Bool}
theorem Stp.refl : Stp own own mu G H G H := ⟨fun _ _ h _ _ => h, fun _ o h => ⟨o, h⟩, fun _ h => h, fun _ h => .inl h, rfl, ⟨[], by simp, fun _ h => by simp at h⟩, fun _ h => h⟩
theorem Stp.fresh (t : Stp own own' mu G H G' H') {p : Addr} (h : H' p = none) : H p = none := by
  cases e : H p with
  | none => rfl
  | some o =>
    obtain ⟨o', e'⟩ := t.live p o e
    rw [h] at e'; cases e'
theorem Stp.trans (a : Stp own own' mu G H G' H') (b : Stp own' own'' mu' G' H' G'' H'') : Stp own own'' (mu || mu') G H G'' H'' where
  keep := fun p o h hm ho => by
    obtain ⟨l, e, hl⟩ := a.mup
    refine b.keep p o (a.keep p o h hm fun q => ho (by rw [q]; rfl)) ?_ fun q i hi => ?_
    · rw [e]
      intro q
      rcases List.mem_append.mp q with q | q
      · exact hm q
      · rw [hl p q] at h; cases h
    · rw [a.ad]
      exact ho (by rw [q]; simp) i (a.sub i hi)
  live := fun p o h => by
    obtain ⟨o', h'⟩ := a.live p o h
    exact b.live p o' h'
  zz := fun p h => b.zz p (a.zz p h)
  zn := fun p h => by
    rcases b.zn p h with q | q | ⟨i, h1, h2, h3⟩
    · rcases a.zn p q with q | q | ⟨i, h1, h2, h3⟩
      · exact .inl q
      · exact .inr (.inl q)
      · exact .inr (.inr ⟨i, h1, fun z => h2 (b.sub i z), h3⟩)
    · exact .inr (.inl (a.fresh q))
    · exact .inr (.inr ⟨i, a.sub i h1, h2, by rw [← a.ad]; exact h3⟩)
  ad := b.ad.trans a.ad
  mup := by
    obtain ⟨l, e, hl⟩ := a.mup
    obtain ⟨l', e', hl'⟩ := b.mup
    refine ⟨l ++ l', by rw [e', e, List.append_assoc], fun x hx => ?_⟩
    rcases List.mem_append.mp hx with hx | hx
    · exact hl x hx
    · exact a.fresh (hl' x hx)
  sub := fun i hi => a.sub i (b.sub i hi)
theorem Stp.weak (a : Stp own own' mu G H G' H') (h : mu = true → mu' = true) : Stp own own' mu' G H G' H' :=
  ⟨fun p o e hm ho => a.keep p o e hm fun q => ho (h q), a.live, a.zz, a.zn, a.ad, a.mup, a.sub⟩
theorem Stp.mm (t : Stp own own' mu G H G' H') (n : Nat) (a : Addr) (e : G.μ[n]? = some a) : G'.μ[n]? = some a := by
  obtain ⟨l, h, _⟩ := t.mup
  rw [h, List.getElem?_append_left (List.getElem?_eq_some_iff.mp e).1]; exact e
theorem Stp.notmu (t : Stp own own' mu G H G' H') {p : Addr} {o : HO} (h : p ∉ G.μ) (e : H p = some o) : p ∉ G'.μ := by
  obtain ⟨l, q, hl⟩ := t.mup
  rw [q]
  intro z
  rcases List.mem_append.mp z with z | z
  · exact h z
  · rw [hl p z] at e; cases e
theorem Rel.rd (r : Rel K own s G σ H) (t : Stp own own' mu G H G' H') {p : Addr} {u : HO} (z : G.Z p) (h : Rd H p u) : Rd H' p u := by
  have hm : p ∉ G.μ := fun q => r.mz p q z
  have ho : mu = true → ∀ i ∈ own, G.ad i ≠ p := fun _ i hi e => (r.oz i hi).1 (by rw [e]; exact z)
  rcases h with h | ⟨o, h⟩
  · exact .inl (t.keep p _ h hm ho)
  · exact .inr ⟨o, t.keep p _ h hm ho⟩
/-- what is shared stays -/
theorem Rel.rep (r : Rel K own s G σ H) (t : Stp own own' mu G H G' H') {d : D} {v : V} (h : Rep K H G.Z G.μ d v) : Rep K H' G'.Z G'.μ d v :=
  Rep.mono t.zz (fun _ _ z q => r.rd t z q) t.mm d v h
theorem Rel.reps (r : Rel K own s G σ H) (t : Stp own own' mu G H G' H') {d : List D} {v : List V} (h : Reps K H G.Z G.μ d v) : Reps K H' G'.Z G'.μ d v :=
  Reps.mono t.zz (fun _ _ z q => r.rd t z q) t.mm d v h
theorem Rel.repT (r : Rel K own s G σ H) (t : Stp own own' false G H G' H') {d : D} {v : V} (h : RepT K H G.Z G.μ d v) : RepT K H' G'.Z G'.μ d v :=
  RepT.mono t.zz (fun p o hm e => t.keep p o e hm fun q => by cases q) r.mz t.mup h
/-- an own container that is no slot's (a new one) stays -/
theorem Rel.ownS (r : Rel K own s G σ H) (t : Stp own own' mu G H G' H') {d : D} {v : V} {a : Addr} (hm : a ∉ G.μ) (ho : mu = true → ∀ i ∈ own, G.ad i ≠ a) (h : Own K H G.Z G.μ a d v) : Own K H' G'.Z G'.μ a d v :=
  Own.mono t.zz (fun _ _ z q => r.rd t z q) t.mm (fun o e => t.keep a o e hm ho) h
theorem Rel.noz (t : Stp own own' mu G H G' H') {a : Addr} (hz : ¬ G.Z a) (hl : ∃ o, H a = some o) (ho : ∀ i ∈ own, G.ad i ≠ a) : ¬ G'.Z a := fun z => by
  rcases t.zn a z with q | q | ⟨i, h1, _, h3⟩
  · exact hz q
  · obtain ⟨o, e⟩ := hl
    rw [q] at e; cases e
  · exact ho i h1 h3
/-- fewer slots of one's own: what they hold is locked -/
theorem Rel.less (r : Rel K own s G σ H) (h : ∀ i ∈ own', i ∈ own) : ∃ G', Rel K own' s G' σ H ∧ Stp own own' false G H G' H := by
  refine ⟨⟨fun p => G.Z p ∨ ∃ i, i ∈ own ∧ i ∉ own' ∧ G.ad i = p, G.ad, G.μ⟩, ?_, ?_⟩
  · have zz : ∀ p, G.Z p → (G.Z p ∨ ∃ i, i ∈ own ∧ i ∉ own' ∧ G.ad i = p) := fun p q => .inl q
    refine ⟨r.len, fun i d e => ?_, fun p q => ?_, fun i hi => ⟨?_, (r.oz i (h i hi)).2⟩, fun i hi j hj => r.inj i (h i hi) j (h j hj), ⟨r.sto.len, fun n xs e => ?_⟩, fun a ha q => ?_, r.mnd⟩
    · obtain ⟨v, e1, e2, e3⟩ := r.slot i d e
      refine ⟨v, e1, fun hi => ?_, fun hi => ?_⟩
      · exact Own.mono zz (fun _ _ _ q => q) (fun _ _ q => q) (fun _ q => q) (e2 (h i hi))
      · by_cases hio : i ∈ own
        · exact Own.lock zz (.inr ⟨i, hio, hi, rfl⟩) (e2 hio)
        · exact Rep.mono zz (fun _ _ _ q => q) (fun _ _ q => q) _ _ (e3 hio)
    · rcases q with q | ⟨i, h1, _, h3⟩
      · exact r.zl p q
      · subst h3; exact (r.oz i h1).2.2
    · rintro (q | ⟨j, h1, h2, h3⟩)
      · exact (r.oz i (h i hi)).1 q
      · exact h2 ((r.inj j h1 i (h i hi) h3) ▸ hi)
    · obtain ⟨a, vs, e1, e2, e3, e4⟩ := r.sto.at_ n xs e
      exact ⟨a, vs, e1, e2, e3, Reps.mono zz (fun _ _ _ q => q) (fun _ _ q => q) _ _ e4⟩
    · rcases q with q | ⟨i, h1, _, h3⟩
      · exact r.mz a ha q
      · subst h3; exact (r.oz i h1).2.1 ha
  · refine ⟨fun _ _ e _ _ => e, fun _ o e => ⟨o, e⟩, fun _ q => .inl q, fun p q => ?_, rfl, ⟨[], by simp, fun _ q => by simp at q⟩, h⟩
    rcases q with q | q
    · exact .inl q
    · exact .inr (.inr q)
end

/-! ### what comes of an expression -/
inductive Md where
  /-- shared | looked at | new -/
  | sh | pk | fr
  deriving DecidableEq
def ResM (K : PySem.W.Frag) (G : Gh) (H H0 : Hp) (d : D) (v : V) : Md → Prop
  | .sh => Rep K H G.Z G.μ d v
  | .pk => RepT K H G.Z G.μ d v
  | .fr => ∃ a, Own K H G.Z G.μ a d v ∧ ¬ G.Z a ∧ a ∉ G.μ ∧ H0 a = none
/-- an exception's class and dict -/
def ExcV (mg : Str → Option Value) (H : Hp) (e : X) (cls : Value) (dd : Option Addr) : Prop := ∃ C, mg e.cls = some (.ref C) ∧ cls = .ref C ∧ e.fs = [] ∧ dd = none
structure Cfg where
  K : PySem.W.Frag
  mg : Str → Option Value
  W : WX
/-- what is wanted of a run that began at G, H -/
def Post {α : Type} (c : Cfg) (own : List Nat) (G : Gh) (σ : L2.St) (H : Hp) (k : α → S → Prop) : R S α → Prop
  | .ok a s => k a s
  | .exc e s => ∀ cls dd H' G', Rel c.K [] s G' σ H' → Stp own [] true G H G' H' → ExcV c.mg H' e cls dd → c.W cls dd σ H'
  | .fail => False
def tE (c : Cfg) (own own' : List Nat) (mu : Bool) (md : Md) (m : S → R S D) : TE := fun σ H Q => ∃ s G, Rel c.K own s G σ H ∧
  Post c own G σ H (fun d s' => ∀ v H' G', Rel c.K own' s' G' σ H' → Stp own own' mu G H G' H' → ResM c.K G' H' H d v md → Q v H') (m s)
def tT (c : Cfg) (own own' : List Nat) (mu : Bool) (m : S → R S Bool) : TT := fun σ H Q => ∃ s G, Rel c.K own s G σ H ∧
  Post c own G σ H (fun b s' => ∀ H' G', Rel c.K own' s' G' σ H' → Stp own own' mu G H G' H' → Q b H') (m s)
/-- arguments; pk: they are looked at alone -/
def RepsM (K : PySem.W.Frag) (G : Gh) (H : Hp) (pk : Bool) (ds : List D) (vs : List V) : Prop := if pk then RepTs K H G.Z G.μ ds vs else Reps K H G.Z G.μ ds vs
def tAs (c : Cfg) (own own' : List Nat) (mu pk : Bool) (m : S → R S (List D)) : TA := fun σ H Q => ∃ s G, Rel c.K own s G σ H ∧
  Post c own G σ H (fun ds s' => ∀ vs H' G', Rel c.K own' s' G' σ H' → Stp own own' mu G H G' H' → RepsM c.K G' H' pk ds vs → Q vs H') (m s)
section
variable {X : Cx} {c : Cfg} {own own' own'' : List Nat} {mu mu' : Bool} {α β : Type} {G G' : Gh} {σ : L2.St} {H H' : Hp}
theorem Stp.exc {G G' G'' : Gh} {H H' H'' : Hp} (a : Stp own own' mu G H G' H') (b : Stp own' [] true G' H' G'' H'') : Stp own [] true G H G'' H'' := (a.trans b).weak fun _ => rfl
theorem Post.bind {k : β → S → Prop} {r : R S α} {f : α → S → R S β} : Post c own G σ H k (r.bind f) = Post c own G σ H (fun a s => Post c own G σ H k (f a s)) r := by cases r <;> rfl
theorem Post.ok {k : α → S → Prop} {a : α} {s : S} : Post c own G σ H k (.ok a s) = k a s := rfl
theorem Post.opt {k : α → S → Prop} {o : Option α} {s : S} (h : Post c own G σ H k (Lb.opt s o)) : ∃ a, o = some a ∧ k a s := by
  cases o with
  | none => exact h.elim
  | some a => exact ⟨a, rfl, h⟩
theorem Post.mono {k k' : α → S → Prop} {r : R S α} (h : Post c own G σ H k r) (f : ∀ a s, k a s → k' a s) : Post c own G σ H k' r := by
  cases r with
  | ok a s => exact f a s h
  | exc e s => exact h
  | fail => exact h
theorem Post.move {k : α → S → Prop} {r : R S α} (h : Post c own G σ H k r) (t : Stp own own' mu G H G' H') : Post c own' G' σ H' k r := by
  cases r with
  | ok a s => exact h
  | exc e s => exact fun cls dd H2 G2 r2 t2 x => h cls dd H2 G2 r2 (t.exc t2) x
  | fail => exact h
end
/-! ### readings are imposed -/
theorem imE {X : Cx} {e : Expr} {t t' : TE} (h : PE X e t) (f : ∀ σ H Q, t' σ H Q → t σ H Q) : PE X e t' := ⟨fun pins s σ H Q I q => h.run pins s σ H Q I (f σ H Q q)⟩
theorem imT {X : Cx} {e : Expr} {t t' : TT} (h : PT X e t) (f : ∀ σ H Q, t' σ H Q → t σ H Q) : PT X e t' := ⟨fun pins s σ H Q I q => h.run pins s σ H Q I (f σ H Q q)⟩
theorem imW {X : Cx} {e : Expr} {t t' : TT} (h : PW X e t) (f : ∀ σ H Q, t' σ H Q → t σ H Q) : PW X e t' := ⟨fun wh pins s σ H Q I q => h.run wh pins s σ H Q I (f σ H Q q)⟩
theorem imA {X : Cx} {e : List Expr} {t t' : TA} (h : PA X e t) (f : ∀ σ H Q, t' σ H Q → t σ H Q) : PA X e t' := ⟨fun pos pins s σ H Q I q => h.run pos pins s σ H Q I (f σ H Q q)⟩
theorem imS {X : Cx} {e : Stmt} {t t' : TS} (h : PS X e t) (f : ∀ D σ H, t' D σ H → t D σ H) : PS X e t' := ⟨fun pins s σ H D I q => h.run pins s σ H D I (f D σ H q)⟩
theorem imSs {X : Cx} {e : List Stmt} {t t' : TS} (h : PSs X e t) (f : ∀ D σ H, t' D σ H → t D σ H) : PSs X e t' := ⟨fun pins s σ H D I q => h.run pins s σ H D I (f D σ H q)⟩
end Lb

set_option maxRecDepth 100000
/-! expressions: the frame of it -/
namespace Lb
open PySem PySem.Spec PyProof.Rows L2
section
variable {X : Cx} {c : Cfg} {own own1 own2 own' : List Nat} {mu mu1 mu2 : Bool} {σ : L2.St} {H : Hp}
theorem Rel.addZ {K : PySem.W.Frag} {s : S} {G : Gh} {a : Addr} (r : Rel K own s G σ H) (ho : ∀ i ∈ own, G.ad i ≠ a) (hm : a ∉ G.μ) (hl : ∃ o, H a = some o) : Rel K own s { G with Z := fun p => G.Z p ∨ p = a } σ H := by
  have zz : ∀ p, G.Z p → (G.Z p ∨ p = a) := fun p q => .inl q
  refine ⟨r.len, fun i d e => ?_, fun p q => ?_, fun i hi => ⟨?_, (r.oz i hi).2⟩, r.inj, ⟨r.sto.len, fun n xs e => ?_⟩, fun b hb q => ?_, r.mnd⟩
  · obtain ⟨v, e1, e2, e3⟩ := r.slot i d e
    exact ⟨v, e1, fun hi => Own.mono zz (fun _ _ _ q => q) (fun _ _ q => q) (fun _ q => q) (e2 hi), fun hi => Rep.mono zz (fun _ _ _ q => q) (fun _ _ q => q) _ _ (e3 hi)⟩
  · rcases q with q | q
    · exact r.zl p q
    · subst q; exact hl
  · rintro (q | q)
    · exact (r.oz i hi).1 q
    · exact ho i hi q
  · obtain ⟨b, vs, e1, e2, e3, e4⟩ := r.sto.at_ n xs e
    exact ⟨b, vs, e1, e2, e3, Reps.mono zz (fun _ _ _ q => q) (fun _ _ q => q) _ _ e4⟩
  · rcases q with q | q
    · exact r.mz b hb q
    · subst q; exact hm hb
theorem Stp.addZ {G G' : Gh} {H' : Hp} {a : Addr} (t : Stp own own' mu G H G' H') (ha : H a = none) : Stp own own' mu G H { G' with Z := fun p => G'.Z p ∨ p = a } H' :=
  ⟨t.keep, t.live, fun p q => .inl (t.zz p q), fun p q => q.elim (t.zn p) fun e => .inr (.inl (by rw [e]; exact ha)), t.ad, t.mup, t.sub⟩
theorem Rel.newNe {K : PySem.W.Frag} {s : S} {G G' : Gh} {H' : Hp} {a : Addr} (r : Rel K own s G σ H) (t : Stp own own' mu G H G' H') (ha : H a = none) : ∀ i ∈ own', G'.ad i ≠ a := fun i hi e => by
  obtain ⟨_, _, o, q⟩ := r.oz i (t.sub i hi)
  rw [t.ad] at e
  rw [e, ha] at q; cases q
/-- a new container is locked -/
theorem seSh {e : Expr} {m : S → R S D} (h : PE X e (tE c own own' mu .fr m)) : PE X e (tE c own own' mu .sh m) := imE h fun σ H Q ⟨s, G, r, q⟩ => by
  refine ⟨s, G, r, q.mono fun d s' q => ?_⟩
  rintro v H' G' r' t ⟨a, ow, nz, nm, new⟩
  obtain ⟨ev, hl⟩ := ow.live
  exact q v H' _ (r'.addZ (r.newNe t new) nm hl) (t.addZ new) (Own.lock (fun _ z => .inl z) (.inr rfl) ow)
theorem sePkF {e : Expr} {m : S → R S D} (h : PE X e (tE c own own' mu .fr m)) : PE X e (tE c own own' mu .pk m) := imE h fun σ H Q ⟨s, G, r, q⟩ => by
  refine ⟨s, G, r, q.mono fun d s' q => ?_⟩
  rintro v H' G' r' t ⟨a, ow, nz, nm, new⟩
  exact q v H' _ r' t (ow.top nm)
theorem sePk {e : Expr} {m : S → R S D} (h : PE X e (tE c own own' mu .sh m)) : PE X e (tE c own own' mu .pk m) := imE h fun σ H Q ⟨s, G, r, q⟩ => by
  refine ⟨s, G, r, q.mono fun d s' q => ?_⟩
  intro v H' G' r' t rp
  exact q v H' _ r' t (Rep.top r'.mz rp)
theorem seMu {e : Expr} {m : S → R S D} {md : Md} (h : PE X e (tE c own own' mu1 md m)) (hm : mu1 = true → mu = true) : PE X e (tE c own own' mu md m) := imE h fun σ H Q ⟨s, G, r, q⟩ => by
  refine ⟨s, G, r, q.mono fun d s' q => ?_⟩
  intro v H' G' r' t rp
  exact q v H' _ r' (t.weak hm) rp

/-! ### names, constants -/
theorem relSh {K : PySem.W.Frag} {s : S} {G : Gh} {i : Nat} {d : D} (r : Rel K own s G σ H) (hi : i ∉ own) (e : s.env[i]? = some (some d)) : ∃ v, σ[i]? = some (some v) ∧ Rep K H G.Z G.μ d v := by
  obtain ⟨v, e1, _, e3⟩ := r.slot i d e
  exact ⟨v, e1, e3 hi⟩
theorem Post.getV {G : Gh} {k : D → S → Prop} {i : Nat} {s : S} (h : Post c own G σ H k (Lb.getV i s)) : ∃ d, s.env[i]? = some (some d) ∧ k d s := by
  unfold Lb.getV at h
  cases e : s.env[i]? with
  | none => rw [e] at h; exact h.elim
  | some o =>
    cases o with
    | none => rw [e] at h; exact h.elim
    | some d => rw [e] at h; exact ⟨d, rfl, h⟩
theorem se_var {i : Nat} {x : Str} {pos : Pos} (hN : X.N[i]? = some x) (hv : Vis X.env.scope x) (hd : (x == ("__debug__" : Str)) = false) (hcd : (x == ("__classdict__" : Str)) = false) (hi : i ∉ own) :
    PE X (.Name x pos) (tE c own own false .sh (getV i)) := imE (pe_var hN hv hd hcd) fun σ H Q ⟨s, G, r, q⟩ => by
  obtain ⟨d, e, q⟩ := q.getV
  obtain ⟨v, e1, e2⟩ := relSh r hi e
  exact ⟨v, e1, q v H G r Stp.refl e2⟩
theorem se_pk {i : Nat} {x : Str} {pos : Pos} (hN : X.N[i]? = some x) (hv : Vis X.env.scope x) (hd : (x == ("__debug__" : Str)) = false) (hcd : (x == ("__classdict__" : Str)) = false) :
    PE X (.Name x pos) (tE c own own false .pk (getV i)) := imE (pe_var hN hv hd hcd) fun σ H Q ⟨s, G, r, q⟩ => by
  obtain ⟨d, e, q⟩ := q.getV
  obtain ⟨v, e1, e2, e3⟩ := r.slot i d e
  refine ⟨v, e1, q v H G r Stp.refl ?_⟩
  by_cases hi : i ∈ own
  · exact (e2 hi).top (r.oz i hi).2.1
  · exact Rep.top r.mz (e3 hi)
def drop1 (own : List Nat) (i : Nat) : List Nat := own.filter fun j => j != i
theorem se_frz {i : Nat} {x : Str} {pos : Pos} (hN : X.N[i]? = some x) (hv : Vis X.env.scope x) (hd : (x == ("__debug__" : Str)) = false) (hcd : (x == ("__classdict__" : Str)) = false) :
    PE X (.Name x pos) (tE c own (drop1 own i) false .sh (getV i)) := imE (pe_var hN hv hd hcd) fun σ H Q ⟨s, G, r, q⟩ => by
  obtain ⟨d, e, q⟩ := q.getV
  obtain ⟨G', r', t⟩ := r.less (own' := drop1 own i) fun j hj => (List.mem_filter.mp hj).1
  have hi : i ∉ drop1 own i := fun h => by
    have := (List.mem_filter.mp h).2
    simp at this
  obtain ⟨v, e1, e2⟩ := relSh r' hi e
  exact ⟨v, e1, q v H G' r' t e2⟩
theorem se_cn {k : Cn} {e : Expr} {v : V} (h : PE X e (tC v)) (hv : ∀ H Z μ, Rep c.K H Z μ k.d v) : PE X e (tE c own own false .sh fun s => .ok k.d s) := imE h fun σ H Q ⟨s, G, r, q⟩ => q v H G r Stp.refl (hv H G.Z G.μ)
theorem se_int {i : Int} {j pos} : PE X (.Constant (.int i) j pos) (tE c own own false .sh fun s => .ok (Cn.int i).d s) := se_cn (k := .int i) pe_int fun _ _ _ => rfl
theorem se_bl {b : Bool} {j pos} : PE X (.Constant (.bool b) j pos) (tE c own own false .sh fun s => .ok (Cn.bl b).d s) := se_cn (k := .bl b) pe_bl fun _ _ _ => rfl
theorem se_non {j pos} : PE X (.Constant .none j pos) (tE c own own false .sh fun s => .ok Cn.non.d s) := se_cn (k := .non) pe_non fun _ _ _ => rfl
theorem se_str {x : Str} {j pos} : PE X (.Constant (.str x) j pos) (tE c own own false .sh fun s => .ok (Cn.str x).d s) := se_cn (k := .str x) pe_str fun _ _ _ => rfl

/-! ### arguments -/
theorem sa_nil {pk : Bool} : PA X [] (tAs c own own false pk fun s => .ok [] s) := imA pa_nil fun σ H Q ⟨s, G, r, q⟩ => q [] H G r Stp.refl (by unfold RepsM; cases pk <;> exact rfl)
theorem sa_sh {e : Expr} {es : List Expr} {m1 : S → R S D} {m2 : S → R S (List D)} (h1 : PE X e (tE c own own1 mu1 .sh m1)) (h2 : PA X es (tAs c own1 own2 mu2 false m2)) (hs : starEach (e :: es) X.env = (false, eval e X.env) :: starEach es X.env) :
    PA X (e :: es) (tAs c own own2 (mu1 || mu2) false fun s => (m1 s).bind fun d s => (m2 s).bind fun ds s => .ok (d :: ds) s) := imA (pa_cons h1 h2 hs) fun σ H Q ⟨s, G, r, q⟩ => by
  simp only [Post.bind, Post.ok] at q
  refine ⟨s, G, r, q.mono fun d s1 q v H1 G1 r1 t1 rp1 => ⟨s1, G1, r1, (q.move t1).mono fun ds s2 q vs H2 G2 r2 t2 rp2 => ?_⟩⟩
  exact q (v :: vs) H2 G2 r2 (t1.trans t2) ⟨v, vs, rfl, r1.rep t2 rp1, rp2⟩
theorem sa_pk {e : Expr} {es : List Expr} {m1 : S → R S D} {m2 : S → R S (List D)} (h1 : PE X e (tE c own own1 false .pk m1)) (h2 : PA X es (tAs c own1 own2 false true m2)) (hs : starEach (e :: es) X.env = (false, eval e X.env) :: starEach es X.env) :
    PA X (e :: es) (tAs c own own2 false true fun s => (m1 s).bind fun d s => (m2 s).bind fun ds s => .ok (d :: ds) s) := imA (pa_cons h1 h2 hs) fun σ H Q ⟨s, G, r, q⟩ => by
  simp only [Post.bind, Post.ok] at q
  refine ⟨s, G, r, q.mono fun d s1 q v H1 G1 r1 t1 rp1 => ⟨s1, G1, r1, (q.move t1).mono fun ds s2 q vs H2 G2 r2 t2 rp2 => ?_⟩⟩
  exact q (v :: vs) H2 G2 r2 (t1.trans t2) ⟨v, vs, rfl, r1.repT t2 rp1, rp2⟩

/-! ### what a primitive hands on -/
/-- the heap grows; what is new may be locked -/
structure Grow (H H' : Hp) (Z Z' : Zs) (μ : List Addr) : Prop where
  keep : ∀ p o, H p = some o → H' p = some o
  zz : ∀ p, Z p → Z' p
  zn : ∀ p, Z' p → Z p ∨ (H p = none ∧ ∃ o, H' p = some o)
theorem Grow.refl {H : Hp} {Z : Zs} {μ : List Addr} : Grow H H Z Z μ := ⟨fun _ _ h => h, fun _ h => h, fun _ h => .inl h⟩
/-- a new object is laid and locked -/
theorem Grow.laid {H : Hp} {Z : Zs} {μ : List Addr} {p : Addr} {o : HO} (hp : H p = none) : Grow H (upd H p o) Z (fun q => Z q ∨ q = p) μ :=
  ⟨fun q u h => by rw [upd_ne (ne_of_none h hp)]; exact h, fun _ h => .inl h, fun q h => h.imp id fun e => ⟨by rw [e]; exact hp, o, by rw [e]; exact upd_same⟩⟩
def Out (K : PySem.W.Frag) (H : Hp) (Z : Zs) (μ : List Addr) (d : D) (Q : VK) : Prop := ∀ v H' Z', Grow H H' Z Z' μ → Rep K H' Z' μ d v → Q v H'
/-- a new list -/
def OutF (K : PySem.W.Frag) (H : Hp) (Z : Zs) (μ : List Addr) (d : D) (Q : VK) : Prop := ∀ a vs ds, d = .lst ds → H a = none → vs.length ≤ sizeLine → Reps K H Z μ ds vs → Q (.ref a) (upd H a (.lst vs))
theorem Rel.grow {K : PySem.W.Frag} {s : S} {G : Gh} {H' : Hp} {Z' : Zs} (r : Rel K own s G σ H) (g : Grow H H' G.Z Z' G.μ) : Rel K own s { G with Z := Z' } σ H' ∧ Stp own own mu G H { G with Z := Z' } H' := by
  have hr : ∀ p u, G.Z p → Rd H p u → Rd H' p u := fun p u _ q => q.elim (fun q => .inl (g.keep _ _ q)) fun ⟨o, q⟩ => .inr ⟨o, g.keep _ _ q⟩
  have mm : ∀ (n : Nat) a, G.μ[n]? = some a → G.μ[n]? = some a := fun _ _ q => q
  have mlive : ∀ a ∈ G.μ, ∃ o, H a = some o := fun a ha => by
    obtain ⟨n, hn, e⟩ := List.mem_iff_getElem.mp ha
    have hn' : n < s.st.length := by rw [← r.sto.len]; exact hn
    obtain ⟨b, vs, e1, e2, _⟩ := r.sto.at_ n _ (List.getElem?_eq_getElem hn')
    rw [List.getElem?_eq_getElem hn, e] at e1
    cases e1
    exact ⟨_, e2⟩
  refine ⟨⟨r.len, fun i d e => ?_, fun p q => ?_, fun i hi => ⟨fun q => ?_, (r.oz i hi).2.1, ?_⟩, r.inj, ⟨r.sto.len, fun n xs e => ?_⟩, fun b hb q => ?_, r.mnd⟩, ⟨fun p o e _ _ => g.keep p o e, fun p o e => ⟨o, g.keep p o e⟩, g.zz, fun p q => ?_, rfl, ⟨[], by simp, fun _ q => by simp at q⟩, fun _ q => q⟩⟩
  · obtain ⟨v, e1, e2, e3⟩ := r.slot i d e
    exact ⟨v, e1, fun hi => Own.mono g.zz hr mm (fun o q => g.keep _ o q) (e2 hi), fun hi => Rep.mono g.zz hr mm _ _ (e3 hi)⟩
  · rcases g.zn p q with q | ⟨_, q⟩
    · obtain ⟨o, e⟩ := r.zl p q
      exact ⟨o, g.keep p o e⟩
    · exact q
  · rcases g.zn _ q with q | ⟨q, _⟩
    · exact (r.oz i hi).1 q
    · obtain ⟨_, _, o, e⟩ := r.oz i hi
      rw [q] at e; cases e
  · obtain ⟨_, _, o, e⟩ := r.oz i hi
    exact ⟨o, g.keep _ o e⟩
  · obtain ⟨b, vs, e1, e2, e3, e4⟩ := r.sto.at_ n xs e
    exact ⟨b, vs, e1, g.keep _ _ e2, e3, Reps.mono g.zz hr mm _ _ e4⟩
  · rcases g.zn _ q with q | ⟨q, _⟩
    · exact r.mz b hb q
    · obtain ⟨o, e⟩ := mlive b hb
      rw [q] at e; cases e
  · rcases g.zn p q with q | ⟨q, _⟩
    · exact .inl q
    · exact .inr (.inl q)
theorem Rel.mlive {K : PySem.W.Frag} {s : S} {G : Gh} (r : Rel K own s G σ H) : ∀ a ∈ G.μ, ∃ o, H a = some o := fun a ha => by
  obtain ⟨n, hn, e⟩ := List.mem_iff_getElem.mp ha
  have hn' : n < s.st.length := by rw [← r.sto.len]; exact hn
  obtain ⟨b, vs, e1, e2, _⟩ := r.sto.at_ n _ (List.getElem?_eq_getElem hn')
  rw [List.getElem?_eq_getElem hn, e] at e1
  cases e1
  exact ⟨_, e2⟩
/-- a new container, not locked -/
theorem Rel.laidF {K : PySem.W.Frag} {s : S} {G : Gh} {p : Addr} {o : HO} (r : Rel K own s G σ H) (hp : H p = none) : Rel K own s G σ (upd H p o) ∧ Stp own own mu G H G (upd H p o) ∧ ¬ G.Z p ∧ p ∉ G.μ := by
  obtain ⟨r', t'⟩ := r.grow (mu := mu) (Z' := G.Z) (H' := upd H p o) ⟨(Grow.laid (o := o) (Z := G.Z) (μ := G.μ) hp).keep, fun _ h => h, fun _ h => .inl h⟩
  refine ⟨r', t', fun z => ?_, fun m => ?_⟩
  · obtain ⟨o, e⟩ := r.zl p z
    rw [hp] at e; cases e
  · obtain ⟨o, e⟩ := r.mlive p m
    rw [hp] at e; cases e
end
end Lb

set_option maxRecDepth 100000
set_option maxHeartbeats 1000000
/-! primitives: each is what the machine does -/
namespace Lb
open PySem PySem.Spec PyProof.Rows L2
section
variable {K : PySem.W.Frag} {H : Hp} {Z : Zs} {μ : List Addr} {d : D} {Q : VK}
theorem Out.same {v : V} (q : Out K H Z μ d Q) (h : Rep K H Z μ d v) : Q v H := q v H Z Grow.refl h
/-- a new tuple -/
theorem Out.tup {ds : List D} {vs : List V} (q : Out K H Z μ (.tup ds) Q) (hz : vs.length ≤ sizeLine) (h : Reps K H Z μ ds vs) (p : Addr) (hp : H p = none) : Q (.ref p) (upd H p (.tup vs)) := by
  refine q _ _ _ (Grow.laid (o := .tup vs) hp) ⟨p, vs, rfl, .inl ⟨.inr rfl, .inl upd_same⟩, hz, ?_⟩
  exact Reps.mono (fun _ z => .inl z) (fun a u _ r => r.elim (fun r => .inl (by rw [upd_ne (ne_of_none r hp)]; exact r)) fun ⟨o, r⟩ => .inr ⟨o, by rw [upd_ne (ne_of_none r hp)]; exact r⟩) (fun _ _ e => e) _ _ h
theorem Out.lst {ds : List D} {vs : List V} (q : Out K H Z μ (.lst ds) Q) (hz : vs.length ≤ sizeLine) (h : Reps K H Z μ ds vs) (p : Addr) (hp : H p = none) : Q (.ref p) (upd H p (.lst vs)) := by
  refine q _ _ _ (Grow.laid (o := .lst vs) hp) ⟨p, vs, rfl, ⟨.inr rfl, .inl upd_same⟩, hz, ?_⟩
  exact Reps.mono (fun _ z => .inl z) (fun a u _ r => r.elim (fun r => .inl (by rw [upd_ne (ne_of_none r hp)]; exact r)) fun ⟨o, r⟩ => .inr ⟨o, by rw [upd_ne (ne_of_none r hp)]; exact r⟩) (fun _ _ e => e) _ _ h
theorem SqT.of' {a : Addr} {vs : List V} (h : (Z a ∧ Rd H a (.tup vs)) ∨ KTup K a vs) : SqT K H a vs := h.imp (fun q => q.2) id
theorem SqL.of' {a : Addr} {vs : List V} (h : Rd H a (.lst vs)) : SqL K H a vs := .inl h
theorem tupE {ds : List D} {v : V} (h : RepT K H Z μ (.tup ds) v) : ∃ a vs, v = .ref a ∧ SqT K H a vs ∧ vs.length ≤ sizeLine ∧ Reps K H Z μ ds vs := by
  obtain ⟨a, vs, e, h1, h2, h3⟩ := (show ∃ a vs, v = V.ref a ∧ ((Z a ∧ Rd H a (.tup vs)) ∨ KTup K a vs) ∧ vs.length ≤ sizeLine ∧ Reps K H Z μ ds vs from h)
  exact ⟨a, vs, e, SqT.of' h1, h2, h3⟩
theorem lstE {ds : List D} {v : V} (h : RepT K H Z μ (.lst ds) v) : ∃ a vs, v = .ref a ∧ Rd H a (.lst vs) ∧ vs.length ≤ sizeLine ∧ Reps K H Z μ ds vs := by
  obtain ⟨a, vs, e, h1, h2, h3⟩ := (show ∃ a vs, v = V.ref a ∧ (a ∉ μ ∧ Rd H a (.lst vs)) ∧ vs.length ≤ sizeLine ∧ Reps K H Z μ ds vs from h)
  exact ⟨a, vs, e, h1.2, h2, h3⟩
theorem repTs1 {d1 : D} {xs : List V} (h : RepTs K H Z μ [d1] xs) : ∃ x, xs = [x] ∧ RepT K H Z μ d1 x := by
  obtain ⟨v, r, e, h1, h2⟩ := (show ∃ v r, xs = v :: r ∧ RepT K H Z μ d1 v ∧ RepTs K H Z μ [] r from h)
  cases (show r = [] from h2)
  exact ⟨v, e, h1⟩
theorem repTs2 {d1 d2 : D} {xs : List V} (h : RepTs K H Z μ [d1, d2] xs) : ∃ x y, xs = [x, y] ∧ RepT K H Z μ d1 x ∧ RepT K H Z μ d2 y := by
  obtain ⟨v, r, e, h1, h2⟩ := (show ∃ v r, xs = v :: r ∧ RepT K H Z μ d1 v ∧ RepTs K H Z μ [d2] r from h)
  obtain ⟨y, e2, h3⟩ := repTs1 h2
  exact ⟨v, y, by rw [e, e2], h1, h3⟩
theorem repTs_len : ∀ {ds : List D} {xs : List V}, RepTs K H Z μ ds xs → xs.length = ds.length
  | [], _, h => by cases (show _ = [] from h); rfl
  | d :: ds, xs, h => by
    obtain ⟨v, r, e, _, h2⟩ := (show ∃ v r, xs = v :: r ∧ RepT K H Z μ d v ∧ RepTs K H Z μ ds r from h)
    rw [e, List.length_cons, List.length_cons, repTs_len h2]
theorem one_of {ds : List D} {x : V} (h : RepTs K H Z μ ds [x]) : ∃ d1, ds = [d1] := by
  have := repTs_len h
  match ds, this with
  | [d1], _ => exact ⟨d1, rfl⟩
theorem two_of {ds : List D} {x y : V} (h : RepTs K H Z μ ds [x, y]) : ∃ d1 d2, ds = [d1, d2] := by
  have := repTs_len h
  match ds, this with
  | [d1, d2], _ => exact ⟨d1, d2, rfl⟩
theorem reps_int : ∀ {ns : List Int} {vs : List V}, Reps K H Z μ (ns.map D.int) vs → vs = ns.map V.int
  | [], _, h => h
  | n :: ns, vs, h => by
    obtain ⟨v, r, e, h1, h2⟩ := (show ∃ v r, vs = v :: r ∧ Rep K H Z μ (.int n) v ∧ Reps K H Z μ (ns.map D.int) r from h)
    rw [e, show v = .int n from h1, reps_int h2]; rfl
theorem reps_bl : ∀ {ns : List Bool} {vs : List V}, Reps K H Z μ (ns.map D.bl) vs → vs = ns.map V.bl
  | [], _, h => h
  | n :: ns, vs, h => by
    obtain ⟨v, r, e, h1, h2⟩ := (show ∃ v r, vs = v :: r ∧ Rep K H Z μ (.bl n) v ∧ Reps K H Z μ (ns.map D.bl) r from h)
    rw [e, show v = .bl n from h1, reps_bl h2]; rfl
end
theorem bls_eq : ∀ {xs : List D} {bs : List Bool}, bls xs = some bs → xs = bs.map D.bl
  | [], bs, h => by cases h; rfl
  | .bl b :: xs, bs, h => by
    have h' : (bls xs).map (b :: ·) = some bs := h
    cases e : bls xs with
    | none => rw [e] at h'; cases h'
    | some cs => rw [e] at h'; cases h'; rw [bls_eq e]; rfl
  | .non :: _, _, h => by cases h
  | .int _ :: _, _, h => by cases h
  | .str _ :: _, _, h => by cases h
  | .tup _ :: _, _, h => by cases h
  | .lst _ :: _, _, h => by cases h
  | .dic _ :: _, _, h => by cases h
  | .ref _ :: _, _, h => by cases h
theorem sumR_eq : ∀ {xs : List D} {i : Int}, sumR xs = some i → ∃ ns : List Int, xs = ns.map D.int ∧ i = ns.sum
  | [], i, h => by cases h; exact ⟨[], rfl, rfl⟩
  | .int b :: xs, i, h => by
    have h' : (sumR xs).map (b + ·) = some i := h
    cases e : sumR xs with
    | none => rw [e] at h'; cases h'
    | some j =>
      rw [e] at h'; cases h'
      obtain ⟨ns, e1, e2⟩ := sumR_eq e
      exact ⟨b :: ns, by rw [e1]; rfl, by rw [e2, List.sum_cons]⟩
  | .non :: _, _, h => by cases h
  | .bl _ :: _, _, h => by cases h
  | .str _ :: _, _, h => by cases h
  | .tup _ :: _, _, h => by cases h
  | .lst _ :: _, _, h => by cases h
  | .dic _ :: _, _, h => by cases h
  | .ref _ :: _, _, h => by cases h
/-- two values | some values by a primitive -/
def rP2 (K : PySem.W.Frag) (p : P) : R2 := fun x y H Q => ∃ st Z μ d1 d2 d, StoR K H Z μ st ∧ RepT K H Z μ d1 x ∧ RepT K H Z μ d2 y ∧ prim st p [d1, d2] = some d ∧ Out K H Z μ d Q
def rP (K : PySem.W.Frag) (p : P) : List V → Hp → VK → Prop := fun xs H Q => ∃ st Z μ ds d, StoR K H Z μ st ∧ RepTs K H Z μ ds xs ∧ prim st p ds = some d ∧ Out K H Z μ d Q
section
variable {X : Cx}
theorem catL : OpR X (binaryOp .Add) (fun x y H Q => ∃ l b xs zs, x = .ref l ∧ y = .ref b ∧ Rd H l (.lst xs) ∧ Rd H b (.lst zs) ∧ xs.length + zs.length ≤ sizeLine ∧ ∀ p, H p = none → Q (.ref p) (upd H p (.lst (xs ++ zs)))) := by
  intro pins s σ H x y v u Q I rx ry h
  obtain ⟨l, b, xs, zs, rfl, rfl, hH, hB, hz, q⟩ := h
  cases rx
  cases ry
  obtain ⟨z, its, n, r, e⟩ := hH.ok I.hok
  obtain ⟨z2, its2, n2, r2, e2⟩ := hB.ok I.hok
  have hl := r.length
  have hl2 := r2.length
  refine PySem.P.add_list e e2 ?_ (by rw [List.size_toArray, List.size_toArray]; omega)
  have ea : its.toArray ++ its2.toArray = (its ++ its2).toArray := by simp
  rw [ea]
  exact ⟨.ref _, _, I.lnew (t' := s.toks) (r.append r2) (by rw [List.length_append]; omega), rfl, q _ I.fresh⟩
theorem o_add : OpR X (binaryOp .Add) (rP2 X.K .add) := by
  intro pins s σ H x y v u Q I rx ry h
  obtain ⟨st, Z, μ, d1, d2, d, hs, h1, h2, hp, q⟩ := h
  cases d1 <;> cases d2 <;> first | exact nomatch (show (none : Option D) = some d from hp) | skip
  case int.int i j =>
    cases hp
    exact op_add pins s σ H x y v u Q I rx ry ⟨i, j, h1, h2, q.same rfl⟩
  case tup.tup as bs =>
    obtain ⟨a, vs, rfl, s1, z1, r1⟩ := tupE h1
    obtain ⟨b, us, rfl, s2, z2, r2⟩ := tupE h2
    have hp : (if fits (as ++ bs) then some (D.tup (as ++ bs)) else none) = some d := hp
    split at hp
    · rename_i hf
      cases hp
      have hl : vs.length + us.length ≤ sizeLine := by
        have := of_decide_eq_true hf
        rw [List.length_append] at this
        rw [r1.length, r2.length]; exact this
      refine op_catA pins s σ H _ _ v u Q I rx ry ⟨a, b, vs, us, rfl, rfl, s1, s2, hl, fun e => ?_, fun n e => ?_, fun n m p hp => ?_⟩
      · have ea : as = [] := List.eq_nil_of_length_eq_zero (by rw [← r1.length, e]; rfl)
        rw [ea] at q
        exact q.same h2
      · have ea : bs = [] := List.eq_nil_of_length_eq_zero (by rw [← r2.length, e]; rfl)
        rw [ea, List.append_nil] at q
        exact q.same h1
      · exact q.tup (by rw [List.length_append]; exact hl) (r1.append r2) p hp
    · cases hp
  case lst.lst as bs =>
    obtain ⟨a, vs, rfl, s1, z1, r1⟩ := lstE h1
    obtain ⟨b, us, rfl, s2, z2, r2⟩ := lstE h2
    have hp : (if fits (as ++ bs) then some (D.lst (as ++ bs)) else none) = some d := hp
    split at hp
    · rename_i hf
      cases hp
      have hl : vs.length + us.length ≤ sizeLine := by
        have := of_decide_eq_true hf
        rw [List.length_append] at this
        rw [r1.length, r2.length]; exact this
      exact catL pins s σ H _ _ v u Q I rx ry ⟨a, b, vs, us, rfl, rfl, s1, s2, hl, fun p hp => q.lst (by rw [List.length_append]; exact hl) (r1.append r2) p hp⟩
    · cases hp
theorem o_sub : OpR X (binaryOp .Sub) (rP2 X.K .sub) := by
  intro pins s σ H x y v u Q I rx ry h
  obtain ⟨st, Z, μ, d1, d2, d, hs, h1, h2, hp, q⟩ := h
  cases d1 <;> cases d2 <;> first | exact nomatch (show (none : Option D) = some d from hp) | skip
  case int.int i j =>
    cases hp
    exact op_sub pins s σ H x y v u Q I rx ry ⟨i, j, h1, h2, q.same rfl⟩
theorem o_mod : OpR X (binaryOp .Mod) (rP2 X.K .mod) := by
  intro pins s σ H x y v u Q I rx ry h
  obtain ⟨st, Z, μ, d1, d2, d, hs, h1, h2, hp, q⟩ := h
  cases d1 <;> cases d2 <;> first | exact nomatch (show (none : Option D) = some d from hp) | skip
  case int.int i j =>
    have hp : (if 0 < j then some (D.int (i % j)) else none) = some d := hp
    split at hp
    · rename_i hj
      cases hp
      exact op_mod pins s σ H x y v u Q I rx ry ⟨i, j, h1, h2, hj, q.same rfl⟩
    · cases hp
theorem o_fdiv : OpR X (binaryOp .FloorDiv) (rP2 X.K .fdiv) := by
  intro pins s σ H x y v u Q I rx ry h
  obtain ⟨st, Z, μ, d1, d2, d, hs, h1, h2, hp, q⟩ := h
  cases d1 <;> cases d2 <;> first | exact nomatch (show (none : Option D) = some d from hp) | skip
  case int.int i j =>
    have hp : (if 0 < j ∧ j < 1073741824 then some (D.int (i / j)) else none) = some d := hp
    split at hp
    · rename_i hj
      cases hp
      exact op_fdiv pins s σ H x y v u Q I rx ry ⟨i, j, h1, h2, hj, q.same rfl⟩
    · cases hp
theorem o_pow : OpR X (binaryOp .Pow) (rP2 X.K .pow) := by
  intro pins s σ H x y v u Q I rx ry h
  obtain ⟨st, Z, μ, d1, d2, d, hs, h1, h2, hp, q⟩ := h
  cases d1 <;> cases d2 <;> first | exact nomatch (show (none : Option D) = some d from hp) | skip
  case int.int i j =>
    have hp : (if 0 ≤ j ∧ j ≤ 1000 ∧ i.natAbs < 2 ^ 64 then some (D.int (i ^ j.toNat)) else none) = some d := hp
    split at hp
    · rename_i hj
      cases hp
      exact op_pow pins s σ H x y v u Q I rx ry ⟨i, j, h1, h2, ⟨hj.1, by omega, hj.2.2⟩, q.same rfl⟩
    · cases hp
theorem o_neg : UnR X (unaryOp .USub) (fun x H Q => rP X.K .neg [x] H Q) := by
  intro pins s σ H x v Q I rx h
  obtain ⟨st, Z, μ, ds, d, hs, h1, hp, q⟩ := h
  obtain ⟨d1, rfl⟩ := one_of h1
  obtain ⟨x', e, h2⟩ := repTs1 h1
  cases e
  clear h1
  cases d1 <;> first | exact nomatch (show (none : Option D) = some d from hp) | skip
  rename_i i
  cases hp
  exact un_neg pins s σ H x v Q I rx ⟨i, h2, q.same rfl⟩
theorem o_cmpI {op : CmpOp} {p : P} {f : Int → Int → Bool} (ho : OpR X (compareOp op) (rI0 fun i j => .bl (f i j))) (hf : ∀ st d1 d2 d, prim st p [d1, d2] = some d → ∃ i j, d1 = .int i ∧ d2 = .int j ∧ d = .bl (f i j)) : OpR X (compareOp op) (rP2 X.K p) := by
  intro pins s σ H x y v u Q I rx ry h
  obtain ⟨st, Z, μ, d1, d2, d, hs, h1, h2, hp, q⟩ := h
  obtain ⟨i, j, rfl, rfl, rfl⟩ := hf _ _ _ _ hp
  exact ho pins s σ H x y v u Q I rx ry ⟨i, j, h1, h2, q.same rfl⟩
theorem o_lt : OpR X (compareOp .Lt) (rP2 X.K .lt) := o_cmpI op_lt fun st d1 d2 d h => by
  cases d1 <;> cases d2 <;> first | exact nomatch (show (none : Option D) = some d from h) | (cases h; exact ⟨_, _, rfl, rfl, rfl⟩)
theorem o_le : OpR X (compareOp .LtE) (rP2 X.K .le) := o_cmpI op_le fun st d1 d2 d h => by
  cases d1 <;> cases d2 <;> first | exact nomatch (show (none : Option D) = some d from h) | (cases h; exact ⟨_, _, rfl, rfl, rfl⟩)
theorem o_gt : OpR X (compareOp .Gt) (rP2 X.K .gt) := o_cmpI op_gt fun st d1 d2 d h => by
  cases d1 <;> cases d2 <;> first | exact nomatch (show (none : Option D) = some d from h) | (cases h; exact ⟨_, _, rfl, rfl, rfl⟩)
theorem o_ge : OpR X (compareOp .GtE) (rP2 X.K .ge) := o_cmpI op_ge fun st d1 d2 d h => by
  cases d1 <;> cases d2 <;> first | exact nomatch (show (none : Option D) = some d from h) | (cases h; exact ⟨_, _, rfl, rfl, rfl⟩)
end
end Lb

set_option maxRecDepth 100000
set_option maxHeartbeats 1000000
namespace Lb
open PySem PySem.Spec PyProof.Rows L2
/-! ### data as the library has them -/
mutual
def toP : D → PyData
  | .non => .none
  | .bl b => .bool b
  | .int i => .int i
  | .str x => .str x
  | .tup xs => .tuple (toPs xs)
  | .lst xs => .list (toPs xs)
  | .dic _ => .none
  | .ref _ => .none
def toPs : List D → List PyData
  | [] => []
  | x :: xs => toP x :: toPs xs
end
mutual
theorem toP_plain : ∀ (n : Nat) (d : D), d.flat n = true → (toP d).plain = true
  | _, .non, _ => rfl
  | _, .bl _, _ => rfl
  | _, .int _, _ => rfl
  | _, .str _, _ => rfl
  | 0, .tup _, h => by cases h
  | 0, .lst _, h => by cases h
  | n + 1, .tup xs, h => toPs_plain n xs h
  | n + 1, .lst xs, h => toPs_plain n xs h
  | 0, .dic _, h => by cases h
  | _ + 1, .dic _, h => by cases h
  | 0, .ref _, h => by cases h
  | _ + 1, .ref _, h => by cases h
theorem toPs_plain : ∀ (n : Nat) (ds : List D), D.flats n ds = true → PyData.plainAll (toPs ds) = true
  | _, [], _ => rfl
  | n, x :: xs, h => by
    obtain ⟨h1, h2⟩ := Bool.and_eq_true_iff.mp (show (D.flat n x && D.flats n xs) = true from h)
    show (PyData.plain (toP x) && PyData.plainAll (toPs xs)) = true
    rw [toP_plain n x h1, toPs_plain n xs h2]; rfl
end
mutual
theorem toP_depth : ∀ (n : Nat) (d : D), d.flat n = true → (toP d).depth ≤ n
  | _, .non, _ => Nat.zero_le _
  | _, .bl _, _ => Nat.zero_le _
  | _, .int _, _ => Nat.zero_le _
  | _, .str _, _ => Nat.zero_le _
  | 0, .tup _, h => by cases h
  | 0, .lst _, h => by cases h
  | n + 1, .tup xs, h => Nat.succ_le_succ (toPs_depth n xs h)
  | n + 1, .lst xs, h => Nat.succ_le_succ (toPs_depth n xs h)
  | 0, .dic _, h => by cases h
  | _ + 1, .dic _, h => by cases h
  | 0, .ref _, h => by cases h
  | _ + 1, .ref _, h => by cases h
theorem toPs_depth : ∀ (n : Nat) (ds : List D), D.flats n ds = true → PyData.depthAll (toPs ds) ≤ n
  | _, [], _ => Nat.zero_le _
  | n, x :: xs, h => by
    obtain ⟨h1, h2⟩ := Bool.and_eq_true_iff.mp (show (D.flat n x && D.flats n xs) = true from h)
    exact Nat.max_le.mpr ⟨toP_depth n x h1, toPs_depth n xs h2⟩
end
mutual
theorem toP_eqv : ∀ (n m : Nat) (d e : D), d.flat n = true → e.flat m = true → PyData.eqv (toP d) (toP e) = D.eqv d e
  | n, m, .non, e, _, h => by cases e <;> first | rfl | (cases m <;> cases h)
  | n, m, .bl b, e, _, h => by cases e <;> first | rfl | (cases m <;> cases h)
  | n, m, .int i, e, _, h => by cases e <;> first | rfl | (cases m <;> cases h)
  | n, m, .str x, e, _, h => by cases e <;> first | rfl | (cases m <;> cases h)
  | 0, _, .tup _, _, h, _ => by cases h
  | 0, _, .lst _, _, h, _ => by cases h
  | n + 1, m, .tup xs, e, h, h' => by
    cases e with
    | tup ys =>
      cases m with
      | zero => cases h'
      | succ m => exact toPs_eqv n m xs ys h h'
    | dic _ => cases m <;> cases h'
    | ref _ => cases m <;> cases h'
    | _ => rfl
  | n + 1, m, .lst xs, e, h, h' => by
    cases e with
    | lst ys =>
      cases m with
      | zero => cases h'
      | succ m => exact toPs_eqv n m xs ys h h'
    | dic _ => cases m <;> cases h'
    | ref _ => cases m <;> cases h'
    | _ => rfl
  | 0, _, .dic _, _, h, _ => by cases h
  | _ + 1, _, .dic _, _, h, _ => by cases h
  | 0, _, .ref _, _, h, _ => by cases h
  | _ + 1, _, .ref _, _, h, _ => by cases h
theorem toPs_eqv : ∀ (n m : Nat) (ds es : List D), D.flats n ds = true → D.flats m es = true → PyData.eqvAll (toPs ds) (toPs es) = D.eqvs ds es
  | _, _, [], [], _, _ => rfl
  | _, _, [], _ :: _, _, _ => rfl
  | _, _, _ :: _, [], _, _ => rfl
  | n, m, x :: xs, y :: ys, h, h' => by
    obtain ⟨h1, h2⟩ := Bool.and_eq_true_iff.mp (show (D.flat n x && D.flats n xs) = true from h)
    obtain ⟨h3, h4⟩ := Bool.and_eq_true_iff.mp (show (D.flat m y && D.flats m ys) = true from h')
    show (PyData.eqv (toP x) (toP y) && PyData.eqvAll (toPs xs) (toPs ys)) = (D.eqv x y && D.eqvs xs ys)
    rw [toP_eqv n m x y h1 h3, toPs_eqv n m xs ys h2 h4]
end
section
variable {X : Cx} {pins : List (Addr × Obj)} {σ : L2.St} {H : Hp} {s : Shared} {Z : Zs} {μ : List Addr}
mutual
theorem rep_reads (I : Inv X pins σ H s) : ∀ (n : Nat) (d : D) (v : V) (u : Value), d.flat n = true → Rep X.K H Z μ d v → RelV v u → ∃ as, Reads s.heap u (toP d) as
  | _, .non, v, u, _, h, r => by cases (show v = .non from h); cases r; exact ⟨_, Reads.none⟩
  | _, .bl b, v, u, _, h, r => by cases (show v = .bl b from h); cases r; exact ⟨_, Reads.bool b⟩
  | _, .int i, v, u, _, h, r => by cases (show v = .int i from h); obtain ⟨t, rfl⟩ := r; exact ⟨_, Reads.int i t⟩
  | _, .str x, v, u, _, h, r => by cases (show v = .str x from h); obtain ⟨t, rfl⟩ := r; exact ⟨_, Reads.str x t⟩
  | 0, .tup _, _, _, h, _, _ => by cases h
  | 0, .lst _, _, _, h, _, _ => by cases h
  | n + 1, .tup xs, v, u, hf, h, r => by
    obtain ⟨a, vs, rfl, h1, h2, h3⟩ := (show ∃ a vs, v = V.ref a ∧ ((Z a ∧ Rd H a (.tup vs)) ∨ KTup X.K a vs) ∧ vs.length ≤ sizeLine ∧ Reps X.K H Z μ xs vs from h)
    cases r
    obtain ⟨its, rv, ⟨o, e1, e2, k, e3⟩, _⟩ := I.tuple (SqT.of' h1)
    obtain ⟨as, q⟩ := reps_reads I n xs vs its hf h3 rv
    exact ⟨as, Reads.tuple e1 e2 e3 q⟩
  | n + 1, .lst xs, v, u, hf, h, r => by
    obtain ⟨a, vs, rfl, h1, h2, h3⟩ := (show ∃ a vs, v = V.ref a ∧ (Z a ∧ Rd H a (.lst vs)) ∧ vs.length ≤ sizeLine ∧ Reps X.K H Z μ xs vs from h)
    cases r
    obtain ⟨its, rv, ⟨o, k, e1, e2, _, e3⟩, _⟩ := I.list (SqL.of' h1.2)
    obtain ⟨as, q⟩ := reps_reads I n xs vs its hf h3 rv
    exact ⟨a :: as, Reads.list e1 e2 e3 q⟩
  | 0, .dic _, _, _, h, _, _ => by cases h
  | _ + 1, .dic _, _, _, h, _, _ => by cases h
  | 0, .ref _, _, _, h, _, _ => by cases h
  | _ + 1, .ref _, _, _, h, _, _ => by cases h
theorem reps_reads (I : Inv X pins σ H s) : ∀ (n : Nat) (ds : List D) (vs : List V) (us : List Value), D.flats n ds = true → Reps X.K H Z μ ds vs → Vals vs us → ∃ as, ReadsAll s.heap us (toPs ds) as
  | _, [], vs, us, _, h, r => by
    cases (show vs = [] from h)
    cases r
    exact ⟨_, ReadsAll.nil⟩
  | n, d :: ds, vs, us, hf, h, r => by
    obtain ⟨v, vr, rfl, h1, h2⟩ := (show ∃ v r, vs = v :: r ∧ Rep X.K H Z μ d v ∧ Reps X.K H Z μ ds r from h)
    obtain ⟨f1, f2⟩ := Bool.and_eq_true_iff.mp (show (D.flat n d && D.flats n ds) = true from hf)
    cases r with
    | cons ru rr =>
      obtain ⟨as, q1⟩ := rep_reads I n d v _ f1 h1 ru
      obtain ⟨bs, q2⟩ := reps_reads I n ds vr _ f2 h2 rr
      exact ⟨_, ReadsAll.cons q1 q2⟩
end
theorem repT_reads (I : Inv X pins σ H s) {n : Nat} {d : D} {v : V} {u : Value} (hf : d.flat n = true) (h : RepT X.K H Z μ d v) (r : RelV v u) : ∃ as, Reads s.heap u (toP d) as := by
  cases d with
  | lst xs =>
    cases n with
    | zero => cases hf
    | succ n =>
      obtain ⟨a, vs, rfl, h1, h2, h3⟩ := lstE h
      cases r
      obtain ⟨its, rv, ⟨o, k, e1, e2, _, e3⟩, _⟩ := I.list (SqL.of' h1)
      obtain ⟨as, q⟩ := reps_reads I n xs vs its hf h3 rv
      exact ⟨a :: as, Reads.list e1 e2 e3 q⟩
  | dic _ => cases n <;> cases hf
  | _ => exact rep_reads (Z := Z) (μ := μ) I n _ v u hf h r
end
section
variable {X : Cx}
theorem eqR_some {a b : D} {c : Bool} (h : eqR a b = some c) : (D.flat 60 a && D.flat 60 b) = true ∧ c = D.eqv a b := by
  have gen : ∀ {a b : D}, (if D.flat 60 a && D.flat 60 b then some (D.eqv a b) else none) = some c → (D.flat 60 a && D.flat 60 b) = true ∧ c = D.eqv a b := fun {a b} h => by
    split at h
    · rename_i hf; cases h; exact ⟨hf, rfl⟩
    · cases h
  cases a <;> cases b <;> first
    | (cases h; exact ⟨rfl, rfl⟩)
    | exact gen h
theorem o_eq (hu : X.A.units + 64 < cLine) : OpR X (compareOp .Eq) (rP2 X.K .eq) := by
  intro pins s σ H x y v u Q I rx ry h
  obtain ⟨st, Z, μ, d1, d2, d, hs, h1, h2, hp, q⟩ := h
  have hp : (eqR d1 d2).map D.bl = some d := hp
  cases e : eqR d1 d2 with
  | none => rw [e] at hp; cases hp
  | some c =>
    rw [e] at hp; cases hp
    obtain ⟨hf, rfl⟩ := eqR_some e
    obtain ⟨f1, f2⟩ := Bool.and_eq_true_iff.mp hf
    obtain ⟨as, r1⟩ := repT_reads I f1 h1 rx
    obtain ⟨bs, r2⟩ := repT_reads I f2 h2 ry
    have l1 := toP_depth 60 d1 f1
    refine SeqAt.eq_plain r1 r2 (toP_plain 60 d1 f1) (toP_plain 60 d2 f2) (by omega) ⟨.bl _, H, I, rfl, ?_⟩
    rw [toP_eqv 60 60 d1 d2 f1 f2]
    exact q.same rfl
theorem o_ne (hu : X.A.units + 64 < cLine) : OpR X (compareOp .NotEq) (rP2 X.K .ne) := by
  intro pins s σ H x y v u Q I rx ry h
  obtain ⟨st, Z, μ, d1, d2, d, hs, h1, h2, hp, q⟩ := h
  have hp : (eqR d1 d2).map (fun c => D.bl (!c)) = some d := hp
  cases e : eqR d1 d2 with
  | none => rw [e] at hp; cases hp
  | some c =>
    rw [e] at hp; cases hp
    obtain ⟨hf, rfl⟩ := eqR_some e
    obtain ⟨f1, f2⟩ := Bool.and_eq_true_iff.mp hf
    obtain ⟨as, r1⟩ := repT_reads I f1 h1 rx
    obtain ⟨bs, r2⟩ := repT_reads I f2 h2 ry
    have l1 := toP_depth 60 d1 f1
    refine SeqAt.ne_plain r1 r2 (toP_plain 60 d1 f1) (toP_plain 60 d2 f2) (by omega) ⟨.bl _, H, I, rfl, ?_⟩
    rw [toP_eqv 60 60 d1 d2 f1 f2]
    exact q.same rfl
theorem any_toPs (x : D) (n m : Nat) (hx : x.flat n = true) : ∀ (ys : List D), D.flats m ys = true → (toPs ys).any (fun y => PyData.eqv y (toP x)) = ys.any fun y => D.eqv y x
  | [], _ => rfl
  | y :: ys, h => by
    obtain ⟨h1, h2⟩ := Bool.and_eq_true_iff.mp (show (D.flat m y && D.flats m ys) = true from h)
    show (PyData.eqv (toP y) (toP x) || (toPs ys).any _) = (D.eqv y x || ys.any _)
    rw [toP_eqv m n y x h1 hx, any_toPs x n m hx ys h2]
theorem o_in_core (hu : X.A.units + 64 < cLine) {pins : List (Addr × Obj)} {s : Shared} {σ : L2.St} {H : Hp} {x y : V} {v u : Value} (I : Inv X pins σ H s) (rx : RelV x v) (ry : RelV y u) {Z : Zs} {μ : List Addr} {d1 : D} {ys : List D} {c : Bool}
    (h1 : RepT X.K H Z μ d1 x) (h2 : RepT X.K H Z μ (.tup ys) y ∨ RepT X.K H Z μ (.lst ys) y) (e : inR d1 ys = some c) :
    ∃ as bs, (Reads s.heap u (.tuple (toPs ys)) as ∨ Reads s.heap u (.list (toPs ys)) as) ∧ Reads s.heap v (toP d1) bs ∧ PyData.plainAll (toPs ys) = true ∧ (toP d1).plain = true ∧ X.A.units + 1 + min (PyData.depthAll (toPs ys)) (toP d1).depth < cLine ∧ ((toPs ys).any fun y => PyData.eqv y (toP d1)) = c := by
  unfold inR at e
  split at e
  · rename_i hf
    cases e
    obtain ⟨f1, f2⟩ := Bool.and_eq_true_iff.mp hf
    obtain ⟨bs, r1⟩ := repT_reads I f1 h1 rx
    have l1 := toP_depth 60 d1 f1
    rcases h2 with h2 | h2
    · obtain ⟨as, r2⟩ := repT_reads I (n := 61) (d := .tup ys) f2 h2 ry
      exact ⟨as, bs, .inl r2, r1, toPs_plain 60 ys f2, toP_plain 60 d1 f1, by omega, any_toPs d1 60 60 f1 ys f2⟩
    · obtain ⟨as, r2⟩ := repT_reads I (n := 61) (d := .lst ys) f2 h2 ry
      exact ⟨as, bs, .inr r2, r1, toPs_plain 60 ys f2, toP_plain 60 d1 f1, by omega, any_toPs d1 60 60 f1 ys f2⟩
  · cases e
theorem map_bl {f : Bool → Bool} {o : Option Bool} {d : D} (h : o.map (fun c => D.bl (f c)) = some d) : ∃ c, o = some c ∧ d = .bl (f c) := by
  cases o with
  | none => cases h
  | some c => cases h; exact ⟨c, rfl, rfl⟩
theorem o_in (hu : X.A.units + 64 < cLine) : OpR X (compareOp .In) (rP2 X.K .inn) := by
  intro pins s σ H x y v u Q I rx ry h
  obtain ⟨st, Z, μ, d1, d2, d, hs, h1, h2, hp, q⟩ := h
  cases d2 <;> first | exact nomatch (show (none : Option D) = some d from hp) | skip
  case tup ys =>
    obtain ⟨c, e, rfl⟩ := map_bl (f := id) hp
    obtain ⟨as, bs, r2, r1, p1, p2, l, e⟩ := o_in_core hu I rx ry h1 (.inl h2) e
    subst e
    rcases r2 with r2 | r2
    · exact SeqAt.in_tuple_data r2 r1 p1 p2 l ⟨.bl _, H, I, rfl, q.same rfl⟩
    · exact SeqAt.in_list_data r2 r1 p1 p2 l ⟨.bl _, H, I, rfl, q.same rfl⟩
  case lst ys =>
    obtain ⟨c, e, rfl⟩ := map_bl (f := id) hp
    obtain ⟨as, bs, r2, r1, p1, p2, l, e⟩ := o_in_core hu I rx ry h1 (.inr h2) e
    subst e
    rcases r2 with r2 | r2
    · exact SeqAt.in_tuple_data r2 r1 p1 p2 l ⟨.bl _, H, I, rfl, q.same rfl⟩
    · exact SeqAt.in_list_data r2 r1 p1 p2 l ⟨.bl _, H, I, rfl, q.same rfl⟩
theorem o_nin (hu : X.A.units + 64 < cLine) : OpR X (compareOp .NotIn) (rP2 X.K .nin) := by
  intro pins s σ H x y v u Q I rx ry h
  obtain ⟨st, Z, μ, d1, d2, d, hs, h1, h2, hp, q⟩ := h
  cases d2 <;> first | exact nomatch (show (none : Option D) = some d from hp) | skip
  case tup ys =>
    obtain ⟨c, e, rfl⟩ := map_bl (f := not) hp
    obtain ⟨as, bs, r2, r1, p1, p2, l, e⟩ := o_in_core hu I rx ry h1 (.inl h2) e
    subst e
    rcases r2 with r2 | r2
    · exact SeqAt.notIn_tuple_data r2 r1 p1 p2 l ⟨.bl _, H, I, rfl, q.same rfl⟩
    · exact SeqAt.notIn_list_data r2 r1 p1 p2 l ⟨.bl _, H, I, rfl, q.same rfl⟩
  case lst ys =>
    obtain ⟨c, e, rfl⟩ := map_bl (f := not) hp
    obtain ⟨as, bs, r2, r1, p1, p2, l, e⟩ := o_in_core hu I rx ry h1 (.inr h2) e
    subst e
    rcases r2 with r2 | r2
    · exact SeqAt.notIn_tuple_data r2 r1 p1 p2 l ⟨.bl _, H, I, rfl, q.same rfl⟩
    · exact SeqAt.notIn_list_data r2 r1 p1 p2 l ⟨.bl _, H, I, rfl, q.same rfl⟩
end
end Lb

set_option maxRecDepth 100000
set_option maxHeartbeats 400000
namespace Lb
open PySem PySem.Spec PyProof.Rows L2
theorem tuple_mul1 (l : Addr) (items : Array Value) (n : Nat) (sl : Array (Option Value)) (dd : Option Addr) (u : Tok) :
    Meets (Builtin.«tuple.__mul__» ⟨[.ref l, .int 1 u], []⟩) (fun _ R s => s.heap.get? l = some { cls := .type "tuple", dict := dd, data := .seq items n, slots := sl } ∧
      R (.ok (.ret (Value.ref l))) s) :=
  .of_wp fun prog w A R s h => by
    obtain ⟨hp, g, d, tk, os⟩ := s
    obtain ⟨hl, h⟩ := h
    have f1 := AutoSeq1.idx_int
    have hT : (⟨hp, g, d, tk, os⟩ : Shared).TypeIs (.ref l) "tuple" := ⟨_, hl, rfl⟩
    wp_walk using wpAny_loadPart' hl
    exact ⟨_, rfl, h⟩
section
variable {X : Cx}
theorem mulT1 : OpR X (binaryOp .Mult) (fun x y H Q => ∃ l xs, x = .ref l ∧ y = .int 1 ∧ SqT X.K H l xs ∧ Q (.ref l) H) := by
  intro pins s σ H x y v u Q I rx ry h
  obtain ⟨l, xs, rfl, rfl, hT, q⟩ := h
  cases rx
  obtain ⟨t, rfl⟩ := ry
  obtain ⟨its, r, ⟨⟨cls, dd, data, sl⟩, ho, hc, n, hd⟩, hs⟩ := I.tuple hT
  simp only at hc hd
  subst hc hd
  exact wpAny_binaryOp_repeat_ref (T := "tuple") (U := "int") (by decide) ⟨_, ho, rfl⟩ (fun s' => typeIs_int s' 1 t) noFill_tuple_mul F.fills_int_mul F.slot_int_rmul repeat_tuple F.slot_int_index.lookup
    (call_meets F.slot_int_rmul (typeIs_int s 1 t) F.entry_int_rmul (F.args_int_rmul_2 _ _) (int_rmul_tuple 1 t l its.toArray n dd sl)
      ⟨ho, rfl, ⟨_, ho, rfl⟩, call_meets F.slot_tuple_mul ⟨_, ho, rfl⟩ F.entry_tuple_mul (F.args_tuple_mul_2 _ _) (tuple_mul1 l its.toArray n sl dd t) ⟨ho, ⟨.ref l, H, I, rfl, q⟩⟩⟩)
theorem mulL : OpR X (binaryOp .Mult) (fun x y H Q => ∃ l k xs, x = .ref l ∧ y = .int k ∧ Rd H l (.lst xs) ∧ 0 ≤ k ∧ k ≤ 1000 ∧ xs.length ≤ 1000 ∧ ∀ p, H p = none → Q (.ref p) (upd H p (.lst (List.replicate k.toNat xs).flatten))) := by
  intro pins s σ H x y v u Q I rx ry h
  obtain ⟨l, k, xs, rfl, rfl, hH, h1, h2, hx, q⟩ := h
  cases rx
  obtain ⟨t, rfl⟩ := ry
  obtain ⟨z, its, n, r, e⟩ := hH.ok I.hok
  have hl := r.length
  have hz : xs.length * k.toNat ≤ sizeLine := by
    rw [sizeLine_eq]
    have a1 : xs.length * k.toNat ≤ 1000 * 1000 := Nat.mul_le_mul hx (by omega)
    omega
  have hlen : its.toArray.size * k.toNat ≤ sizeLine := by rw [List.size_toArray, ← hl]; exact hz
  have hcap : ¬ its.toArray.size * k.toNat > (2 ^ 63 - 1) / 8 := by
    have : (sizeLine : Nat) ≤ (2 ^ 63 - 1) / 8 := by decide
    omega
  have hfit : ¬ (!Builtin.List.listFitsIndex k) = true := by
    rw [fitsIndex_both (by omega) (by omega)]
    exact Bool.false_ne_true
  have hlong : ¬ Builtin.List.listTooLong (its.toArray.size * k.toNat) = true := by
    rw [notLongL hlen]
    exact Bool.false_ne_true
  have hnew : List.foldl (fun x1 x2 => x1 ++ x2) #[] (List.replicate (if its.toArray.isEmpty = true then 0 else k.toNat) its.toArray) = (List.replicate k.toNat its).flatten.toArray := by
    have f0 : ∀ m : Nat, List.foldl (fun x1 x2 => x1 ++ x2) #[] (List.replicate m its.toArray) = (List.replicate m its).flatten.toArray := fun m => by
      have := foldl_rep its m []
      rw [List.nil_append] at this
      exact this
    rw [f0]
    cases its with
    | nil => simp
    | cons a r' => rw [if_neg (by simp)]
  refine wpAny_binaryOp_repeat_ref (T := "list") (U := "int") (by decide) ⟨_, e, rfl⟩ (fun s' => typeIs_int s' k t) noFill_list_mul F.fills_int_mul F.slot_int_rmul repeat_list F.slot_int_index.lookup
    (call_meets F.slot_int_rmul (typeIs_int s k t) F.entry_int_rmul (F.args_int_rmul_2 _ _) (int___rmul___int_list k t l its.toArray n)
      ⟨e, rfl, ⟨_, e, rfl⟩, call_meets F.slot_list_mul ⟨_, e, rfl⟩ F.entry_list_mul (F.args_list_mul_2 _ _) (AutoListH.list___mul___list_int_3 l its.toArray n k t hfit hcap hlong) ⟨e, ?_⟩⟩)
  rw [hnew]
  exact ⟨.ref _, _, I.lnew (t' := s.toks) (r.rep k.toNat) (by rw [PyProof.Rows.lm_len_rep_flat, Nat.mul_comm]; exact hz), rfl, q _ I.fresh⟩
theorem flat_len {α : Type} (xs : List α) : ∀ n : Nat, (List.replicate n xs).flatten.length = n * xs.length
  | 0 => by simp
  | n + 1 => by rw [List.replicate_succ, List.flatten_cons, List.length_append, flat_len xs n, Nat.succ_mul]; omega
theorem flat_le {α : Type} {xs : List α} {n : Nat} (h : n ≤ 1000) (h' : xs.length ≤ 1000) : (List.replicate n xs).flatten.length ≤ sizeLine := by
  rw [flat_len, sizeLine_eq]
  have : n * xs.length ≤ 1000 * 1000 := Nat.mul_le_mul h h'
  omega
theorem o_mul : OpR X (binaryOp .Mult) (rP2 X.K .mul) := by
  intro pins s σ H x y v u Q I rx ry h
  obtain ⟨st, Z, μ, d1, d2, d, hs, h1, h2, hp, q⟩ := h
  cases d1 <;> cases d2 <;> first | exact nomatch (show (none : Option D) = some d from hp) | skip
  case int.int i j =>
    have hp : (if (-big < i ∧ i < big) ∨ (-big < j ∧ j < big) then some (D.int (i * j)) else none) = some d := hp
    split at hp
    · rename_i hj
      cases hp
      exact op_mul pins s σ H x y v u Q I rx ry ⟨i, j, h1, h2, hj, q.same rfl⟩
    · cases hp
  case tup.int as k =>
    have hp : (if 1 ≤ k ∧ k ≤ 1000 ∧ as.length ≤ 1000 ∧ as ≠ [] then some (D.tup (List.replicate k.toNat as).flatten) else none) = some d := hp
    split at hp
    · rename_i hk
      cases hp
      obtain ⟨a, vs, rfl, s1, z1, r1⟩ := tupE h1
      have hy : y = .int k := h2
      subst hy
      by_cases hk1 : k = 1
      · subst hk1
        have e1 : (List.replicate (1 : Int).toNat as).flatten = as := by simp
        rw [e1] at q
        exact mulT1 pins s σ H _ _ v u Q I rx ry ⟨a, vs, rfl, rfl, s1, q.same h1⟩
      · refine op_repT pins s σ H _ _ v u Q I rx ry ⟨a, k, vs, rfl, rfl, s1, fun e => ?_, by omega, hk.2.1, by rw [r1.length]; exact hk.2.2.1, fun p hp => ?_⟩
        · exact hk.2.2.2 (List.eq_nil_of_length_eq_zero (by rw [← r1.length, e]; rfl))
        · exact q.tup (flat_le (by omega) (by rw [r1.length]; exact hk.2.2.1)) (r1.flatten _) p hp
    · cases hp
  case lst.int as k =>
    have hp : (if 0 ≤ k ∧ k ≤ 1000 ∧ as.length ≤ 1000 then some (D.lst (List.replicate k.toNat as).flatten) else none) = some d := hp
    split at hp
    · rename_i hk
      cases hp
      obtain ⟨a, vs, rfl, s1, z1, r1⟩ := lstE h1
      have hy : y = .int k := h2
      subst hy
      exact mulL pins s σ H _ _ v u Q I rx ry ⟨a, k, vs, rfl, rfl, s1, hk.1, hk.2.1, by rw [r1.length]; exact hk.2.2, fun p hp => q.lst (flat_le (by omega) (by rw [r1.length]; exact hk.2.2)) (r1.flatten _) p hp⟩
    · cases hp
theorem rep_non {K : PySem.W.Frag} {H : Hp} {Z : Zs} {μ : List Addr} {d : D} {x : V} (h : RepT K H Z μ d x) : decide (x = .non) = isNon' d := by
  cases d with
  | non => cases (show x = .non from h); rfl
  | bl b => cases (show x = .bl b from h); rfl
  | int i => cases (show x = .int i from h); rfl
  | str z => cases (show x = .str z from h); rfl
  | tup ds => obtain ⟨a, vs, rfl, _⟩ := tupE h; rfl
  | lst ds => obtain ⟨a, vs, rfl, _⟩ := lstE h; rfl
  | dic kvs =>
    obtain ⟨a, vs, rfl, _⟩ := (show ∃ a vs, x = V.ref a ∧ a ∉ μ ∧ DicAt (Rd H) a (kvs.map Prod.fst) vs ∧ RepE K H Z μ kvs vs from h)
    rfl
  | ref n =>
    obtain ⟨a, _, rfl⟩ := (show ∃ a, μ[n]? = some a ∧ x = .ref a from h)
    rfl
theorem o_isN : OpR X (compareOp .Is) (fun x y H Q => y = .non ∧ rP X.K .isN [x] H Q) := by
  intro pins s σ H x y v u Q I rx ry h
  obtain ⟨rfl, st, Z, μ, ds, d, hs, h1, hp, q⟩ := h
  obtain ⟨d1, rfl⟩ := one_of h1
  obtain ⟨x', e, h2⟩ := repTs1 h1
  cases e
  refine op_isN pins s σ H x _ v u Q I rx ry ⟨rfl, ?_⟩
  rw [rep_non h2]
  have : d = .bl (isNon' d1) := by cases d1 <;> (cases hp; rfl)
  subst this
  exact q.same rfl
theorem o_notN : OpR X (compareOp .IsNot) (fun x y H Q => y = .non ∧ rP X.K .notN [x] H Q) := by
  intro pins s σ H x y v u Q I rx ry h
  obtain ⟨rfl, st, Z, μ, ds, d, hs, h1, hp, q⟩ := h
  obtain ⟨d1, rfl⟩ := one_of h1
  obtain ⟨x', e, h2⟩ := repTs1 h1
  cases e
  refine op_notN pins s σ H x _ v u Q I rx ry ⟨rfl, ?_⟩
  rw [rep_non h2]
  have : d = .bl (!isNon' d1) := by cases d1 <;> (cases hp; rfl)
  subst this
  exact q.same rfl
theorem o_isB : OpR X (compareOp .Is) (rP2 X.K .isB) := by
  intro pins s σ H x y v u Q I rx ry h
  obtain ⟨st, Z, μ, d1, d2, d, hs, h1, h2, hp, q⟩ := h
  cases d1 <;> cases d2 <;> first | exact nomatch (show (none : Option D) = some d from hp) | skip
  case bl.bl a b =>
    cases hp
    refine op_isBl pins s σ H x y v u Q I rx ry ⟨a, b, h1, h2, ?_⟩
    have e : decide (a = b) = (a == b) := by cases a <;> cases b <;> rfl
    rw [e]
    exact q.same rfl
theorem un1 {st : Sto} {p : P} {ds : List D} {d : D} (hp : prim st p ds = some d) (h0 : prim st p [] = none) (h2 : ∀ a b r, prim st p (a :: b :: r) = none) : ∃ d1, ds = [d1] := by
  cases ds with
  | nil => rw [h0] at hp; cases hp
  | cons a r =>
    cases r with
    | nil => exact ⟨a, rfl⟩
    | cons b r => rw [h2] at hp; cases hp
theorem un2 {st : Sto} {p : P} {ds : List D} {d : D} (hp : prim st p ds = some d) (h0 : prim st p [] = none) (h1 : ∀ a, prim st p [a] = none) (h2 : ∀ a b c r, prim st p (a :: b :: c :: r) = none) : ∃ d1 d2, ds = [d1, d2] := by
  cases ds with
  | nil => rw [h0] at hp; cases hp
  | cons a r =>
    cases r with
    | nil => rw [h1] at hp; cases hp
    | cons b r =>
      cases r with
      | nil => exact ⟨a, b, rfl⟩
      | cons c r => rw [h2] at hp; cases hp
theorem c_len : CallR X (.builtin "len") (rP X.K .len) := by
  intro pins s σ H xs us Q I r h
  obtain ⟨st, Z, μ, ds, d, hs, h1, hp, q⟩ := h
  obtain ⟨d1, rfl⟩ := un1 hp rfl (fun a b r => by cases a <;> rfl)
  obtain ⟨x, rfl, h2⟩ := repTs1 h1
  clear h1
  cases d1 <;> first | exact nomatch (show (none : Option D) = some d from hp) | skip
  case tup ys =>
    cases hp
    obtain ⟨a, vs, rfl, s1, z1, r1⟩ := tupE h2
    refine call_len_seq pins s σ H _ us Q I r ⟨a, vs, rfl, .inr s1, ?_⟩
    rw [r1.length]; exact q.same rfl
  case lst ys =>
    cases hp
    obtain ⟨a, vs, rfl, s1, z1, r1⟩ := lstE h2
    refine call_len_seq pins s σ H _ us Q I r ⟨a, vs, rfl, .inl (SqL.of' s1), ?_⟩
    rw [r1.length]; exact q.same rfl
def tyN : Ty → String
  | .int => "int" | .bool => "bool" | .str => "str" | .tuple => "tuple" | .list => "list" | .dict => "dict"
def tyD : D → String
  | .non => "NoneType" | .bl _ => "bool" | .int _ => "int" | .str _ => "str" | .tup _ => "tuple" | .lst _ => "list" | .dic _ => "dict" | .ref _ => "list"
theorem kit_all (t : Ty) (d : D) (b : Bool) (h : isTy t d = some b) : kitB (tyD d) (tyN t) = some b := by
  cases t <;> cases d <;> (cases h; dsimp only [tyD, tyN]; decide +kernel)
theorem rep_kit {pins : List (Addr × Obj)} {s : Shared} {σ : L2.St} {H : Hp} {x : V} {u : Value} {st : Sto} {Z : Zs} {μ : List Addr} {d : D} (I : Inv X pins σ H s) (rx : RelV x u) (hs : StoR X.K H Z μ st) (h : RepT X.K H Z μ d x) (hn : ∀ n, d = .ref n → n < st.length) :
    ∃ P : Heap → Prop, PySem.W.KitX X.K u (.type (tyD d)) P ∧ P s.heap ∧ u ≠ .builtin "__main__.__loader__#opaque" := by
  cases d with
  | non => cases (show x = .non from h); exact kit_of I rx (.base .non)
  | bl b => cases (show x = .bl b from h); exact kit_of I rx (.base (.bl b))
  | int i => cases (show x = .int i from h); exact kit_of I rx (.base (.int i))
  | str z => cases (show x = .str z from h); exact kit_of I rx (.base (.str z))
  | tup ds =>
    obtain ⟨a, vs, rfl, s1, _⟩ := tupE h
    cases (show u = Value.ref a from rx)
    obtain ⟨its, _, ⟨o, e1, e2, _⟩, _⟩ := I.tuple s1
    exact ⟨_, PySem.W.kitx_tuple, ⟨o, e1, e2⟩, fun z => nomatch z⟩
  | lst ds =>
    obtain ⟨a, vs, rfl, s1, _⟩ := lstE h
    cases (show u = Value.ref a from rx)
    obtain ⟨_, _, n, _, e⟩ := s1.ok I.hok
    exact ⟨_, PySem.W.kitx_list, ⟨_, e, rfl⟩, fun z => nomatch z⟩
  | dic kvs =>
    obtain ⟨a, vs, rfl, _, h2, _⟩ := (show ∃ a vs, x = V.ref a ∧ a ∉ μ ∧ DicAt (Rd H) a (kvs.map Prod.fst) vs ∧ RepE X.K H Z μ kvs vs from h)
    cases (show u = Value.ref a from rx)
    rcases h2 with ⟨ks, q, _⟩ | ⟨ks, q, _⟩
    · obtain ⟨_, _, _, _, o, _, _, e1, e2, _⟩ := q.ok I.hok
      exact ⟨_, PySem.W.kitx_dict, ⟨o, e1, e2.1⟩, fun z => nomatch z⟩
    · obtain ⟨_, _, _, _, o, _, _, e1, e2, _⟩ := q.ok I.hok
      exact ⟨_, PySem.W.kitx_dict, ⟨o, e1, e2.1⟩, fun z => nomatch z⟩
  | ref n =>
    obtain ⟨a, ea, rfl⟩ := (show ∃ a, μ[n]? = some a ∧ x = .ref a from h)
    cases (show u = Value.ref a from rx)
    have hl := hn n rfl
    obtain ⟨b, vs, e1, e2, _⟩ := hs.at_ n _ (List.getElem?_eq_getElem hl)
    rw [ea] at e1
    cases e1
    obtain ⟨_, _, k, _, e⟩ := I.hok a _ e2
    exact ⟨_, PySem.W.kitx_list, ⟨_, e, rfl⟩, fun z => nomatch z⟩
theorem ref_lt {K : PySem.W.Frag} {H : Hp} {Z : Zs} {μ : List Addr} {st : Sto} {d : D} {x : V} (hs : StoR K H Z μ st) (h : RepT K H Z μ d x) : ∀ n, d = .ref n → n < st.length := by
  intro n e
  subst e
  obtain ⟨a, ea, _⟩ := (show ∃ a, μ[n]? = some a ∧ x = .ref a from h)
  rw [← hs.len]
  exact (List.getElem?_eq_some_iff.mp ea).1
/-- isinstance(x, T), T a built-in type's name -/
theorem c_isI (t : Ty) : CallR X (.builtin "isinstance") (fun xs H Q => ∃ x, xs = [x, .ty (tyN t)] ∧ rP X.K (.isI t) [x] H Q) := by
  intro pins s σ H xs us Q I r h
  obtain ⟨x, rfl, st, Z, μ, ds, d, hs, h1, hp, q⟩ := h
  obtain ⟨d1, rfl⟩ := one_of h1
  obtain ⟨x', e, h2⟩ := repTs1 h1
  cases e
  obtain ⟨u1, u2, rfl, r1, r2⟩ := vals2 r
  cases (show u2 = Value.type (tyN t) from r2)
  obtain ⟨b, e, rfl⟩ := map_bl (f := id) hp
  obtain ⟨P, Z', p, hx⟩ := rep_kit I r1 hs h2 (ref_lt hs h2)
  exact PySem.W.kia_one Z' I.kIn p (kit_ty (kit_all t d1 b e)) hx fun tk => ⟨.bl b, H, I.tok tk, rfl, q.same rfl⟩
theorem c_max2 (hc : X.calm = true) : CallR X (.builtin "max") (rP X.K .max2) := by
  intro pins s σ H xs us Q I r h
  obtain ⟨st, Z, μ, ds, d, hs, h1, hp, q⟩ := h
  obtain ⟨d1, d2, rfl⟩ := un2 hp rfl (fun a => by cases a <;> rfl) (fun a b c r => by cases a <;> cases b <;> rfl)
  obtain ⟨x, y, rfl, h2, h3⟩ := repTs2 h1
  clear h1
  cases d1 <;> cases d2 <;> first | exact nomatch (show (none : Option D) = some d from hp) | skip
  rename_i i j
  cases hp
  cases (show x = .int i from h2)
  cases (show y = .int j from h3)
  exact call_max2 hc pins s σ H _ us Q I r ⟨i, j, rfl, q.same rfl⟩
theorem c_min2 (hc : X.calm = true) : CallR X (.builtin "min") (rP X.K .min2) := by
  intro pins s σ H xs us Q I r h
  obtain ⟨st, Z, μ, ds, d, hs, h1, hp, q⟩ := h
  obtain ⟨d1, d2, rfl⟩ := un2 hp rfl (fun a => by cases a <;> rfl) (fun a b c r => by cases a <;> cases b <;> rfl)
  obtain ⟨x, y, rfl, h2, h3⟩ := repTs2 h1
  clear h1
  cases d1 <;> cases d2 <;> first | exact nomatch (show (none : Option D) = some d from hp) | skip
  rename_i i j
  cases hp
  cases (show x = .int i from h2)
  cases (show y = .int j from h3)
  exact call_min2 hc pins s σ H _ us Q I r ⟨i, j, rfl, q.same rfl⟩
theorem c_sum (hc : X.calm = true) : CallR X (.builtin "sum") (rP X.K .sum) := by
  intro pins s σ H xs us Q I r h
  obtain ⟨st, Z, μ, ds, d, hs, h1, hp, q⟩ := h
  obtain ⟨d1, rfl⟩ := un1 hp rfl (fun a b r => by cases a <;> rfl)
  obtain ⟨x, rfl, h2⟩ := repTs1 h1
  clear h1
  cases d1 <;> first | exact nomatch (show (none : Option D) = some d from hp) | skip
  rename_i ys
  have hp : (sumR ys).map D.int = some d := hp
  cases e : sumR ys with
  | none => rw [e] at hp; cases hp
  | some i =>
    rw [e] at hp; cases hp
    obtain ⟨ns, rfl, rfl⟩ := sumR_eq e
    obtain ⟨a, vs, rfl, s1, z1, r1⟩ := lstE h2
    rw [reps_int r1] at s1
    exact cr_sum hc pins s σ H _ us Q I r ⟨a, ns, rfl, SqL.of' s1, q.same rfl⟩
theorem c_all (hc : X.calm = true) : CallR X (.builtin "all") (rP X.K .all) := by
  intro pins s σ H xs us Q I r h
  obtain ⟨st, Z, μ, ds, d, hs, h1, hp, q⟩ := h
  obtain ⟨d1, rfl⟩ := un1 hp rfl (fun a b r => by cases a <;> rfl)
  obtain ⟨x, rfl, h2⟩ := repTs1 h1
  clear h1
  cases d1 <;> first | exact nomatch (show (none : Option D) = some d from hp) | skip
  rename_i ys
  obtain ⟨b, e, rfl⟩ := map_bl (f := id) (show (allR ys).map (fun c => D.bl (id c)) = some d from hp)
  unfold allR at e
  cases e2 : bls ys with
  | none => rw [e2] at e; cases e
  | some bs =>
    rw [e2] at e; cases e
    obtain rfl := bls_eq e2
    obtain ⟨a, vs, rfl, s1, z1, r1⟩ := lstE h2
    rw [reps_bl r1] at s1
    exact cr_all hc pins s σ H _ us Q I r ⟨a, bs, rfl, SqL.of' s1, q.same rfl⟩
theorem c_any (hc : X.calm = true) : CallR X (.builtin "any") (rP X.K .any) := by
  intro pins s σ H xs us Q I r h
  obtain ⟨st, Z, μ, ds, d, hs, h1, hp, q⟩ := h
  obtain ⟨d1, rfl⟩ := un1 hp rfl (fun a b r => by cases a <;> rfl)
  obtain ⟨x, rfl, h2⟩ := repTs1 h1
  clear h1
  cases d1 <;> first | exact nomatch (show (none : Option D) = some d from hp) | skip
  rename_i ys
  obtain ⟨b, e, rfl⟩ := map_bl (f := id) (show (anyR ys).map (fun c => D.bl (id c)) = some d from hp)
  unfold anyR at e
  cases e2 : bls ys with
  | none => rw [e2] at e; cases e
  | some bs =>
    rw [e2] at e; cases e
    obtain rfl := bls_eq e2
    obtain ⟨a, vs, rfl, s1, z1, r1⟩ := lstE h2
    rw [reps_bl r1] at s1
    exact cr_any hc pins s σ H _ us Q I r ⟨a, bs, rfl, SqL.of' s1, q.same rfl⟩
theorem c_tuple : CallR X (.type "tuple") (rP X.K .tuple) := by
  intro pins s σ H xs us Q I r h
  obtain ⟨st, Z, μ, ds, d, hs, h1, hp, q⟩ := h
  obtain ⟨d1, rfl⟩ := un1 hp rfl (fun a b r => by cases a <;> rfl)
  obtain ⟨x, rfl, h2⟩ := repTs1 h1
  clear h1
  cases d1 <;> first | exact nomatch (show (none : Option D) = some d from hp) | skip
  case tup ys =>
    cases hp
    obtain ⟨a, vs, rfl, s1, z1, r1⟩ := tupE h2
    exact call_tuple_of pins s σ H _ us Q I r ⟨a, vs, rfl, .inr ⟨s1, q.same h2⟩⟩
  case lst ys =>
    cases hp
    obtain ⟨a, vs, rfl, s1, z1, r1⟩ := lstE h2
    exact call_tuple_of pins s σ H _ us Q I r ⟨a, vs, rfl, .inl ⟨SqL.of' s1, fun l hl => q.tup z1 r1 l hl⟩⟩
/-- as rP, what comes is a new list -/
def rPF (K : PySem.W.Frag) (p : P) : List V → Hp → VK → Prop := fun xs H Q => ∃ st Z μ ds d, StoR K H Z μ st ∧ RepTs K H Z μ ds xs ∧ prim st p ds = some d ∧ OutF K H Z μ d Q
theorem c_listF : CallR X (.type "list") (rPF X.K .list) := by
  intro pins s σ H xs us Q I r h
  obtain ⟨st, Z, μ, ds, d, hs, h1, hp, q⟩ := h
  obtain ⟨d1, rfl⟩ := un1 hp rfl (fun a b r => by cases a <;> rfl)
  obtain ⟨x, rfl, h2⟩ := repTs1 h1
  clear h1
  cases d1 <;> first | exact nomatch (show (none : Option D) = some d from hp) | skip
  case tup ys =>
    cases hp
    obtain ⟨a, vs, rfl, s1, z1, r1⟩ := tupE h2
    exact call_list_of pins s σ H _ us Q I r ⟨a, vs, rfl, .inr s1, fun l hl => q l vs ys rfl hl z1 r1⟩
  case lst ys =>
    cases hp
    obtain ⟨a, vs, rfl, s1, z1, r1⟩ := lstE h2
    exact call_list_of pins s σ H _ us Q I r ⟨a, vs, rfl, .inl (SqL.of' s1), fun l hl => q l vs ys rfl hl z1 r1⟩
theorem o_mulF : OpR X (binaryOp .Mult) (fun x y H Q => ∃ as, (∃ Z μ, RepT X.K H Z μ (.lst as) x) ∧ rPF X.K .mul [x, y] H Q) := by
  intro pins s σ H x y v u Q I rx ry h
  obtain ⟨as, ⟨Z0, μ0, h0⟩, st, Z, μ, ds, d, hs, h1, hp, q⟩ := h
  obtain ⟨d1, d2, rfl⟩ := two_of h1
  obtain ⟨x', y', e, h2, h3⟩ := repTs2 h1
  cases e
  clear h1
  obtain ⟨a0, vs0, rfl, s0, _⟩ := lstE h0
  cases d1 <;> cases d2 <;> first | exact nomatch (show (none : Option D) = some d from hp) | skip
  case int.int i j => cases (show V.ref a0 = .int i from h2)
  case tup.int bs k =>
    obtain ⟨a, vs, e, s1, z1, r1⟩ := tupE h2
    cases e
    cases (show v = Value.ref a0 from rx)
    obtain ⟨_, _, ⟨o, e1, e2, _⟩, _⟩ := I.tuple s1
    obtain ⟨_, _, _, _, e3⟩ := s0.ok I.hok
    rw [e1] at e3
    have e4 : o.cls = Value.type "list" := by rw [Option.some.inj e3]
    rw [e2] at e4
    exact absurd (Value.type.inj e4) (by decide)
  case lst.int bs k =>
    have hp : (if 0 ≤ k ∧ k ≤ 1000 ∧ bs.length ≤ 1000 then some (D.lst (List.replicate k.toNat bs).flatten) else none) = some d := hp
    split at hp
    · rename_i hk
      cases hp
      obtain ⟨a, vs, e, s1, z1, r1⟩ := lstE h2
      cases e
      have hy : y = .int k := h3
      subst hy
      exact mulL pins s σ H _ _ v u Q I rx ry ⟨a0, k, vs, rfl, rfl, s1, hk.1, hk.2.1, by rw [r1.length]; exact hk.2.2, fun p hp => q p _ _ rfl hp (flat_le (by omega) (by rw [r1.length]; exact hk.2.2)) (r1.flatten _)⟩
    · cases hp
theorem atI_rep {K : PySem.W.Frag} {H : Hp} {Z : Zs} {μ : List Addr} {ds : List D} {vs : List V} {i : Int} {d : D} (h : Reps K H Z μ ds vs) (e : atI ds i = some d) : ∃ v, atI vs i = some v ∧ Rep K H Z μ d v := by
  unfold atI at e ⊢
  rw [h.length]
  cases q : L2.ixN ds.length i with
  | none => rw [q] at e; cases e
  | some j =>
    rw [q] at e
    obtain ⟨v, e1, e2⟩ := h.get' (i := j) e
    exact ⟨v, e1, e2⟩
theorem x_idx : IxR X (rP2 X.K .idx) := by
  intro value slice pins s σ H x y v u Q I rx ry h hsub
  obtain ⟨st, Z, μ, d1, d2, d, hs, h1, h2, hp, q⟩ := h
  cases d1 <;> cases d2 <;> first | exact nomatch (show (none : Option D) = some d from hp) | skip
  case tup.int xs i =>
    obtain ⟨a, vs, rfl, s1, z1, r1⟩ := tupE h1
    obtain ⟨w, e1, e2⟩ := atI_rep r1 (show atI xs i = some d from hp)
    exact ix_tup value slice pins s σ H _ _ v u Q I rx ry ⟨a, vs, i, w, rfl, h2, s1, e1, q.same e2⟩ hsub
  case lst.int xs i =>
    obtain ⟨a, vs, rfl, s1, z1, r1⟩ := lstE h1
    obtain ⟨w, e1, e2⟩ := atI_rep r1 (show atI xs i = some d from hp)
    exact ix_list value slice pins s σ H _ _ v u Q I rx ry ⟨a, vs, i, w, rfl, h2, SqL.of' s1, e1, q.same e2⟩ hsub
  case ref.int n i =>
    obtain ⟨a, ea, rfl⟩ := (show ∃ a, μ[n]? = some a ∧ x = .ref a from h1)
    have hp : (st[n]?).bind (fun xs => atI xs i) = some d := hp
    cases en : st[n]? with
    | none => rw [en] at hp; cases hp
    | some xs =>
      rw [en] at hp
      obtain ⟨b, vs, e1, e2, e3, e4⟩ := hs.at_ n xs en
      rw [ea] at e1
      cases e1
      obtain ⟨w, e5, e6⟩ := atI_rep e4 (show atI xs i = some d from hp)
      exact ix_list value slice pins s σ H _ _ v u Q I rx ry ⟨a, vs, i, w, rfl, h2, .inl (.inl e2), e5, q.same e6⟩ hsub
def cutR (lo hi : Option Int) : D → Option D
  | .tup xs => some (.tup (cutL xs lo hi))
  | .lst xs => some (.lst (cutL xs lo hi))
  | _ => none
def rCut (K : PySem.W.Frag) : V → Option Int → Option Int → Hp → VK → Prop := fun x lo hi H Q => ∃ Z μ d1 d, RepT K H Z μ d1 x ∧ cutR lo hi d1 = some d ∧ Out K H Z μ d Q
theorem cut_rep {K : PySem.W.Frag} {H : Hp} {Z : Zs} {μ : List Addr} {ds : List D} {vs : List V} {lo hi : Option Int} (h : Reps K H Z μ ds vs) : Reps K H Z μ (cutL ds lo hi) (cutV vs lo hi) := by
  unfold cutL cutV
  rw [h.length]
  exact (h.drop _).take _
theorem cut_all {α : Type} {xs : List α} {lo hi : Option Int} (h : HT.sIx xs.length 0 lo = 0 ∧ HT.sIx xs.length xs.length hi = xs.length) : (xs.drop (HT.sIx xs.length 0 lo)).take (HT.sIx xs.length xs.length hi - HT.sIx xs.length 0 lo) = xs := by
  rw [h.1, h.2]; simp
theorem s_cut : SlR X (rCut X.K) := by
  intro pins s σ H x v vl vu lo hi sl Q I rx hs pl pu h
  obtain ⟨Z, μ, d1, d, h1, hp, q⟩ := h
  cases d1 <;> first | exact nomatch (show (none : Option D) = some d from hp) | skip
  case tup xs =>
    cases hp
    obtain ⟨a, vs, rfl, s1, z1, r1⟩ := tupE h1
    refine sl_tupA pins s σ H _ v vl vu lo hi sl Q I rx hs pl pu ⟨a, vs, rfl, s1, fun hw => ?_, fun hw p hp => ?_⟩
    · have e : cutL xs lo hi = xs := by
        unfold cutL
        rw [r1.length] at hw
        exact cut_all hw
      rw [e] at q
      exact q.same h1
    · exact q.tup (Nat.le_trans (cutV_length vs lo hi) z1) (cut_rep r1) p hp
  case lst xs =>
    cases hp
    obtain ⟨a, vs, rfl, s1, z1, r1⟩ := lstE h1
    exact sl_list pins s σ H _ v vl vu lo hi sl Q I rx hs pl pu ⟨a, vs, rfl, SqL.of' s1, fun p hp => q.lst (Nat.le_trans (cutV_length vs lo hi) z1) (cut_rep r1) p hp⟩
theorem cnt_toPs (x : D) (n m : Nat) (hx : x.flat n = true) : ∀ (ys : List D), D.flats m ys = true → (toPs ys).countP (fun y => PyData.eqv y (toP x)) = ys.countP fun y => D.eqv y x
  | [], _ => rfl
  | y :: ys, h => by
    obtain ⟨h1, h2⟩ := Bool.and_eq_true_iff.mp (show (D.flat m y && D.flats m ys) = true from h)
    show ((toP y) :: toPs ys).countP _ = _
    rw [List.countP_cons, List.countP_cons, cnt_toPs x n m hx ys h2, toP_eqv m n y x h1 hx]
theorem m_cnt (hu : X.A.units + 64 < cLine) : MtR X "list.count" (fun x xs H Q => rP X.K .cnt (x :: xs) H Q) := by
  intro pins s σ H x xs v us Q I rx rxs h
  obtain ⟨st, Z, μ, ds, d, hs, h1, hp, q⟩ := h
  obtain ⟨d1, d2, rfl⟩ := un2 hp rfl (fun a => by cases a <;> rfl) (fun a b c r => by cases a <;> cases b <;> rfl)
  obtain ⟨x', y, e, h2, h3⟩ := repTs2 h1
  cases e
  clear h1
  cases d1 <;> first | exact nomatch (show (none : Option D) = some d from hp) | skip
  rename_i ys
  have hp : (if D.flat 60 d2 && D.flats 60 ys then some (D.int ((ys.countP fun y => D.eqv y d2 : Nat) : Int)) else none) = some d := hp
  split at hp
  · rename_i hf
    cases hp
    obtain ⟨f1, f2⟩ := Bool.and_eq_true_iff.mp hf
    obtain ⟨a, vs, rfl, s1, z1, r1⟩ := lstE h2
    cases (show v = Value.ref a from rx)
    obtain ⟨u, rfl, ru⟩ := vals1 rxs
    obtain ⟨bs, q1⟩ := repT_reads I f1 h3 ru
    obtain ⟨z, its, n, rv, e⟩ := s1.ok I.hok
    obtain ⟨as, q2⟩ := reps_reads I 60 ys vs its f2 r1 rv
    have l1 := toP_depth 60 d2 f1
    refine SeqAt.count_list_data (vs := its.toArray) ⟨_, e, rfl, n, rfl⟩ (by simpa using q2) q1 (toPs_plain 60 ys f2) (toP_plain 60 d2 f1) (by omega) ⟨.int _, H, I.tok _, ⟨_, rfl⟩, ?_⟩
    have ec := cnt_toPs d2 60 60 f1 ys f2
    rw [ec]
    exact q.same rfl
  · cases hp

/-! ### t[::-1] -/
theorem adjust_rev (n : Nat) : Builtin.Slice.sliceAdjust none none (-1) (n : Int) = ((n : Int) - 1, -1) := by
  unfold Builtin.Slice.sliceAdjust
  have h1 : ((-1 : Int) < 0) := by omega
  simp only [h1, if_true]
theorem places_rev (n : Nat) : Builtin.Slice.slicePlaces ((n : Int) - 1) (-1) (-1) = n := by
  unfold Builtin.Slice.slicePlaces
  have h1 : ¬ ((-1 : Int) > 0) := by omega
  simp only [h1, if_false]
  split <;> simp <;> omega
theorem pick_rev (xs : Array Value) : ((List.range xs.size).filterMap fun (m : Nat) => xs[(((xs.size : Nat) : Int) - 1 + (m : Int) * (-1)).toNat]?).toArray = xs.toList.reverse.toArray := by
  have e : (List.range xs.size).filterMap (fun (m : Nat) => xs[(((xs.size : Nat) : Int) - 1 + (m : Int) * (-1)).toNat]?) = ((List.range xs.size).map fun k => xs.size - 1 - k).filterMap (xs[·]?) := by
    have gen : ∀ (l : List Nat), (∀ m ∈ l, m < xs.size) → l.filterMap (fun (m : Nat) => xs[(((xs.size : Nat) : Int) - 1 + (m : Int) * (-1)).toNat]?) = (l.map fun k => xs.size - 1 - k).filterMap (xs[·]?) := by
      intro l
      induction l with
      | nil => intro _; rfl
      | cons m l ih =>
        intro h
        have hm := h m List.mem_cons_self
        have e1 : (((xs.size : Nat) : Int) - 1 + (m : Int) * (-1)).toNat = xs.size - 1 - m := by omega
        rw [List.filterMap_cons, List.map_cons, List.filterMap_cons, e1, ih fun k hk => h k (List.mem_cons_of_mem _ hk)]
    exact gen _ fun m hm => List.mem_range.mp hm
  rw [e, PySem.W.krv_range, List.filterMap_reverse, PySem.W.krv_all]
theorem getItem_tuple_rev {prog : Program} {w : World} {A : Around} {E : Value → Shared → Prop} {s : Shared} {t sl : Addr} {items : Array Value} {vs : Value} {Q : Value → Shared → Prop} (ht : IsTup s.heap t items) (hs : s.heap.IsSliceOf sl .none .none vs) (ps : IsPart vs (some (-1)))
    (h : Q (.ref s.heap.objs.size) { s with heap := s.heap.push { cls := .type "tuple", data := .seq items.toList.reverse.toArray } })
    (hsz : items.size ≤ sizeLine) : wpAny (model prog w) A (getItem (.ref t) (.ref sl)) Q E s := by
  obtain ⟨os, hos, hcs, hds⟩ := id hs
  have hTs : s.TypeIs (.ref sl) "slice" := ⟨os, hos, hcs⟩
  have htake : sizeOk (.seq items.toList.reverse.toArray) := by
    show items.toList.reverse.toArray.size ≤ sizeLine
    rw [List.size_toArray, List.length_reverse, Array.length_toList]
    exact hsz
  unfold getItem
  try with_reducible refine wpAny_holding ?_
  first | refine wpAny_bind (wpAny_pure ?_) | skip
  refine wpAny_bind (wpAny_sequenceKey ht.typeIs (by decide) ?_)
  refine wpAny_bind (wpAny_callSpecial?_slot (name := Str.ofString "__getitem__") ht.typeIs PyProof.Rows.slot_tuple_getitem
    (wpAny_call_entry PyProof.Rows.slot_tuple_getitem ht.typeIs PyProof.Rows.entry_tuple_getitem ?_ (PyProof.Rows.args_tuple_getitem _ _)))
  show wpAny _ _ (Builtin.Tuple.tupleItemsOf (.ref t) >>= _) _ _ s
  refine wpAny_bind (PyProof.Rows.tupleItemsOf_ ht ?_)
  refine wpAny_bind (wpAny_typeOf hTs ?_)
  rw [if_pos (by decide)]
  have ap : ∀ {Q : Int × Int × Nat → Shared → Prop}, Q (((items.size : Nat) : Int) - 1, -1, items.size) s → wpAny (model prog w) A.in1 (Builtin.Slice.sliceApplied (.ref sl) (pure ((items.size : Nat) : Int))) Q E s := fun {Q} h => by
    unfold Builtin.Slice.sliceApplied Builtin.Slice.sliceFields
    refine wpAny_bind (wpAny_bind (wpAny_field hos hds (x := .none) rfl (wpAny_bind (wpAny_field hos hds (x := .none) rfl (wpAny_bind (wpAny_field hos hds (x := vs) rfl (wpAny_pure ?_)))))))
    refine wpAny_bind (HT.slicePart_ ps ?_)
    show wpAny _ _ (if ((-1 : Int) == 0) = true then _ else _) _ _ s
    rw [if_neg (by decide)]
    refine wpAny_bind (HT.slicePart_ .none (wpAny_bind (HT.slicePart_ .none (wpAny_bind (wpAny_pure ?_)))))
    show wpAny _ _ (match Builtin.Slice.sliceAdjust none none (-1) ((items.size : Nat) : Int) with | (lo, hi) => pure (lo, (-1 : Int), Builtin.Slice.slicePlaces lo hi (-1))) _ _ s
    rw [adjust_rev]
    show wpAny _ _ (pure (((items.size : Nat) : Int) - 1, (-1 : Int), Builtin.Slice.slicePlaces (((items.size : Nat) : Int) - 1) (-1) (-1))) _ _ s
    rw [places_rev]
    exact wpAny_pure h
  refine wpAny_bind (ap ?_)
  have hno : ¬ (((((items.size : Nat) : Int) - 1) == 0 && (-1 : Int) == 1 && items.size == items.size) = true) := by
    intro q
    rw [Bool.and_eq_true, Bool.and_eq_true] at q
    exact absurd q.1.2 (by decide)
  show wpAny _ _ (if ((((items.size : Nat) : Int) - 1) == 0 && (-1 : Int) == 1 && items.size == items.size) = true then _ else _) _ _ s
  rw [if_neg hno, pick_rev]
  first
    | exact wpAny_bind (m := Builtin.Tuple.tupleExact _) (wpAny_newObj_type (wpAny_pure ⟨_, rfl, wpAny_pure h⟩) htake)
    | exact wpAny_bind (m := Builtin.Tuple.tupleExact _) (wpAny_newObj_type (wpAny_bind (wpAny_pure (wpAny_pure ⟨_, rfl, wpAny_pure h⟩))) htake)
    | exact wpAny_bind (wpAny_bind (m := Builtin.Tuple.tupleExact _) (wpAny_newObj_type (wpAny_pure (wpAny_pure ⟨_, rfl, wpAny_pure h⟩)) htake))
    | exact wpAny_bind (wpAny_bind (m := Builtin.Tuple.tupleExact _) (wpAny_newObj_type (wpAny_pure ⟨_, rfl, wpAny_pure h⟩) htake))
def tRevT (K : PySem.W.Frag) (te : TE) : TE := fun σ H Q => te σ H fun x H1 => ∃ a xs, x = .ref a ∧ SqT K H1 a xs ∧ ∀ p, H1 p = none → Q (.ref p) (upd H1 p (.tup xs.reverse))
theorem pe_revT {e : Expr} {te : TE} {k : Nat} {p1 p2 p3 pos : Pos} (he : PE X e te) : PE X (.Subscript e (.Slice none none (some (.UnaryOp .USub (.Constant (.int 1) k p1) p2)) p3) pos) (tRevT X.K te) := by
  refine ⟨fun pins s σ H Q I h => ?_⟩
  refine Subscript_ (thn (he.run pins s σ H _ I h) fun v s1 ⟨x, H1, I1, r1, q1⟩ => ?_)
  obtain ⟨a, xs, ex, hx, q⟩ := q1
  subst ex
  cases r1
  have hst : PO X (some (.UnaryOp .USub (.Constant (.int 1) k p1) p2)) (tPart (tUn (rU fun i => .int (-i)) (tC (.int 1)))) := po_some (pe_un un_neg pe_int)
  refine wpAny_Slice ?_
  rw [evalPart_none]
  refine wpAny_pure (wpAny_pure ?_)
  refine thn (hst.run pins s1 σ H1 (fun o H4 => o = some (-1) ∧ H4 = H1) I1 ⟨1, rfl, -1, rfl, rfl, rfl⟩) fun vs s4 ⟨o, H4, I4, ps, eo, e4⟩ => ?_
  subst eo e4
  have I5 : Inv X pins σ H4 { s4 with heap := s4.heap.push { cls := .type "slice", data := .fields #[.none, .none, vs] } } := I4.kept (t' := s4.toks) fun b ob q => Heap.get?_push_of_some _ q
  obtain ⟨its, r, ht, hz⟩ := I5.tuple hx
  have hlen := r.length
  show wpAny (model X.prog X.w) X.A (subscriptTail e (.Slice none none (some (.UnaryOp .USub (.Constant (.int 1) k p1) p2)) p3) (.ref a) (.ref s4.heap.objs.size)) (EP X pins σ Q) X.xe { s4 with heap := s4.heap.push { cls := .type "slice", data := .fields #[.none, .none, vs] } }
  refine tail_any (ops := [.ref a, .ref s4.heap.objs.size]) ht.typeIs (PyProof.Rows.slot_tuple_getitem.lookup) ?_ (by with_unfolding_all rfl)
  refine getItem_tuple_rev ht (Heap.IsSliceOf.new _ .none .none vs) ps ?_ (by rw [List.size_toArray]; omega)
  refine ⟨.ref _, _, I5.laid (t' := s4.toks) (o := .tup xs.reverse) (fun b ob q => Heap.get?_push_of_some _ q) (Nat.le_refl _) ?_, rfl, q _ (I5.hok.fresh (Nat.le_refl _))⟩
  exact ⟨by rw [List.length_reverse]; exact hz, _, by simpa using r.reverse, IsTup.new _ _⟩
end
end Lb

set_option maxRecDepth 100000
set_option maxHeartbeats 400000
namespace Lb
open PySem PySem.Spec PyProof.Rows L2
section
variable {X : Cx} {c : Cfg} {Γ : List Fn} {own own1 own2 own3 own' : List Nat} {mu mu1 mu2 : Bool} {a b e : Expr} {ta tb tc : T} {pos : Pos}
theorem Rel.out {K : PySem.W.Frag} {s : S} {G : Gh} {σ : L2.St} {H : Hp} {d : D} {Q : VK} (r : Rel K own s G σ H) (q : ∀ v H' G', Rel K own s G' σ H' → Stp own own mu G H G' H' → Rep K H' G'.Z G'.μ d v → Q v H') : Out K H G.Z G.μ d Q := fun v H' Z' g rp => by
  obtain ⟨r', t'⟩ := r.grow (mu := mu) g
  exact q v H' _ r' t' rp
theorem Rel.outF {K : PySem.W.Frag} {s : S} {G : Gh} {σ : L2.St} {H : Hp} {d : D} {Q : VK} (r : Rel K own s G σ H) (q : ∀ v H' G', Rel K own s G' σ H' → Stp own own mu G H G' H' → ResM K G' H' H d v .fr → Q v H') : OutF K H G.Z G.μ d Q := fun a vs ds e ha hz rp => by
  obtain ⟨r', t', nz, nm⟩ := r.laidF (mu := mu) (o := .lst vs) ha
  subst e
  refine q _ _ G r' t' ⟨a, ⟨rfl, vs, upd_same, hz, ?_⟩, nz, nm, ha⟩
  exact Reps.mono (fun _ z => z) (fun p u z q => (r.rd t' z q)) (fun _ _ q => q) _ _ rp
theorem truV {K : PySem.W.Frag} {H : Hp} {Z : Zs} {μ : List Addr} {d : D} {x : V} {k : Bool} (h : RepT K H Z μ d x) (e : Lb.truthy d = some k) : TruV K x H k := by
  cases d with
  | non => cases (show x = .non from h); cases e; exact rfl
  | bl b => cases (show x = .bl b from h); cases e; exact rfl
  | int i => cases (show x = .int i from h); cases e; exact rfl
  | str z =>
    cases (show x = .str z from h)
    have e : (if z.length ≤ sizeLine then some ((z.length : Int) != 0) else none) = some k := e
    split at e
    · rename_i hz; cases e; exact ⟨hz, rfl⟩
    · cases e
  | tup ds =>
    obtain ⟨a, vs, rfl, s1, _, r1⟩ := tupE h
    cases e
    refine .inr (.inl ⟨vs, s1, ?_⟩)
    have := r1.length
    cases vs <;> cases ds <;> first | rfl | simp at this
  | lst ds =>
    obtain ⟨a, vs, rfl, s1, _, r1⟩ := lstE h
    cases e
    refine .inl ⟨vs, SqL.of' s1, ?_⟩
    have := r1.length
    cases vs <;> cases ds <;> first | rfl | simp at this
  | dic _ => cases e
  | ref _ => cases e
theorem mk1 {K : PySem.W.Frag} {H : Hp} {Z : Zs} {μ : List Addr} {d : D} {v : V} (h : RepT K H Z μ d v) : RepTs K H Z μ [d] [v] := ⟨v, [], rfl, h, rfl⟩
theorem mk2 {K : PySem.W.Frag} {H : Hp} {Z : Zs} {μ : List Addr} {d e : D} {v u : V} (h : RepT K H Z μ d v) (h' : RepT K H Z μ e u) : RepTs K H Z μ [d, e] [v, u] := ⟨v, [u], rfl, h, u, [], rfl, h', rfl⟩
theorem Post.opt2 {α : Type} {G : Gh} {σ : L2.St} {H : Hp} {k : α → S → Prop} {o : Option α} {s : S} (h : Post c own G σ H k (Lb.opt s o)) : ∃ a, o = some a ∧ k a s := Post.opt h

/-! ### operators -/
theorem se_bin (hK : c.K = X.K) {op : Operator} {p : P} (ho : OpR X (binaryOp op) (rP2 X.K p)) (ha : PE X a (tE c own own1 false .pk (ev Γ ta))) (hb : PE X b (tE c own1 own2 false .pk (ev Γ tb))) : PE X (.BinOp a op b pos) (tE c own own2 false .sh (ev Γ (.prim p [ta, tb]))) := imE (pe_op ho ha hb) fun σ H Q ⟨s, G, r, q⟩ => by
  simp only [ev_prim, evs_cons, evs_nil, Post.bind, Post.ok] at q
  refine ⟨s, G, r, q.mono fun d1 s1 q v1 H1 G1 r1 t1 rp1 => ⟨s1, G1, r1, (q.move t1).mono fun d2 s2 q v2 H2 G2 r2 t2 rp2 => ?_⟩⟩
  obtain ⟨d, hp, q⟩ := q.opt2
  rw [← hK]
  exact ⟨_, _, _, _, _, _, r2.sto, r1.repT t2 rp1, rp2, hp, r2.out (mu := false) fun v H' G' r' t' rp => q v H' G' r' ((t1.trans t2).trans t') rp⟩
theorem se_binF (hK : c.K = X.K) (ho : OpR X (binaryOp .Mult) (fun x y H Q => ∃ as, (∃ Z μ, RepT X.K H Z μ (.lst as) x) ∧ rPF X.K .mul [x, y] H Q)) {as : List T} (ha : PE X a (tE c own own1 false .pk (ev Γ (.lst as)))) (hb : PE X b (tE c own1 own2 false .pk (ev Γ tb))) :
    PE X (.BinOp a .Mult b pos) (tE c own own2 false .fr (ev Γ (.prim .mul [.lst as, tb]))) := imE (pe_op ho ha hb) fun σ H Q ⟨s, G, r, q⟩ => by
  simp only [ev_prim, evs_cons, evs_nil, Post.bind, Post.ok] at q
  have hl : Post c own G σ H (fun d1 s1 => ∃ ds, d1 = .lst ds) (ev Γ (.lst as) s) := by
    rw [ev_lst, Post.bind]
    rw [ev_lst, Post.bind] at q
    exact q.mono fun ds s1 _ => ⟨ds, rfl⟩
  have q2 : Post c own G σ H (fun d1 s1 => (∃ ds, d1 = .lst ds) ∧ Post c own G σ H (fun d2 s2 => Post c own G σ H (fun d s' => ∀ v H' G', Rel c.K own2 s' G' σ H' → Stp own own2 false G H G' H' → ResM c.K G' H' H d v .fr → Q v H') (Lb.opt s2 (prim s2.st .mul [d1, d2]))) (ev Γ tb s1)) (ev Γ (.lst as) s) := by
    cases em : ev Γ (.lst as) s with
    | ok d1 s1 => rw [em] at q hl; exact ⟨hl, q⟩
    | exc x s1 => rw [em] at q; exact q
    | fail => rw [em] at q; exact q
  refine ⟨s, G, r, q2.mono fun d1 s1 q v1 H1 G1 r1 t1 rp1 => ⟨s1, G1, r1, (q.2.move t1).mono fun d2 s2 q' v2 H2 G2 r2 t2 rp2 => ?_⟩⟩
  obtain ⟨ds, rfl⟩ := q.1
  obtain ⟨d, hp, q'⟩ := q'.opt2
  rw [← hK]
  refine ⟨ds, ⟨_, _, r1.repT (d := .lst ds) t2 rp1⟩, _, _, _, _, _, r2.sto, mk2 (r1.repT (d := .lst ds) t2 rp1) rp2, hp, ?_⟩
  refine r2.outF (mu := false) fun v H' G' r' t' rp => q' v H' G' r' ((t1.trans t2).trans t') ?_
  obtain ⟨x, h1, h2, h3, h4⟩ := rp
  exact ⟨x, h1, h2, h3, (t1.trans t2).fresh h4⟩
theorem se_neg (hK : c.K = X.K) (ha : PE X a (tE c own own1 false .pk (ev Γ ta))) : PE X (.UnaryOp .USub a pos) (tE c own own1 false .sh (ev Γ (.prim .neg [ta]))) := imE (pe_un o_neg ha) fun σ H Q ⟨s, G, r, q⟩ => by
  simp only [ev_prim, evs_cons, evs_nil, Post.bind, Post.ok] at q
  refine ⟨s, G, r, q.mono fun d1 s1 q v1 H1 G1 r1 t1 rp1 => ?_⟩
  obtain ⟨d, hp, q⟩ := q.opt2
  rw [← hK]
  exact ⟨_, _, _, _, _, r1.sto, mk1 rp1, hp, r1.out (mu := false) fun v H' G' r' t' rp => q v H' G' r' (t1.trans t') rp⟩
theorem cmp_pre (hK : c.K = X.K) {p : P} {σ : L2.St} {H : Hp} {Q : VK} (h : tE c own own2 false .sh (ev Γ (.prim p [ta, tb])) σ H Q) : tOp (rP2 X.K p) (tE c own own1 false .pk (ev Γ ta)) (tE c own1 own2 false .pk (ev Γ tb)) σ H Q := by
  obtain ⟨s, G, r, q⟩ := h
  simp only [ev_prim, evs_cons, evs_nil, Post.bind, Post.ok] at q
  refine ⟨s, G, r, q.mono fun d1 s1 q v1 H1 G1 r1 t1 rp1 => ⟨s1, G1, r1, (q.move t1).mono fun d2 s2 q v2 H2 G2 r2 t2 rp2 => ?_⟩⟩
  obtain ⟨d, hp, q⟩ := q.opt2
  rw [← hK]
  exact ⟨_, _, _, _, _, _, r2.sto, r1.repT t2 rp1, rp2, hp, r2.out (mu := false) fun v H' G' r' t' rp => q v H' G' r' ((t1.trans t2).trans t') rp⟩
theorem se_cmp (hK : c.K = X.K) {op : CmpOp} {p : P} (ho : OpR X (compareOp op) (rP2 X.K p)) (ha : PE X a (tE c own own1 false .pk (ev Γ ta))) (hb : PE X b (tE c own1 own2 false .pk (ev Γ tb))) (hm : behindInMarks op b = false) :
    PE X (.Compare a [op] [b] pos) (tE c own own2 false .sh (ev Γ (.prim p [ta, tb]))) := imE (pe_cmpR ho ha hb hm) fun σ H Q h => cmp_pre hK h
/-- is None, is not None -/
theorem isN_pre (hK : c.K = X.K) {p : P} {σ : L2.St} {H : Hp} {Q : VK} (h : tE c own own1 false .sh (ev Γ (.prim p [ta])) σ H Q) : tOp (fun x y H Q => y = .non ∧ rP X.K p [x] H Q) (tE c own own1 false .pk (ev Γ ta)) (tC .non) σ H Q := by
  obtain ⟨s, G, r, q⟩ := h
  simp only [ev_prim, evs_cons, evs_nil, Post.bind, Post.ok] at q
  refine ⟨s, G, r, q.mono fun d1 s1 q v1 H1 G1 r1 t1 rp1 => ?_⟩
  obtain ⟨d, hp, q⟩ := q.opt2
  refine ⟨rfl, ?_⟩
  rw [← hK]
  exact ⟨_, _, _, _, _, r1.sto, mk1 rp1, hp, r1.out (mu := false) fun v H' G' r' t' rp => q v H' G' r' (t1.trans t') rp⟩
theorem se_isN (hK : c.K = X.K) {op : CmpOp} {p : P} (ho : OpR X (compareOp op) (fun x y H Q => y = .non ∧ rP X.K p [x] H Q)) (ha : PE X a (tE c own own1 false .pk (ev Γ ta))) {j : Nat} {pos' : Pos} (hm : behindInMarks op (.Constant .none j pos') = false) :
    PE X (.Compare a [op] [.Constant .none j pos'] pos) (tE c own own1 false .sh (ev Γ (.prim p [ta]))) := imE (pe_cmpR ho ha pe_non hm) fun σ H Q h => isN_pre hK h
/-- a primitive that gives truths -/
def BoolP (p : P) : Prop := ∀ st ds d, prim st p ds = some d → ∃ k, d = .bl k
theorem chain_pre (hK : c.K = X.K) {p p' : P} (hb1 : BoolP p) (ho3 : own3 = own2) {σ : L2.St} {H : Hp} {Q : VK} (h : tE c own own3 false .sh (ev Γ (.chain p p' ta tb tc)) σ H Q) : tChain (rP2 X.K p) (rP2 X.K p') (tE c own own1 false .pk (ev Γ ta)) (tE c own1 own2 false .pk (ev Γ tb)) (tE c own2 own3 false .pk (ev Γ tc)) σ H Q := by
  obtain ⟨s, G, r, q⟩ := h
  subst ho3
  simp only [ev_chain, Post.bind, Post.ok] at q
  refine ⟨s, G, r, q.mono fun d1 s1 q v1 H1 G1 r1 t1 rp1 => ⟨s1, G1, r1, (q.move t1).mono fun d2 s2 q v2 H2 G2 r2 t2 rp2 => ?_⟩⟩
  obtain ⟨d, hp, q⟩ := q.opt2
  obtain ⟨k, rfl⟩ := hb1 _ _ _ hp
  obtain ⟨k', hk, q⟩ := q.opt2
  cases hk
  rw [← hK]
  refine ⟨_, _, _, _, _, _, r2.sto, r1.repT t2 rp1, rp2, hp, r2.out (mu := false) fun v H' G' r' t' rp => ?_⟩
  cases (show v = .bl k from rp)
  refine ⟨k, rfl, ?_⟩
  cases k with
  | false =>
    rw [if_neg Bool.false_ne_true] at q ⊢
    exact q _ H' G' r' ((t1.trans t2).trans t') rfl
  | true =>
    rw [if_pos rfl] at q ⊢
    simp only [Post.bind] at q
    refine ⟨_, G', r', ((q.move (t1.trans t2)).move t').mono fun d3 s3 q v3 H3 G3 r3 t3 rp3 => ?_⟩
    obtain ⟨d, hp, q⟩ := q.opt2
    exact ⟨_, _, _, _, _, _, r3.sto, r'.repT t3 (r2.repT t' rp2), rp3, hp, r3.out (mu := false) fun v H'' G'' r'' t'' rp => q v H'' G'' r'' ((((t1.trans t2).trans t').trans t3).trans t'') rp⟩
theorem se_chain (hK : c.K = X.K) {op op' : CmpOp} {p p' : P} {e3 : Expr} (ho : OpR X (compareOp op) (rP2 X.K p)) (ho' : OpR X (compareOp op') (rP2 X.K p')) (hb1 : BoolP p) (ha : PE X a (tE c own own1 false .pk (ev Γ ta))) (hb : PE X b (tE c own1 own2 false .pk (ev Γ tb)))
    (hc : PE X e3 (tE c own2 own3 false .pk (ev Γ tc))) (ho3 : own3 = own2) (hm : lastMarks [op, op'] [b, e3] = false) : PE X (.Compare a [op, op'] [b, e3] pos) (tE c own own3 false .sh (ev Γ (.chain p p' ta tb tc))) := imE (pe_chain ho ho' ha hb hc hm) fun σ H Q h => chain_pre hK hb1 ho3 h

/-! ### truths -/
/-- the test of a value -/
def evT (Γ : List Fn) (t : T) : S → R S Bool := fun s => (ev Γ t s).bind fun x s => opt s (Lb.truthy x)
/-- what gives a truth, as a test -/
theorem tT_bool {t : T} (hB : ∀ s d s', ev Γ t s = .ok d s' → ∃ k, d = .bl k) {σ : L2.St} {H : Hp} {Q : Bool → Hp → Prop} (h : tT c own own' mu (evT Γ t) σ H Q) : tE c own own' mu .sh (ev Γ t) σ H (fun x H' => ∃ k, x = .bl k ∧ Q k H') := by
  obtain ⟨s, G, r, q⟩ := h
  refine ⟨s, G, r, ?_⟩
  unfold evT at q
  cases e : ev Γ t s with
  | fail => rw [e] at q; exact q
  | exc => rw [e] at q; exact q
  | ok d s1 =>
    rw [e] at q
    obtain ⟨k, rfl⟩ := hB s d s1 e
    intro v H' G' r' t' rp
    exact ⟨k, rp, q H' G' r' t'⟩
theorem bool_prim {p : P} {as : List T} (hb : BoolP p) (s : S) (d : D) (s' : S) (h : ev Γ (.prim p as) s = .ok d s') : ∃ k, d = .bl k := by
  rw [ev_prim] at h
  cases e : evs Γ as s with
  | fail => rw [e] at h; cases h
  | exc => rw [e] at h; cases h
  | ok ds s1 =>
    rw [e, R.bind_ok] at h
    cases e2 : prim s1.st p ds with
    | none => rw [e2] at h; cases h
    | some x => rw [e2] at h; cases h; exact hb _ _ _ e2
theorem bool_chain {p p' : P} (hb : BoolP p) (hb' : BoolP p') (s : S) (d : D) (s' : S) (h : ev Γ (.chain p p' ta tb tc) s = .ok d s') : ∃ k, d = .bl k := by
  rw [ev_chain] at h
  cases e : ev Γ ta s with
  | fail => rw [e] at h; cases h
  | exc => rw [e] at h; cases h
  | ok x s1 =>
    rw [e, R.bind_ok] at h
    cases e1 : ev Γ tb s1 with
    | fail => rw [e1] at h; cases h
    | exc => rw [e1] at h; cases h
    | ok y s2 =>
      rw [e1, R.bind_ok] at h
      cases e2 : prim s2.st p [x, y] with
      | none => rw [e2] at h; cases h
      | some u =>
        obtain ⟨k, rfl⟩ := hb _ _ _ e2
        rw [e2, opt_some, R.bind_ok, truthy_bl, opt_some, R.bind_ok] at h
        cases k with
        | false => rw [if_neg (by decide)] at h; cases h; exact ⟨_, rfl⟩
        | true =>
          rw [if_pos rfl] at h
          cases e3 : ev Γ tc s2 with
          | fail => rw [e3] at h; cases h
          | exc => rw [e3] at h; cases h
          | ok z s3 =>
            rw [e3, R.bind_ok] at h
            cases e4 : prim s3.st p' [y, z] with
            | none => rw [e4] at h; cases h
            | some w => rw [e4] at h; cases h; exact hb' _ _ _ e4
theorem st_cmp (hK : c.K = X.K) {op : CmpOp} {p : P} (ho : OpR X (compareOp op) (rP2 X.K p)) (hb1 : BoolP p) (ha : PE X a (tE c own own1 false .pk (ev Γ ta))) (hb : PE X b (tE c own1 own2 false .pk (ev Γ tb))) (hm : behindInMarks op b = false) :
    PT X (.Compare a [op] [b] pos) (tT c own own2 false (evT Γ (.prim p [ta, tb]))) := imT (pt_cmpR ho ha hb hm) fun σ H Q h => cmp_pre hK (tT_bool (bool_prim hb1) h)
theorem st_isN (hK : c.K = X.K) {op : CmpOp} {p : P} (ho : OpR X (compareOp op) (fun x y H Q => y = .non ∧ rP X.K p [x] H Q)) (hb1 : BoolP p) (ha : PE X a (tE c own own1 false .pk (ev Γ ta))) {j : Nat} {pos' : Pos} (hm : behindInMarks op (.Constant .none j pos') = false) :
    PT X (.Compare a [op] [.Constant .none j pos'] pos) (tT c own own1 false (evT Γ (.prim p [ta]))) := imT (pt_cmpR ho ha pe_non hm) fun σ H Q h => isN_pre hK (tT_bool (bool_prim hb1) h)
theorem st_chain (hK : c.K = X.K) {op op' : CmpOp} {p p' : P} {e3 : Expr} (ho : OpR X (compareOp op) (rP2 X.K p)) (ho' : OpR X (compareOp op') (rP2 X.K p')) (hb1 : BoolP p) (hb2 : BoolP p') (ha : PE X a (tE c own own1 false .pk (ev Γ ta))) (hb : PE X b (tE c own1 own2 false .pk (ev Γ tb)))
    (hc : PE X e3 (tE c own2 own3 false .pk (ev Γ tc))) (ho3 : own3 = own2) (hm : lastMarks [op, op'] [b, e3] = false) : PT X (.Compare a [op, op'] [b, e3] pos) (tT c own own3 false (evT Γ (.chain p p' ta tb tc))) := imT (pt_chain ho ho' ha hb hc hm) fun σ H Q h => chain_pre hK hb1 ho3 (tT_bool (bool_chain hb1 hb2) h)
theorem st_val (hK : c.K = X.K) (ha : PE X a (tE c own own' mu .pk (ev Γ ta))) (he : ∀ whole, isTrue a X.env whole = (do let v ← whole; standAt a.pos; holding [v] (PySem.truthy v))) : PT X a (tT c own own' mu (evT Γ ta)) := imT (pt_truth ha he) fun σ H Q ⟨s, G, r, q⟩ => by
  simp only [evT, Post.bind, Post.ok] at q
  refine ⟨s, G, r, q.mono fun d1 s1 q v1 H1 G1 r1 t1 rp1 => ?_⟩
  obtain ⟨k, hk, q⟩ := q.opt2
  rw [← hK]
  exact ⟨k, truV rp1 hk, q H1 G1 r1 t1⟩
theorem st_not (ha : PT X a (tT c own own' mu (evT Γ ta))) : PT X (.UnaryOp .Not a pos) (tT c own own' mu (evT Γ (.prim .pnot [ta]))) := imT (pt_not ha) fun σ H Q ⟨s, G, r, q⟩ => by
  simp only [evT, ev_prim, evs_cons, evs_nil, Post.bind, Post.ok] at q
  refine ⟨s, G, r, ?_⟩
  simp only [evT, Post.bind]
  refine q.mono fun d1 s1 q => ?_
  obtain ⟨d, hp, q⟩ := q.opt2
  have hp : (Lb.truthy d1).map (fun b => D.bl (!b)) = some d := hp
  cases e1 : Lb.truthy d1 with
  | none => rw [e1] at hp; cases hp
  | some k =>
    rw [e1] at hp; cases hp
    exact q
theorem se_not (hK : c.K = X.K) (ha : PE X a (tE c own own' false .pk (ev Γ ta))) : PE X (.UnaryOp .Not a pos) (tE c own own' false .sh (ev Γ (.prim .pnot [ta]))) := imE (pe_notT ha) fun σ H Q ⟨s, G, r, q⟩ => by
  simp only [ev_prim, evs_cons, evs_nil, Post.bind, Post.ok] at q
  refine ⟨s, G, r, q.mono fun d1 s1 q v1 H1 G1 r1 t1 rp1 => ?_⟩
  obtain ⟨d, hp, q⟩ := q.opt2
  have hp : (Lb.truthy d1).map (fun b => D.bl (!b)) = some d := hp
  cases e1 : Lb.truthy d1 with
  | none => rw [e1] at hp; cases hp
  | some k =>
    rw [e1] at hp; cases hp
    rw [← hK]
    exact ⟨k, truV rp1 e1, q _ H1 G1 r1 t1 rfl⟩
theorem se_one {op : PySem.BoolOp} {m : S → R S D} {md : Md} (h : PE X a (tE c own own' mu md m)) : PE X (.BoolOp op [a] pos) (tE c own own' mu md m) := pe_one h
theorem se_and (hK : c.K = X.K) {rest : List Expr} (ha : PE X a (tE c own own1 false .sh (ev Γ ta))) (hb : PE X (.BoolOp .And (b :: rest) pos) (tE c own1 own2 false .sh (ev Γ tb))) (ho : own2 = own1) : PE X (.BoolOp .And (a :: b :: rest) pos) (tE c own own2 false .sh (ev Γ (.and ta tb))) := imE (pe_andT ha hb) fun σ H Q ⟨s, G, r, q⟩ => by
  subst ho
  simp only [ev_and, Post.bind, Post.ok] at q
  refine ⟨s, G, r, q.mono fun d1 s1 q v1 H1 G1 r1 t1 rp1 => ?_⟩
  obtain ⟨k, hk, q⟩ := q.opt2
  rw [← hK]
  refine ⟨k, truV (Rep.top r1.mz rp1) hk, ?_⟩
  cases k with
  | false => rw [if_neg Bool.false_ne_true] at q ⊢; exact q _ H1 G1 r1 t1 rp1
  | true =>
    rw [if_pos rfl] at q ⊢
    exact ⟨s1, G1, r1, (q.move t1).mono fun d2 s2 q v2 H2 G2 r2 t2 rp2 => q v2 H2 G2 r2 (t1.trans t2) rp2⟩
theorem se_or (hK : c.K = X.K) {rest : List Expr} (ha : PE X a (tE c own own1 false .sh (ev Γ ta))) (hb : PE X (.BoolOp .Or (b :: rest) pos) (tE c own1 own2 false .sh (ev Γ tb))) (ho : own2 = own1) : PE X (.BoolOp .Or (a :: b :: rest) pos) (tE c own own2 false .sh (ev Γ (.or ta tb))) := imE (pe_orT ha hb) fun σ H Q ⟨s, G, r, q⟩ => by
  subst ho
  simp only [ev_or, Post.bind, Post.ok] at q
  refine ⟨s, G, r, q.mono fun d1 s1 q v1 H1 G1 r1 t1 rp1 => ?_⟩
  obtain ⟨k, hk, q⟩ := q.opt2
  rw [← hK]
  refine ⟨k, truV (Rep.top r1.mz rp1) hk, ?_⟩
  cases k with
  | true => rw [if_pos rfl] at q ⊢; exact q _ H1 G1 r1 t1 rp1
  | false =>
    rw [if_neg Bool.false_ne_true] at q ⊢
    exact ⟨s1, G1, r1, (q.move t1).mono fun d2 s2 q v2 H2 G2 r2 t2 rp2 => q v2 H2 G2 r2 (t1.trans t2) rp2⟩
theorem st_one {op : PySem.BoolOp} {m : S → R S Bool} (h : PT X a (tT c own own' mu m)) : PW X (.BoolOp op [a] pos) (tT c own own' mu m) := by
  cases op
  · exact pw_and1 h
  · exact pw_or1 h
theorem st_and {rest : List Expr} (ha : PT X a (tT c own own1 false (evT Γ ta))) (hb : PW X (.BoolOp .And (b :: rest) pos) (tT c own1 own2 false (evT Γ tb))) (ho : own2 = own1) : PW X (.BoolOp .And (a :: b :: rest) pos) (tT c own own2 false (evT Γ (.and ta tb))) := imW (pw_and ha hb) fun σ H Q ⟨s, G, r, q⟩ => by
  subst ho
  simp only [evT, ev_and, Post.bind, Post.ok] at q
  refine ⟨s, G, r, ?_⟩
  simp only [evT, Post.bind]
  refine q.mono fun d1 s1 q => ?_
  obtain ⟨k, hk, q⟩ := q.opt2
  rw [hk]
  intro H1 G1 r1 t1
  cases k with
  | false =>
    rw [if_neg Bool.false_ne_true] at q ⊢
    obtain ⟨k2, hk2, q⟩ := Post.opt2 (show Post c own G σ H _ (Lb.opt s1 (Lb.truthy d1)) from q)
    rw [hk] at hk2; cases hk2
    exact q H1 G1 r1 t1
  | true =>
    rw [if_pos rfl] at q ⊢
    refine ⟨s1, G1, r1, ?_⟩
    simp only [evT, Post.bind]
    exact (q.move t1).mono fun d2 s2 q => by
      obtain ⟨k2, hk2, q⟩ := q.opt2
      rw [hk2]
      exact fun H2 G2 r2 t2 => q H2 G2 r2 (t1.trans t2)
theorem st_or {rest : List Expr} (ha : PT X a (tT c own own1 false (evT Γ ta))) (hb : PW X (.BoolOp .Or (b :: rest) pos) (tT c own1 own2 false (evT Γ tb))) (ho : own2 = own1) : PW X (.BoolOp .Or (a :: b :: rest) pos) (tT c own own2 false (evT Γ (.or ta tb))) := imW (pw_or ha hb) fun σ H Q ⟨s, G, r, q⟩ => by
  subst ho
  simp only [evT, ev_or, Post.bind, Post.ok] at q
  refine ⟨s, G, r, ?_⟩
  simp only [evT, Post.bind]
  refine q.mono fun d1 s1 q => ?_
  obtain ⟨k, hk, q⟩ := q.opt2
  rw [hk]
  intro H1 G1 r1 t1
  cases k with
  | true =>
    rw [if_pos rfl] at q ⊢
    obtain ⟨k2, hk2, q⟩ := Post.opt2 (show Post c own G σ H _ (Lb.opt s1 (Lb.truthy d1)) from q)
    rw [hk] at hk2; cases hk2
    exact q H1 G1 r1 t1
  | false =>
    rw [if_neg Bool.false_ne_true] at q ⊢
    refine ⟨s1, G1, r1, ?_⟩
    simp only [evT, Post.bind]
    exact (q.move t1).mono fun d2 s2 q => by
      obtain ⟨k2, hk2, q⟩ := q.opt2
      rw [hk2]
      exact fun H2 G2 r2 t2 => q H2 G2 r2 (t1.trans t2)
theorem se_ite {e1 e2 : Expr} (hc : PT X a (tT c own own1 false (evT Γ tc))) (ha : PE X e1 (tE c own1 own2 mu .sh (ev Γ ta))) (hb : PE X e2 (tE c own1 own2 mu .sh (ev Γ tb))) : PE X (.IfExp a e1 e2 pos) (tE c own own2 mu .sh (ev Γ (.ite tc ta tb))) := imE (pe_ifExp hc ha hb) fun σ H Q ⟨s, G, r, q⟩ => by
  simp only [ev_ite, Post.bind, Post.ok] at q
  refine ⟨s, G, r, ?_⟩
  simp only [evT, Post.bind]
  refine q.mono fun d1 s1 q => ?_
  obtain ⟨k, hk, q⟩ := q.opt2
  rw [hk]
  intro H1 G1 r1 t1
  cases k with
  | true =>
    rw [if_pos rfl] at q ⊢
    exact ⟨s1, G1, r1, (q.move t1).mono fun d2 s2 q v H2 G2 r2 t2 rp => q v H2 G2 r2 (t1.trans t2) rp⟩
  | false =>
    rw [if_neg Bool.false_ne_true] at q ⊢
    exact ⟨s1, G1, r1, (q.move t1).mono fun d2 s2 q v H2 G2 r2 t2 rp => q v H2 G2 r2 (t1.trans t2) rp⟩
end
end Lb

set_option maxRecDepth 100000
set_option maxHeartbeats 400000
namespace Lb
open PySem PySem.Spec PyProof.Rows L2
section
variable {X : Cx} {c : Cfg} {Γ : List Fn} {own own1 own2 own3 own' : List Nat} {mu mu1 mu2 : Bool} {a b e : Expr} {es : List Expr} {ta tb tc : T} {as : List T} {p1 pos : Pos} {x : Str}
/-! ### built-ins -/
theorem se_callB (hK : c.K = X.K) {id : String} {p : P} (hc : CallR X (.builtin id) (rP X.K p)) (hg : Gl X x) (hm : X.mg x = none) (hv : bootBuiltins x = some (.builtin id)) (ha : PA X (e :: es) (tAs c own own1 false true (evs Γ as))) (hn : x ≠ "__name__") (hdb : (x == ("__debug__" : Str)) = false)
    (he : starEach (e :: es) X.env = (false, eval e X.env) :: starEach es X.env) (hpl : (backTo pos (starEach es X.env)).any (·.1) = false) : PE X (.Call (.Name x p1) (e :: es) [] pos) (tE c own own1 false .sh (ev Γ (.prim p as))) := imE (pe_callB hc hg hm hv ha hn hdb he hpl) fun σ H Q ⟨s, G, r, q⟩ => by
  simp only [ev_prim, Post.bind] at q
  refine ⟨s, G, r, q.mono fun ds s1 q vs H1 G1 r1 t1 rp1 => ?_⟩
  obtain ⟨d, hp, q⟩ := q.opt2
  rw [← hK]
  exact ⟨_, _, _, _, _, r1.sto, rp1, hp, r1.out (mu := false) fun v H' G' r' t' rp => q v H' G' r' (t1.trans t') rp⟩
theorem se_callTy (hK : c.K = X.K) {id : String} {p : P} (hc : CallR X (.type id) (rP X.K p)) (hg : Gl X x) (hm : X.mg x = none) (hv : bootBuiltins x = some (.type id)) (ha : PA X (e :: es) (tAs c own own1 false true (evs Γ as))) (hn : x ≠ "__name__") (hdb : (x == ("__debug__" : Str)) = false)
    (he : starEach (e :: es) X.env = (false, eval e X.env) :: starEach es X.env) (hpl : (backTo pos (starEach es X.env)).any (·.1) = false) : PE X (.Call (.Name x p1) (e :: es) [] pos) (tE c own own1 false .sh (ev Γ (.prim p as))) := imE (pe_callTy hc hg hm hv ha hn hdb he hpl) fun σ H Q ⟨s, G, r, q⟩ => by
  simp only [ev_prim, Post.bind] at q
  refine ⟨s, G, r, q.mono fun ds s1 q vs H1 G1 r1 t1 rp1 => ?_⟩
  obtain ⟨d, hp, q⟩ := q.opt2
  rw [← hK]
  exact ⟨_, _, _, _, _, r1.sto, rp1, hp, r1.out (mu := false) fun v H' G' r' t' rp => q v H' G' r' (t1.trans t') rp⟩
theorem se_callTyF (hK : c.K = X.K) {id : String} {p : P} (hc : CallR X (.type id) (rPF X.K p)) (hg : Gl X x) (hm : X.mg x = none) (hv : bootBuiltins x = some (.type id)) (ha : PA X (e :: es) (tAs c own own1 false true (evs Γ as))) (hn : x ≠ "__name__") (hdb : (x == ("__debug__" : Str)) = false)
    (he : starEach (e :: es) X.env = (false, eval e X.env) :: starEach es X.env) (hpl : (backTo pos (starEach es X.env)).any (·.1) = false) : PE X (.Call (.Name x p1) (e :: es) [] pos) (tE c own own1 false .fr (ev Γ (.prim p as))) := imE (pe_callTy hc hg hm hv ha hn hdb he hpl) fun σ H Q ⟨s, G, r, q⟩ => by
  simp only [ev_prim, Post.bind] at q
  refine ⟨s, G, r, q.mono fun ds s1 q vs H1 G1 r1 t1 rp1 => ?_⟩
  obtain ⟨d, hp, q⟩ := q.opt2
  rw [← hK]
  refine ⟨_, _, _, _, _, r1.sto, rp1, hp, r1.outF (mu := false) fun v H' G' r' t' rp => q v H' G' r' (t1.trans t') ?_⟩
  obtain ⟨x, h1, h2, h3, h4⟩ := rp
  exact ⟨x, h1, h2, h3, t1.fresh h4⟩
/-- isinstance(e, T) -/
theorem se_isI (hK : c.K = X.K) {t : Ty} {y : Str} {p2 : Pos} (hg : Gl X "isinstance") (hm : X.mg "isinstance" = none) (hv : bootBuiltins "isinstance" = some (.builtin "isinstance")) (ha : PE X e (tE c own own1 false .pk (ev Γ ta))) (gy : Gl X y) (my : X.mg y = none) (vy : bootBuiltins y = some (.type (tyN t))) (ny : y ≠ "__name__") (dy : (y == ("__debug__" : Str)) = false)
    (he : starEach [e, .Name y p2] X.env = (false, eval e X.env) :: starEach [.Name y p2] X.env) : PE X (.Call (.Name "isinstance" p1) [e, .Name y p2] [] pos) (tE c own own1 false .sh (ev Γ (.prim (.isI t) [ta]))) :=
  imE (pe_callB (c_isI t) hg hm hv (pa_cons ha (pa_cons (pe_bltn (v := .ty (tyN t)) gy my vy rfl ny dy) pa_nil) he) (by decide) (by decide) he) fun σ H Q ⟨s, G, r, q⟩ => by
  simp only [ev_prim, evs_cons, evs_nil, Post.bind, Post.ok] at q
  refine ⟨s, G, r, q.mono fun d1 s1 q v1 H1 G1 r1 t1 rp1 => ?_⟩
  obtain ⟨d, hp, q⟩ := q.opt2
  refine ⟨v1, rfl, ?_⟩
  rw [← hK]
  exact ⟨_, _, _, _, _, r1.sto, mk1 rp1, hp, r1.out (mu := false) fun v H' G' r' t' rp => q v H' G' r' (t1.trans t') rp⟩
/-! ### displays -/
theorem evs_len : ∀ (ts : List T) (s : S) (ds : List D) (s' : S), evs Γ ts s = .ok ds s' → ds.length = ts.length
  | [], s, ds, s', h => by cases h; rfl
  | t :: ts, s, ds, s', h => by
    rw [evs_cons] at h
    cases e1 : ev Γ t s with
    | ok d s1 =>
      rw [e1, R.bind_ok] at h
      cases e2 : evs Γ ts s1 with
      | ok ds2 s2 =>
        rw [e2, R.bind_ok] at h
        cases h
        rw [List.length_cons, List.length_cons, evs_len ts s1 ds2 _ e2]
      | exc x s2 => rw [e2] at h; cases h
      | fail => rw [e2] at h; cases h
    | exc x s1 => rw [e1] at h; cases h
    | fail => rw [e1] at h; cases h
theorem Post.evs {G : Gh} {σ : L2.St} {H : Hp} {k : List D → S → Prop} {s : S} (h : Post c own G σ H k (Lb.evs Γ as s)) : Post c own G σ H (fun ds s' => ds.length = as.length ∧ k ds s') (Lb.evs Γ as s) := by
  cases e : Lb.evs Γ as s with
  | ok ds s1 => rw [e] at h; exact ⟨evs_len as s ds s1 e, h⟩
  | exc x s1 => rw [e] at h; exact h
  | fail => rw [e] at h; exact h
theorem le1000 {n : Nat} (h : n ≤ 1000) : n ≤ sizeLine := by rw [sizeLine_eq]; omega
theorem se_tup {k : Nat} (ha : PA X es (tAs c own own1 mu false (evs Γ as))) (hl : as.length ≤ 1000) : PE X (.Tuple es k pos) (tE c own own1 mu .sh (ev Γ (.tup as))) := imE (pe_tup ha) fun σ H Q ⟨s, G, r, q⟩ => by
  simp only [ev_tup, Post.bind, Post.ok] at q
  refine ⟨s, G, r, q.evs.mono fun ds s1 q vs H1 G1 r1 t1 rp1 => ?_⟩
  obtain ⟨ql, q⟩ := q
  have rp1 : Reps c.K H1 G1.Z G1.μ ds vs := rp1
  have hz : vs.length ≤ sizeLine := by rw [rp1.length, ql]; exact le1000 hl
  refine ⟨hz, fun p hp => ?_⟩
  have o := r1.out (mu := mu) (d := .tup ds) (Q := fun v H' => Q v H') fun v H' G' r' t' rp => q v H' G' r' (Stp.weak (t1.trans t') (by simp)) rp
  exact o.tup hz rp1 p hp
theorem se_lst (ha : PA X es (tAs c own own1 mu false (evs Γ as))) (hl : as.length ≤ 1000) : PE X (.List es pos) (tE c own own1 mu .fr (ev Γ (.lst as))) := imE (pe_lst ha) fun σ H Q ⟨s, G, r, q⟩ => by
  simp only [ev_lst, Post.bind, Post.ok] at q
  refine ⟨s, G, r, q.evs.mono fun ds s1 q vs H1 G1 r1 t1 rp1 => ?_⟩
  obtain ⟨ql, q⟩ := q
  have rp1 : Reps c.K H1 G1.Z G1.μ ds vs := rp1
  have hz : vs.length ≤ sizeLine := by rw [rp1.length, ql]; exact le1000 hl
  refine ⟨hz, fun p hp => ?_⟩
  have o := r1.outF (mu := mu) (d := .lst ds) (Q := fun v H' => Q v H') fun v H' G' r' t' rp => q v H' G' r' (Stp.weak (t1.trans t') (by simp)) (by
    obtain ⟨x, h1, h2, h3, h4⟩ := rp
    exact ⟨x, h1, h2, h3, t1.fresh h4⟩)
  exact o p vs ds rfl hp hz rp1
/-! ### subscripts -/
theorem se_idx (hK : c.K = X.K) (ha : PE X a (tE c own own1 false .pk (ev Γ ta))) (hb : PE X b (tE c own1 own2 false .pk (ev Γ tb))) (hs : PlainIx b) : PE X (.Subscript a b pos) (tE c own own2 false .sh (ev Γ (.prim .idx [ta, tb]))) := imE (pe_ix x_idx ha hb hs) fun σ H Q ⟨s, G, r, q⟩ => by
  simp only [ev_prim, evs_cons, evs_nil, Post.bind, Post.ok] at q
  refine ⟨s, G, r, q.mono fun d1 s1 q v1 H1 G1 r1 t1 rp1 => ⟨s1, G1, r1, (q.move t1).mono fun d2 s2 q v2 H2 G2 r2 t2 rp2 => ?_⟩⟩
  obtain ⟨d, hp, q⟩ := q.opt2
  rw [← hK]
  exact ⟨_, _, _, _, _, _, r2.sto, r1.repT t2 rp1, rp2, hp, r2.out (mu := false) fun v H' G' r' t' rp => q v H' G' r' ((t1.trans t2).trans t') rp⟩
theorem cut_of {st : Sto} {lo hi : Bool} {d1 d : D} {r : List D} (h : prim st (.cut lo hi) (d1 :: r) = some d) : ∃ q, cutD lo hi r = some q ∧ cutR q.1 q.2 d1 = some d := by
  cases d1 <;> first | exact nomatch (show (none : Option D) = some d from h) | skip
  all_goals
    cases e : cutD lo hi r with
    | none => first | (have h : (cutD lo hi r).map (fun q => D.tup (cutL _ q.1 q.2)) = some d := h; rw [e] at h; cases h) | (have h : (cutD lo hi r).map (fun q => D.lst (cutL _ q.1 q.2)) = some d := h; rw [e] at h; cases h)
    | some q => first | (have h : (cutD lo hi r).map (fun q => D.tup (cutL _ q.1 q.2)) = some d := h; rw [e] at h; cases h; exact ⟨q, rfl, rfl⟩) | (have h : (cutD lo hi r).map (fun q => D.lst (cutL _ q.1 q.2)) = some d := h; rw [e] at h; cases h; exact ⟨q, rfl, rfl⟩)
theorem cutD1 {lo hi : Bool} {d2 : D} {q : Option Int × Option Int} (h : cutD lo hi [d2] = some q) : ∃ i, d2 = .int i ∧ ((lo = true ∧ hi = false ∧ q = (some i, none)) ∨ (lo = false ∧ hi = true ∧ q = (none, some i))) := by
  cases d2 <;> first | (cases lo <;> cases hi <;> cases h; done) | skip
  rename_i i
  cases lo <;> cases hi <;> cases h
  · exact ⟨i, rfl, .inr ⟨rfl, rfl, rfl⟩⟩
  · exact ⟨i, rfl, .inl ⟨rfl, rfl, rfl⟩⟩
theorem cutD2 {lo hi : Bool} {d2 d3 : D} {q : Option Int × Option Int} (h : cutD lo hi [d2, d3] = some q) : ∃ i j, d2 = .int i ∧ d3 = .int j ∧ q = (some i, some j) := by
  cases d2 <;> cases d3 <;> first | (cases lo <;> cases hi <;> cases h; done) | skip
  rename_i i j
  cases lo <;> cases hi <;> cases h
  exact ⟨i, j, rfl, rfl, rfl⟩
theorem se_cutLo (hK : c.K = X.K) {p2 : Pos} (ha : PE X a (tE c own own1 false .pk (ev Γ ta))) (hb : PE X b (tE c own1 own2 false .pk (ev Γ tb))) : PE X (.Subscript a (.Slice (some b) none none p2) pos) (tE c own own2 false .sh (ev Γ (.prim (.cut true false) [ta, tb]))) := imE (pe_slice s_cut ha (po_some hb) po_none) fun σ H Q ⟨s, G, r, q⟩ => by
  simp only [ev_prim, evs_cons, evs_nil, Post.bind, Post.ok] at q
  refine ⟨s, G, r, q.mono fun d1 s1 q v1 H1 G1 r1 t1 rp1 => ⟨s1, G1, r1, (q.move t1).mono fun d2 s2 q v2 H2 G2 r2 t2 rp2 => ?_⟩⟩
  obtain ⟨d, hp, q2⟩ := q.opt2
  obtain ⟨k, e1, e2⟩ := cut_of hp
  obtain ⟨i, rfl, ⟨_, _, rfl⟩ | ⟨h, _⟩⟩ := cutD1 e1
  · rw [← hK]
    exact ⟨i, rp2, _, _, _, _, r1.repT t2 rp1, e2, r2.out (mu := false) fun v H' G' r' t' rp => q2 v H' G' r' ((t1.trans t2).trans t') rp⟩
  · cases h
theorem se_cutHi (hK : c.K = X.K) {p2 : Pos} (ha : PE X a (tE c own own1 false .pk (ev Γ ta))) (hb : PE X b (tE c own1 own2 false .pk (ev Γ tb))) : PE X (.Subscript a (.Slice none (some b) none p2) pos) (tE c own own2 false .sh (ev Γ (.prim (.cut false true) [ta, tb]))) := imE (pe_slice s_cut ha po_none (po_some hb)) fun σ H Q ⟨s, G, r, q⟩ => by
  simp only [ev_prim, evs_cons, evs_nil, Post.bind, Post.ok] at q
  refine ⟨s, G, r, q.mono fun d1 s1 q v1 H1 G1 r1 t1 rp1 => ⟨s1, G1, r1, (q.move t1).mono fun d2 s2 q v2 H2 G2 r2 t2 rp2 => ?_⟩⟩
  obtain ⟨d, hp, q2⟩ := q.opt2
  obtain ⟨k, e1, e2⟩ := cut_of hp
  obtain ⟨i, rfl, ⟨h, _⟩ | ⟨_, _, rfl⟩⟩ := cutD1 e1
  · cases h
  · rw [← hK]
    exact ⟨i, rp2, _, _, _, _, r1.repT t2 rp1, e2, r2.out (mu := false) fun v H' G' r' t' rp => q2 v H' G' r' ((t1.trans t2).trans t') rp⟩
theorem se_cut2 (hK : c.K = X.K) {p2 : Pos} {e3 : Expr} (ha : PE X a (tE c own own1 false .pk (ev Γ ta))) (hb : PE X b (tE c own1 own2 false .pk (ev Γ tb))) (hc : PE X e3 (tE c own2 own3 false .pk (ev Γ tc))) :
    PE X (.Subscript a (.Slice (some b) (some e3) none p2) pos) (tE c own own3 false .sh (ev Γ (.cut2 ta tb tc))) := imE (pe_slice s_cut ha (po_some hb) (po_some hc)) fun σ H Q ⟨s, G, r, q⟩ => by
  simp only [ev_cut2, Post.bind, Post.ok] at q
  refine ⟨s, G, r, q.mono fun d1 s1 q v1 H1 G1 r1 t1 rp1 => ⟨s1, G1, r1, (q.move t1).mono fun d2 s2 q v2 H2 G2 r2 t2 rp2 => ?_⟩⟩
  cases d2 <;> first | exact q.elim | skip
  rename_i i
  refine ⟨i, rp2, s2, G2, r2, ?_⟩
  have q : Post c own G σ H _ ((ev Γ tc s2).bind fun z s => Lb.opt s (prim s.st (.cut true true) [d1, .int i, z])) := q
  rw [Post.bind] at q
  refine (q.move (t1.trans t2)).mono fun d3 s3 q v3 H3 G3 r3 t3 rp3 => ?_
  obtain ⟨d, hp, q2⟩ := q.opt2
  obtain ⟨k, e1, e2⟩ := cut_of hp
  obtain ⟨i', j, h1, h2, h3⟩ := cutD2 e1
  cases h1
  subst h2 h3
  rw [← hK]
  exact ⟨j, rp3, _, _, _, _, r2.repT t3 (r1.repT t2 rp1), e2, r3.out (mu := false) fun v H' G' r' t' rp => q2 v H' G' r' (((t1.trans t2).trans t3).trans t') rp⟩
theorem se_rev (hK : c.K = X.K) {k : Nat} {p1 p2 p3 : Pos} (ha : PE X a (tE c own own1 false .pk (ev Γ ta))) : PE X (.Subscript a (.Slice none none (some (.UnaryOp .USub (.Constant (.int 1) k p1) p2)) p3) pos) (tE c own own1 false .sh (ev Γ (.prim .rev [ta]))) := imE (pe_revT ha) fun σ H Q ⟨s, G, r, q⟩ => by
  simp only [ev_prim, evs_cons, evs_nil, Post.bind, Post.ok] at q
  refine ⟨s, G, r, q.mono fun d1 s1 q v1 H1 G1 r1 t1 rp1 => ?_⟩
  obtain ⟨d, hp, q⟩ := q.opt2
  cases d1 <;> first | exact nomatch (show (none : Option D) = some d from hp) | skip
  rename_i ds
  cases hp
  obtain ⟨x, vs, rfl, h1, h2, h3⟩ := tupE (show RepT c.K H1 G1.Z G1.μ (.tup ds) v1 from rp1)
  rw [← hK]
  refine ⟨x, vs, rfl, h1, fun p hp => ?_⟩
  have o := r1.out (mu := false) (d := .tup ds.reverse) (Q := fun v H' => Q v H') fun v H' G' r' t' rp => q v H' G' r' (t1.trans t') rp
  exact o.tup (by rw [List.length_reverse]; exact h2) h3.reverse p hp
/-! ### methods -/
theorem mkC {K : PySem.W.Frag} {H : Hp} {Z : Zs} {μ : List Addr} {d : D} {v : V} {ds : List D} {vs : List V} (h : RepT K H Z μ d v) (h' : RepTs K H Z μ ds vs) : RepTs K H Z μ (d :: ds) (v :: vs) := ⟨v, vs, rfl, h, h'⟩
theorem lst_ty {K : PySem.W.Frag} {H : Hp} {Z : Zs} {μ : List Addr} {ds : List D} {v : V} (h : RepT K H Z μ (.lst ds) v) : tyV K "list" v H := by
  obtain ⟨a, vs, rfl, h1, _⟩ := lstE h
  exact .inl ⟨rfl, vs, SqL.of' h1⟩
/-- xs.count(e): that the receiver is a list is asked ahead of the argument -/
theorem se_cnt (hK : c.K = X.K) (hu : X.A.units + 64 < cLine) {apos cpos : Pos} (ha : PE X a (tE c own own1 false .pk (ev Γ ta))) (hb : PA X [b] (tAs c own1 own2 false true (evs Γ [tb])))
    (hbase : attributeBase a "count" X.env (eval a X.env) = eval a X.env)
    (hfew : ((backTo cpos (starEach [b] X.env)).all (fun x => !x.1) && (backToKw cpos (keywordEach [] X.env)).all (fun x => x.1.isSome) && decide ([b].length + ([] : List Keyword).length + (if ([] : List Keyword).isEmpty then 0 else 1) < 30)) = true)
    (hline : (apos.endLine == cpos.line) = true) (hs : starEach [b] X.env = (false, eval b X.env) :: starEach [] X.env) :
    PE X (.Call (.Attribute a "count" apos) [b] [] cpos) (tE c own own2 false .sh (ev Γ (.meth .cnt ta [tb]))) := imE (pe_bm PySem.F.plainAttrs_list PySem.F.slot_list_count PySem.F.type_list_count (m_cnt hu) ha hb hbase hfew hline hs) fun σ H Q ⟨s, G, r, q⟩ => by
  simp only [ev_meth, Post.bind, Post.ok] at q
  refine ⟨s, G, r, q.mono fun d1 s1 q v1 H1 G1 r1 t1 rp1 => ?_⟩
  cases d1 <;> first | exact q.elim | skip
  rename_i ds
  have q : Post c own G σ H _ ((evs Γ [tb] s1).bind fun es s => Lb.opt s (prim s.st .cnt (.lst ds :: es))) := q
  rw [Post.bind] at q
  refine ⟨by rw [← hK]; exact lst_ty (show RepT c.K H1 G1.Z G1.μ (.lst ds) v1 from rp1), s1, G1, r1, (q.move t1).mono fun d2 s2 q v2 H2 G2 r2 t2 rp2 => ?_⟩
  obtain ⟨d, hp, q⟩ := q.opt2
  rw [← hK]
  have rp2 : RepTs c.K H2 G2.Z G2.μ d2 v2 := rp2
  exact ⟨_, _, _, _, _, r2.sto, mkC (r1.repT (d := .lst ds) t2 rp1) rp2, hp, r2.out (mu := false) fun v H' G' r' t' rp => q v H' G' r' ((t1.trans t2).trans t') rp⟩
end
end Lb

set_option maxRecDepth 100000
set_option maxHeartbeats 1000000
/-! what is walked -/
namespace Lb
open PySem PySem.Spec PyProof.Rows L2
open AutoSeq1 (wpAny_loadPart')
/-! ### enumerate(tuple) -/
theorem meets_enumerate_newT (l : Addr) (items : Array Value) (n : Nat) (dct : Option Addr) (sl : Array (Option Value)) :
    Meets (Builtin.«enumerate.__new__» ⟨[.type "enumerate", .ref l], []⟩) (fun _ R s => s.heap.get? l = some { cls := .type "tuple", dict := dct, data := .seq items n, slots := sl } ∧
      R (.ok (.ret (.ref (s.heap.push { cls := .type "tuple_iterator", data := .fields #[.ref l, .int 0 0] }).objs.size)))
        { s with heap := (s.heap.push { cls := .type "tuple_iterator", data := .fields #[.ref l, .int 0 0] }).push { cls := .type "enumerate", data := .fields #[.none, .bool false, .ref s.heap.objs.size, rawInt 0, .none, .none] } }) :=
  .of_wp fun prog w A R s h => by
    obtain ⟨hp, g, d, tk, os⟩ := s; obtain ⟨hl, h⟩ := h
    have hsub := sub_enumerate
    have hL : Heap.IsTuple (Shared.heap ⟨hp, g, d, tk, os⟩) l items := ⟨_, hl, rfl, n, rfl⟩
    wp_walk using wpAny_loadPart' hl
    refine wpAny_stack_any fun st => wpAny_pure ?_
    split
    · rename_i c _ _ _ _ _
      cases (c == Value.type "enumerate")
      · wp_walk using wpAny_loadPart' hl, wpAny_pyIter_tuple hL
        exact ⟨_, rfl, h⟩
      · wp_walk using wpAny_loadPart' hl, wpAny_pyIter_tuple hL
        exact ⟨_, rfl, h⟩
    · wp_walk using wpAny_loadPart' hl, wpAny_pyIter_tuple hL
      exact ⟨_, rfl, h⟩
theorem call_enumerate_tuple {prog : Program} {w : World} {A : Around} {E : Value → Shared → Prop} {s : Shared} {l : Addr} {items : Array Value} {Q : Value → Shared → Prop} (hL : s.heap.IsTuple l items)
    (h : ∀ h', IsEnum h' (s.heap.objs.size + 1) s.heap.objs.size 0 .none → h'.IsTupleIter s.heap.objs.size l 0 → h'.objs.size = s.heap.objs.size + 2 →
      (∀ b o, s.heap.get? b = some o → h'.get? b = some o) → Q (.ref (s.heap.objs.size + 1)) { s with heap := h' }) :
    wpAny (model prog w) A (call (.type "enumerate") [.ref l]) Q E s := by
  obtain ⟨⟨c, dct, dt, sl⟩, hl, hc, n, hd⟩ := hL
  replace hc : c = .type "tuple" := hc
  replace hd : dt = .seq items n := hd
  subst hc hd
  refine callType_new F.called_enumerate (by decide) (F.typeCall_enumerate_1 _) (F.newCall_enumerate_1 _) (fun obj => F.args_object_init_2 obj _) F.entry_enumerate_new
    (meets_enumerate_newT l items n dct sl) ⟨hl, ?_⟩
  have hz : (s.heap.push { cls := .type "tuple_iterator", data := .fields #[.ref l, .int 0 0] }).objs.size = s.heap.objs.size + 1 := Heap.size_push ..
  show _ ∧ _
  rw [hz]
  have he : IsEnum ((s.heap.push { cls := .type "tuple_iterator", data := .fields #[.ref l, .int 0 0] }).push
      { cls := .type "enumerate", data := .fields #[.none, .bool false, .ref s.heap.objs.size, rawInt 0, .none, .none] }) (s.heap.objs.size + 1) s.heap.objs.size 0 .none := by
    have := Heap.get?_push_size (s.heap.push { cls := .type "tuple_iterator", data := .fields #[.ref l, .int 0 0] })
      (o := { cls := .type "enumerate", data := .fields #[.none, .bool false, .ref s.heap.objs.size, rawInt 0, .none, .none] }) rfl
    rw [hz] at this; exact this
  refine ⟨⟨_, he, rfl⟩, h _ he ⟨_, Heap.get?_push_of_some _ (Heap.get?_push_size _ rfl), rfl, rfl⟩ (by rw [Heap.size_push, hz]) fun b o x => Heap.get?_push_of_some _ (Heap.get?_push_of_some _ x)⟩
/-- the tuple at a, each item in a new pair -/
def IteT (K : PySem.W.Frag) (a : Addr) : It :=
  ⟨fun i H => ∃ (xs : List V) (x : V), SqT K H a xs ∧ xs[i]? = some x, fun i H v H' => ∃ T x, v = .ref T ∧ H T = none ∧ H' = upd H T (.tup [.int (i : Nat), x]) ∧ ∀ xs, SqT K H a xs → xs[i]? = some x, fun i H => ∃ xs : List V, SqT K H a xs ∧ xs.length ≤ i⟩
theorem turn_enumT {P : Program} {w : World} {K : PySem.W.Frag} {elts : List Expr} {kk : Nat} {tpos : Pos} (a e it : Addr) :
    Turn P w K (.Tuple elts kk tpos) (IteT K a) [e, it] e (fun i h => (∃ old, IsEnum h e it ((i : Nat) : Int) old) ∧ h.IsTupleIter it a i ∧ e ≠ it) where
  mem := by simp
  obj := fun i h st b hb => by
    obtain ⟨⟨old, he⟩, ⟨o, ho, hc, hd⟩, _⟩ := st
    have e' : b = e ∨ b = it := by simpa using hb
    rcases e' with z | z
    · rw [z]; exact ⟨_, he, fun v q => nomatch q⟩
    · rw [z]; exact ⟨o, ho, fun v q => by rw [hd] at q; cases q⟩
  keep := fun i h h' st k => let ⟨⟨old, he⟩, hi, hne⟩ := st; ⟨⟨old, k e (by simp) _ he⟩, hi.at fun o q => k it (by simp) o q, hne⟩
  item := by
    intro X hP hw hK hc i pins s σ H E I hf st hg
    subst hP hw hK
    obtain ⟨⟨old, he⟩, hit, hne⟩ := st
    obtain ⟨xs, x, hq, hx⟩ := hg
    obtain ⟨its, rv, p, hz⟩ := I.tuple hq
    obtain ⟨u, hu, ru⟩ := rv.get hx
    have hel : e < s.heap.objs.size := Heap.lt_size he
    have hil : it < s.heap.objs.size := by obtain ⟨_, q, _⟩ := hit; exact Heap.lt_size q
    have nat : a ≠ it := by
      rintro rfl
      obtain ⟨o1, e1, c1, _⟩ := id hit
      obtain ⟨o2, e2, c2, _⟩ := id p
      rw [e1] at e2
      cases e2
      rw [c1] at c2
      exact absurd (Value.type.inj c2) (by decide)
    have nae : e ≠ a := by
      rintro rfl
      obtain ⟨o2, e2, c2, _⟩ := id p
      have he' : s.heap.get? e = some _ := he
      rw [he'] at e2
      cases e2
      exact absurd (Value.type.inj c2) (by decide)
    have hii : i < its.toArray.size := by
      have := (List.getElem?_eq_some_iff.mp hu).1
      rw [List.size_toArray]; exact this
    refine wpAny_pyNext_enum_itemD (Draws.tuple (A := X.A.in1) (I.ok.hd hc) it a nat its.toArray) he ⟨hit, p⟩ hii hne (by simp [hne, nae]) fun y h' tk hy ho hst' hT hsz hk => ?_
    have hyu : y = u := by
      have : its[i]? = some y := by simpa using hy
      rw [hu] at this
      exact (Option.some.inj this).symm
    subst hyu
    refine ⟨_, rfl, wpAny_letOwnedTupleGo_enum (s := { s with heap := h', toks := tk + 1 }) ho fun h'' he' sb => ?_⟩
    have hT2 : h''.get? s.heap.objs.size = some { cls := .type "tuple", data := .seq #[.int i tk, y] } := (sb.2 _ (Nat.ne_of_gt hel)).trans hT
    have new : ObjOk X.prog X.w (upd H s.heap.objs.size (.tup [.int (i : Nat), x])) h'' s.heap.objs.size (.tup [.int (i : Nat), x]) :=
      ⟨by show 2 ≤ sizeLine; decide, [.int i tk, y], .cons ⟨_, rfl⟩ (.cons ru .nil), ⟨_, hT2, rfl, _, rfl⟩⟩
    have I1 : Inv X pins σ (upd H s.heap.objs.size (.tup [.int (i : Nat), x])) { s with heap := h'', toks := tk + 1 } :=
      I.turnedNew (ch := [e, it]) (fun b ob hb q => (sb.2 b (fun z => hb (by simp [z]))).trans (hk b ob (fun z => hb (by simp [z])) (fun z => hb (by simp [z])) q)) hf (Nat.le_refl _) new
    refine ⟨.ref s.heap.objs.size, _, I1, rfl, ⟨_, x, rfl, I.hok.fresh (Nat.le_refl _), rfl, fun ys hy => by rw [I.tuple_inj hy hq]; exact hx⟩, ⟨⟨y, ?_⟩, hst'.1.at fun o q => (sb.2 it (Ne.symm hne)).trans q, hne⟩, fun b hb => ?_⟩
    · have e1 : ((i + 1 : Nat) : Int) = (i : Int) + 1 := by omega
      rw [e1]; exact he'
    · have hb' : b < s.heap.objs.size := by
        have e' : b = e ∨ b = it := by simpa using hb
        rcases e' with z | z
        · rw [z]; exact hel
        · rw [z]; exact hil
      rw [upd_ne (Nat.ne_of_lt hb')]
      exact (hf b hb).1
  done := by
    intro X hP hw hK hc i pins s σ H E I hf st hg
    subst hP hw hK
    obtain ⟨⟨old, he⟩, hit, hne⟩ := st
    obtain ⟨xs, hq, hx⟩ := hg
    obtain ⟨its, rv, p, hz⟩ := I.tuple hq
    obtain ⟨f0, f1, f2, f3, f4, f5⟩ := hf it (by simp)
    have hl := rv.length
    have hT : s.TypeIs (.ref e) "enumerate" := ⟨_, he, rfl⟩
    unfold pyNext
    refine wpAny_bind (wpAny_attempt (wpAny_callSpecial?_slot (name := Str.ofString "__next__") hT F.slot_enumerate_next
      (wpAny_call_entry F.slot_enumerate_next hT F.entry_enumerate_next ?_ (F.args_enumerate_next_1 _))))
    show wpAny _ _ (field (.ref e) 2 >>= _) _ _ _
    refine wpAny_bind (wpAny_field he rfl (x := .ref it) rfl ?_)
    refine wpAny_bind (wpAny_nextOf_tuple_end (I.ok.hd hc) hit (show s.heap.IsTuple a its.toArray from p) (by simp; omega) fun h' x he' hx' => ?_)
    obtain ⟨o, ho, hc'⟩ := hx'
    refine wpAny_bind (wpAny_isInstance (T := "StopIteration") (b := true) ⟨o, ho, hc'⟩ isSubtype_stop ?_)
    exact wpAny_pure ⟨rfl, I.turned (t' := s.toks) (fun b o hb q => he' b o hb q) f0 f1 f3 f4 f5⟩
  self := fun A i s Q E st h => let ⟨⟨_, he⟩, _⟩ := st; wpAny_pyIter_enum he h
end Lb

set_option maxRecDepth 100000
set_option maxHeartbeats 1000000
namespace Lb
open PySem PySem.Spec PyProof.Rows L2
/-- J walks xs, however the heap grows -/
def Wk (K : PySem.W.Frag) (G : Gh) (H : Hp) (xs : List D) (J : It) : Prop := ∀ H2 Z2 μ2, (∀ p, G.Z p → Z2 p) → (∀ p u, G.Z p → Rd H p u → Rd H2 p u) → (∀ (n : Nat) a, G.μ[n]? = some a → μ2[n]? = some a) →
  (∀ i, i < xs.length → J.go i H2) ∧ J.stop xs.length H2 ∧ ∀ i d x H3, xs[i]? = some d → J.yld i H2 x H3 → ∃ Z3, Grow H2 H3 Z2 Z3 μ2 ∧ Rep K H3 Z3 μ2 d x
def tI (c : Cfg) (own own' : List Nat) (m : S → R S (List D)) : TI := fun σ H R => ∃ s G, Rel c.K own s G σ H ∧
  Post c own G σ H (fun xs s' => ∀ J H' G', Rel c.K own' s' G' σ H' → Stp own own' false G H G' H' → Wk c.K G' H' xs J → R J H') (m s)
/-- the items of what is walked -/
def evI (Γ : List Fn) (k : IK) (as : List T) : S → R S (List D) := fun s => (evs Γ as s).bind fun ds s => opt s (items k ds)
theorem imI {X : Cx} {tg iter : Expr} {t t' : TI} (h : PI X tg iter t) (f : ∀ σ H R, t' σ H R → t σ H R) : PI X tg iter t' := ⟨fun pins s σ H R I q => h.run pins s σ H R I (f σ H R q)⟩
section
variable {K : PySem.W.Frag} {G : Gh} {H : Hp}
theorem wk_list {a : Addr} {vs : List V} {ds : List D} (z : G.Z a) (h : Rd H a (.lst vs)) (r : Reps K H G.Z G.μ ds vs) : Wk K G H ds (Itl K a) := fun H2 Z2 μ2 hz hr hm => by
  have q : SqL K H2 a vs := .inl (hr a _ z h)
  have r2 := Reps.mono (K := K) hz hr hm _ _ r
  refine ⟨fun i hi => ?_, ⟨vs, q, by rw [r.length]; exact Nat.le_refl _⟩, fun i d x H3 hd y => ?_⟩
  · have hi' : i < vs.length := by rw [r.length]; exact hi
    exact ⟨vs, vs[i], q, by simp [hi']⟩
  · obtain ⟨rfl, y⟩ := y
    obtain ⟨d', e1, e2⟩ := r2.get (y vs q)
    rw [hd] at e1; cases e1
    exact ⟨Z2, Grow.refl, e2⟩
theorem wk_tup {a : Addr} {vs : List V} {ds : List D} (h : (G.Z a ∧ Rd H a (.tup vs)) ∨ KTup K a vs) (r : Reps K H G.Z G.μ ds vs) : Wk K G H ds (Itt K a) := fun H2 Z2 μ2 hz hr hm => by
  have q : SqT K H2 a vs := h.imp (fun z => hr a _ z.1 z.2) id
  have r2 := Reps.mono (K := K) hz hr hm _ _ r
  refine ⟨fun i hi => ?_, ⟨vs, q, by rw [r.length]; exact Nat.le_refl _⟩, fun i d x H3 hd y => ?_⟩
  · have hi' : i < vs.length := by rw [r.length]; exact hi
    exact ⟨vs, vs[i], q, by simp [hi']⟩
  · obtain ⟨rfl, y⟩ := y
    obtain ⟨d', e1, e2⟩ := r2.get (y vs q)
    rw [hd] at e1; cases e1
    exact ⟨Z2, Grow.refl, e2⟩
theorem rangeD_len : ∀ (n : Nat) (lo : Int), (rangeD lo n).length = n
  | 0, _ => rfl
  | n + 1, lo => by rw [rangeD, List.length_cons, rangeD_len n]
theorem rangeD_get : ∀ (n : Nat) (lo : Int) (i : Nat), i < n → (rangeD lo n)[i]? = some (.int (lo + i))
  | 0, _, _, h => absurd h (Nat.not_lt_zero _)
  | n + 1, lo, 0, _ => by simp [rangeD]
  | n + 1, lo, i + 1, h => by
    rw [rangeD, List.getElem?_cons_succ, rangeD_get n (lo + 1) i (by omega)]
    congr 2
    omega
theorem wk_range {lo : Int} {n : Nat} : Wk K G H (rangeD lo n) (Itr lo n) := fun H2 Z2 μ2 hz hr hm => by
  rw [rangeD_len]
  refine ⟨fun i hi => hi, Nat.le_refl _, fun i d x H3 hd y => ?_⟩
  obtain ⟨rfl, rfl⟩ := y
  have hi : i < n := by
    have := (List.getElem?_eq_some_iff.mp hd).1
    rw [rangeD_len] at this; exact this
  rw [rangeD_get n lo i hi] at hd
  cases hd
  exact ⟨Z2, Grow.refl, rfl⟩
theorem enumL_len : ∀ (xs : List D) (k : Nat), (enumL k xs).length = xs.length
  | [], _ => rfl
  | x :: xs, k => by rw [enumL, List.length_cons, List.length_cons, enumL_len xs]
theorem enumL_get : ∀ (xs : List D) (k i : Nat) (d : D), (enumL k xs)[i]? = some d → ∃ x, xs[i]? = some x ∧ d = .tup [.int ((k + i : Nat) : Int), x]
  | [], _, _, _, h => by simp [enumL] at h
  | x :: xs, k, 0, d, h => by
    rw [enumL] at h
    cases h
    exact ⟨x, rfl, rfl⟩
  | x :: xs, k, i + 1, d, h => by
    rw [enumL, List.getElem?_cons_succ] at h
    obtain ⟨y, e1, e2⟩ := enumL_get xs (k + 1) i d h
    exact ⟨y, by simpa using e1, by rw [e2]; congr 2; congr 1; omega⟩
theorem pair_out {H2 : Hp} {Z2 : Zs} {μ2 : List Addr} {T : Addr} {d1 d2 : D} {x y : V} (hT : H2 T = none) (h1 : Rep K H2 Z2 μ2 d1 x) (h2 : Rep K H2 Z2 μ2 d2 y) : ∃ Z3, Grow H2 (upd H2 T (.tup [x, y])) Z2 Z3 μ2 ∧ Rep K (upd H2 T (.tup [x, y])) Z3 μ2 (.tup [d1, d2]) (.ref T) := by
  have o : Out K H2 Z2 μ2 (.tup [d1, d2]) (fun v H' => v = .ref T → H' = upd H2 T (.tup [x, y]) → ∃ Z3, Grow H2 (upd H2 T (.tup [x, y])) Z2 Z3 μ2 ∧ Rep K (upd H2 T (.tup [x, y])) Z3 μ2 (.tup [d1, d2]) (.ref T)) := by
    rintro v H' Z' g rp rfl rfl
    exact ⟨Z', g, rp⟩
  exact o.tup (vs := [x, y]) (by show 2 ≤ sizeLine; decide) ⟨x, [y], rfl, h1, y, [], rfl, h2, rfl⟩ T hT rfl rfl
theorem wk_enumL {a : Addr} {vs : List V} {ds : List D} (z : G.Z a) (h : Rd H a (.lst vs)) (r : Reps K H G.Z G.μ ds vs) : Wk K G H (enumL 0 ds) (Ite K a) := fun H2 Z2 μ2 hz hr hm => by
  have q : SqL K H2 a vs := .inl (hr a _ z h)
  have r2 := Reps.mono (K := K) hz hr hm _ _ r
  rw [enumL_len]
  refine ⟨fun i hi => ?_, ⟨vs, q, by rw [r.length]; exact Nat.le_refl _⟩, fun i d x H3 hd y => ?_⟩
  · have hi' : i < vs.length := by rw [r.length]; exact hi
    exact ⟨vs, vs[i], q, by simp [hi']⟩
  · obtain ⟨T, y, rfl, hT, rfl, hy⟩ := y
    obtain ⟨d', e1, rfl⟩ := enumL_get _ _ _ _ hd
    obtain ⟨d'', e3, e4⟩ := r2.get (hy vs q)
    rw [e1] at e3; cases e3
    exact pair_out hT (by rw [Nat.zero_add]; exact rfl) e4
theorem wk_enumT {a : Addr} {vs : List V} {ds : List D} (h : (G.Z a ∧ Rd H a (.tup vs)) ∨ KTup K a vs) (r : Reps K H G.Z G.μ ds vs) : Wk K G H (enumL 0 ds) (IteT K a) := fun H2 Z2 μ2 hz hr hm => by
  have q : SqT K H2 a vs := h.imp (fun z => hr a _ z.1 z.2) id
  have r2 := Reps.mono (K := K) hz hr hm _ _ r
  rw [enumL_len]
  refine ⟨fun i hi => ?_, ⟨vs, q, by rw [r.length]; exact Nat.le_refl _⟩, fun i d x H3 hd y => ?_⟩
  · have hi' : i < vs.length := by rw [r.length]; exact hi
    exact ⟨vs, vs[i], q, by simp [hi']⟩
  · obtain ⟨T, y, rfl, hT, rfl, hy⟩ := y
    obtain ⟨d', e1, rfl⟩ := enumL_get _ _ _ _ hd
    obtain ⟨d'', e3, e4⟩ := r2.get (hy vs q)
    rw [e1] at e3; cases e3
    exact pair_out hT (by rw [Nat.zero_add]; exact rfl) e4
theorem zipL_len : ∀ (xs ys : List D), (zipL xs ys).length = min xs.length ys.length
  | [], ys => by simp [zipL]
  | x :: xs, [] => by simp [zipL]
  | x :: xs, y :: ys => by rw [zipL, List.length_cons, zipL_len xs ys, List.length_cons, List.length_cons]; omega
theorem zipL_get : ∀ (xs ys : List D) (i : Nat) (d : D), (zipL xs ys)[i]? = some d → ∃ x y, xs[i]? = some x ∧ ys[i]? = some y ∧ d = .tup [x, y]
  | [], _, _, _, h => by simp [zipL] at h
  | x :: xs, [], _, _, h => by simp [zipL] at h
  | x :: xs, y :: ys, 0, d, h => by
    rw [zipL] at h
    cases h
    exact ⟨x, y, rfl, rfl, rfl⟩
  | x :: xs, y :: ys, i + 1, d, h => by
    rw [zipL, List.getElem?_cons_succ] at h
    simpa using zipL_get xs ys i d h
theorem wk_zipT {a b : Addr} {vs us : List V} {ds es : List D} (h : (G.Z a ∧ Rd H a (.tup vs)) ∨ KTup K a vs) (r : Reps K H G.Z G.μ ds vs) (h' : (G.Z b ∧ Rd H b (.tup us)) ∨ KTup K b us) (r' : Reps K H G.Z G.μ es us) : Wk K G H (zipL ds es) (RZ.ItzT K a b) := fun H2 Z2 μ2 hz hr hm => by
  have q : SqT K H2 a vs := h.imp (fun z => hr a _ z.1 z.2) id
  have q' : SqT K H2 b us := h'.imp (fun z => hr b _ z.1 z.2) id
  have r2 := Reps.mono (K := K) hz hr hm _ _ r
  have r2' := Reps.mono (K := K) hz hr hm _ _ r'
  have l1 := r.length
  have l2 := r'.length
  rw [zipL_len]
  refine ⟨fun i hi => ?_, ⟨vs, us, q, q', by omega⟩, fun i d x H3 hd y => ?_⟩
  · have hi' : i < vs.length := by omega
    have hi2 : i < us.length := by omega
    exact ⟨vs, us, vs[i], us[i], q, q', by simp [hi'], by simp [hi2]⟩
  · obtain ⟨T, x, y, rfl, hT, rfl, hx, hy⟩ := y
    obtain ⟨d1, d2, e1, e2, rfl⟩ := zipL_get _ _ _ _ hd
    obtain ⟨d', e3, e4⟩ := r2.get (hx vs q)
    rw [e1] at e3; cases e3
    obtain ⟨d'', e5, e6⟩ := r2'.get (hy us q')
    rw [e2] at e5; cases e5
    exact pair_out hT e4 e6
theorem wk_zipL {a b : Addr} {vs us : List V} {ds es : List D} (z : G.Z a) (h : Rd H a (.lst vs)) (r : Reps K H G.Z G.μ ds vs) (z' : G.Z b) (h' : Rd H b (.lst us)) (r' : Reps K H G.Z G.μ es us) : Wk K G H (zipL ds es) (Itz K a b) := fun H2 Z2 μ2 hz hr hm => by
  have q : SqL K H2 a vs := .inl (hr a _ z h)
  have q' : SqL K H2 b us := .inl (hr b _ z' h')
  have r2 := Reps.mono (K := K) hz hr hm _ _ r
  have r2' := Reps.mono (K := K) hz hr hm _ _ r'
  have l1 := r.length
  have l2 := r'.length
  rw [zipL_len]
  refine ⟨fun i hi => ?_, ⟨vs, us, q, q', by omega⟩, fun i d x H3 hd y => ?_⟩
  · have hi' : i < vs.length := by omega
    have hi2 : i < us.length := by omega
    exact ⟨vs, us, vs[i], us[i], q, q', by simp [hi'], by simp [hi2]⟩
  · obtain ⟨T, x, y, rfl, hT, rfl, hx, hy⟩ := y
    obtain ⟨d1, d2, e1, e2, rfl⟩ := zipL_get _ _ _ _ hd
    obtain ⟨d', e3, e4⟩ := r2.get (hx vs q)
    rw [e1] at e3; cases e3
    obtain ⟨d'', e5, e6⟩ := r2'.get (hy us q')
    rw [e2] at e5; cases e5
    exact pair_out hT e4 e6
end
section
variable {X : Cx} {c : Cfg} {Γ : List Fn} {own own1 own2 : List Nat} {tg e e2 : Expr} {ta tb : T} {as : List T} {p pos tpos : Pos} {elts : List Expr} {kk : Nat}
def iSeq (K : PySem.W.Frag) (tl : TE) : TI := fun σ H R => tl σ H fun x H1 => ∃ a xs, x = .ref a ∧ ((SqL K H1 a xs ∧ R (Itl K a) H1) ∨ (SqT K H1 a xs ∧ R (Itt K a) H1))
theorem pi_seq {l : Expr} {tl : TE} (hl : PE X l tl) : PI X tg l (iSeq X.K tl) := by
  refine ⟨fun pins s σ H R I h => ?_⟩
  refine thn (hl.run pins s σ H _ I h) fun v s1 ⟨x, H1, I1, r1, q1⟩ => ?_
  obtain ⟨a, xs, e, q | q⟩ := q1
  · obtain ⟨hq, q⟩ := q
    subst e
    cases r1
    obtain ⟨its, rv, p, hz⟩ := I1.list hq
    refine wpAny_pyIter_list p.isList ?_
    refine ⟨s1.heap.objs.size, [s1.heap.objs.size], _, _, H1, rfl, I1.kept (t' := s1.toks) fun b o e => Heap.get?_push_of_some _ e, turn_list a _, ⟨_, Heap.get?_push_size _ rfl, rfl, rfl⟩, fun b hb => ?_, q⟩
    have e : b = s1.heap.objs.size := by simpa using hb
    subst e
    exact I1.fpOk (Nat.le_refl _) (I1.hok.fresh (Nat.le_refl _))
  · obtain ⟨hq, q⟩ := q
    subst e
    cases r1
    obtain ⟨its, rv, p, hz⟩ := I1.tuple hq
    refine wpAny_pyIter_tuple (show s1.heap.IsTuple a its.toArray from p) ?_
    refine ⟨s1.heap.objs.size, [s1.heap.objs.size], _, _, H1, rfl, I1.kept (t' := s1.toks) fun b o e => Heap.get?_push_of_some _ e, turn_tuple a _, ⟨_, Heap.get?_push_size _ rfl, rfl, rfl⟩, fun b hb => ?_, q⟩
    have e : b = s1.heap.objs.size := by simpa using hb
    subst e
    exact I1.fpOk (Nat.le_refl _) (I1.hok.fresh (Nat.le_refl _))
theorem seqOf_some {d : D} {xs : List D} (h : seqOf d = some xs) : d = .lst xs ∨ d = .tup xs := by
  cases d <;> cases h
  · exact .inr rfl
  · exact .inl rfl
theorem si_seq (hK : c.K = X.K) (ha : PE X e (tE c own own1 false .sh (ev Γ ta))) : PI X tg e (tI c own own1 (evI Γ .seq [ta])) := imI (pi_seq ha) fun σ H R ⟨s, G, r, q⟩ => by
  simp only [evI, evs_cons, evs_nil, Post.bind, Post.ok] at q
  refine ⟨s, G, r, q.mono fun d s1 q v H1 G1 r1 t1 rp => ?_⟩
  obtain ⟨xs, hi, q⟩ := q.opt2
  replace rp : Rep c.K H1 G1.Z G1.μ d v := rp
  rw [← hK]
  rcases seqOf_some hi with rfl | rfl
  · obtain ⟨a, vs, rfl, h1, h2, h3⟩ := (show ∃ a vs, v = V.ref a ∧ (G1.Z a ∧ Rd H1 a (.lst vs)) ∧ vs.length ≤ sizeLine ∧ Reps c.K H1 G1.Z G1.μ xs vs from rp)
    exact ⟨a, vs, rfl, .inl ⟨SqL.of' h1.2, q _ H1 G1 r1 t1 (wk_list h1.1 h1.2 h3)⟩⟩
  · obtain ⟨a, vs, rfl, h1, h2, h3⟩ := (show ∃ a vs, v = V.ref a ∧ ((G1.Z a ∧ Rd H1 a (.tup vs)) ∨ KTup c.K a vs) ∧ vs.length ≤ sizeLine ∧ Reps c.K H1 G1.Z G1.μ xs vs from rp)
    exact ⟨a, vs, rfl, .inr ⟨SqT.of' h1, q _ H1 G1 r1 t1 (wk_tup h1 h3)⟩⟩
theorem small_of {i : Int} (h : small i = true) : -(2 ^ 62) ≤ i ∧ i < 2 ^ 62 := by
  have h1 : i.natAbs ≤ 4000000000000000000 := Nat.le_of_ble_eq_true h
  have e : (2 : Int) ^ 62 = 4611686018427387904 := by decide
  rw [e]
  omega
theorem si_rng1 (hg : Gl X "range") (hm : X.mg "range" = none) (ha : PA X [e] (tAs c own own1 false true (evs Γ [ta]))) (hs : starEach [e] X.env = [(false, eval e X.env)]) : PI X tg (.Call (.Name "range" p) [e] [] pos) (tI c own own1 (evI Γ .rng1 [ta])) := imI (pi_range1 hg hm ha hs) fun σ H R ⟨s, G, r, q⟩ => by
  simp only [evI, Post.bind] at q
  refine ⟨s, G, r, q.evs.mono fun ds s1 q vs H1 G1 r1 t1 rp => ?_⟩
  obtain ⟨ql, q⟩ := q
  obtain ⟨xs, hi, q⟩ := q.opt2
  replace rp : RepTs c.K H1 G1.Z G1.μ ds vs := rp
  obtain ⟨d, rfl⟩ : ∃ d, ds = [d] := by
    match ds, ql with
    | [d], _ => exact ⟨d, rfl⟩
  obtain ⟨x, rfl, h1⟩ := repTs1 rp
  clear rp
  cases d <;> first | exact nomatch (show (none : Option (List D)) = some xs from hi) | skip
  rename_i j
  replace hi : (if small j then some (rangeD 0 j.toNat) else none) = some xs := hi
  split at hi
  · rename_i hs
    cases hi
    cases (show x = .int j from h1)
    exact ⟨j, rfl, (small_of hs).1, (small_of hs).2, q _ H1 G1 r1 t1 wk_range⟩
  · cases hi
theorem si_rng2 (hg : Gl X "range") (hm : X.mg "range" = none) (ha : PA X [e, e2] (tAs c own own1 false true (evs Γ [ta, tb]))) (hs : starEach [e, e2] X.env = [(false, eval e X.env), (false, eval e2 X.env)]) (hs2 : starEach [e2] X.env = [(false, eval e2 X.env)]) :
    PI X tg (.Call (.Name "range" p) [e, e2] [] pos) (tI c own own1 (evI Γ .rng2 [ta, tb])) := imI (pi_range2 hg hm ha hs hs2) fun σ H R ⟨s, G, r, q⟩ => by
  simp only [evI, Post.bind] at q
  refine ⟨s, G, r, q.evs.mono fun ds s1 q vs H1 G1 r1 t1 rp => ?_⟩
  obtain ⟨ql, q⟩ := q
  obtain ⟨xs, hi, q⟩ := q.opt2
  replace rp : RepTs c.K H1 G1.Z G1.μ ds vs := rp
  obtain ⟨d1, d2, rfl⟩ : ∃ d1 d2, ds = [d1, d2] := by
    match ds, ql with
    | [d1, d2], _ => exact ⟨d1, d2, rfl⟩
  obtain ⟨x, y, rfl, h1, h2⟩ := repTs2 rp
  clear rp
  cases d1 <;> cases d2 <;> first | exact nomatch (show (none : Option (List D)) = some xs from hi) | skip
  rename_i i j
  replace hi : (if small i && small j then some (rangeD i (j - i).toNat) else none) = some xs := hi
  split at hi
  · rename_i hs
    cases hi
    obtain ⟨s1', s2'⟩ := Bool.and_eq_true_iff.mp hs
    cases (show x = .int i from h1)
    cases (show y = .int j from h2)
    exact ⟨i, j, rfl, ⟨(small_of s1').1, (small_of s1').2, (small_of s2').1, (small_of s2').2⟩, q _ H1 G1 r1 t1 wk_range⟩
  · cases hi
def iEnumA (K : PySem.W.Frag) (ta : TA) : TI := fun σ H R => ta σ H fun vs H1 => ∃ a xs, vs = [.ref a] ∧ ((SqL K H1 a xs ∧ R (Ite K a) H1) ∨ (SqT K H1 a xs ∧ R (IteT K a) H1))
theorem pi_enumA {ta : TA} (hg : Gl X "enumerate") (hm : X.mg "enumerate" = none) (ha : PA X [e] ta) (hs : starEach [e] X.env = [(false, eval e X.env)]) :
    PI X (.Tuple elts kk tpos) (.Call (.Name "enumerate" p) [e] [] pos) (iEnumA X.K ta) := by
  refine ⟨fun pins s σ H R I h => ?_⟩
  refine Call_ (ld_blt I hg hm boot_enumerate (PyProof.Rows.callWith_type1 (thn (ha.run pos pins s σ H _ I h) fun us s1 ⟨vs, H1, I1, r1, q1⟩ => ?_) hs rfl))
  obtain ⟨a, xs, ex, q⟩ := q1
  subst ex
  cases r1 with
  | cons r rr =>
    cases rr
    cases r
    have fin : ∀ b, b ∈ [s1.heap.objs.size + 1, s1.heap.objs.size] → FpOk X pins H1 b := fun b hb => by
      have e' : b = s1.heap.objs.size + 1 ∨ b = s1.heap.objs.size := by simpa using hb
      have hle : s1.heap.objs.size ≤ b := by
        rcases e' with z | z
        · rw [z]; exact Nat.le_add_right _ _
        · rw [z]; exact Nat.le_refl _
      exact I1.fpOk hle (I1.hok.fresh hle)
    rcases q with ⟨hq, q⟩ | ⟨hq, q⟩
    · obtain ⟨its, rv, p', hz⟩ := I1.list hq
      refine call_enumerate_list p'.isList fun h' he hit hsz hk => wpAny_pyIter_enum he ?_
      have I2 : Inv X pins σ H1 { s1 with heap := h' } := I1.kept (t' := s1.toks) hk
      exact ⟨s1.heap.objs.size + 1, [s1.heap.objs.size + 1, s1.heap.objs.size], _, _, H1, rfl, I2, turn_enum a (s1.heap.objs.size + 1) s1.heap.objs.size, ⟨⟨.none, he⟩, hit, Nat.succ_ne_self _⟩, fin, q⟩
    · obtain ⟨its, rv, p', hz⟩ := I1.tuple hq
      refine call_enumerate_tuple (show s1.heap.IsTuple a its.toArray from p') fun h' he hit hsz hk => wpAny_pyIter_enum he ?_
      have I2 : Inv X pins σ H1 { s1 with heap := h' } := I1.kept (t' := s1.toks) hk
      exact ⟨s1.heap.objs.size + 1, [s1.heap.objs.size + 1, s1.heap.objs.size], _, _, H1, rfl, I2, turn_enumT a (s1.heap.objs.size + 1) s1.heap.objs.size, ⟨⟨.none, he⟩, hit, Nat.succ_ne_self _⟩, fin, q⟩
theorem si_enum (hK : c.K = X.K) (hg : Gl X "enumerate") (hm : X.mg "enumerate" = none) (ha : PA X [e] (tAs c own own1 false false (evs Γ [ta]))) (hs : starEach [e] X.env = [(false, eval e X.env)]) :
    PI X (.Tuple elts kk tpos) (.Call (.Name "enumerate" p) [e] [] pos) (tI c own own1 (evI Γ .enum [ta])) := imI (pi_enumA hg hm ha hs) fun σ H R ⟨s, G, r, q⟩ => by
  simp only [evI, Post.bind] at q
  refine ⟨s, G, r, q.evs.mono fun ds s1 q vs H1 G1 r1 t1 rp => ?_⟩
  obtain ⟨ql, q⟩ := q
  obtain ⟨xs, hi, q⟩ := q.opt2
  replace rp : Reps c.K H1 G1.Z G1.μ ds vs := rp
  obtain ⟨d, rfl⟩ : ∃ d, ds = [d] := by
    match ds, ql with
    | [d], _ => exact ⟨d, rfl⟩
  obtain ⟨v, vr, rfl, h1, h2⟩ := (show ∃ v r, vs = v :: r ∧ Rep c.K H1 G1.Z G1.μ d v ∧ Reps c.K H1 G1.Z G1.μ [] r from rp)
  cases (show vr = [] from h2)
  have hi : (seqOf d).map (enumL 0) = some xs := hi
  cases es : seqOf d with
  | none => rw [es] at hi; cases hi
  | some ys =>
    rw [es] at hi; cases hi
    rw [← hK]
    rcases seqOf_some es with rfl | rfl
    · obtain ⟨a, us, rfl, h1, h2, h3⟩ := (show ∃ a vs, v = V.ref a ∧ (G1.Z a ∧ Rd H1 a (.lst vs)) ∧ vs.length ≤ sizeLine ∧ Reps c.K H1 G1.Z G1.μ ys vs from h1)
      exact ⟨a, us, rfl, .inl ⟨SqL.of' h1.2, q _ H1 G1 r1 t1 (wk_enumL h1.1 h1.2 h3)⟩⟩
    · obtain ⟨a, us, rfl, h1, h2, h3⟩ := (show ∃ a vs, v = V.ref a ∧ ((G1.Z a ∧ Rd H1 a (.tup vs)) ∨ KTup c.K a vs) ∧ vs.length ≤ sizeLine ∧ Reps c.K H1 G1.Z G1.μ ys vs from h1)
      exact ⟨a, us, rfl, .inr ⟨SqT.of' h1, q _ H1 G1 r1 t1 (wk_enumT h1 h3)⟩⟩
theorem si_zip (hK : c.K = X.K) (hg : Gl X "zip") (hm : X.mg "zip" = none) (ha : PA X [e, e2] (tAs c own own1 false false (evs Γ [ta, tb]))) (hs : starEach [e, e2] X.env = (false, eval e X.env) :: starEach [e2] X.env) (hpl : (backTo pos (starEach [e2] X.env)).any (·.1) = false) :
    PI X (.Tuple elts kk tpos) (.Call (.Name "zip" p) [e, e2] [] pos) (tI c own own1 (evI Γ .zip [ta, tb])) := imI (RZ.pi_zipA hg hm ha hs hpl) fun σ H R ⟨s, G, r, q⟩ => by
  simp only [evI, Post.bind] at q
  refine ⟨s, G, r, q.evs.mono fun ds s1 q vs H1 G1 r1 t1 rp => ?_⟩
  obtain ⟨ql, q⟩ := q
  obtain ⟨xs, hi, q⟩ := q.opt2
  replace rp : Reps c.K H1 G1.Z G1.μ ds vs := rp
  obtain ⟨d1, d2, rfl⟩ : ∃ d1 d2, ds = [d1, d2] := by
    match ds, ql with
    | [d1, d2], _ => exact ⟨d1, d2, rfl⟩
  obtain ⟨v, vr, rfl, h1, h2⟩ := (show ∃ v r, vs = v :: r ∧ Rep c.K H1 G1.Z G1.μ d1 v ∧ Reps c.K H1 G1.Z G1.μ [d2] r from rp)
  obtain ⟨u, ur, rfl, h3, h4⟩ := (show ∃ v r, vr = v :: r ∧ Rep c.K H1 G1.Z G1.μ d2 v ∧ Reps c.K H1 G1.Z G1.μ [] r from h2)
  cases (show ur = [] from h4)
  clear rp h2 h4
  rw [← hK]
  cases d1 <;> cases d2 <;> first | exact nomatch (show (none : Option (List D)) = some xs from hi) | skip
  case tup.tup ys zs =>
    cases hi
    obtain ⟨a, us, rfl, k1, k2, k3⟩ := (show ∃ a vs, v = V.ref a ∧ ((G1.Z a ∧ Rd H1 a (.tup vs)) ∨ KTup c.K a vs) ∧ vs.length ≤ sizeLine ∧ Reps c.K H1 G1.Z G1.μ ys vs from h1)
    obtain ⟨b, ws, rfl, l1, l2, l3⟩ := (show ∃ a vs, u = V.ref a ∧ ((G1.Z a ∧ Rd H1 a (.tup vs)) ∨ KTup c.K a vs) ∧ vs.length ≤ sizeLine ∧ Reps c.K H1 G1.Z G1.μ zs vs from h3)
    exact ⟨a, b, us, ws, rfl, .inr ⟨SqT.of' k1, SqT.of' l1, q _ H1 G1 r1 t1 (wk_zipT k1 k3 l1 l3)⟩⟩
  case lst.lst ys zs =>
    cases hi
    obtain ⟨a, us, rfl, k1, k2, k3⟩ := (show ∃ a vs, v = V.ref a ∧ (G1.Z a ∧ Rd H1 a (.lst vs)) ∧ vs.length ≤ sizeLine ∧ Reps c.K H1 G1.Z G1.μ ys vs from h1)
    obtain ⟨b, ws, rfl, l1, l2, l3⟩ := (show ∃ a vs, u = V.ref a ∧ (G1.Z a ∧ Rd H1 a (.lst vs)) ∧ vs.length ≤ sizeLine ∧ Reps c.K H1 G1.Z G1.μ zs vs from h3)
    exact ⟨a, b, us, ws, rfl, .inl ⟨SqL.of' k1.2, SqL.of' l1.2, q _ H1 G1 r1 t1 (wk_zipL k1.1 k1.2 k3 l1.1 l1.2 l3)⟩⟩
end
end Lb

set_option maxRecDepth 100000
set_option maxHeartbeats 1000000
namespace Lb
open PySem PySem.Spec PyProof.Rows L2
/-! ### slots are set -/
section
variable {K : PySem.W.Frag} {own own' : List Nat} {s : S} {G : Gh} {σ : L2.St} {H : Hp} {mu : Bool}
theorem mem_drop1 {i j : Nat} : j ∈ drop1 own i ↔ j ∈ own ∧ j ≠ i := by
  unfold drop1
  rw [List.mem_filter]
  simp
/-- fewer own slots; those left out hold nothing of their own any more (they are about to be set) -/
theorem Rel.setSh {i : Nat} {d : D} {v : V} (r : Rel K own s G σ H) (h : Rep K H G.Z G.μ d v) : Rel K (drop1 own i) (setV i d s) G (σ.set i (some v)) H := by
  refine ⟨by simp [setV, r.len], fun j e hj => ?_, r.zl, fun j hj => r.oz j (mem_drop1.mp hj).1, fun j hj k hk => r.inj j (mem_drop1.mp hj).1 k (mem_drop1.mp hk).1, r.sto, r.mz, r.mnd⟩
  simp only [setV] at hj
  by_cases hji : j = i
  · subst hji
    have hl : j < s.env.length := by
      have := (List.getElem?_eq_some_iff.mp hj).1
      rw [List.length_set] at this; exact this
    rw [List.getElem?_set_self hl] at hj
    cases hj
    refine ⟨v, ?_, fun z => absurd rfl (mem_drop1.mp z).2, fun _ => h⟩
    rw [List.getElem?_set_self (by rw [← r.len]; exact hl)]
  · rw [List.getElem?_set_ne (fun z => hji z.symm)] at hj
    obtain ⟨u, e1, e2, e3⟩ := r.slot j e hj
    refine ⟨u, by rw [List.getElem?_set_ne (fun z => hji z.symm)]; exact e1, fun z => e2 (mem_drop1.mp z).1, fun z => e3 fun q => z (mem_drop1.mpr ⟨q, hji⟩)⟩
mutual
def slotsT : Tg → List Nat
  | .name i => [i]
  | .tup ts => slotsTs ts
def slotsTs : List Tg → List Nat
  | [] => []
  | t :: ts => slotsT t ++ slotsTs ts
end
def offT (own : List Nat) (vs : List Nat) : List Nat := own.filter fun j => !vs.contains j
theorem mem_offT {vs : List Nat} {j : Nat} : j ∈ offT own vs ↔ j ∈ own ∧ j ∉ vs := by
  unfold offT
  rw [List.mem_filter]
  simp
theorem offT_one (i : Nat) : offT own [i] = drop1 own i := by
  unfold offT drop1
  congr 1
  funext j
  by_cases h : j = i <;> simp [h]
theorem offT_app (vs us : List Nat) : offT own (vs ++ us) = offT (offT own vs) us := by
  unfold offT
  rw [List.filter_filter]
  congr 1
  funext j
  simp only [List.contains_eq_mem, List.mem_append, Bool.decide_or]
  cases decide (j ∈ vs) <;> cases decide (j ∈ us) <;> rfl
/-- what differs at vs alone -/
def But (vs : List Nat) (σ σ' : L2.St) : Prop := σ'.length = σ.length ∧ ∀ j, j ∉ vs → σ'[j]? = σ[j]?
theorem But.refl {vs : List Nat} : But vs σ σ := ⟨rfl, fun _ _ => rfl⟩
theorem But.trans {vs us : List Nat} {σ1 σ2 : L2.St} (a : But vs σ σ1) (b : But us σ1 σ2) : But (vs ++ us) σ σ2 :=
  ⟨b.1.trans a.1, fun j hj => (b.2 j fun z => hj (List.mem_append_right _ z)).trans (a.2 j fun z => hj (List.mem_append_left _ z))⟩
end
def tG (c : Cfg) (own : List Nat) (tg : Tg) : TG := fun v σ H Q => ∃ d s G s', Rel c.K own s G σ H ∧ Rep c.K H G.Z G.μ d v ∧ setT tg d s = some s' ∧ ∀ σ', Rel c.K (offT own (slotsT tg)) s' G σ' H → But (slotsT tg) σ σ' → Q σ' H
def tGs (c : Cfg) (own : List Nat) (ts : List Tg) : TGs := fun vs σ H Q => ∃ ds s G s', Rel c.K own s G σ H ∧ Reps c.K H G.Z G.μ ds vs ∧ setTs ts ds s = some s' ∧ ∀ σ', Rel c.K (offT own (slotsTs ts)) s' G σ' H → But (slotsTs ts) σ σ' → Q σ' H
theorem imG {X : Cx} {e : Expr} {t t' : TG} (h : PG X e t) (f : ∀ v σ H Q, t' v σ H Q → t v σ H Q) : PG X e t' := ⟨fun pins s σ H v u Q I r q => h.run pins s σ H v u Q I r (f v σ H Q q)⟩
theorem imGs {X : Cx} {e : List Expr} {t t' : TGs} (h : PGs X e t) (f : ∀ v σ H Q, t' v σ H Q → t v σ H Q) : PGs X e t' := ⟨fun pins s σ H v u Q I r q => h.run pins s σ H v u Q I r (f v σ H Q q)⟩
section
variable {X : Cx} {c : Cfg} {own : List Nat} {pos : Pos}
theorem sg_name {i : Nat} {x : Str} (hN : X.N.Nodup) (hi : X.N[i]? = some x) (hx : Loc X.env.scope x) (hf : X.fn x = true ∨ X.env.scope.names.lookup x = some .local) : PG X (.Name x pos) (tG c own (.name i)) := imG (pg_name hN hi hx hf) fun v σ H Q ⟨d, s, G, s', r, rp, e, q⟩ => by
  cases e
  refine q _ ?_ ⟨List.length_set .., fun j hj => List.getElem?_set_ne fun z => hj (by rw [← z]; exact List.mem_singleton.mpr rfl)⟩
  show Rel c.K (offT own [i]) _ _ _ _
  rw [offT_one]
  exact r.setSh rp
theorem sgs_nil : PGs X [] (tGs c own []) := imGs pgs_nil fun vs σ H Q ⟨ds, s, G, s', r, rp, e, q⟩ => by
  cases ds with
  | nil =>
    cases e
    refine ⟨rp, q σ ?_ But.refl⟩
    have : offT own (slotsTs []) = own := by unfold offT slotsTs; simp
    rw [this]; exact r
  | cons => cases e
theorem sgs_cons {e : Expr} {es : List Expr} {t : Tg} {ts : List Tg} (h1 : PG X e (tG c own t)) (h2 : PGs X es (tGs c (offT own (slotsT t)) ts)) (hs : (assignEach (e :: es) X.env).map (·.2) = assign e X.env :: (assignEach es X.env).map (·.2)) :
    PGs X (e :: es) (tGs c own (t :: ts)) := imGs (pgs_cons h1 h2 hs) fun vs σ H Q ⟨ds, s, G, s', r, rp, e, q⟩ => by
  cases ds with
  | nil => cases e
  | cons d ds =>
    obtain ⟨v, vr, rfl, h3, h4⟩ := (show ∃ v r, vs = v :: r ∧ Rep c.K H G.Z G.μ d v ∧ Reps c.K H G.Z G.μ ds r from rp)
    have e : (setT t d s).bind (fun s => setTs ts ds s) = some s' := e
    cases e1 : setT t d s with
    | none => rw [e1] at e; cases e
    | some s1 =>
      rw [e1] at e
      refine ⟨v, vr, rfl, d, s, G, s1, r, h3, e1, fun σ1 r1 b1 => ⟨ds, s1, G, s', r1, h4, e, fun σ2 r2 b2 => q σ2 ?_ (b1.trans b2)⟩⟩
      show Rel c.K (offT own (slotsT t ++ slotsTs ts)) _ _ _ _
      rw [offT_app]
      exact r2
theorem setTs_len : ∀ (ts : List Tg) (ds : List D) (s s' : S), setTs ts ds s = some s' → ds.length = ts.length
  | [], [], _, _, _ => rfl
  | [], _ :: _, _, _, h => by cases h
  | _ :: _, [], _, _, h => by cases h
  | t :: ts, d :: ds, s, s', h => by
    have h : (setT t d s).bind (fun s => setTs ts ds s) = some s' := h
    cases e1 : setT t d s with
    | none => rw [e1] at h; cases h
    | some s1 =>
      rw [e1] at h
      rw [List.length_cons, List.length_cons, setTs_len ts ds s1 s' h]
theorem sg_tup (hK : c.K = X.K) {es : List Expr} {ts : List Tg} {k : Nat} (hc : X.calm = true) (h : PGs X es (tGs c own ts)) (hn : (assignEach es X.env).length = ts.length) (hst : (assignEach es X.env).findIdx? (·.1) = none) : PG X (.Tuple es k pos) (tG c own (.tup ts)) := imG (pg_tup hc h hn hst) fun v σ H Q ⟨d, s, G, s', r, rp, e, q⟩ => by
  cases d <;> first | exact nomatch (show (none : Option S) = some s' from e) | skip
  rename_i ds
  obtain ⟨a, vs, rfl, h1, h2, h3⟩ := (show ∃ a vs, v = V.ref a ∧ ((G.Z a ∧ Rd H a (.tup vs)) ∨ KTup c.K a vs) ∧ vs.length ≤ sizeLine ∧ Reps c.K H G.Z G.μ ds vs from rp)
  rw [← hK]
  exact ⟨a, vs, rfl, SqT.of' h1, by rw [h3.length]; exact setTs_len ts ds s s' e, ds, s, G, s', r, h3, e, q⟩
end
/-! ### own containers are changed -/
section
variable {K : PySem.W.Frag} {own : List Nat} {s : S} {G : Gh} {σ : L2.St} {H : Hp}
theorem Rel.setOwn {i : Nat} {a : Addr} {ds ds' : List D} {vs' : List V} (r : Rel K own s G σ H) (hi : i ∈ own) (e : s.env[i]? = some (some (.lst ds))) (ha : G.ad i = a) (hz : vs'.length ≤ sizeLine) (h : Reps K H G.Z G.μ ds' vs') :
    Rel K own (setV i (.lst ds') s) G σ (upd H a (.lst vs')) ∧ Stp own own true G H G (upd H a (.lst vs')) := by
  subst ha
  obtain ⟨oz1, oz2, oz3⟩ := r.oz i hi
  have hr : ∀ p u, G.Z p → Rd H p u → Rd (upd H (G.ad i) (.lst vs')) p u := fun p u z q => by
    have hp : p ≠ G.ad i := fun e => oz1 (by rw [← e]; exact z)
    rcases q with q | ⟨o, q⟩
    · exact .inl (by rw [upd_ne hp]; exact q)
    · exact .inr ⟨o, by rw [upd_ne hp]; exact q⟩
  have live : ∀ p o, H p = some o → ∃ o', (upd H (G.ad i) (.lst vs')) p = some o' := fun p o q => by
    by_cases hp : p = G.ad i
    · exact ⟨_, by rw [hp]; exact upd_same⟩
    · exact ⟨o, by rw [upd_ne hp]; exact q⟩
  have mm : ∀ (n : Nat) a, G.μ[n]? = some a → G.μ[n]? = some a := fun _ _ q => q
  refine ⟨⟨by simp [setV, r.len], fun j d hj => ?_, fun p z => ?_, fun j hj => ⟨(r.oz j hj).1, (r.oz j hj).2.1, ?_⟩, r.inj, ⟨r.sto.len, fun n xs q => ?_⟩, r.mz, r.mnd⟩, ⟨fun p o q _ ho => ?_, live, fun _ z => z, fun _ z => .inl z, rfl, ⟨[], by simp, fun _ q => by simp at q⟩, fun _ q => q⟩⟩
  · simp only [setV] at hj
    by_cases hji : j = i
    · subst hji
      have hl : j < s.env.length := by
        have := (List.getElem?_eq_some_iff.mp hj).1
        rw [List.length_set] at this; exact this
      rw [List.getElem?_set_self hl] at hj
      cases hj
      obtain ⟨v, e1, e2, _⟩ := r.slot j _ e
      obtain ⟨e3, _⟩ := (e2 hi).live
      refine ⟨v, e1, fun _ => ⟨e3, vs', upd_same, hz, Reps.mono (fun _ z => z) hr mm _ _ h⟩, fun z => absurd hi z⟩
    · rw [List.getElem?_set_ne (fun z => hji z.symm)] at hj
      obtain ⟨u, e1, e2, e3⟩ := r.slot j d hj
      refine ⟨u, e1, fun z => Own.mono (fun _ q => q) hr mm (fun o q => ?_) (e2 z), fun z => Rep.mono (fun _ q => q) hr mm _ _ (e3 z)⟩
      rw [upd_ne (fun q => hji (r.inj j z i hi q))]; exact q
  · obtain ⟨o, q⟩ := r.zl p z
    exact live p o q
  · obtain ⟨_, _, o, q⟩ := r.oz j hj
    exact live _ o q
  · obtain ⟨b, vs, e1, e2, e3, e4⟩ := r.sto.at_ n xs q
    refine ⟨b, vs, e1, ?_, e3, Reps.mono (fun _ q => q) hr mm _ _ e4⟩
    rw [upd_ne (fun z => oz2 (by rw [← z]; exact List.mem_of_getElem? e1))]; exact e2
  · rw [upd_ne (fun z => ho rfl i hi z.symm)]; exact q
end
section
variable {X : Cx} {c : Cfg} {Γ : List Fn} {own own1 : List Nat} {e : Expr} {ta : T} {x : Str}
theorem lstAt_some {i : Nat} {s : S} {xs : List D} (h : lstAt i s = some xs) : s.env[i]? = some (some (.lst xs)) := by
  unfold lstAt at h
  cases e : s.env[i]? with
  | none => rw [e] at h; cases h
  | some o =>
    rw [e] at h
    cases o with
    | none => cases h
    | some d => cases d <;> cases h; rfl
theorem pop_ix {n : Nat} {i : Int} {k : Nat} (h : L2.ixN n i = some k) : seqIndex? i n = some k ∧ k < n ∧ -(n : Int) ≤ i ∧ i < n := ixN_seq h
theorem se_pop (hK : c.K = X.K) {i : Nat} {pn apos cpos : Pos} (hN : X.N[i]? = some x) (hv : Vis X.env.scope x) (hd : (x == ("__debug__" : Str)) = false) (hcd : (x == ("__classdict__" : Str)) = false) (hi : i ∈ own) (hi1 : i ∈ own1) (ha : PA X [e] (tAs c own own1 false true (evs Γ [ta])))
    (hbase : attributeBase (.Name x pn) "pop" X.env (eval (.Name x pn) X.env) = eval (.Name x pn) X.env)
    (hfew : ((backTo cpos (starEach [e] X.env)).all (fun x => !x.1) && (backToKw cpos (keywordEach [] X.env)).all (fun x => x.1.isSome) && decide ([e].length + ([] : List Keyword).length + (if ([] : List Keyword).isEmpty then 0 else 1) < 30)) = true)
    (hline : (apos.endLine == cpos.line) = true) (hs : starEach [e] X.env = (false, eval e X.env) :: starEach [] X.env) :
    PE X (.Call (.Attribute (.Name x pn) "pop" apos) [e] [] cpos) (tE c own own1 true .sh (ev Γ (.pop i ta))) :=
  imE (pe_bm PySem.F.plainAttrs_list PySem.F.slot_list_pop PySem.F.type_list_pop mt_popAt (pe_var hN hv hd hcd) ha hbase hfew hline hs) fun σ H Q ⟨s, G, r, q⟩ => by
  simp only [ev_pop, Post.bind] at q
  obtain ⟨ds0, e0, q⟩ := q.opt2
  obtain ⟨v0, f1, f2, _⟩ := r.slot i _ (lstAt_some e0)
  obtain ⟨f3, vs0, f4, _⟩ := f2 hi
  refine ⟨v0, f1, ?_, s, G, r, ?_⟩
  · rw [f3]; exact .inl ⟨rfl, vs0, .inl (.inl f4)⟩
  · rw [evs_cons]
    simp only [evs_nil, Post.bind, Post.ok]
    refine q.mono fun d s1 q vs H1 G1 r1 t1 rp => ?_
    replace rp : RepTs c.K H1 G1.Z G1.μ [d] vs := rp
    obtain ⟨y, rfl, h1⟩ := repTs1 rp
    clear rp
    cases d <;> first | exact q.elim | skip
    rename_i k
    cases e1 : lstAt i s1 with
    | none => rw [e1] at q; exact q.elim
    | some xs =>
      rw [e1] at q
      replace q : Post c own G σ H _ (match popL xs k with
        | some (d, r) => R.ok d (setV i (.lst r) s1)
        | none => .fail) := q
      cases e2 : popL xs k with
      | none => rw [e2] at q; exact q.elim
      | some pr =>
        obtain ⟨d, rest⟩ := pr
        rw [e2] at q
        unfold popL at e2
        cases e3 : L2.ixN xs.length k with
        | none => rw [e3] at e2; cases e2
        | some j =>
          rw [e3] at e2
          replace e2 : (xs[j]?).map (fun x => (x, xs.eraseIdx j)) = some (d, rest) := e2
          cases e4 : xs[j]? with
          | none => rw [e4] at e2; cases e2
          | some d' =>
            rw [e4] at e2
            cases e2
            obtain ⟨v1, g1, g2, _⟩ := r1.slot i _ (lstAt_some e1)
            obtain ⟨g3, vs1, g4, g5, g6⟩ := g2 hi1
            rw [f1] at g1
            cases g1
            rw [g3]
            obtain ⟨p1, p2, p3, p4⟩ := pop_ix e3
            obtain ⟨y', w1, w2⟩ := g6.get' e4
            have hl63 := line63
            have hlen := g6.length
            cases (show y = .int k from h1)
            obtain ⟨rN, tN⟩ := r1.setOwn hi1 (lstAt_some e1) rfl (vs' := vs1.eraseIdx j) (ds' := xs.eraseIdx j) (Nat.le_trans (List.length_eraseIdx_le ..) g5) (g6.erase j)
            refine ⟨G1.ad i, vs1, k, j, y', rfl, rfl, g4, by omega, by omega, by rw [hlen]; exact p1, w1, ?_⟩
            exact q y' _ G1 rN (Stp.weak (t1.trans tN) (by simp)) (r1.rep tN w2)
end
end Lb

set_option maxRecDepth 100000
set_option maxHeartbeats 1000000
namespace Lb
open PySem PySem.Spec PyProof.Rows L2
/-! ### comprehensions -/
theorem wipeD_length (e : List (Option D)) : ∀ vs : List Nat, (wipeD e vs).length = e.length
  | [] => rfl
  | v :: vs => by unfold wipeD; rw [List.length_set, wipeD_length e vs]
theorem wipeD_some {e : List (Option D)} {i : Nat} {x : D} : ∀ {vs : List Nat}, (wipeD e vs)[i]? = some (some x) → e[i]? = some (some x) ∧ i ∉ vs
  | [], h => ⟨h, by simp⟩
  | v :: vs, h => by
    unfold wipeD at h
    by_cases hi : v = i
    · subst hi
      by_cases hv : v < (wipeD e vs).length
      · rw [List.getElem?_set_self hv] at h; cases h
      · rw [List.getElem?_eq_none (by simpa using hv)] at h; cases h
    · rw [List.getElem?_set_ne hi] at h
      obtain ⟨h1, h2⟩ := wipeD_some h
      exact ⟨h1, by simp only [List.mem_cons, not_or]; exact ⟨fun e => hi e.symm, h2⟩⟩
theorem backD_length (e0 e : List (Option D)) : ∀ vs : List Nat, (backD e0 e vs).length = e.length
  | [] => rfl
  | v :: vs => by
    unfold backD
    cases e0[v]? with
    | none => exact backD_length e0 e vs
    | some o => show ((backD e0 e vs).set v o).length = _; rw [List.length_set, backD_length e0 e vs]
theorem backD_some {e0 e : List (Option D)} {i : Nat} {x : D} (hl : e0.length = e.length) : ∀ {vs : List Nat}, (backD e0 e vs)[i]? = some (some x) → (i ∈ vs ∧ e0[i]? = some (some x)) ∨ (i ∉ vs ∧ e[i]? = some (some x))
  | [], h => .inr ⟨by simp, h⟩
  | v :: vs, h => by
    unfold backD at h
    by_cases hi : v = i
    · subst hi
      have hv : v < e0.length := by
        cases e1 : e0[v]? with
        | some o => exact (List.getElem?_eq_some_iff.mp e1).1
        | none =>
          rw [e1] at h
          have h : (backD e0 e vs)[v]? = some (some x) := h
          have := (List.getElem?_eq_some_iff.mp h).1
          rw [backD_length, ← hl] at this; exact this
      rw [List.getElem?_eq_getElem hv] at h
      have h : ((backD e0 e vs).set v e0[v])[v]? = some (some x) := h
      rw [List.getElem?_set_self (by rw [backD_length, ← hl]; exact hv)] at h
      exact .inl ⟨List.mem_cons_self, by rw [List.getElem?_eq_getElem hv]; exact h⟩
    · have h' : (backD e0 e vs)[i]? = some (some x) := by
        cases e1 : e0[v]? with
        | some o =>
          rw [e1] at h
          have h : ((backD e0 e vs).set v o)[i]? = some (some x) := h
          rw [List.getElem?_set_ne hi] at h; exact h
        | none => rw [e1] at h; exact h
      rcases backD_some hl h' with ⟨h1, h2⟩ | ⟨h1, h2⟩
      · exact .inl ⟨List.mem_cons_of_mem _ h1, h2⟩
      · exact .inr ⟨by simp only [List.mem_cons, not_or]; exact ⟨fun e => hi e.symm, h1⟩, h2⟩
section
variable {K : PySem.W.Frag} {own own' : List Nat} {s : S} {G : Gh} {σ σ' : L2.St} {H : Hp} {mu : Bool}
/-- other slots, of which each known one was known so -/
theorem Rel.slots {env : List (Option D)} (r : Rel K own s G σ H) (hl : env.length = σ'.length) (h : ∀ (j : Nat) (d : D), env[j]? = some (some d) → s.env[j]? = some (some d) ∧ σ'[j]? = σ[j]?) : Rel K own { s with env := env } G σ' H :=
  ⟨hl, fun j d e => by
    obtain ⟨h1, h2⟩ := h j d e
    obtain ⟨v, e1, e2⟩ := r.slot j d h1
    exact ⟨v, by rw [h2]; exact e1, e2⟩, r.zl, r.oz, r.inj, r.sto, r.mz, r.mnd⟩
/-- an object that nothing here knows of is changed -/
theorem rd_ne {p a : Addr} {o u : HO} (h : p ≠ a) (w : Rd H p u) : Rd (upd H a o) p u := by
  rcases w with w | ⟨x, w⟩
  · exact .inl (by rw [upd_ne h]; exact w)
  · exact .inr ⟨x, by rw [upd_ne h]; exact w⟩
theorem Rel.other {a : Addr} {o : HO} (r : Rel K own s G σ H) (nz : ¬ G.Z a) (nm : a ∉ G.μ) (ne : ∀ i ∈ own, G.ad i ≠ a) (hl : ∃ u, H a = some u) : Rel K own s G σ (upd H a o) := by
  have hr : ∀ p u, G.Z p → Rd H p u → Rd (upd H a o) p u := fun p u z w => rd_ne (fun ee => nz (ee ▸ z)) w
  have mm : ∀ (n : Nat) a, G.μ[n]? = some a → G.μ[n]? = some a := fun _ _ q => q
  have live : ∀ p u, H p = some u → ∃ o', (upd H a o) p = some o' := fun p u q => by
    by_cases hp : p = a
    · exact ⟨_, by rw [hp]; exact upd_same⟩
    · exact ⟨u, by rw [upd_ne hp]; exact q⟩
  refine ⟨r.len, fun j d hj => ?_, fun p z => ?_, fun j hj => ⟨(r.oz j hj).1, (r.oz j hj).2.1, ?_⟩, r.inj, ⟨r.sto.len, fun n xs q => ?_⟩, r.mz, r.mnd⟩
  · obtain ⟨v, e1, e2, e3⟩ := r.slot j d hj
    exact ⟨v, e1, fun z => Own.mono (fun _ q => q) hr mm (fun u q => by rw [upd_ne (ne j z)]; exact q) (e2 z), fun z => Rep.mono (fun _ q => q) hr mm _ _ (e3 z)⟩
  · obtain ⟨u, q⟩ := r.zl p z
    exact live p u q
  · obtain ⟨_, _, u, q⟩ := r.oz j hj
    exact live _ u q
  · obtain ⟨b, vs, e1, e2, e3, e4⟩ := r.sto.at_ n xs q
    exact ⟨b, vs, e1, by rw [upd_ne fun z => nm (by rw [← z]; exact List.mem_of_getElem? e1)]; exact e2, e3, Reps.mono (fun _ q => q) hr mm _ _ e4⟩
theorem Stp.other {G' : Gh} {H' : Hp} {a : Addr} {o : HO} (t : Stp own own' mu G H G' H') (ha : H a = none) : Stp own own' mu G H G' (upd H' a o) :=
  ⟨fun p u e hm ho => by rw [upd_ne (ne_of_none e ha)]; exact t.keep p u e hm ho, fun p u e => by rw [upd_ne (ne_of_none e ha)]; exact t.live p u e, t.zz, t.zn, t.ad, t.mup, t.sub⟩
theorem wipe_off {vs : List Nat} {j : Nat} (h : j ∉ vs) : (wipe σ vs)[j]? = σ[j]? := wipe_out h
theorem Rel.wiped {vs : List Nat} (r : Rel K own s G σ H) : Rel K own { s with env := wipeD s.env vs } G (wipe σ vs) H :=
  r.slots (by rw [wipeD_length, wipe_length, r.len]) fun j d e => ⟨(wipeD_some e).1, wipe_off (wipeD_some e).2⟩
end
/-- a configuration in which no error may come -/
def Cfg.inn (c : Cfg) : Cfg := { c with W := fun _ _ _ _ => False }
theorem lcGo_cons {body : D → S → R S (Option D)} {x : D} {xs : List D} {s s' : S} {r : List D} (h : lcGo body (x :: xs) s = .ok r s') : ∃ o s1 r', body x s = .ok o s1 ∧ lcGo body xs s1 = .ok r' s' ∧ r = o.toList ++ r' := by
  unfold lcGo at h
  cases e : body x s with
  | exc => rw [e] at h; cases h
  | fail => rw [e] at h; cases h
  | ok o s1 =>
    rw [e, R.bind_ok] at h
    cases e2 : lcGo body xs s1 with
    | exc => rw [e2] at h; cases h
    | fail => rw [e2] at h; cases h
    | ok r' s2 =>
      rw [e2, R.bind_ok] at h
      cases h
      exact ⟨o, s1, r', rfl, e2, rfl⟩
def lcBody (Γ : List Fn) (tg : Tg) (vs : List Nat) (ifs : List T) (e : T) : D → S → R S (Option D) := fun x s1 => match setT tg x s1 with
  | none => .fail
  | some s2 => (evAll Γ ifs s2).bind fun b s3 => if b then (ev Γ e s3).bind fun d s4 => .ok (some d) { s4 with env := wipeD s4.env vs } else .ok none { s3 with env := wipeD s3.env vs }
theorem ev_lc' (Γ : List Fn) (s : S) (k : IK) (as : List T) (tg : Tg) (vs : List Nat) (ifs : List T) (e : T) : ev Γ (.lc k as tg vs ifs e) s = (evI Γ k as s).bind fun xs s =>
    (lcGo (lcBody Γ tg vs ifs e) xs { s with env := wipeD s.env vs }).noX.bind fun ds s' => if fits ds then .ok (.lst ds) { s' with env := backD s.env s'.env vs } else .fail := by
  rw [ev_lc]
  unfold evI
  cases evs Γ as s <;> rfl
theorem lcBody_ok {Γ : List Fn} {tg : Tg} {vs : List Nat} {ifs : List T} {e : T} {x : D} {s s' : S} {o : Option D} (h : lcBody Γ tg vs ifs e x s = .ok o s') :
    ∃ s2 b s3, setT tg x s = some s2 ∧ evAll Γ ifs s2 = .ok b s3 ∧ ((b = true ∧ ∃ d s4, ev Γ e s3 = .ok d s4 ∧ o = some d ∧ s' = { s4 with env := wipeD s4.env vs }) ∨ (b = false ∧ o = none ∧ s' = { s3 with env := wipeD s3.env vs })) := by
  unfold lcBody at h
  cases e1 : setT tg x s with
  | none => rw [e1] at h; cases h
  | some s2 =>
    rw [e1] at h
    replace h : (evAll Γ ifs s2).bind (fun b s3 => if b then (ev Γ e s3).bind fun d s4 => .ok (some d) { s4 with env := wipeD s4.env vs } else .ok none { s3 with env := wipeD s3.env vs }) = .ok o s' := h
    cases e2 : evAll Γ ifs s2 with
    | exc => rw [e2] at h; cases h
    | fail => rw [e2] at h; cases h
    | ok b s3 =>
      rw [e2, R.bind_ok] at h
      refine ⟨s2, b, s3, rfl, e2, ?_⟩
      cases b with
      | false =>
        rw [if_neg (by decide)] at h
        cases h
        exact .inr ⟨rfl, rfl, rfl⟩
      | true =>
        rw [if_pos rfl] at h
        cases e3 : ev Γ e s3 with
        | exc => rw [e3] at h; cases h
        | fail => rw [e3] at h; cases h
        | ok d s4 =>
          rw [e3, R.bind_ok] at h
          cases h
          exact .inl ⟨rfl, d, s4, rfl, rfl, rfl⟩
section
variable {X : Cx} {c : Cfg} {Γ : List Fn} {own own1 own2 : List Nat} {mu : Bool}
theorem wipe_but {σ σ2 : L2.St} {vs us : List Nat} (hs : ∀ i ∈ us, i ∈ vs) (b : But us (wipe σ vs) σ2) : wipe σ2 vs = wipe σ vs := by
  apply List.ext_getElem?
  intro j
  by_cases hj : j ∈ vs
  · have h0 : ∀ τ : L2.St, τ.length = σ.length → (wipe τ vs)[j]? = if j < σ.length then some none else none := fun τ hτ => by
      by_cases hl : j < σ.length
      · rw [if_pos hl]
        have hl' : j < (wipe τ vs).length := by rw [wipe_length, hτ]; exact hl
        cases e : (wipe τ vs)[j]? with
        | none => rw [List.getElem?_eq_none_iff] at e; omega
        | some o =>
          cases o with
          | none => rfl
          | some v => exact absurd hj (wipe_some e).2
      · rw [if_neg hl, List.getElem?_eq_none (by rw [wipe_length, hτ]; omega)]
    rw [h0 σ2 (by rw [b.1, wipe_length]), h0 σ rfl]
  · rw [wipe_off hj, b.2 j fun z => hj (hs j z)]
theorem offT_off {vs : List Nat} (h : ∀ i ∈ vs, i ∉ own) : offT own vs = own := by
  unfold offT
  rw [List.filter_eq_self]
  intro j hj
  simp only [List.contains_eq_mem, Bool.not_eq_true', decide_eq_false_iff_not]
  exact fun z => h j z hj
theorem lc_pre {k : IK} {as : List T} {tg : Tg} {vs : List Nat} {ifs : List T} {e : T} (hsub : ∀ i ∈ own2, i ∈ own1) (hvs : ∀ i ∈ vs, i ∉ own2) (hst : ∀ i ∈ slotsT tg, i ∈ vs) {σ : L2.St} {H : Hp} {Q : VK}
    (h : tE c own own2 mu .fr (ev Γ (.lc k as tg vs ifs e)) σ H Q) : tLc (tI c own own1 (evI Γ k as)) (tG c.inn own2 tg) (tT c.inn own2 own2 mu (evAll Γ ifs)) (tE c.inn own2 own2 mu .sh (ev Γ e)) vs σ H Q := by
  obtain ⟨s, G, r, q⟩ := h
  rw [ev_lc', Post.bind] at q
  refine ⟨s, G, r, q.mono fun xs s1 q J H1 G1 r1 t1 wk => fun D hD => ?_⟩
  -- what is not ours any more is locked
  obtain ⟨G2, r2, t2⟩ := r1.less hsub
  have t12 := t1.trans t2
  cases eL : lcGo (lcBody Γ tg vs ifs e) xs { s1 with env := wipeD s1.env vs } with
  | exc => rw [eL] at q; exact q.elim
  | fail => rw [eL] at q; exact q.elim
  | ok tot sF =>
    rw [eL] at q
    replace q : Post c own G σ H _ (if fits tot then R.ok (Lb.D.lst tot) { sF with env := backD s1.env sF.env vs } else .fail) := q
    cases hf : fits tot with
    | false => rw [hf] at q; exact q.elim
    | true =>
      rw [hf, if_pos rfl, Post.ok] at q
      have hft : tot.length ≤ sizeLine := of_decide_eq_true hf
      obtain ⟨r3, t3, nz3, nm3⟩ := r2.laidF (mu := mu) (o := .lst []) hD
      have r3w : Rel c.K own2 { s1 with env := wipeD s1.env vs } G2 (wipe σ vs) (upd H1 D (.lst [])) := r3.wiped
      have neD : ∀ i ∈ own2, G2.ad i ≠ D := fun i hi ee => by
        obtain ⟨_, _, o, qq⟩ := r2.oz i hi
        rw [ee, hD] at qq; cases qq
      refine ⟨fun i m H' => m = xs.length - i ∧ i ≤ xs.length ∧ ∃ si Gi acc ds rest, Rel c.K own2 si Gi (wipe σ vs) H' ∧ Stp own2 own2 mu G2 H1 Gi H' ∧ ¬ Gi.Z D ∧ D ∉ Gi.μ ∧ H' D = some (.lst acc) ∧ Reps c.K H' Gi.Z Gi.μ ds acc ∧
        lcGo (lcBody Γ tg vs ifs e) (xs.drop i) si = .ok rest sF ∧ tot = ds ++ rest, ⟨xs.length, by simp, Nat.zero_le _, _, G2, [], [], tot, r3w, t3, nz3, nm3, upd_same, rfl, by simpa using eL, rfl⟩, ?_⟩
      rintro i m H4 ⟨rfl, hi, si, Gi, acc, ds, rest, r4, t4, nz4, nm4, hD4, rp4, e4, etot⟩
      have tA : Stp own2 own2 mu G2 H1 Gi H4 := t4
      have wk2 := wk H4 Gi.Z Gi.μ (fun p z => tA.zz p (t2.zz p z)) (fun p u z w => r2.rd tA (t2.zz p z) (r1.rd t2 z w)) (fun n a w => tA.mm n a (t2.mm n a w))
      by_cases hend : i = xs.length
      · subst hend
        refine .inl ⟨wk2.2.1, ?_⟩
        rw [List.drop_length] at e4
        cases e4
        rw [List.append_nil] at etot
        subst etot
        have hl1 : s1.env.length = sF.env.length := by rw [r1.len, r4.len, wipe_length]
        -- back
        have rB : Rel c.K own2 { sF with env := backD s1.env sF.env vs } Gi σ H4 := by
          refine ⟨by rw [backD_length, r4.len, wipe_length], fun j d ej => ?_, r4.zl, r4.oz, r4.inj, r4.sto, r4.mz, r4.mnd⟩
          rcases backD_some hl1 ej with ⟨h1, h2⟩ | ⟨h1, h2⟩
          · obtain ⟨v, e1, _, e3⟩ := r2.slot j d h2
            exact ⟨v, e1, fun z => absurd z (hvs j h1), fun z => r2.rep tA (e3 z)⟩
          · obtain ⟨v, e1, e2⟩ := r4.slot j d h2
            exact ⟨v, by rw [wipe_off h1] at e1; exact e1, e2⟩
        refine q (.ref D) H4 Gi rB ((t12.trans tA).weak (by cases mu <;> simp)) ⟨D, ⟨rfl, acc, hD4, by rw [rp4.length]; exact hft, rp4⟩, nz4, nm4, t1.fresh hD⟩
      · have hi' : i < xs.length := Nat.lt_of_le_of_ne hi hend
        rw [List.drop_eq_getElem_cons hi'] at e4
        obtain ⟨o, s5, r', b1, b2, b3⟩ := lcGo_cons e4
        obtain ⟨s6, b, s7, c1, c2, c3⟩ := lcBody_ok b1
        refine .inr ⟨wk2.1 i hi', fun H' => ∃ Gi acc', Rel c.K own2 s5 Gi (wipe σ vs) H' ∧ Stp own2 own2 mu G2 H1 Gi H' ∧ ¬ Gi.Z D ∧ D ∉ Gi.μ ∧ H' D = some (.lst acc') ∧ Reps c.K H' Gi.Z Gi.μ (ds ++ o.toList) acc', ?_, ?_⟩
        · rintro H' ⟨Gj, acc', g1, g2, g3, g4, g5, g6⟩
          exact ⟨xs.length - (i + 1), by omega, rfl, hi', s5, Gj, acc', _, r', g1, g2, g3, g4, g5, g6, b2, by rw [etot, b3, List.append_assoc]⟩
        · intro x H5 y
          obtain ⟨Z5, g5, rp5⟩ := wk2.2.2 i _ x H5 (List.getElem?_eq_getElem hi') y
          obtain ⟨r5, t5⟩ := r4.grow (mu := mu) g5
          refine ⟨xs[i], si, _, s6, r5, rp5, c1, fun σ2 r6 bt => ⟨wipe_but hst bt, ?_⟩⟩
          rw [offT_off fun i hi => hvs i (hst i hi)] at r6
          refine ⟨s6, _, r6, ?_⟩
          rw [c2]
          intro H7 G7 r7 t7
          have back : ∀ {sx : S} {Gx : Gh} {Hx : Hp}, Rel c.K own2 sx Gx σ2 Hx → Rel c.K own2 { sx with env := wipeD sx.env vs } Gx (wipe σ vs) Hx := fun {sx Gx Hx} rx =>
            rx.slots (by rw [wipeD_length, wipe_length, rx.len, bt.1, wipe_length]) fun j d ej => by
              obtain ⟨w1, w2⟩ := wipeD_some ej
              exact ⟨w1, (bt.2 j fun z => w2 (hst j z)).symm⟩
          have tB : Stp own2 own2 mu Gi H4 G7 H7 := (t5.trans t7).weak (by simp)
          have neDi : ∀ i ∈ own2, Gi.ad i ≠ D := by rw [t4.ad]; exact neD
          have oD : Own c.K H4 Gi.Z Gi.μ D (.lst ds) (.ref D) := ⟨rfl, acc, hD4, by rw [rp4.length]; have := congrArg List.length etot; simp at this; omega, rp4⟩
          rcases c3 with ⟨rfl, d, s8, d1, d2, d3⟩ | ⟨rfl, d2, d3⟩
          · rw [if_pos rfl]
            refine ⟨s7, G7, r7, ?_⟩
            rw [d1]
            intro v H8 G8 r8 t8 rp8
            have tC : Stp own2 own2 mu Gi H4 G8 H8 := (tB.trans t8).weak (by simp)
            obtain ⟨_, acc8, hD8, hz8, rp8'⟩ := r4.ownS tC nm4 (fun _ => neDi) oD
            have eacc : acc8 = acc := by
              have := tC.keep D _ hD4 nm4 (fun _ => neDi)
              rw [hD8] at this; cases this; rfl
            subst eacc
            have nz8 : ¬ G8.Z D := Rel.noz tC nz4 ⟨_, hD4⟩ neDi
            have nm8 : D ∉ G8.μ := tC.notmu nm4 hD4
            have hln : acc8.length + 1 ≤ sizeLine := by
              rw [rp4.length]
              have := congrArg List.length etot
              rw [b3, d2] at this
              simp at this; omega
            refine ⟨acc8, hD8, hln, G8, acc8 ++ [v], ?_, ?_, nz8, nm8, upd_same, ?_⟩
            · subst d3
              refine back ?_
              have ne8 : ∀ i ∈ own2, G8.ad i ≠ D := by rw [tC.ad]; exact neDi
              exact r8.other nz8 nm8 ne8 ⟨_, hD8⟩
            · have ne8 : ∀ i ∈ own2, G8.ad i ≠ D := by rw [tC.ad]; exact neDi
              have tD : Stp own2 own2 mu G2 H1 G8 H8 := (t4.trans tC).weak (by simp)
              exact tD.other hD
            · subst d2
              have hr : ∀ p u, G8.Z p → Rd H8 p u → Rd (upd H8 D (.lst (acc8 ++ [v]))) p u := fun p u z w => rd_ne (fun ee => nz8 (ee ▸ z)) w
              exact Reps.mono (fun _ z => z) hr (fun _ _ w => w) _ _ (rp8'.append (Reps.one rp8))
          · rw [if_neg (by decide)]
            obtain ⟨_, acc8, hD8, hz8, rp8'⟩ := r4.ownS tB nm4 (fun _ => neDi) oD
            refine ⟨G7, acc8, ?_, (t4.trans tB).weak (by simp), Rel.noz tB nz4 ⟨_, hD4⟩ neDi, tB.notmu nm4 hD4, hD8, ?_⟩
            · subst d3
              exact back r7
            · subst d2
              simpa using rp8'
end
end Lb

set_option maxRecDepth 100000
set_option maxHeartbeats 1000000
namespace Lb
open PySem PySem.Spec PyProof.Rows L2
/-! ### calls -/
/-- the promise of a def, by what its mirror yields -/
def spD (K : PySem.W.Frag) (mg : Str → Option Value) (np : Nat) (F : Fn) : Sp := fun vs H Q E => ∃ ds st G, vs.length = np ∧ Rel K [] ⟨[], st⟩ G [] H ∧ Reps K H G.Z G.μ ds vs ∧
  match F ds st with
  | .ok d st' => ∀ v H' G', Rel K [] ⟨[], st'⟩ G' [] H' → Stp [] [] false G H G' H' → Rep K H' G'.Z G'.μ d v → Q v H'
  | .exc e st' => ∀ cls dd H' G', Rel K [] ⟨[], st'⟩ G' [] H' → Stp [] [] false G H G' H' → ExcV mg H' e cls dd → E cls dd H'
  | .fail => False
section
variable {K : PySem.W.Frag} {own : List Nat} {s : S} {G G' : Gh} {σ : L2.St} {H H' : Hp}
theorem Rel.bare (r : Rel K own s G σ H) : Rel K [] ⟨[], s.st⟩ G [] H :=
  ⟨rfl, fun i d e => by simp at e, r.zl, fun i hi => by simp at hi, fun i hi => by simp at hi, r.sto, r.mz, r.mnd⟩
/-- behind a call: the frame's own is as it was -/
theorem Rel.called {st' : Sto} (r : Rel K own s G σ H) (t : Stp [] [] false G H G' H') (r' : Rel K [] ⟨[], st'⟩ G' [] H') : Rel K own { s with st := st' } { G' with ad := G.ad } σ H' ∧ Stp own own false G H { G' with ad := G.ad } H' := by
  have t' : Stp own own false G H { G' with ad := G.ad } H' := ⟨fun p o e hm _ => t.keep p o e hm (by simp), t.live, t.zz, fun p z => by
    rcases t.zn p z with q | q | ⟨i, h1, _⟩
    · exact .inl q
    · exact .inr (.inl q)
    · simp at h1, rfl, t.mup, fun _ h => h⟩
  refine ⟨⟨r.len, fun i d e => ?_, r'.zl, fun i hi => ?_, r.inj, r'.sto, r'.mz, r'.mnd⟩, t'⟩
  · obtain ⟨v, e1, e2, e3⟩ := r.slot i d e
    exact ⟨v, e1, fun hi => r.ownS t' (r.oz i hi).2.1 (by simp) (e2 hi), fun hi => r.rep t' (e3 hi)⟩
  · obtain ⟨h1, h2, o, h3⟩ := r.oz i hi
    refine ⟨fun z => ?_, t'.notmu h2 h3, t'.live _ _ h3⟩
    rcases t.zn _ z with q | q | ⟨i, h1, _⟩
    · exact h1 q
    · rw [q] at h3; cases h3
    · simp at h1
end
section
variable {X : Cx} {c : Cfg} {Γ : List Fn} {own own1 own2 : List Nat} {mu : Bool} {e : Expr} {es : List Expr} {as : List T}
theorem evs_app (ts us : List T) (s : S) : evs Γ (ts ++ us) s = (evs Γ ts s).bind fun ds s => (evs Γ us s).bind fun es s => .ok (ds ++ es) s := by
  induction ts generalizing s with
  | nil =>
    rw [List.nil_append, evs_nil, R.bind_ok]
    cases evs Γ us s <;> rfl
  | cons t ts ih =>
    rw [List.cons_append, evs_cons, evs_cons]
    cases ev Γ t s with
    | exc => rfl
    | fail => rfl
    | ok d s =>
      simp only [R.bind_ok, ih]
      cases evs Γ ts s with
      | exc => rfl
      | fail => rfl
      | ok ds s =>
        simp only [R.bind_ok]
        cases evs Γ us s <;> rfl
/-- arguments left out -/
structure Dfl (K : PySem.W.Frag) (Γ : List Fn) (das : List T) (dvs : List V) (dus : List Value) : Prop where
  vals : Vals dvs dus
  ev : ∃ dd : List D, (∀ s, evs Γ das s = .ok dd s) ∧ ∀ H Z μ, Reps K H Z μ dd dvs
theorem Dfl.nil {K : PySem.W.Frag} : Dfl K Γ [] [] [] := ⟨.nil, [], fun _ => rfl, fun _ _ _ => rfl⟩
/-- what is wanted behind the arguments -/
theorem call_pre {k np : Nat} {F : Fn} {das : List T} {dvs : List V} {dus : List Value} (hF : Γ[k]? = some F) (dfl : Dfl c.K Γ das dvs dus) (hlen : as.length + das.length = np) {σ : L2.St} {H : Hp} {Q : VK} (h : tE c own own1 mu .sh (ev Γ (.call k (as ++ das))) σ H Q) :
    tCallSD (spD c.K c.mg np F) dvs (WE c.W) (tAs c own own1 mu false (evs Γ as)) σ H Q := by
  obtain ⟨s, G, r, q⟩ := h
  obtain ⟨_, dd, hd, hrp⟩ := dfl
  rw [ev_call, evs_app] at q
  simp only [hd, R.bind_ok, Post.bind, Post.ok] at q
  refine ⟨s, G, r, q.evs.mono fun ds s1 ⟨hl, q⟩ vs H1 G1 r1 t1 rp => ?_⟩
  show spD c.K c.mg np F (vs ++ dvs) H1 Q (WE c.W σ)
  have rp : Reps c.K H1 G1.Z G1.μ ds vs := rp
  have rpa := rp.append (hrp H1 G1.Z G1.μ)
  have hld : dd.length = das.length := evs_len das s dd s (hd s)
  refine ⟨ds ++ dd, s1.st, G1, by rw [rpa.length, List.length_append, hl, hld, hlen], r1.bare, rpa, ?_⟩
  unfold callF at q
  rw [hF] at q
  cases eF : F (ds ++ dd) s1.st with
  | fail => simp only [eF] at q; exact q.elim
  | ok d st' =>
    simp only [eF] at q
    intro v H' G' r' t' rv
    obtain ⟨r2, t2⟩ := r1.called t' r'
    exact q v H' _ r2 ((t1.trans t2).weak (by simp)) rv
  | exc x st' =>
    simp only [eF] at q
    intro cls dd H' G' r' t' hx
    obtain ⟨r2, t2⟩ := r1.called t' r'
    obtain ⟨G3, r3, t3⟩ := r2.less (own' := []) (fun i hi => by simp at hi)
    exact q cls dd H' G3 r3 (((t1.trans t2).trans t3).weak fun _ => rfl) hx
theorem se_call {k kk np : Nat} {F : Fn} {x : Str} {f : Addr} {fd : FuncData} {ps : List Str} {p pos : Pos} {das : List T} {dvs : List V} {dus : List Value} (hF : Γ[k]? = some F) (dfl : Dfl c.K Γ das dvs dus) (hlen : as.length + das.length = np)
    (fn : FnOk X.prog X.w X.K X.mg X.base (L2.CX X.prog X.w) kk f fd ps (spD c.K c.mg np F)) (hr : Room kk X.A) (hg : Gl X x) (hm : X.mg x = some (.ref f)) (hk : PySem.W.keepIn X.K (.ref f) = true) (hb : Binds X.K fd ps dus) (tk : Takes X c.W)
    (ha : PA X (e :: es) (tAs c own own1 mu false (evs Γ as))) (hdb : (x == ("__debug__" : Str)) = false) (he : starEach (e :: es) X.env = (false, eval e X.env) :: starEach es X.env) (hpl : (backTo pos (starEach es X.env)).any (·.1) = false) :
    PE X (.Call (.Name x p) (e :: es) [] pos) (tE c own own1 mu .sh (ev Γ (.call k (as ++ das)))) :=
  imE (pe_callSD (E := WE c.W) fn hr hg hm hk hb dfl.vals (fun σ => passAt tk σ) ha hdb he hpl) fun σ H Q h => call_pre hF dfl hlen h
theorem se_call0 {k kk np : Nat} {F : Fn} {x : Str} {f : Addr} {fd : FuncData} {ps : List Str} {p pos : Pos} {das : List T} {dvs : List V} {dus : List Value} (hF : Γ[k]? = some F) (dfl : Dfl c.K Γ das dvs dus) (hlen : das.length = np)
    (fn : FnOk X.prog X.w X.K X.mg X.base (L2.CX X.prog X.w) kk f fd ps (spD c.K c.mg np F)) (hr : Room kk X.A) (hg : Gl X x) (hm : X.mg x = some (.ref f)) (hk : PySem.W.keepIn X.K (.ref f) = true) (hb : Binds X.K fd ps dus) (tk : Takes X c.W)
    (hdb : (x == ("__debug__" : Str)) = false) : PE X (.Call (.Name x p) [] [] pos) (tE c own own mu .sh (ev Γ (.call k das))) := by
  refine ⟨fun pins s σ H Q I h => ?_⟩
  have h' := call_pre (as := []) (c := c) hF dfl (by simpa using hlen) h
  obtain ⟨sx, Gx, rx, qx⟩ := h'
  have qx : spD c.K c.mg np F ([] ++ dvs) H Q (WE c.W σ) := qx [] H Gx rx Stp.refl rfl
  refine wpAny_Call_Name_kw (ld_glob I hg hm ?_ hdb)
  exact PySem.W.callWith_K0 I.kIn hk (run_fnSD (us := []) (E := WE c.W) fn hr hb dfl.vals (passAt tk σ) I .nil qx)
/-- a list that is handed around: into the store -/
theorem Rel.laidM {K : PySem.W.Frag} {s : S} {G : Gh} {σ : L2.St} {H : Hp} {ds : List D} {vs : List V} {a : Addr} (r : Rel K own s G σ H) (hz : vs.length ≤ sizeLine) (rp : Reps K H G.Z G.μ ds vs) (ha : H a = none) :
    Rel K own { s with st := s.st ++ [ds] } { G with μ := G.μ ++ [a] } σ (upd H a (.lst vs)) ∧ Stp own own mu G H { G with μ := G.μ ++ [a] } (upd H a (.lst vs)) ∧ (G.μ ++ [a])[s.st.length]? = some a := by
  obtain ⟨r1, t1, nz, nm⟩ := r.laidF (mu := mu) (o := .lst vs) ha
  have mm : ∀ (n : Nat) b, G.μ[n]? = some b → (G.μ ++ [a])[n]? = some b := fun n b e => by
    rw [List.getElem?_append_left (List.getElem?_eq_some_iff.mp e).1]; exact e
  have up : ∀ {d v}, Rep K (upd H a (.lst vs)) G.Z G.μ d v → Rep K (upd H a (.lst vs)) G.Z (G.μ ++ [a]) d v := fun {d v} h => Rep.mono (fun _ z => z) (fun _ _ _ q => q) mm d v h
  have ups : ∀ {d v}, Reps K (upd H a (.lst vs)) G.Z G.μ d v → Reps K (upd H a (.lst vs)) G.Z (G.μ ++ [a]) d v := fun {d v} h => Reps.mono (fun _ z => z) (fun _ _ _ q => q) mm d v h
  have here : (G.μ ++ [a])[s.st.length]? = some a := by rw [← r.sto.len]; simp
  refine ⟨⟨r1.len, fun i d e => ?_, r1.zl, fun i hi => ?_, r1.inj, ⟨?_, fun n xs e => ?_⟩, fun b hb => ?_, ?_⟩, ⟨fun p o e hm ho => t1.keep p o e hm ho, t1.live, t1.zz, t1.zn, rfl, ⟨[a], rfl, fun b hb => by rw [List.mem_singleton.mp hb]; exact ha⟩, t1.sub⟩, here⟩
  · obtain ⟨v, e1, e2, e3⟩ := r1.slot i d e
    exact ⟨v, e1, fun hi => Own.mono (fun _ z => z) (fun _ _ _ q => q) mm (fun _ q => q) (e2 hi), fun hi => up (e3 hi)⟩
  · obtain ⟨h1, h2, h3⟩ := r1.oz i hi
    refine ⟨h1, fun z => ?_, h3⟩
    rcases List.mem_append.mp z with z | z
    · exact h2 z
    · have : G.ad i = a := List.mem_singleton.mp z
      obtain ⟨_, _, o, q⟩ := r.oz i hi
      rw [this, ha] at q; cases q
  · simp [r.sto.len]
  · by_cases hn : n < s.st.length
    · have e : (s.st ++ [ds])[n]? = some xs := e
      rw [List.getElem?_append_left hn] at e
      obtain ⟨b, ws, e1, e2, e3, e4⟩ := r1.sto.at_ n xs e
      exact ⟨b, ws, mm n b e1, e2, e3, ups e4⟩
    · have e : (s.st ++ [ds])[n]? = some xs := e
      have hn' : n = s.st.length := by
        have := (List.getElem?_eq_some_iff.mp e).1
        simp at this; omega
      subst hn'
      have : xs = ds := by simpa using e.symm
      subst this
      exact ⟨a, vs, here, upd_same, hz, ups (r.reps t1 rp)⟩
  · rcases List.mem_append.mp hb with z | z
    · exact r1.mz b z
    · rw [List.mem_singleton.mp z]; exact nz
  · rw [List.nodup_append]
    refine ⟨r.mnd, by simp, fun x hx y hy => ?_⟩
    rw [List.mem_singleton.mp hy]
    exact fun ee => nm (ee ▸ hx)
theorem se_new {pos : Pos} (h : PA X es (tAs c own own1 mu false (evs Γ as))) (hn : as.length ≤ sizeLine) : PE X (.List es pos) (tE c own own1 mu .sh (ev Γ (.new as))) := imE (pe_lst h) fun σ H Q ⟨s, G, r, q⟩ => by
  rw [ev_new, Post.bind] at q
  refine ⟨s, G, r, q.evs.mono fun ds s1 ⟨hl, q⟩ vs H1 G1 r1 t1 rp => ?_⟩
  have rp : Reps c.K H1 G1.Z G1.μ ds vs := rp
  have hz : vs.length ≤ sizeLine := by rw [rp.length, hl]; exact hn
  refine ⟨hz, fun a ha => ?_⟩
  obtain ⟨r2, t2, e2⟩ := r1.laidM (mu := false) hz rp ha
  exact q (.ref a) _ _ r2 ((t1.trans t2).weak (by simp)) ⟨a, e2, rfl⟩
/-! ### comprehensions, as values -/
theorem imTs {X : Cx} {e : List Expr} {t t' : TT} (h : PTs X e t) (f : ∀ σ H Q, t' σ H Q → t σ H Q) : PTs X e t' := ⟨fun pins s σ H Q I q => h.run pins s σ H Q I (f σ H Q q)⟩
theorem sts_nil : PTs X [] (tT c own own mu (evAll Γ [])) := imTs pts_nil fun σ H Q ⟨s, G, r, q⟩ => q H G r Stp.refl
theorem sts_one {a : Expr} {ta : T} (h : PT X a (tT c own own1 mu (evT Γ ta))) : PTs X [a] (tT c own own1 mu (evAll Γ [ta])) := imTs (pts_one h) fun σ H Q ⟨s, G, r, q⟩ => by
  refine ⟨s, G, r, ?_⟩
  have e : evAll Γ [ta] s = evT Γ ta s := by
    rw [evAll_cons]
    unfold evT
    cases ev Γ ta s with
    | ok d s =>
      simp only [R.bind_ok]
      cases truthy d with
      | none => rfl
      | some b => cases b <;> rfl
    | exc => rfl
    | fail => rfl
  rw [← e]; exact q
end
end Lb

set_option maxRecDepth 100000
set_option maxHeartbeats 1000000
namespace Lb
open PySem PySem.Spec PyProof.Rows L2
/-! ### statements: the frame of it -/
/-- since the def was entered -/
structure Ent (G0 : Gh) (H0 : Hp) (own : List Nat) (G : Gh) (H : Hp) : Prop where
  stp : Stp [] [] false G0 H0 { G with ad := G0.ad } H
  new : ∀ i ∈ own, H0 (G.ad i) = none
/-- a later moment: what is locked stays -/
structure Lt (G : Gh) (H : Hp) (G' : Gh) (H' : Hp) : Prop where
  zz : ∀ p, G.Z p → G'.Z p
  rd : ∀ p u, G.Z p → Rd H p u → Rd H' p u
  mm : ∀ (n : Nat) a, G.μ[n]? = some a → G'.μ[n]? = some a
section
variable {K : PySem.W.Frag} {own own1 own' : List Nat} {s : S} {G G' G'' G0 : Gh} {σ : L2.St} {H H' H'' H0 : Hp} {mu : Bool}
theorem Lt.refl : Lt G H G H := ⟨fun _ z => z, fun _ _ _ q => q, fun _ _ q => q⟩
theorem Lt.trans (a : Lt G H G' H') (b : Lt G' H' G'' H'') : Lt G H G'' H'' := ⟨fun p z => b.zz p (a.zz p z), fun p u z q => b.rd p u (a.zz p z) (a.rd p u z q), fun n x e => b.mm n x (a.mm n x e)⟩
theorem Rel.lt (r : Rel K own s G σ H) (t : Stp own own' mu G H G' H') : Lt G H G' H' := ⟨t.zz, fun _ _ z q => r.rd t z q, t.mm⟩
theorem Ent.step (en : Ent G0 H0 own G H) (t : Stp own own' mu G H G' H') : Ent G0 H0 own' G' H' := by
  have a := en.stp
  refine ⟨⟨fun p o e hm _ => ?_, fun p o e => ?_, fun p z => t.zz p (a.zz p z), fun p z => ?_, rfl, ?_, fun _ h => h⟩, fun i hi => by rw [t.ad]; exact en.new i (t.sub i hi)⟩
  · have e1 := a.keep p o e hm (by simp)
    refine t.keep p o e1 (a.notmu hm e) fun _ i hi ee => ?_
    have := en.new i hi
    rw [ee, e] at this; cases this
  · obtain ⟨o1, e1⟩ := a.live p o e
    exact t.live p o1 e1
  · rcases t.zn p z with q | q | ⟨i, h1, _, h3⟩
    · exact a.zn p q
    · exact .inr (.inl (a.fresh q))
    · exact .inr (.inl (by rw [← h3]; exact en.new i h1))
  · obtain ⟨l, e, hl⟩ := a.mup
    obtain ⟨l', e', hl'⟩ := t.mup
    have e : G.μ = G0.μ ++ l := e
    refine ⟨l ++ l', by rw [e', e, List.append_assoc], fun x hx => ?_⟩
    rcases List.mem_append.mp hx with hx | hx
    · exact hl x hx
    · exact a.fresh (hl' x hx)
theorem Ent.start (hG : Rel K [] s G σ H) : Ent G H [] G H := ⟨Stp.refl, fun i hi => by simp at hi⟩
theorem Ent.sub (en : Ent G0 H0 own G H) (h : ∀ i ∈ own', i ∈ own) : Ent G0 H0 own' G H := ⟨en.stp, fun i hi => en.new i (h i hi)⟩
end
/-- what is wanted of a statement that began at G, H -/
def PostS (c : Cfg) (G0 : Gh) (H0 : Hp) (own' : List Nat) (E : Ends) (G : Gh) (H : Hp) : R S Fl → Prop
  | .ok .next s' => ∀ σ' H' G', Rel c.K own' s' G' σ' H' → Ent G0 H0 own' G' H' → Lt G H G' H' → E.nx σ' H'
  | .ok (.ret d) s' => ∀ v H' G', Rel c.K [] ⟨[], s'.st⟩ G' [] H' → Ent G0 H0 [] G' H' → Rep c.K H' G'.Z G'.μ d v → E.rt v H'
  | .exc e s' => ∀ cls dd σ' H' G', Rel c.K [] s' G' σ' H' → Ent G0 H0 [] G' H' → ExcV c.mg H' e cls dd → c.W cls dd σ' H'
  | .fail => False
def tS (c : Cfg) (own own' : List Nat) (m : S → R S Fl) : TS := fun E σ H => ∃ s G G0 H0, Rel c.K own s G σ H ∧ Ent G0 H0 own G H ∧ PostS c G0 H0 own' E G H (m s)
section
variable {X : Cx} {c : Cfg} {Γ : List Fn} {own own1 own2 own' : List Nat} {mu : Bool} {s : S} {G G' G0 : Gh} {σ : L2.St} {H H' H0 : Hp} {E : Ends}
theorem PostS.move {r : R S Fl} (q : PostS c G0 H0 own' E G H r) (l : Lt G H G' H') : PostS c G0 H0 own' E G' H' r := by
  cases r with
  | fail => exact q
  | exc e s => exact q
  | ok f s =>
    cases f with
    | next => exact fun σ' H2 G2 r2 en l2 => q σ' H2 G2 r2 en (l.trans l2)
    | ret d => exact q
theorem PostS.ofE {α : Type} {m : R S α} {f : α → S → R S Fl} (r : Rel c.K own s G σ H) (en : Ent G0 H0 own G H) (q : PostS c G0 H0 own' E G H (m.bind f)) : Post c own G σ H (fun a s' => PostS c G0 H0 own' E G H (f a s')) m := by
  cases m with
  | fail => exact q
  | ok a s => exact q
  | exc e s => exact fun cls dd H2 G2 r2 t2 hx => q cls dd σ H2 G2 r2 (en.step t2) hx
theorem PostS.sub {r : R S Fl} (h : ∀ i ∈ own', i ∈ own1) (q : PostS c G0 H0 own' E G H r) : PostS c G0 H0 own1 E G H r := by
  cases r with
  | fail => exact q
  | exc e s => exact q
  | ok f s =>
    cases f with
    | ret d => exact q
    | next =>
      intro σ' H2 G2 r2 en l2
      obtain ⟨G3, r3, t3⟩ := r2.less h
      exact q σ' H2 G3 r3 (en.step t3) (l2.trans (r2.lt t3))
theorem tS.post (h : ∀ i ∈ own', i ∈ own1) {m : S → R S Fl} (q : tS c own own' m E σ H) : tS c own own1 m E σ H := by
  obtain ⟨s, G, G0, H0, r, en, q⟩ := q
  exact ⟨s, G, G0, H0, r, en, q.sub h⟩
theorem tS.pre (h : ∀ i ∈ own1, i ∈ own) {m : S → R S Fl} (q : tS c own own' m E σ H) : tS c own1 own' m E σ H := by
  obtain ⟨s, G, G0, H0, r, en, q⟩ := q
  obtain ⟨G1, r1, t1⟩ := r.less h
  exact ⟨s, G1, G0, H0, r1, en.step t1, q.move (r.lt t1)⟩
/-- fewer own slots behind, fewer ahead -/
theorem ss_post {b : List Stmt} {m : S → R S Fl} (h : PSs X b (tS c own own1 m)) (hs : ∀ i ∈ own', i ∈ own1) : PSs X b (tS c own own' m) := imSs h fun _ _ _ q => q.post hs
theorem ss_pre {b : List Stmt} {m : S → R S Fl} (h : PSs X b (tS c own1 own' m)) (hs : ∀ i ∈ own1, i ∈ own) : PSs X b (tS c own own' m) := imSs h fun _ _ _ q => q.pre hs
theorem sp_pre {b : Stmt} {m : S → R S Fl} (h : PS X b (tS c own1 own' m)) (hs : ∀ i ∈ own1, i ∈ own) : PS X b (tS c own own' m) := imS h fun _ _ _ q => q.pre hs
theorem sp_post {b : Stmt} {m : S → R S Fl} (h : PS X b (tS c own own1 m)) (hs : ∀ i ∈ own', i ∈ own1) : PS X b (tS c own own' m) := imS h fun _ _ _ q => q.post hs
theorem ss_nil : PSs X [] (tS c own own (exs Γ [])) := imSs pss_nil fun E σ H ⟨s, G, G0, H0, r, en, q⟩ => q σ H G r en Lt.refl
theorem ss_cons {st : Stmt} {rest : List Stmt} {t : St} {ts : List St} (h1 : PS X st (tS c own own1 (ex Γ t))) (h2 : PSs X rest (tS c own1 own2 (exs Γ ts))) : PSs X (st :: rest) (tS c own own2 (exs Γ (t :: ts))) :=
  imSs (pss_cons h1 h2) fun E σ H ⟨s, G, G0, H0, r, en, q⟩ => by
    rw [exs_cons] at q
    refine ⟨s, G, G0, H0, r, en, ?_⟩
    cases e : ex Γ t s with
    | fail => rw [e] at q; exact q
    | exc => rw [e] at q; exact q
    | ok f s1 =>
      rw [e] at q
      cases f with
      | ret d => exact q
      | next => exact fun σ' H' G' r' en' l => ⟨s1, G', G0, H0, r', en', PostS.move (r := exs Γ ts s1) q l⟩
theorem sp_pass {pos : Pos} : PS X (.Pass pos) (tS c own own (ex Γ .pass)) := imS ps_pass fun E σ H ⟨s, G, G0, H0, r, en, q⟩ => q σ H G r en Lt.refl
theorem sp_doc {x j pos pos'} : PS X (.Expr (.Constant (.str x) j pos) pos') (tS c own own (ex Γ .pass)) := imS ps_doc fun E σ H ⟨s, G, G0, H0, r, en, q⟩ => q σ H G r en Lt.refl
theorem sp_expr {e : Expr} {t : T} {pos : Pos} (he : PE X e (tE c own own1 mu .sh (ev Γ t))) (hs : swapsWith e none pos.line X.env = pure false) : PS X (.Expr e pos) (tS c own own1 (ex Γ (.expr t))) := imS (ps_expr he hs) fun E σ H ⟨s, G, G0, H0, r, en, q⟩ => by
  replace q : PostS c G0 H0 own1 E G H ((ev Γ t s).bind fun _ s => .ok .next s) := q
  exact ⟨s, G, r, (q.ofE r en).mono fun d s1 q v H1 G1 r1 t1 _ => q σ H1 G1 r1 (en.step t1) (r.lt t1)⟩
theorem sp_ret {e : Expr} {t : T} {pos : Pos} (he : PE X e (tE c own own1 mu .sh (ev Γ t))) : PS X (.Return (some e) pos) (tS c own own' (ex Γ (.ret t))) := imS (ps_ret he) fun E σ H ⟨s, G, G0, H0, r, en, q⟩ => by
  replace q : PostS c G0 H0 own' E G H ((ev Γ t s).bind fun d s => .ok (.ret d) s) := q
  refine ⟨s, G, r, (q.ofE r en).mono fun d s1 q v H1 G1 r1 t1 rp => ?_⟩
  exact q v H1 G1 r1.bare ((en.step t1).sub fun i hi => by simp at hi) rp
theorem sp_retN {pos : Pos} : PS X (.Return none pos) (tS c own own' (ex Γ .retN)) := imS ps_retN fun E σ H ⟨s, G, G0, H0, r, en, q⟩ => by
  exact q .non H G r.bare (en.sub fun i hi => by simp at hi) rfl
theorem sp_if {e : Expr} {t : T} {a b : List Stmt} {ta tb : List St} {pos : Pos} (he : PT X e (tT c own own1 mu (evT Γ t))) (ha : PSs X a (tS c own1 own2 (exs Γ ta))) (hb : PSs X b (tS c own1 own2 (exs Γ tb))) : PS X (.If e a b pos) (tS c own own2 (ex Γ (.ifs t ta tb))) :=
  imS (ps_if he ha hb) fun E σ H ⟨s, G, G0, H0, r, en, q⟩ => by
  replace q : PostS c G0 H0 own2 E G H ((evT Γ t s).bind fun b s => if b then exs Γ ta s else exs Γ tb s) := by
    have e : ex Γ (.ifs t ta tb) s = (evT Γ t s).bind fun b s => if b then exs Γ ta s else exs Γ tb s := by
      show (ev Γ t s).bind _ = _
      unfold evT
      cases ev Γ t s <;> rfl
    rw [← e]; exact q
  refine ⟨s, G, r, (q.ofE r en).mono fun b s1 q H1 G1 r1 t1 => ?_⟩
  cases b with
  | true => exact ⟨s1, G1, G0, H0, r1, en.step t1, PostS.move (r := exs Γ ta s1) q (r.lt t1)⟩
  | false => exact ⟨s1, G1, G0, H0, r1, en.step t1, PostS.move (r := exs Γ tb s1) q (r.lt t1)⟩
/-! ### names are set -/
theorem Ent.same (en : Ent G0 H0 own G H) (h : ∀ i ∈ own', i ∈ own) : Ent G0 H0 own' G H := en.sub h
theorem asg_pre {i : Nat} {t : T} (h : tS c own (drop1 own1 i) (ex Γ (.asg i t)) E σ H) : tAsg (tE c own own1 mu .sh (ev Γ t)) (gName i) E σ H := by
  obtain ⟨s, G, G0, H0, r, en, q⟩ := h
  replace q : PostS c G0 H0 (drop1 own1 i) E G H ((ev Γ t s).bind fun d s => .ok .next (setV i d s)) := q
  refine ⟨s, G, r, (q.ofE r en).mono fun d s1 q v H1 G1 r1 t1 rp => ?_⟩
  exact q _ H1 G1 (r1.setSh rp) ((en.step t1).sub fun j hj => (mem_drop1.mp hj).1) (r.lt t1)
/-- a new container becomes the slot's own -/
theorem Rel.setFr {i : Nat} {a : Addr} {d : D} {v : V} {K : PySem.W.Frag} (r : Rel K own s G σ H) (ho : Own K H G.Z G.μ a d v) (nz : ¬ G.Z a) (nm : a ∉ G.μ) (ne : ∀ j ∈ own, G.ad j ≠ a) :
    Rel K (i :: drop1 own i) (setV i d s) { G with ad := fun j => if j = i then a else G.ad j } (σ.set i (some v)) H := by
  have adi : ∀ j, j ∈ i :: drop1 own i → (j = i ∧ (if j = i then a else G.ad j) = a) ∨ (j ≠ i ∧ j ∈ own ∧ (if j = i then a else G.ad j) = G.ad j) := fun j hj => by
    rcases List.mem_cons.mp hj with e | e
    · exact .inl ⟨e, by rw [if_pos e]⟩
    · obtain ⟨h1, h2⟩ := mem_drop1.mp e
      exact .inr ⟨h2, h1, by rw [if_neg h2]⟩
  refine ⟨by simp [setV, r.len], fun j e hj => ?_, r.zl, fun j hj => ?_, fun j hj k hk ee => ?_, r.sto, r.mz, r.mnd⟩
  · simp only [setV] at hj
    by_cases hji : j = i
    · subst hji
      have hl : j < s.env.length := by
        have := (List.getElem?_eq_some_iff.mp hj).1
        rw [List.length_set] at this; exact this
      rw [List.getElem?_set_self hl] at hj
      cases hj
      refine ⟨v, ?_, fun _ => ?_, fun z => absurd List.mem_cons_self z⟩
      · rw [List.getElem?_set_self (by rw [← r.len]; exact hl)]
      · show Own K H G.Z G.μ (if j = j then a else G.ad j) _ _
        rw [if_pos rfl]; exact ho
    · rw [List.getElem?_set_ne (fun z => hji z.symm)] at hj
      obtain ⟨u, e1, e2, e3⟩ := r.slot j e hj
      refine ⟨u, by rw [List.getElem?_set_ne (fun z => hji z.symm)]; exact e1, fun z => ?_, fun z => e3 fun q => z (List.mem_cons_of_mem _ (mem_drop1.mpr ⟨q, hji⟩))⟩
      rcases adi j z with ⟨e, _⟩ | ⟨_, h2, h3⟩
      · exact absurd e hji
      · show Own K H G.Z G.μ (if j = i then a else G.ad j) _ _
        rw [h3]; exact e2 h2
  · show ¬ G.Z (if j = i then a else G.ad j) ∧ (if j = i then a else G.ad j) ∉ G.μ ∧ ∃ o, H (if j = i then a else G.ad j) = some o
    rcases adi j hj with ⟨_, h3⟩ | ⟨_, h2, h3⟩
    · rw [h3]; exact ⟨nz, nm, ho.live.2⟩
    · rw [h3]; exact r.oz j h2
  · have ee : (if j = i then a else G.ad j) = (if k = i then a else G.ad k) := ee
    rcases adi j hj with ⟨h1, h3⟩ | ⟨h1, h2, h3⟩ <;> rcases adi k hk with ⟨h1', h3'⟩ | ⟨h1', h2', h3'⟩
    · rw [h1, h1']
    · rw [h3, h3'] at ee; exact absurd ee.symm (ne k h2')
    · rw [h3, h3'] at ee; exact absurd ee (ne j h2)
    · rw [h3, h3'] at ee; exact r.inj j h2 k h2' ee
theorem asg_preF {i : Nat} {t : T} (h : tS c own (i :: drop1 own1 i) (ex Γ (.asg i t)) E σ H) : tAsg (tE c own own1 mu .fr (ev Γ t)) (gName i) E σ H := by
  obtain ⟨s, G, G0, H0, r, en, q⟩ := h
  replace q : PostS c G0 H0 (i :: drop1 own1 i) E G H ((ev Γ t s).bind fun d s => .ok .next (setV i d s)) := q
  refine ⟨s, G, r, (q.ofE r en).mono fun d s1 q v H1 G1 r1 t1 ⟨a, ho, nz, nm, new⟩ => ?_⟩
  have ent := en.step t1
  refine q _ H1 _ (r1.setFr ho nz nm (r.newNe t1 new)) ⟨ent.stp, fun j hj => ?_⟩ ⟨(r.lt t1).zz, (r.lt t1).rd, (r.lt t1).mm⟩
  show H0 (if j = i then a else G1.ad j) = none
  by_cases hji : j = i
  · rw [if_pos hji]; exact en.stp.fresh new
  · rw [if_neg hji]
    rcases List.mem_cons.mp hj with e | e
    · exact absurd e hji
    · exact ent.new j (mem_drop1.mp e).1
end
end Lb

set_option maxRecDepth 100000
set_option maxHeartbeats 1000000
namespace Lb
open PySem PySem.Spec PyProof.Rows L2
section
variable {X : Cx} {c : Cfg} {Γ : List Fn} {own own1 own2 own3 ownL own' : List Nat} {mu mu1 mu2 : Bool} {e : Expr} {es : List Expr} {t : T} {ts as : List T} {pos : Pos}
theorem sp_asg {i : Nat} {x : Str} {pos' : Pos} (hN : X.N.Nodup) (hi : X.N[i]? = some x) (hx : Loc X.env.scope x) (he : PE X e (tE c own own1 mu .sh (ev Γ t))) (hs : swapsWith e (some (.Name x pos')) pos.line X.env = pure false) (hf : X.fn x = true ∨ X.env.scope.names.lookup x = some .local) :
    PS X (.Assign [.Name x pos'] e pos) (tS c own (drop1 own1 i) (ex Γ (.asg i t))) := imS (ps_set hN hi hx he hs hf) fun _ _ _ h => asg_pre h
theorem sp_asgF {i : Nat} {x : Str} {pos' : Pos} (hN : X.N.Nodup) (hi : X.N[i]? = some x) (hx : Loc X.env.scope x) (he : PE X e (tE c own own1 mu .fr (ev Γ t))) (hs : swapsWith e (some (.Name x pos')) pos.line X.env = pure false) (hf : X.fn x = true ∨ X.env.scope.names.lookup x = some .local) :
    PS X (.Assign [.Name x pos'] e pos) (tS c own (i :: drop1 own1 i) (ex Γ (.asg i t))) := imS (ps_set hN hi hx he hs hf) fun _ _ _ h => asg_preF h
/-- a, b = e -/
theorem sp_unp {g : Expr} {tg : Tg} (he : PE X e (tE c own own1 mu .sh (ev Γ t))) (hg : PG X g (tG c own1 tg)) (hs : swapsWithSole [g] e pos.line X.env = pure false) (hw : swappedStores [g] e X.env = pure none) (h1 : (assignEach [g] X.env).map (·.2) = [assign g X.env]) :
    PS X (.Assign [g] e pos) (tS c own (offT own1 (slotsT tg)) (ex Γ (.unp tg t))) := imS (ps_asg he hg hs hw h1) fun E σ H ⟨s, G, G0, H0, r, en, q⟩ => by
  replace q : PostS c G0 H0 (offT own1 (slotsT tg)) E G H ((ev Γ t s).bind fun d s => (opt s (setT tg d s)).bind fun s' _ => .ok .next s') := q
  refine ⟨s, G, r, (q.ofE r en).mono fun d s1 q v H1 G1 r1 t1 rp => ?_⟩
  cases e1 : setT tg d s1 with
  | none => rw [e1] at q; exact q.elim
  | some s2 =>
    rw [e1] at q
    exact ⟨d, s1, G1, s2, r1, rp, e1, fun σ' r2 _ => q σ' H1 G1 r2 ((en.step t1).sub fun i hi => (mem_offT.mp hi).1) (r.lt t1)⟩
/-- a, b = e, f with local names -/
theorem sp_par {i j : Nat} {x y : Str} {a b : Expr} {ta tb : T} {px py pt : Pos} {kt k2 pt2} (hc : X.calm = true) (hN : X.N.Nodup) (hi : X.N[i]? = some x) (hj : X.N[j]? = some y) (hij : i ≠ j)
    (hx : X.env.scope.names.lookup x = some .local) (hy : X.env.scope.names.lookup y = some .local) (ha : PA X [a, b] (tAs c own own1 mu false (evs Γ [ta, tb])))
    (hw : swappedStores [.Tuple [.Name x px, .Name y py] kt pt] (.Tuple [a, b] k2 pt2) X.env = pure (some [x, y]))
    (hs : swapsWithSole [.Tuple [.Name x px, .Name y py] kt pt] (.Tuple [a, b] k2 pt2) pos.line X.env = pure false) :
    PS X (.Assign [.Tuple [.Name x px, .Name y py] kt pt] (.Tuple [a, b] k2 pt2) pos) (tS c own (drop1 (drop1 own1 i) j) (ex Γ (.par [i, j] [ta, tb]))) := imS (ps_par hc hN hi hj hij hx hy ha hw hs) fun E σ H ⟨s, G, G0, H0, r, en, q⟩ => by
  replace q : PostS c G0 H0 (drop1 (drop1 own1 i) j) E G H ((evs Γ [ta, tb] s).bind fun ds s => (opt s (setVs [i, j] ds s)).bind fun s' _ => .ok .next s') := q
  refine ⟨s, G, r, (q.ofE r en).evs.mono fun ds s1 ⟨hl, q⟩ vs H1 G1 r1 t1 rp => ?_⟩
  replace rp : Reps c.K H1 G1.Z G1.μ ds vs := rp
  match ds, hl with
  | [d1, d2], _ =>
    obtain ⟨v1, _, rfl, h1, v2, _, rfl, h2, rfl⟩ := rp
    refine ⟨v1, v2, rfl, ?_⟩
    exact q _ H1 G1 ((r1.setSh h1).setSh h2) ((en.step t1).sub fun k hk => (mem_drop1.mp (mem_drop1.mp hk).1).1) (r.lt t1)
theorem sp_par3 {i j l : Nat} {x y z : Str} {a b d : Expr} {ta tb td : T} {px py pz pt : Pos} {kt k2 pt2} (hc : X.calm = true) (hN : X.N.Nodup) (hi : X.N[i]? = some x) (hj : X.N[j]? = some y) (hl : X.N[l]? = some z) (hij : i ≠ j) (hil : i ≠ l) (hjl : j ≠ l)
    (hx : X.env.scope.names.lookup x = some .local) (hy : X.env.scope.names.lookup y = some .local) (hz : X.env.scope.names.lookup z = some .local) (ha : PA X [a, b, d] (tAs c own own1 mu false (evs Γ [ta, tb, td])))
    (hw : swappedStores [.Tuple [.Name x px, .Name y py, .Name z pz] kt pt] (.Tuple [a, b, d] k2 pt2) X.env = pure (some [x, y, z]))
    (hs : swapsWithSole [.Tuple [.Name x px, .Name y py, .Name z pz] kt pt] (.Tuple [a, b, d] k2 pt2) pos.line X.env = pure false) :
    PS X (.Assign [.Tuple [.Name x px, .Name y py, .Name z pz] kt pt] (.Tuple [a, b, d] k2 pt2) pos) (tS c own (drop1 (drop1 (drop1 own1 i) j) l) (ex Γ (.par [i, j, l] [ta, tb, td]))) := imS (ps_par3 hc hN hi hj hl hij hil hjl hx hy hz ha hw hs) fun E σ H ⟨s, G, G0, H0, r, en, q⟩ => by
  replace q : PostS c G0 H0 (drop1 (drop1 (drop1 own1 i) j) l) E G H ((evs Γ [ta, tb, td] s).bind fun ds s => (opt s (setVs [i, j, l] ds s)).bind fun s' _ => .ok .next s') := q
  refine ⟨s, G, r, (q.ofE r en).evs.mono fun ds s1 ⟨hl, q⟩ vs H1 G1 r1 t1 rp => ?_⟩
  replace rp : Reps c.K H1 G1.Z G1.μ ds vs := rp
  match ds, hl with
  | [d1, d2, d3], _ =>
    obtain ⟨v1, _, rfl, h1, v2, _, rfl, h2, v3, _, rfl, h3, rfl⟩ := rp
    refine ⟨v1, v2, v3, rfl, ?_⟩
    exact q _ H1 G1 (((r1.setSh h1).setSh h2).setSh h3) ((en.step t1).sub fun k hk => (mem_drop1.mp (mem_drop1.mp (mem_drop1.mp hk).1).1).1) (r.lt t1)
/-- xs.append(e) -/
theorem sp_app {i : Nat} {x : Str} {pn apos cpos : Pos} (hN : X.N[i]? = some x) (hv : Vis X.env.scope x) (hd : (x == ("__debug__" : Str)) = false) (hcd : (x == ("__classdict__" : Str)) = false) (hi : i ∈ own) (hi1 : i ∈ own1) (ha : PA X [e] (tAs c own own1 mu false (evs Γ [t])))
    (hbase : attributeBase (.Name x pn) "append" X.env (eval (.Name x pn) X.env) = eval (.Name x pn) X.env)
    (hfew : ((backTo cpos (starEach [e] X.env)).all (fun x => !x.1) && (backToKw cpos (keywordEach [] X.env)).all (fun x => x.1.isSome) && decide ([e].length + ([] : List Keyword).length + (if ([] : List Keyword).isEmpty then 0 else 1) < 30)) = true)
    (hline : (apos.endLine == cpos.line) = true) (hs : starEach [e] X.env = (false, eval e X.env) :: starEach [] X.env) :
    PS X (.Expr (.Call (.Attribute (.Name x pn) "append" apos) [e] [] cpos) pos) (tS c own own1 (ex Γ (.app i t))) :=
  imS (ps_expr (pe_bm PySem.F.plainAttrs_list PySem.F.slot_list_append PySem.F.type_list_append mt_append (pe_var hN hv hd hcd) ha hbase hfew hline hs) rfl) fun E σ H ⟨s, G, G0, H0, r, en, q⟩ => by
  replace q : PostS c G0 H0 own1 E G H ((opt s (lstAt i s)).bind fun _ s => (ev Γ t s).bind fun d s => match lstAt i s with
      | some xs => if xs.length < sizeLine then .ok .next (setV i (.lst (xs ++ [d])) s) else .fail
      | none => .fail) := q
  cases e0 : lstAt i s with
  | none => rw [e0] at q; exact q.elim
  | some ds0 =>
    rw [e0, opt_some, R.bind_ok] at q
    obtain ⟨v0, f1, f2, _⟩ := r.slot i _ (lstAt_some e0)
    obtain ⟨f3, vs0, f4, _⟩ := f2 hi
    refine ⟨v0, f1, ?_, s, G, r, ?_⟩
    · rw [f3]; exact .inl ⟨rfl, vs0, .inl (.inl f4)⟩
    · rw [evs_cons]
      simp only [evs_nil, Post.bind, Post.ok]
      refine (q.ofE r en).mono fun d s1 q vs H1 G1 r1 t1 rp => ?_
      replace rp : Reps c.K H1 G1.Z G1.μ [d] vs := rp
      obtain ⟨y, _, rfl, h1, rfl⟩ := rp
      cases e1 : lstAt i s1 with
      | none => rw [e1] at q; exact q.elim
      | some xs =>
        rw [e1] at q
        replace q : PostS c G0 H0 own1 E G H (if xs.length < sizeLine then R.ok .next (setV i (.lst (xs ++ [d])) s1) else .fail) := q
        by_cases hz : xs.length < sizeLine
        · rw [if_pos hz] at q
          obtain ⟨v1, g1, g2, _⟩ := r1.slot i _ (lstAt_some e1)
          obtain ⟨g3, vs1, g4, g5, g6⟩ := g2 hi1
          rw [f1] at g1
          cases g1
          rw [g3]
          have hlen := g6.length
          obtain ⟨rN, tN⟩ := r1.setOwn hi1 (lstAt_some e1) rfl (vs' := vs1 ++ [y]) (ds' := xs ++ [d]) (by simp; omega) (g6.append (Reps.one h1))
          refine ⟨G1.ad i, vs1, y, rfl, rfl, g4, by omega, ?_⟩
          exact q σ _ G1 rN ((en.step t1).step tN) ((r.lt t1).trans (r1.lt tN))
        · rw [if_neg hz] at q; exact q.elim
/-- x op= e, ints -/
theorem sp_aug {i : Nat} {x : Str} {op : Operator} {p : P} {f : Int → Int → Int} {pos' : Pos} (hN : X.N.Nodup) (hi : X.N[i]? = some x) (hx : Loc X.env.scope x) (hio : i ∉ own) (he : PE X e (tE c own own1 mu .sh (ev Γ t))) (ho : PIp X op (ipI f)) (hp : ∀ a b : Int, augR p (.int a) (.int b) = some (.int (f a b))) (hp0 : ∀ a b z, augR p a b = some z → ∃ i j, a = .int i ∧ b = .int j) (hf : X.fn x = true ∨ X.env.scope.names.lookup x = some .local) :
    PS X (.AugAssign (.Name x pos') op e pos) (tS c own (drop1 own1 i) (ex Γ (.aug i p t))) := imS (ps_aug hN hi hx he ho hf) fun E σ H ⟨s, G, G0, H0, r, en, q⟩ => by
  replace q : PostS c G0 H0 (drop1 own1 i) E G H ((getV i s).bind fun x s => (ev Γ t s).bind fun y s => (opt s (augR p x y)).bind fun z s => .ok .next (setV i z s)) := q
  obtain ⟨d, e1, q⟩ := (q.ofE r en).getV
  obtain ⟨v, e2, e3⟩ := relSh r hio e1
  refine ⟨v, e2, s, G, r, (q.ofE r en).mono fun y s1 q w H1 G1 r1 t1 rp => ?_⟩
  cases e4 : augR p d y with
  | none => rw [e4] at q; exact q.elim
  | some z =>
    rw [e4] at q
    obtain ⟨a, b, rfl, rfl⟩ := hp0 _ _ _ e4
    rw [hp] at e4
    cases e4
    refine ⟨a, b, e3, rp, ?_⟩
    exact q _ H1 G1 (r1.setSh (v := .int (f a b)) rfl) ((en.step t1).sub fun j hj => (mem_drop1.mp hj).1) (r.lt t1)
theorem aug_add (a b : Int) : augR .add (.int a) (.int b) = some (.int (a + b)) := rfl
theorem aug_sub (a b : Int) : augR .sub (.int a) (.int b) = some (.int (a - b)) := rfl
theorem aug_add0 (a b z : D) (h : augR .add a b = some z) : ∃ i j, a = .int i ∧ b = .int j := by
  cases a <;> cases b <;> first | exact ⟨_, _, rfl, rfl⟩ | cases h
theorem aug_sub0 (a b z : D) (h : augR .sub a b = some z) : ∃ i j, a = .int i ∧ b = .int j := by
  cases a <;> cases b <;> first | exact ⟨_, _, rfl, rfl⟩ | cases h
/-- o[i] = e, o in the store -/
theorem Rel.setM {K : PySem.W.Frag} {s : S} {G : Gh} {σ : L2.St} {H : Hp} {n : Nat} {a : Addr} {ds' : List D} {vs' : List V} (r : Rel K own s G σ H) (ha : G.μ[n]? = some a) (hz : vs'.length ≤ sizeLine) (h : Reps K H G.Z G.μ ds' vs') :
    Rel K own { s with st := s.st.set n ds' } G σ (upd H a (.lst vs')) ∧ Stp own own mu G H G (upd H a (.lst vs')) := by
  have hm := List.mem_of_getElem? ha
  have nz := r.mz a hm
  have hr : ∀ p u, G.Z p → Rd H p u → Rd (upd H a (.lst vs')) p u := fun p u z w => rd_ne (fun ee => nz (ee ▸ z)) w
  have mm : ∀ (n : Nat) a, G.μ[n]? = some a → G.μ[n]? = some a := fun _ _ q => q
  have live : ∀ p u, H p = some u → ∃ o', (upd H a (.lst vs')) p = some o' := fun p u q => by
    by_cases hp : p = a
    · exact ⟨_, by rw [hp]; exact upd_same⟩
    · exact ⟨u, by rw [upd_ne hp]; exact q⟩
  refine ⟨⟨r.len, fun j d hj => ?_, fun p z => ?_, fun j hj => ⟨(r.oz j hj).1, (r.oz j hj).2.1, ?_⟩, r.inj, ⟨by simp [r.sto.len], fun k xs q => ?_⟩, r.mz, r.mnd⟩, ⟨fun p o q hm' _ => by rw [upd_ne (show p ≠ a from fun ee => hm' (by rw [ee]; exact hm))]; exact q, live, fun _ z => z, fun _ z => .inl z, rfl, ⟨[], by simp, fun _ q => by simp at q⟩, fun _ q => q⟩⟩
  · obtain ⟨v, e1, e2, e3⟩ := r.slot j d hj
    exact ⟨v, e1, fun z => Own.mono (fun _ q => q) hr mm (fun u q => by rw [upd_ne fun ee => (r.oz j z).2.1 (by rw [ee]; exact hm)]; exact q) (e2 z), fun z => Rep.mono (fun _ q => q) hr mm _ _ (e3 z)⟩
  · obtain ⟨u, q⟩ := r.zl p z
    exact live p u q
  · obtain ⟨_, _, u, q⟩ := r.oz j hj
    exact live _ u q
  · have q : (s.st.set n ds')[k]? = some xs := q
    by_cases hk : n = k
    · subst hk
      have hl : n < s.st.length := by
        have := (List.getElem?_eq_some_iff.mp q).1
        rw [List.length_set] at this; exact this
      rw [List.getElem?_set_self hl] at q
      cases q
      exact ⟨a, vs', ha, upd_same, hz, Reps.mono (fun _ z => z) hr mm _ _ h⟩
    · rw [List.getElem?_set_ne hk] at q
      obtain ⟨b, ws, e1, e2, e3, e4⟩ := r.sto.at_ k xs q
      refine ⟨b, ws, e1, ?_, e3, Reps.mono (fun _ z => z) hr mm _ _ e4⟩
      rw [upd_ne fun ee => ?_]; exact e2
      rw [ee] at e1
      exact hk ((List.getElem?_inj (List.getElem?_eq_some_iff.mp ha).1 r.mnd).mp (ha.trans e1.symm))
theorem sp_setR {eo ei : Expr} {to ti : T} {tpos : Pos} (he : PE X e (tE c own own1 mu .sh (ev Γ t))) (ho : PE X eo (tE c own1 own2 mu1 .sh (ev Γ to))) (hi : PE X ei (tE c own2 own3 mu2 .sh (ev Γ ti)))
    (hasg : ∀ v, assign (.Subscript eo ei tpos) X.env v = (do
      let ov ← holding [v] (eval eo X.env)
      let iv ← holding [v, ov] (eval ei X.env)
      standAt tpos
      holding [v, ov, iv] (setItem ov iv v)
      release [v, ov, iv] [])) (hs : swapsWithSole [.Subscript eo ei tpos] e pos.line X.env = pure false) (hw : swappedStores [.Subscript eo ei tpos] e X.env = pure none) (h1 : (assignEach [.Subscript eo ei tpos] X.env).map (·.2) = [assign (.Subscript eo ei tpos) X.env]) :
    PS X (.Assign [.Subscript eo ei tpos] e pos) (tS c own own3 (ex Γ (.setR to ti t))) := imS (ps_asg he (pg_sub ho hi set_list hasg) hs hw h1) fun E σ H ⟨s, G, G0, H0, r, en, q⟩ => by
  replace q : PostS c G0 H0 own3 E G H ((ev Γ t s).bind fun d s => (ev Γ to s).bind fun r s => (ev Γ ti s).bind fun k s => match r, k with
      | .ref n, .int i => (match s.st[n]? with
        | some xs => (match setL xs i d with
          | some ys => .ok .next { s with st := s.st.set n ys }
          | none => .fail)
        | none => .fail)
      | _, _ => .fail) := q
  refine ⟨s, G, r, (q.ofE r en).mono fun d s1 q v H1 G1 r1 t1 rp => ?_⟩
  have en1 := en.step t1
  have q1 := PostS.move q (r.lt t1)
  refine ⟨s1, G1, r1, (q1.ofE r1 en1).mono fun o s2 q vo H2 G2 r2 t2 rpo => ?_⟩
  have en2 := en1.step t2
  have q2 := PostS.move q (r1.lt t2)
  refine ⟨s2, G2, r2, (q2.ofE r2 en2).mono fun k s3 q vk H3 G3 r3 t3 rpk => ?_⟩
  have en3 := en2.step t3
  have rp3 : Rep c.K H3 G3.Z G3.μ d v := r2.rep t3 (r1.rep t2 rp)
  have rpo3 : Rep c.K H3 G3.Z G3.μ o vo := r2.rep t3 rpo
  clear q1 q2
  cases o with
  | ref n =>
    cases k with
    | int i =>
      cases e1 : s3.st[n]? with
      | none => simp only [e1] at q; exact q.elim
      | some xs =>
        simp only [e1] at q
        cases e2 : setL xs i d with
        | none => simp only [e2] at q; exact q.elim
        | some ys =>
          simp only [e2] at q
          unfold setL at e2
          cases e3 : L2.ixN xs.length i with
          | none => rw [e3] at e2; cases e2
          | some j =>
            rw [e3] at e2
            cases e2
            obtain ⟨a, ws, g1, g2, g3, g4⟩ := r3.sto.at_ n xs e1
            obtain ⟨a', h1, h2⟩ := rpo3
            rw [g1] at h1
            cases h1
            subst h2
            have hlen := g4.length
            obtain ⟨r4, t4⟩ := r3.setM (mu := false) g1 (vs' := ws.set j v) (ds' := xs.set j d) (by simpa using g3) (g4.set j rp3)
            refine ⟨a, ws, i, j, rfl, rpk, g2, by rw [hlen]; exact e3, ?_⟩
            exact q σ _ G3 r4 (en3.step t4) ((r2.lt t3).trans (r3.lt t4))
    | _ => exact q.elim
  | _ => exact q.elim
/-! ### errors of one's own -/
theorem pmk_own0 {C : Addr} {bmB : List Value} {B newId initId : String} {x : Str} {p : Pos} (F : ExcBaseFacts B newId initId bmB) (q : PySem.W.excIn X.K C bmB newId = true) (gC : X.mg x = some (.ref C))
    (kC : PySem.W.keepIn X.K (.ref C) = true) (r : Raises X (.ref C)) (hg : Gl X x) (hdb : (x == ("__debug__" : Str)) = false) :
    PMk X (.Call (.Name x p) [] [] pos) (fun _ H Q => Q (.ref C) none H) := by
  intro pins s σ H Q I h
  refine wpAny_Call_Name_kw (ld_glob I hg gC ?_ hdb)
  refine PySem.W.callWith_K0 I.kIn kC ?_
  show wpAny _ _ (call (.ref C) []) _ _ _
  obtain ⟨bm, N, nm, qn, bs, hdct, sn, sub, ab, col, dd, k0, k1, k2, k3, k5, mN, hC, hN, hni, T⟩ := exc_obj I.kIn q
  refine wpAny_call_exc_subT F T hC hN hni (fun h' e hm => ?_) (Nat.zero_le _)
  exact mk_of I hm r h (I.hok.gone hm.new)
theorem sp_raise0 {C : Addr} {x : Str} (hc : X.calm = true) (hmg : c.mg = X.mg) (tk : Takes X c.W) (gC : X.mg x = some (.ref C)) (he : PMk X e (fun _ H Q => Q (.ref C) none H)) : PS X (.Raise (some e) none pos) (tS c own own' (ex Γ (.raise x []))) := imS (ps_raise hc tk he) fun E σ H ⟨s, G, G0, H0, r, en, q⟩ => by
  obtain ⟨G1, r1, t1⟩ := r.less (own' := []) (fun i hi => by simp at hi)
  exact q (.ref C) none σ H G1 r1 (en.step t1) ⟨C, by rw [hmg]; exact gC, rfl, rfl, rfl⟩
end
end Lb

set_option maxRecDepth 100000
set_option maxHeartbeats 1000000
namespace Lb
open PySem PySem.Spec PyProof.Rows L2
theorem keepTo_length : ∀ (e0 e : List (Option D)), (keepTo e0 e).length = e.length
  | [], e => by unfold keepTo; rfl
  | some _ :: as, [] => rfl
  | none :: as, [] => rfl
  | some _ :: as, b :: bs => by show (b :: keepTo as bs).length = _; rw [List.length_cons, List.length_cons, keepTo_length as bs]
  | none :: as, b :: bs => by show (none :: keepTo as bs).length = _; rw [List.length_cons, List.length_cons, keepTo_length as bs]
theorem keepTo_some : ∀ (e0 e : List (Option D)) (j : Nat) (d : D), (keepTo e0 e)[j]? = some (some d) → e[j]? = some (some d)
  | [], e, j, d, h => by unfold keepTo at h; exact h
  | some _ :: as, [], _, _, h => h
  | none :: as, [], _, _, h => h
  | some _ :: as, b :: bs, 0, d, h => h
  | some _ :: as, b :: bs, j + 1, d, h => keepTo_some as bs j d h
  | none :: as, b :: bs, 0, d, h => by cases h
  | none :: as, b :: bs, j + 1, d, h => keepTo_some as bs j d h
section
variable {X : Cx} {c : Cfg} {Γ : List Fn} {own own1 own2 ownL ownB own' : List Nat} {mu : Bool} {e : Expr} {t : T} {as : List T} {pos : Pos}
theorem Rel.kept {K : PySem.W.Frag} {s : S} {G : Gh} {σ : L2.St} {H : Hp} {e0 : List (Option D)} (r : Rel K own s G σ H) : Rel K own { s with env := keepTo e0 s.env } G σ H :=
  r.slots (by rw [keepTo_length, r.len]) fun j d e => ⟨keepTo_some _ _ _ _ e, rfl⟩
def forBody (Γ : List Fn) (tg : Tg) (body : List St) : D → S → R S Fl := fun x s1 => match setT tg x s1 with
  | none => .fail
  | some s2 => exs Γ body s2
theorem sp_for {tgE iter : Expr} {body : List Stmt} {k : IK} {tg : Tg} {ts : List St} (hp : PassesOwn (model X.prog X.w) X.A X.env X.xe) (hc : X.calm = true) (hi : PI X tgE iter (tI c own own1 (evI Γ k as))) (hsub : ∀ i ∈ ownL, i ∈ own1) (hdis : ∀ i ∈ slotsT tg, i ∉ ownL)
    (hg : PG X tgE (tG c ownL tg)) (hb : PSs X body (tS c ownL ownL (exs Γ ts))) (hs : ∀ x, foldedSetIterable iter X.env x = pure x) : PS X (.For tgE iter body [] pos) (tS c own ownL (ex Γ (.for_ k as tg ts))) :=
  imS (ps_for hp hc hi hg hb hs) fun E σ H ⟨s, G, G0, H0, r, en, q⟩ => by
  replace q : PostS c G0 H0 ownL E G H ((evI Γ k as s).bind fun xs s => forGo (forBody Γ tg ts) s.env xs s) := by
    have e : ex Γ (.for_ k as tg ts) s = (evI Γ k as s).bind fun xs s => forGo (forBody Γ tg ts) s.env xs s := by
      show (evs Γ as s).bind _ = _
      unfold evI
      cases evs Γ as s <;> rfl
    rw [← e]; exact q
  refine ⟨s, G, r, (q.ofE r en).mono fun xs s1 q J H1 G1 r1 t1 wk => ?_⟩
  obtain ⟨G2, r2, t2⟩ := r1.less hsub
  have en2 := (en.step t1).step t2
  have lt2 : Lt G H G2 H1 := (r.lt t1).trans (r1.lt t2)
  generalize he0 : s1.env = e0 at q
  refine ⟨fun i m σ' H' => m = xs.length - i ∧ i ≤ xs.length ∧ ∃ si Gi, Rel c.K ownL si Gi σ' H' ∧ Ent G0 H0 ownL Gi H' ∧ Lt G1 H1 Gi H' ∧ PostS c G0 H0 ownL E Gi H' (forGo (forBody Γ tg ts) e0 (xs.drop i) si), ⟨xs.length, by simp, Nat.zero_le _, s1, G2, r2, en2, r1.lt t2, by simpa using q.move lt2⟩, ?_⟩
  rintro i m σ4 H4 ⟨rfl, hi, si, Gi, r4, en4, lt4, q4⟩
  have wk2 := wk H4 Gi.Z Gi.μ lt4.zz lt4.rd lt4.mm
  by_cases hend : i = xs.length
  · subst hend
    rw [List.drop_length] at q4
    exact .inl ⟨wk2.2.1, q4 σ4 H4 Gi r4 en4 Lt.refl⟩
  · have hi' : i < xs.length := Nat.lt_of_le_of_ne hi hend
    rw [List.drop_eq_getElem_cons hi'] at q4
    refine .inr ⟨wk2.1 i hi', fun σ' H' => ∃ si Gi, Rel c.K ownL si Gi σ' H' ∧ Ent G0 H0 ownL Gi H' ∧ Lt G1 H1 Gi H' ∧ PostS c G0 H0 ownL E Gi H' (forGo (forBody Γ tg ts) e0 (xs.drop (i + 1)) si), ?_, ?_⟩
    · rintro σ' H' ⟨sj, Gj, g1, g2, g3, g4⟩
      exact ⟨xs.length - (i + 1), by omega, rfl, hi', sj, Gj, g1, g2, g3, g4⟩
    · intro x H5 y
      obtain ⟨Z5, g5, rp5⟩ := wk2.2.2 i _ x H5 (List.getElem?_eq_getElem hi') y
      obtain ⟨r5, t5⟩ := r4.grow (mu := false) g5
      have en5 := en4.step t5
      replace q4 : PostS c G0 H0 ownL E Gi H4 ((forBody Γ tg ts xs[i] si).bind fun f s => match f with
        | .next => forGo (forBody Γ tg ts) e0 (xs.drop (i + 1)) { s with env := keepTo e0 s.env }
        | .ret d => .ok (.ret d) s) := q4
      unfold forBody at q4
      cases es : setT tg xs[i] si with
      | none => rw [es] at q4; exact q4.elim
      | some s6 =>
        rw [es] at q4
        refine ⟨xs[i], si, _, s6, r5, rp5, es, fun σ6 r6 _ => ?_⟩
        rw [offT_off hdis] at r6
        have lt5 := r4.lt t5
        refine ⟨s6, _, G0, H0, r6, en5, ?_⟩
        replace q4 : PostS c G0 H0 ownL E Gi H4 ((exs Γ ts s6).bind fun f s => match f with
          | .next => forGo (forBody Γ tg ts) e0 (xs.drop (i + 1)) { s with env := keepTo e0 s.env }
          | .ret d => .ok (.ret d) s) := q4
        cases eb : exs Γ ts s6 with
        | fail => rw [eb] at q4; exact q4
        | exc => rw [eb] at q4; exact q4
        | ok f s7 =>
          rw [eb] at q4
          cases f with
          | ret d => exact q4
          | next => exact fun σ7 H7 G7 r7 en7 lt7 => ⟨_, G7, r7.kept, en7, (lt4.trans lt5).trans lt7, PostS.move (r := forGo (forBody Γ tg ts) e0 (xs.drop (i + 1)) { s7 with env := keepTo e0 s7.env }) q4 (lt5.trans lt7)⟩
theorem sp_while {body : List Stmt} {ts : List St} (hp : PassesOwn (model X.prog X.w) X.A X.env X.xe) (hsub : ∀ i ∈ ownL, i ∈ own) (hc : PT X e (tT c ownL ownL mu (evT Γ t))) (hb : PSs X body (tS c ownL ownL (exs Γ ts))) : PS X (.While e body [] pos) (tS c own ownL (ex Γ (.while_ t ts))) :=
  imS (ps_while hp hc hb) fun E σ H ⟨s, G, G0, H0, r, en, q⟩ => by
  replace q : PostS c G0 H0 ownL E G H (whGo (evT Γ t) (exs Γ ts) s.env fuel s) := q
  obtain ⟨G1, r1, t1⟩ := r.less hsub
  generalize fuel = n0 at q
  generalize s.env = e0 at q
  refine ⟨fun m σ' H' => ∃ si Gi, Rel c.K ownL si Gi σ' H' ∧ Ent G0 H0 ownL Gi H' ∧ PostS c G0 H0 ownL E Gi H' (whGo (evT Γ t) (exs Γ ts) e0 m si), ⟨n0, s, G1, r1, en.step t1, q.move (r.lt t1)⟩, ?_⟩
  rintro m σ2 H2 ⟨si, Gi, r2, en2, q2⟩
  cases m with
  | zero => exact q2.elim
  | succ m =>
    replace q2 : PostS c G0 H0 ownL E Gi H2 ((evT Γ t si).bind fun b s => if b then (exs Γ ts s).bind fun f s => (match f with
      | .next => whGo (evT Γ t) (exs Γ ts) e0 m { s with env := keepTo e0 s.env }
      | .ret d => .ok (.ret d) s) else .ok .next s) := q2
    refine ⟨si, Gi, r2, (q2.ofE r2 en2).mono fun b s3 q3 H3 G3 r3 t3 => ?_⟩
    have lt3 := r2.lt t3
    have en3 := en2.step t3
    cases b with
    | false => exact q3 σ2 H3 G3 r3 en3 lt3
    | true =>
      show ∃ N : L2.St → Hp → Prop, _ ∧ _
      refine ⟨fun σ' H' => ∃ si Gi, Rel c.K ownL si Gi σ' H' ∧ Ent G0 H0 ownL Gi H' ∧ PostS c G0 H0 ownL E Gi H' (whGo (evT Γ t) (exs Γ ts) e0 m si), fun σ' H' hh => ⟨m, Nat.lt_succ_self m, hh⟩, s3, G3, G0, H0, r3, en3, ?_⟩
      replace q3 : PostS c G0 H0 ownL E Gi H2 ((exs Γ ts s3).bind fun f s => (match f with
        | .next => whGo (evT Γ t) (exs Γ ts) e0 m { s with env := keepTo e0 s.env }
        | .ret d => .ok (.ret d) s)) := q3
      cases eb : exs Γ ts s3 with
      | fail => rw [eb] at q3; exact q3
      | exc => rw [eb] at q3; exact q3
      | ok f s7 =>
        rw [eb] at q3
        cases f with
        | ret d => exact q3
        | next => exact fun σ7 H7 G7 r7 en7 lt7 => ⟨_, G7, r7.kept, en7, PostS.move (r := whGo (evT Γ t) (exs Γ ts) e0 m { s7 with env := keepTo e0 s7.env }) q3 (lt3.trans lt7)⟩
/-! ### comprehensions -/
section
variable {elt tgE iter : Expr} {ifs : List Expr} {scope : Scope} {ownN : List (Str × Nat)} {k : IK} {tg : Tg} {ti : List T} {te : T}
theorem se_lc (hc : X.calm = true) (hN : X.N.Nodup) (hi : PI X tgE iter (tI c own own1 (evI Γ k as))) (ok : BlkOk X.N X.env.scope scope ownN) (hsub : ∀ i ∈ own2, i ∈ own1) (hvs : ∀ i ∈ ownN.map (·.2), i ∉ own2) (hst : ∀ i ∈ slotsT tg, i ∈ ownN.map (·.2))
    (hg : ∀ (s : Shared) (H : Hp) (C : Addr) (cl : List (Str × Addr)) (fp : List Addr), PG (X.blk s H scope (compEnvC scope cl C X.env) fp) tgE (tG c.inn own2 tg))
    (ht : ∀ (s : Shared) (H : Hp) (C : Addr) (cl : List (Str × Addr)) (fp : List Addr), PTs (X.blk s H scope (compEnvC scope cl C X.env) fp) ifs (tT c.inn own2 own2 mu (evAll Γ ti)))
    (he : ∀ (s : Shared) (H : Hp) (C : Addr) (cl : List (Str × Addr)) (fp : List Addr), PE (X.blk s H scope (compEnvC scope cl C X.env) fp) elt (tE c.inn own2 own2 mu .sh (ev Γ te))) (hs : ∀ x, foldedSetIterable iter X.env x = pure x) :
    PE X (.ListComp elt [⟨tgE, iter, ifs, 0⟩] scope pos) (tE c own own2 mu .fr (ev Γ (.lc k as tg (ownN.map (·.2)) ti te))) :=
  imE (pe_lc hc hN hi ok hg ht he hs) fun σ H Q h => lc_pre hsub hvs hst h
theorem sp_setLc {i : Nat} {y : Str} {py spos : Pos} (hc : X.calm = true) (hN : X.N.Nodup) (hy : X.N[i]? = some y) (hyl : X.env.scope.names.lookup y = some .local) (hsw : swapsWith (.ListComp elt [⟨tgE, iter, ifs, 0⟩] scope pos) (some (.Name y py)) spos.line X.env = pure true)
    (hi : PI X tgE iter (tI c own own1 (evI Γ k as))) (ok : BlkOk X.N X.env.scope scope ownN) (hsub : ∀ i ∈ own2, i ∈ own1) (hvs : ∀ i ∈ ownN.map (·.2), i ∉ own2) (hst : ∀ i ∈ slotsT tg, i ∈ ownN.map (·.2))
    (hg : ∀ (s : Shared) (H : Hp) (C : Addr) (cl : List (Str × Addr)) (fp : List Addr), PG (X.blk s H scope (compEnvC scope cl C X.env) fp) tgE (tG c.inn own2 tg))
    (ht : ∀ (s : Shared) (H : Hp) (C : Addr) (cl : List (Str × Addr)) (fp : List Addr), PTs (X.blk s H scope (compEnvC scope cl C X.env) fp) ifs (tT c.inn own2 own2 mu (evAll Γ ti)))
    (he : ∀ (s : Shared) (H : Hp) (C : Addr) (cl : List (Str × Addr)) (fp : List Addr), PE (X.blk s H scope (compEnvC scope cl C X.env) fp) elt (tE c.inn own2 own2 mu .sh (ev Γ te))) (hs : ∀ x, foldedSetIterable iter X.env x = pure x) :
    PS X (.Assign [.Name y py] (.ListComp elt [⟨tgE, iter, ifs, 0⟩] scope pos) spos) (tS c own (i :: drop1 own2 i) (ex Γ (.asg i (.lc k as tg (ownN.map (·.2)) ti te)))) :=
  imS (ps_setLc hc hN hy hyl hsw hi ok hg ht he hs) fun E σ H h => lc_pre hsub hvs hst (asg_preF h)
end
end
/-! ### a def -/
theorem Rel.begin {K : PySem.W.Frag} {N : List Str} {ds : List D} {vs : List V} {st : Sto} {G : Gh} {H : Hp} {n : Nat} (r : Rel K [] ⟨[], st⟩ G [] H) (rp : Reps K H G.Z G.μ ds vs) (hn : N.length = n) : Rel K [] ⟨ds.map some ++ List.replicate (n - ds.length) none, st⟩ G (L2.start N vs) H := by
  have hl := rp.length
  refine ⟨by simp [L2.start, hl, hn], fun i d e => ?_, r.zl, fun i hi => by simp at hi, fun i hi => by simp at hi, r.sto, r.mz, r.mnd⟩
  have e : (ds.map some ++ List.replicate (n - ds.length) none)[i]? = some (some d) := e
  have hi : i < ds.length := by
    by_cases hi : i < ds.length
    · exact hi
    · rw [List.getElem?_append_right (by simpa using hi), List.getElem?_replicate] at e
      split at e <;> cases e
  rw [List.getElem?_append_left (by simpa using hi), List.getElem?_map] at e
  have e' : ds[i]? = some d := by
    cases e1 : ds[i]? with
    | none => rw [e1] at e; cases e
    | some x => rw [e1] at e; cases e; rfl
  obtain ⟨v, e1, e2⟩ := rp.get' e'
  refine ⟨v, ?_, fun z => by simp at z, fun _ => e2⟩
  unfold L2.start
  rw [List.getElem?_append_left (by simpa using (List.getElem?_eq_some_iff.mp e1).1), List.getElem?_map, e1]
  rfl
/-- a def keeps the promise of its mirror -/
theorem fn_D {P : Program} {w : World} {K : PySem.W.Frag} {mg : Str → Option Value} {base : Heap} {k : Nat} {f : Addr} {name qual : Str} {params : Arguments} {body : List Stmt} {scope : Scope} {dV kV doc pm cdv ct oc : Value} {an od : Option Addr}
    {osl : Array (Option Value)} {N ps : List Str} {b : FD} {Γ : List Fn} {own' : List Nat} (lk : K.lookup f = some ⟨oc, od, .func (PySem.W.fnOf name qual params body scope dV kV doc pm an cdv ct), osl⟩) (hcd : PySem.W.codeIn K cdv qual = true) (S : FnScope N ps scope)
    (hnp : ps.length = b.np) (hn : N.length = b.n)
    (hbody : ∀ (A : Around) (outer : List Env) (s : Shared) (H : Hp) (E : XK), Room k (A.deeper (envOfC qual scope s.heap.objs.size f cdv)) →
      PSs (cxOf (L2.CX P w) P w K mg base N qual scope f cdv A outer s H E) body (tS ⟨K, mg, fun cls d _ H => E cls d H⟩ [] own' (exs Γ b.body))) :
    FnOk P w K mg base (L2.CX P w) (k + 1) f (PySem.W.fnOf name qual params body scope dV kV doc pm an cdv ct) ps (spD K mg b.np (runFn b Γ)) := by
  refine fn_of lk hcd S (fun vs H Q E h => ?_) fun A outer s H vs Q E hr h => ⟨_, hbody A outer s H E hr, ?_⟩
  · obtain ⟨_, _, _, h, _⟩ := h
    rw [h, hnp]
  · obtain ⟨ds, st, G, hl, r, rp, q⟩ := h
    have hld : ds.length = b.np := by rw [← rp.length]; exact hl
    rw [runFn_eq b Γ ds st hld, ← hld] at q
    refine ⟨_, G, G, H, r.begin rp hn, Ent.start r, ?_⟩
    cases eb : exs Γ b.body ⟨ds.map some ++ List.replicate (b.n - ds.length) none, st⟩ with
    | fail => rw [eb] at q; exact q
    | exc e s' =>
      rw [eb] at q
      exact fun cls dd σ' H' G' r' en' hx => q cls dd H' { G' with ad := G.ad } ⟨rfl, fun i d e => by simp at e, r'.zl, fun i hi => by simp at hi, fun i hi => by simp at hi, r'.sto, r'.mz, r'.mnd⟩ en'.stp hx
    | ok f s' =>
      rw [eb] at q
      cases f with
      | next => exact fun σ' H' G' r' en' _ => q .non H' { G' with ad := G.ad } ⟨rfl, fun i d e => by simp at e, r'.zl, fun i hi => by simp at hi, fun i hi => by simp at hi, r'.sto, r'.mz, r'.mnd⟩ en'.stp rfl
      | ret d => exact fun v H' G' r' en' rp' => q v H' { G' with ad := G.ad } ⟨rfl, fun i d e => by simp at e, r'.zl, fun i hi => by simp at hi, fun i hi => by simp at hi, r'.sto, r'.mz, r'.mnd⟩ en'.stp rp'
end Lb

set_option maxRecDepth 100000
set_option maxHeartbeats 1000000
namespace Lb
open PySem PySem.Spec PyProof.Rows L2
/-! ### a, b = e, f where some are new containers -/
/-- items, the new ones at the addresses as; H0: the heap ahead -/
def ItM (K : PySem.W.Frag) (Z : Zs) (μ : List Addr) (H H0 : Hp) : List Bool → List D → List V → List Addr → Prop
  | [], [], [], as => as = []
  | false :: ms, d :: ds, v :: vs, as => Rep K H Z μ d v ∧ ItM K Z μ H H0 ms ds vs as
  | true :: ms, d :: ds, v :: vs, as => ∃ a r, as = a :: r ∧ Own K H Z μ a d v ∧ ¬ Z a ∧ a ∉ μ ∧ H0 a = none ∧ a ∉ r ∧ ItM K Z μ H H0 ms ds vs r
  | _, _, _, _ => False
theorem ItM.new {K : PySem.W.Frag} {Z : Zs} {μ : List Addr} {H H0 : Hp} : ∀ {ms : List Bool} {ds : List D} {vs : List V} {as : List Addr}, ItM K Z μ H H0 ms ds vs as → ∀ a ∈ as, H0 a = none
  | [], [], [], as, h, a, ha => by
    have h : as = [] := h
    rw [h] at ha; cases ha
  | false :: ms, d :: ds, v :: vs, as, h, a, ha => ItM.new (show ItM K Z μ H H0 ms ds vs as from h.2) a ha
  | true :: ms, d :: ds, v :: vs, as, h, a, ha => by
    obtain ⟨b, r, rfl, _, _, _, h1, _, h2⟩ := (show ∃ a r, as = a :: r ∧ Own K H Z μ a d v ∧ ¬ Z a ∧ a ∉ μ ∧ H0 a = none ∧ a ∉ r ∧ ItM K Z μ H H0 ms ds vs r from h)
    rcases List.mem_cons.mp ha with e | e
    · rw [e]; exact h1
    · exact ItM.new h2 a e
theorem ItM.back {K : PySem.W.Frag} {Z : Zs} {μ : List Addr} {H H0 H1 : Hp} (f : ∀ a, H1 a = none → H0 a = none) : ∀ {ms : List Bool} {ds : List D} {vs : List V} {as : List Addr}, ItM K Z μ H H1 ms ds vs as → ItM K Z μ H H0 ms ds vs as
  | [], [], [], as, h => h
  | false :: ms, d :: ds, v :: vs, as, h => ⟨h.1, ItM.back f (show ItM K Z μ H H1 ms ds vs as from h.2)⟩
  | true :: ms, d :: ds, v :: vs, as, h => by
    obtain ⟨b, r, rfl, h1, h2, h3, h4, h5, h6⟩ := (show ∃ a r, as = a :: r ∧ Own K H Z μ a d v ∧ ¬ Z a ∧ a ∉ μ ∧ H1 a = none ∧ a ∉ r ∧ ItM K Z μ H H1 ms ds vs r from h)
    exact ⟨b, r, rfl, h1, h2, h3, f b h4, h5, ItM.back f h6⟩
def tAsM (c : Cfg) (own own' : List Nat) (mu : Bool) (ms : List Bool) (m : S → R S (List D)) : TA := fun σ H Q => ∃ s G, Rel c.K own s G σ H ∧
  Post c own G σ H (fun ds s' => ∀ vs H' G' as, Rel c.K own' s' G' σ H' → Stp own own' mu G H G' H' → ItM c.K G'.Z G'.μ H' H ms ds vs as → Q vs H') (m s)
section
variable {X : Cx} {c : Cfg} {Γ : List Fn} {own own1 own2 : List Nat} {mu1 mu2 : Bool} {e : Expr} {es : List Expr} {m1 : S → R S D} {m2 : S → R S (List D)} {ms : List Bool}
theorem sm_nil : PA X [] (tAsM c own own false [] fun s => .ok [] s) := imA pa_nil fun σ H Q ⟨s, G, r, q⟩ => q [] H G [] r Stp.refl rfl
theorem sm_sh (h1 : PE X e (tE c own own1 mu1 .sh m1)) (h2 : PA X es (tAsM c own1 own2 mu2 ms m2)) (hs : starEach (e :: es) X.env = (false, eval e X.env) :: starEach es X.env) :
    PA X (e :: es) (tAsM c own own2 (mu1 || mu2) (false :: ms) fun s => (m1 s).bind fun d s => (m2 s).bind fun ds s => .ok (d :: ds) s) := imA (pa_cons h1 h2 hs) fun σ H Q ⟨s, G, r, q⟩ => by
  simp only [Post.bind, Post.ok] at q
  refine ⟨s, G, r, q.mono fun d s1 q v H1 G1 r1 t1 rp1 => ⟨s1, G1, r1, (q.move t1).mono fun ds s2 q vs H2 G2 as r2 t2 rp2 => ?_⟩⟩
  exact q (v :: vs) H2 G2 as r2 (t1.trans t2) ⟨r1.rep t2 rp1, rp2.back fun _ z => t1.fresh z⟩
theorem sm_fr (h1 : PE X e (tE c own own1 mu1 .fr m1)) (h2 : PA X es (tAsM c own1 own2 mu2 ms m2)) (hs : starEach (e :: es) X.env = (false, eval e X.env) :: starEach es X.env) :
    PA X (e :: es) (tAsM c own own2 (mu1 || mu2) (true :: ms) fun s => (m1 s).bind fun d s => (m2 s).bind fun ds s => .ok (d :: ds) s) := imA (pa_cons h1 h2 hs) fun σ H Q ⟨s, G, r, q⟩ => by
  simp only [Post.bind, Post.ok] at q
  refine ⟨s, G, r, q.mono fun d s1 q v H1 G1 r1 t1 ⟨a, ho, nz, nm, new⟩ => ⟨s1, G1, r1, (q.move t1).mono fun ds s2 q vs H2 G2 as r2 t2 rp2 => ?_⟩⟩
  have ne := r.newNe t1 new
  obtain ⟨_, hl⟩ := ho.live
  refine q (v :: vs) H2 G2 (a :: as) r2 (t1.trans t2) ⟨a, as, rfl, r1.ownS t2 nm (fun _ => ne) ho, Rel.noz t2 nz hl ne, ?_, new, fun z => ?_, rp2.back fun _ z => t1.fresh z⟩
  · obtain ⟨o, ho'⟩ := hl
    exact t2.notmu nm ho'
  · obtain ⟨o, ho'⟩ := hl
    rw [rp2.new a z] at ho'; cases ho'
/-- the slots behind -/
def ownM (own : List Nat) : List Nat → List Bool → List Nat
  | i :: is, true :: ms => ownM (i :: drop1 own i) is ms
  | i :: is, false :: ms => ownM (drop1 own i) is ms
  | _, _ => own
def setσ (σ : L2.St) : List Nat → List V → L2.St
  | i :: is, v :: vs => setσ (σ.set i (some v)) is vs
  | _, _ => σ
theorem setM {K : PySem.W.Frag} {H H0 : Hp} : ∀ (ms : List Bool) (is : List Nat) (ds : List D) (vs : List V) (as : List Addr) (own : List Nat) (s s' : S) (G : Gh) (σ : L2.St), Rel K own s G σ H → ItM K G.Z G.μ H H0 ms ds vs as → (∀ j ∈ own, ∀ a ∈ as, G.ad j ≠ a) → setVs is ds s = some s' →
    ∃ G', Rel K (ownM own is ms) s' G' (setσ σ is vs) H ∧ G'.Z = G.Z ∧ G'.μ = G.μ ∧ ∀ j ∈ ownM own is ms, (j ∈ own ∧ G'.ad j = G.ad j) ∨ G'.ad j ∈ as
  | [], is, ds, vs, as, own, s, s', G, σ, r, it, ne, e => by
    cases ds with
    | cons => cases vs <;> exact it.elim
    | nil =>
      cases vs with
      | cons => exact it.elim
      | nil =>
        cases is with
        | cons => cases e
        | nil =>
          cases e
          exact ⟨G, r, rfl, rfl, fun j hj => .inl ⟨hj, rfl⟩⟩
  | m :: ms, is, ds, vs, as, own, s, s', G, σ, r, it, ne, e => by
    cases ds with
    | nil => cases m <;> exact it.elim
    | cons d ds =>
      cases vs with
      | nil => cases m <;> exact it.elim
      | cons v vs =>
        cases is with
        | nil => cases e
        | cons i is =>
          have e : setVs is ds (setV i d s) = some s' := e
          cases m with
          | false =>
            obtain ⟨h1, h2⟩ := (show Rep K H G.Z G.μ d v ∧ ItM K G.Z G.μ H H0 ms ds vs as from it)
            obtain ⟨G', r', z1, z2, z3⟩ := setM ms is ds vs as (drop1 own i) _ s' G _ (r.setSh h1) h2 (fun j hj a ha => ne j (mem_drop1.mp hj).1 a ha) e
            refine ⟨G', r', z1, z2, fun j hj => ?_⟩
            rcases z3 j hj with ⟨q1, q2⟩ | q
            · exact .inl ⟨(mem_drop1.mp q1).1, q2⟩
            · exact .inr q
          | true =>
            obtain ⟨a, rr, rfl, h1, h2, h3, h4, h5, h6⟩ := (show ∃ a r, as = a :: r ∧ Own K H G.Z G.μ a d v ∧ ¬ G.Z a ∧ a ∉ G.μ ∧ H0 a = none ∧ a ∉ r ∧ ItM K G.Z G.μ H H0 ms ds vs r from it)
            have rF := r.setFr (i := i) h1 h2 h3 fun j hj => ne j hj a List.mem_cons_self
            obtain ⟨G', r', z1, z2, z3⟩ := setM ms is ds vs rr (i :: drop1 own i) _ s' { G with ad := fun j => if j = i then a else G.ad j } _ rF h6 (fun j hj b hb => by
              show (if j = i then a else G.ad j) ≠ b
              by_cases hji : j = i
              · rw [if_pos hji]; exact fun ee => h5 (ee ▸ hb)
              · rw [if_neg hji]
                rcases List.mem_cons.mp hj with q | q
                · exact absurd q hji
                · exact ne j (mem_drop1.mp q).1 b (List.mem_cons_of_mem _ hb)) e
            refine ⟨G', r', z1, z2, fun j hj => ?_⟩
            rcases z3 j hj with ⟨q1, q2⟩ | q
            · have q2 : G'.ad j = (if j = i then a else G.ad j) := q2
              by_cases hji : j = i
              · rw [if_pos hji] at q2; exact .inr (by rw [q2]; exact List.mem_cons_self)
              · rw [if_neg hji] at q2
                rcases List.mem_cons.mp q1 with q | q
                · exact absurd q hji
                · exact .inl ⟨(mem_drop1.mp q).1, q2⟩
            · exact .inr (List.mem_cons_of_mem _ q)
theorem par_pre {is : List Nat} {as : List T} {mu : Bool} {E : Ends} {σ : L2.St} {H : Hp} (h : tS c own (ownM own1 is ms) (ex Γ (.par is as)) E σ H) : tAsM c own own1 mu ms (evs Γ as) σ H fun vs H1 => ∀ us, us = vs → E.nx (setσ σ is us) H1 := by
  obtain ⟨s, G, G0, H0, r, en, q⟩ := h
  replace q : PostS c G0 H0 (ownM own1 is ms) E G H ((evs Γ as s).bind fun ds s => (opt s (setVs is ds s)).bind fun s' _ => .ok .next s') := q
  refine ⟨s, G, r, (q.ofE r en).mono fun ds s1 q vs H1 G1 ads r1 t1 it us hu => ?_⟩
  subst hu
  cases e : setVs is ds s1 with
  | none => rw [e] at q; exact q.elim
  | some s2 =>
    rw [e] at q
    obtain ⟨G2, r2, z1, z2, z3⟩ := setM ms is ds us ads own1 s1 s2 G1 σ r1 it (fun j hj a ha => r.newNe t1 (it.new a ha) j hj) e
    have en1 := en.step t1
    have lt1 := r.lt t1
    refine q _ H1 G2 r2 ⟨?_, fun j hj => ?_⟩ ⟨by rw [z1]; exact lt1.zz, lt1.rd, by rw [z2]; exact lt1.mm⟩
    · have : ({ G2 with ad := G0.ad } : Gh) = { G1 with ad := G0.ad } := by
        obtain ⟨a, b, c'⟩ := G2
        cases z1; cases z2; rfl
      rw [this]; exact en1.stp
    · rcases z3 j hj with ⟨h1, h2⟩ | h1
      · rw [h2]; exact en1.new j h1
      · exact en.stp.fresh (it.new _ h1)
theorem ItM.len {K : PySem.W.Frag} {Z : Zs} {μ : List Addr} {H H0 : Hp} : ∀ {ms : List Bool} {ds : List D} {vs : List V} {as : List Addr}, ItM K Z μ H H0 ms ds vs as → vs.length = ms.length
  | [], [], [], as, h => rfl
  | false :: ms, d :: ds, v :: vs, as, h => by rw [List.length_cons, List.length_cons, ItM.len (show ItM K Z μ H H0 ms ds vs as from h.2)]
  | true :: ms, d :: ds, v :: vs, as, h => by
    obtain ⟨b, r, _, _, _, _, _, _, h2⟩ := (show ∃ a r, as = a :: r ∧ Own K H Z μ a d v ∧ ¬ Z a ∧ a ∉ μ ∧ H0 a = none ∧ a ∉ r ∧ ItM K Z μ H H0 ms ds vs r from h)
    rw [List.length_cons, List.length_cons, ItM.len h2]
theorem tAsM.len {m : S → R S (List D)} {mu : Bool} {σ : L2.St} {H : Hp} {Q : List V → Hp → Prop} (h : tAsM c own own1 mu ms m σ H Q) : tAsM c own own1 mu ms m σ H fun vs H1 => vs.length = ms.length ∧ Q vs H1 := by
  obtain ⟨s, G, r, q⟩ := h
  exact ⟨s, G, r, q.mono fun ds s1 q vs H1 G1 as r1 t1 it => ⟨it.len, q vs H1 G1 as r1 t1 it⟩⟩
theorem tAsM.mono {m : S → R S (List D)} {mu : Bool} {σ : L2.St} {H : Hp} {Q Q' : List V → Hp → Prop} (h : tAsM c own own1 mu ms m σ H Q) (f : ∀ vs H, Q vs H → Q' vs H) : tAsM c own own1 mu ms m σ H Q' := by
  obtain ⟨s, G, r, q⟩ := h
  exact ⟨s, G, r, q.mono fun ds s1 q vs H1 G1 as r1 t1 it => f _ _ (q vs H1 G1 as r1 t1 it)⟩
theorem sp_parM {i j : Nat} {x y : Str} {a b : Expr} {as : List T} {mu b1 b2 : Bool} {px py pt pos : Pos} {kt k2 pt2} (hc : X.calm = true) (hN : X.N.Nodup) (hi : X.N[i]? = some x) (hj : X.N[j]? = some y) (hij : i ≠ j)
    (hx : X.env.scope.names.lookup x = some .local) (hy : X.env.scope.names.lookup y = some .local) (ha : PA X [a, b] (tAsM c own own1 mu [b1, b2] (evs Γ as)))
    (hw : swappedStores [.Tuple [.Name x px, .Name y py] kt pt] (.Tuple [a, b] k2 pt2) X.env = pure (some [x, y]))
    (hs : swapsWithSole [.Tuple [.Name x px, .Name y py] kt pt] (.Tuple [a, b] k2 pt2) pos.line X.env = pure false) :
    PS X (.Assign [.Tuple [.Name x px, .Name y py] kt pt] (.Tuple [a, b] k2 pt2) pos) (tS c own (ownM own1 [i, j] [b1, b2]) (ex Γ (.par [i, j] as))) := imS (ps_par hc hN hi hj hij hx hy ha hw hs) fun E σ H h =>
  (par_pre h).len.mono fun vs H1 ⟨hl, q⟩ => match vs, hl with
    | [v, w], _ => ⟨v, w, rfl, q _ rfl⟩
theorem sp_parM3 {i j l : Nat} {x y z : Str} {a b d : Expr} {as : List T} {mu b1 b2 b3 : Bool} {px py pz pt pos : Pos} {kt k2 pt2} (hc : X.calm = true) (hN : X.N.Nodup) (hi : X.N[i]? = some x) (hj : X.N[j]? = some y) (hl : X.N[l]? = some z) (hij : i ≠ j) (hil : i ≠ l) (hjl : j ≠ l)
    (hx : X.env.scope.names.lookup x = some .local) (hy : X.env.scope.names.lookup y = some .local) (hz : X.env.scope.names.lookup z = some .local) (ha : PA X [a, b, d] (tAsM c own own1 mu [b1, b2, b3] (evs Γ as)))
    (hw : swappedStores [.Tuple [.Name x px, .Name y py, .Name z pz] kt pt] (.Tuple [a, b, d] k2 pt2) X.env = pure (some [x, y, z]))
    (hs : swapsWithSole [.Tuple [.Name x px, .Name y py, .Name z pz] kt pt] (.Tuple [a, b, d] k2 pt2) pos.line X.env = pure false) :
    PS X (.Assign [.Tuple [.Name x px, .Name y py, .Name z pz] kt pt] (.Tuple [a, b, d] k2 pt2) pos) (tS c own (ownM own1 [i, j, l] [b1, b2, b3]) (ex Γ (.par [i, j, l] as))) := imS (ps_par3 hc hN hi hj hl hij hil hjl hx hy hz ha hw hs) fun E σ H h =>
  (par_pre h).len.mono fun vs H1 ⟨hl, q⟩ => match vs, hl with
    | [u, v, w], _ => ⟨u, v, w, rfl, q _ rfl⟩
end
end Lb

set_option maxRecDepth 100000
set_option maxHeartbeats 1000000
namespace Lb
open PySem PySem.Spec PyProof.Rows L2
/-- names, one behind another -/
def tGsN (is : List Nat) : TGs := fun vs σ H Q => vs.length = is.length ∧ Q (setσ σ is vs) H
section
variable {X : Cx} {c : Cfg} {Γ : List Fn} {own own1 : List Nat} {mu : Bool} {ms : List Bool}
theorem sgn_nil : PGs X [] (tGsN []) := imGs pgs_nil fun vs σ H Q ⟨h1, h2⟩ => by
  cases vs with
  | nil => exact ⟨rfl, h2⟩
  | cons => cases h1
theorem sgn_cons {i : Nat} {x : Str} {pos : Pos} {es : List Expr} {is : List Nat} (hN : X.N.Nodup) (hi : X.N[i]? = some x) (hx : L2.Loc X.env.scope x) (hf : X.fn x = true ∨ X.env.scope.names.lookup x = some .local) (h : PGs X es (tGsN is)) : PGs X (.Name x pos :: es) (tGsN (i :: is)) :=
  imGs (pgs_cons (pg_name hN hi hx hf) h rfl) fun vs σ H Q ⟨h1, h2⟩ => by
  cases vs with
  | nil => cases h1
  | cons v vs => exact ⟨v, vs, rfl, by simpa using h1, h2⟩
theorem ItM.laid {K : PySem.W.Frag} {Z : Zs} {μ : List Addr} {H H0 : Hp} {p : Addr} {o : HO} (hp : H p = none) : ∀ {ms : List Bool} {ds : List D} {vs : List V} {as : List Addr}, ItM K Z μ H H0 ms ds vs as → ItM K Z μ (upd H p o) H0 ms ds vs as
  | [], [], [], as, h => h
  | false :: ms, d :: ds, v :: vs, as, h => ⟨Rep.mono (fun _ z => z) (fun q u _ w => by
      rcases w with w | ⟨x, w⟩
      · exact .inl (by rw [upd_ne (ne_of_none w hp)]; exact w)
      · exact .inr ⟨x, by rw [upd_ne (ne_of_none w hp)]; exact w⟩) (fun _ _ q => q) _ _ h.1, ItM.laid hp (show ItM K Z μ H H0 ms ds vs as from h.2)⟩
  | true :: ms, d :: ds, v :: vs, as, h => by
    obtain ⟨b, r, rfl, h1, h2, h3, h4, h5, h6⟩ := (show ∃ a r, as = a :: r ∧ Own K H Z μ a d v ∧ ¬ Z a ∧ a ∉ μ ∧ H0 a = none ∧ a ∉ r ∧ ItM K Z μ H H0 ms ds vs r from h)
    refine ⟨b, r, rfl, Own.mono (fun _ z => z) (fun q u _ w => ?_) (fun _ _ q => q) (fun o' w => by rw [upd_ne (ne_of_none w hp)]; exact w) h1, h2, h3, h4, h5, ItM.laid hp h6⟩
    rcases w with w | ⟨x, w⟩
    · exact .inl (by rw [upd_ne (ne_of_none w hp)]; exact w)
    · exact .inr ⟨x, by rw [upd_ne (ne_of_none w hp)]; exact w⟩
/-- a, b = e, f by way of the tuple -/
theorem sp_parU {ts es : List Expr} {is : List Nat} {as : List T} {k k2 : Nat} {pt pt2 pos : Pos} (hc : X.calm = true) (hg : PGs X ts (tGsN is)) (hln : is.length = ms.length) (hlt : ts.length = is.length) (hsz : ms.length ≤ 1000) (ha : PA X es (tAsM c own own1 mu ms (evs Γ as))) (hst : (assignEach ts X.env).findIdx? (·.1) = none) (hal : (assignEach ts X.env).length = ts.length)
    (hw : swappedStores [.Tuple ts k pt] (.Tuple es k2 pt2) X.env = pure none) (hs : swapsWithSole [.Tuple ts k pt] (.Tuple es k2 pt2) pos.line X.env = pure false) :
    PS X (.Assign [.Tuple ts k pt] (.Tuple es k2 pt2) pos) (tS c own (ownM own1 is ms) (ex Γ (.par is as))) :=
  imS (ps_asg (pe_tup ha) (pg_tup hc hg (by rw [hal, hlt]) hst) hs hw rfl) fun E σ H ⟨s, G, G0, H0, r, en, q⟩ => by
  replace q : PostS c G0 H0 (ownM own1 is ms) E G H ((evs Γ as s).bind fun ds s => (opt s (setVs is ds s)).bind fun s' _ => .ok .next s') := q
  refine ⟨s, G, r, (q.ofE r en).mono fun ds s1 q vs H1 G1 ads r1 t1 it => ?_⟩
  have hvl : vs.length = ms.length := it.len
  refine ⟨Nat.le_trans (by omega) (show 1000 ≤ sizeLine by decide), fun p hp => ?_⟩
  cases e : setVs is ds s1 with
  | none => rw [e] at q; exact q.elim
  | some s2 =>
    rw [e] at q
    obtain ⟨r1', t1', nz', nm'⟩ := r1.laidF (mu := false) (o := .tup vs) hp
    have t2 := t1.trans t1'
    obtain ⟨G2, r2, z1, z2, z3⟩ := setM ms is ds vs ads own1 s1 s2 G1 σ r1' (it.laid hp) (fun j hj a ha => r.newNe t1 (it.new a ha) j hj) e
    have en1 := en.step t2
    have lt1 := r.lt t2
    refine ⟨p, vs, rfl, .inl (.inl upd_same), by omega, by omega, ?_⟩
    refine q _ _ G2 r2 ⟨?_, fun j hj => ?_⟩ ⟨by rw [z1]; exact lt1.zz, lt1.rd, by rw [z2]; exact lt1.mm⟩
    · have : ({ G2 with ad := G0.ad } : Gh) = { G1 with ad := G0.ad } := by
        obtain ⟨a, b, c'⟩ := G2
        cases z1; cases z2; rfl
      rw [this]; exact en1.stp
    · rcases z3 j hj with ⟨h1, h2⟩ | h1
      · rw [h2]; exact en1.new j h1
      · exact en.stp.fresh (it.new _ h1)
end
end Lb

set_option maxRecDepth 100000
set_option maxHeartbeats 1000000
/-! from the text to the small language: each step comes with its proof -/
namespace Lb
open PySem PySem.Spec PyProof.Rows L2
/-- what is known of a global name: a built-in; a def of ours (its place, how many parameters, what stands for those left out); an error of ours -/
inductive GK where
  | blt
  | fn (k np : Nat) (das : List T)
  | exc
  | cst (t : T)
structure CE where
  N : List Str
  sc : Scope
  fn : Str → Bool
  gl : List (Str × GK)
  kk : Nat
def GOk (P : Program) (w : World) (K : PySem.W.Frag) (mg : Str → Option Value) (base : Heap) (kk : Nat) (Γ : List Fn) (x : Str) : GK → Prop
  | .blt => mg x = none
  | .fn k np das => ∃ (F : Fn) (f : Addr) (fd : FuncData) (ps : List Str) (dvs : List V) (dus : List Value), Γ[k]? = some F ∧ FnOk P w K mg base (L2.CX P w) kk f fd ps (spD K mg np F) ∧ mg x = some (.ref f) ∧ PySem.W.keepIn K (.ref f) = true ∧ ∀ j, j ≤ das.length → Binds K fd ps (dus.drop j) ∧ Dfl K Γ (das.drop j) (dvs.drop j) (dus.drop j)
  | .exc => ∃ C bmB B newId initId, ExcBaseFacts B newId initId bmB ∧ PySem.W.excIn K C bmB newId = true ∧ mg x = some (.ref C) ∧ PySem.W.keepIn K (.ref C) = true ∧ PySem.W.subIn K (.ref C) (.type "BaseException") = some true ∧ PySem.W.typeIn K (.ref C) = some (.type "type")
  | .cst t => ∃ (d : D) (u : Value) (v : V), (∀ s, ev Γ t s = .ok d s) ∧ mg x = some u ∧ RelV v u ∧ ∀ H Z μ, Rep K H Z μ d v
structure Cc (ce : CE) (Γ : List Fn) (c : Cfg) (X : Cx) : Prop where
  K : c.K = X.K
  mg : c.mg = X.mg
  N : X.N = ce.N
  nd : X.N.Nodup
  sc : X.env.scope = ce.sc
  fn : ∀ x, ce.fn x = true → X.fn x = true
  calm : X.calm = true
  tk : Takes X c.W
  gl : ∀ x g, ce.gl.lookup x = some g → GOk X.prog X.w c.K c.mg X.base ce.kk Γ x g
  room : Room ce.kk X.A
/-! ### names -/
def ixS (x : Str) : List Str → Option Nat
  | [] => none
  | y :: r => if (y == x) = true then some 0 else (ixS x r).map (· + 1)
theorem ixS_get {x : Str} : ∀ {N : List Str} {i : Nat}, ixS x N = some i → N[i]? = some x
  | [], _, h => by cases h
  | y :: r, i, h => by
    unfold ixS at h
    by_cases hy : (y == x) = true
    · rw [if_pos hy] at h; cases h
      rw [eq_of_beq hy]; rfl
    · rw [if_neg hy] at h
      cases e : ixS x r with
      | none => rw [e] at h; cases h
      | some j => rw [e] at h; cases h; exact ixS_get (N := r) e
def visB (sc : Scope) (x : Str) : Bool := match sc.names.lookup x with
  | some .local => true
  | some .cell => true
  | some .free => true
  | _ => false
theorem visB_ok {sc : Scope} {x : Str} (h : visB sc x = true) : Vis sc x := by
  unfold visB at h
  unfold Vis
  split at h <;> first | (rename_i e; simp [e]) | cases h
structure NameOk (ce : CE) (x : Str) (i : Nat) : Prop where
  ix : ce.N[i]? = some x
  vis : Vis ce.sc x
  dbg : (x == ("__debug__" : Str)) = false
  cdc : (x == ("__classdict__" : Str)) = false
def nameIx (ce : CE) (x : Str) : Option { i : Nat // NameOk ce x i } :=
  if hv : visB ce.sc x = true then if hd : (x == ("__debug__" : Str)) = false then if hc : (x == ("__classdict__" : Str)) = false then
    match h : ixS x ce.N with
    | some i => some ⟨i, ixS_get h, visB_ok hv, hd, hc⟩
    | none => none
  else none else none else none
def glB (ce : CE) (x : Str) : Bool := (ce.sc.names.lookup x == some .globalImplicit) && !(x == ("__debug__" : Str))
section
variable {ce : CE} {Γ : List Fn} {c : Cfg} {X : Cx}
theorem Cc.ix (cc : Cc ce Γ c X) {x : Str} {i : Nat} (h : NameOk ce x i) : X.N[i]? = some x := by rw [cc.N]; exact h.ix
theorem Cc.vis (cc : Cc ce Γ c X) {x : Str} {i : Nat} (h : NameOk ce x i) : Vis X.env.scope x := by rw [cc.sc]; exact h.vis
theorem Cc.g (cc : Cc ce Γ c X) {x : Str} (h : glB ce x = true) : Gl X x := by
  unfold glB at h
  show X.env.scope.names.lookup x = _
  rw [cc.sc]
  simp only [Bool.and_eq_true, beq_iff_eq] at h
  exact h.1
theorem glB_dbg {x : Str} (h : glB ce x = true) : (x == ("__debug__" : Str)) = false := by
  unfold glB at h
  simp only [Bool.and_eq_true, Bool.not_eq_true'] at h
  exact h.2
theorem Cc.un (cc : Cc ce Γ c X) : X.A.units + 64 < cLine := cc.room.units
theorem Cc.blt (cc : Cc ce Γ c X) {x : Str} (h : ce.gl.lookup x = some .blt) : X.mg x = none := by rw [← cc.mg]; exact cc.gl x _ h
end
/-! ### side conditions -/
def starOk : Expr → Bool
  | .Starred _ _ => false
  | _ => true
theorem starOk_eq {e : Expr} (h : starOk e = true) (es : List Expr) (env : Env) : starEach (e :: es) env = (false, eval e env) :: starEach es env := by
  cases e <;> first | rfl | cases h
theorem starOk_any {pos : Pos} {env : Env} : ∀ {es : List Expr}, es.all starOk = true → (backTo pos (starEach es env)).any (·.1) = false
  | [], _ => rfl
  | e :: es, h => by
    simp only [List.all_cons, Bool.and_eq_true] at h
    rw [starOk_eq h.1]
    show (false || (backTo pos (starEach es env)).any (·.1)) = false
    rw [starOk_any h.2]; rfl
theorem starOk_few {pos : Pos} {env : Env} {e : Expr} (h : starOk e = true) : ((backTo pos (starEach [e] env)).all (fun x => !x.1) && (backToKw pos (keywordEach [] env)).all (fun x => x.1.isSome) && decide ([e].length + ([] : List Keyword).length + (if ([] : List Keyword).isEmpty then 0 else 1) < 30)) = true := by
  rw [starOk_eq h]; rfl
def plainIxB : Expr → Bool
  | .Slice _ _ _ _ => false
  | _ => true
theorem plainIxB_ok {e : Expr} (h : plainIxB e = true) : PlainIx e := by
  cases e <;> first | (intro o i; rfl) | cases h
/-- a test that goes by the value -/
def valB : Expr → Bool
  | .UnaryOp .Not _ _ => false
  | .BoolOp _ _ _ => false
  | .IfExp _ _ _ _ => false
  | .Compare _ _ _ _ => false
  | _ => true
theorem valB_ok {e : Expr} (h : valB e = true) (env : Env) (whole : Sem Value) : isTrue e env whole = (do let v ← whole; standAt e.pos; holding [v] (PySem.truthy v)) := by
  cases e <;> first | rfl | cases h | skip
  rename_i op a p
  cases op <;> first | rfl | cases h
def setB : Expr → Bool
  | .Set _ _ _ => true
  | _ => false
theorem noFold {e : Expr} (h : setB e = false) (env : Env) (x : Value) : foldedSetIterable e env x = pure x := by
  cases e <;> first | rfl | cases h
def superB : Expr → Bool
  | .Call (.Name _ _) [] [] _ => true
  | _ => false
theorem base_ok {e : Expr} (h : superB e = false) (m : Str) (env : Env) (w : Sem Value) : attributeBase e m env w = w := by
  unfold attributeBase
  split
  · cases h
  · rfl
/-! ### results -/
structure RE (ce : CE) (Γ : List Fn) (own : List Nat) (e : Expr) where
  t : T
  own' : List Nat
  mu : Bool
  md : Md
  ok : ∀ c X, Cc ce Γ c X → PE X e (tE c own own' mu md (ev Γ t))
/-- shared; looked at; new -/
structure RSh (ce : CE) (Γ : List Fn) (own : List Nat) (e : Expr) where
  t : T
  own' : List Nat
  mu : Bool
  ok : ∀ c X, Cc ce Γ c X → PE X e (tE c own own' mu .sh (ev Γ t))
structure RPk (ce : CE) (Γ : List Fn) (own : List Nat) (e : Expr) where
  t : T
  own' : List Nat
  ok : ∀ c X, Cc ce Γ c X → PE X e (tE c own own' false .pk (ev Γ t))
structure RFr (ce : CE) (Γ : List Fn) (own : List Nat) (e : Expr) where
  t : T
  own' : List Nat
  mu : Bool
  ok : ∀ c X, Cc ce Γ c X → PE X e (tE c own own' mu .fr (ev Γ t))
structure RTt (ce : CE) (Γ : List Fn) (own : List Nat) (e : Expr) where
  t : T
  own' : List Nat
  mu : Bool
  ok : ∀ c X, Cc ce Γ c X → PT X e (tT c own own' mu (evT Γ t))
structure RA (ce : CE) (Γ : List Fn) (own : List Nat) (es : List Expr) where
  ts : List T
  own' : List Nat
  mu : Bool
  len : ts.length = es.length
  ok : ∀ c X, Cc ce Γ c X → PA X es (tAs c own own' mu false (evs Γ ts))
structure RAp (ce : CE) (Γ : List Fn) (own : List Nat) (es : List Expr) where
  ts : List T
  own' : List Nat
  len : ts.length = es.length
  ok : ∀ c X, Cc ce Γ c X → PA X es (tAs c own own' false true (evs Γ ts))
section
variable {ce : CE} {Γ : List Fn} {own : List Nat} {e : Expr} {es : List Expr}
def RE.sh (r : RE ce Γ own e) : Option (RSh ce Γ own e) :=
  match h : r.md with
  | .sh => some ⟨r.t, r.own', r.mu, fun c X cc => by have := r.ok c X cc; rw [h] at this; exact this⟩
  | .fr => some ⟨r.t, r.own', r.mu, fun c X cc => by have := r.ok c X cc; rw [h] at this; exact seSh this⟩
  | .pk => none
def RE.pk (r : RE ce Γ own e) : Option (RPk ce Γ own e) :=
  match hm : r.mu with
  | true => none
  | false => match h : r.md with
    | .sh => some ⟨r.t, r.own', fun c X cc => by have := r.ok c X cc; rw [h, hm] at this; exact sePk this⟩
    | .fr => some ⟨r.t, r.own', fun c X cc => by have := r.ok c X cc; rw [h, hm] at this; exact sePkF this⟩
    | .pk => some ⟨r.t, r.own', fun c X cc => by have := r.ok c X cc; rw [h, hm] at this; exact this⟩
def RE.fr (r : RE ce Γ own e) : Option (RFr ce Γ own e) :=
  match h : r.md with
  | .fr => some ⟨r.t, r.own', r.mu, fun c X cc => by have := r.ok c X cc; rw [h] at this; exact this⟩
  | _ => none
end
/-- what one level of depth can do -/
structure Cs (Γ : List Fn) where
  e : (ce : CE) → (own : List Nat) → (e : Expr) → Option (RE ce Γ own e)
  t : (ce : CE) → (own : List Nat) → (e : Expr) → Option (RTt ce Γ own e)
section
variable {Γ : List Fn} (r : Cs Γ) (ce : CE)
def eSh (own : List Nat) (e : Expr) : Option (RSh ce Γ own e) := (r.e ce own e).bind RE.sh
def ePk (own : List Nat) : (e : Expr) → Option (RPk ce Γ own e)
  | .Name x pos => (match nameIx ce x with
      | some i => some ⟨.var i.1, own, fun c X cc => se_pk (cc.ix i.2) (cc.vis i.2) i.2.dbg i.2.cdc⟩
      | none => (r.e ce own (.Name x pos)).bind RE.pk)
  | e => (r.e ce own e).bind RE.pk
def aSh : (es : List Expr) → (own : List Nat) → Option (RA ce Γ own es)
  | [], own => some ⟨[], own, false, rfl, fun c X cc => sa_nil⟩
  | e :: es, own => if hs : starOk e = true then
      (eSh r ce own e).bind fun a => (aSh es a.own').map fun b => ⟨a.t :: b.ts, b.own', a.mu || b.mu, by rw [List.length_cons, List.length_cons, b.len], fun c X cc => sa_sh (a.ok c X cc) (b.ok c X cc) (starOk_eq hs es X.env)⟩
    else none
def aPk : (es : List Expr) → (own : List Nat) → Option (RAp ce Γ own es)
  | [], own => some ⟨[], own, rfl, fun c X cc => sa_nil⟩
  | e :: es, own => if hs : starOk e = true then
      (ePk r ce own e).bind fun a => (aPk es a.own').map fun b => ⟨a.t :: b.ts, b.own', by rw [List.length_cons, List.length_cons, b.len], fun c X cc => sa_pk (a.ok c X cc) (b.ok c X cc) (starOk_eq hs es X.env)⟩
    else none
end
/-! ### operators -/
structure ROp (op : Operator) where
  p : P
  ok : ∀ X : Cx, OpR X (binaryOp op) (rP2 X.K p)
def opOf : (op : Operator) → Option (ROp op)
  | .Add => some ⟨.add, fun _ => o_add⟩
  | .Sub => some ⟨.sub, fun _ => o_sub⟩
  | .Mult => some ⟨.mul, fun _ => o_mul⟩
  | .Mod => some ⟨.mod, fun _ => o_mod⟩
  | .FloorDiv => some ⟨.fdiv, fun _ => o_fdiv⟩
  | .Pow => some ⟨.pow, fun _ => o_pow⟩
  | _ => none
theorem bp2 {p : P} (h0 : ∀ st, prim st p [] = none) (h1 : ∀ st a, prim st p [a] = none) (h3 : ∀ st a b c r, prim st p (a :: b :: c :: r) = none) (h2 : ∀ st a b d, prim st p [a, b] = some d → ∃ k, d = .bl k) : BoolP p := fun st ds d h => by
  match ds, h with
  | [], h => rw [h0] at h; cases h
  | [a], h => rw [h1] at h; cases h
  | [a, b], h => exact h2 st a b d h
  | a :: b :: c :: r, h => rw [h3] at h; cases h
theorem bp1 {p : P} (h0 : ∀ st, prim st p [] = none) (h1 : ∀ st a d, prim st p [a] = some d → ∃ k, d = .bl k) (h3 : ∀ st a b r, prim st p (a :: b :: r) = none) : BoolP p := fun st ds d h => by
  match ds, h with
  | [], h => rw [h0] at h; cases h
  | [a], h => exact h1 st a d h
  | a :: b :: r, h => rw [h3] at h; cases h
theorem bpm {o : Option Bool} {f : Bool → Bool} {d : D} (h : o.map (fun c => D.bl (f c)) = some d) : ∃ k, d = .bl k := by
  cases o with
  | none => cases h
  | some c => cases h; exact ⟨_, rfl⟩
theorem boolP_lt : BoolP .lt := bp2 (fun _ => rfl) (fun _ a => by cases a <;> rfl) (fun _ a b c r => by cases a <;> cases b <;> rfl) fun st a b d h => by
  cases a <;> cases b <;> first | exact nomatch (show (none : Option D) = some d from h) | (cases h; exact ⟨_, rfl⟩)
theorem boolP_le : BoolP .le := bp2 (fun _ => rfl) (fun _ a => by cases a <;> rfl) (fun _ a b c r => by cases a <;> cases b <;> rfl) fun st a b d h => by
  cases a <;> cases b <;> first | exact nomatch (show (none : Option D) = some d from h) | (cases h; exact ⟨_, rfl⟩)
theorem boolP_gt : BoolP .gt := bp2 (fun _ => rfl) (fun _ a => by cases a <;> rfl) (fun _ a b c r => by cases a <;> cases b <;> rfl) fun st a b d h => by
  cases a <;> cases b <;> first | exact nomatch (show (none : Option D) = some d from h) | (cases h; exact ⟨_, rfl⟩)
theorem boolP_ge : BoolP .ge := bp2 (fun _ => rfl) (fun _ a => by cases a <;> rfl) (fun _ a b c r => by cases a <;> cases b <;> rfl) fun st a b d h => by
  cases a <;> cases b <;> first | exact nomatch (show (none : Option D) = some d from h) | (cases h; exact ⟨_, rfl⟩)
theorem boolP_isB : BoolP .isB := bp2 (fun _ => rfl) (fun _ a => by cases a <;> rfl) (fun _ a b c r => by cases a <;> cases b <;> rfl) fun st a b d h => by
  cases a <;> cases b <;> first | exact nomatch (show (none : Option D) = some d from h) | (cases h; exact ⟨_, rfl⟩)
theorem boolP_eq : BoolP .eq := bp2 (fun _ => rfl) (fun _ a => rfl) (fun _ a b c r => rfl) fun st a b d h => bpm (f := id) (show (eqR a b).map (fun c => D.bl (id c)) = some d from h)
theorem boolP_ne : BoolP .ne := bp2 (fun _ => rfl) (fun _ a => rfl) (fun _ a b c r => rfl) fun st a b d h => bpm (f := not) (show (eqR a b).map (fun c => D.bl (!c)) = some d from h)
theorem boolP_inn : BoolP .inn := bp2 (fun _ => rfl) (fun _ a => rfl) (fun _ a b c r => by cases b <;> rfl) fun st a b d h => by
  cases b <;> first | exact nomatch (show (none : Option D) = some d from h) | skip
  · rename_i ys; exact bpm (f := id) (show (inR a ys).map (fun c => D.bl (id c)) = some d from h)
  · rename_i ys; exact bpm (f := id) (show (inR a ys).map (fun c => D.bl (id c)) = some d from h)
theorem boolP_nin : BoolP .nin := bp2 (fun _ => rfl) (fun _ a => rfl) (fun _ a b c r => by cases b <;> rfl) fun st a b d h => by
  cases b <;> first | exact nomatch (show (none : Option D) = some d from h) | skip
  · rename_i ys; exact bpm (f := not) (show (inR a ys).map (fun c => D.bl (!c)) = some d from h)
  · rename_i ys; exact bpm (f := not) (show (inR a ys).map (fun c => D.bl (!c)) = some d from h)
theorem boolP_isN : BoolP .isN := bp1 (fun _ => rfl) (fun st a d h => by cases a <;> (cases h; exact ⟨_, rfl⟩)) fun _ a b r => by cases a <;> rfl
theorem boolP_notN : BoolP .notN := bp1 (fun _ => rfl) (fun st a d h => by cases a <;> (cases h; exact ⟨_, rfl⟩)) fun _ a b r => by cases a <;> rfl
structure RCm (op : CmpOp) where
  p : P
  bl : BoolP p
  ok : ∀ X : Cx, X.A.units + 64 < cLine → OpR X (compareOp op) (rP2 X.K p)
def cmOf : (op : CmpOp) → Option (RCm op)
  | .Eq => some ⟨.eq, boolP_eq, fun _ h => o_eq h⟩
  | .NotEq => some ⟨.ne, boolP_ne, fun _ h => o_ne h⟩
  | .Lt => some ⟨.lt, boolP_lt, fun _ _ => o_lt⟩
  | .LtE => some ⟨.le, boolP_le, fun _ _ => o_le⟩
  | .Gt => some ⟨.gt, boolP_gt, fun _ _ => o_gt⟩
  | .GtE => some ⟨.ge, boolP_ge, fun _ _ => o_ge⟩
  | .In => some ⟨.inn, boolP_inn, fun _ h => o_in h⟩
  | .NotIn => some ⟨.nin, boolP_nin, fun _ h => o_nin h⟩
  | .Is => some ⟨.isB, boolP_isB, fun _ _ => o_isB⟩
  | _ => none
structure RIs (op : CmpOp) where
  p : P
  bl : BoolP p
  ok : ∀ X : Cx, OpR X (compareOp op) (fun x y H Q => y = .non ∧ rP X.K p [x] H Q)
def isOf : (op : CmpOp) → Option (RIs op)
  | .Is => some ⟨.isN, boolP_isN, fun _ => o_isN⟩
  | .IsNot => some ⟨.notN, boolP_notN, fun _ => o_notN⟩
  | _ => none
end Lb

set_option maxRecDepth 100000
set_option maxHeartbeats 2000000
namespace Lb
open PySem PySem.Spec PyProof.Rows L2
/-! ### targets -/
structure RG (ce : CE) (Γ : List Fn) (e : Expr) where
  tg : Tg
  ok : ∀ c X own, Cc ce Γ c X → PG X e (tG c own tg)
structure RGs (ce : CE) (Γ : List Fn) (es : List Expr) where
  ts : List Tg
  len : ts.length = es.length
  ok : ∀ c X own, Cc ce Γ c X → PGs X es (tGs c own ts)
def locB (ce : CE) (x : Str) : Bool := match ce.sc.names.lookup x with
  | some .local => true
  | some .cell => ce.fn x
  | _ => false
theorem Cc.loc {ce : CE} {Γ : List Fn} {c : Cfg} {X : Cx} (cc : Cc ce Γ c X) {x : Str} (h : locB ce x = true) : L2.Loc X.env.scope x ∧ (X.fn x = true ∨ X.env.scope.names.lookup x = some .local) := by
  rw [cc.sc]
  unfold locB at h
  unfold L2.Loc
  split at h
  · rename_i e; exact ⟨.inl e, .inr e⟩
  · rename_i e; exact ⟨.inr e, .inl (cc.fn x h)⟩
  · cases h
theorem assignEach_eq {e : Expr} (h : starOk e = true) (es : List Expr) (env : Env) : assignEach (e :: es) env = (false, assign e env) :: assignEach es env := by
  cases e <;> first | rfl | cases h
theorem assignEach_len {env : Env} : ∀ (es : List Expr), (assignEach es env).length = es.length
  | [] => rfl
  | e :: es => by cases e <;> (show (_ :: assignEach es env).length = _; rw [List.length_cons, List.length_cons, assignEach_len es])
theorem assignEach_idx {env : Env} : ∀ {es : List Expr}, es.all starOk = true → (assignEach es env).findIdx? (·.1) = none
  | [], _ => rfl
  | e :: es, h => by
    simp only [List.all_cons, Bool.and_eq_true] at h
    rw [assignEach_eq h.1, List.findIdx?_cons, assignEach_idx h.2]
    rfl
def gName' (ce : CE) (Γ : List Fn) (x : Str) (pos : Pos) : Option (RG ce Γ (.Name x pos)) :=
  if h : locB ce x = true then match hi : ixS x ce.N with
    | some i => some ⟨.name i, fun c X own cc => sg_name cc.nd (by rw [cc.N]; exact ixS_get hi) (cc.loc h).1 (cc.loc h).2⟩
    | none => none
  else none
def gList (ce : CE) (Γ : List Fn) (g : (e : Expr) → Option (RG ce Γ e)) : (es : List Expr) → Option (RGs ce Γ es)
  | [] => some ⟨[], rfl, fun c X own cc => sgs_nil⟩
  | e :: es => if hs : starOk e = true then
      (g e).bind fun a => (gList ce Γ g es).map fun b => ⟨a.tg :: b.ts, by rw [List.length_cons, List.length_cons, b.len], fun c X own cc => sgs_cons (a.ok c X own cc) (b.ok c X _ cc) (by rw [assignEach_eq hs]; rfl)⟩
    else none
def gN (ce : CE) (Γ : List Fn) : Nat → (e : Expr) → Option (RG ce Γ e)
  | _, .Name x pos => gName' ce Γ x pos
  | n + 1, .Tuple es k pos => if hs : es.all starOk = true then
      (gList ce Γ (gN ce Γ n) es).map fun b => ⟨.tup b.ts, fun c X own cc => sg_tup cc.K cc.calm (b.ok c X own cc) (by rw [assignEach_len, b.len]) (assignEach_idx hs)⟩
    else none
  | _, _ => none
/-! ### blocks -/
def CE.blk (ce : CE) (scope : Scope) : CE := { ce with sc := relS scope ce.sc, fn := fun x => scope.names.lookup x == some .cell }
theorem Cc.blk {ce : CE} {Γ : List Fn} {c : Cfg} {X : Cx} (cc : Cc ce Γ c X) (scope : Scope) (s : Shared) (H : Hp) (C : Addr) (cl : List (Str × Addr)) (fp : List Addr) : Cc (ce.blk scope) Γ c.inn (X.blk s H scope (compEnvC scope cl C X.env) fp) where
  K := cc.K
  mg := cc.mg
  N := cc.N
  nd := cc.nd
  sc := by show relS scope X.env.scope = relS scope ce.sc; rw [cc.sc]
  fn := fun x h => h
  calm := cc.calm
  tk := fun u s' ⟨a, B, sI, pins, σ, H, cls, d, e, I, nb, up, sky, na, os, ag, w⟩ => w
  gl := cc.gl
  room := cc.room
def blkOwn (N : List Str) : List (Str × NameKind) → List (Str × Nat)
  | [] => []
  | (x, k) :: r => if (k == .local || k == .cell) = true then match ixS x N with
      | some i => (x, i) :: blkOwn N r
      | none => blkOwn N r
    else blkOwn N r
def blkB (N : List Str) (sc scope : Scope) (own : List (Str × Nat)) : Bool :=
  (scope.kind == .function) && (scope.names.all (fun y => scope.names.lookup y.1 == some y.2) && (own.all (fun p => N[p.2]? == some p.1) &&
  (scope.names.all (fun y => !(y.2 == .free) || (sc.names.lookup y.1 == some .cell || sc.names.lookup y.1 == some .free)) &&
  scope.names.all (fun y => !(y.2 == .local || y.2 == .cell) || ((own.map (·.1)).contains y.1 || !N.contains y.1)))))
theorem blkB_ok {N : List Str} {sc scope : Scope} {own : List (Str × Nat)} (h : blkB N sc scope own = true) : BlkOk N sc scope own := by
  unfold blkB at h
  simp only [Bool.and_eq_true, List.all_eq_true, beq_iff_eq, Bool.or_eq_true, Bool.not_eq_true'] at h
  obtain ⟨h1, h2, h3, h4, h5⟩ := h
  refine ⟨h1, h2, h3, fun y hy e => ?_, fun y hy e => ?_⟩
  · rcases h4 y hy with q | q
    · rw [e] at q; cases q
    · exact q
  · rcases h5 y hy with q | q | q
    · rcases e with e | e <;> (rw [e] at q; cases q)
    · exact .inl (List.contains_iff_mem.mp q)
    · exact .inr fun z => by rw [List.contains_iff_mem.mpr z] at q; cases q
/-! ### what is walked -/
structure RI (ce : CE) (Γ : List Fn) (own : List Nat) (tg iter : Expr) where
  k : IK
  as : List T
  own' : List Nat
  ok : ∀ c X, Cc ce Γ c X → PI X tg iter (tI c own own' (evI Γ k as))
section
variable {Γ : List Fn} (r : Cs Γ) (ce : CE) (own : List Nat)
def bltB (x : Str) : Bool := glB ce x && (match ce.gl.lookup x with
  | some .blt => true
  | _ => false)
theorem bltB_ok {x : Str} (h : bltB ce x = true) : glB ce x = true ∧ ce.gl.lookup x = some .blt := by
  unfold bltB at h
  simp only [Bool.and_eq_true] at h
  refine ⟨h.1, ?_⟩
  have := h.2
  split at this
  · assumption
  · cases this
theorem Cc.b {ce : CE} {Γ : List Fn} {c : Cfg} {X : Cx} (cc : Cc ce Γ c X) {x : Str} (h : bltB ce x = true) : Gl X x ∧ X.mg x = none := ⟨cc.g (bltB_ok ce h).1, cc.blt (bltB_ok ce h).2⟩
def iSeq' (tg iter : Expr) : Option (RI ce Γ own tg iter) := (eSh r ce own iter).bind fun a =>
  match h : a.mu with
  | false => some ⟨.seq, [a.t], a.own', fun c X cc => si_seq cc.K (by have := a.ok c X cc; rw [h] at this; exact this)⟩
  | true => none
def iRange (tg : Expr) (p pos : Pos) (f : Str) (hf : (f == ("range" : Str)) = true) : (args : List Expr) → Option (RI ce Γ own tg (.Call (.Name f p) args [] pos))
  | [e] => if hb : bltB ce f = true then if hs : starOk e = true then (aPk r ce [e] own).bind fun a => match h : a.ts with
      | [t] => some ⟨.rng1, [t], a.own', fun c X cc => by
          have hb := cc.b hb
          have ok := a.ok c X cc
          rw [h] at ok
          rw [eq_of_beq hf] at hb ⊢
          exact si_rng1 hb.1 hb.2 ok (starOk_eq hs [] X.env)⟩
      | _ => none
    else none else none
  | [e, e2] => if hb : bltB ce f = true then if hs : starOk e = true then if hs2 : starOk e2 = true then (aPk r ce [e, e2] own).bind fun a => match h : a.ts with
      | [t, t2] => some ⟨.rng2, [t, t2], a.own', fun c X cc => by
          have hb := cc.b hb
          have ok := a.ok c X cc
          rw [h] at ok
          rw [eq_of_beq hf] at hb ⊢
          exact si_rng2 hb.1 hb.2 ok (by rw [starOk_eq hs, starOk_eq hs2]; rfl) (starOk_eq hs2 [] X.env)⟩
      | _ => none
    else none else none else none
  | _ => none
def iEnum (elts : List Expr) (kk : Nat) (tpos p pos : Pos) (f : Str) (hf : (f == ("enumerate" : Str)) = true) : (args : List Expr) → Option (RI ce Γ own (.Tuple elts kk tpos) (.Call (.Name f p) args [] pos))
  | [e] => if hb : bltB ce f = true then if hs : starOk e = true then (aSh r ce [e] own).bind fun a => match h : a.ts, hm : a.mu with
      | [t], false => some ⟨.enum, [t], a.own', fun c X cc => by
          have hb := cc.b hb
          have ok := a.ok c X cc
          rw [h, hm] at ok
          rw [eq_of_beq hf] at hb ⊢
          exact si_enum cc.K hb.1 hb.2 ok (starOk_eq hs [] X.env)⟩
      | _, _ => none
    else none else none
  | _ => none
def iZip (elts : List Expr) (kk : Nat) (tpos p pos : Pos) (f : Str) (hf : (f == ("zip" : Str)) = true) : (args : List Expr) → Option (RI ce Γ own (.Tuple elts kk tpos) (.Call (.Name f p) args [] pos))
  | [e, e2] => if hb : bltB ce f = true then if hs : starOk e = true then if hs2 : starOk e2 = true then (aSh r ce [e, e2] own).bind fun a => match h : a.ts, hm : a.mu with
      | [t, t2], false => some ⟨.zip, [t, t2], a.own', fun c X cc => by
          have hb := cc.b hb
          have ok := a.ok c X cc
          rw [h, hm] at ok
          rw [eq_of_beq hf] at hb ⊢
          exact si_zip cc.K hb.1 hb.2 ok (starOk_eq hs _ X.env) (starOk_any (by simp [hs2]))⟩
      | _, _ => none
    else none else none else none
  | _ => none
def cI (tg : Expr) : (iter : Expr) → Option (RI ce Γ own tg iter)
  | .Call (.Name f p) args [] pos =>
      if h : (f == ("range" : Str)) = true then iRange r ce own tg p pos f h args
      else if h : (f == ("enumerate" : Str)) = true then (match tg with
        | .Tuple elts kk tpos => iEnum r ce own elts kk tpos p pos f h args
        | _ => none)
      else if h : (f == ("zip" : Str)) = true then (match tg with
        | .Tuple elts kk tpos => iZip r ce own elts kk tpos p pos f h args
        | _ => none)
      else iSeq' r ce own tg (.Call (.Name f p) args [] pos)
  | iter => iSeq' r ce own tg iter
end
/-! ### list comprehensions -/
theorem stMu {X : Cx} {c : Cfg} {own own' : List Nat} {mu mu1 : Bool} {e : List Expr} {m : S → R S Bool} (h : PTs X e (tT c own own' mu1 m)) (hm : mu1 = true → mu = true) : PTs X e (tT c own own' mu m) := imTs h fun σ H Q ⟨s, G, r, q⟩ =>
  ⟨s, G, r, q.mono fun d s' q H' G' r' t => q H' G' r' (t.weak hm)⟩
theorem peCast {X : Cx} {c : Cfg} {o1 o2 o3 : List Nat} {mu : Bool} {md : Md} {e : Expr} {m : S → R S D} (h : o2 = o1) (h1 : o1 = o3) (p : PE X e (tE c o1 o2 mu md m)) : PE X e (tE c o3 o3 mu md m) := by
  subst h; subst h1; exact p
/-- the body of a block: its tests and what it makes; the own slots as they were -/
structure RB (ce : CE) (Γ : List Fn) (own : List Nat) (ifs : List Expr) (elt : Expr) where
  ti : List T
  te : T
  mu : Bool
  okI : ∀ c X, Cc ce Γ c X → PTs X ifs (tT c own own mu (evAll Γ ti))
  okE : ∀ c X, Cc ce Γ c X → PE X elt (tE c own own mu .sh (ev Γ te))
section
variable {Γ : List Fn} (r : Cs Γ) (ce : CE)
/-- .. or which slots must go -/
def cB (own : List Nat) : (ifs : List Expr) → (elt : Expr) → Option (RB ce Γ own ifs elt ⊕ List Nat)
  | [], elt => (eSh r ce own elt).map fun a => if h : a.own' = own then .inl ⟨[], a.t, a.mu, fun c X cc => sts_nil, fun c X cc => by have := a.ok c X cc; rw [h] at this; exact this⟩ else .inr a.own'
  | [i], elt => (r.t ce own i).bind fun b => (eSh r ce b.own' elt).map fun a =>
      if h1 : b.own' = own then if h : a.own' = b.own' then .inl ⟨[b.t], a.t, a.mu || b.mu, fun c X cc => stMu (sts_one (by have := b.ok c X cc; rw [h1] at this; exact this)) (by intro z; simp [z]), fun c X cc => seMu (mu1 := a.mu) (peCast h h1 (a.ok c X cc)) (by intro z; simp [z])⟩ else .inr a.own' else .inr a.own'
  | _, _ => none
structure RL (ce : CE) (Γ : List Fn) (own : List Nat) (tg iter : Expr) (ifs : List Expr) (elt : Expr) (scope : Scope) where
  I : RI ce Γ own tg iter
  vs : List (Str × Nat)
  G : RG (ce.blk scope) Γ tg
  own2 : List Nat
  B : RB (ce.blk scope) Γ own2 ifs elt
  blk : blkB ce.N ce.sc scope vs = true
  sub : ∀ i ∈ own2, i ∈ I.own'
  dis : ∀ i ∈ vs.map (·.2), i ∉ own2
  st : ∀ i ∈ slotsT G.tg, i ∈ vs.map (·.2)
  fold : setB iter = false
def lFin (own : List Nat) {tg iter : Expr} (ifs : List Expr) (elt : Expr) (scope : Scope) (I : RI ce Γ own tg iter) (vs : List (Str × Nat)) (G : RG (ce.blk scope) Γ tg) (own2 : List Nat) (B : RB (ce.blk scope) Γ own2 ifs elt) : Option (RL ce Γ own tg iter ifs elt scope) :=
  if h1 : blkB ce.N ce.sc scope vs = true then if h2 : own2.all (fun i => I.own'.contains i) = true then if h3 : (vs.map (·.2)).all (fun i => !own2.contains i) = true then if h4 : (slotsT G.tg).all (fun i => (vs.map (·.2)).contains i) = true then if h5 : setB iter = false then
    some ⟨I, vs, G, own2, B, h1, fun i hi => by have := List.all_eq_true.mp h2 i hi; simpa using this, fun i hi => by have := List.all_eq_true.mp h3 i hi; simpa using this, fun i hi => by have := List.all_eq_true.mp h4 i hi; simpa using this, h5⟩
  else none else none else none else none else none
def cL (own : List Nat) (tg iter : Expr) (ifs : List Expr) (elt : Expr) (scope : Scope) : Option (RL ce Γ own tg iter ifs elt scope) :=
  (cI r ce own tg iter).bind fun I => (gN (ce.blk scope) Γ 4 tg).bind fun G => (cB r (ce.blk scope) (offT I.own' ((blkOwn ce.N scope.names).map (·.2))) ifs elt).bind fun o => match o with
    | .inl B => lFin ce own ifs elt scope I (blkOwn ce.N scope.names) G _ B
    | .inr own2 => (cB r (ce.blk scope) own2 ifs elt).bind fun o => match o with
      | .inl B => lFin ce own ifs elt scope I (blkOwn ce.N scope.names) G _ B
      | .inr _ => none
end
section
variable {ce : CE} {Γ : List Fn} {own : List Nat} {tg iter elt : Expr} {ifs : List Expr} {scope : Scope}
def RL.T (l : RL ce Γ own tg iter ifs elt scope) : T := .lc l.I.k l.I.as l.G.tg (l.vs.map (·.2)) l.B.ti l.B.te
theorem RL.ok (l : RL ce Γ own tg iter ifs elt scope) {c : Cfg} {X : Cx} (cc : Cc ce Γ c X) (pos : Pos) : PE X (.ListComp elt [⟨tg, iter, ifs, 0⟩] scope pos) (tE c own l.own2 l.B.mu .fr (ev Γ l.T)) :=
  se_lc cc.calm cc.nd (l.I.ok c X cc) (by rw [cc.N, cc.sc]; exact blkB_ok l.blk) l.sub l.dis l.st (fun s H C cl fp => l.G.ok _ _ _ (cc.blk scope s H C cl fp)) (fun s H C cl fp => l.B.okI _ _ (cc.blk scope s H C cl fp)) (fun s H C cl fp => l.B.okE _ _ (cc.blk scope s H C cl fp)) (fun x => noFold l.fold X.env x)
theorem RL.okS (l : RL ce Γ own tg iter ifs elt scope) {c : Cfg} {X : Cx} (cc : Cc ce Γ c X) (pos : Pos) {i : Nat} {y : Str} {py spos : Pos} (hy : ce.N[i]? = some y) (hyl : ce.sc.names.lookup y = some .local) (hk : ce.sc.kind = .function) (hl : (py.line == pos.line) = true) (ha : (scope.names.any fun (n, k) => n == y && (k == .local || k == .cell)) = false) :
    PS X (.Assign [.Name y py] (.ListComp elt [⟨tg, iter, ifs, 0⟩] scope pos) spos) (tS c own (i :: drop1 l.own2 i) (ex Γ (.asg i l.T))) :=
  sp_setLc cc.calm cc.nd (by rw [cc.N]; exact hy) (by rw [cc.sc]; exact hyl) (sw_true (by rw [cc.sc]; exact hk) (by rw [cc.sc]; exact hyl) hl ha) (l.I.ok c X cc) (by rw [cc.N, cc.sc]; exact blkB_ok l.blk) l.sub l.dis l.st (fun s H C cl fp => l.G.ok _ _ _ (cc.blk scope s H C cl fp)) (fun s H C cl fp => l.B.okI _ _ (cc.blk scope s H C cl fp)) (fun s H C cl fp => l.B.okE _ _ (cc.blk scope s H C cl fp)) (fun x => noFold l.fold X.env x)
end
end Lb

set_option maxRecDepth 100000
set_option maxHeartbeats 2000000
namespace Lb
open PySem PySem.Spec PyProof.Rows L2
/-! ### built-ins -/
structure RBf (f : Str) where
  id : String
  p : P
  hn : f ≠ "__name__"
  hv : bootBuiltins f = some (.builtin id)
  hc : ∀ X : Cx, X.calm = true → CallR X (.builtin id) (rP X.K p)
theorem lb_len : bootBuiltins "len" = some (.builtin "len") := by decide +kernel
theorem lb_max : bootBuiltins "max" = some (.builtin "max") := by decide +kernel
theorem lb_min : bootBuiltins "min" = some (.builtin "min") := by decide +kernel
theorem lb_sum : bootBuiltins "sum" = some (.builtin "sum") := by decide +kernel
theorem lb_all : bootBuiltins "all" = some (.builtin "all") := by decide +kernel
theorem lb_any : bootBuiltins "any" = some (.builtin "any") := by decide +kernel
theorem lb_isi : bootBuiltins "isinstance" = some (.builtin "isinstance") := by decide +kernel
theorem lb_tuple : bootBuiltins "tuple" = some (.type "tuple") := by decide +kernel
theorem lb_list : bootBuiltins "list" = some (.type "list") := by decide +kernel
theorem lb_int : bootBuiltins "int" = some (.type "int") := by decide +kernel
theorem lb_bool : bootBuiltins "bool" = some (.type "bool") := by decide +kernel
theorem lb_str : bootBuiltins "str" = some (.type "str") := by decide +kernel
theorem lb_dict : bootBuiltins "dict" = some (.type "dict") := by decide +kernel
def bltOf (f : Str) : Option (RBf f) :=
  if h : (f == ("len" : Str)) = true then some ⟨"len", .len, by rw [eq_of_beq h]; decide, by rw [eq_of_beq h]; exact lb_len, fun X _ => c_len⟩
  else if h : (f == ("max" : Str)) = true then some ⟨"max", .max2, by rw [eq_of_beq h]; decide, by rw [eq_of_beq h]; exact lb_max, fun X hc => c_max2 hc⟩
  else if h : (f == ("min" : Str)) = true then some ⟨"min", .min2, by rw [eq_of_beq h]; decide, by rw [eq_of_beq h]; exact lb_min, fun X hc => c_min2 hc⟩
  else if h : (f == ("sum" : Str)) = true then some ⟨"sum", .sum, by rw [eq_of_beq h]; decide, by rw [eq_of_beq h]; exact lb_sum, fun X hc => c_sum hc⟩
  else if h : (f == ("all" : Str)) = true then some ⟨"all", .all, by rw [eq_of_beq h]; decide, by rw [eq_of_beq h]; exact lb_all, fun X hc => c_all hc⟩
  else if h : (f == ("any" : Str)) = true then some ⟨"any", .any, by rw [eq_of_beq h]; decide, by rw [eq_of_beq h]; exact lb_any, fun X hc => c_any hc⟩
  else none
structure RTy (y : Str) where
  t : Ty
  hn : y ≠ "__name__"
  hv : bootBuiltins y = some (.type (tyN t))
def tyOf (y : Str) : Option (RTy y) :=
  if h : (y == ("int" : Str)) = true then some ⟨.int, by rw [eq_of_beq h]; decide, by rw [eq_of_beq h]; exact lb_int⟩
  else if h : (y == ("bool" : Str)) = true then some ⟨.bool, by rw [eq_of_beq h]; decide, by rw [eq_of_beq h]; exact lb_bool⟩
  else if h : (y == ("str" : Str)) = true then some ⟨.str, by rw [eq_of_beq h]; decide, by rw [eq_of_beq h]; exact lb_str⟩
  else if h : (y == ("tuple" : Str)) = true then some ⟨.tuple, by rw [eq_of_beq h]; decide, by rw [eq_of_beq h]; exact lb_tuple⟩
  else if h : (y == ("list" : Str)) = true then some ⟨.list, by rw [eq_of_beq h]; decide, by rw [eq_of_beq h]; exact lb_list⟩
  else if h : (y == ("dict" : Str)) = true then some ⟨.dict, by rw [eq_of_beq h]; decide, by rw [eq_of_beq h]; exact lb_dict⟩
  else none
/-! ### calls -/
section
variable {Γ : List Fn} (r : Cs Γ) (ce : CE) (own : List Nat)
def cBlt (f : Str) (p1 pos : Pos) : (args : List Expr) → Option (RE ce Γ own (.Call (.Name f p1) args [] pos))
  | e :: es => if hb : bltB ce f = true then if hs : starOk e = true then if hss : es.all starOk = true then
      (match bltOf f with
      | some b => (aPk r ce (e :: es) own).map fun a => ⟨.prim b.p a.ts, a.own', false, .sh, fun c X cc => se_callB cc.K (b.hc X cc.calm) (cc.b hb).1 (cc.b hb).2 b.hv (a.ok c X cc) b.hn (glB_dbg (bltB_ok ce hb).1) (starOk_eq hs es X.env) (starOk_any hss)⟩
      | none =>
        if h : (f == ("tuple" : Str)) = true then (aPk r ce (e :: es) own).map fun a => ⟨.prim .tuple a.ts, a.own', false, .sh, fun c X cc => se_callTy cc.K (id := "tuple") c_tuple (cc.b hb).1 (cc.b hb).2 (by rw [eq_of_beq h]; exact lb_tuple) (a.ok c X cc) (by rw [eq_of_beq h]; decide) (glB_dbg (bltB_ok ce hb).1) (starOk_eq hs es X.env) (starOk_any hss)⟩
        else if h : (f == ("list" : Str)) = true then (aPk r ce (e :: es) own).map fun a => ⟨.prim .list a.ts, a.own', false, .fr, fun c X cc => se_callTyF cc.K (id := "list") c_listF (cc.b hb).1 (cc.b hb).2 (by rw [eq_of_beq h]; exact lb_list) (a.ok c X cc) (by rw [eq_of_beq h]; decide) (glB_dbg (bltB_ok ce hb).1) (starOk_eq hs es X.env) (starOk_any hss)⟩
        else none)
    else none else none else none
  | [] => none
def cIsI (f : Str) (hf : (f == ("isinstance" : Str)) = true) (p1 pos : Pos) : (args : List Expr) → Option (RE ce Γ own (.Call (.Name f p1) args [] pos))
  | [e, .Name y p2] => if hb : bltB ce f = true then if hy : bltB ce y = true then if hs : starOk e = true then
      (match tyOf y with
      | some b => (ePk r ce own e).map fun a => ⟨.prim (.isI b.t) [a.t], a.own', false, .sh, fun c X cc => by
          have h1 := cc.b hb
          have h2 := cc.b hy
          rw [eq_of_beq hf] at h1 ⊢
          exact se_isI cc.K h1.1 h1.2 lb_isi (a.ok c X cc) h2.1 h2.2 b.hv b.hn (glB_dbg (bltB_ok ce hy).1) (starOk_eq hs _ X.env)⟩
      | none => none)
    else none else none else none
  | _ => none
/-- a def of ours, positional -/
def cFn (f : Str) (p1 pos : Pos) (k np : Nat) (das : List T) (hl : ce.gl.lookup f = some (.fn k np das)) : (args : List Expr) → Option (RE ce Γ own (.Call (.Name f p1) args [] pos))
  | [] => if hb : glB ce f = true then if hn : das.length = np then
      some ⟨.call k das, own, false, .sh, fun c X cc => by
        obtain ⟨F, fa, fd, ps, dvs, dus, h1, h2, h3, h4, h5⟩ := cc.gl f _ hl
        have h5 := h5 0 (Nat.zero_le _)
        rw [cc.mg] at h3
        have fn : FnOk X.prog X.w X.K X.mg X.base (L2.CX X.prog X.w) ce.kk fa fd ps (spD c.K c.mg np F) := by rw [← cc.K, ← cc.mg]; exact h2
        exact se_call0 h1 h5.2 (by simpa using hn) fn cc.room (cc.g hb) h3 (by rw [← cc.K]; exact h4) (by rw [← cc.K]; exact h5.1) cc.tk (glB_dbg hb)⟩
    else none else none
  | e :: es => if hb : glB ce f = true then if hs : starOk e = true then if hss : es.all starOk = true then
      let j := das.length - (np - (e :: es).length)
      if hn : (e :: es).length + (das.drop j).length = np then
        (aSh r ce (e :: es) own).map fun a => ⟨.call k (a.ts ++ das.drop j), a.own', a.mu, .sh, fun c X cc => by
          obtain ⟨F, fa, fd, ps, dvs, dus, h1, h2, h3, h4, h5⟩ := cc.gl f _ hl
          have h5 := h5 j (Nat.sub_le _ _)
          rw [cc.mg] at h3
          have fn : FnOk X.prog X.w X.K X.mg X.base (L2.CX X.prog X.w) ce.kk fa fd ps (spD c.K c.mg np F) := by rw [← cc.K, ← cc.mg]; exact h2
          exact se_call h1 h5.2 (by rw [a.len]; exact hn) fn cc.room (cc.g hb) h3 (by rw [← cc.K]; exact h4) (by rw [← cc.K]; exact h5.1) cc.tk (a.ok c X cc) (glB_dbg hb) (starOk_eq hs es X.env) (starOk_any hss)⟩
      else none
    else none else none else none
def cCall (f : Str) (p1 pos : Pos) (args : List Expr) : Option (RE ce Γ own (.Call (.Name f p1) args [] pos)) :=
  match h : ce.gl.lookup f with
  | some .blt => if hf : (f == ("isinstance" : Str)) = true then cIsI r ce own f hf p1 pos args else cBlt r ce own f p1 pos args
  | some (.fn k np das) => cFn r ce own f p1 pos k np das h args
  | _ => none
/-- methods -/
def cMeth (o : Expr) (m : Str) (apos cpos : Pos) : (args : List Expr) → Option (RE ce Γ own (.Call (.Attribute o m apos) args [] cpos))
  | [e] => if hs : starOk e = true then if hline : (apos.endLine == cpos.line) = true then
      if hm : (m == ("pop" : Str)) = true then
        (match o with
        | .Name x pn => (nameIx ce x).bind fun i => (aPk r ce [e] own).bind fun a => match h : a.ts with
          | [t] => if hi : i.1 ∈ own then if hi1 : i.1 ∈ a.own' then some ⟨.pop i.1 t, a.own', true, .sh, fun c X cc => by
              have ok := a.ok c X cc
              rw [h] at ok
              rw [eq_of_beq hm]
              exact se_pop cc.K (cc.ix i.2) (cc.vis i.2) i.2.dbg i.2.cdc hi hi1 ok (base_ok rfl _ _ _) (starOk_few hs) hline (starOk_eq hs [] X.env)⟩ else none else none
          | _ => none
        | _ => none)
      else if hm : (m == ("count" : Str)) = true then if hsu : superB o = false then
        (ePk r ce own o).bind fun b => (aPk r ce [e] b.own').bind fun a => match h : a.ts with
          | [t] => some ⟨.meth .cnt b.t [t], a.own', false, .sh, fun c X cc => by
              have ok := a.ok c X cc
              rw [h] at ok
              rw [eq_of_beq hm]
              exact se_cnt cc.K cc.un (b.ok c X cc) ok (base_ok hsu _ _ _) (starOk_few hs) hline (starOk_eq hs [] X.env)⟩
          | _ => none
        else none
      else none
    else none else none
  | _ => none
/-! ### and, or -/
structure RBo (op : PySem.BoolOp) (pos : Pos) (es : List Expr) where
  t : T
  own' : List Nat
  ok : ∀ c X, Cc ce Γ c X → PE X (.BoolOp op es pos) (tE c own own' false .sh (ev Γ t))
def cBo (op : PySem.BoolOp) (pos : Pos) : (es : List Expr) → (own : List Nat) → Option (RBo (Γ := Γ) ce own op pos es)
  | [], _ => none
  | [a], own => (eSh r ce own a).bind fun x => match h : x.mu with
      | false => some ⟨x.t, x.own', fun c X cc => se_one (by have := x.ok c X cc; rw [h] at this; exact this)⟩
      | true => none
  | a :: b :: rest, own => (eSh r ce own a).bind fun x => match h : x.mu with
      | false => (cBo op pos (b :: rest) x.own').bind fun y => if ho : y.own' = x.own' then
          (match op, y with
          | .And, y => some ⟨.and x.t y.t, y.own', fun c X cc => se_and cc.K (by have := x.ok c X cc; rw [h] at this; exact this) (y.ok c X cc) ho⟩
          | .Or, y => some ⟨.or x.t y.t, y.own', fun c X cc => se_or cc.K (by have := x.ok c X cc; rw [h] at this; exact this) (y.ok c X cc) ho⟩)
        else none
      | true => none
structure RTo (op : PySem.BoolOp) (pos : Pos) (es : List Expr) where
  t : T
  own' : List Nat
  ok : ∀ c X, Cc ce Γ c X → PW X (.BoolOp op es pos) (tT c own own' false (evT Γ t))
def tBo (op : PySem.BoolOp) (pos : Pos) : (es : List Expr) → (own : List Nat) → Option (RTo (Γ := Γ) ce own op pos es)
  | [], _ => none
  | [a], own => (r.t ce own a).bind fun x => match h : x.mu with
      | false => some ⟨x.t, x.own', fun c X cc => st_one (by have := x.ok c X cc; rw [h] at this; exact this)⟩
      | true => none
  | a :: b :: rest, own => (r.t ce own a).bind fun x => match h : x.mu with
      | false => (tBo op pos (b :: rest) x.own').bind fun y => if ho : y.own' = x.own' then
          (match op, y with
          | .And, y => some ⟨.and x.t y.t, y.own', fun c X cc => st_and (by have := x.ok c X cc; rw [h] at this; exact this) (y.ok c X cc) ho⟩
          | .Or, y => some ⟨.or x.t y.t, y.own', fun c X cc => st_or (by have := x.ok c X cc; rw [h] at this; exact this) (y.ok c X cc) ho⟩)
        else none
      | true => none
/-! ### comparisons -/
def noneB : Expr → Bool
  | .Constant .none _ _ => true
  | _ => false
structure RCp (a : Expr) (ops : List CmpOp) (bs : List Expr) (pos : Pos) where
  t : T
  own' : List Nat
  ok : ∀ c X, Cc ce Γ c X → PE X (.Compare a ops bs pos) (tE c own own' false .sh (ev Γ t))
  okT : ∀ c X, Cc ce Γ c X → PT X (.Compare a ops bs pos) (tT c own own' false (evT Γ t))
def cCmp1 (a b : Expr) (op : CmpOp) (pos : Pos) : Option (RCp (Γ := Γ) ce own a [op] [b] pos) :=
  if hb : setB b = false then
    (ePk r ce own a).bind fun x => (ePk r ce x.own' b).bind fun y => (cmOf op).map fun o =>
      have hm : behindInMarks op b = false := by cases b <;> first | rfl | cases hb
      ⟨.prim o.p [x.t, y.t], y.own', fun c X cc => se_cmp cc.K (o.ok X cc.un) (x.ok c X cc) (y.ok c X cc) hm, fun c X cc => st_cmp cc.K (o.ok X cc.un) o.bl (x.ok c X cc) (y.ok c X cc) hm⟩
  else none
def cCmp (a : Expr) (pos : Pos) : (ops : List CmpOp) → (bs : List Expr) → Option (RCp (Γ := Γ) ce own a ops bs pos)
  | [op], [.Constant .none j p] => (match isOf op with
      | some o => (ePk r ce own a).map fun x => ⟨.prim o.p [x.t], x.own', fun c X cc => se_isN cc.K (o.ok X) (x.ok c X cc) rfl, fun c X cc => st_isN cc.K (o.ok X) o.bl (x.ok c X cc) rfl⟩
      | none => cCmp1 r ce own a (.Constant .none j p) op pos)
  | [op], [b] => cCmp1 r ce own a b op pos
  | [op, op'], [b, d] => if hb : setB d = false then
      (ePk r ce own a).bind fun x => (ePk r ce x.own' b).bind fun y => (ePk r ce y.own' d).bind fun z => (cmOf op).bind fun o => (cmOf op').bind fun o' => if ho : z.own' = y.own' then
        have hm : lastMarks [op, op'] [b, d] = false := by show behindInMarks op' d = false; cases d <;> first | rfl | cases hb
        some ⟨.chain o.p o'.p x.t y.t z.t, z.own', fun c X cc => se_chain cc.K (o.ok X cc.un) (o'.ok X cc.un) o.bl (x.ok c X cc) (y.ok c X cc) (z.ok c X cc) ho hm, fun c X cc => st_chain cc.K (o.ok X cc.un) (o'.ok X cc.un) o.bl o'.bl (x.ok c X cc) (y.ok c X cc) (z.ok c X cc) ho hm⟩
      else none
    else none
  | _, _ => none
/-! ### subscripts -/
def cSub (a : Expr) (pos : Pos) : (b : Expr) → Option (RE ce Γ own (.Subscript a b pos))
  | .Slice (some lo) none none p2 => (ePk r ce own a).bind fun x => (ePk r ce x.own' lo).map fun y => ⟨.prim (.cut true false) [x.t, y.t], y.own', false, .sh, fun c X cc => se_cutLo cc.K (x.ok c X cc) (y.ok c X cc)⟩
  | .Slice none (some hi) none p2 => (ePk r ce own a).bind fun x => (ePk r ce x.own' hi).map fun y => ⟨.prim (.cut false true) [x.t, y.t], y.own', false, .sh, fun c X cc => se_cutHi cc.K (x.ok c X cc) (y.ok c X cc)⟩
  | .Slice (some lo) (some hi) none p2 => (ePk r ce own a).bind fun x => (ePk r ce x.own' lo).bind fun y => (ePk r ce y.own' hi).map fun z => ⟨.cut2 x.t y.t z.t, z.own', false, .sh, fun c X cc => se_cut2 cc.K (x.ok c X cc) (y.ok c X cc) (z.ok c X cc)⟩
  | .Slice none none (some (.UnaryOp .USub (.Constant (.int i) k p1) p2)) p3 => if h : i = 1 then (ePk r ce own a).map fun x => ⟨.prim .rev [x.t], x.own', false, .sh, fun c X cc => by rw [h]; exact se_rev cc.K (x.ok c X cc)⟩ else none
  | b => if hb : plainIxB b = true then (ePk r ce own a).bind fun x => (ePk r ce x.own' b).map fun y => ⟨.prim .idx [x.t, y.t], y.own', false, .sh, fun c X cc => se_idx cc.K (x.ok c X cc) (y.ok c X cc) (plainIxB_ok hb)⟩ else none
/-! ### arithmetic -/
def cBin (a b : Expr) (op : Operator) (pos : Pos) : Option (RE ce Γ own (.BinOp a op b pos)) :=
  (ePk r ce own a).bind fun x => (ePk r ce x.own' b).bind fun y => match op, h : x.t with
    | .Mult, .lst as => some ⟨.prim .mul [.lst as, y.t], y.own', false, .fr, fun c X cc => se_binF cc.K o_mulF (by have := x.ok c X cc; rw [h] at this; exact this) (y.ok c X cc)⟩
    | op, _ => (opOf op).map fun o => ⟨.prim o.p [x.t, y.t], y.own', false, .sh, fun c X cc => se_bin cc.K (o.ok X) (x.ok c X cc) (y.ok c X cc)⟩
def cIte (a e1 e2 : Expr) (pos : Pos) : Option (RE ce Γ own (.IfExp a e1 e2 pos)) :=
  (r.t ce own a).bind fun x => match h : x.mu with
    | false => (eSh r ce x.own' e1).bind fun y => (eSh r ce x.own' e2).bind fun z => if ho : z.own' = y.own' then some ⟨.ite x.t y.t z.t, y.own', y.mu || z.mu, .sh, fun c X cc => by
        have hx := x.ok c X cc
        rw [h] at hx
        have hz := z.ok c X cc
        rw [ho] at hz
        exact se_ite hx (seMu (y.ok c X cc) (by intro q; simp [q])) (seMu hz (by intro q; simp [q]))⟩ else none
    | true => none
/-! ### names of the module that stand for a constant -/
def cGlob (x : Str) (pos : Pos) : Option (RE ce Γ own (.Name x pos)) :=
  if hg : glB ce x = true then match h : ce.gl.lookup x with
    | some (.cst t) => some ⟨t, own, false, .sh, fun c X cc => by
        obtain ⟨d, u, v, h1, h2, h3, h4⟩ := cc.gl x _ h
        rw [cc.mg] at h2
        refine ⟨fun pins s σ H Q I ⟨s1, G, r, q⟩ => ld_glob I (cc.g hg) h2 ⟨v, H, I, h3, ?_⟩ (glB_dbg hg)⟩
        rw [h1] at q
        exact q v H G r Stp.refl (h4 H G.Z G.μ)⟩
    | _ => none
  else none
/-! ### one level -/
def eNext : (e : Expr) → Option (RE ce Γ own e)
  | .Constant (.int i) k pos => some ⟨.cn (.int i), own, false, .sh, fun c X cc => se_int⟩
  | .Constant (.bool b) k pos => some ⟨.cn (.bl b), own, false, .sh, fun c X cc => se_bl⟩
  | .Constant (.str x) k pos => some ⟨.cn (.str x), own, false, .sh, fun c X cc => se_str⟩
  | .Constant .none k pos => some ⟨.cn .non, own, false, .sh, fun c X cc => se_non⟩
  | .Name x pos => (match nameIx ce x with
      | some i => if hi : i.1 ∈ own then some ⟨.var i.1, drop1 own i.1, false, .sh, fun c X cc => se_frz (cc.ix i.2) (cc.vis i.2) i.2.dbg i.2.cdc⟩
          else some ⟨.var i.1, own, false, .sh, fun c X cc => se_var (cc.ix i.2) (cc.vis i.2) i.2.dbg i.2.cdc hi⟩
      | none => cGlob ce own x pos)
  | .BinOp a op b pos => cBin r ce own a b op pos
  | .UnaryOp .USub a pos => (ePk r ce own a).map fun x => ⟨.prim .neg [x.t], x.own', false, .sh, fun c X cc => se_neg cc.K (x.ok c X cc)⟩
  | .UnaryOp .Not a pos => (ePk r ce own a).map fun x => ⟨.prim .pnot [x.t], x.own', false, .sh, fun c X cc => se_not cc.K (x.ok c X cc)⟩
  | .Compare a ops bs pos => (cCmp r ce own a pos ops bs).map fun x => ⟨x.t, x.own', false, .sh, x.ok⟩
  | .BoolOp op es pos => (cBo r ce op pos es own).map fun x => ⟨x.t, x.own', false, .sh, x.ok⟩
  | .IfExp a e1 e2 pos => cIte r ce own a e1 e2 pos
  | .Call (.Name f p1) args [] pos => cCall r ce own f p1 pos args
  | .Call (.Attribute o m apos) args [] cpos => cMeth r ce own o m apos cpos args
  | .Tuple es k pos => (aSh r ce es own).bind fun x => if hl : x.ts.length ≤ 1000 then some ⟨.tup x.ts, x.own', x.mu, .sh, fun c X cc => se_tup (x.ok c X cc) hl⟩ else none
  | .List es pos => (aSh r ce es own).bind fun x => if hl : x.ts.length ≤ 1000 then some ⟨.lst x.ts, x.own', x.mu, .fr, fun c X cc => se_lst (x.ok c X cc) hl⟩ else none
  | .Subscript a b pos => cSub r ce own a pos b
  | .ListComp elt [⟨tg, iter, ifs, as⟩] scope pos => if ha : as = 0 then (cL r ce own tg iter ifs elt scope).map fun l => ⟨l.T, l.own2, l.B.mu, .fr, fun c X cc => by rw [ha]; exact l.ok cc pos⟩ else none
  | _ => none
def tVal (e : Expr) (hv : valB e = true) : Option (RTt ce Γ own e) := (ePk r ce own e).map fun x => ⟨x.t, x.own', false, fun c X cc => st_val cc.K (x.ok c X cc) (valB_ok hv X.env)⟩
def tNext : (e : Expr) → Option (RTt ce Γ own e)
  | .UnaryOp .Not a pos => (r.t ce own a).map fun x => ⟨.prim .pnot [x.t], x.own', x.mu, fun c X cc => st_not (x.ok c X cc)⟩
  | .BoolOp op es pos => (tBo r ce op pos es own).map fun x => ⟨x.t, x.own', false, fun c X cc => (x.ok c X cc).pt⟩
  | .Compare a ops bs pos => (cCmp r ce own a pos ops bs).map fun x => ⟨x.t, x.own', false, x.okT⟩
  | e => if hv : valB e = true then tVal r ce own e hv else none
end
def lvl (Γ : List Fn) : Nat → Cs Γ
  | 0 => ⟨fun _ _ _ => none, fun _ _ _ => none⟩
  | n + 1 => ⟨fun ce own e => eNext (lvl Γ n) ce own e, fun ce own e => tNext (lvl Γ n) ce own e⟩
end Lb

set_option maxRecDepth 100000
set_option maxHeartbeats 2000000
namespace Lb
open PySem PySem.Spec PyProof.Rows L2
/-! ### which stores are swapped -/
def swN (ko : Str → Option NameKind) (ts : List Expr) : List Str := ts.filterMap fun
  | .Name id pos => if ko id == some .local && pos.line == (ts.head?.map (·.pos.line)).getD 0 then some id else none
  | _ => none
def swM (ko : Str → Option NameKind) (ts vs : List Expr) : Option (Option (List Str)) :=
  if (!(ts.length == 2 || ts.length == 3) || vs.length != ts.length) = true then some none
  else if (vs.any fun | .Starred .. => true | _ => false) = true then some none
  else if ((swN ko ts).length != ts.length || (swN ko ts).eraseDups.length != (swN ko ts).length) = true then some none
  else if vs.all (foldedForSure 8) = true then some none
  else if vs.all (constantsAlone 8) = true then none
  else some (some (swN ko ts))
theorem swM_ok {env : Env} (hk : env.scope.kind = .function) {ts vs : List Expr} {k k2 : Nat} {p p2 : Pos} {r : Option (List Str)} (hr : swM env.kindOf ts vs = some r) : swappedStores [.Tuple ts k p] (.Tuple vs k2 p2) env = pure r := by
  have hb : env.blockKind = .function := by unfold Env.blockKind; rw [hk]; rfl
  unfold swM at hr
  unfold swappedStores
  simp only [hb, bne_self_eq_false, Bool.or_false]
  split at hr
  · rename_i h1; cases hr; exact if_pos h1
  · rename_i h1
    refine (if_neg h1).trans ?_
    split at hr
    · rename_i h2; cases hr; exact if_pos h2
    · rename_i h2
      refine (if_neg h2).trans ?_
      split at hr
      · rename_i h3; cases hr; exact if_pos h3
      · rename_i h3
        refine (if_neg h3).trans ?_
        split at hr
        · rename_i h4; cases hr; exact if_pos h4
        · rename_i h4
          refine (if_neg h4).trans ?_
          split at hr
          · cases hr
          · rename_i h5
            cases hr
            exact if_neg h5
def compB : Expr → Bool
  | .ListComp .. => true
  | .SetComp .. => true
  | .DictComp .. => true
  | _ => false
theorem noSwap {e : Expr} (h : compB e = false) (t : Option Expr) (l : Nat) (env : Env) : swapsWith e t l env = pure false := by
  cases e <;> first | rfl | cases h
theorem swNone {g e : Expr} (env : Env) (h : (match g, e with
    | .Tuple _ _ _, .Tuple _ _ _ => false
    | .List _ _, .Tuple _ _ _ => false
    | _, _ => true) = true) : swappedStores [g] e env = pure none := by
  cases g <;> cases e <;> first | rfl | cases h
theorem sw_off {elt : Expr} {gs : List Comprehension} {scope : Scope} {pos py : Pos} {y : Str} {l : Nat} {env : Env} (h : (py.line == pos.line) = false) : swapsWith (.ListComp elt gs scope pos) (some (.Name y py)) l env = pure false := by
  unfold swapsWith
  simp only [Expr.pos, h, Bool.and_false, Bool.false_and]
end Lb

set_option maxRecDepth 100000
set_option maxHeartbeats 2000000
namespace Lb
open PySem PySem.Spec PyProof.Rows L2
theorem noSole {g e : Expr} (h : compB e = false) (gs : g = g) (l : Nat) (env : Env) : swapsWithSole [g] e l env = pure false := noSwap h (some g) l env
structure Cd (ce : CE) (Γ : List Fn) (c : Cfg) (X : Cx) : Prop where
  cc : Cc ce Γ c X
  hp : PassesOwn (model X.prog X.w) X.A X.env X.xe
structure RSt (ce : CE) (Γ : List Fn) (own : List Nat) (st : Stmt) where
  t : St
  own' : List Nat
  ok : ∀ c X, Cd ce Γ c X → PS X st (tS c own own' (ex Γ t))
structure RSs (ce : CE) (Γ : List Fn) (own : List Nat) (b : List Stmt) where
  ts : List St
  own' : List Nat
  ok : ∀ c X, Cd ce Γ c X → PSs X b (tS c own own' (exs Γ ts))
def subB (a b : List Nat) : Bool := a.all fun i => b.contains i
theorem subB_ok {a b : List Nat} (h : subB a b = true) : ∀ i ∈ a, i ∈ b := fun i hi => by
  have := List.all_eq_true.mp h i hi
  simpa using this
def meet (a b : List Nat) : List Nat := a.filter fun i => b.contains i
theorem meet_l {a b : List Nat} : ∀ i ∈ meet a b, i ∈ a := fun i hi => (List.mem_filter.mp hi).1
theorem meet_r {a b : List Nat} : ∀ i ∈ meet a b, i ∈ b := fun i hi => by
  have := (List.mem_filter.mp hi).2
  simpa using this
def disB (a b : List Nat) : Bool := a.all fun i => !b.contains i
theorem disB_ok {a b : List Nat} (h : disB a b = true) : ∀ i ∈ a, i ∉ b := fun i hi => by
  have := List.all_eq_true.mp h i hi
  simpa using this
structure Ss (ce : CE) (Γ : List Fn) where
  ss : (own : List Nat) → (b : List Stmt) → Option (RSs ce Γ own b)
section
variable {Γ : List Fn} (r : Cs Γ) (ce : CE) (nw : Bool) (own : List Nat)
theorem Cc.ko {ce : CE} {Γ : List Fn} {c : Cfg} {X : Cx} (cc : Cc ce Γ c X) : X.env.kindOf = fun x => ce.sc.names.lookup x := by
  funext x
  show X.env.scope.names.lookup x = _
  rw [cc.sc]
/-- x = e -/
def sAsg (x : Str) (px : Pos) (pos : Pos) (e : Expr) : Option (RSt ce Γ own (.Assign [.Name x px] e pos)) :=
  if hl : locB ce x = true then match hi : ixS x ce.N with
    | none => none
    | some i =>
      let gen : (∀ (c : Cfg) (X : Cx), Cd ce Γ c X → swapsWith e (some (.Name x px)) pos.line X.env = pure false) → Option (RSt ce Γ own (.Assign [.Name x px] e pos)) := fun hs =>
        (r.e ce own e).bind fun a => match h : a.md with
          | .fr => some ⟨.asg i a.t, i :: drop1 a.own' i, fun c X cd => sp_asgF cd.cc.nd (by rw [cd.cc.N]; exact ixS_get hi) (cd.cc.loc hl).1 (by have := a.ok c X cd.cc; rw [h] at this; exact this) (hs c X cd) (cd.cc.loc hl).2⟩
          | .sh => some ⟨.asg i a.t, drop1 a.own' i, fun c X cd => sp_asg cd.cc.nd (by rw [cd.cc.N]; exact ixS_get hi) (cd.cc.loc hl).1 (by have := a.ok c X cd.cc; rw [h] at this; exact this) (hs c X cd) (cd.cc.loc hl).2⟩
          | .pk => none
      (match e, gen with
      | .ListComp elt gs scope p2, gen => if hline : (px.line == p2.line) = true then
          (match gs with
          | [⟨tg, iter, ifs, as⟩] => if ha : as = 0 then if hy : (ce.sc.names.lookup x == some .local) = true then if hk : (ce.sc.kind == .function) = true then if hn : (scope.names.any fun (n, k) => n == x && (k == .local || k == .cell)) = false then
              (cL r ce own tg iter ifs elt scope).map fun l => ⟨.asg i l.T, i :: drop1 l.own2 i, fun c X cd => by rw [ha]; exact l.okS cd.cc p2 (ixS_get hi) (eq_of_beq hy) (eq_of_beq hk) hline hn⟩
            else none else none else none else none
          | _ => none)
        else gen fun c X cd => sw_off (by simpa using hline)
      | e, gen => if hc : compB e = false then gen fun c X cd => noSwap hc _ _ _ else none)
  else none
/-- a, b = e -/
def sUnp (ts : List Expr) (k : Nat) (pt pos : Pos) (e : Expr) : Option (RSt ce Γ own (.Assign [.Tuple ts k pt] e pos)) :=
  if hc : compB e = false then
    (eSh r ce own e).bind fun a => (gN ce Γ 4 (.Tuple ts k pt)).bind fun g =>
      let fin : (∀ (c : Cfg) (X : Cx), Cd ce Γ c X → swappedStores [.Tuple ts k pt] e X.env = pure none) → RSt ce Γ own (.Assign [.Tuple ts k pt] e pos) := fun hw =>
        ⟨.unp g.tg a.t, offT a.own' (slotsT g.tg), fun c X cd => sp_unp (a.ok c X cd.cc) (g.ok c X a.own' cd.cc) (noSole hc rfl _ _) (hw c X cd) rfl⟩
      (match e, fin with
      | .Tuple vs k2 p2, fin => if hk : (ce.sc.kind == .function) = true then (match h : swM (fun x => ce.sc.names.lookup x) ts vs with
          | some none => some (fin fun c X cd => swM_ok (by rw [cd.cc.sc]; exact eq_of_beq hk) (by rw [cd.cc.ko]; exact h))
          | _ => none) else none
      | e, fin => if h : (match e with
          | .Tuple _ _ _ => false
          | _ => true) = true then some (fin fun c X cd => swNone _ (by cases e <;> first | rfl | cases h)) else none)
  else none
structure RAM (es : List Expr) where
  ts : List T
  own' : List Nat
  mu : Bool
  ms : List Bool
  ok : ∀ c X, Cc ce Γ c X → PA X es (tAsM c own own' mu ms (evs Γ ts))
def aM : (es : List Expr) → (own : List Nat) → Option (RAM (Γ := Γ) ce own es)
  | [], own => some ⟨[], own, false, [], fun c X cc => sm_nil⟩
  | e :: es, own => if hs : starOk e = true then
      (r.e ce own e).bind fun a => (aM es a.own').bind fun b => match h : a.md with
        | .sh => some ⟨a.t :: b.ts, b.own', a.mu || b.mu, false :: b.ms, fun c X cc => sm_sh (by have := a.ok c X cc; rw [h] at this; exact this) (b.ok c X cc) (starOk_eq hs es X.env)⟩
        | .fr => some ⟨a.t :: b.ts, b.own', a.mu || b.mu, true :: b.ms, fun c X cc => sm_fr (by have := a.ok c X cc; rw [h] at this; exact this) (b.ok c X cc) (starOk_eq hs es X.env)⟩
        | .pk => none
    else none
/-- a, b = c, d with local names -/
def sPar2 (x y : Str) (px py pt pos p2 : Pos) (k k2 : Nat) (a b : Expr) : Option (RSt ce Γ own (.Assign [.Tuple [.Name x px, .Name y py] k pt] (.Tuple [a, b] k2 p2) pos)) :=
  match hi : ixS x ce.N, hj : ixS y ce.N, hw : swM (fun x => ce.sc.names.lookup x) [.Name x px, .Name y py] [a, b] with
  | some i, some j, some (some l) => if hl : l = [x, y] then if hij : i ≠ j then if hx : (ce.sc.names.lookup x == some .local) = true then if hy : (ce.sc.names.lookup y == some .local) = true then if hk : (ce.sc.kind == .function) = true then
      (aM r ce [a, b] own).bind fun v => match h : v.ms with
        | [b1, b2] => some ⟨.par [i, j] v.ts, ownM v.own' [i, j] [b1, b2], fun c X cd => by
            have ok := v.ok c X cd.cc
            rw [h] at ok
            exact sp_parM cd.cc.calm cd.cc.nd (by rw [cd.cc.N]; exact ixS_get hi) (by rw [cd.cc.N]; exact ixS_get hj) hij (by rw [cd.cc.sc]; exact eq_of_beq hx) (by rw [cd.cc.sc]; exact eq_of_beq hy) ok (swM_ok (by rw [cd.cc.sc]; exact eq_of_beq hk) (by rw [cd.cc.ko, ← hl]; exact hw)) (noSole rfl rfl _ _)⟩
        | _ => none
    else none else none else none else none else none
  | _, _, _ => none
def sPar3 (x y z : Str) (px py pz pt pos p2 : Pos) (k k2 : Nat) (a b d : Expr) : Option (RSt ce Γ own (.Assign [.Tuple [.Name x px, .Name y py, .Name z pz] k pt] (.Tuple [a, b, d] k2 p2) pos)) :=
  match hi : ixS x ce.N, hj : ixS y ce.N, hm : ixS z ce.N, hw : swM (fun x => ce.sc.names.lookup x) [.Name x px, .Name y py, .Name z pz] [a, b, d] with
  | some i, some j, some m, some (some l) => if hl : l = [x, y, z] then if hij : i ≠ j ∧ i ≠ m ∧ j ≠ m then if hx : (ce.sc.names.lookup x == some .local) = true then if hy : (ce.sc.names.lookup y == some .local) = true then if hz : (ce.sc.names.lookup z == some .local) = true then if hk : (ce.sc.kind == .function) = true then
      (aM r ce [a, b, d] own).bind fun v => match h : v.ms with
        | [b1, b2, b3] => some ⟨.par [i, j, m] v.ts, ownM v.own' [i, j, m] [b1, b2, b3], fun c X cd => by
            have ok := v.ok c X cd.cc
            rw [h] at ok
            exact sp_parM3 cd.cc.calm cd.cc.nd (by rw [cd.cc.N]; exact ixS_get hi) (by rw [cd.cc.N]; exact ixS_get hj) (by rw [cd.cc.N]; exact ixS_get hm) hij.1 hij.2.1 hij.2.2 (by rw [cd.cc.sc]; exact eq_of_beq hx) (by rw [cd.cc.sc]; exact eq_of_beq hy) (by rw [cd.cc.sc]; exact eq_of_beq hz) ok (swM_ok (by rw [cd.cc.sc]; exact eq_of_beq hk) (by rw [cd.cc.ko, ← hl]; exact hw)) (noSole rfl rfl _ _)⟩
        | _ => none
    else none else none else none else none else none else none
  | _, _, _, _ => none
structure RGN (ts : List Expr) where
  is : List Nat
  len : ts.length = is.length
  ok : ∀ c X, Cc ce Γ c X → PGs X ts (tGsN is)
def gNm : (ts : List Expr) → Option (RGN (Γ := Γ) ce ts)
  | [] => some ⟨[], rfl, fun c X cc => sgn_nil⟩
  | .Name x pos :: ts => if h : locB ce x = true then match hi : ixS x ce.N with
      | some i => (gNm ts).map fun g => ⟨i :: g.is, by rw [List.length_cons, List.length_cons, g.len], fun c X cc => sgn_cons cc.nd (by rw [cc.N]; exact ixS_get hi) (cc.loc h).1 (cc.loc h).2 (g.ok c X cc)⟩
      | none => none
    else none
  | _ => none
def sParU (ts vs : List Expr) (k k2 : Nat) (pt p2 pos : Pos) : Option (RSt ce Γ own (.Assign [.Tuple ts k pt] (.Tuple vs k2 p2) pos)) :=
  match hw : swM (fun x => ce.sc.names.lookup x) ts vs with
  | some none => if hk : (ce.sc.kind == .function) = true then if hst : ts.all starOk = true then
      (gNm (Γ := Γ) ce ts).bind fun g => (aM r ce vs own).bind fun v => if hl : g.is.length = v.ms.length then if hz : v.ms.length ≤ 1000 then
        some ⟨.par g.is v.ts, ownM v.own' g.is v.ms, fun c X cd => sp_parU cd.cc.calm (g.ok c X cd.cc) hl g.len hz (v.ok c X cd.cc) (assignEach_idx hst) (assignEach_len ts) (swM_ok (by rw [cd.cc.sc]; exact eq_of_beq hk) (by rw [cd.cc.ko]; exact hw)) (noSole rfl rfl _ _)⟩
      else none else none
    else none else none
  | _ => none
/-- o[i] = e, o in the store -/
theorem asgSub {o i : Expr} (hs : (match i with
    | .Slice _ _ _ _ => false
    | _ => true) = true) (tpos : Pos) (env : Env) (v : Value) : assign (.Subscript o i tpos) env v = (do
      let ov ← holding [v] (eval o env)
      let iv ← holding [v, ov] (eval i env)
      standAt tpos
      holding [v, ov, iv] (setItem ov iv v)
      release [v, ov, iv] []) := by
  cases i <;> first | rfl | cases hs
def sSub (o i : Expr) (tpos pos : Pos) (e : Expr) : Option (RSt ce Γ own (.Assign [.Subscript o i tpos] e pos)) :=
  if hc : compB e = false then if hi : (match i with
    | .Slice _ _ _ _ => false
    | _ => true) = true then
    (eSh r ce own e).bind fun a => (eSh r ce a.own' o).bind fun b => (eSh r ce b.own' i).map fun d =>
      ⟨.setR b.t d.t a.t, d.own', fun c X cd => sp_setR (a.ok c X cd.cc) (b.ok c X cd.cc) (d.ok c X cd.cc) (fun v => asgSub hi tpos X.env v) (noSole hc rfl _ _) (swNone _ (by cases e <;> rfl)) rfl⟩
  else none else none
/-- xs.append(e) -/
def sApp (x : Str) (pn apos cpos pos : Pos) (m : Str) (hm : (m == ("append" : Str)) = true) (e : Expr) : Option (RSt ce Γ own (.Expr (.Call (.Attribute (.Name x pn) m apos) [e] [] cpos) pos)) :=
  if hs : starOk e = true then if hline : (apos.endLine == cpos.line) = true then
    (nameIx ce x).bind fun i => (aSh r ce [e] own).bind fun a => match h : a.ts with
      | [t] => if hi : i.1 ∈ own then if hi1 : i.1 ∈ a.own' then some ⟨.app i.1 t, a.own', fun c X cd => by
          have ok := a.ok c X cd.cc
          rw [h] at ok
          rw [eq_of_beq hm]
          exact sp_app (cd.cc.ix i.2) (cd.cc.vis i.2) i.2.dbg i.2.cdc hi hi1 ok (base_ok rfl _ _ _) (starOk_few hs) hline (starOk_eq hs [] X.env)⟩ else none else none
      | _ => none
  else none else none
def sExpr (e : Expr) (pos : Pos) : Option (RSt ce Γ own (.Expr e pos)) :=
  if hc : compB e = false then (eSh r ce own e).map fun a => ⟨.expr a.t, a.own', fun c X cd => sp_expr (a.ok c X cd.cc) (noSwap hc _ _ _)⟩ else none
def sRet (e : Expr) (pos : Pos) : Option (RSt ce Γ own (.Return (some e) pos)) :=
  let gen : Option (RSt ce Γ own (.Return (some e) pos)) := (eSh r ce own e).map fun a => ⟨.ret a.t, own, fun c X cd => sp_ret (a.ok c X cd.cc)⟩
  match nw, e, gen with
  | true, .List es p, _ => (aSh r ce es own).bind fun a => if hl : a.ts.length ≤ 1000 then some ⟨.ret (.new a.ts), own, fun c X cd => sp_ret (se_new (a.ok c X cd.cc) (Nat.le_trans hl (by decide)))⟩ else none
  | _, _, gen => gen
def sAug (x : Str) (px pos : Pos) (op : Operator) (e : Expr) : Option (RSt ce Γ own (.AugAssign (.Name x px) op e pos)) :=
  if hl : locB ce x = true then match hi : ixS x ce.N with
    | none => none
    | some i => if hio : i ∉ own then (eSh r ce own e).bind fun a => match op with
        | .Add => some ⟨.aug i .add a.t, drop1 a.own' i, fun c X cd => sp_aug cd.cc.nd (by rw [cd.cc.N]; exact ixS_get hi) (cd.cc.loc hl).1 hio (a.ok c X cd.cc) ip_add aug_add aug_add0 (cd.cc.loc hl).2⟩
        | .Sub => some ⟨.aug i .sub a.t, drop1 a.own' i, fun c X cd => sp_aug cd.cc.nd (by rw [cd.cc.N]; exact ixS_get hi) (cd.cc.loc hl).1 hio (a.ok c X cd.cc) ip_sub aug_sub aug_sub0 (cd.cc.loc hl).2⟩
        | _ => none
      else none
  else none
def sRaise (x : Str) (p p2 pos : Pos) : Option (RSt ce Γ own (.Raise (some (.Call (.Name x p) [] [] p2)) none pos)) :=
  if hg : glB ce x = true then match h : ce.gl.lookup x with
    | some .exc => some ⟨.raise x [], own, fun c X cd => by
        obtain ⟨C, bmB, B, newId, initId, h1, h2, h3, h4, h5, h6⟩ := cd.cc.gl x _ h
        rw [cd.cc.K] at h2 h4 h5 h6
        rw [cd.cc.mg] at h3
        exact sp_raise0 cd.cc.calm cd.cc.mg cd.cc.tk h3 (pmk_own0 h1 h2 h3 h4 (raises_own h5 h6) (cd.cc.g hg) (glB_dbg hg))⟩
    | _ => none
  else none
variable (q : Ss ce Γ)
def sIf (e : Expr) (a b : List Stmt) (pos : Pos) : Option (RSt ce Γ own (.If e a b pos)) :=
  (r.t ce own e).bind fun x => (q.ss x.own' a).bind fun y => (q.ss x.own' b).map fun z =>
    ⟨.ifs x.t y.ts z.ts, meet y.own' z.own', fun c X cd => sp_if (x.ok c X cd.cc) (ss_post (y.ok c X cd) meet_l) (ss_post (z.ok c X cd) meet_r)⟩
def forFin (tg iter : Expr) (body : List Stmt) (pos : Pos) (I : RI ce Γ own tg iter) (G : RG ce Γ tg) : Nat → (ownL : List Nat) → Option (RSt ce Γ own (.For tg iter body [] pos))
  | 0, _ => none
  | n + 1, ownL => (q.ss ownL body).bind fun B =>
      if h1 : subB ownL B.own' = true then if h2 : subB ownL I.own' = true then if h3 : disB (slotsT G.tg) ownL = true then if h4 : setB iter = false then
        some ⟨.for_ I.k I.as G.tg B.ts, ownL, fun c X cd => sp_for cd.hp cd.cc.calm (I.ok c X cd.cc) (subB_ok h2) (disB_ok h3) (G.ok c X ownL cd.cc) (ss_post (B.ok c X cd) (subB_ok h1)) (fun x => noFold h4 X.env x)⟩
      else none else none else none else forFin tg iter body pos I G n (meet ownL B.own')
def sFor (tg iter : Expr) (body : List Stmt) (pos : Pos) : Option (RSt ce Γ own (.For tg iter body [] pos)) :=
  (cI r ce own tg iter).bind fun I => (gN ce Γ 4 tg).bind fun G => forFin ce own q tg iter body pos I G 4 (offT I.own' (slotsT G.tg))
def whFin (e : Expr) (body : List Stmt) (pos : Pos) : Nat → (ownL : List Nat) → Option (RSt ce Γ own (.While e body [] pos))
  | 0, _ => none
  | n + 1, ownL => (r.t ce ownL e).bind fun x => if h0 : x.own' = ownL then (q.ss ownL body).bind fun B =>
      if h1 : subB ownL B.own' = true then if h2 : subB ownL own = true then
        some ⟨.while_ x.t B.ts, ownL, fun c X cd => sp_while (mu := x.mu) cd.hp (subB_ok h2) (by have := x.ok c X cd.cc; rw [h0] at this; exact this) (ss_post (B.ok c X cd) (subB_ok h1))⟩
      else none else whFin e body pos n (meet ownL B.own')
    else whFin e body pos n (meet ownL x.own')
def sNext : (st : Stmt) → Option (RSt ce Γ own st)
  | .Pass pos => some ⟨.pass, own, fun c X cd => sp_pass⟩
  | .Expr (.Constant (.str x) j p) pos => some ⟨.pass, own, fun c X cd => sp_doc⟩
  | .Expr (.Call (.Attribute (.Name x pn) m apos) [e] [] cpos) pos => if hm : (m == ("append" : Str)) = true then sApp r ce own x pn apos cpos pos m hm e else sExpr r ce own _ pos
  | .Expr e pos => sExpr r ce own e pos
  | .Assign [.Name x px] e pos => sAsg r ce own x px pos e
  | .Assign [.Tuple ts k pt] (.Tuple vs k2 p2) pos => (match ts, vs with
      | [.Name x px, .Name y py], [a, b] => (sPar2 r ce own x y px py pt pos p2 k k2 a b).orElse fun _ => sParU r ce own _ _ k k2 pt p2 pos
      | [.Name x px, .Name y py, .Name z pz], [a, b, d] => (sPar3 r ce own x y z px py pz pt pos p2 k k2 a b d).orElse fun _ => sParU r ce own _ _ k k2 pt p2 pos
      | ts, vs => (sParU r ce own ts vs k k2 pt p2 pos).orElse fun _ => sUnp r ce own ts k pt pos (.Tuple vs k2 p2))
  | .Assign [.Tuple ts k pt] e pos => sUnp r ce own ts k pt pos e
  | .Assign [.Subscript o i tpos] e pos => sSub r ce own o i tpos pos e
  | .AugAssign (.Name x px) op e pos => sAug r ce own x px pos op e
  | .If e a b pos => sIf r ce own q e a b pos
  | .For tg iter body [] pos => sFor r ce own q tg iter body pos
  | .While e body [] pos => whFin r ce own q e body pos 4 own
  | .Return (some e) pos => sRet r ce nw own e pos
  | .Return none pos => some ⟨.retN, own, fun c X cd => sp_retN⟩
  | .Raise (some (.Call (.Name x p) [] [] p2)) none pos => sRaise ce own x p p2 pos
  | _ => none
def ssNext : (b : List Stmt) → (own : List Nat) → Option (RSs ce Γ own b)
  | [], own => some ⟨[], own, fun c X cd => ss_nil⟩
  | st :: b, own => (sNext r ce nw own q st).bind fun x => (ssNext b x.own').map fun y => ⟨x.t :: y.ts, y.own', fun c X cd => ss_cons (x.ok c X cd) (y.ok c X cd)⟩
end
def slv {Γ : List Fn} (r : Cs Γ) (ce : CE) (nw : Bool) : Nat → Ss ce Γ
  | 0 => ⟨fun _ _ => none⟩
  | n + 1 => ⟨fun own b => ssNext r ce nw (slv r ce nw n) b own⟩
/-- a def's body -/
def cBody (Γ : List Fn) (ce : CE) (nw : Bool) (body : List Stmt) : Option (RSs ce Γ [] body) := (slv (lvl Γ 40) ce nw 20).ss [] body
end Lb

set_option maxRecDepth 100000
set_option maxHeartbeats 2000000
/-! all defs of a text, one behind another -/
namespace Lb
open PySem PySem.Spec PyProof.Rows L2
/-- one def: the text's, its parameters, its slots, whether a list that it returns goes to the store, what stands for parameters left out, its form in the small language -/
structure LD where
  d : He.DefD
  ps : List Str
  N : List Str
  nw : Bool
  das : List T
  b : FD
def fnE : Nat → List LD → List (Str × GK)
  | _, [] => []
  | i, l :: r => (l.d.at_.1, .fn i l.b.np l.das) :: fnE (i + 1) r
theorem fnE_mem {x : Str} {g : GK} : ∀ {L : List LD} {i : Nat}, (x, g) ∈ fnE i L → ∃ j l, L[j]? = some l ∧ x = l.d.at_.1 ∧ g = .fn (i + j) l.b.np l.das
  | [], _, h => by cases h
  | l :: r, i, h => by
    rcases List.mem_cons.mp h with e | e
    · cases e; exact ⟨0, l, rfl, rfl, rfl⟩
    · obtain ⟨j, l', h1, h2, h3⟩ := fnE_mem e
      exact ⟨j + 1, l', h1, h2, by rw [h3]; congr 1; omega⟩
abbrev FunL (K : PySem.W.Frag) (l : LD) (fd : FuncData) : Prop := FunD K l.d.name l.d.qual l.d.params l.d.body l.d.scope (l.d.dvs K) (l.d.kws K) (He.fAd K l.d.at_) fd
def ceL (g0 : List (Str × GK)) (L : List LD) (l : LD) (i : Nat) : CE := ⟨l.N, l.d.scope, fun _ => true, fnE 0 (L.take i) ++ g0, i⟩
def bodyIs (g0 : List (Str × GK)) (L : List LD) (Γ : List Fn) (l : LD) (i : Nat) : Prop := (cBody Γ (ceL g0 L l i) l.nw l.d.body).map RSs.ts = some l.b.body
/-- how a def is called -/
def BindL (l : LD) : Prop := ∀ K fd, FunL K l fd → ∃ (dvs : List V) (dus : List Value), ∀ Γ j, j ≤ l.das.length → Binds K fd l.ps (dus.drop j) ∧ Dfl K Γ (l.das.drop j) (dvs.drop j) (dus.drop j)
structure LOk (g0 : List (Str × GK)) (L : List LD) (Γs : List Fn) (l : LD) (i : Nat) : Prop where
  sc : FnScope l.N l.ps l.d.scope
  np : l.ps.length = l.b.np
  n : l.N.length = l.b.n
  mir : Γs[i]? = some (runFn l.b (Γs.take i))
  cmp : bodyIs g0 L (Γs.take i) l i
  bind : BindL l
/-- what the module holds -/
structure Mo (K : PySem.W.Frag) (mg : Str → Option Value) (g0 : List (Str × GK)) (L : List LD) : Prop where
  g0 : ∀ x g, (x, g) ∈ g0 → ∀ P w base kk Γ, GOk P w K mg base kk Γ x g
  fn : ∀ (i : Nat) (l : LD), L[i]? = some l → ∃ fd, FunL K l fd
  gl : ∀ (i : Nat) (l : LD), L[i]? = some l → mg l.d.at_.1 = some (.ref (He.fAd K l.d.at_))
theorem mem_lookup' {α : Type} : ∀ {l : List (Str × α)} {n : Str} {c : α}, l.lookup n = some c → (n, c) ∈ l
  | (k, v) :: r, n, c, h => by
    rw [List.lookup_cons] at h
    cases hb : n == k with
    | true => rw [hb] at h; cases h; rw [eq_of_beq hb]; exact List.mem_cons_self
    | false => rw [hb] at h; exact List.mem_cons_of_mem _ (mem_lookup' h)
theorem one_fn {P : Program} {w : World} {K : PySem.W.Frag} {mg : Str → Option Value} {base : Heap} {l : LD} {i : Nat} {g0 : List (Str × GK)} {L : List LD} {Γ : List Fn} {fd : FuncData} (F : FunL K l fd) (sc : FnScope l.N l.ps l.d.scope) (np : l.ps.length = l.b.np) (n : l.N.length = l.b.n)
    (cmp : bodyIs g0 L Γ l i) (gl : ∀ x g, (ceL g0 L l i).gl.lookup x = some g → GOk P w K mg base i Γ x g) : FnOk P w K mg base (L2.CX P w) (i + 1) (He.fAd K l.d.at_) fd l.ps (spD K mg l.b.np (runFn l.b Γ)) := by
  obtain ⟨oc, od, dV, kV, doc, pm, an, cdv, ct, osl, rfl, lk, hcd, _, _⟩ := F.ex
  unfold bodyIs at cmp
  cases e : cBody Γ (ceL g0 L l i) l.nw l.d.body with
  | none => rw [e] at cmp; cases cmp
  | some r =>
    rw [e] at cmp
    have cmp : r.ts = l.b.body := Option.some.inj cmp
    refine fn_D (own' := r.own') lk hcd sc np n fun A outer s H E hr => ?_
    rw [← cmp]
    refine r.ok _ _ ⟨⟨rfl, rfl, rfl, sc.nd, rfl, fun _ _ => rfl, rfl, takes_of rfl rfl rfl rfl, gl, hr⟩, passes_of rfl⟩
theorem all_fn {P : Program} {w : World} {K : PySem.W.Frag} {mg : Str → Option Value} {base : Heap} {g0 : List (Str × GK)} {L : List LD} {Γs : List Fn} (M : Mo K mg g0 L) (ok : ∀ (i : Nat) (l : LD), L[i]? = some l → LOk g0 L Γs l i) :
    ∀ (i : Nat) (l : LD), L[i]? = some l → ∃ fd, FunL K l fd ∧ FnOk P w K mg base (L2.CX P w) (i + 1) (He.fAd K l.d.at_) fd l.ps (spD K mg l.b.np (runFn l.b (Γs.take i))) := by
  intro i
  induction i using Nat.strongRecOn with
  | ind i ih =>
    intro l hl
    obtain ⟨fd, F⟩ := M.fn i l hl
    have o := ok i l hl
    refine ⟨fd, F, one_fn F o.sc o.np o.n o.cmp fun x g hx => ?_⟩
    have hx : (fnE 0 (L.take i) ++ g0).lookup x = some g := hx
    rcases List.mem_append.mp (mem_lookup' hx) with h | h
    · obtain ⟨j, l', h1, rfl, rfl⟩ := fnE_mem h
      have hj : j < i := by
        have := (List.getElem?_eq_some_iff.mp h1).1
        rw [List.length_take] at this; omega
      rw [List.getElem?_take_of_lt hj] at h1
      obtain ⟨fd', F', ok'⟩ := ih j hj l' h1
      have o' := ok j l' h1
      obtain ⟨dvs, dus, hb⟩ := o'.bind K fd' F'
      refine ⟨_, _, fd', l'.ps, dvs, dus, ?_, ok'.mono (by omega), M.gl j l' h1, F'.kp, fun k hk => hb _ k hk⟩
      rw [Nat.zero_add, List.getElem?_take_of_lt hj]
      exact o'.mir
    · exact M.g0 x g h P w base i _
theorem bindNone {l : LD} (h : l.das = []) (f : ∀ K fd, FunL K l fd → Binds K fd l.ps []) : BindL l := fun K fd F => ⟨[], [], fun Γ j hj => by
  rw [h, List.drop_nil, List.drop_nil, List.drop_nil]
  exact ⟨f K fd F, .nil⟩⟩
theorem fd_eq {K : PySem.W.Frag} {l : LD} {fd fd' : FuncData} (F : FunL K l fd) (F' : FunL K l fd') : fd = fd' := by
  obtain ⟨oc, od, dV, kV, doc, pm, an, cdv, ct, osl, _, lk, _⟩ := F.ex
  obtain ⟨oc', od', dV', kV', doc', pm', an', cdv', ct', osl', _, lk', _⟩ := F'.ex
  rw [lk] at lk'
  cases lk'
  rfl
section
variable {K : PySem.W.Frag} {mg : Str → Option Value} {x : Str}
theorem g_int {i : Int} (h : ∃ t, mg x = some (.int i t)) : ∀ P w base kk Γ, GOk P w K mg base kk Γ x (.cst (.cn (.int i))) := fun P w base kk Γ => by
  obtain ⟨t, h⟩ := h
  exact ⟨.int i, _, .int i, fun _ => rfl, h, ⟨_, rfl⟩, fun _ _ _ => rfl⟩
theorem g_str {z : Str} (h : ∃ t, mg x = some (.str z t)) : ∀ P w base kk Γ, GOk P w K mg base kk Γ x (.cst (.cn (.str z))) := fun P w base kk Γ => by
  obtain ⟨t, h⟩ := h
  exact ⟨.str z, _, .str z, fun _ => rfl, h, ⟨_, rfl⟩, fun _ _ _ => rfl⟩
theorem g_exc (h : mg x = some (.ref (He.ga K x))) (q : PySem.W.excIn K (He.ga K x) He.veBase "ValueError.__new__" = true ∧ PySem.W.keepIn K (.ref (He.ga K x)) = true ∧ PySem.W.subIn K (.ref (He.ga K x)) (.type "BaseException") = some true ∧
    PySem.W.typeIn K (.ref (He.ga K x)) = some (.type "type")) : ∀ P w base kk Γ, GOk P w K mg base kk Γ x .exc := fun P w base kk Γ =>
  ⟨_, _, _, _, _, PySem.F.excBase_ValueError, q.1, h, q.2.1, q.2.2.1, q.2.2.2⟩
end
/-! ### the head -/
/-- no list stands in the module -/
def noLst (K : PySem.W.Frag) : Bool := K.all fun p => match p.2.cls with
  | .type c => !(c == "list")
  | _ => true
theorem noLst_ok {K : PySem.W.Frag} (h : noLst K = true) {a : Addr} {o : Obj} (e : K.lookup a = some o) : o.cls ≠ .type "list" := fun z => by
  have hm : ∀ (l : PySem.W.Frag), l.lookup a = some o → (a, o) ∈ l := fun l e => by
    induction l with
    | nil => cases e
    | cons p r ih =>
      obtain ⟨k, v⟩ := p
      rw [List.lookup_cons] at e
      cases hb : a == k with
      | true => rw [hb] at e; cases e; rw [eq_of_beq hb]; exact List.mem_cons_self
      | false => rw [hb] at e; exact List.mem_cons_of_mem _ (ih e)
  have := List.all_eq_true.mp h _ (hm K e)
  rw [z] at this
  simp at this
/-- what the top leaves, by names -/
abbrev AlL : Type := Bool × He.AlD
def obsL (fa : List He.Fa) (fn : List He.DefD) (ex : PySem.W.Frag → Bool) (K : PySem.W.Frag) : AlL := (noLst K && ex K, He.obsD fa fn K)
def SaysL (fa : List He.Fa) (fn : List He.DefD) (ex : PySem.W.Frag → Bool) (K : PySem.W.Frag) : Prop := obsL fa fn ex K = (true, He.valD fn)
def obsLG (n : Nat) (fa : List He.Fa) (fn : List He.DefD) (ex : PySem.W.Frag → Bool) (g : Addr → Option Obj) : AlL := obsL fa fn ex (He.frG g (He.asD g n))
def hookL (n : Nat) (fa : List He.Fa) (fn : List He.DefD) (ex : PySem.W.Frag → Bool) : PySem.W.Hook where
  α := AlL
  obs := fun s => obsLG n fa fn ex s.heap.get?
  val := fun _ => (true, He.valD fn)
  says := fun _ h => ∃ K : PySem.W.Frag, K.In h ∧ SaysL fa fn ex K
  of := fun _ _ e => ⟨_, He.frG_in, e⟩
  keeps := fun _ _ _ ⟨K, hK, c⟩ k => ⟨K, PySem.W.Frag.In.keeps hK k, c⟩
theorem obsLG_eq {n : Nat} {fa : List He.Fa} {fn : List He.DefD} {ex : PySem.W.Frag → Bool} {g : Addr → Option Obj} {s : Shared} (h : ∀ a, g a = s.heap.get? a) : obsLG n fa fn ex g = (hookL n fa fn ex).obs s := by
  have e : g = s.heap.get? := funext h
  rw [e] <;> rfl
section
variable {fa : List He.Fa} {fn : List He.DefD} {ex : PySem.W.Frag → Bool} {K : PySem.W.Frag}
theorem SaysL.d (c : SaysL fa fn ex K) : He.SaysD fa fn K := congrArg (fun z : AlL => z.2) c
theorem SaysL.n (c : SaysL fa fn ex K) : noLst K = true ∧ ex K = true := He.ba (congrArg (fun z : AlL => z.1) c)
end
theorem intsR {K : PySem.W.Frag} {H : Hp} {Z : Zs} {μ : List Addr} : ∀ ns : List Int, Reps K H Z μ (ns.map D.int) (ns.map V.int)
  | [] => rfl
  | n :: ns => ⟨_, _, rfl, rfl, intsR ns⟩
/-- the law's promise from what its mirror yields -/
theorem law_sp {K : PySem.W.Frag} {mg : Str → Option Value} {F : Fn} (hn : noLst K = true) {H : Hp} {a : Addr} {ns : List Int} (hl : ns.length ≤ sizeLine) (hS : SqL K H a (ns.map V.int)) (h : ∃ st', F [.lst (ns.map D.int)] [] = .ok (.bl true) st') :
    spD K mg 1 F [.ref a] H (fun v _ => v = .bl true) (fun _ _ _ => False) := by
  obtain ⟨st', e⟩ := h
  have hR : Rd H a (.lst (ns.map V.int)) := by
    rcases hS with q | ⟨o, its, n, q1, q2, _⟩
    · exact q
    · exact absurd q2 (noLst_ok hn q1)
  have hlive : ∃ o, H a = some o := by
    rcases hR with q | ⟨o, q⟩
    · exact ⟨_, q⟩
    · exact ⟨_, q⟩
  refine ⟨[.lst (ns.map D.int)], [], ⟨fun p => ∃ o, H p = some o, fun _ => 0, []⟩, rfl, ⟨rfl, fun i d e => by simp at e, fun p z => z, fun i hi => by simp at hi, fun i hi => by simp at hi, ⟨rfl, fun n xs e => by simp at e⟩, fun a ha => by simp at ha, List.nodup_nil⟩, ⟨_, _, rfl, ⟨a, _, rfl, ⟨hlive, hR⟩, by simpa using hl, intsR ns⟩, rfl⟩, ?_⟩
  rw [e]
  exact fun v H' G' _ _ rp => rp
theorem law_fn {P : Program} {w : World} {K : PySem.W.Frag} {mg : Str → Option Value} {base : Heap} {k : Nat} {f : Addr} {fd : FuncData} {ps : List Str} {sp : Sp} (F : FnOk P w K mg base (L2.CX P w) k f fd ps sp) :
    FnOk P w K mg base CX0 k f fd ps (fun vs H Q _ => sp vs H Q (fun _ _ _ => False)) := by
  refine ⟨fun vs H Q E h => F.len vs H Q _ h, fun A outer s H args us vs Q E hr e0 hb r h => codeAny_mono (F.run A outer s H args us vs Q (fun _ _ _ => False) hr e0 hb r h) fun res s' q => ?_⟩
  cases res with
  | ok fl =>
    cases fl <;> exact q
  | error e => obtain ⟨_, _, _, _, _, _, _, _, _, _, _, _, z⟩ := q; exact z.elim
end Lb

set_option maxRecDepth 100000
set_option maxHeartbeats 1000000
/-! for the plain half: comprehensions, loops -/
namespace Lb
open PySem L2
theorem wipeD_in {e : List (Option D)} : ∀ {vs : List Nat} {i : Nat}, i ∈ vs → i < e.length → (wipeD e vs)[i]? = some none
  | v :: vs, i, hi, hl => by
    unfold wipeD
    by_cases h : v = i
    · subst h
      rw [List.getElem?_set_self (by rw [wipeD_length]; exact hl)]
    · rw [List.getElem?_set_ne h]
      rcases List.mem_cons.mp hi with q | q
      · exact absurd q.symm h
      · exact wipeD_in q hl
theorem wipeD_out {e : List (Option D)} : ∀ {vs : List Nat} {i : Nat}, i ∉ vs → (wipeD e vs)[i]? = e[i]?
  | [], _, _ => rfl
  | v :: vs, i, hi => by
    unfold wipeD
    rw [List.getElem?_set_ne (fun z => hi (by rw [z]; exact List.mem_cons_self))]
    exact wipeD_out fun z => hi (List.mem_cons_of_mem _ z)
theorem backD_in {e0 e : List (Option D)} (hl : e0.length = e.length) : ∀ {vs : List Nat} {i : Nat}, i ∈ vs → (backD e0 e vs)[i]? = e0[i]?
  | v :: vs, i, hi => by
    unfold backD
    by_cases h : v = i
    · subst h
      cases q : e0[v]? with
      | none =>
        show (backD e0 e vs)[v]? = none
        rw [List.getElem?_eq_none_iff] at q ⊢
        rw [backD_length, ← hl]; exact q
      | some o =>
        show ((backD e0 e vs).set v o)[v]? = some o
        rw [List.getElem?_set_self (by rw [backD_length, ← hl]; exact (List.getElem?_eq_some_iff.mp q).1)]
    · have hi' : i ∈ vs := by
        rcases List.mem_cons.mp hi with q | q
        · exact absurd q.symm h
        · exact q
      cases q : e0[v]? with
      | none => exact backD_in hl hi'
      | some o =>
        show ((backD e0 e vs).set v o)[i]? = _
        rw [List.getElem?_set_ne h]; exact backD_in hl hi'
theorem backD_out {e0 e : List (Option D)} : ∀ {vs : List Nat} {i : Nat}, i ∉ vs → (backD e0 e vs)[i]? = e[i]?
  | [], _, _ => rfl
  | v :: vs, i, hi => by
    unfold backD
    have h : v ≠ i := fun z => hi (by rw [z]; exact List.mem_cons_self)
    have hi' : i ∉ vs := fun z => hi (List.mem_cons_of_mem _ z)
    cases q : e0[v]? with
    | none => exact backD_out hi'
    | some o =>
      show ((backD e0 e vs).set v o)[i]? = _
      rw [List.getElem?_set_ne h]; exact backD_out hi'
theorem back_wipe (e : List (Option D)) (vs : List Nat) : backD e (wipeD e vs) vs = e := by
  apply List.ext_getElem?
  intro i
  by_cases hi : i ∈ vs
  · exact backD_in (by rw [wipeD_length]) hi
  · rw [backD_out hi, wipeD_out hi]
theorem lcGo_pure {body : D → S → R S (Option D)} {s : S} (f : D → Option D) : ∀ (xs : List D), (∀ x ∈ xs, body x s = .ok (f x) s) → lcGo body xs s = .ok (xs.filterMap f) s
  | [], _ => rfl
  | x :: xs, h => by
    unfold lcGo
    rw [h x List.mem_cons_self, R.bind_ok, lcGo_pure f xs fun y hy => h y (List.mem_cons_of_mem _ hy), R.bind_ok, List.filterMap_cons]
    cases f x <;> rfl
section
variable {Γ : List Fn} {s : S} {k : IK} {as : List T} {tg : Tg} {vs : List Nat} {ifs : List T} {t : T} {env : List (Option D)} {st : Sto}
/-- a comprehension that changes nothing -/
theorem ev_lcP {xs : List D} (f : D → Option D) (hI : evI Γ k as s = .ok xs ⟨env, st⟩) (hb : ∀ x ∈ xs, lcBody Γ tg vs ifs t x ⟨wipeD env vs, st⟩ = .ok (f x) ⟨wipeD env vs, st⟩) (hl : xs.length ≤ sizeLine) :
    ev Γ (.lc k as tg vs ifs t) s = .ok (.lst (xs.filterMap f)) ⟨env, st⟩ := by
  rw [ev_lc', hI, R.bind_ok, lcGo_pure f xs hb]
  have : fits (xs.filterMap f) = true := decide_eq_true (Nat.le_trans (List.length_filterMap_le ..) hl)
  simp only [R.noX, R.bind_ok, this, if_true, back_wipe]
/-- .. that makes one item each -/
theorem ev_lcM {xs : List D} (f : D → D) (hI : evI Γ k as s = .ok xs ⟨env, st⟩) (hb : ∀ x ∈ xs, lcBody Γ tg vs ifs t x ⟨wipeD env vs, st⟩ = .ok (some (f x)) ⟨wipeD env vs, st⟩) (hl : xs.length ≤ sizeLine) :
    ev Γ (.lc k as tg vs ifs t) s = .ok (.lst (xs.map f)) ⟨env, st⟩ := by
  rw [ev_lcP (fun x => some (f x)) hI hb hl]
  congr 2
  exact List.filterMap_eq_map ▸ rfl
end
theorem lcGo_Y {β : Type} {body : D → S → R S (Option D)} {s : S} (g : β → D) (p : β → Bool) (h : β → D) : ∀ (ys : List β), (∀ y ∈ ys, body (g y) s = .ok (if p y then some (h y) else none) s) → lcGo body (ys.map g) s = .ok ((ys.filter p).map h) s
  | [], _ => rfl
  | y :: ys, hb => by
    rw [List.map_cons]
    unfold lcGo
    rw [hb y List.mem_cons_self, R.bind_ok, lcGo_Y g p h ys fun z hz => hb z (List.mem_cons_of_mem _ hz), R.bind_ok]
    cases hp : p y with
    | true => rw [List.filter_cons_of_pos hp]; simp
    | false => rw [List.filter_cons_of_neg (by simp [hp])]; simp
section
variable {Γ : List Fn} {s : S} {k : IK} {as : List T} {tg : Tg} {vs : List Nat} {ifs : List T} {t : T} {env : List (Option D)} {st : Sto} {β : Type}
theorem ev_lcF (ys : List β) (g : β → D) (p : β → Bool) (h : β → D) (hI : evI Γ k as s = .ok (ys.map g) ⟨env, st⟩) (hb : ∀ y ∈ ys, lcBody Γ tg vs ifs t (g y) ⟨wipeD env vs, st⟩ = .ok (if p y then some (h y) else none) ⟨wipeD env vs, st⟩) (hl : ys.length ≤ sizeLine) :
    ev Γ (.lc k as tg vs ifs t) s = .ok (.lst ((ys.filter p).map h)) ⟨env, st⟩ := by
  rw [ev_lc', hI, R.bind_ok, lcGo_Y g p h ys hb]
  have : fits ((ys.filter p).map h) = true := decide_eq_true (by rw [List.length_map]; exact Nat.le_trans (List.length_filter_le ..) hl)
  simp only [R.noX, R.bind_ok, this, if_true, back_wipe]
theorem ev_lcY (ys : List β) (g : β → D) (h : β → D) (hI : evI Γ k as s = .ok (ys.map g) ⟨env, st⟩) (hb : ∀ y ∈ ys, lcBody Γ tg vs ifs t (g y) ⟨wipeD env vs, st⟩ = .ok (some (h y)) ⟨wipeD env vs, st⟩) (hl : ys.length ≤ sizeLine) :
    ev Γ (.lc k as tg vs ifs t) s = .ok (.lst (ys.map h)) ⟨env, st⟩ := by
  have := ev_lcF (Γ := Γ) (tg := tg) (vs := vs) (ifs := ifs) (t := t) ys g (fun _ => true) h hI (fun y hy => by rw [hb y hy]; rfl) hl
  rw [this]
  congr 3
  exact List.filter_eq_self.mpr fun _ _ => rfl
end
theorem ev_lcS {Γ : List Fn} {s : S} {k : IK} {as : List T} {tg : Tg} {vs : List Nat} {ifs : List T} {t : T} {env : List (Option D)} {st st' : Sto} {xs ds : List D} (hI : evI Γ k as s = .ok xs ⟨env, st⟩) (hb : lcGo (lcBody Γ tg vs ifs t) xs ⟨wipeD env vs, st⟩ = .ok ds ⟨wipeD env vs, st'⟩) (hl : ds.length ≤ sizeLine) :
    ev Γ (.lc k as tg vs ifs t) s = .ok (.lst ds) ⟨env, st'⟩ := by
  rw [ev_lc', hI, R.bind_ok, hb]
  have : fits ds = true := decide_eq_true hl
  simp only [R.noX, R.bind_ok, this, if_true, back_wipe]
theorem exs_whileB (Γ : List Fn) (s : S) (c : T) (body ts : List St) : exs Γ (.while_ c body :: ts) s = thenS (whGo (evT Γ c) (exs Γ body) s.env fuel s) (exs Γ ts) := rfl
theorem whGo_succ (c : S → R S Bool) (body : S → R S Fl) (e0 : List (Option D)) (n : Nat) (s : S) : whGo c body e0 (n + 1) s = (c s).bind fun b s => if b then (body s).bind fun f s => (match f with
      | .next => whGo c body e0 n { s with env := keepTo e0 s.env }
      | .ret d => .ok (.ret d) s) else .ok .next s := rfl
@[simp] theorem evT_eq (Γ : List Fn) (t : T) (s : S) : evT Γ t s = (ev Γ t s).bind fun x s => opt s (truthy x) := rfl
theorem bls_mapY {β : Type} (f : β → Bool) : ∀ ys : List β, bls (ys.map fun x => D.bl (f x)) = some (ys.map f)
  | [] => rfl
  | x :: xs => by
    show (bls (xs.map fun x => D.bl (f x))).map _ = _
    rw [bls_mapY f xs]; rfl
theorem allR_Y {β : Type} (f : β → Bool) (ys : List β) : allR (ys.map fun x => D.bl (f x)) = some (ys.all f) := by
  unfold allR
  rw [bls_mapY]
  simp [List.all_map]
theorem anyR_Y {β : Type} (f : β → Bool) (ys : List β) : anyR (ys.map fun x => D.bl (f x)) = some (ys.any f) := by
  unfold anyR
  rw [bls_mapY]
  simp [List.any_map]
theorem sumR_Y {β : Type} (f : β → Int) : ∀ ys : List β, sumR (ys.map fun x => D.int (f x)) = some (ys.map f).sum
  | [] => rfl
  | x :: xs => by
    show (sumR (xs.map fun x => D.int (f x))).map _ = _
    rw [sumR_Y f xs]; rfl
theorem zipL_map {β γ : Type} (g : β → D) (h : γ → D) : ∀ (xs : List β) (ys : List γ), zipL (xs.map g) (ys.map h) = (xs.zip ys).map fun p => .tup [g p.1, h p.2]
  | [], _ => rfl
  | _ :: _, [] => rfl
  | x :: xs, y :: ys => by
    show D.tup [g x, h y] :: zipL (xs.map g) (ys.map h) = _
    rw [zipL_map g h xs ys]; rfl
def enumI {β : Type} : Nat → List β → List (Nat × β)
  | _, [] => []
  | i, x :: xs => (i, x) :: enumI (i + 1) xs
theorem enumL_map {β : Type} (g : β → D) : ∀ (xs : List β) (i : Nat), enumL i (xs.map g) = (enumI i xs).map fun p => .tup [.int p.1, g p.2]
  | [], _ => rfl
  | x :: xs, i => by
    show D.tup [.int i, g x] :: enumL (i + 1) (xs.map g) = _
    rw [enumL_map g xs (i + 1)]; rfl
theorem enumI_len {β : Type} : ∀ (xs : List β) (i : Nat), (enumI i xs).length = xs.length
  | [], _ => rfl
  | x :: xs, i => by rw [enumI, List.length_cons, List.length_cons, enumI_len xs]
theorem enumI_mem {β : Type} {p : Nat × β} : ∀ {xs : List β} {i : Nat}, p ∈ enumI i xs ↔ i ≤ p.1 ∧ xs[p.1 - i]? = some p.2
  | [], i => by simp [enumI]
  | x :: xs, i => by
    rw [enumI, List.mem_cons, enumI_mem]
    constructor
    · rintro (e | ⟨h1, h2⟩)
      · subst e; simp
      · refine ⟨by omega, ?_⟩
        rw [show p.1 - i = (p.1 - (i + 1)) + 1 by omega]
        simpa using h2
    · rintro ⟨h1, h2⟩
      by_cases h : p.1 = i
      · left
        rw [h] at h2
        simp at h2
        exact Prod.ext h h2.symm
      · right
        refine ⟨by omega, ?_⟩
        rw [show p.1 - i = (p.1 - (i + 1)) + 1 by omega] at h2
        simpa using h2
theorem rangeD_map : ∀ (n : Nat) (lo : Int), rangeD lo n = (List.range n).map fun (i : Nat) => D.int (lo + (i : Int))
  | 0, _ => rfl
  | n + 1, lo => by
    rw [rangeD, rangeD_map n, List.range_succ_eq_map, List.map_cons, List.map_map]
    congr 1
    · simp
    · apply List.map_congr_left
      intro i _
      simp only [Function.comp]
      congr 1
      omega
theorem atN (xs : List D) (n : Nat) : atI xs (n : Int) = xs[n]? := by
  unfold atI ixN
  rw [if_pos (by omega)]
  by_cases h : (n : Int) < xs.length
  · rw [if_pos h]; simp
  · rw [if_neg h]; simp; omega
theorem exs_forB (Γ : List Fn) (s : S) (k : IK) (as : List T) (tg : Tg) (body ts : List St) : exs Γ (.for_ k as tg body :: ts) s = thenS ((evI Γ k as s).bind fun xs s => forGo (forBody Γ tg body) s.env xs s) (exs Γ ts) := by
  rw [exs_for]
  unfold evI
  cases evs Γ as s <;> rfl
theorem forGo_nil (body : D → S → R S Fl) (e0 : List (Option D)) (s : S) : forGo body e0 [] s = .ok .next s := rfl
theorem forGo_cons (body : D → S → R S Fl) (e0 : List (Option D)) (x : D) (xs : List D) (s : S) : forGo body e0 (x :: xs) s = (body x s).bind fun f s => match f with
    | .next => forGo body e0 xs { s with env := keepTo e0 s.env }
    | .ret d => .ok (.ret d) s := rfl
theorem forBody_eq (Γ : List Fn) (tg : Tg) (body : List St) (x : D) (s1 s2 : S) (h : setT tg x s1 = some s2) : forBody Γ tg body x s1 = exs Γ body s2 := by
  unfold forBody; rw [h]
@[simp] theorem keepTo_some' (d : D) (as : List (Option D)) (b : Option D) (bs : List (Option D)) : keepTo (some d :: as) (b :: bs) = b :: keepTo as bs := rfl
@[simp] theorem keepTo_none' (as : List (Option D)) (b : Option D) (bs : List (Option D)) : keepTo (none :: as) (b :: bs) = none :: keepTo as bs := rfl
@[simp] theorem keepTo_nil' (bs : List (Option D)) : keepTo [] bs = bs := by unfold keepTo; rfl
theorem atI_int (xs : List D) (i : Int) (h : 0 ≤ i) : atI xs i = xs[i.toNat]? := by
  have := atN xs i.toNat
  rwa [Int.toNat_of_nonneg h] at this
@[simp] theorem augR_sub (a b : Int) : augR .sub (.int a) (.int b) = some (.int (a - b)) := rfl
@[simp] theorem augR_add (a b : Int) : augR .add (.int a) (.int b) = some (.int (a + b)) := rfl
theorem flats_ints : ∀ (ns : List Int) (k : Nat), D.flats k (ns.map D.int) = true
  | [], k => by cases k <;> rfl
  | n :: ns, k => by
    show (D.flat k (.int n) && D.flats k (ns.map D.int)) = true
    rw [flats_ints ns k]
    cases k <;> rfl
theorem flat_int (i : Int) (k : Nat) : D.flat k (.int i) = true := by cases k <;> rfl
def hasI (ns : List Int) (i : Int) : Bool := ns.contains i
theorem hasI_iff {ns : List Int} {i : Int} : hasI ns i = true ↔ i ∈ ns := List.contains_iff_mem
theorem inR_ints (i : Int) (ns : List Int) : inR (.int i) (ns.map D.int) = some (hasI ns i) := by
  unfold hasI inR
  rw [flats_ints, flat_int]
  simp only [Bool.and_self, if_true]
  congr 1
  rw [List.any_map, Bool.eq_iff_iff, List.any_eq_true, List.contains_iff_mem]
  constructor
  · rintro ⟨x, hx, h⟩
    have : x = i := by simpa [D.eqv] using h
    exact this ▸ hx
  · intro h
    exact ⟨i, h, by simp [D.eqv]⟩
@[simp] theorem ite_okS {σ α : Type} {c : Prop} [Decidable c] (a b : α) (s : σ) : (if c then R.ok a s else R.ok b s) = R.ok (if c then a else b) s := by split <;> rfl
@[simp] theorem ite_blS {c : Prop} [Decidable c] (a b : Bool) : (if c then D.bl a else D.bl b) = D.bl (if c then a else b) := by split <;> rfl
@[simp] theorem ite_retS {c : Prop} [Decidable c] (a b : D) : (if c then Fl.ret a else Fl.ret b) = Fl.ret (if c then a else b) := by split <;> rfl
@[simp] theorem setT_name (i : Nat) (d : D) (s : S) : setT (.name i) d s = some (setV i d s) := rfl
@[simp] theorem setT_tup (ts : List Tg) (ds : List D) (s : S) : setT (.tup ts) (.tup ds) s = setTs ts ds s := rfl
@[simp] theorem setTs_nil (s : S) : setTs [] [] s = some s := rfl
@[simp] theorem setTs_cons (t : Tg) (ts : List Tg) (d : D) (ds : List D) (s : S) : setTs (t :: ts) (d :: ds) s = (setT t d s).bind fun s => setTs ts ds s := rfl
@[simp] theorem wipeD_nil (e : List (Option D)) : wipeD e [] = e := rfl
@[simp] theorem wipeD_cons (e : List (Option D)) (i : Nat) (is : List Nat) : wipeD e (i :: is) = (wipeD e is).set i none := rfl
@[simp] theorem evI_eq (Γ : List Fn) (k : IK) (as : List T) (s : S) : evI Γ k as s = (evs Γ as s).bind fun ds s => opt s (items k ds) := rfl
@[simp] theorem items_seqL (xs : List D) : items .seq [.lst xs] = some xs := rfl
@[simp] theorem items_seqT (xs : List D) : items .seq [.tup xs] = some xs := rfl
theorem items_rng1 (j : Int) : items .rng1 [.int j] = if small j then some (rangeD 0 j.toNat) else none := rfl
theorem items_rng2 (i j : Int) : items .rng2 [.int i, .int j] = if small i && small j then some (rangeD i (j - i).toNat) else none := rfl
@[simp] theorem items_enumL (xs : List D) : items .enum [.lst xs] = some (enumL 0 xs) := rfl
@[simp] theorem items_enumT (xs : List D) : items .enum [.tup xs] = some (enumL 0 xs) := rfl
@[simp] theorem items_zipT (xs ys : List D) : items .zip [.tup xs, .tup ys] = some (zipL xs ys) := rfl
@[simp] theorem items_zipL (xs ys : List D) : items .zip [.lst xs, .lst ys] = some (zipL xs ys) := rfl
theorem lcBody_eq (Γ : List Fn) (tg : Tg) (vs : List Nat) (ifs : List T) (e : T) (x : D) (s1 s2 : S) (h : setT tg x s1 = some s2) : lcBody Γ tg vs ifs e x s1 = (evAll Γ ifs s2).bind fun b s3 => if b then (ev Γ e s3).bind fun d s4 => .ok (some d) { s4 with env := wipeD s4.env vs } else .ok none { s3 with env := wipeD s3.env vs } := by
  unfold lcBody; rw [h]
theorem cutL_lo (xs : List D) (n : Nat) : cutL xs (some (n : Int)) none = xs.drop n := by
  unfold cutL HT.sIx
  simp only [show ¬ ((n : Int) < 0) by omega, if_false, Int.toNat_natCast]
  by_cases h : n ≤ xs.length
  · rw [Nat.min_eq_left h, List.take_of_length_le (by simp)]
  · rw [Nat.min_eq_right (by omega), List.drop_eq_nil_of_le (Nat.le_refl _), List.drop_eq_nil_of_le (by omega), List.take_nil]
theorem cutL_hi (xs : List D) (n : Nat) : cutL xs none (some (n : Int)) = xs.take n := by
  unfold cutL HT.sIx
  simp only [show ¬ ((n : Int) < 0) by omega, if_false, Int.toNat_natCast, List.drop_zero, Nat.sub_zero]
  by_cases h : n ≤ xs.length
  · rw [Nat.min_eq_left h]
  · rw [Nat.min_eq_right (by omega), List.take_of_length_le (Nat.le_refl _), List.take_of_length_le (by omega)]
theorem bls_map (f : D → Bool) : ∀ xs : List D, bls (xs.map fun x => D.bl (f x)) = some (xs.map f)
  | [] => rfl
  | x :: xs => by
    show (bls (xs.map fun x => D.bl (f x))).map _ = _
    rw [bls_map f xs]; rfl
theorem allR_map (f : D → Bool) (xs : List D) : allR (xs.map fun x => D.bl (f x)) = some (xs.all f) := by
  unfold allR
  rw [bls_map]
  simp [List.all_map]
theorem anyR_map (f : D → Bool) (xs : List D) : anyR (xs.map fun x => D.bl (f x)) = some (xs.any f) := by
  unfold anyR
  rw [bls_map]
  simp [List.any_map]
end Lb

set_option maxRecDepth 100000
set_option maxHeartbeats 1000000
/-! for the plain half: what is wanted of a run -/
namespace Lb
open PySem L2
/-- it ends well, and so -/
def wp {σ α : Type} : R σ α → (α → σ → Prop) → Prop
  | .ok a s, Q => Q a s
  | _, _ => False
section
variable {σ α β : Type}
@[simp] theorem wp_ok (a : α) (s : σ) (Q : α → σ → Prop) : wp (.ok a s) Q = Q a s := rfl
@[simp] theorem wp_exc (e : X) (s : σ) (Q : α → σ → Prop) : wp (.exc e s) Q = False := rfl
@[simp] theorem wp_fail (Q : α → σ → Prop) : wp (.fail : R σ α) Q = False := rfl
@[simp] theorem wp_bind (r : R σ α) (f : α → σ → R σ β) (Q : β → σ → Prop) : wp (r.bind f) Q = wp r fun a s => wp (f a s) Q := by cases r <;> rfl
@[simp] theorem wp_ite (c : Prop) [Decidable c] (a b : R σ α) (Q : α → σ → Prop) : wp (if c then a else b) Q = if c then wp a Q else wp b Q := by split <;> rfl
theorem wp_mono {r : R σ α} {Q Q' : α → σ → Prop} (h : wp r Q) (f : ∀ a s, Q a s → Q' a s) : wp r Q' := by
  cases r with
  | ok a s => exact f a s h
  | exc => exact h
  | fail => exact h
theorem wp_iff {r : R σ α} {Q : α → σ → Prop} : wp r Q ↔ ∃ a s, r = .ok a s ∧ Q a s := by
  cases r with
  | ok a s => exact ⟨fun h => ⟨a, s, rfl, h⟩, fun ⟨_, _, e, h⟩ => by cases e; exact h⟩
  | exc => exact ⟨fun h => h.elim, fun ⟨_, _, e, _⟩ => by cases e⟩
  | fail => exact ⟨fun h => h.elim, fun ⟨_, _, e, _⟩ => by cases e⟩
theorem wp_eq {r : R σ α} {x : α} {y : σ} (h : wp r fun a s => a = x ∧ s = y) : r = .ok x y := by
  obtain ⟨a, s, e, rfl, rfl⟩ := wp_iff.mp h
  exact e
theorem wp_of {r : R σ α} {x : α} {y : σ} {Q : α → σ → Prop} (e : r = .ok x y) (h : Q x y) : wp r Q := by rw [e]; exact h
end
/-- what a def hands back by its flow -/
def flD : Fl → D
  | .ret d => d
  | .next => .non
@[simp] theorem flD_ret (d : D) : flD (.ret d) = d := rfl
@[simp] theorem flD_next : flD .next = .non := rfl
theorem wp_run {b : FD} {Γ : List Fn} {ds : List D} {st : Sto} {Q : D → Sto → Prop} (h : ds.length = b.np) : wp (runFn b Γ ds st) Q = wp (exs Γ b.body ⟨ds.map some ++ List.replicate (b.n - b.np) none, st⟩) fun f s => Q (flD f) s.st := by
  rw [runFn_eq b Γ ds st h]
  cases exs Γ b.body ⟨ds.map some ++ List.replicate (b.n - b.np) none, st⟩ with
  | ok f s => cases f <;> rfl
  | exc => rfl
  | fail => rfl
/-- the flow of a statement -/
def flK (k : S → Prop) (Q : Fl → S → Prop) : Fl → S → Prop
  | .next, s => k s
  | .ret d, s => Q (.ret d) s
@[simp] theorem flK_next (k : S → Prop) (Q : Fl → S → Prop) (s : S) : flK k Q .next s = k s := rfl
@[simp] theorem flK_ret (k : S → Prop) (Q : Fl → S → Prop) (d : D) (s : S) : flK k Q (.ret d) s = Q (.ret d) s := rfl
@[simp] theorem wp_then (r : R S Fl) (k : S → R S Fl) (Q : Fl → S → Prop) : wp (thenS r k) Q = wp r (flK (fun s => wp (k s) Q) Q) := by
  cases r with
  | ok f s => cases f <;> rfl
  | exc => rfl
  | fail => rfl
/-- a call's outcome in the caller -/
def callM (e : List (Option D)) : R Sto D → R S D
  | .ok d st => .ok d ⟨e, st⟩
  | .exc x st => .exc x ⟨e, st⟩
  | .fail => .fail
@[simp] theorem callM_ok (e : List (Option D)) (d : D) (st : Sto) : callM e (.ok d st) = .ok d ⟨e, st⟩ := rfl
@[simp] theorem callM_exc (e : List (Option D)) (x : X) (st : Sto) : callM e (.exc x st) = .exc x ⟨e, st⟩ := rfl
@[simp] theorem wp_callM (e : List (Option D)) (r : R Sto D) (Q : D → S → Prop) : wp (callM e r) Q = wp r fun d st => Q d ⟨e, st⟩ := by cases r <;> rfl
theorem wp_callF {Γ : List Fn} {k : Nat} {f : Fn} (h : Γ[k]? = some f) (ds : List D) (e : List (Option D)) (st : Sto) (Q : D → S → Prop) : wp (callF Γ k ds ⟨e, st⟩) Q = wp (f ds st) fun d st => Q d ⟨e, st⟩ := by
  rw [callF_eq, h]
  show wp (match f ds st with
    | .ok d st => R.ok d ⟨e, st⟩
    | .exc x st => .exc x ⟨e, st⟩
    | .fail => .fail) Q = _
  cases f ds st <;> rfl
theorem wp_opt {α : Type} {s : S} {o : Option α} {a : α} {Q : α → S → Prop} (h : o = some a) : wp (opt s o) Q = Q a s := by rw [h]; rfl
section
variable {body : D → S → R S Fl} {e0 : List (Option D)} {Q : Fl → S → Prop} {β : Type}
theorem wp_forAll (I : List D → S → Prop) (step : ∀ J, J = I → ∀ x r s, I (x :: r) s → wp (body x s) (flK (fun s' => J r { s' with env := keepTo e0 s'.env }) Q)) (hend : ∀ s, I [] s → Q .next s) : ∀ (xs : List D) (s : S), I xs s → wp (forGo body e0 xs s) Q
  | [], s, h => hend s h
  | x :: xs, s, h => by
    rw [forGo_cons, wp_bind]
    refine wp_mono (step I rfl x xs s h) fun f s' q => ?_
    cases f with
    | next => exact wp_forAll I step hend xs _ q
    | ret d => exact q
/-- a loop by what holds behind the part taken -/
theorem wp_forY (ys : List β) (g : β → D) (I : List β → S → Prop) {s : S} (h0 : I [] s) (step : ∀ J, J = I → ∀ pre y post s, ys = pre ++ y :: post → I pre s → wp (body (g y) s) (flK (fun s' => J (pre ++ [y]) { s' with env := keepTo e0 s'.env }) Q)) (hend : ∀ s, I ys s → Q .next s) : wp (forGo body e0 (ys.map g) s) Q := by
  suffices h : ∀ (post pre : List β) (s : S), ys = pre ++ post → I pre s → wp (forGo body e0 (post.map g) s) Q from h ys [] s rfl h0
  intro post
  induction post with
  | nil => intro pre s e h; exact hend s (by rw [e, List.append_nil]; exact h)
  | cons y post ih =>
    intro pre s e h
    rw [List.map_cons, forGo_cons, wp_bind]
    refine wp_mono (step I rfl pre y post s e h) fun f s' q => ?_
    cases f with
    | next => exact ih (pre ++ [y]) _ (by rw [e, List.append_assoc]; rfl) q
    | ret d => exact q
/-- a while by a number that falls -/
theorem wp_while {c : S → R S Bool} {body : S → R S Fl} (I : Nat → S → Prop) (step : ∀ J, J = I → ∀ k s, I k s → wp (c s) fun b s1 => if b = true then ∃ k', k = k' + 1 ∧ wp (body s1) (flK (fun s2 => J k' { s2 with env := keepTo e0 s2.env }) Q) else Q .next s1) : ∀ (k : Nat) {n : Nat} {s : S}, I k s → k < n → wp (whGo c body e0 n s) Q
  | k, 0, s, _, hk => absurd hk (Nat.not_lt_zero _)
  | k, n + 1, s, h, hk => by
    rw [whGo_succ, wp_bind]
    refine wp_mono (step I rfl k s h) fun b s1 q => ?_
    cases b with
    | false => exact q
    | true =>
      rw [if_pos rfl] at q ⊢
      obtain ⟨k', rfl, q⟩ := q
      rw [wp_bind]
      refine wp_mono q fun f s2 q => ?_
      cases f with
      | next => exact wp_while I step k' q (by omega)
      | ret d => exact q
end
theorem wp_wh {Γ : List Fn} {s : S} {c : T} {body ts : List St} {Q : Fl → S → Prop} (h : wp (whGo (evT Γ c) (exs Γ body) s.env fuel s) (flK (fun s => wp (exs Γ ts s) Q) Q)) : wp (exs Γ (.while_ c body :: ts) s) Q := by
  rw [exs_whileB, wp_then]; exact h
theorem wp_for {Γ : List Fn} {s : S} {k : IK} {as : List T} {tg : Tg} {body ts : List St} {Q : Fl → S → Prop} (h : wp (evI Γ k as s) fun xs s => wp (forGo (forBody Γ tg body) s.env xs s) (flK (fun s => wp (exs Γ ts s) Q) Q)) : wp (exs Γ (.for_ k as tg body :: ts) s) Q := by
  rw [exs_forB, wp_then, wp_bind]; exact h
theorem wp_lc {Γ : List Fn} {s : S} {k : IK} {as : List T} {tg : Tg} {vs : List Nat} {ifs : List T} {t : T} {Q : D → S → Prop} (h : wp (evI Γ k as s) fun xs s1 => wp (lcGo (lcBody Γ tg vs ifs t) xs { s1 with env := wipeD s1.env vs }) fun ds s2 => ds.length ≤ sizeLine ∧ Q (.lst ds) { s2 with env := backD s1.env s2.env vs }) : wp (ev Γ (.lc k as tg vs ifs t) s) Q := by
  rw [ev_lc', wp_bind]
  refine wp_mono h fun xs s1 h => ?_
  rw [wp_bind]
  cases e : lcGo (lcBody Γ tg vs ifs t) xs { s1 with env := wipeD s1.env vs } with
  | ok ds s2 =>
    rw [e] at h
    have hf : fits ds = true := decide_eq_true h.1
    show wp (if fits ds = true then R.ok (D.lst ds) _ else R.fail) Q
    rw [if_pos hf]
    exact h.2
  | exc => rw [e] at h; exact h.elim
  | fail => rw [e] at h; exact h.elim
section
variable {body : D → S → R S (Option D)} {Q : List D → S → Prop} {β : Type}
theorem wp_lcY (ys : List β) (g : β → D) (I : List β → List D → S → Prop) {s : S} (h0 : I [] [] s) (step : ∀ J, J = I → ∀ pre y post ds s, ys = pre ++ y :: post → I pre ds s → wp (body (g y) s) fun o s' => J (pre ++ [y]) (ds ++ o.toList) s') (hend : ∀ ds s, I ys ds s → Q ds s) : wp (lcGo body (ys.map g) s) Q := by
  suffices h : ∀ (post pre : List β) (ds : List D) (s : S), ys = pre ++ post → I pre ds s → wp (lcGo body (post.map g) s) fun es s' => Q (ds ++ es) s' by simpa using h ys [] [] s rfl h0
  intro post
  induction post with
  | nil =>
    intro pre ds s e h
    show Q (ds ++ []) s
    rw [List.append_nil]
    exact hend ds s (by rw [e, List.append_nil]; exact h)
  | cons y post ih =>
    intro pre ds s e h
    rw [List.map_cons, lcGo, wp_bind]
    refine wp_mono (step I rfl pre y post ds s e h) fun o s' q => ?_
    rw [wp_bind]
    refine wp_mono (ih (pre ++ [y]) _ _ (by rw [e, List.append_assoc]; rfl) q) fun es s2 q2 => ?_
    rw [wp_ok, ← List.append_assoc]
    exact q2
end
section
variable {Γ : List Fn} {k : IK} {as : List T} {tg : Tg} {vs : List Nat} {ifs : List T} {t : T} {env : List (Option D)} {st : Sto} {β : Type} {s : S} {Q : D → S → Prop}
/-- a comprehension that changes nothing -/
theorem wp_lcF (ys : List β) (g : β → D) (p : β → Bool) (h : β → D) (hI : wp (evI Γ k as ⟨env, st⟩) fun xs s1 => xs = ys.map g ∧ s1 = ⟨env, st⟩) (hl : ys.length ≤ 1000) (hb : ∀ y ∈ ys, wp (lcBody Γ tg vs ifs t (g y) ⟨wipeD env vs, st⟩) fun o s1 => o = (if p y then some (h y) else none) ∧ s1 = ⟨wipeD env vs, st⟩) (hQ : Q (.lst ((ys.filter p).map h)) ⟨env, st⟩) : wp (ev Γ (.lc k as tg vs ifs t) ⟨env, st⟩) Q :=
  wp_of (ev_lcF ys g p h (wp_eq hI) (fun y hy => wp_eq (hb y hy)) (Nat.le_trans hl (by decide))) hQ
theorem wp_lcM (ys : List β) (g : β → D) (h : β → D) (hI : wp (evI Γ k as ⟨env, st⟩) fun xs s1 => xs = ys.map g ∧ s1 = ⟨env, st⟩) (hl : ys.length ≤ 1000) (hb : ∀ y ∈ ys, wp (lcBody Γ tg vs ifs t (g y) ⟨wipeD env vs, st⟩) fun o s1 => o = some (h y) ∧ s1 = ⟨wipeD env vs, st⟩) (hQ : Q (.lst (ys.map h)) ⟨env, st⟩) : wp (ev Γ (.lc k as tg vs ifs t) ⟨env, st⟩) Q :=
  wp_of (ev_lcY ys g h (wp_eq hI) (fun y hy => wp_eq (hb y hy)) (Nat.le_trans hl (by decide))) hQ
end
theorem wp_lcB {Γ : List Fn} {tg : Tg} {vs : List Nat} {ifs : List T} {e : T} {x : D} {s1 s2 : S} {Q : Option D → S → Prop} (h : setT tg x s1 = some s2) (q : wp (evAll Γ ifs s2) fun b s3 => if b = true then wp (ev Γ e s3) (fun d s4 => Q (some d) { s4 with env := wipeD s4.env vs }) else Q none { s3 with env := wipeD s3.env vs }) : wp (lcBody Γ tg vs ifs e x s1) Q := by
  rw [lcBody_eq Γ tg vs ifs e x s1 s2 h, wp_bind]
  refine wp_mono q fun b s3 q => ?_
  cases b with
  | true => rw [if_pos rfl] at q ⊢; rw [wp_bind]; exact q
  | false => exact q
theorem wp_forB {Γ : List Fn} {tg : Tg} {body : List St} {x : D} {s1 s2 : S} {Q : Fl → S → Prop} (h : setT tg x s1 = some s2) (q : wp (exs Γ body s2) Q) : wp (forBody Γ tg body x s1) Q := by
  rw [forBody_eq Γ tg body x s1 s2 h]; exact q
theorem wp_app {Γ : List Fn} {i : Nat} {e : T} {ts : List St} {s : S} {Q : Fl → S → Prop} (h : (∃ xs, lstAt i s = some xs) ∧ wp (ev Γ e s) fun d s1 => ∃ xs, lstAt i s1 = some xs ∧ xs.length < sizeLine ∧ wp (exs Γ ts (setV i (.lst (xs ++ [d])) s1)) Q) : wp (exs Γ (.app i e :: ts) s) Q := by
  obtain ⟨⟨xs, h1⟩, h⟩ := h
  rw [exs_app, wp_then, wp_bind, wp_opt h1, wp_bind]
  refine wp_mono h fun d s1 ⟨ys, e1, e2, q⟩ => ?_
  rw [e1]
  show wp (if ys.length < sizeLine then _ else _) _
  rw [if_pos e2]
  exact q
/-- what comes of an expression, by a word of ours; the names stay -/
theorem wp_cut {Γ : List Fn} {t : T} {env : List (Option D)} {st : Sto} {Q : D → S → Prop} (P : D → Sto → Prop) (h : wp (ev Γ t ⟨env, st⟩) fun d s => P d s.st ∧ s.env = env) (k : ∀ d st', P d st' → Q d ⟨env, st'⟩) : wp (ev Γ t ⟨env, st⟩) Q :=
  wp_mono h fun d s q => by obtain ⟨q1, q2⟩ := q; cases s; subst q2; exact k d _ q1
theorem small_nat (n : Nat) (h : n ≤ 1000) : small (n : Int) = true := by
  unfold small
  exact Nat.ble_eq_true_of_le (by omega)
theorem items_nat (k : Nat) (h : k ≤ 1000) : items .rng1 [.int (k : Int)] = some ((List.range k).map fun (i : Nat) => D.int (i : Int)) := by
  rw [items_rng1, if_pos (small_nat _ h), Int.toNat_natCast, rangeD_map]
  simp
theorem line1000 : 1000 ≤ sizeLine := by decide
theorem le_line {α : Type} {xs : List α} (h : xs.length ≤ 1000) : xs.length ≤ sizeLine := Nat.le_trans h (by decide)
theorem lt_line {n : Nat} (h : n < 1000) : n < sizeLine := Nat.lt_of_lt_of_le h (by decide)
@[simp] theorem backD_nil (e0 e : List (Option D)) : backD e0 e [] = e := rfl
@[simp] theorem backD_cons (e0 e : List (Option D)) (i : Nat) (is : List Nat) : backD e0 e (i :: is) = match e0[i]? with
    | some o => (backD e0 e is).set i o
    | none => backD e0 e is := rfl
end Lb

set_option maxRecDepth 100000
set_option maxHeartbeats 1000000
namespace Lb
open PySem L2
theorem eqvs_map {β : Type} [DecidableEq β] (f : β → D) (h : ∀ x y, D.eqv (f x) (f y) = decide (x = y)) : ∀ xs ys : List β, D.eqvs (xs.map f) (ys.map f) = decide (xs = ys)
  | [], [] => rfl
  | [], _ :: _ => rfl
  | _ :: _, [] => rfl
  | x :: xs, y :: ys => by
    show (D.eqv (f x) (f y) && D.eqvs (xs.map f) (ys.map f)) = _
    rw [h, eqvs_map f h xs ys]
    by_cases e : x = y <;> simp [e]
theorem flats_map {β : Type} (f : β → D) {k : Nat} : ∀ xs : List β, (∀ x ∈ xs, D.flat k (f x) = true) → D.flats k (xs.map f) = true
  | [], _ => by cases k <;> rfl
  | x :: xs, h => by
    have e : D.flats k ((x :: xs).map f) = (D.flat k (f x) && D.flats k (xs.map f)) := by cases k <;> rfl
    rw [e, h x List.mem_cons_self, flats_map f xs fun y hy => h y (List.mem_cons_of_mem _ hy)]; rfl
theorem eqR_lst {β : Type} [DecidableEq β] (f : β → D) (h : ∀ x y, D.eqv (f x) (f y) = decide (x = y)) (hf : ∀ x, D.flat 59 (f x) = true) (xs ys : List β) : eqR (.lst (xs.map f)) (.lst (ys.map f)) = some (decide (xs = ys)) := by
  have e1 : ∀ zs : List β, D.flat 60 (.lst (zs.map f)) = true := fun zs => flats_map f zs fun x _ => hf x
  show (if (D.flat 60 (.lst (xs.map f)) && D.flat 60 (.lst (ys.map f))) = true then some (D.eqvs (xs.map f) (ys.map f)) else none) = _
  rw [e1, e1, eqvs_map f h]; rfl
theorem eqR_tup {β : Type} [DecidableEq β] (f : β → D) (h : ∀ x y, D.eqv (f x) (f y) = decide (x = y)) (hf : ∀ x, D.flat 59 (f x) = true) (xs ys : List β) : eqR (.tup (xs.map f)) (.tup (ys.map f)) = some (decide (xs = ys)) := by
  have e1 : ∀ zs : List β, D.flat 60 (.tup (zs.map f)) = true := fun zs => flats_map f zs fun x _ => hf x
  show (if (D.flat 60 (.tup (xs.map f)) && D.flat 60 (.tup (ys.map f))) = true then some (D.eqvs (xs.map f) (ys.map f)) else none) = _
  rw [e1, e1, eqvs_map f h]; rfl
theorem eqv_bl (x y : Bool) : D.eqv (.bl x) (.bl y) = decide (x = y) := by cases x <;> cases y <;> rfl
theorem eqv_int (x y : Int) : D.eqv (.int x) (.int y) = decide (x = y) := by
  show (x == y) = _
  by_cases h : x = y <;> simp [h]
theorem eqR_bls (xs ys : List Bool) : eqR (.lst (xs.map D.bl)) (.lst (ys.map D.bl)) = some (decide (xs = ys)) := eqR_lst D.bl eqv_bl (fun _ => rfl) xs ys
theorem eqR_ints (xs ys : List Int) : eqR (.tup (xs.map D.int)) (.tup (ys.map D.int)) = some (decide (xs = ys)) := eqR_tup D.int eqv_int (fun _ => rfl) xs ys
theorem cnt_bls (st : Sto) (xs : List Bool) : prim st .cnt [.lst (xs.map D.bl), .bl true] = some (.int (xs.countP id : Nat)) := by
  have e : D.flats 60 (xs.map D.bl) = true := flats_map D.bl xs fun _ _ => rfl
  rw [prim_cnt]
  rw [show D.flat 60 (.bl true) = true from rfl, e]
  simp [List.countP_map]
  congr 1
  apply List.countP_congr
  intro b _
  cases b <;> simp [D.eqv]
theorem items_int {i : Int} (h0 : 0 ≤ i) (h : i ≤ 1000) : items .rng1 [.int i] = some ((List.range i.toNat).map fun (k : Nat) => D.int (k : Int)) := by
  have := items_nat i.toNat (by omega)
  rwa [Int.toNat_of_nonneg h0] at this
end Lb

set_option maxRecDepth 1000000
set_option maxHeartbeats 0
namespace Lb
open PySem PySem.Spec PyProof.Rows L2
/-! ### the text: lanebeats_k09_whole_lights -/
def top (i : Nat) : Stmt := PySem.Challenge.pw_lanebeats_k09_whole_lights.main.body.getD i (.Pass ⟨0, 0, 0, 0⟩)
/-- thing -/
def b_is_whole : FD := ⟨1, 1, [
  .ret (.and (.prim (.isI .int) [.var 0]) (.prim .pnot [.prim (.isI .bool) [.var 0]]))]⟩
def G_is_whole : List Fn := []
def m_is_whole : Fn := runFn b_is_whole G_is_whole
theorem r_is_whole (ds : List D) (st : Sto) (Q : D → Sto → Prop) (h : ds.length = 1) : wp (m_is_whole ds st) Q = wp (exs G_is_whole b_is_whole.body ⟨ds.map some ++ List.replicate 0 none, st⟩) fun f s => Q (flD f) s.st := wp_run h
def L_is_whole : LD := ⟨⟨("is_whole", none), "is_whole", "is_whole", defArgs (top 11), defBody (top 11), defScope (top 11), [], []⟩, ["thing"], ["thing"], false, [], b_is_whole⟩
/-- thing, low, high -/
def b_is_among : FD := ⟨3, 3, [
  .ret (.and (.call 0 [.var 0]) (.chain .le .le (.var 1) (.var 0) (.var 2)))]⟩
def G_is_among : List Fn := [m_is_whole]
def m_is_among : Fn := runFn b_is_among G_is_among
theorem r_is_among (ds : List D) (st : Sto) (Q : D → Sto → Prop) (h : ds.length = 3) : wp (m_is_among ds st) Q = wp (exs G_is_among b_is_among.body ⟨ds.map some ++ List.replicate 0 none, st⟩) fun f s => Q (flD f) s.st := wp_run h
@[simp] theorem g_is_among_is_whole (ds : List D) (e : List (Option D)) (st : Sto) : callF G_is_among 0 ds ⟨e, st⟩ = callM e (m_is_whole ds st) := rfl
def L_is_among : LD := ⟨⟨("is_among", none), "is_among", "is_among", defArgs (top 12), defBody (top 12), defScope (top 12), [], []⟩, ["thing", "low", "high"], ["thing", "low", "high"], false, [], b_is_among⟩
/-- thing, low, high -/
def b_is_row : FD := ⟨3, 3, [
  .ret (.and (.prim (.isI .tuple) [.var 0]) (.chain .le .le (.var 1) (.prim .len [.var 0]) (.var 2)))]⟩
def G_is_row : List Fn := [m_is_whole, m_is_among]
def m_is_row : Fn := runFn b_is_row G_is_row
theorem r_is_row (ds : List D) (st : Sto) (Q : D → Sto → Prop) (h : ds.length = 3) : wp (m_is_row ds st) Q = wp (exs G_is_row b_is_row.body ⟨ds.map some ++ List.replicate 0 none, st⟩) fun f s => Q (flD f) s.st := wp_run h
def L_is_row : LD := ⟨⟨("is_row", none), "is_row", "is_row", defArgs (top 13), defBody (top 13), defScope (top 13), [], []⟩, ["thing", "low", "high"], ["thing", "low", "high"], false, [], b_is_row⟩
/-- numbers, one, other -/
def b_are_rising : FD := ⟨1, 3, [
  .ret (.prim .all [.lc .zip [.var 0, .prim (.cut true false) [.var 0, .cn (.int 1)]] (.tup [.name 1, .name 2]) [1, 2] [] (.prim .lt [.var 1, .var 2])])]⟩
def G_are_rising : List Fn := [m_is_whole, m_is_among, m_is_row]
def m_are_rising : Fn := runFn b_are_rising G_are_rising
theorem r_are_rising (ds : List D) (st : Sto) (Q : D → Sto → Prop) (h : ds.length = 1) : wp (m_are_rising ds st) Q = wp (exs G_are_rising b_are_rising.body ⟨ds.map some ++ List.replicate 2 none, st⟩) fun f s => Q (flD f) s.st := wp_run h
def L_are_rising : LD := ⟨⟨("are_rising", none), "are_rising", "are_rising", defArgs (top 14), defBody (top 14), defScope (top 14), [], []⟩, ["numbers"], ["numbers", "one", "other"], false, [], b_are_rising⟩
/-- thing, crossings, one -/
def b_is_road_row : FD := ⟨2, 3, [
  .ifs (.or (.prim .pnot [.call 2 [.var 0, .cn (.int 3), .cn (.int 3)]]) (.prim .pnot [.call 1 [.prim .idx [.var 0, .cn (.int 2)], .cn (.int 1), .cn (.int 5)]])) [.ret (.cn (.bl false))] [],
  .ret (.prim .all [.lc .seq [.prim (.cut false true) [.var 0, .cn (.int 2)]] (.name 2) [2] [] (.call 1 [.var 2, .cn (.int 0), .prim .sub [.var 1, .cn (.int 1)]])])]⟩
def G_is_road_row : List Fn := [m_is_whole, m_is_among, m_is_row, m_are_rising]
def m_is_road_row : Fn := runFn b_is_road_row G_is_road_row
theorem r_is_road_row (ds : List D) (st : Sto) (Q : D → Sto → Prop) (h : ds.length = 2) : wp (m_is_road_row ds st) Q = wp (exs G_is_road_row b_is_road_row.body ⟨ds.map some ++ List.replicate 1 none, st⟩) fun f s => Q (flD f) s.st := wp_run h
@[simp] theorem g_is_road_row_is_among (ds : List D) (e : List (Option D)) (st : Sto) : callF G_is_road_row 1 ds ⟨e, st⟩ = callM e (m_is_among ds st) := rfl
@[simp] theorem g_is_road_row_is_row (ds : List D) (e : List (Option D)) (st : Sto) : callF G_is_road_row 2 ds ⟨e, st⟩ = callM e (m_is_row ds st) := rfl
def L_is_road_row : LD := ⟨⟨("is_road_row", none), "is_road_row", "is_road_row", defArgs (top 15), defBody (top 15), defScope (top 15), [], []⟩, ["thing", "crossings"], ["thing", "crossings", "one"], false, [], b_is_road_row⟩
/-- thing, ending, road -/
def b_is_turn : FD := ⟨2, 3, [
  .ifs (.or (.prim .pnot [.call 2 [.var 0, .cn (.int 2), .cn (.int 2)]]) (.or (.prim .pnot [.call 1 [.prim .idx [.var 0, .cn (.int 0)], .cn (.int 1), .cn (.int 12)]]) (.prim .pnot [.prim (.isI .tuple) [.prim .idx [.var 0, .cn (.int 1)]]]))) [.ret (.cn (.bl false))] [],
  .ret (.and (.prim .all [.lc .seq [.prim .idx [.var 0, .cn (.int 1)]] (.name 2) [2] [] (.and (.call 0 [.var 2]) (.prim .inn [.var 2, .var 1]))]) (.call 3 [.prim .idx [.var 0, .cn (.int 1)]]))]⟩
def G_is_turn : List Fn := [m_is_whole, m_is_among, m_is_row, m_are_rising, m_is_road_row]
def m_is_turn : Fn := runFn b_is_turn G_is_turn
theorem r_is_turn (ds : List D) (st : Sto) (Q : D → Sto → Prop) (h : ds.length = 2) : wp (m_is_turn ds st) Q = wp (exs G_is_turn b_is_turn.body ⟨ds.map some ++ List.replicate 1 none, st⟩) fun f s => Q (flD f) s.st := wp_run h
@[simp] theorem g_is_turn_is_whole (ds : List D) (e : List (Option D)) (st : Sto) : callF G_is_turn 0 ds ⟨e, st⟩ = callM e (m_is_whole ds st) := rfl
@[simp] theorem g_is_turn_is_among (ds : List D) (e : List (Option D)) (st : Sto) : callF G_is_turn 1 ds ⟨e, st⟩ = callM e (m_is_among ds st) := rfl
@[simp] theorem g_is_turn_is_row (ds : List D) (e : List (Option D)) (st : Sto) : callF G_is_turn 2 ds ⟨e, st⟩ = callM e (m_is_row ds st) := rfl
@[simp] theorem g_is_turn_are_rising (ds : List D) (e : List (Option D)) (st : Sto) : callF G_is_turn 3 ds ⟨e, st⟩ = callM e (m_are_rising ds st) := rfl
def L_is_turn : LD := ⟨⟨("is_turn", none), "is_turn", "is_turn", defArgs (top 16), defBody (top 16), defScope (top 16), [], []⟩, ["thing", "ending"], ["thing", "ending", "road"], false, [], b_is_turn⟩
/-- thing, around, ending, turn, beats, green -/
def b_are_lights : FD := ⟨3, 6, [
  .ifs (.prim .isN [.var 0]) [.ret (.cn (.bl true))] [],
  .ifs (.or (.prim .pnot [.call 2 [.var 0, .cn (.int 2), .cn (.int 2)]]) (.or (.prim .pnot [.call 1 [.prim .idx [.var 0, .cn (.int 0)], .cn (.int 0), .prim .sub [.var 1, .cn (.int 1)]]]) (.prim .pnot [.call 2 [.prim .idx [.var 0, .cn (.int 1)], .cn (.int 1), .cn (.int 4)]]))) [.ret (.cn (.bl false))] [],
  .ifs (.prim .pnot [.prim .all [.lc .seq [.prim .idx [.var 0, .cn (.int 1)]] (.name 3) [3] [] (.call 5 [.var 3, .var 2])]]) [.ret (.cn (.bl false))] [],
  .ret (.prim .eq [.prim .sum [.lc .seq [.prim .idx [.var 0, .cn (.int 1)]] (.tup [.name 4, .name 5]) [4, 5] [] (.var 4)], .var 1])]⟩
def G_are_lights : List Fn := [m_is_whole, m_is_among, m_is_row, m_are_rising, m_is_road_row, m_is_turn]
def m_are_lights : Fn := runFn b_are_lights G_are_lights
theorem r_are_lights (ds : List D) (st : Sto) (Q : D → Sto → Prop) (h : ds.length = 3) : wp (m_are_lights ds st) Q = wp (exs G_are_lights b_are_lights.body ⟨ds.map some ++ List.replicate 3 none, st⟩) fun f s => Q (flD f) s.st := wp_run h
@[simp] theorem g_are_lights_is_among (ds : List D) (e : List (Option D)) (st : Sto) : callF G_are_lights 1 ds ⟨e, st⟩ = callM e (m_is_among ds st) := rfl
@[simp] theorem g_are_lights_is_row (ds : List D) (e : List (Option D)) (st : Sto) : callF G_are_lights 2 ds ⟨e, st⟩ = callM e (m_is_row ds st) := rfl
@[simp] theorem g_are_lights_is_turn (ds : List D) (e : List (Option D)) (st : Sto) : callF G_are_lights 5 ds ⟨e, st⟩ = callM e (m_is_turn ds st) := rfl
def L_are_lights : LD := ⟨⟨("are_lights", none), "are_lights", "are_lights", defArgs (top 17), defBody (top 17), defScope (top 17), [], []⟩, ["thing", "around", "ending"], ["thing", "around", "ending", "turn", "beats", "green"], false, [], b_are_lights⟩
/-- roads, crossing, number, begin, end, long -/
def b_ends_at : FD := ⟨2, 6, [
  .ret (.lc .enum [.var 0] (.tup [.name 2, .tup [.name 3, .name 4, .name 5]]) [2, 3, 4, 5] [.prim .eq [.var 4, .var 1]] (.var 2))]⟩
def G_ends_at : List Fn := [m_is_whole, m_is_among, m_is_row, m_are_rising, m_is_road_row, m_is_turn, m_are_lights]
def m_ends_at : Fn := runFn b_ends_at G_ends_at
theorem r_ends_at (ds : List D) (st : Sto) (Q : D → Sto → Prop) (h : ds.length = 2) : wp (m_ends_at ds st) Q = wp (exs G_ends_at b_ends_at.body ⟨ds.map some ++ List.replicate 4 none, st⟩) fun f s => Q (flD f) s.st := wp_run h
def L_ends_at : LD := ⟨⟨("ends_at", none), "ends_at", "ends_at", defArgs (top 18), defBody (top 18), defScope (top 18), [], []⟩, ["roads", "crossing"], ["roads", "crossing", "number", "begin", "end", "long"], false, [], b_ends_at⟩
/-- thing, crossings, around, roads, lights, road, crossing, one -/
def b_is_town : FD := ⟨1, 8, [
  .ifs (.or (.prim .pnot [.call 2 [.var 0, .cn (.int 4), .cn (.int 4)]]) (.or (.prim .pnot [.call 1 [.prim .idx [.var 0, .cn (.int 0)], .cn (.int 1), .cn (.int 6)]]) (.prim .pnot [.call 1 [.prim .idx [.var 0, .cn (.int 1)], .cn (.int 1), .cn (.int 12)]]))) [.ret (.cn (.bl false))] [],
  .unp (.tup [.name 1, .name 2, .name 3, .name 4]) (.var 0),
  .ifs (.or (.prim .pnot [.call 2 [.var 3, .cn (.int 1), .cn (.int 10)]]) (.prim .pnot [.prim .all [.lc .seq [.var 3] (.name 5) [5] [] (.call 4 [.var 5, .var 1])]])) [.ret (.cn (.bl false))] [],
  .ifs (.prim .pnot [.call 2 [.var 4, .var 1, .var 1]]) [.ret (.cn (.bl false))] [],
  .ret (.prim .all [.lc .enum [.var 4] (.tup [.name 6, .name 7]) [6, 7] [] (.call 6 [.var 7, .var 2, .call 7 [.var 3, .var 6]])])]⟩
def G_is_town : List Fn := [m_is_whole, m_is_among, m_is_row, m_are_rising, m_is_road_row, m_is_turn, m_are_lights, m_ends_at]
def m_is_town : Fn := runFn b_is_town G_is_town
theorem r_is_town (ds : List D) (st : Sto) (Q : D → Sto → Prop) (h : ds.length = 1) : wp (m_is_town ds st) Q = wp (exs G_is_town b_is_town.body ⟨ds.map some ++ List.replicate 7 none, st⟩) fun f s => Q (flD f) s.st := wp_run h
@[simp] theorem g_is_town_is_among (ds : List D) (e : List (Option D)) (st : Sto) : callF G_is_town 1 ds ⟨e, st⟩ = callM e (m_is_among ds st) := rfl
@[simp] theorem g_is_town_is_row (ds : List D) (e : List (Option D)) (st : Sto) : callF G_is_town 2 ds ⟨e, st⟩ = callM e (m_is_row ds st) := rfl
@[simp] theorem g_is_town_is_road_row (ds : List D) (e : List (Option D)) (st : Sto) : callF G_is_town 4 ds ⟨e, st⟩ = callM e (m_is_road_row ds st) := rfl
@[simp] theorem g_is_town_are_lights (ds : List D) (e : List (Option D)) (st : Sto) : callF G_is_town 6 ds ⟨e, st⟩ = callM e (m_are_lights ds st) := rfl
@[simp] theorem g_is_town_ends_at (ds : List D) (e : List (Option D)) (st : Sto) : callF G_is_town 7 ds ⟨e, st⟩ = callM e (m_ends_at ds st) := rfl
def L_is_town : LD := ⟨⟨("is_town", none), "is_town", "is_town", defArgs (top 19), defBody (top 19), defScope (top 19), [], []⟩, ["thing"], ["thing", "crossings", "around", "roads", "lights", "road", "crossing", "one"], false, [], b_is_town⟩
/-- thing -/
def b_need_town : FD := ⟨1, 1, [
  .ifs (.prim .pnot [.call 8 [.var 0]]) [.raise "NoTown" []] []]⟩
def G_need_town : List Fn := [m_is_whole, m_is_among, m_is_row, m_are_rising, m_is_road_row, m_is_turn, m_are_lights, m_ends_at, m_is_town]
def m_need_town : Fn := runFn b_need_town G_need_town
theorem r_need_town (ds : List D) (st : Sto) (Q : D → Sto → Prop) (h : ds.length = 1) : wp (m_need_town ds st) Q = wp (exs G_need_town b_need_town.body ⟨ds.map some ++ List.replicate 0 none, st⟩) fun f s => Q (flD f) s.st := wp_run h
@[simp] theorem g_need_town_is_town (ds : List D) (e : List (Option D)) (st : Sto) : callF G_need_town 8 ds ⟨e, st⟩ = callM e (m_is_town ds st) := rfl
def L_need_town : LD := ⟨⟨("need_town", none), "need_town", "need_town", defArgs (top 20), defBody (top 20), defScope (top 20), [], []⟩, ["thing"], ["thing"], false, [], b_need_town⟩
/-- town, thing -/
def b_is_road : FD := ⟨2, 2, [
  .ret (.call 1 [.var 1, .cn (.int 0), .prim .sub [.prim .len [.prim .idx [.var 0, .cn (.int 2)]], .cn (.int 1)]])]⟩
def G_is_road : List Fn := [m_is_whole, m_is_among, m_is_row, m_are_rising, m_is_road_row, m_is_turn, m_are_lights, m_ends_at, m_is_town, m_need_town]
def m_is_road : Fn := runFn b_is_road G_is_road
theorem r_is_road (ds : List D) (st : Sto) (Q : D → Sto → Prop) (h : ds.length = 2) : wp (m_is_road ds st) Q = wp (exs G_is_road b_is_road.body ⟨ds.map some ++ List.replicate 0 none, st⟩) fun f s => Q (flD f) s.st := wp_run h
@[simp] theorem g_is_road_is_among (ds : List D) (e : List (Option D)) (st : Sto) : callF G_is_road 1 ds ⟨e, st⟩ = callM e (m_is_among ds st) := rfl
def L_is_road : LD := ⟨⟨("is_road", none), "is_road", "is_road", defArgs (top 21), defBody (top 21), defScope (top 21), [], []⟩, ["town", "thing"], ["town", "thing"], false, [], b_is_road⟩
/-- town, thing -/
def b_need_road : FD := ⟨2, 2, [
  .ifs (.prim .pnot [.call 10 [.var 0, .var 1]]) [.raise "NoRoad" []] []]⟩
def G_need_road : List Fn := [m_is_whole, m_is_among, m_is_row, m_are_rising, m_is_road_row, m_is_turn, m_are_lights, m_ends_at, m_is_town, m_need_town, m_is_road]
def m_need_road : Fn := runFn b_need_road G_need_road
theorem r_need_road (ds : List D) (st : Sto) (Q : D → Sto → Prop) (h : ds.length = 2) : wp (m_need_road ds st) Q = wp (exs G_need_road b_need_road.body ⟨ds.map some ++ List.replicate 0 none, st⟩) fun f s => Q (flD f) s.st := wp_run h
@[simp] theorem g_need_road_is_road (ds : List D) (e : List (Option D)) (st : Sto) : callF G_need_road 10 ds ⟨e, st⟩ = callM e (m_is_road ds st) := rfl
def L_need_road : LD := ⟨⟨("need_road", none), "need_road", "need_road", defArgs (top 22), defBody (top 22), defScope (top 22), [], []⟩, ["town", "thing"], ["town", "thing"], false, [], b_need_road⟩
/-- town, lights, beat, shift, rows, rest, beats, green -/
def b_turn_at : FD := ⟨3, 8, [
  .unp (.tup [.name 3, .name 4]) (.var 1),
  .asg 5 (.prim .mod [.prim .sub [.var 2, .var 3], .prim .idx [.var 0, .cn (.int 1)]]),
  .for_ .seq [.var 4] (.tup [.name 6, .name 7]) [.ifs (.prim .lt [.var 5, .var 6]) [.ret (.var 7)] [], .aug 5 .sub (.var 6)],
  .ret (.tup [])]⟩
def G_turn_at : List Fn := [m_is_whole, m_is_among, m_is_row, m_are_rising, m_is_road_row, m_is_turn, m_are_lights, m_ends_at, m_is_town, m_need_town, m_is_road, m_need_road]
def m_turn_at : Fn := runFn b_turn_at G_turn_at
theorem r_turn_at (ds : List D) (st : Sto) (Q : D → Sto → Prop) (h : ds.length = 3) : wp (m_turn_at ds st) Q = wp (exs G_turn_at b_turn_at.body ⟨ds.map some ++ List.replicate 5 none, st⟩) fun f s => Q (flD f) s.st := wp_run h
def L_turn_at : LD := ⟨⟨("turn_at", none), "turn_at", "turn_at", defArgs (top 24), defBody (top 24), defScope (top 24), [], []⟩, ["town", "lights", "beat"], ["town", "lights", "beat", "shift", "rows", "rest", "beats", "green"], false, [], b_turn_at⟩
/-- town, road, beat, lights -/
def b_green_by : FD := ⟨3, 4, [
  .asg 3 (.prim .idx [.prim .idx [.var 0, .cn (.int 3)], .prim .idx [.prim .idx [.prim .idx [.var 0, .cn (.int 2)], .var 1], .cn (.int 1)]]),
  .ret (.or (.prim .isN [.var 3]) (.prim .inn [.var 1, .call 12 [.var 0, .var 3, .var 2]]))]⟩
def G_green_by : List Fn := [m_is_whole, m_is_among, m_is_row, m_are_rising, m_is_road_row, m_is_turn, m_are_lights, m_ends_at, m_is_town, m_need_town, m_is_road, m_need_road, m_turn_at]
def m_green_by : Fn := runFn b_green_by G_green_by
theorem r_green_by (ds : List D) (st : Sto) (Q : D → Sto → Prop) (h : ds.length = 3) : wp (m_green_by ds st) Q = wp (exs G_green_by b_green_by.body ⟨ds.map some ++ List.replicate 1 none, st⟩) fun f s => Q (flD f) s.st := wp_run h
@[simp] theorem g_green_by_turn_at (ds : List D) (e : List (Option D)) (st : Sto) : callF G_green_by 12 ds ⟨e, st⟩ = callM e (m_turn_at ds st) := rfl
def L_green_by : LD := ⟨⟨("green_by", none), "green_by", "green_by", defArgs (top 25), defBody (top 25), defScope (top 25), [], []⟩, ["town", "road", "beat"], ["town", "road", "beat", "lights"], false, [], b_green_by⟩
/-- town, road, beat -/
def b_is_green : FD := ⟨3, 3, [
  .expr (.call 9 [.var 0]),
  .expr (.call 11 [.var 0, .var 1]),
  .ifs (.or (.prim .pnot [.call 0 [.var 2]]) (.prim .lt [.var 2, .cn (.int 0)])) [.raise "NoBeat" []] [],
  .ret (.call 13 [.var 0, .var 1, .var 2])]⟩
def G_is_green : List Fn := [m_is_whole, m_is_among, m_is_row, m_are_rising, m_is_road_row, m_is_turn, m_are_lights, m_ends_at, m_is_town, m_need_town, m_is_road, m_need_road, m_turn_at, m_green_by]
def m_is_green : Fn := runFn b_is_green G_is_green
theorem r_is_green (ds : List D) (st : Sto) (Q : D → Sto → Prop) (h : ds.length = 3) : wp (m_is_green ds st) Q = wp (exs G_is_green b_is_green.body ⟨ds.map some ++ List.replicate 0 none, st⟩) fun f s => Q (flD f) s.st := wp_run h
@[simp] theorem g_is_green_is_whole (ds : List D) (e : List (Option D)) (st : Sto) : callF G_is_green 0 ds ⟨e, st⟩ = callM e (m_is_whole ds st) := rfl
@[simp] theorem g_is_green_need_town (ds : List D) (e : List (Option D)) (st : Sto) : callF G_is_green 9 ds ⟨e, st⟩ = callM e (m_need_town ds st) := rfl
@[simp] theorem g_is_green_need_road (ds : List D) (e : List (Option D)) (st : Sto) : callF G_is_green 11 ds ⟨e, st⟩ = callM e (m_need_road ds st) := rfl
@[simp] theorem g_is_green_green_by (ds : List D) (e : List (Option D)) (st : Sto) : callF G_is_green 13 ds ⟨e, st⟩ = callM e (m_green_by ds st) := rfl
def L_is_green : LD := ⟨⟨("is_green", none), "is_green", "is_green", defArgs (top 26), defBody (top 26), defScope (top 26), [], []⟩, ["town", "road", "beat"], ["town", "road", "beat"], false, [], b_is_green⟩
/-- town, found, road, lights, beats, green -/
def b_never_by : FD := ⟨1, 6, [
  .asg 1 (.lst []),
  .for_ .rng1 [.prim .len [.prim .idx [.var 0, .cn (.int 2)]]] (.name 2) [.asg 3 (.prim .idx [.prim .idx [.var 0, .cn (.int 3)], .prim .idx [.prim .idx [.prim .idx [.var 0, .cn (.int 2)], .var 2], .cn (.int 1)]]), .ifs (.and (.prim .notN [.var 3]) (.prim .pnot [.prim .any [.lc .seq [.prim .idx [.var 3, .cn (.int 1)]] (.tup [.name 4, .name 5]) [4, 5] [] (.prim .inn [.var 2, .var 5])]])) [.app 1 (.var 2)] []],
  .ret (.prim .tuple [.var 1])]⟩
def G_never_by : List Fn := [m_is_whole, m_is_among, m_is_row, m_are_rising, m_is_road_row, m_is_turn, m_are_lights, m_ends_at, m_is_town, m_need_town, m_is_road, m_need_road, m_turn_at, m_green_by, m_is_green]
def m_never_by : Fn := runFn b_never_by G_never_by
theorem r_never_by (ds : List D) (st : Sto) (Q : D → Sto → Prop) (h : ds.length = 1) : wp (m_never_by ds st) Q = wp (exs G_never_by b_never_by.body ⟨ds.map some ++ List.replicate 5 none, st⟩) fun f s => Q (flD f) s.st := wp_run h
def L_never_by : LD := ⟨⟨("never_by", none), "never_by", "never_by", defArgs (top 27), defBody (top 27), defScope (top 27), [], []⟩, ["town"], ["town", "found", "road", "lights", "beats", "green"], false, [], b_never_by⟩
/-- town -/
def b_never_green : FD := ⟨1, 1, [
  .expr (.call 9 [.var 0]),
  .ret (.call 15 [.var 0])]⟩
def G_never_green : List Fn := [m_is_whole, m_is_among, m_is_row, m_are_rising, m_is_road_row, m_is_turn, m_are_lights, m_ends_at, m_is_town, m_need_town, m_is_road, m_need_road, m_turn_at, m_green_by, m_is_green, m_never_by]
def m_never_green : Fn := runFn b_never_green G_never_green
theorem r_never_green (ds : List D) (st : Sto) (Q : D → Sto → Prop) (h : ds.length = 1) : wp (m_never_green ds st) Q = wp (exs G_never_green b_never_green.body ⟨ds.map some ++ List.replicate 0 none, st⟩) fun f s => Q (flD f) s.st := wp_run h
@[simp] theorem g_never_green_need_town (ds : List D) (e : List (Option D)) (st : Sto) : callF G_never_green 9 ds ⟨e, st⟩ = callM e (m_need_town ds st) := rfl
@[simp] theorem g_never_green_never_by (ds : List D) (e : List (Option D)) (st : Sto) : callF G_never_green 15 ds ⟨e, st⟩ = callM e (m_never_by ds st) := rfl
def L_never_green : LD := ⟨⟨("never_green", none), "never_green", "never_green", defArgs (top 28), defBody (top 28), defScope (top 28), [], []⟩, ["town"], ["town"], false, [], b_never_green⟩
/-- _law_script, _law_k -/
def b_l_cell_at : FD := ⟨2, 2, [
  .ifs (.prim .lt [.var 1, .prim .len [.var 0]]) [.ret (.prim .idx [.var 0, .var 1])] [],
  .ret (.cn (.int 0))]⟩
def G_l_cell_at : List Fn := [m_is_whole, m_is_among, m_is_row, m_are_rising, m_is_road_row, m_is_turn, m_are_lights, m_ends_at, m_is_town, m_need_town, m_is_road, m_need_road, m_turn_at, m_green_by, m_is_green, m_never_by, m_never_green]
def m_l_cell_at : Fn := runFn b_l_cell_at G_l_cell_at
theorem r_l_cell_at (ds : List D) (st : Sto) (Q : D → Sto → Prop) (h : ds.length = 2) : wp (m_l_cell_at ds st) Q = wp (exs G_l_cell_at b_l_cell_at.body ⟨ds.map some ++ List.replicate 0 none, st⟩) fun f s => Q (flD f) s.st := wp_run h
def L_l_cell_at : LD := ⟨⟨("_law_cell_at", none), "_law_cell_at", "_law_cell_at", defArgs (top 30), defBody (top 30), defScope (top 30), [], []⟩, ["_law_script", "_law_k"], ["_law_script", "_law_k"], false, [], b_l_cell_at⟩
/-- _law_cell -/
def b_l_pen : FD := ⟨1, 1, [
  .ret (.new [.prim .max2 [.cn (.int 0), .prim .sub [.var 0, .prim .pow [.cn (.int 10), .cn (.int 18)]]], .prim .mod [.var 0, .cn (.int 1000000007)], .cn (.int 0)])]⟩
def G_l_pen : List Fn := [m_is_whole, m_is_among, m_is_row, m_are_rising, m_is_road_row, m_is_turn, m_are_lights, m_ends_at, m_is_town, m_need_town, m_is_road, m_need_road, m_turn_at, m_green_by, m_is_green, m_never_by, m_never_green, m_l_cell_at]
def m_l_pen : Fn := runFn b_l_pen G_l_pen
theorem r_l_pen (ds : List D) (st : Sto) (Q : D → Sto → Prop) (h : ds.length = 1) : wp (m_l_pen ds st) Q = wp (exs G_l_pen b_l_pen.body ⟨ds.map some ++ List.replicate 0 none, st⟩) fun f s => Q (flD f) s.st := wp_run h
def L_l_pen : LD := ⟨⟨("_law_pen", none), "_law_pen", "_law_pen", defArgs (top 31), defBody (top 31), defScope (top 31), [], []⟩, ["_law_cell"], ["_law_cell"], true, [], b_l_pen⟩
/-- _law_pen_here, _law_many, _law_digit, _law_stir -/
def b_l_draw : FD := ⟨2, 4, [
  .ifs (.prim .gt [.prim .idx [.var 0, .cn (.int 0)], .cn (.int 0)]) [.asg 2 (.prim .mod [.prim .idx [.var 0, .cn (.int 0)], .var 1]), .setR (.var 0) (.cn (.int 0)) (.prim .fdiv [.prim .idx [.var 0, .cn (.int 0)], .var 1]), .ret (.var 2)] [],
  .setR (.var 0) (.cn (.int 2)) (.prim .add [.prim .idx [.var 0, .cn (.int 2)], .cn (.int 1)]),
  .asg 3 (.prim .mod [.prim .mul [.prim .add [.prim .idx [.var 0, .cn (.int 1)], .prim .mul [.cn (.int 17), .prim .idx [.var 0, .cn (.int 2)]]], .prim .add [.cn (.int 69621), .prim .mul [.cn (.int 2), .prim .idx [.var 0, .cn (.int 2)]]]], .cn (.int 2147483647)]),
  .asg 3 (.prim .mod [.prim .add [.prim .add [.prim .mul [.var 3, .var 3], .prim .mul [.cn (.int 40503), .prim .idx [.var 0, .cn (.int 2)]]], .cn (.int 5)], .cn (.int 2147483629)]),
  .ret (.prim .mod [.prim .fdiv [.prim .mod [.prim .mul [.var 3, .cn (.int 48271)], .cn (.int 2147483647)], .cn (.int 32)], .var 1])]⟩
def G_l_draw : List Fn := [m_is_whole, m_is_among, m_is_row, m_are_rising, m_is_road_row, m_is_turn, m_are_lights, m_ends_at, m_is_town, m_need_town, m_is_road, m_need_road, m_turn_at, m_green_by, m_is_green, m_never_by, m_never_green, m_l_cell_at, m_l_pen]
def m_l_draw : Fn := runFn b_l_draw G_l_draw
theorem r_l_draw (ds : List D) (st : Sto) (Q : D → Sto → Prop) (h : ds.length = 2) : wp (m_l_draw ds st) Q = wp (exs G_l_draw b_l_draw.body ⟨ds.map some ++ List.replicate 2 none, st⟩) fun f s => Q (flD f) s.st := wp_run h
def L_l_draw : LD := ⟨⟨("_law_draw", none), "_law_draw", "_law_draw", defArgs (top 32), defBody (top 32), defScope (top 32), [], []⟩, ["_law_pen_here", "_law_many"], ["_law_pen_here", "_law_many", "_law_digit", "_law_stir"], false, [], b_l_draw⟩
/-- _law_pen_here, _law_roads, _law_crossing, _law_circle, _law_some, _law_rows, _law_left, _law_at, _law_road, _law_beats, _law_green -/
def b_l_lights : FD := ⟨4, 11, [
  .ifs (.prim .lt [.call 19 [.var 0, .cn (.int 5)], .cn (.int 2)]) [.ret (.cn .non)] [],
  .par [4, 5, 6] [.lc .enum [.var 1] (.tup [.name 7, .name 8]) [7, 8] [.prim .eq [.prim .idx [.var 8, .cn (.int 1)], .var 2]] (.var 7), .lst [], .var 3],
  .while_ (.prim .gt [.var 6, .cn (.int 0)]) [.asg 9 (.ite (.prim .lt [.prim .len [.var 5], .cn (.int 3)]) (.prim .min2 [.var 6, .prim .add [.cn (.int 1), .call 19 [.var 0, .cn (.int 5)]]]) (.var 6)), .asg 10 (.prim .tuple [.lc .seq [.var 4] (.name 8) [8] [.prim .gt [.call 19 [.var 0, .cn (.int 4)], .cn (.int 1)]] (.var 8)]), .app 5 (.tup [.var 9, .var 10]), .asg 6 (.prim .sub [.var 6, .var 9])],
  .ret (.tup [.call 19 [.var 0, .var 3], .prim .tuple [.var 5]])]⟩
def G_l_lights : List Fn := [m_is_whole, m_is_among, m_is_row, m_are_rising, m_is_road_row, m_is_turn, m_are_lights, m_ends_at, m_is_town, m_need_town, m_is_road, m_need_road, m_turn_at, m_green_by, m_is_green, m_never_by, m_never_green, m_l_cell_at, m_l_pen, m_l_draw]
def m_l_lights : Fn := runFn b_l_lights G_l_lights
theorem r_l_lights (ds : List D) (st : Sto) (Q : D → Sto → Prop) (h : ds.length = 4) : wp (m_l_lights ds st) Q = wp (exs G_l_lights b_l_lights.body ⟨ds.map some ++ List.replicate 7 none, st⟩) fun f s => Q (flD f) s.st := wp_run h
@[simp] theorem g_l_lights_l_draw (ds : List D) (e : List (Option D)) (st : Sto) : callF G_l_lights 19 ds ⟨e, st⟩ = callM e (m_l_draw ds st) := rfl
def L_l_lights : LD := ⟨⟨("_law_lights", none), "_law_lights", "_law_lights", defArgs (top 33), defBody (top 33), defScope (top 33), [], []⟩, ["_law_pen_here", "_law_roads", "_law_crossing", "_law_circle"], ["_law_pen_here", "_law_roads", "_law_crossing", "_law_circle", "_law_some", "_law_rows", "_law_left", "_law_at", "_law_road", "_law_beats", "_law_green"], false, [], b_l_lights⟩
/-- _law_pen_here, _law_many, _law_circle, _law_roads, _law_at, _law_turn, _law_left, _law_mixed, _law_lights_here -/
def b_l_town : FD := ⟨1, 9, [
  .par [1, 2] [.prim .add [.cn (.int 1), .call 19 [.var 0, .cn (.int 4)]], .prim .idx [.lst [.cn (.int 1), .cn (.int 2), .cn (.int 3), .cn (.int 4), .cn (.int 6), .cn (.int 12)], .call 19 [.var 0, .cn (.int 6)]]],
  .asg 3 (.lc .rng1 [.var 1] (.name 4) [4] [] (.tup [.var 4, .prim .mod [.prim .add [.var 4, .cn (.int 1)], .var 1], .prim .add [.cn (.int 1), .call 19 [.var 0, .cn (.int 4)]]])),
  .for_ .rng1 [.call 19 [.var 0, .cn (.int 6)]] (.name 5) [.app 3 (.tup [.call 19 [.var 0, .var 1], .call 19 [.var 0, .var 1], .prim .add [.cn (.int 1), .call 19 [.var 0, .cn (.int 5)]]])],
  .par [6, 7] [.prim .list [.var 3], .lst []],
  .while_ (.prim .ne [.var 6, .lst []]) [.app 7 (.pop 6 (.call 19 [.var 0, .prim .len [.var 6]]))],
  .asg 8 (.lc .rng1 [.var 1] (.name 4) [4] [] (.call 20 [.var 0, .var 7, .var 4, .var 2])),
  .ret (.tup [.var 1, .var 2, .prim .tuple [.var 7], .prim .tuple [.var 8]])]⟩
def G_l_town : List Fn := [m_is_whole, m_is_among, m_is_row, m_are_rising, m_is_road_row, m_is_turn, m_are_lights, m_ends_at, m_is_town, m_need_town, m_is_road, m_need_road, m_turn_at, m_green_by, m_is_green, m_never_by, m_never_green, m_l_cell_at, m_l_pen, m_l_draw, m_l_lights]
def m_l_town : Fn := runFn b_l_town G_l_town
theorem r_l_town (ds : List D) (st : Sto) (Q : D → Sto → Prop) (h : ds.length = 1) : wp (m_l_town ds st) Q = wp (exs G_l_town b_l_town.body ⟨ds.map some ++ List.replicate 8 none, st⟩) fun f s => Q (flD f) s.st := wp_run h
@[simp] theorem g_l_town_l_draw (ds : List D) (e : List (Option D)) (st : Sto) : callF G_l_town 19 ds ⟨e, st⟩ = callM e (m_l_draw ds st) := rfl
@[simp] theorem g_l_town_l_lights (ds : List D) (e : List (Option D)) (st : Sto) : callF G_l_town 20 ds ⟨e, st⟩ = callM e (m_l_lights ds st) := rfl
def L_l_town : LD := ⟨⟨("_law_town", none), "_law_town", "_law_town", defArgs (top 34), defBody (top 34), defScope (top 34), [], []⟩, ["_law_pen_here"], ["_law_pen_here", "_law_many", "_law_circle", "_law_roads", "_law_at", "_law_turn", "_law_left", "_law_mixed", "_law_lights_here"], false, [], b_l_town⟩
/-- _law_town_here, _law_more, _law_lights_here, _law_one -/
def b_l_shifted : FD := ⟨2, 4, [
  .asg 2 (.lst []),
  .for_ .seq [.prim .idx [.var 0, .cn (.int 3)]] (.name 3) [.app 2 (.ite (.prim .isN [.var 3]) (.cn .non) (.tup [.prim .mod [.prim .add [.prim .idx [.var 3, .cn (.int 0)], .var 1], .prim .idx [.var 0, .cn (.int 1)]], .prim .idx [.var 3, .cn (.int 1)]]))],
  .ret (.prim .add [.prim (.cut false true) [.var 0, .cn (.int 3)], .tup [.prim .tuple [.var 2]]])]⟩
def G_l_shifted : List Fn := [m_is_whole, m_is_among, m_is_row, m_are_rising, m_is_road_row, m_is_turn, m_are_lights, m_ends_at, m_is_town, m_need_town, m_is_road, m_need_road, m_turn_at, m_green_by, m_is_green, m_never_by, m_never_green, m_l_cell_at, m_l_pen, m_l_draw, m_l_lights, m_l_town]
def m_l_shifted : Fn := runFn b_l_shifted G_l_shifted
theorem r_l_shifted (ds : List D) (st : Sto) (Q : D → Sto → Prop) (h : ds.length = 2) : wp (m_l_shifted ds st) Q = wp (exs G_l_shifted b_l_shifted.body ⟨ds.map some ++ List.replicate 2 none, st⟩) fun f s => Q (flD f) s.st := wp_run h
def L_l_shifted : LD := ⟨⟨("_law_shifted", none), "_law_shifted", "_law_shifted", defArgs (top 35), defBody (top 35), defScope (top 35), [], []⟩, ["_law_town_here", "_law_more"], ["_law_town_here", "_law_more", "_law_lights_here", "_law_one"], false, [], b_l_shifted⟩
/-- _law_town_here, _law_lights_here, _law_one -/
def b_l_turned : FD := ⟨1, 3, [
  .asg 1 (.lc .seq [.prim .idx [.var 0, .cn (.int 3)]] (.name 2) [2] [] (.ite (.prim .isN [.var 2]) (.cn .non) (.tup [.prim .idx [.var 2, .cn (.int 0)], .prim .rev [.prim .idx [.var 2, .cn (.int 1)]]]))),
  .ret (.prim .add [.prim (.cut false true) [.var 0, .cn (.int 3)], .tup [.prim .tuple [.var 1]]])]⟩
def G_l_turned : List Fn := [m_is_whole, m_is_among, m_is_row, m_are_rising, m_is_road_row, m_is_turn, m_are_lights, m_ends_at, m_is_town, m_need_town, m_is_road, m_need_road, m_turn_at, m_green_by, m_is_green, m_never_by, m_never_green, m_l_cell_at, m_l_pen, m_l_draw, m_l_lights, m_l_town, m_l_shifted]
def m_l_turned : Fn := runFn b_l_turned G_l_turned
theorem r_l_turned (ds : List D) (st : Sto) (Q : D → Sto → Prop) (h : ds.length = 1) : wp (m_l_turned ds st) Q = wp (exs G_l_turned b_l_turned.body ⟨ds.map some ++ List.replicate 2 none, st⟩) fun f s => Q (flD f) s.st := wp_run h
def L_l_turned : LD := ⟨⟨("_law_turned", none), "_law_turned", "_law_turned", defArgs (top 36), defBody (top 36), defScope (top 36), [], []⟩, ["_law_town_here"], ["_law_town_here", "_law_lights_here", "_law_one"], false, [], b_l_turned⟩
/-- _law_town_here, _law_road, _law_first, _law_at -/
def b_l_green_row : FD := ⟨3, 4, [
  .ret (.lc .rng1 [.prim .idx [.var 0, .cn (.int 1)]] (.name 3) [3] [] (.call 14 [.var 0, .var 1, .prim .add [.var 2, .var 3]]))]⟩
def G_l_green_row : List Fn := [m_is_whole, m_is_among, m_is_row, m_are_rising, m_is_road_row, m_is_turn, m_are_lights, m_ends_at, m_is_town, m_need_town, m_is_road, m_need_road, m_turn_at, m_green_by, m_is_green, m_never_by, m_never_green, m_l_cell_at, m_l_pen, m_l_draw, m_l_lights, m_l_town, m_l_shifted, m_l_turned]
def m_l_green_row : Fn := runFn b_l_green_row G_l_green_row
theorem r_l_green_row (ds : List D) (st : Sto) (Q : D → Sto → Prop) (h : ds.length = 3) : wp (m_l_green_row ds st) Q = wp (exs G_l_green_row b_l_green_row.body ⟨ds.map some ++ List.replicate 1 none, st⟩) fun f s => Q (flD f) s.st := wp_run h
@[simp] theorem g_l_green_row_is_green (ds : List D) (e : List (Option D)) (st : Sto) : callF G_l_green_row 14 ds ⟨e, st⟩ = callM e (m_is_green ds st) := rfl
def L_l_green_row : LD := ⟨⟨("_law_green_row", none), "_law_green_row", "_law_green_row", defArgs (top 37), defBody (top 37), defScope (top 37), [], []⟩, ["_law_town_here", "_law_road", "_law_first"], ["_law_town_here", "_law_road", "_law_first", "_law_at"], false, [], b_l_green_row⟩
/-- _law_town_here, _law_road, _law_more, _law_beat, _law_row, _law_lights_here, _law_many, _law_beats, _law_green -/
def b_l_right : FD := ⟨4, 9, [
  .par [4, 5] [.call 24 [.var 0, .var 1, .var 3], .prim .idx [.prim .idx [.var 0, .cn (.int 3)], .prim .idx [.prim .idx [.prim .idx [.var 0, .cn (.int 2)], .var 1], .cn (.int 1)]]],
  .ifs (.prim .ne [.var 4, .call 24 [.var 0, .var 1, .prim .add [.var 3, .prim .idx [.var 0, .cn (.int 1)]]]]) [.ret (.cn (.bl false))] [],
  .ifs (.prim .ne [.call 24 [.call 22 [.var 0, .var 2], .var 1, .prim .add [.var 3, .var 2]], .var 4]) [.ret (.cn (.bl false))] [],
  .ifs (.prim .isN [.var 5]) [.ret (.and (.prim .eq [.var 4, .prim .mul [.lst [.cn (.bl true)], .prim .idx [.var 0, .cn (.int 1)]]]) (.prim .nin [.var 1, .call 16 [.var 0]]))] [],
  .asg 6 (.prim .sum [.lc .seq [.prim .idx [.var 5, .cn (.int 1)]] (.tup [.name 7, .name 8]) [7, 8] [.prim .inn [.var 1, .var 8]] (.var 7)]),
  .ifs (.or (.prim .ne [.meth .cnt (.var 4) [.cn (.bl true)], .var 6]) (.prim .ne [.prim .inn [.var 1, .call 16 [.var 0]], .prim .eq [.var 6, .cn (.int 0)]])) [.ret (.cn (.bl false))] [],
  .ret (.prim .eq [.meth .cnt (.call 24 [.call 23 [.var 0], .var 1, .cn (.int 0)]) [.cn (.bl true)], .var 6])]⟩
def G_l_right : List Fn := [m_is_whole, m_is_among, m_is_row, m_are_rising, m_is_road_row, m_is_turn, m_are_lights, m_ends_at, m_is_town, m_need_town, m_is_road, m_need_road, m_turn_at, m_green_by, m_is_green, m_never_by, m_never_green, m_l_cell_at, m_l_pen, m_l_draw, m_l_lights, m_l_town, m_l_shifted, m_l_turned, m_l_green_row]
def m_l_right : Fn := runFn b_l_right G_l_right
theorem r_l_right (ds : List D) (st : Sto) (Q : D → Sto → Prop) (h : ds.length = 4) : wp (m_l_right ds st) Q = wp (exs G_l_right b_l_right.body ⟨ds.map some ++ List.replicate 5 none, st⟩) fun f s => Q (flD f) s.st := wp_run h
@[simp] theorem g_l_right_never_green (ds : List D) (e : List (Option D)) (st : Sto) : callF G_l_right 16 ds ⟨e, st⟩ = callM e (m_never_green ds st) := rfl
@[simp] theorem g_l_right_l_shifted (ds : List D) (e : List (Option D)) (st : Sto) : callF G_l_right 22 ds ⟨e, st⟩ = callM e (m_l_shifted ds st) := rfl
@[simp] theorem g_l_right_l_turned (ds : List D) (e : List (Option D)) (st : Sto) : callF G_l_right 23 ds ⟨e, st⟩ = callM e (m_l_turned ds st) := rfl
@[simp] theorem g_l_right_l_green_row (ds : List D) (e : List (Option D)) (st : Sto) : callF G_l_right 24 ds ⟨e, st⟩ = callM e (m_l_green_row ds st) := rfl
def L_l_right : LD := ⟨⟨("_law_right", none), "_law_right", "_law_right", defArgs (top 38), defBody (top 38), defScope (top 38), [], []⟩, ["_law_town_here", "_law_road", "_law_more", "_law_beat"], ["_law_town_here", "_law_road", "_law_more", "_law_beat", "_law_row", "_law_lights_here", "_law_many", "_law_beats", "_law_green"], false, [], b_l_right⟩
/-- _law_script, _law_k, _law_pen_here, _law_turn, _law_town_here, _law_more, _law_beat, _law_road, _law_bare -/
def b_law : FD := ⟨1, 9, [
  .for_ .rng1 [.prim .max2 [.cn (.int 1), .prim .min2 [.prim .len [.var 0], .cn (.int 4)]]] (.name 1) [.asg 2 (.call 18 [.call 17 [.var 0, .var 1]]), .for_ .rng1 [.cn (.int 3)] (.name 3) [.asg 4 (.call 21 [.var 2]), .par [5, 6] [.call 19 [.var 2, .prim .idx [.var 4, .cn (.int 1)]], .call 19 [.var 2, .cn (.int 50)]], .ifs (.prim .pnot [.prim .all [.lc .rng1 [.prim .len [.prim .idx [.var 4, .cn (.int 2)]]] (.name 7) [7] [] (.call 25 [.var 4, .var 7, .var 5, .var 6])]]) [.ret (.cn (.bl false))] [], .asg 8 (.prim .add [.prim (.cut false true) [.var 4, .cn (.int 3)], .tup [.prim .mul [.tup [.cn .non], .prim .idx [.var 4, .cn (.int 0)]]]]), .ifs (.or (.prim .ne [.call 16 [.var 8], .tup []]) (.prim .ne [.call 16 [.call 23 [.var 4]], .call 16 [.var 4]])) [.ret (.cn (.bl false))] []]],
  .ret (.cn (.bl true))]⟩
def G_law : List Fn := [m_is_whole, m_is_among, m_is_row, m_are_rising, m_is_road_row, m_is_turn, m_are_lights, m_ends_at, m_is_town, m_need_town, m_is_road, m_need_road, m_turn_at, m_green_by, m_is_green, m_never_by, m_never_green, m_l_cell_at, m_l_pen, m_l_draw, m_l_lights, m_l_town, m_l_shifted, m_l_turned, m_l_green_row, m_l_right]
def m_law : Fn := runFn b_law G_law
theorem r_law (ds : List D) (st : Sto) (Q : D → Sto → Prop) (h : ds.length = 1) : wp (m_law ds st) Q = wp (exs G_law b_law.body ⟨ds.map some ++ List.replicate 8 none, st⟩) fun f s => Q (flD f) s.st := wp_run h
@[simp] theorem g_law_never_green (ds : List D) (e : List (Option D)) (st : Sto) : callF G_law 16 ds ⟨e, st⟩ = callM e (m_never_green ds st) := rfl
@[simp] theorem g_law_l_cell_at (ds : List D) (e : List (Option D)) (st : Sto) : callF G_law 17 ds ⟨e, st⟩ = callM e (m_l_cell_at ds st) := rfl
@[simp] theorem g_law_l_pen (ds : List D) (e : List (Option D)) (st : Sto) : callF G_law 18 ds ⟨e, st⟩ = callM e (m_l_pen ds st) := rfl
@[simp] theorem g_law_l_draw (ds : List D) (e : List (Option D)) (st : Sto) : callF G_law 19 ds ⟨e, st⟩ = callM e (m_l_draw ds st) := rfl
@[simp] theorem g_law_l_town (ds : List D) (e : List (Option D)) (st : Sto) : callF G_law 21 ds ⟨e, st⟩ = callM e (m_l_town ds st) := rfl
@[simp] theorem g_law_l_turned (ds : List D) (e : List (Option D)) (st : Sto) : callF G_law 23 ds ⟨e, st⟩ = callM e (m_l_turned ds st) := rfl
@[simp] theorem g_law_l_right (ds : List D) (e : List (Option D)) (st : Sto) : callF G_law 25 ds ⟨e, st⟩ = callM e (m_l_right ds st) := rfl
def L_law : LD := ⟨⟨("law", none), "law", "law", defArgs (top 39), defBody (top 39), defScope (top 39), [], []⟩, ["_law_script"], ["_law_script", "_law_k", "_law_pen_here", "_law_turn", "_law_town_here", "_law_more", "_law_beat", "_law_road", "_law_bare"], false, [], b_law⟩
def LL : List LD := [L_is_whole, L_is_among, L_is_row, L_are_rising, L_is_road_row, L_is_turn, L_are_lights, L_ends_at, L_is_town, L_need_town, L_is_road, L_need_road, L_turn_at, L_green_by, L_is_green, L_never_by, L_never_green, L_l_cell_at, L_l_pen, L_l_draw, L_l_lights, L_l_town, L_l_shifted, L_l_turned, L_l_green_row, L_l_right, L_law]
def MM : List Fn := [m_is_whole, m_is_among, m_is_row, m_are_rising, m_is_road_row, m_is_turn, m_are_lights, m_ends_at, m_is_town, m_need_town, m_is_road, m_need_road, m_turn_at, m_green_by, m_is_green, m_never_by, m_never_green, m_l_cell_at, m_l_pen, m_l_draw, m_l_lights, m_l_town, m_l_shifted, m_l_turned, m_l_green_row, m_l_right, m_law]
def G0 : List (Str × GK) := [("isinstance", .blt), ("int", .blt), ("bool", .blt), ("tuple", .blt), ("list", .blt), ("len", .blt), ("max", .blt), ("min", .blt), ("sum", .blt), ("all", .blt), ("any", .blt), ("range", .blt), ("enumerate", .blt), ("zip", .blt), ("MOST_CROSSINGS", .cst (.cn (.int 6))), ("MOST_ROUND", .cst (.cn (.int 12))), ("MOST_ROADS", .cst (.cn (.int 10))), ("MOST_LONG", .cst (.cn (.int 5))), ("MOST_ROWS", .cst (.cn (.int 4))), ("NoTown", .exc), ("NoRoad", .exc), ("NoBeat", .exc)]
theorem k_is_whole : LOk G0 LL MM L_is_whole 0 := ⟨⟨rfl, rfl, rfl, by decide +kernel, rfl, by decide +kernel, by decide +kernel⟩, rfl, rfl, rfl, by unfold bodyIs; kernel_rfl, bindNone rfl fun K fd F => FunD.bindsN F fun _ _ _ _ _ _ us hl => match us, hl with | [_], _ => rfl⟩
theorem k_is_among : LOk G0 LL MM L_is_among 1 := ⟨⟨rfl, rfl, rfl, by decide +kernel, rfl, by decide +kernel, by decide +kernel⟩, rfl, rfl, rfl, by unfold bodyIs; kernel_rfl, bindNone rfl fun K fd F => FunD.bindsN F fun _ _ _ _ _ _ us hl => match us, hl with | [_, _, _], _ => rfl⟩
theorem k_is_row : LOk G0 LL MM L_is_row 2 := ⟨⟨rfl, rfl, rfl, by decide +kernel, rfl, by decide +kernel, by decide +kernel⟩, rfl, rfl, rfl, by unfold bodyIs; kernel_rfl, bindNone rfl fun K fd F => FunD.bindsN F fun _ _ _ _ _ _ us hl => match us, hl with | [_, _, _], _ => rfl⟩
theorem k_are_rising : LOk G0 LL MM L_are_rising 3 := ⟨⟨rfl, rfl, rfl, by decide +kernel, rfl, by decide +kernel, by decide +kernel⟩, rfl, rfl, rfl, by unfold bodyIs; kernel_rfl, bindNone rfl fun K fd F => FunD.bindsN F fun _ _ _ _ _ _ us hl => match us, hl with | [_], _ => rfl⟩
theorem k_is_road_row : LOk G0 LL MM L_is_road_row 4 := ⟨⟨rfl, rfl, rfl, by decide +kernel, rfl, by decide +kernel, by decide +kernel⟩, rfl, rfl, rfl, by unfold bodyIs; kernel_rfl, bindNone rfl fun K fd F => FunD.bindsN F fun _ _ _ _ _ _ us hl => match us, hl with | [_, _], _ => rfl⟩
theorem k_is_turn : LOk G0 LL MM L_is_turn 5 := ⟨⟨rfl, rfl, rfl, by decide +kernel, rfl, by decide +kernel, by decide +kernel⟩, rfl, rfl, rfl, by unfold bodyIs; kernel_rfl, bindNone rfl fun K fd F => FunD.bindsN F fun _ _ _ _ _ _ us hl => match us, hl with | [_, _], _ => rfl⟩
theorem k_are_lights : LOk G0 LL MM L_are_lights 6 := ⟨⟨rfl, rfl, rfl, by decide +kernel, rfl, by decide +kernel, by decide +kernel⟩, rfl, rfl, rfl, by unfold bodyIs; kernel_rfl, bindNone rfl fun K fd F => FunD.bindsN F fun _ _ _ _ _ _ us hl => match us, hl with | [_, _, _], _ => rfl⟩
theorem k_ends_at : LOk G0 LL MM L_ends_at 7 := ⟨⟨rfl, rfl, rfl, by decide +kernel, rfl, by decide +kernel, by decide +kernel⟩, rfl, rfl, rfl, by unfold bodyIs; kernel_rfl, bindNone rfl fun K fd F => FunD.bindsN F fun _ _ _ _ _ _ us hl => match us, hl with | [_, _], _ => rfl⟩
theorem k_is_town : LOk G0 LL MM L_is_town 8 := ⟨⟨rfl, rfl, rfl, by decide +kernel, rfl, by decide +kernel, by decide +kernel⟩, rfl, rfl, rfl, by unfold bodyIs; kernel_rfl, bindNone rfl fun K fd F => FunD.bindsN F fun _ _ _ _ _ _ us hl => match us, hl with | [_], _ => rfl⟩
theorem k_need_town : LOk G0 LL MM L_need_town 9 := ⟨⟨rfl, rfl, rfl, by decide +kernel, rfl, by decide +kernel, by decide +kernel⟩, rfl, rfl, rfl, by unfold bodyIs; kernel_rfl, bindNone rfl fun K fd F => FunD.bindsN F fun _ _ _ _ _ _ us hl => match us, hl with | [_], _ => rfl⟩
theorem k_is_road : LOk G0 LL MM L_is_road 10 := ⟨⟨rfl, rfl, rfl, by decide +kernel, rfl, by decide +kernel, by decide +kernel⟩, rfl, rfl, rfl, by unfold bodyIs; kernel_rfl, bindNone rfl fun K fd F => FunD.bindsN F fun _ _ _ _ _ _ us hl => match us, hl with | [_, _], _ => rfl⟩
theorem k_need_road : LOk G0 LL MM L_need_road 11 := ⟨⟨rfl, rfl, rfl, by decide +kernel, rfl, by decide +kernel, by decide +kernel⟩, rfl, rfl, rfl, by unfold bodyIs; kernel_rfl, bindNone rfl fun K fd F => FunD.bindsN F fun _ _ _ _ _ _ us hl => match us, hl with | [_, _], _ => rfl⟩
theorem k_turn_at : LOk G0 LL MM L_turn_at 12 := ⟨⟨rfl, rfl, rfl, by decide +kernel, rfl, by decide +kernel, by decide +kernel⟩, rfl, rfl, rfl, by unfold bodyIs; kernel_rfl, bindNone rfl fun K fd F => FunD.bindsN F fun _ _ _ _ _ _ us hl => match us, hl with | [_, _, _], _ => rfl⟩
theorem k_green_by : LOk G0 LL MM L_green_by 13 := ⟨⟨rfl, rfl, rfl, by decide +kernel, rfl, by decide +kernel, by decide +kernel⟩, rfl, rfl, rfl, by unfold bodyIs; kernel_rfl, bindNone rfl fun K fd F => FunD.bindsN F fun _ _ _ _ _ _ us hl => match us, hl with | [_, _, _], _ => rfl⟩
theorem k_is_green : LOk G0 LL MM L_is_green 14 := ⟨⟨rfl, rfl, rfl, by decide +kernel, rfl, by decide +kernel, by decide +kernel⟩, rfl, rfl, rfl, by unfold bodyIs; kernel_rfl, bindNone rfl fun K fd F => FunD.bindsN F fun _ _ _ _ _ _ us hl => match us, hl with | [_, _, _], _ => rfl⟩
theorem k_never_by : LOk G0 LL MM L_never_by 15 := ⟨⟨rfl, rfl, rfl, by decide +kernel, rfl, by decide +kernel, by decide +kernel⟩, rfl, rfl, rfl, by unfold bodyIs; kernel_rfl, bindNone rfl fun K fd F => FunD.bindsN F fun _ _ _ _ _ _ us hl => match us, hl with | [_], _ => rfl⟩
theorem k_never_green : LOk G0 LL MM L_never_green 16 := ⟨⟨rfl, rfl, rfl, by decide +kernel, rfl, by decide +kernel, by decide +kernel⟩, rfl, rfl, rfl, by unfold bodyIs; kernel_rfl, bindNone rfl fun K fd F => FunD.bindsN F fun _ _ _ _ _ _ us hl => match us, hl with | [_], _ => rfl⟩
theorem k_l_cell_at : LOk G0 LL MM L_l_cell_at 17 := ⟨⟨rfl, rfl, rfl, by decide +kernel, rfl, by decide +kernel, by decide +kernel⟩, rfl, rfl, rfl, by unfold bodyIs; kernel_rfl, bindNone rfl fun K fd F => FunD.bindsN F fun _ _ _ _ _ _ us hl => match us, hl with | [_, _], _ => rfl⟩
theorem k_l_pen : LOk G0 LL MM L_l_pen 18 := ⟨⟨rfl, rfl, rfl, by decide +kernel, rfl, by decide +kernel, by decide +kernel⟩, rfl, rfl, rfl, by unfold bodyIs; kernel_rfl, bindNone rfl fun K fd F => FunD.bindsN F fun _ _ _ _ _ _ us hl => match us, hl with | [_], _ => rfl⟩
theorem k_l_draw : LOk G0 LL MM L_l_draw 19 := ⟨⟨rfl, rfl, rfl, by decide +kernel, rfl, by decide +kernel, by decide +kernel⟩, rfl, rfl, rfl, by unfold bodyIs; kernel_rfl, bindNone rfl fun K fd F => FunD.bindsN F fun _ _ _ _ _ _ us hl => match us, hl with | [_, _], _ => rfl⟩
theorem k_l_lights : LOk G0 LL MM L_l_lights 20 := ⟨⟨rfl, rfl, rfl, by decide +kernel, rfl, by decide +kernel, by decide +kernel⟩, rfl, rfl, rfl, by unfold bodyIs; kernel_rfl, bindNone rfl fun K fd F => FunD.bindsN F fun _ _ _ _ _ _ us hl => match us, hl with | [_, _, _, _], _ => rfl⟩
theorem k_l_town : LOk G0 LL MM L_l_town 21 := ⟨⟨rfl, rfl, rfl, by decide +kernel, rfl, by decide +kernel, by decide +kernel⟩, rfl, rfl, rfl, by unfold bodyIs; kernel_rfl, bindNone rfl fun K fd F => FunD.bindsN F fun _ _ _ _ _ _ us hl => match us, hl with | [_], _ => rfl⟩
theorem k_l_shifted : LOk G0 LL MM L_l_shifted 22 := ⟨⟨rfl, rfl, rfl, by decide +kernel, rfl, by decide +kernel, by decide +kernel⟩, rfl, rfl, rfl, by unfold bodyIs; kernel_rfl, bindNone rfl fun K fd F => FunD.bindsN F fun _ _ _ _ _ _ us hl => match us, hl with | [_, _], _ => rfl⟩
theorem k_l_turned : LOk G0 LL MM L_l_turned 23 := ⟨⟨rfl, rfl, rfl, by decide +kernel, rfl, by decide +kernel, by decide +kernel⟩, rfl, rfl, rfl, by unfold bodyIs; kernel_rfl, bindNone rfl fun K fd F => FunD.bindsN F fun _ _ _ _ _ _ us hl => match us, hl with | [_], _ => rfl⟩
theorem k_l_green_row : LOk G0 LL MM L_l_green_row 24 := ⟨⟨rfl, rfl, rfl, by decide +kernel, rfl, by decide +kernel, by decide +kernel⟩, rfl, rfl, rfl, by unfold bodyIs; kernel_rfl, bindNone rfl fun K fd F => FunD.bindsN F fun _ _ _ _ _ _ us hl => match us, hl with | [_, _, _], _ => rfl⟩
theorem k_l_right : LOk G0 LL MM L_l_right 25 := ⟨⟨rfl, rfl, rfl, by decide +kernel, rfl, by decide +kernel, by decide +kernel⟩, rfl, rfl, rfl, by unfold bodyIs; kernel_rfl, bindNone rfl fun K fd F => FunD.bindsN F fun _ _ _ _ _ _ us hl => match us, hl with | [_, _, _, _], _ => rfl⟩
theorem k_law : LOk G0 LL MM L_law 26 := ⟨⟨rfl, rfl, rfl, by decide +kernel, rfl, by decide +kernel, by decide +kernel⟩, rfl, rfl, rfl, by unfold bodyIs; kernel_rfl, bindNone rfl fun K fd F => FunD.bindsN F fun _ _ _ _ _ _ us hl => match us, hl with | [_], _ => rfl⟩
theorem okAll : ∀ (i : Nat) (l : LD), LL[i]? = some l → LOk G0 LL MM l i := fun i l h => match i, h with
  | 0, h => Option.some.inj h ▸ k_is_whole
  | 1, h => Option.some.inj h ▸ k_is_among
  | 2, h => Option.some.inj h ▸ k_is_row
  | 3, h => Option.some.inj h ▸ k_are_rising
  | 4, h => Option.some.inj h ▸ k_is_road_row
  | 5, h => Option.some.inj h ▸ k_is_turn
  | 6, h => Option.some.inj h ▸ k_are_lights
  | 7, h => Option.some.inj h ▸ k_ends_at
  | 8, h => Option.some.inj h ▸ k_is_town
  | 9, h => Option.some.inj h ▸ k_need_town
  | 10, h => Option.some.inj h ▸ k_is_road
  | 11, h => Option.some.inj h ▸ k_need_road
  | 12, h => Option.some.inj h ▸ k_turn_at
  | 13, h => Option.some.inj h ▸ k_green_by
  | 14, h => Option.some.inj h ▸ k_is_green
  | 15, h => Option.some.inj h ▸ k_never_by
  | 16, h => Option.some.inj h ▸ k_never_green
  | 17, h => Option.some.inj h ▸ k_l_cell_at
  | 18, h => Option.some.inj h ▸ k_l_pen
  | 19, h => Option.some.inj h ▸ k_l_draw
  | 20, h => Option.some.inj h ▸ k_l_lights
  | 21, h => Option.some.inj h ▸ k_l_town
  | 22, h => Option.some.inj h ▸ k_l_shifted
  | 23, h => Option.some.inj h ▸ k_l_turned
  | 24, h => Option.some.inj h ▸ k_l_green_row
  | 25, h => Option.some.inj h ▸ k_l_right
  | 26, h => Option.some.inj h ▸ k_law
  | (n + 27), h => nomatch (show (none : Option LD) = some l from h)
def fa : List He.Fa := [.glo "is_whole", .glo "is_among", .glo "is_row", .glo "are_rising", .glo "is_road_row", .glo "is_turn", .glo "are_lights", .glo "ends_at", .glo "is_town", .glo "need_town", .glo "is_road", .glo "need_road", .glo "turn_at", .glo "green_by", .glo "is_green", .glo "never_by", .glo "never_green", .glo "_law_cell_at", .glo "_law_pen", .glo "_law_draw", .glo "_law_lights", .glo "_law_town", .glo "_law_shifted", .glo "_law_turned", .glo "_law_green_row", .glo "_law_right", .glo "law", .free "isinstance", .free "int", .free "bool", .free "tuple", .free "list", .free "len", .free "max", .free "min", .free "sum", .free "all", .free "any", .free "range", .free "enumerate", .free "zip", .int "MOST_CROSSINGS" 6, .int "MOST_ROUND" 12, .int "MOST_ROADS" 10, .int "MOST_LONG" 5, .int "MOST_ROWS" 4, .glo "NoTown", .exc "NoTown", .glo "NoRoad", .exc "NoRoad", .glo "NoBeat", .exc "NoBeat"]
def fn : List He.DefD := LL.map LD.d
theorem mo {K : PySem.W.Frag} {h : Heap} {mg : Str → Option Value} (X : K.In h) (G : h.Ns mainGlobals mg) (c : He.SaysD fa fn K) : Mo K mg G0 LL where
  g0 := fun x g hx => by
    simp only [G0, List.mem_cons, Prod.mk.injEq, List.not_mem_nil, or_false] at hx
    rcases hx with ⟨rfl, rfl⟩ | ⟨rfl, rfl⟩ | ⟨rfl, rfl⟩ | ⟨rfl, rfl⟩ | ⟨rfl, rfl⟩ | ⟨rfl, rfl⟩ | ⟨rfl, rfl⟩ | ⟨rfl, rfl⟩ | ⟨rfl, rfl⟩ | ⟨rfl, rfl⟩ | ⟨rfl, rfl⟩ | ⟨rfl, rfl⟩ | ⟨rfl, rfl⟩ | ⟨rfl, rfl⟩ | ⟨rfl, rfl⟩ | ⟨rfl, rfl⟩ | ⟨rfl, rfl⟩ | ⟨rfl, rfl⟩ | ⟨rfl, rfl⟩ | ⟨rfl, rfl⟩ | ⟨rfl, rfl⟩ | ⟨rfl, rfl⟩
    · exact fun P w base kk Γ => He.free_ok X G (c.fact 27 rfl)
    · exact fun P w base kk Γ => He.free_ok X G (c.fact 28 rfl)
    · exact fun P w base kk Γ => He.free_ok X G (c.fact 29 rfl)
    · exact fun P w base kk Γ => He.free_ok X G (c.fact 30 rfl)
    · exact fun P w base kk Γ => He.free_ok X G (c.fact 31 rfl)
    · exact fun P w base kk Γ => He.free_ok X G (c.fact 32 rfl)
    · exact fun P w base kk Γ => He.free_ok X G (c.fact 33 rfl)
    · exact fun P w base kk Γ => He.free_ok X G (c.fact 34 rfl)
    · exact fun P w base kk Γ => He.free_ok X G (c.fact 35 rfl)
    · exact fun P w base kk Γ => He.free_ok X G (c.fact 36 rfl)
    · exact fun P w base kk Γ => He.free_ok X G (c.fact 37 rfl)
    · exact fun P w base kk Γ => He.free_ok X G (c.fact 38 rfl)
    · exact fun P w base kk Γ => He.free_ok X G (c.fact 39 rfl)
    · exact fun P w base kk Γ => He.free_ok X G (c.fact 40 rfl)
    · exact g_int (He.int_ok X G (c.fact 41 rfl))
    · exact g_int (He.int_ok X G (c.fact 42 rfl))
    · exact g_int (He.int_ok X G (c.fact 43 rfl))
    · exact g_int (He.int_ok X G (c.fact 44 rfl))
    · exact g_int (He.int_ok X G (c.fact 45 rfl))
    · exact g_exc (He.glo_ok X G (c.fact 46 rfl)) (He.exc_ok (c.fact 47 rfl))
    · exact g_exc (He.glo_ok X G (c.fact 48 rfl)) (He.exc_ok (c.fact 49 rfl))
    · exact g_exc (He.glo_ok X G (c.fact 50 rfl)) (He.exc_ok (c.fact 51 rfl))
  fn := fun i l hl => c.def_ i (d := l.d) (by show (LL.map LD.d)[i]? = _; rw [List.getElem?_map, hl]; rfl)
  gl := fun i l h => match i, h with
    | 0, h => Option.some.inj h ▸ He.glo_ok X G (c.fact 0 rfl)
    | 1, h => Option.some.inj h ▸ He.glo_ok X G (c.fact 1 rfl)
    | 2, h => Option.some.inj h ▸ He.glo_ok X G (c.fact 2 rfl)
    | 3, h => Option.some.inj h ▸ He.glo_ok X G (c.fact 3 rfl)
    | 4, h => Option.some.inj h ▸ He.glo_ok X G (c.fact 4 rfl)
    | 5, h => Option.some.inj h ▸ He.glo_ok X G (c.fact 5 rfl)
    | 6, h => Option.some.inj h ▸ He.glo_ok X G (c.fact 6 rfl)
    | 7, h => Option.some.inj h ▸ He.glo_ok X G (c.fact 7 rfl)
    | 8, h => Option.some.inj h ▸ He.glo_ok X G (c.fact 8 rfl)
    | 9, h => Option.some.inj h ▸ He.glo_ok X G (c.fact 9 rfl)
    | 10, h => Option.some.inj h ▸ He.glo_ok X G (c.fact 10 rfl)
    | 11, h => Option.some.inj h ▸ He.glo_ok X G (c.fact 11 rfl)
    | 12, h => Option.some.inj h ▸ He.glo_ok X G (c.fact 12 rfl)
    | 13, h => Option.some.inj h ▸ He.glo_ok X G (c.fact 13 rfl)
    | 14, h => Option.some.inj h ▸ He.glo_ok X G (c.fact 14 rfl)
    | 15, h => Option.some.inj h ▸ He.glo_ok X G (c.fact 15 rfl)
    | 16, h => Option.some.inj h ▸ He.glo_ok X G (c.fact 16 rfl)
    | 17, h => Option.some.inj h ▸ He.glo_ok X G (c.fact 17 rfl)
    | 18, h => Option.some.inj h ▸ He.glo_ok X G (c.fact 18 rfl)
    | 19, h => Option.some.inj h ▸ He.glo_ok X G (c.fact 19 rfl)
    | 20, h => Option.some.inj h ▸ He.glo_ok X G (c.fact 20 rfl)
    | 21, h => Option.some.inj h ▸ He.glo_ok X G (c.fact 21 rfl)
    | 22, h => Option.some.inj h ▸ He.glo_ok X G (c.fact 22 rfl)
    | 23, h => Option.some.inj h ▸ He.glo_ok X G (c.fact 23 rfl)
    | 24, h => Option.some.inj h ▸ He.glo_ok X G (c.fact 24 rfl)
    | 25, h => Option.some.inj h ▸ He.glo_ok X G (c.fact 25 rfl)
    | 26, h => Option.some.inj h ▸ He.glo_ok X G (c.fact 26 rfl)
    | (n + 27), h => nomatch (show (none : Option LD) = some l from h)
abbrev hk : PySem.W.Hook := hookL 4 fa fn (fun _ => true)
def ob (s : PySem.W.SharedT) : AlL := obsLG 4 fa fn (fun _ => true) (HandSHeadRun.getT s)
theorem ob_eq (s : PySem.W.SharedT) : ob s = hk.obs s.abs := obsLG_eq (HandSHeadRun.getT_eq s)
def loose0 : List Str := ["__name__", "LaneError", "NoTown", "NoRoad", "NoBeat", "MOST_CROSSINGS", "MOST_ROUND", "MOST_ROADS", "MOST_LONG", "MOST_ROWS", "is_whole", "is_among", "is_row", "are_rising", "is_road_row", "is_turn", "are_lights", "ends_at", "is_town", "need_town", "is_road", "need_road", "turn_at", "green_by", "is_green", "never_by", "never_green", "_law_cell_at", "_law_pen", "_law_draw"]
def loose1 : List Str := ["_law_lights", "_law_town", "_law_shifted", "_law_turned", "_law_green_row", "_law_right"]
def loose : List Str := loose0 ++ loose1
theorem run (w : World) : HandSHeadRun.RunEq (PySem.W.OpenLaw.row PySem.Challenge.rw_lanebeats_k09_whole_lights) (PySem.W.view (PySem.W.OpenLaw.row PySem.Challenge.rw_lanebeats_k09_whole_lights).prog [39]) hk ob 20000 loose w := by
  intro os
  kernel_rfl
theorem facts (hlaw : ∀ ns : List Int, ns.length ≤ 63 → ∃ st', m_law [.lst (ns.map D.int)] [] = .ok (.bl true) st') {P : Program} {w : World} {K : PySem.W.Frag} {h : Heap} {mg : Str → Option Value} {f : Addr} (X : K.In h) (G : h.Ns mainGlobals mg) (hfa : mg ("law" : Str) = some (.ref f)) (c : SaysL fa fn (fun _ => true) K) :
    ∃ (fd : FuncData) (sp : Sp), (∀ (s : Shared) (v : Value), BindsTo s fd ⟨[v], []⟩ [("_law_script", v)]) ∧ (∀ (H : Hp) (a : Addr) (ns : List Int), ns.length ≤ 63 → SqL K H a (ns.map V.int) → sp [.ref a] H (fun v _ => v = .bl true) fun _ _ _ => False) ∧ ∀ base : Heap, FnOk P w K mg base CX0 27 f fd ["_law_script"] sp := by
  have M := mo X G c.d
  have e := hfa.symm.trans (M.gl 26 L_law rfl)
  cases e
  obtain ⟨fd, F⟩ := M.fn 26 L_law rfl
  have b := FunD.bindsA (ps := ["_law_script"]) F fun _ _ _ _ _ _ us hl => match us, hl with | [_], _ => rfl
  refine ⟨fd, fun vs H Q _ => spD K mg 1 m_law vs H Q (fun _ _ _ => False), fun s v => b s [v] rfl, fun H a ns hl hS => law_sp (mg := mg) (F := m_law) c.n.1 (Nat.le_trans hl (by decide)) hS (hlaw ns hl), fun base => ?_⟩
  obtain ⟨fd', F', ok⟩ := all_fn (P := P) (w := w) (base := base) M okAll 26 L_law rfl
  have e2 : fd' = fd := fd_eq F' F
  subst e2
  exact law_fn ok
end Lb

set_option maxRecDepth 100000
set_option maxHeartbeats 1000000
namespace Lb
open PySem L2
def isW : D → Bool
  | .int _ => true
  | _ => false
def amD (d : D) (lo hi : Int) : Bool := match d with
  | .int i => decide (lo ≤ i) && decide (i ≤ hi)
  | _ => false
def rowD (d : D) (lo hi : Int) : Bool := match d with
  | .tup xs => decide (lo ≤ (xs.length : Int)) && decide ((xs.length : Int) ≤ hi)
  | _ => false
theorem s_is_whole (d : D) (st : Sto) : m_is_whole [d] st = .ok (.bl (isW d)) st := by
  cases d <;> simp [m_is_whole, runFn, b_is_whole, isTy, isW]
theorem s_is_among (d : D) (lo hi : Int) (st : Sto) : m_is_among [d, .int lo, .int hi] st = .ok (.bl (amD d lo hi)) st := by
  cases d <;> simp [m_is_among, runFn, b_is_among, s_is_whole, isW, amD]
theorem s_is_row (d : D) (lo hi : Int) (st : Sto) : m_is_row [d, .int lo, .int hi] st = .ok (.bl (rowD d lo hi)) st := by
  cases d <;> simp [m_is_row, runFn, b_is_row, isTy, rowD]
/-- thing: three whole numbers -/
def roadRow (d : D) (n : Int) : Bool := match d with
  | .tup [a, b, l] => amD l 1 5 && (amD a 0 (n - 1) && amD b 0 (n - 1))
  | _ => false
theorem rowD_len {d : D} {lo hi : Int} (h : rowD d lo hi = true) : ∃ xs, d = .tup xs ∧ lo ≤ (xs.length : Int) ∧ (xs.length : Int) ≤ hi := by
  cases d <;> simp [rowD] at h
  exact ⟨_, rfl, h⟩
theorem s_is_road_row (d : D) (n : Int) (st : Sto) : m_is_road_row [d, .int n] st = .ok (.bl (roadRow d n)) st := by
  by_cases h : rowD d 3 3 = true
  · obtain ⟨xs, rfl, h1, h2⟩ := rowD_len h
    have h3 : xs.length = 3 := by omega
    match xs, h3 with
    | [a, b, l], _ =>
      cases hl : amD l 1 5 with
      | false => simp [m_is_road_row, runFn, b_is_road_row, s_is_row, rowD, s_is_among, atI, ixN, hl, roadRow]
      | true =>
        simp [m_is_road_row, runFn, b_is_road_row, s_is_row, rowD, s_is_among, atI, ixN, hl, roadRow]
        rw [ev_lcM (xs := [a, b]) (env := [some (D.tup [a, b, l]), some (D.int n), none]) (st := st) (fun x => D.bl (amD x 0 (n - 1)))]
        · simp [allR, bls]
        · simp; rfl
        · intro x hx
          rw [lcBody_eq _ _ _ _ _ _ _ _ rfl]
          simp [s_is_among]
        · exact (by decide : 2 ≤ sizeLine)
  · have hr : roadRow d n = false := by
      cases d <;> try rfl
      rename_i xs
      match xs with
      | [] => rfl
      | [_] => rfl
      | [_, _] => rfl
      | [_, _, _] => simp [rowD] at h
      | _ :: _ :: _ :: _ :: _ => rfl
    simp [m_is_road_row, runFn, b_is_road_row, s_is_row, h, hr]
end Lb

set_option maxRecDepth 100000
set_option maxHeartbeats 1000000
namespace Lb
open PySem L2
def riseI (ns : List Int) : Bool := (ns.zip (ns.drop 1)).all fun p => decide (p.1 < p.2)
theorem s_are_rising (ns : List Int) (st : Sto) (hl : ns.length ≤ 1000) : m_are_rising [.tup (ns.map D.int)] st = .ok (.bl (riseI ns)) st := by
  simp [m_are_rising, runFn, b_are_rising]
  rw [ev_lcY (β := Int × Int) (env := [some (D.tup (ns.map D.int)), none, none]) (st := st) (ns.zip (ns.drop 1)) (fun p => .tup [.int p.1, .int p.2]) (fun p => .bl (decide (p.1 < p.2)))]
  · simp [allR_Y, riseI]
  · have := cutL_lo (ns.map D.int) 1
    simp at this
    simp [this]
    rw [← List.map_tail, zipL_map]
  · intro p hp
    rw [lcBody_eq _ _ _ _ _ _ _ _ rfl]
    simp
  · have := List.length_zip (l₁ := ns) (l₂ := ns.drop 1)
    exact Nat.le_trans (by omega) line1000
/-- a town -/
structure Tw where
  n : Int
  c : Int
  roads : List (Int × Int × Int)
  lights : List (Option (Int × List (Int × List Int)))
def roadT (r : Int × Int × Int) : D := .tup [.int r.1, .int r.2.1, .int r.2.2]
def rowT (r : Int × List Int) : D := .tup [.int r.1, .tup (r.2.map D.int)]
def lightT : Option (Int × List (Int × List Int)) → D
  | none => .non
  | some l => .tup [.int l.1, .tup (l.2.map rowT)]
def Tw.D (t : Tw) : D := .tup [.int t.n, .int t.c, .tup (t.roads.map roadT), .tup (t.lights.map lightT)]
/-- the roads that end at k -/
def endsI (roads : List (Int × Int × Int)) (k : Int) : List Int := ((enumI 0 roads).filter fun p => decide (p.2.2.1 = k)).map fun p => (p.1 : Int)
structure OkL (t : Tw) (k : Int) (l : Int × List (Int × List Int)) : Prop where
  s : 0 ≤ l.1 ∧ l.1 < t.c
  rows : 1 ≤ l.2.length ∧ l.2.length ≤ 4
  row : ∀ r ∈ l.2, 1 ≤ r.1 ∧ r.1 ≤ 12 ∧ riseI r.2 = true ∧ r.2.length ≤ 10 ∧ ∀ g ∈ r.2, g ∈ endsI t.roads k
  sum : (l.2.map (·.1)).sum = t.c
structure Ok (t : Tw) : Prop where
  n : 1 ≤ t.n ∧ t.n ≤ 6
  c : 1 ≤ t.c ∧ t.c ≤ 12
  roads : 1 ≤ t.roads.length ∧ t.roads.length ≤ 10
  road : ∀ r ∈ t.roads, (0 ≤ r.1 ∧ r.1 < t.n) ∧ (0 ≤ r.2.1 ∧ r.2.1 < t.n) ∧ 1 ≤ r.2.2 ∧ r.2.2 ≤ 5
  lights : (t.lights.length : Int) = t.n
  light : ∀ (k : Nat) l, t.lights[k]? = some (some l) → OkL t k l
theorem s_ends_at (roads : List (Int × Int × Int)) (k : Int) (st : Sto) (hl : roads.length ≤ 1000) : m_ends_at [.tup (roads.map roadT), .int k] st = .ok (.lst ((endsI roads k).map D.int)) st := by
  simp [m_ends_at, runFn, b_ends_at]
  rw [ev_lcF (β := Nat × (Int × Int × Int)) (env := [some (D.tup (roads.map roadT)), some (D.int k), none, none, none, none]) (st := st) (enumI 0 roads) (fun p => .tup [.int p.1, roadT p.2]) (fun p => decide (p.2.2.1 = k)) (fun p => .int p.1)]
  · simp [endsI]
  · simp [enumL_map]
  · intro p hp
    rw [lcBody_eq _ _ _ _ _ _ _ _ rfl]
    simp [eqR]
  · rw [enumI_len]; exact Nat.le_trans hl line1000
theorem contains_iff {ns : List Int} {g : Int} : ns.contains g = true ↔ g ∈ ns := List.contains_iff_mem
theorem s_is_turn (r : Int × List Int) (es : List Int) (st : Sto) (h1 : 1 ≤ r.1 ∧ r.1 ≤ 12) (h2 : riseI r.2 = true) (h3 : r.2.length ≤ 10) (h4 : ∀ g ∈ r.2, g ∈ es) : m_is_turn [rowT r, .lst (es.map D.int)] st = .ok (.bl true) st := by
  have ha : amD (.int r.1) 1 12 = true := by simp [amD, h1]
  simp [m_is_turn, runFn, b_is_turn, rowT, s_is_row, rowD, s_is_among, atI, ixN, ha, isTy]
  rw [ev_lcY (β := Int) (env := [some (D.tup [.int r.1, .tup (r.2.map D.int)]), some (D.lst (es.map D.int)), none]) (st := st) r.2 D.int (fun g => .bl (hasI es g))]
  · simp [allR_Y, s_are_rising _ _ (Nat.le_trans h3 (by decide)), h2, atI, ixN]
    intro g hg
    exact hasI_iff.mpr (h4 g hg)
  · simp [atI, ixN]
  · intro g hg
    rw [lcBody_eq _ _ _ _ _ _ _ _ rfl]
    simp [s_is_whole, isW, inR_ints]
  · exact Nat.le_trans h3 (by decide)
theorem s_are_lights (t : Tw) (k : Int) (o : Option (Int × List (Int × List Int))) (st : Sto) (hc : t.c ≤ 12) (h : ∀ l, o = some l → OkL t k l) : m_are_lights [lightT o, .int t.c, .lst ((endsI t.roads k).map D.int)] st = .ok (.bl true) st := by
  cases o with
  | none => simp [m_are_lights, runFn, b_are_lights, lightT]
  | some l =>
    have ok := h l rfl
    have ha : amD (.int l.1) 0 (t.c - 1) = true := by simp [amD]; have := ok.s; omega
    have hr : rowD (.tup (l.2.map rowT)) 1 4 = true := by simp [rowD]; have := ok.rows; omega
    simp [m_are_lights, runFn, b_are_lights, lightT, s_is_row, rowD, s_is_among, atI, ixN, ha]
    rw [if_neg (by have := ok.rows; omega)]
    rw [ev_lcY (β := Int × List Int) (env := [some (D.tup [.int l.1, .tup (l.2.map rowT)]), some (D.int t.c), some (D.lst ((endsI t.roads k).map D.int)), none, none, none]) (st := st) l.2 rowT (fun _ => .bl true)]
    · simp [allR_Y (fun _ : Int × List Int => true), thenS]
      rw [ev_lcY (β := Int × List Int) (env := [some (D.tup [.int l.1, .tup (l.2.map rowT)]), some (D.int t.c), some (D.lst ((endsI t.roads k).map D.int)), none, none, none]) (st := st) l.2 rowT (fun r => .int r.1)]
      · simp [sumR_Y, ok.sum, eqR]
      · simp [atI, ixN]
      · intro r hr
        rw [lcBody_eq _ _ _ _ _ _ _ _ rfl]
        simp
      · exact Nat.le_trans ok.rows.2 (by decide)
    · simp [atI, ixN]
    · intro r hr
      obtain ⟨q1, q2, q3, q4, q5⟩ := ok.row r hr
      rw [lcBody_eq _ _ _ _ _ _ _ _ rfl]
      simp [s_is_turn r _ _ ⟨q1, q2⟩ q3 q4 q5]
    · exact Nat.le_trans ok.rows.2 (by decide)
end Lb

set_option maxRecDepth 100000
set_option maxHeartbeats 1000000
namespace Lb
open PySem L2
theorem s_is_town (t : Tw) (ok : Ok t) (st : Sto) : m_is_town [t.D] st = .ok (.bl true) st := by
  have hn : amD (.int t.n) 1 6 = true := by simp [amD]; exact ok.n
  have hc : amD (.int t.c) 1 12 = true := by simp [amD]; exact ok.c
  simp [m_is_town, runFn, b_is_town, Tw.D, s_is_row, rowD, s_is_among, atI, ixN, hn, hc]
  rw [if_neg (by have := ok.roads; omega)]
  rw [ev_lcY (β := Int × Int × Int) (env := [some t.D, some (.int t.n), some (.int t.c), some (.tup (t.roads.map roadT)), some (.tup (t.lights.map lightT)), none, none, none]) (st := st) t.roads roadT (fun _ => .bl true)]
  · simp [allR_Y (fun _ : Int × Int × Int => true), thenS, s_is_row, rowD, ok.lights]
    rw [ev_lcY (β := Nat × Option (Int × List (Int × List Int))) (env := [some t.D, some (.int t.n), some (.int t.c), some (.tup (t.roads.map roadT)), some (.tup (t.lights.map lightT)), none, none, none]) (st := st) (enumI 0 t.lights) (fun p => .tup [.int p.1, lightT p.2]) (fun _ => .bl true)]
    · simp [allR_Y (fun _ : Nat × Option (Int × List (Int × List Int)) => true)]
    · simp [enumL_map]
    · intro p hp
      rw [lcBody_eq _ _ _ _ _ _ _ _ rfl]
      have h2 := (enumI_mem.mp hp).2
      simp only [Nat.sub_zero] at h2
      simp [s_ends_at _ _ _ (Nat.le_trans ok.roads.2 (by decide)), s_are_lights t p.1 p.2 st ok.c.2 fun l e => ok.light p.1 l (by rw [h2, e])]
    · rw [enumI_len]
      have := ok.lights
      have := ok.n
      exact Nat.le_trans (show t.lights.length ≤ 1000 by omega) line1000
  · simp [Tw.D]
  · intro r hr
    rw [lcBody_eq _ _ _ _ _ _ _ _ rfl]
    obtain ⟨h1, h2, h3⟩ := ok.road r hr
    have : roadRow (roadT r) t.n = true := by
      simp [roadRow, roadT, amD]
      omega
    simp [s_is_road_row, this]
  · exact Nat.le_trans ok.roads.2 (by decide)
end Lb

set_option maxRecDepth 100000
set_option maxHeartbeats 1000000
namespace Lb
open PySem L2
theorem s_need_town (t : Tw) (ok : Ok t) (st : Sto) : m_need_town [t.D] st = .ok .non st := by
  simp [m_need_town, runFn, b_need_town, s_is_town t ok]
theorem s_is_road (t : Tw) (i : Nat) (hi : i < t.roads.length) (st : Sto) : m_is_road [t.D, .int i] st = .ok (.bl true) st := by
  simp [m_is_road, runFn, b_is_road, Tw.D, atI, ixN, s_is_among, amD]
  omega
theorem s_need_road (t : Tw) (i : Nat) (hi : i < t.roads.length) (st : Sto) : m_need_road [t.D, .int i] st = .ok .non st := by
  simp [m_need_road, runFn, b_need_road, s_is_road t i hi]
/-- the turn that stands at rest -/
def turnI : Int → List (Int × List Int) → List Int
  | _, [] => []
  | rest, (b, g) :: r => if rest < b then g else turnI (rest - b) r
theorem s_turn_at (t : Tw) (l : Int × List (Int × List Int)) (beat : Int) (st : Sto) (hc : 0 < t.c) : m_turn_at [t.D, lightT (some l), .int beat] st = .ok (.tup ((turnI ((beat - l.1) % t.c) l.2).map D.int)) st := by
  refine wp_eq ?_
  rw [r_turn_at _ _ _ rfl]
  simp [b_turn_at, lightT, Tw.D, atI, ixN, prim_mod, hc]
  refine wp_for ?_
  simp
  refine wp_forAll (fun r s => ∃ rest rows, r = rows.map rowT ∧ s = ⟨[_, _, _, _, _, some (.int rest), none, none], st⟩ ∧ turnI rest rows = turnI ((beat - l.1) % t.c) l.2) ?_ ?_ _ _ ⟨_, _, rfl, rfl, rfl⟩
  · rintro J hJ x r s ⟨rest, rows, hr, rfl, h⟩
    match rows, hr with
    | (k, g) :: rows, hr =>
      cases hr
      refine wp_forB (by simp [rowT]; rfl) ?_
      simp
      by_cases hk : rest < k
      · simp [hk, turnI] at h ⊢
        simp [h]
      · simp [hk, turnI] at h ⊢
        subst hJ
        exact ⟨_, rows, rfl, rfl, h⟩
  · rintro s ⟨rest, rows, hr, rfl, h⟩
    match rows, hr with
    | [], hr => simp [turnI] at h ⊢; exact h
/-- the lights at the end of the road i -/
def lightAt (t : Tw) (i : Nat) : Option (Option (Int × List (Int × List Int))) := (t.roads[i]?).bind fun r => t.lights[r.2.1.toNat]?
theorem lightAt_some (t : Tw) (ok : Ok t) (i : Nat) (hi : i < t.roads.length) : ∃ r o, t.roads[i]? = some r ∧ 0 ≤ r.2.1 ∧ t.lights[r.2.1.toNat]? = some o ∧ lightAt t i = some o ∧ ∀ l, o = some l → OkL t r.2.1 l := by
  have h1 : t.roads[i]? = some t.roads[i] := List.getElem?_eq_getElem hi
  obtain ⟨_, h2, _⟩ := ok.road _ (List.getElem_mem hi)
  have hl := ok.lights
  have hk : (t.roads[i]).2.1.toNat < t.lights.length := by omega
  refine ⟨_, _, h1, h2.1, List.getElem?_eq_getElem hk, by unfold lightAt; rw [h1]; exact List.getElem?_eq_getElem hk, fun l e => ?_⟩
  have := ok.light (t.roads[i]).2.1.toNat l (by rw [List.getElem?_eq_getElem hk, e])
  rwa [Int.toNat_of_nonneg h2.1] at this
def greenI (t : Tw) (i : Nat) (beat : Int) : Bool := match lightAt t i with
  | some (some l) => hasI (turnI ((beat - l.1) % t.c) l.2) (i : Int)
  | _ => true
theorem s_green_by (t : Tw) (ok : Ok t) (i : Nat) (hi : i < t.roads.length) (beat : Int) (st : Sto) : m_green_by [t.D, .int i, .int beat] st = .ok (.bl (greenI t i beat)) st := by
  obtain ⟨r, o, h1, h2, h3, h4, h5⟩ := lightAt_some t ok i hi
  have hc : 0 < t.c := by have := ok.c; omega
  have e1 : atI (t.roads.map roadT) (i : Int) = some (roadT r) := by rw [atN, List.getElem?_map, h1]; rfl
  have e2 : atI (t.lights.map lightT) r.2.1 = some (lightT o) := by rw [atI_int _ _ h2, List.getElem?_map, h3]; rfl
  have e3 : atI [D.int t.n, D.int t.c, D.tup (t.roads.map roadT), D.tup (t.lights.map lightT)] 3 = some (D.tup (t.lights.map lightT)) := rfl
  have e4 : atI [D.int t.n, D.int t.c, D.tup (t.roads.map roadT), D.tup (t.lights.map lightT)] 2 = some (D.tup (t.roads.map roadT)) := rfl
  have e5 : atI [D.int r.1, D.int r.2.1, D.int r.2.2] 1 = some (D.int r.2.1) := rfl
  cases o with
  | none =>
    simp [m_green_by, runFn, b_green_by, Tw.D, e1, e2, e3, e4, e5, roadT, greenI, h4, lightT]
  | some l =>
    have ht := s_turn_at t l beat st hc
    simp [lightT, Tw.D] at ht
    simp [m_green_by, runFn, b_green_by, Tw.D, e1, e2, e3, e4, e5, roadT, greenI, h4, lightT, ht, inR_ints]
theorem s_is_green (t : Tw) (ok : Ok t) (i : Nat) (hi : i < t.roads.length) (beat : Int) (hb : 0 ≤ beat) (st : Sto) : m_is_green [t.D, .int i, .int beat] st = .ok (.bl (greenI t i beat)) st := by
  simp [m_is_green, runFn, b_is_green, s_need_town t ok, s_need_road t i hi, s_is_whole, isW, s_green_by t ok i hi, show ¬ beat < 0 by omega]
def neverB (t : Tw) (i : Nat) : Bool := match lightAt t i with
  | some (some l) => !(l.2.any fun r => hasI r.2 (i : Int))
  | _ => false
def neverI (t : Tw) : List Int := ((List.range t.roads.length).filter (neverB t)).map fun (i : Nat) => (i : Int)
theorem s_never_by (t : Tw) (ok : Ok t) (st : Sto) : m_never_by [t.D] st = .ok (.tup ((neverI t).map D.int)) st := by
  refine wp_eq ?_
  rw [r_never_by _ _ _ rfl]
  simp [b_never_by]
  refine wp_for ?_
  have hl : t.roads.length ≤ 1000 := Nat.le_trans ok.roads.2 (by decide)
  simp [Tw.D, atI, ixN, items_nat _ hl]
  refine wp_forY _ _ (fun pre s => s = ⟨[_, some (.lst ((pre.filter (neverB t)).map fun (i : Nat) => D.int (i : Int))), none, none, none, none], st⟩) rfl ?_ ?_
  · rintro J hJ pre i post s e rfl
    have hi : i < t.roads.length := List.mem_range.mp (e ▸ List.mem_append_right _ List.mem_cons_self)
    have hz : (List.filter (neverB t) pre).length < sizeLine := by
      refine lt_line (Nat.lt_of_le_of_lt (List.length_filter_le ..) ?_)
      have := congrArg List.length e
      simp at this
      omega
    obtain ⟨r, o, h1, h2, h3, h4, h5⟩ := lightAt_some t ok i hi
    have e1 : atI (t.roads.map roadT) (i : Int) = some (roadT r) := by rw [atN, List.getElem?_map, h1]; rfl
    have e2 : atI (t.lights.map lightT) r.2.1 = some (lightT o) := by rw [atI_int _ _ h2, List.getElem?_map, h3]; rfl
    have e3 : atI [D.int t.n, D.int t.c, D.tup (t.roads.map roadT), D.tup (t.lights.map lightT)] 3 = some (D.tup (t.lights.map lightT)) := rfl
    have e4 : atI [D.int t.n, D.int t.c, D.tup (t.roads.map roadT), D.tup (t.lights.map lightT)] 2 = some (D.tup (t.roads.map roadT)) := rfl
    have e5 : atI [D.int r.1, D.int r.2.1, D.int r.2.2] 1 = some (D.int r.2.1) := rfl
    refine wp_forB rfl ?_
    simp [e1, e2, e3, e4, e5, roadT]
    cases o with
    | none =>
      have hn : neverB t i = false := by simp [neverB, h4]
      simp [lightT]
      subst hJ
      simp [hn]
    | some l =>
      simp [lightT]
      refine wp_lcM l.2 rowT (fun r => .bl (hasI r.2 (i : Int))) (by simp [atI, ixN]) (Nat.le_trans (h5 l rfl).rows.2 (by decide)) ?_ ?_
      · intro r hr
        refine wp_lcB rfl ?_
        simp [inR_ints]
      · cases hn : neverB t i with
        | false =>
          have hn' : (l.2.any fun r => hasI r.2 (i : Int)) = true := by simpa [neverB, h4] using hn
          simp [anyR_Y, hn']
          subst hJ
          simp [hn]
        | true =>
          have hn' : (l.2.any fun r => hasI r.2 (i : Int)) = false := by simpa [neverB, h4] using hn
          simp [anyR_Y, hn']
          refine wp_app ?_
          simp [lstAt, hz]
          subst hJ
          simp [hn]
  · rintro s rfl
    simp [neverI]
theorem s_never_green (t : Tw) (ok : Ok t) (st : Sto) : m_never_green [t.D] st = .ok (.tup ((neverI t).map D.int)) st := by
  simp [m_never_green, runFn, b_never_green, s_need_town t ok, s_never_by t ok]
end Lb

set_option maxRecDepth 100000
set_option maxHeartbeats 1000000
namespace Lb
open PySem L2
/-! ### the pen -/
/-- the n-th thing of the store is a pen that was asked at most B times in vain -/
def Pen (st : Sto) (n : Nat) (B : Int) : Prop := ∃ a b c : Int, st[n]? = some [.int a, .int b, .int c] ∧ 0 ≤ a ∧ 0 ≤ b ∧ b < 1000000007 ∧ 0 ≤ c ∧ c ≤ B
theorem Pen.le {st : Sto} {n : Nat} {B B' : Int} (p : Pen st n B) (h : B ≤ B') : Pen st n B' := by
  obtain ⟨a, b, c, h1, h2, h3, h4, h5, h6⟩ := p
  exact ⟨a, b, c, h1, h2, h3, h4, h5, by omega⟩
theorem st_set {st : Sto} {n : Nat} {xs ys : List D} (h : st[n]? = some xs) : (st.set n ys)[n]? = some ys := by
  rw [List.getElem?_set_self (List.getElem?_eq_some_iff.mp h).1]
theorem s_draw (st : Sto) (n : Nat) (B m : Int) (p : Pen st n B) (hB : B ≤ 1000000000) (hm : 0 < m) (hm2 : m < 1073741824) :
    ∃ r st', m_l_draw [.ref n, .int m] st = .ok (.int r) st' ∧ 0 ≤ r ∧ r < m ∧ Pen st' n (B + 1) := by
  obtain ⟨a, b, c, h1, h2, h3, h4, h5, h6⟩ := p
  by_cases ha : 0 < a
  · refine ⟨a % m, st.set n [.int (a / m), .int b, .int c], ?_, Int.emod_nonneg _ (by omega), Int.emod_lt_of_pos _ hm, ⟨a / m, b, c, st_set h1, Int.ediv_nonneg h2 (by omega), h3, h4, h5, by omega⟩⟩
    simp [m_l_draw, runFn, b_l_draw, h1, atI, ixN, ha, prim_mod, prim_fdiv, hm, hm2, exs_setR, setL]
  · have hbig : big = 18446744073709551616 := by decide
    have x0 : ∀ k : Int, 0 ≤ k % 2147483647 ∧ k % 2147483647 < 2147483647 := fun k => ⟨Int.emod_nonneg _ (by omega), Int.emod_lt_of_pos _ (by omega)⟩
    have x1 : ∀ k : Int, 0 ≤ k % 2147483629 ∧ k % 2147483629 < 2147483629 := fun k => ⟨Int.emod_nonneg _ (by omega), Int.emod_lt_of_pos _ (by omega)⟩
    generalize hs1 : (b + 17 * (c + 1)) * (69621 + 2 * (c + 1)) % 2147483647 = s1
    generalize hs2 : (s1 * s1 + 40503 * (c + 1) + 5) % 2147483629 = s2
    have q1 := x0 ((b + 17 * (c + 1)) * (69621 + 2 * (c + 1)))
    rw [hs1] at q1
    have q2 := x1 (s1 * s1 + 40503 * (c + 1) + 5)
    rw [hs2] at q2
    refine ⟨s2 * 48271 % 2147483647 / 32 % m, st.set n [.int a, .int b, .int (c + 1)], ?_, Int.emod_nonneg _ (by omega), Int.emod_lt_of_pos _ hm, ⟨a, b, c + 1, st_set h1, h2, h3, h4, by omega, by omega⟩⟩
    have y1 : (-big < b + 17 * (c + 1) ∧ b + 17 * (c + 1) < big) := by rw [hbig]; omega
    have y2 : (-big < s1 ∧ s1 < big) := by rw [hbig]; omega
    have y3 : (-big < s2 ∧ s2 < big) := by rw [hbig]; omega
    have y4 : (-big < (17 : Int) ∧ (17 : Int) < big) := by rw [hbig]; omega
    have y5 : (-big < (2 : Int) ∧ (2 : Int) < big) := by rw [hbig]; omega
    have y6 : (-big < (40503 : Int) ∧ (40503 : Int) < big) := by rw [hbig]; omega
    simp [m_l_draw, runFn, b_l_draw, h1, atI, ixN, ha, prim_mod, prim_fdiv, prim_mul, hm, exs_setR, setL, st_set h1, y1, y2, y3, y4, y5, y6, hs1, hs2]
/-- a draw -/
theorem w_draw {st : Sto} {n : Nat} {m : Int} {Q : D → Sto → Prop} (B : Int) (p : Pen st n B) (hB : B ≤ 1000000000) (hm : 0 < m) (hm2 : m < 1073741824) (h : ∀ r st', 0 ≤ r → r < m → Pen st' n (B + 1) → Q (.int r) st') : wp (m_l_draw [.ref n, .int m] st) Q := by
  obtain ⟨r, st', e, r1, r2, p'⟩ := s_draw st n B m p hB hm hm2
  exact wp_of e (h r st' r1 r2 p')
theorem w_cell_at {ns : List Int} {k : Nat} {st : Sto} {Q : D → Sto → Prop} (h : ∀ v : Int, Q (.int v) st) : wp (m_l_cell_at [.lst (ns.map D.int), .int k] st) Q := by
  rw [r_l_cell_at _ _ _ rfl]
  by_cases hk : k < ns.length
  · have e : atI (ns.map D.int) (k : Int) = some (.int ns[k]) := by rw [atN, List.getElem?_map, List.getElem?_eq_getElem hk]; rfl
    simp [b_l_cell_at, hk, e, h]
  · simp [b_l_cell_at, hk, h]
theorem w_pen {v : Int} {st : Sto} {Q : D → Sto → Prop} (h : ∀ st', Pen st' st.length 0 → Q (.ref st.length) st') : wp (m_l_pen [.int v] st) Q := by
  have e : m_l_pen [.int v] st = .ok (.ref st.length) (st ++ [[.int (if 1000000000000000000 < v then v - 1000000000000000000 else 0), .int (v % 1000000007), .int 0]]) := by
    simp [m_l_pen, runFn, b_l_pen, prim_pow, prim_mod]
  refine wp_of e (h _ ⟨(if 1000000000000000000 < v then v - 1000000000000000000 else 0), v % 1000000007, 0, by simp, ?_, Int.emod_nonneg _ (by omega), Int.emod_lt_of_pos _ (by omega), Int.le_refl _, Int.le_refl _⟩)
  split <;> omega
/-! ### rising lists -/
theorem riseI_iff : ∀ {ns : List Int}, riseI ns = true ↔ ns.Pairwise (· < ·)
  | [] => by simp [riseI]
  | [a] => by simp [riseI]
  | a :: b :: r => by
    have ih := riseI_iff (ns := b :: r)
    have e : riseI (a :: b :: r) = (decide (a < b) && riseI (b :: r)) := by simp [riseI]
    rw [e, Bool.and_eq_true, ih, decide_eq_true_eq, List.pairwise_cons (a := a)]
    constructor
    · rintro ⟨h1, h2⟩
      refine ⟨fun x hx => ?_, h2⟩
      rcases List.mem_cons.mp hx with q | q
      · rw [q]; exact h1
      · exact Int.lt_trans h1 ((List.pairwise_cons.mp h2).1 x q)
    · rintro ⟨h1, h2⟩
      exact ⟨h1 b List.mem_cons_self, h2⟩
theorem rise_sub {gs ns : List Int} (h : gs.Sublist ns) (hr : riseI ns = true) : riseI gs = true := riseI_iff.mpr ((riseI_iff.mp hr).sublist h)
theorem enumI_rise {β : Type} : ∀ (xs : List β) (i : Nat), ((enumI i xs).map fun p => (p.1 : Int)).Pairwise (· < ·)
  | [], _ => by simp [enumI]
  | x :: xs, i => by
    rw [enumI, List.map_cons, List.pairwise_cons]
    refine ⟨fun y hy => ?_, enumI_rise xs (i + 1)⟩
    obtain ⟨p, hp, rfl⟩ := List.mem_map.mp hy
    have := (enumI_mem.mp hp).1
    show (i : Int) < (p.1 : Int)
    omega
theorem ends_rise (roads : List (Int × Int × Int)) (k : Int) : riseI (endsI roads k) = true := by
  rw [riseI_iff]
  exact (enumI_rise roads 0).sublist (List.Sublist.map _ List.filter_sublist)
theorem ends_len (roads : List (Int × Int × Int)) (k : Int) : (endsI roads k).length ≤ roads.length := by
  unfold endsI
  rw [List.length_map]
  exact Nat.le_trans (List.length_filter_le ..) (Nat.le_of_eq (enumI_len roads 0))
/-! ### lights are drawn -/
structure LI (n : Nat) (B c : Int) (es : List Int) (m : Nat) (rows : List (Int × List Int)) (left : Int) (st : Sto) : Prop where
  m : left ≤ m
  z : 0 ≤ left
  lc : left ≤ c
  t : 0 < left → rows.length ≤ 3
  f : rows.length ≤ 4
  e : left = 0 → rows.length ≠ 0
  p : Pen st n (B + 1 + 12 * (c - left))
  s : (rows.map (·.1)).sum = c - left
  r : ∀ r ∈ rows, 1 ≤ r.1 ∧ r.1 ≤ c ∧ r.2.Sublist es
theorem w_lights {n : Nat} {roads : List (Int × Int × Int)} {k c : Int} {st : Sto} {Q : D → Sto → Prop} (B : Int) (p : Pen st n B) (hB : B ≤ 1000000) (hc : 1 ≤ c ∧ c ≤ 12) (hr : roads.length ≤ 10)
    (h : ∀ (o : Option (Int × List (Int × List Int))) (st' : Sto), Pen st' n (B + 200) → (∀ l, o = some l → OkL ⟨0, c, roads, []⟩ k l) → Q (lightT o) st') : wp (m_l_lights [.ref n, .lst (roads.map roadT), .int k, .int c] st) Q := by
  rw [r_l_lights _ _ _ rfl]
  simp [b_l_lights]
  refine w_draw B p (by omega) (by omega) (by omega) fun r0 st1 r1 r2 p1 => ?_
  simp
  by_cases hz : r0 < 2
  · simp [hz]
    exact h none st1 (p1.le (by omega)) fun l e => by cases e
  · simp [hz]
    refine wp_lcF (enumI 0 roads) (fun p => .tup [.int p.1, roadT p.2]) (fun p => decide (p.2.2.1 = k)) (fun p => .int p.1) (by simp [enumL_map]) (by rw [enumI_len]; omega) ?_ ?_
    · intro p hp
      refine wp_lcB rfl ?_
      by_cases hk : p.2.2.1 = k <;> simp [roadT, atI, ixN, eqR, hk]
    have e3 : ((enumI 0 roads).filter fun p => decide (p.2.2.1 = k)).map (fun p => D.int (p.1 : Int)) = (endsI roads k).map D.int := by unfold endsI; rw [List.map_map]; rfl
    rw [e3]
    have hns : (endsI roads k).length ≤ 10 := Nat.le_trans (ends_len roads k) hr
    simp [setVs]
    refine wp_wh ?_
    refine wp_while (fun m s => ∃ (rows : List (Int × List Int)) (left : Int) (st : Sto), s = ⟨[_, _, _, _, some (.lst ((endsI roads k).map D.int)), some (.lst (rows.map rowT)), some (.int left), none, none, none, none], st⟩ ∧ LI n B c (endsI roads k) m rows left st) ?_ 12 ⟨[], c, st1, rfl, by omega, by omega, by omega, by simp, by simp, by omega, by simpa using p1, by simp, by simp⟩ (by decide)
    rintro J hJ m s ⟨rows, left, st2, rfl, hm, h0, hlc, h3, h4, hn, p2, sum2, q2⟩
    refine wp_of (x := decide (0 < left)) (y := ⟨_, st2⟩) (by simp; rfl) ?_
    by_cases hl : 0 < left
    · rw [if_pos (decide_eq_true hl)]
      match m, hm with
      | 0, hm => omega
      | m + 1, hm =>
        refine ⟨m, rfl, ?_⟩
        have hr3 := h3 hl
        have hz : rows.length < sizeLine := lt_line (by omega)
        rw [exs_asg, wp_bind]
        refine wp_cut (fun d st3 => ∃ b : Int, d = .int b ∧ Pen st3 n (B + 1 + 12 * (c - left) + 1) ∧ 1 ≤ b ∧ b ≤ left ∧ (b < left → rows.length < 3)) ?_ ?_
        · by_cases hr : rows.length < 3
          · simp [show (rows.length : Int) < 3 by omega]
            refine w_draw _ p2 (by omega) (by omega) (by omega) fun r st3 r1 r2 p3 => ?_
            simp
            refine ⟨p3, ?_, ?_, fun _ => hr⟩ <;> split <;> omega
          · simp [show ¬ (rows.length : Int) < 3 by omega]
            exact ⟨p2.le (by omega), by omega⟩
        rintro d st3 ⟨b, rfl, p3, b1, b2, b3⟩
        simp
        refine wp_lc ?_
        simp
        refine wp_lcY (endsI roads k) D.int (fun pre ds s => ∃ (gs : List Int) (st : Sto), ds = gs.map D.int ∧ gs.Sublist pre ∧ s = ⟨[_, _, _, _, _, _, _, _, _, _, _], st⟩ ∧ Pen st n (B + 1 + 12 * (c - left) + 1 + pre.length)) ⟨[], st3, rfl, .slnil, rfl, by simpa using p3⟩ ?_ ?_
        · rintro J2 hJ2 pre g post ds s e ⟨gs, st4, rfl, hs, rfl, p4⟩
          have hlen := congrArg List.length e
          simp at hlen
          refine wp_lcB rfl ?_
          simp
          refine w_draw _ p4 (by omega) (by omega) (by omega) fun r st5 r1 r2 p5 => ?_
          by_cases hr : 1 < r
          · simp [hr]
            subst hJ2
            exact ⟨gs ++ [g], st5, by simp, hs.append (List.Sublist.refl _), rfl, p5.le (by simp; omega)⟩
          · simp [hr]
            subst hJ2
            exact ⟨gs, st5, by simp, hs.trans (List.sublist_append_left _ _), rfl, p5.le (by simp; omega)⟩
        rintro ds s ⟨gs, st4, rfl, hs, rfl, p4⟩
        refine ⟨by rw [List.length_map]; exact le_line (Nat.le_trans hs.length_le (by omega)), ?_⟩
        simp
        refine wp_app ?_
        simp [lstAt, hz]
        subst hJ
        refine ⟨rows ++ [(b, gs)], left - b, st4, by simp [rowT], by omega, by omega, by omega, fun q => by have := b3 (by omega); simp; omega, by simp; omega, by simp, p4.le (by omega), by simp [sum2]; omega, fun r hr => ?_⟩
        rcases List.mem_append.mp hr with q | q
        · exact q2 r q
        · rw [List.mem_singleton.mp q]; exact ⟨b1, by show b ≤ c; omega, hs⟩
    · have : left = 0 := by omega
      subst this
      simp
      refine w_draw _ p2 (by omega) (by omega) (by omega) fun r5 st3 s1 s2 p3 => ?_
      refine h (some (r5, rows)) st3 (p3.le (by omega)) fun l e => ?_
      cases e
      refine ⟨⟨s1, s2⟩, ⟨?_, h4⟩, fun r hr' => ?_, by simpa using sum2⟩
      · have := hn rfl
        show 1 ≤ rows.length
        omega
      · obtain ⟨a1, a2, a3⟩ := q2 r hr'
        exact ⟨a1, by omega, rise_sub a3 (ends_rise roads k), Nat.le_trans a3.length_le hns, fun g hg => a3.subset hg⟩
end Lb

set_option maxRecDepth 100000
set_option maxHeartbeats 1000000
namespace Lb
open PySem L2
def RoadOk (n : Int) (r : Int × Int × Int) : Prop := (0 ≤ r.1 ∧ r.1 < n) ∧ (0 ≤ r.2.1 ∧ r.2.1 < n) ∧ 1 ≤ r.2.2 ∧ r.2.2 ≤ 5
theorem pick_circle (r : Int) (h1 : 0 ≤ r) (h2 : r < 6) : ∃ c : Int, atI [D.int 1, D.int 2, D.int 3, D.int 4, D.int 6, D.int 12] r = some (.int c) ∧ 1 ≤ c ∧ c ≤ 12 := by
  have : r = 0 ∨ r = 1 ∨ r = 2 ∨ r = 3 ∨ r = 4 ∨ r = 5 := by omega
  rcases this with rfl | rfl | rfl | rfl | rfl | rfl
  · exact ⟨1, rfl, by omega, by omega⟩
  · exact ⟨2, rfl, by omega, by omega⟩
  · exact ⟨3, rfl, by omega, by omega⟩
  · exact ⟨4, rfl, by omega, by omega⟩
  · exact ⟨6, rfl, by omega, by omega⟩
  · exact ⟨12, rfl, by omega, by omega⟩
theorem flats_roads : ∀ (rs : List (Int × Int × Int)) (k : Nat), D.flats (k + 1) (rs.map roadT) = true
  | [], k => rfl
  | r :: rs, k => by
    show (D.flat (k + 1) (roadT r) && D.flats (k + 1) (rs.map roadT)) = true
    rw [flats_roads rs k]
    have : D.flat (k + 1) (roadT r) = D.flats k [.int r.1, .int r.2.1, .int r.2.2] := rfl
    rw [this]
    have := flats_ints [r.1, r.2.1, r.2.2] k
    simp at this
    rw [this]
    rfl
theorem ne_nil (rs : List (Int × Int × Int)) : eqR (.lst (rs.map roadT)) (.lst []) = some rs.isEmpty := by
  have e1 : D.flat 60 (.lst (rs.map roadT)) = true := flats_roads rs 58
  have e2 : D.flat 60 (.lst []) = true := rfl
  show (if (D.flat 60 (.lst (rs.map roadT)) && D.flat 60 (.lst [])) = true then some (D.eqv (.lst (rs.map roadT)) (.lst [])) else none) = _
  rw [e1, e2]
  cases rs with
  | nil => rfl
  | cons r rs => rfl
theorem erase_map {β γ : Type} (f : β → γ) : ∀ (xs : List β) (k : Nat), (xs.map f).eraseIdx k = (xs.eraseIdx k).map f
  | [], _ => rfl
  | x :: xs, 0 => rfl
  | x :: xs, k + 1 => by
    show f x :: (xs.map f).eraseIdx k = _
    rw [erase_map f xs k]; rfl
theorem pop_road (rs : List (Int × Int × Int)) (i : Int) (h1 : 0 ≤ i) (h2 : i < rs.length) : ∃ r, rs[i.toNat]? = some r ∧ popL (rs.map roadT) i = some (roadT r, (rs.eraseIdx i.toNat).map roadT) := by
  have hl : i.toNat < rs.length := by omega
  refine ⟨rs[i.toNat], List.getElem?_eq_getElem hl, ?_⟩
  unfold popL ixN
  rw [if_pos h1, if_pos (by simpa using h2)]
  simp [List.getElem?_eq_getElem hl, erase_map]
theorem okL_of {t : Tw} {c : Int} {roads : List (Int × Int × Int)} {k : Int} {l : Int × List (Int × List Int)} (h : OkL ⟨0, c, roads, []⟩ k l) (hc : t.c = c) (hr : t.roads = roads) : OkL t k l := by
  subst hc; subst hr
  exact ⟨h.s, h.rows, h.row, h.sum⟩
theorem pre_lt {k : Nat} {pre post : List Nat} {x : Nat} (e : List.range k = pre ++ x :: post) : x = pre.length ∧ x < k := by
  have hx : x < k := List.mem_range.mp (e ▸ List.mem_append_right _ List.mem_cons_self)
  have h := congrArg (fun l => l[pre.length]?) e
  simp at h
  have hp : pre.length < k := by
    have := congrArg List.length e
    simp at this; omega
  rw [List.getElem?_range hp] at h
  exact ⟨(Option.some.inj h).symm, hx⟩
theorem wp_pop {Γ : List Fn} {i : Nat} {e : T} {s : S} {Q : D → S → Prop} (h : (∃ xs, lstAt i s = some xs) ∧ wp (ev Γ e s) fun x s1 => ∃ k xs d r, x = .int k ∧ lstAt i s1 = some xs ∧ popL xs k = some (d, r) ∧ Q d (setV i (.lst r) s1)) : wp (ev Γ (.pop i e) s) Q := by
  obtain ⟨⟨xs, h1⟩, h⟩ := h
  rw [ev_pop, wp_bind, wp_opt h1, wp_bind]
  refine wp_mono h fun x s1 ⟨k, xs, d, r, hx, e1, e2, q⟩ => ?_
  subst hx
  rw [e1]
  show wp (match popL xs k with
        | some (d, r) => R.ok d (setV i (.lst r) s1)
        | none => .fail) Q
  rw [e2]
  exact q
structure MI (n : Nat) (B : Int) (q : Int × Int × Int → Prop) (k m : Nat) (left mixed : List (Int × Int × Int)) (st : Sto) : Prop where
  m : left.length = m
  l : left.length + mixed.length = k
  q1 : ∀ r ∈ left, q r
  q2 : ∀ r ∈ mixed, q r
  p : Pen st n (B + mixed.length)
theorem w_town {n : Nat} {st : Sto} {Q : D → Sto → Prop} (B : Int) (p : Pen st n B) (hB : B ≤ 900000) (h : ∀ (t : Tw) (st' : Sto), Ok t → t.n ≤ 4 → Pen st' n (B + 2000) → Q t.D st') : wp (m_l_town [.ref n] st) Q := by
  rw [r_l_town _ _ _ rfl]
  simp [b_l_town]
  refine w_draw B p (by omega) (by omega) (by omega) fun r st1 r1 r2 p1 => ?_
  simp
  refine w_draw _ p1 (by omega) (by omega) (by omega) fun s st2 s1 s2 p2 => ?_
  obtain ⟨c, ec, c1, c2⟩ := pick_circle s s1 s2
  obtain ⟨k, hk⟩ : ∃ k : Nat, 1 + r = (k : Int) := ⟨(1 + r).toNat, by omega⟩
  have hk4 : 1 ≤ k ∧ k ≤ 4 := by omega
  simp [ec, hk, setVs]
  refine wp_lc ?_
  simp [items_nat k (by omega)]
  refine wp_lcY (List.range k) (fun i : Nat => D.int (i : Int)) (fun pre ds s => ∃ (rs : List (Int × Int × Int)) (st : Sto), ds = rs.map roadT ∧ s = ⟨[_, _, _, _, _, _, _, _, _], st⟩ ∧ (∀ r ∈ rs, RoadOk k r) ∧ rs.length = pre.length ∧ Pen st n (B + 1 + 1 + pre.length)) ⟨[], st2, rfl, rfl, by simp, rfl, by simpa using p2⟩ ?_ ?_
  · rintro J hJ pre x post ds s e ⟨rs, st3, rfl, rfl, o3, l3, p3⟩
    obtain ⟨_, hx⟩ := pre_lt e
    refine wp_lcB rfl ?_
    simp [prim_mod, show 0 < k by omega]
    refine w_draw _ p3 (by omega) (by omega) (by omega) fun u st4 u1 u2 p4 => ?_
    simp
    subst hJ
    refine ⟨rs ++ [((x : Int), ((x : Int) + 1) % (k : Int), 1 + u)], st4, by simp [roadT], rfl, fun q hq => ?_, by simp; omega, p4.le (by simp; omega)⟩
    rcases List.mem_append.mp hq with q' | q'
    · exact o3 q q'
    · rw [List.mem_singleton.mp q']
      exact ⟨⟨by show (0 : Int) ≤ x; omega, by show (x : Int) < k; omega⟩, ⟨Int.emod_nonneg _ (by omega), Int.emod_lt_of_pos _ (by omega)⟩, by show 1 ≤ 1 + u; omega, by show 1 + u ≤ 5; omega⟩
  rintro ds s ⟨rs, st3, rfl, rfl, o3, l3, p3⟩
  simp at l3
  refine ⟨by rw [List.length_map]; exact le_line (by omega), ?_⟩
  simp
  refine wp_for ?_
  simp
  refine w_draw _ p3 (by simp; omega) (by omega) (by omega) fun u st4 u1 u2 p4 => ?_
  obtain ⟨w, hw⟩ : ∃ w : Nat, u = (w : Int) := ⟨u.toNat, by omega⟩
  subst hw
  simp [items_nat w (by omega)]
  refine wp_forY (List.range w) (fun i : Nat => D.int (i : Int)) (fun pre s => ∃ (rs : List (Int × Int × Int)) (st : Sto), s = ⟨[_, _, _, some (.lst (rs.map roadT)), _, none, none, none, none], st⟩ ∧ (∀ r ∈ rs, RoadOk k r) ∧ rs.length = k + pre.length ∧ Pen st n (B + 1 + 1 + k + 1 + 3 * pre.length)) ⟨rs, st4, rfl, o3, by simpa using l3, p4.le (by simp)⟩ ?_ ?_
  · rintro J hJ pre x post s e ⟨rs, st5, rfl, o5, l5, p5⟩
    obtain ⟨hp, hx⟩ := pre_lt e
    refine wp_forB rfl (wp_app ?_)
    simp [lstAt]
    refine w_draw _ p5 (by omega) (by omega) (by omega) fun a st6 a1 a2 p6 => ?_
    refine w_draw _ p6 (by omega) (by omega) (by omega) fun b st7 b1 b2 p7 => ?_
    refine w_draw _ p7 (by omega) (by omega) (by omega) fun d st8 d1 d2 p8 => ?_
    simp
    refine ⟨lt_line (by omega), ?_⟩
    subst hJ
    refine ⟨rs ++ [(a, b, 1 + d)], st8, by simp [roadT], fun q hq => ?_, by simp; omega, p8.le (by simp; omega)⟩
    rcases List.mem_append.mp hq with q' | q'
    · exact o5 q q'
    · rw [List.mem_singleton.mp q']
      exact ⟨⟨a1, a2⟩, ⟨b1, b2⟩, by show 1 ≤ 1 + d; omega, by show 1 + d ≤ 5; omega⟩
  rintro s ⟨rs, st5, rfl, o5, l5, p5⟩
  simp at l5
  simp [setVs]
  refine wp_wh ?_
  refine wp_while (fun m s => ∃ (left mixed : List (Int × Int × Int)) (st : Sto), s = ⟨[_, _, _, _, _, none, some (.lst (left.map roadT)), some (.lst (mixed.map roadT)), none], st⟩ ∧ MI n (B + 1 + 1 + k + 1 + 3 * w) (RoadOk k) (k + w) m left mixed st) ?_ (k + w) ⟨rs, [], st5, rfl, l5, by simpa using l5, o5, by simp, by simpa using p5⟩ (Nat.lt_of_lt_of_le (show k + w < 100 by omega) (by decide))
  rintro J hJ m s ⟨left, mixed, st6, rfl, hm, hl, q1, q2, p6⟩
  refine wp_of (x := !left.isEmpty) (y := ⟨_, st6⟩) (by
    simp [ne_nil left]
    rfl) ?_
  cases left with
  | cons x left =>
    simp at hm hl
    rw [if_pos (by rfl)]
    match m, hm with
    | m + 1, hm =>
      refine ⟨m, rfl, wp_app ?_⟩
      refine ⟨⟨mixed.map roadT, by simp [lstAt]⟩, wp_pop ?_⟩
      refine ⟨⟨(x :: left).map roadT, by simp [lstAt]⟩, ?_⟩
      simp only [ev_call, evs_cons, evs_nil, ev_var, ev_prim, wp_bind, getV_eq, List.getElem?_cons_succ, List.getElem?_cons_zero, wp_ok, prim_lenL, opt_some, g_l_town_l_draw, wp_callM]
      refine w_draw _ p6 (by omega) (by simp <;> omega) (by simp; omega) fun a st7 a1 a2 p7 => ?_
      obtain ⟨y, g1, g2⟩ := pop_road (x :: left) a a1 (by simpa using a2)
      have hy : y ∈ x :: left := List.mem_of_getElem? g1
      have hlen : ((x :: left).eraseIdx a.toNat).length = left.length := by rw [List.length_eraseIdx_of_lt (by simp at a2 ⊢; omega)]; simp
      refine ⟨a, _, _, _, rfl, by simp [lstAt], g2, mixed.map roadT, by simp [lstAt], by rw [List.length_map]; exact lt_line (by omega), ?_⟩
      simp
      subst hJ
      refine ⟨(x :: left).eraseIdx a.toNat, mixed ++ [y], st7, by simp, by omega, by simp [hlen]; omega, fun r hr => q1 r (List.mem_of_mem_eraseIdx hr), fun r hr => ?_, p7.le (by simp; omega)⟩
      rcases List.mem_append.mp hr with q' | q'
      · exact q2 r q'
      · rw [List.mem_singleton.mp q']; exact q1 y hy
  | nil =>
    simp at hl
    simp
    refine wp_lc ?_
    simp [items_nat k (by omega)]
    refine wp_lcY (List.range k) (fun i : Nat => D.int (i : Int)) (fun pre ds s => ∃ (os : List (Option (Int × List (Int × List Int)))) (st : Sto), ds = os.map lightT ∧ s = ⟨[_, _, _, _, _, _, _, _, _], st⟩ ∧ (∀ (j : Nat) l, os[j]? = some (some l) → OkL ⟨0, c, mixed, []⟩ j l) ∧ os.length = pre.length ∧ Pen st n (B + 100 + 200 * pre.length)) ⟨[], st6, rfl, rfl, by simp, rfl, p6.le (by simp; omega)⟩ ?_ ?_
    · rintro J2 hJ2 pre x post ds s e ⟨os, st7, rfl, rfl, o7, l7, p7⟩
      obtain ⟨hp, hx⟩ := pre_lt e
      refine wp_lcB rfl ?_
      simp
      refine w_lights _ p7 (by omega) ⟨c1, c2⟩ (by omega) fun o st8 p8 o8 => ?_
      subst hJ2
      refine ⟨os ++ [o], st8, by simp, rfl, fun j l hj => ?_, by simp; omega, p8.le (by simp; omega)⟩
      rw [List.getElem?_append] at hj
      split at hj
      · exact o7 j l hj
      · rename_i hjl
        have : j = os.length := by
          have := (List.getElem?_eq_some_iff.mp hj).1
          simp at this; omega
        subst this
        simp at hj
        have := o8 l hj
        rwa [show x = os.length by omega] at this
    rintro ds s ⟨os, st7, rfl, rfl, o7, l7, p7⟩
    simp at l7
    refine ⟨by rw [List.length_map]; exact le_line (by omega), ?_⟩
    simp
    refine h ⟨k, c, mixed, os⟩ st7 ⟨by show 1 ≤ (k : Int) ∧ (k : Int) ≤ 6; omega, ⟨c1, c2⟩, ⟨by show 1 ≤ mixed.length; omega, by show mixed.length ≤ 10; omega⟩, fun r hr => q2 r hr, by show (os.length : Int) = k; omega, fun j l hj => okL_of (o7 j l hj) rfl rfl⟩ (by show (k : Int) ≤ 4; omega) (p7.le (by simp; omega))
end Lb

set_option maxRecDepth 100000
set_option maxHeartbeats 1000000
/-! lights over a whole circle -/
namespace Lb
open PySem L2
theorem countP_range_const {p : Nat → Bool} {b : Bool} : ∀ n : Nat, (∀ k, k < n → p k = b) → (List.range n).countP p = if b then n else 0
  | 0, _ => by cases b <;> rfl
  | n + 1, h => by
    rw [List.range_succ, List.countP_append, countP_range_const n fun k hk => h k (by omega)]
    have := h n (by omega)
    cases b <;> simp [this]
def rowsSum (i : Int) (rows : List (Int × List Int)) : Int := ((rows.filter fun r => hasI r.2 i).map (·.1)).sum
theorem cnt_rows (i : Int) : ∀ (rows : List (Int × List Int)) (n : Nat), (∀ r ∈ rows, 0 ≤ r.1) → (rows.map (·.1)).sum = n → (((List.range n).countP fun (k : Nat) => hasI (turnI (k : Int) rows) i : Nat) : Int) = rowsSum i rows
  | [], n, _, hn => by
    simp at hn
    have : n = 0 := by omega
    subst this
    rfl
  | (b, g) :: rows, n, h, hn => by
    have hb := h (b, g) List.mem_cons_self
    simp at hb hn
    have hs : 0 ≤ (rows.map (·.1)).sum := by
      have : ∀ l : List (Int × List Int), (∀ r ∈ l, 0 ≤ r.1) → 0 ≤ (l.map (·.1)).sum := fun l => by
        induction l with
        | nil => intro _; simp
        | cons x l ih =>
          intro h
          have h1 := h x List.mem_cons_self
          have h2 := ih fun r hr => h r (List.mem_cons_of_mem _ hr)
          simp
          omega
      exact this rows fun r hr => h r (List.mem_cons_of_mem _ hr)
    obtain ⟨B, rfl⟩ : ∃ B : Nat, b = B := ⟨b.toNat, by omega⟩
    obtain ⟨m, hm⟩ : ∃ m : Nat, n = B + m := ⟨n - B, by omega⟩
    subst hm
    have ih := cnt_rows i rows m (fun r hr => h r (List.mem_cons_of_mem _ hr)) (by omega)
    rw [List.range_add, List.countP_append, List.countP_map]
    rw [countP_range_const (b := hasI g i) B fun k hk => by simp [turnI, hk]]
    have e : (fun k : Nat => hasI (turnI (k : Int) ((↑B, g) :: rows)) i) ∘ (fun x => B + x) = fun k : Nat => hasI (turnI (k : Int) rows) i := by
      funext k
      have : ¬ (((B + k : Nat) : Int) < B) := by omega
      show hasI (if ((B + k : Nat) : Int) < B then g else turnI (((B + k : Nat) : Int) - B) rows) i = _
      rw [if_neg this, show ((B + k : Nat) : Int) - B = k by omega]
    rw [e, Int.natCast_add, ih]
    unfold rowsSum
    cases hg : hasI g i <;> simp [hg]
theorem cnt_rot (p : Int → Bool) (n : Nat) (hn : 0 < n) (a : Int) : ((List.range n).countP fun (k : Nat) => p ((a + (k : Int)) % (n : Int))) = (List.range n).countP fun (k : Nat) => p (k : Int) := by
  have h0 : 0 ≤ a % (n : Int) := Int.emod_nonneg _ (by omega)
  have h1 : a % (n : Int) < n := Int.emod_lt_of_pos _ (by omega)
  obtain ⟨d, hd⟩ : ∃ d : Nat, a % (n : Int) = d := ⟨(a % (n : Int)).toNat, by omega⟩
  have hdn : d ≤ n := by omega
  have e0 : ∀ k : Nat, (a + (k : Int)) % (n : Int) = ((d : Int) + k) % n := fun k => by
    rw [← hd, Int.emod_add_emod]
  obtain ⟨m, rfl⟩ : ∃ m : Nat, n = d + m := ⟨n - d, by omega⟩
  have l1 : (List.range (d + m)).countP (fun (k : Nat) => p (k : Int)) = (List.range d).countP (fun (k : Nat) => p (k : Int)) + (List.range m).countP (fun (k : Nat) => p ((d : Int) + k)) := by
    rw [List.range_add, List.countP_append, List.countP_map]
    congr 1
  have l2 : (List.range (d + m)).countP (fun (k : Nat) => p ((a + (k : Int)) % ((d + m : Nat) : Int))) = (List.range m).countP (fun (k : Nat) => p ((d : Int) + k)) + (List.range d).countP (fun (k : Nat) => p (k : Int)) := by
    rw [Nat.add_comm d m, List.range_add, List.countP_append, List.countP_map]
    congr 1
    · apply List.countP_congr
      intro k hk
      have := List.mem_range.mp hk
      rw [Nat.add_comm m d, e0, Int.emod_eq_of_lt (by omega) (by omega)]
    · apply List.countP_congr
      intro k hk
      have := List.mem_range.mp hk
      simp only [Function.comp]
      rw [Nat.add_comm m d, e0, show ((d : Int) + ((m + k : Nat) : Int)) = k + ((d + m : Nat) : Int) by omega, Int.add_emod_right, Int.emod_eq_of_lt (by omega) (by omega)]
  rw [l1, l2, Nat.add_comm]
theorem rowsSum_rev (i : Int) (rows : List (Int × List Int)) : rowsSum i rows.reverse = rowsSum i rows := by
  unfold rowsSum
  rw [List.filter_reverse, List.map_reverse, List.sum_reverse]
theorem rowsSum_zero (i : Int) : ∀ rows : List (Int × List Int), (∀ r ∈ rows, 1 ≤ r.1) → 0 ≤ rowsSum i rows ∧ (rowsSum i rows = 0 ↔ (rows.any fun r => hasI r.2 i) = false)
  | [], _ => by simp [rowsSum]
  | r :: rows, h => by
    have ih := rowsSum_zero i rows fun q hq => h q (List.mem_cons_of_mem _ hq)
    have h1 := h r List.mem_cons_self
    cases hr : hasI r.2 i with
    | false =>
      have e : rowsSum i (r :: rows) = rowsSum i rows := by unfold rowsSum; rw [List.filter_cons_of_neg (by simp [hr])]
      rw [e]
      simpa [hr] using ih
    | true =>
      have e : rowsSum i (r :: rows) = r.1 + rowsSum i rows := by unfold rowsSum; rw [List.filter_cons_of_pos (by simp [hr])]; simp
      rw [e]
      refine ⟨by omega, ?_⟩
      simp [hr]
      omega
/-- beats of a circle at which lights show the road -/
theorem cnt_circle (c : Nat) (hc : 0 < c) (i s b : Int) (rows : List (Int × List Int)) (hr : ∀ r ∈ rows, 1 ≤ r.1) (hs : (rows.map (·.1)).sum = c) : (((List.range c).countP fun (k : Nat) => hasI (turnI ((b + (k : Int) - s) % (c : Int)) rows) i : Nat) : Int) = rowsSum i rows := by
  rw [← cnt_rows i rows c (fun r q => by have := hr r q; omega) hs]
  have := cnt_rot (fun z => hasI (turnI z rows) i) c hc (b - s)
  rw [← this]
  congr 1
  apply List.countP_congr
  intro k _
  rw [show b - s + (k : Int) = b + k - s by omega]
end Lb

set_option maxRecDepth 100000
set_option maxHeartbeats 1000000
namespace Lb
open PySem L2
/-! ### towns changed -/
def shiftT (t : Tw) (m : Int) : Tw := { t with lights := t.lights.map (Option.map fun l => ((l.1 + m) % t.c, l.2)) }
def turnT (t : Tw) : Tw := { t with lights := t.lights.map (Option.map fun l => (l.1, l.2.reverse)) }
def bareT (t : Tw) : Tw := { t with lights := List.replicate t.n.toNat none }
theorem ok_shift {t : Tw} (ok : Ok t) (m : Int) : Ok (shiftT t m) := by
  refine ⟨ok.n, ok.c, ok.roads, ok.road, by simpa [shiftT] using ok.lights, fun k l h => ?_⟩
  simp only [shiftT, List.getElem?_map] at h
  cases e : t.lights[k]? with
  | none => rw [e] at h; simp at h
  | some o =>
    cases o with
    | none => rw [e] at h; simp at h
    | some l0 =>
      rw [e] at h
      simp at h
      subst h
      have o := ok.light k l0 e
      exact ⟨⟨Int.emod_nonneg _ (by have := ok.c; omega), Int.emod_lt_of_pos _ (by have := ok.c; omega)⟩, o.rows, o.row, o.sum⟩
theorem ok_turn {t : Tw} (ok : Ok t) : Ok (turnT t) := by
  refine ⟨ok.n, ok.c, ok.roads, ok.road, by simpa [turnT] using ok.lights, fun k l h => ?_⟩
  simp only [turnT, List.getElem?_map] at h
  cases e : t.lights[k]? with
  | none => rw [e] at h; simp at h
  | some o =>
    cases o with
    | none => rw [e] at h; simp at h
    | some l0 =>
      rw [e] at h
      simp at h
      subst h
      have o := ok.light k l0 e
      exact ⟨o.s, by simpa using o.rows, fun r hr => o.row r (by simpa using hr), by
        have := o.sum
        show (l0.2.reverse.map (·.1)).sum = t.c
        rw [List.map_reverse, List.sum_reverse]; exact this⟩
theorem ok_bare {t : Tw} (ok : Ok t) : Ok (bareT t) := by
  refine ⟨ok.n, ok.c, ok.roads, ok.road, by have := ok.n; simp [bareT]; omega, fun k l h => ?_⟩
  simp only [bareT, List.getElem?_replicate] at h
  split at h <;> simp at h
theorem lightAt_map (t : Tw) (f : Option (Int × List (Int × List Int)) → Option (Int × List (Int × List Int))) (i : Nat) : lightAt { t with lights := t.lights.map f } i = (lightAt t i).map f := by
  unfold lightAt
  cases t.roads[i]? with
  | none => rfl
  | some r => simp
theorem s_shifted (t : Tw) (ok : Ok t) (m : Int) (st : Sto) : m_l_shifted [t.D, .int m] st = .ok (shiftT t m).D st := by
  refine wp_eq ?_
  rw [r_l_shifted _ _ _ rfl]
  simp [b_l_shifted]
  refine wp_for ?_
  have hc : 0 < t.c := by have := ok.c; omega
  have hl : t.lights.length ≤ 6 := by have := ok.lights; have := ok.n; omega
  simp [Tw.D, atI, ixN]
  refine wp_forY _ lightT (fun pre s => s = ⟨[_, _, some (.lst ((pre.map (Option.map fun l : Int × List (Int × List Int) => ((l.1 + m) % t.c, l.2))).map lightT)), none], st⟩) rfl ?_ ?_
  · rintro J hJ pre o post s e rfl
    have hlen := congrArg List.length e
    simp at hlen
    have hz : pre.length < sizeLine := lt_line (by omega)
    refine wp_forB rfl (wp_app ?_)
    cases o with
    | none =>
      simp [lstAt, lightT, hz]
      subst hJ
      simp [lightT]
    | some l =>
      simp [lstAt, lightT, hz, atI, ixN, prim_mod, hc]
      subst hJ
      simp [lightT]
  · rintro s rfl
    simp [cutD, cutL, HT.sIx, fits, shiftT, (by decide : 4 ≤ sizeLine)]
theorem s_turned (t : Tw) (ok : Ok t) (st : Sto) : m_l_turned [t.D] st = .ok (turnT t).D st := by
  refine wp_eq ?_
  rw [r_l_turned _ _ _ rfl]
  simp [b_l_turned]
  have hl : t.lights.length ≤ 6 := by have := ok.lights; have := ok.n; omega
  refine wp_lcM t.lights lightT (fun o => lightT (o.map fun l => (l.1, l.2.reverse))) (by simp [Tw.D, atI, ixN]) (by omega) ?_ ?_
  · intro o ho
    refine wp_lcB rfl ?_
    cases o with
    | none => simp [lightT]
    | some l => simp [lightT, atI, ixN]
  · simp [cutD, cutL, HT.sIx, fits, turnT, Tw.D, (by decide : 4 ≤ sizeLine)]
def greenRow (t : Tw) (i : Nat) (b : Int) : List Bool := (List.range t.c.toNat).map fun (k : Nat) => greenI t i (b + k)
theorem s_green_row (t : Tw) (ok : Ok t) (i : Nat) (hi : i < t.roads.length) (b : Int) (hb : 0 ≤ b) (st : Sto) : m_l_green_row [t.D, .int i, .int b] st = .ok (.lst ((greenRow t i b).map D.bl)) st := by
  refine wp_eq ?_
  rw [r_l_green_row _ _ _ rfl]
  simp [b_l_green_row]
  have hc := ok.c
  refine wp_lcM (List.range t.c.toNat) (fun k : Nat => D.int (k : Int)) (fun k => .bl (greenI t i (b + k))) ?_ (by simp; omega) ?_ ?_
  · simp [Tw.D, atI, ixN, items_int (show 0 ≤ t.c by omega) (show t.c ≤ 1000 by omega)]
  · intro k hk
    refine wp_lcB rfl ?_
    simp [s_is_green t ok i hi (b + k) (by omega)]
  · simp [greenRow]
/-! ### what the law says of rows -/
theorem green_some {t : Tw} {i : Nat} {l : Int × List (Int × List Int)} (h : lightAt t i = some (some l)) (b : Int) : greenI t i b = hasI (turnI ((b - l.1) % t.c) l.2) (i : Int) := by unfold greenI; rw [h]
theorem green_none {t : Tw} {i : Nat} (h : lightAt t i = some none) (b : Int) : greenI t i b = true := by unfold greenI; rw [h]
theorem row_later (t : Tw) (i : Nat) (b : Int) : greenRow t i (b + t.c) = greenRow t i b := by
  unfold greenRow
  apply List.map_congr_left
  intro k _
  unfold greenI
  split
  · rename_i l e
    rw [show b + t.c + (k : Int) - l.1 = (b + k - l.1) + t.c by omega, Int.add_emod_right]
  · rfl
theorem row_shift (t : Tw) (i : Nat) (b m : Int) : greenRow (shiftT t m) i (b + m) = greenRow t i b := by
  unfold greenRow
  apply List.map_congr_left
  intro k _
  unfold greenI
  rw [show lightAt (shiftT t m) i = _ from lightAt_map t _ i]
  cases lightAt t i with
  | none => rfl
  | some o =>
    cases o with
    | none => rfl
    | some l =>
      show hasI (turnI ((b + m + k - (l.1 + m) % t.c) % t.c) l.2) i = _
      rw [Int.sub_emod, Int.emod_emod, ← Int.sub_emod, show b + m + (k : Int) - (l.1 + m) = b + k - l.1 by omega]
theorem row_none (t : Tw) (i : Nat) (h : lightAt t i = some none) (b : Int) : greenRow t i b = List.replicate t.c.toNat true := by
  unfold greenRow
  rw [List.map_congr_left (g := fun _ => true) fun k _ => green_none h _, List.map_const']
  simp
theorem row_count (t : Tw) (hc : 1 ≤ t.c) (i : Nat) (l : Int × List (Int × List Int)) (h : lightAt t i = some (some l)) (hr : ∀ r ∈ l.2, 1 ≤ r.1) (hs : (l.2.map (·.1)).sum = t.c) (b : Int) : (((greenRow t i b).countP id : Nat) : Int) = rowsSum i l.2 := by
  obtain ⟨c, hcc⟩ : ∃ c : Nat, t.c = c := ⟨t.c.toNat, by omega⟩
  rw [← cnt_circle c (by omega) i l.1 b l.2 hr (by rw [hs, hcc])]
  unfold greenRow
  rw [List.countP_map, hcc, Int.toNat_natCast]
  congr 1
  apply List.countP_congr
  intro k _
  simp only [Function.comp, id, green_some h, hcc]
theorem never_mem (t : Tw) (i : Nat) (hi : i < t.roads.length) : hasI (neverI t) (i : Int) = neverB t i := by
  rw [Bool.eq_iff_iff, hasI_iff]
  unfold neverI
  simp
  constructor
  · rintro ⟨a, ⟨h1, h2⟩, h3⟩
    have : a = i := by omega
    rwa [← this]
  · intro h
    exact ⟨i, ⟨hi, h⟩, rfl⟩
theorem prim_mulB (st : Sto) (n : Int) (h0 : 0 ≤ n) (h1 : n ≤ 1000) : prim st .mul [.lst [.bl true], .int n] = some (.lst ((List.replicate n.toNat true).map D.bl)) := by
  rw [prim_mulL, if_pos ⟨h0, h1, by simp⟩]
  simp
theorem s_right (t : Tw) (ok : Ok t) (i : Nat) (hi : i < t.roads.length) (m b : Int) (hm : 0 ≤ m) (hb : 0 ≤ b) (st : Sto) : m_l_right [t.D, .int i, .int m, .int b] st = .ok (.bl true) st := by
  refine wp_eq ?_
  rw [r_l_right _ _ _ rfl]
  have hc := ok.c
  obtain ⟨r, o, h1, h2, h3, h4, h5⟩ := lightAt_some t ok i hi
  have e1 : atI (t.roads.map roadT) (i : Int) = some (roadT r) := by rw [atN, List.getElem?_map, h1]; rfl
  have e2 : atI (t.lights.map lightT) r.2.1 = some (lightT o) := by rw [atI_int _ _ h2, List.getElem?_map, h3]; rfl
  have d1 : prim st .idx [t.D, .int 1] = some (.int t.c) := rfl
  have d2 : prim st .idx [t.D, .int 2] = some (.tup (t.roads.map roadT)) := rfl
  have d3 : prim st .idx [t.D, .int 3] = some (.tup (t.lights.map lightT)) := rfl
  have d4 : prim st .idx [roadT r, .int 1] = some (.int r.2.1) := rfl
  have hr := row_later t i b
  have hsh := row_shift t i b m
  simp [b_l_right, s_green_row t ok i hi b hb, d1, d2, d3, d4, e1, e2, setVs, s_green_row t ok i hi (b + t.c) (by omega), hr, eqR_bls, s_shifted t ok, s_green_row (shiftT t m) (ok_shift ok m) i hi (b + m) (by omega), hsh]
  cases o with
  | none =>
    have hn : neverB t i = false := by unfold neverB; rw [h4]
    have er : eqR (.lst (List.replicate t.c.toNat (.bl true))) (.lst (List.replicate t.c.toNat (.bl true))) = some true := by
      have := eqR_bls (List.replicate t.c.toNat true) (List.replicate t.c.toNat true)
      rwa [List.map_replicate, decide_eq_true rfl] at this
    simp [er, lightT, prim_mulB st t.c (by omega) (by omega), row_none t i h4, eqR_bls, s_never_green t ok, inR_ints, never_mem t i hi, hn]
  | some l =>
    have okl := h5 l rfl
    have hr1 : ∀ r ∈ l.2, 1 ≤ r.1 := fun r hr => (okl.row r hr).1
    have cnt1 := row_count t (by omega) i l h4 hr1 okl.sum b
    have hturn : lightAt (turnT t) i = some (some (l.1, l.2.reverse)) := by
      rw [show lightAt (turnT t) i = _ from lightAt_map t _ i, h4]; rfl
    have cnt2 := row_count (turnT t) (show 1 ≤ t.c by omega) i (l.1, l.2.reverse) hturn (fun r hr => hr1 r (by simpa using hr)) (by
      show (l.2.reverse.map (·.1)).sum = t.c
      rw [List.map_reverse, List.sum_reverse]; exact okl.sum) 0
    rw [show rowsSum i (l.1, l.2.reverse).2 = rowsSum i l.2.reverse from rfl, rowsSum_rev] at cnt2
    have hn : neverB t i = !(l.2.any fun r => hasI r.2 (i : Int)) := by unfold neverB; rw [h4]
    obtain ⟨hz1, hz2⟩ := rowsSum_zero (i : Int) l.2 hr1
    simp [lightT]
    refine wp_lcF l.2 rowT (fun r => hasI r.2 (i : Int)) (fun r => .int r.1) (by simp [atI, ixN]) (Nat.le_trans okl.rows.2 (by decide)) ?_ ?_
    · intro r hr
      refine wp_lcB rfl ?_
      cases hh : hasI r.2 (i : Int) <;> simp [inR_ints, hh]
    have hsum : sumR ((l.2.filter fun r => hasI r.2 (i : Int)).map fun r => D.int r.1) = some (rowsSum i l.2) := sumR_Y _ _
    simp [hsum, cnt_bls, cnt1, s_never_green t ok, inR_ints, never_mem t i hi, hn, s_turned t ok, s_green_row (turnT t) (ok_turn ok) i hi 0 (by omega), cnt2]
    cases ha : (l.2.any fun r => hasI r.2 (i : Int)) with
    | false =>
      have := hz2.mpr ha
      simp [this]
    | true =>
      have : rowsSum i l.2 ≠ 0 := fun z => by rw [hz2.mp z] at ha; cases ha
      simp [this]
end Lb

set_option maxRecDepth 100000
set_option maxHeartbeats 1000000
namespace Lb
open PySem L2
theorem never_bare (t : Tw) (ok : Ok t) : neverI (bareT t) = [] := by
  unfold neverI
  rw [List.map_eq_nil_iff, List.filter_eq_nil_iff]
  intro i hi
  have hi := List.mem_range.mp hi
  obtain ⟨r, o, h1, h2, h3, h4, h5⟩ := lightAt_some (bareT t) (ok_bare ok) i hi
  have : o = none := by
    simp only [bareT, List.getElem?_replicate] at h3
    split at h3
    · cases h3; rfl
    · cases h3
  unfold neverB
  rw [h4, this]
  simp
theorem never_turn (t : Tw) : neverI (turnT t) = neverI t := by
  unfold neverI
  show ((List.range t.roads.length).filter (neverB (turnT t))).map _ = _
  congr 1
  apply List.filter_congr
  intro i _
  unfold neverB
  rw [show lightAt (turnT t) i = _ from lightAt_map t _ i]
  cases lightAt t i with
  | none => rfl
  | some o =>
    cases o with
    | none => rfl
    | some l => simp
theorem prim_mulN (st : Sto) (n : Int) (h0 : 1 ≤ n) (h1 : n ≤ 1000) : prim st .mul [.tup [.non], .int n] = some (.tup (List.replicate n.toNat .non)) := by
  rw [prim_mulT, if_pos ⟨h0, h1, by simp, by simp⟩]
  simp
theorem hlaw (ns : List Int) (hl : ns.length ≤ 63) : ∃ st', m_law [.lst (ns.map D.int)] [] = .ok (.bl true) st' := by
  suffices h : wp (m_law [.lst (ns.map D.int)] []) fun d _ => d = .bl true by
    obtain ⟨a, s, e, rfl⟩ := wp_iff.mp h
    exact ⟨s, e⟩
  rw [r_law _ _ _ rfl]
  simp [b_law]
  refine wp_for ?_
  obtain ⟨k, hk, hk4⟩ : ∃ k : Nat, (if 1 < (if 4 < (ns.length : Int) then 4 else (ns.length : Int)) then (if 4 < (ns.length : Int) then 4 else (ns.length : Int)) else 1) = (k : Int) ∧ k ≤ 4 := by
    refine ⟨(if 1 < (if 4 < (ns.length : Int) then 4 else (ns.length : Int)) then (if 4 < (ns.length : Int) then 4 else (ns.length : Int)) else 1).toNat, ?_, ?_⟩ <;> (split <;> (try split) <;> omega)
  simp [hk, items_nat k (by omega)]
  refine wp_forY _ _ (fun pre s => ∃ st, s = ⟨[_, none, none, none, none, none, none, none, none], st⟩) ⟨_, rfl⟩ ?_ ?_
  · rintro J hJ pre x post s e ⟨st, rfl⟩
    refine wp_forB rfl ?_
    simp
    refine w_cell_at fun v => ?_
    refine w_pen fun st1 p1 => ?_
    generalize st.length = n at p1 ⊢
    refine wp_for ?_
    simp
    have e3 : items .rng1 [.int 3] = some ((List.range 3).map fun (i : Nat) => D.int (i : Int)) := items_nat 3 (by omega)
    simp only [e3, opt_some, wp_ok]
    refine wp_forY _ _ (fun pre s => ∃ st, s = ⟨[_, _, some (.ref n), none, none, none, none, none, none], st⟩ ∧ Pen st n (3000 * pre.length)) ⟨_, rfl, by simpa using p1⟩ ?_ ?_
    · rintro J2 hJ2 pre2 x2 post2 s e2 ⟨st2, rfl, p2⟩
      obtain ⟨hx1, hx2⟩ := pre_lt e2
      refine wp_forB rfl ?_
      simp
      refine w_town _ p2 (by omega) fun t st3 ok hn4 p3 => ?_
      have hc := ok.c
      have hn := ok.n
      have hroads := ok.roads
      have d1 : ∀ st, prim st .idx [t.D, .int 1] = some (.int t.c) := fun _ => rfl
      have d2 : ∀ st, prim st .idx [t.D, .int 2] = some (.tup (t.roads.map roadT)) := fun _ => rfl
      have d0 : ∀ st, prim st .idx [t.D, .int 0] = some (.int t.n) := fun _ => rfl
      have dc : ∀ st, prim st (.cut false true) [t.D, .int 3] = some (.tup [.int t.n, .int t.c, .tup (t.roads.map roadT)]) := fun _ => rfl
      simp [d1]
      refine w_draw _ p3 (by omega) (by omega) (by omega) fun m st4 m1 m2 p4 => ?_
      refine w_draw _ p4 (by omega) (by omega) (by omega) fun b st5 b1 b2 p5 => ?_
      simp [setVs]
      refine wp_lcM (List.range t.roads.length) (fun k : Nat => D.int (k : Int)) (fun _ => .bl true) (by simp [d2, items_nat _ (show t.roads.length ≤ 1000 by omega)]) (by simp; omega) ?_ ?_
      · intro i hi
        refine wp_lcB rfl ?_
        simp [s_right t ok i (List.mem_range.mp hi) m b m1 b1]
      have hb : D.tup ([.int t.n, .int t.c, .tup (t.roads.map roadT)] ++ [D.tup (List.replicate t.n.toNat .non)]) = (bareT t).D := by
        simp [bareT, Tw.D, lightT]
      simp at hb
      have e0 := eqR_ints [] []
      simp at e0
      simp [allR_Y (fun _ : Nat => true), d0, dc, prim_mulN _ t.n (by omega) (by omega), fits, (by decide : 4 ≤ sizeLine), hb, s_never_green _ (ok_bare ok), never_bare t ok, s_turned t ok, s_never_green _ (ok_turn ok), s_never_green t ok, never_turn, eqR_ints, e0]
      subst hJ2
      exact ⟨_, rfl, p5.le (by simp; omega)⟩
    · rintro s ⟨st2, rfl, p2⟩
      subst hJ
      simp
  · rintro s ⟨st, rfl⟩
    simp
end Lb

set_option maxRecDepth 1000000
set_option maxHeartbeats 0
theorem PySem.Challenge.cw_lanebeats_k09_whole_lights_holds : PySem.Challenge.rw_lanebeats_k09_whole_lights.Holds := by
  w_on; o_law
  refine HandSHeadRun.head_any (r := PySem.W.OpenLaw.row PySem.Challenge.rw_lanebeats_k09_whole_lights) (q := PySem.W.view (PySem.W.OpenLaw.row PySem.Challenge.rw_lanebeats_k09_whole_lights).prog [39]) (H := Lb.hk) (ob := Lb.ob) (M := 20000) (loose := Lb.loose) (d := HandSHeadRun.topDef (PySem.W.OpenLaw.row PySem.Challenge.rw_lanebeats_k09_whole_lights).prog 39) (kwd := []) Lb.ob_eq
    (by kernel_rfl) (fun s => by kernel_rfl) Lb.run (by kernel_rfl) (by kernel_rfl) (by kernel_rfl) (by rfl) (by first | assumption | decide +kernel) (by decide +kernel) ⟨rfl, rfl, rfl, rfl, rfl, by decide +kernel⟩ ?hw ?hc
  case hw => w_witness2
  case hc =>
    refine L2.walk_ofE (l := PySem.Challenge.rw_lanebeats_k09_whole_lights) (n := 63) (k := 27) (x := "_law_script") (CX := L2.CX0) rfl (by decide) (by kernel_rfl) ⟨rfl, by decide, by decide⟩ ?F (fun _ _ _ _ z => z)
    intro w mg fa h Y G hmg0
    obtain ⟨K, KX, c⟩ := Y
    have hmg : mg ("law" : PySem.Str) = some (.ref fa) := by
      have e : (HandSHeadRun.topDef (PySem.W.OpenLaw.row PySem.Challenge.rw_lanebeats_k09_whole_lights).prog 39).name = ("law" : PySem.Str) := by kernel_rfl
      rw [← e]
      exact hmg0
    obtain ⟨fd, sp, hb, hs, hF⟩ := Lb.facts Lb.hlaw (P := (PySem.Challenge.rw_lanebeats_k09_whole_lights).prog) (w := w) KX G hmg c
    exact ⟨K, fd, sp, KX, hb, fun H a ns hl _ hS => hs H a ns hl hS, fun base _ _ => hF base⟩
