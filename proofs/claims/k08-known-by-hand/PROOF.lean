import PyProof.Rows.All
import Wide.All
import OpenK.AllK
import Wide.FinOn
import HandS.ForMost
import HandS.Wide
import HandS.Deep
import HandS.IsInst
import HandS.TupAny
import HandS.CallSlots
import HandS.Exc
import HandS.Style
import HandS.WordsExc
import HandS.More
import HandS.Conv
import KE.GoesEnum
import HandS.Zip
import HandS.SetFor
import HandS.Strs
import HandS.SortInts
import KE.DataMinMax
import HandS.Codes
import HandS.Ends
import HandS.Words
import PySem.Challenge.RW_leastmissing_k08_known_by_hand
set_option Elab.async false
set_option linter.all false
set_option autoImplicit false
set_option maxRecDepth 100000
/-! Values as trees, a small store of lists and dicts that change, and what the program's and the laws' own text computes over them. -/
namespace Lm
open PySem

inductive T where
  | non | bl (b : Bool) | int (i : Int) | str (s : Str)
  | tup (xs : List T) | lst (xs : List T)
  | obj (n : Nat) | scr (ns : List Int)
  | exc (c : Nat) (xs : List T)
  deriving Inhabited

mutual
def T.toD : T → PyData
  | .non => .none
  | .bl b => .bool b
  | .int i => .int i
  | .str s => .str s
  | .tup xs => .tuple (T.toDs xs)
  | .lst xs => .list (T.toDs xs)
  | .obj _ => .dict []
  | .scr _ => .dict []
  | .exc _ _ => .dict []
def T.toDs : List T → List PyData
  | [] => []
  | x :: xs => T.toD x :: T.toDs xs
end

inductive Ob where
  | dead
  | lst (xs : List T)
  | dK (kvs : List (L2.Key × T))
  | dT (kvs : List (List L2.Key × T))
  | ins (c : Nat) (fs : List (Str × T))
  deriving Inhabited

abbrev Sto := List Ob
abbrev Fm := List (Option T)

/-- the outcome of an expression -/
inductive R (α : Type) where
  | ok (a : α) (st : Sto)
  | exc (c : Nat) (xs : List T) (st : Sto)
  | bad
namespace R
def bnd {α β : Type} (r : R α) (f : α → Sto → R β) : R β := match r with
  | .ok a st => f a st
  | .exc c xs st => .exc c xs st
  | .bad => .bad
def lift {α : Type} (o : Option α) (st : Sto) : R α := match o with
  | some a => .ok a st
  | none => .bad
def nox {α : Type} (r : R α) : R α := match r with
  | .ok a st => .ok a st
  | _ => .bad
@[simp] theorem nox_ok {α : Type} (a : α) (st : Sto) : (R.ok a st).nox = .ok a st := rfl
@[simp] theorem bnd_ok {α β : Type} (a : α) (st : Sto) (f : α → Sto → R β) : (R.ok a st).bnd f = f a st := rfl
@[simp] theorem bnd_exc {α β : Type} (c : Nat) (xs : List T) (st : Sto) (f : α → Sto → R β) : (R.exc c xs st : R α).bnd f = .exc c xs st := rfl
@[simp] theorem bnd_bad {α β : Type} (f : α → Sto → R β) : (R.bad : R α).bnd f = .bad := rfl
@[simp] theorem lift_some {α : Type} (a : α) (st : Sto) : R.lift (some a) st = .ok a st := rfl
@[simp] theorem lift_none {α : Type} (st : Sto) : R.lift (none : Option α) st = .bad := rfl
end R

inductive BOp where | add | sub | mul | fdiv | mod | pow
  deriving DecidableEq
inductive COp where | eq | ne | lt | le | gt | ge | is_ | isNot | in_ | notIn
  deriving DecidableEq
/-- what isinstance asks: built-in classes, pairs of them -/
inductive Ty where | int | bool | str | list | tuple | lt | bs | tl
  deriving DecidableEq
inductive Lit where | non | bl (b : Bool) | int (i : Int) | str (s : Str)
def Lit.t : Lit → T
  | .non => .non
  | .bl b => .bl b
  | .int i => .int i
  | .str s => .str s
/-- built-in functions and classes that are called -/
inductive Bi where
  | len | all | any | sum | abs | intOf | strOf | repr | tupleOf | max2 | min2 | max1 | min1 | lenSet
  deriving DecidableEq
/-- methods of built-in classes -/
inductive Mt where
  | append | pop | popAt | insert | extend | index | count
  deriving DecidableEq

mutual
inductive E where
  | v (i : Nat)
  | lit (k : Lit)
  | glob (k : Nat)
  | bin (o : BOp) (a b : E)
  | neg (a : E)
  | not (a : E)
  | and (a b : E)
  | or (a b : E)
  | ite (t a b : E)
  | cmp (a : E) (cs : Cs)
  | tup (xs : Es)
  | lt (l : L)
  | lo (l : L)
  | idx (a i : E)
  | sl (a : E) (lo hi : Oe)
  | call (f : Nat) (xs ys : Es) (kn : List Str) (pm : List Nat)
  | isI (a : E) (t : Ty)
  | bi (b : Bi) (xs : Es)
  | dflt (mx : Bool) (a d : E)
  | mt (m : Mt) (o : E) (xs : Es)
  | frz (a : E)
inductive Es where
  | nil
  | cons (e : E) (es : Es)
inductive Cs where
  | one (o : COp) (e : E)
  | cons (o : COp) (e : E) (cs : Cs)
/-- what makes a new list -/
inductive L where
  | disp (xs : Es)
  | cat (a b : E)
  | comp (p : Pt) (it : It) (c : Oe) (e : E) (own : List Nat)
  | ofSeq (a : E)
  | ofRng (a : E)
  | ofRng2 (a b : E)
  | sorted (a : E)
  | sortedSet (a : E)
  | rep (a n : E)
inductive It where
  | e (a : E)
  | rng1 (a : E)
  | rng2 (a b : E)
  | enum (a : E)
  | zip (a b : E)
inductive Oe where
  | none
  | some (e : E)
/-- a target: names by slots, tuples of them -/
inductive Pt where
  | v (i : Nat)
  | tup (ps : Pts)
inductive Pts where
  | nil
  | cons (p : Pt) (ps : Pts)
end

def Es.len : Es → Nat
  | .nil => 0
  | .cons _ es => es.len + 1
def Pts.len : Pts → Nat
  | .nil => 0
  | .cons _ ps => ps.len + 1

mutual
inductive S where
  | set (i : Nat) (e : E)
  | par (i j : Nat) (a b : E)
  | par3 (i j k : Nat) (a b c : E)
  | asg (p : Pt) (e : E)
  | aug (i : Nat) (o : BOp) (e : E)
  | setIx (o i e : E)
  | swapIx (o1 i1 o2 i2 e1 e2 : E)
  | expr (e : E)
  | ret (e : E)
  | ife (t : E) (a b : Ss)
  | whl (t : E) (a : Ss)
  | for_ (p : Pt) (it : It) (a : Ss)
  | brk | cnt | pass | doc
  | frz (i : Nat)
  | never
inductive Ss where
  | nil
  | cons (s : S) (ss : Ss)
end

/-- the outcome of a statement -/
inductive RS where
  | nx (ρ : Fm) (st : Sto)
  | ret (t : T) (st : Sto)
  | brk (ρ : Fm) (st : Sto)
  | cnt (ρ : Fm) (st : Sto)
  | exc (c : Nat) (xs : List T) (ρ : Fm) (st : Sto)
  | bad
/-- an expression's outcome goes on into a statement's -/
def R.then_ {α : Type} (r : R α) (ρ : Fm) (f : α → Sto → RS) : RS := match r with
  | .ok a st => f a st
  | .exc c xs st => .exc c xs ρ st
  | .bad => .bad
@[simp] theorem R.then_ok {α : Type} (a : α) (st : Sto) (ρ : Fm) (f : α → Sto → RS) : (R.ok a st).then_ ρ f = f a st := rfl
@[simp] theorem R.then_exc {α : Type} (c : Nat) (xs : List T) (st : Sto) (ρ : Fm) (f : α → Sto → RS) : (R.exc c xs st : R α).then_ ρ f = .exc c xs ρ st := rfl
@[simp] theorem R.then_bad {α : Type} (ρ : Fm) (f : α → Sto → RS) : (R.bad : R α).then_ ρ f = .bad := rfl

/-! ### values -/
def deref (st : Sto) : T → T
  | .obj n => match st[n]? with
    | some (.lst xs) => .lst xs
    | _ => .obj n
  | t => t
/-- the items of a list or a tuple -/
def items (st : Sto) (t : T) : Option (List T) := match deref st t with
  | .lst xs => some xs
  | .tup xs => some xs
  | .scr ns => some (ns.map T.int)
  | _ => none
/-- a list (told from a tuple) -/
def isSeqL (st : Sto) (t : T) : Bool := match deref st t with
  | .tup _ => false
  | _ => true
/-- an index, of either sign -/
def ixOf (n : Nat) (i : Int) : Option Nat := L2.ixN n i
def eqT (x y : T) : Option Bool := if SeqAt.shaped x.toD && SeqAt.shaped y.toD then some (PyData.eqv x.toD y.toD) else none
def mulOk (i j : Int) : Bool := decide (-(2 ^ 64) < i ∧ i < 2 ^ 64) || decide (-(2 ^ 64) < j ∧ j < 2 ^ 64) || decide (i.natAbs.log2 + j.natAbs.log2 < 900000)
def fdivOk (j : Int) : Bool := decide (0 < j) && (decide (j < 1073741824) || decide (j.natAbs.log2 < 9000))
def binop (o : BOp) (x y : T) : Option T := match o, x, y with
  | .add, .int i, .int j => some (.int (i + j))
  | .sub, .int i, .int j => some (.int (i - j))
  | .mul, .int i, .int j => if mulOk i j then some (.int (i * j)) else none
  | .fdiv, .int i, .int j => if fdivOk j then some (.int (i / j)) else none
  | .mod, .int i, .int j => if 0 < j then some (.int (i % j)) else none
  | .pow, .int i, .int j => if 0 ≤ j ∧ j ≤ 1000000 ∧ i.natAbs < 2 ^ 64 then some (.int (i ^ j.toNat)) else none
  | .add, .tup xs, .tup ys => if xs.length + ys.length ≤ sizeLine then some (.tup (xs ++ ys)) else none
  | .add, .lst xs, .lst ys => if xs.length + ys.length ≤ sizeLine then some (.lst (xs ++ ys)) else none
  | .add, .str a, .str b => if a.length + b.length ≤ sizeLine then some (.str ⟨a.cps ++ b.cps⟩) else none
  | _, _, _ => none
/-- x in ys -/
def inT (x : T) (ys : List T) : Option Bool :=
  if SeqAt.shaped x.toD && SeqAt.shaped (.list (T.toDs ys)) then some ((T.toDs ys).any fun z => PyData.eqv z x.toD) else none
def isNone : T → Option Bool
  | .non => some true
  | .bl _ | .int _ | .str _ | .tup _ | .lst _ | .obj _ | .scr _ | .exc _ _ => some false
def cmpop (st : Sto) (o : COp) (x y : T) : Option Bool := match o with
  | .eq => eqT (deref st x) (deref st y)
  | .ne => (eqT (deref st x) (deref st y)).map (!·)
  | .lt => match x, y with
    | .int i, .int j => some (decide (i < j))
    | _, _ => none
  | .le => match x, y with
    | .int i, .int j => some (decide (i ≤ j))
    | _, _ => none
  | .gt => match x, y with
    | .int i, .int j => some (decide (j < i))
    | _, _ => none
  | .ge => match x, y with
    | .int i, .int j => some (decide (j ≤ i))
    | _, _ => none
  | .is_ => match y with
    | .non => isNone x
    | .bl b => match x with
      | .bl c => some (c == b)
      | _ => none
    | _ => none
  | .isNot => match y with
    | .non => (isNone x).map (!·)
    | _ => none
  | .in_ => (items st y).bind fun ys => inT (deref st x) ys
  | .notIn => ((items st y).bind fun ys => inT (deref st x) ys).map (!·)
def tyIs (st : Sto) (t : Ty) (x : T) : Option Bool := match deref st x with
  | .non => some false
  | .bl _ => some (t == .int || t == .bool || t == .bs)
  | .int _ => some (t == .int)
  | .str _ => some (t == .str || t == .bs)
  | .tup _ => some (t == .tuple || t == .lt || t == .tl)
  | .lst _ => some (t == .list || t == .lt || t == .tl)
  | .scr _ => some (t == .list || t == .lt || t == .tl)
  | .obj _ => none
  | .exc _ _ => none
def sliceL (xs : List T) (lo hi : Option Int) : List T := (xs.drop (HT.sIx xs.length 0 lo)).take (HT.sIx xs.length xs.length hi - HT.sIx xs.length 0 lo)
def sliceT (st : Sto) (x : T) (lo hi : Option Int) : Option T := match deref st x with
  | .tup xs => some (.tup (sliceL xs lo hi))
  | .lst xs => some (.lst (sliceL xs lo hi))
  | _ => none
def allB : List T → Option (List Bool)
  | [] => some []
  | .bl b :: xs => (allB xs).map (b :: ·)
  | _ :: _ => none
def allI : List T → Option (List Int)
  | [] => some []
  | .int b :: xs => (allI xs).map (b :: ·)
  | _ :: _ => none
def maxI : List Int → Int
  | [] => 0
  | [x] => x
  | x :: xs => max x (maxI xs)
def minI : List Int → Int
  | [] => 0
  | [x] => x
  | x :: xs => min x (minI xs)

/-! ### keys, orders -/
def kT : L2.Key → T
  | .inl i => .int i
  | .inr s => .str s
def keyOf : T → Option L2.Key
  | .int i => some (.inl i)
  | .str s => some (.inr s)
  | _ => none
def keysOf : List T → Option (List L2.Key)
  | [] => some []
  | x :: xs => match keyOf x, keysOf xs with
    | some k, some ks => some (k :: ks)
    | _, _ => none
def tkey : T → Option (List L2.Key)
  | .tup xs => keysOf xs
  | _ => none
def tkeys : List T → Option (List (List L2.Key))
  | [] => some []
  | x :: xs => match tkey x, tkeys xs with
    | some k, some ks => some (k :: ks)
    | _, _ => none
def kLt : L2.Key → L2.Key → Bool
  | .inl i, .inl j => decide (i < j)
  | .inr a, .inr b => decide (a.cps.toList < b.cps.toList)
  | .inl _, .inr _ => true
  | .inr _, .inl _ => false
def ksLt : List L2.Key → List L2.Key → Bool
  | [], [] => false
  | [], _ :: _ => true
  | _ :: _, [] => false
  | k :: ks, l :: ls => if k = l then ksLt ks ls else kLt k l
def isL : L2.Key → Bool
  | .inl _ => true
  | .inr _ => false
/-- what can be compared item by item: one kind a place, ints at the first -/
def sameKinds : List (List L2.Key) → Bool
  | [] => true
  | ks :: r => (match ks with
    | .inl _ :: _ => true
    | _ => false) && r.all fun ls => decide (ls.map isL = ks.map isL)
def ins {α : Type} (lt : α → α → Bool) (x : α) : List α → List α
  | [] => [x]
  | y :: ys => if lt y x then y :: ins lt x ys else x :: y :: ys
def isort {α : Type} (lt : α → α → Bool) : List α → List α
  | [] => []
  | x :: xs => ins lt x (isort lt xs)
def dedup {α : Type} [DecidableEq α] : List α → List α
  | [] => []
  | x :: xs => if x ∈ xs then dedup xs else x :: dedup xs
def tupK (ks : List L2.Key) : T := .tup (ks.map kT)
def sortT (xs : List T) : Option (List T) :=
  if xs.length ≤ sizeLine then match allI xs with
    | some ns => some ((isort (fun i j => decide (i < j)) ns).map T.int)
    | none => match tkeys xs with
      | some kss => if sameKinds kss then some ((isort ksLt kss).map tupK) else none
      | none => none
  else none
def sortSetT (xs : List T) : Option (List T) :=
  if xs.length < 1000 then
    match allI xs with
    | some ns => some ((isort (fun i j => decide (i < j)) (dedup ns)).map T.int)
    | none => match tkeys xs with
      | some kss => if sameKinds kss then some ((isort ksLt (dedup kss)).map tupK) else none
      | none => none
  else none
def lenSetT (xs : List T) : Option Int :=
  if xs.length < 4000 then
    match allI xs with
    | some ns => some ((dedup ns).length : Int)
    | none => none
  else none

/-! ### what is called of Python's own -/
def biF (st : Sto) (b : Bi) (xs : List T) : Option T := match b, xs with
  | .len, [x] => match deref st x with
    | .lst ys => some (.int ys.length)
    | .tup ys => some (.int ys.length)
    | .scr ns => some (.int ns.length)
    | .str s => if s.length ≤ sizeLine then some (.int s.length) else none
    | _ => none
  | .all, [x] => match deref st x with
    | .lst ys => (allB ys).map fun bs => .bl (bs.all id)
    | _ => none
  | .any, [x] => match deref st x with
    | .lst ys => (allB ys).map fun bs => .bl (bs.any id)
    | _ => none
  | .sum, [x] => match deref st x with
    | .lst ys => (allI ys).map fun ns => .int ns.sum
    | _ => none
  | .abs, [.int i] => some (.int (if i < 0 then -i else i))
  | .intOf, [.int i] => some (.int i)
  | .intOf, [.bl b] => some (.int (if b then 1 else 0))
  | .max2, [.int i, .int j] => some (.int (if j > i then j else i))
  | .min2, [.int i, .int j] => some (.int (if j < i then j else i))
  | .max1, [x] => match deref st x with
    | .lst ys => match allI ys with
      | some (n :: ns) => some (.int (maxI (n :: ns)))
      | _ => none
    | _ => none
  | .min1, [x] => match deref st x with
    | .lst ys => match allI ys with
      | some (n :: ns) => some (.int (minI (n :: ns)))
      | _ => none
    | _ => none
  | .tupleOf, [x] => (items st x).map T.tup
  | .lenSet, [x] => match deref st x with
    | .lst ys => (lenSetT ys).map T.int
    | .tup ys => (lenSetT ys).map T.int
    | _ => none
  | .repr, [x] => if (deref st x).toD.showable && SeqAt.shaped (deref st x).toD then some (.str (deref st x).toD.shown) else none
  | .strOf, [.int i] => if i.natAbs.log2 < 1920 then some (.str (Str.ofString (toString i))) else none
  | _, _ => none
def isLst (st : Sto) (x : T) : Bool := match deref st x with
  | .lst _ => true
  | _ => false
/-- max, min of a list with a default -/
def dfltF (st : Sto) (mx : Bool) (x d : T) : Option T := match deref st x with
  | .lst ys => match allI ys with
    | some [] => some d
    | some (n :: ns) => some (.int (if mx then maxI (n :: ns) else minI (n :: ns)))
    | none => none
  | _ => none
/-- the place of the first equal item -/
def idxOfD (d : PyData) : List PyData → Option Nat
  | [] => none
  | z :: zs => if PyData.eqv z d then some 0 else (idxOfD d zs).map (· + 1)
def insAt {α : Type} (xs : List α) (i : Int) (y : α) : List α := let n := xs.length; let k := if i < 0 then (i + n).toNat else min i.toNat n; xs.take k ++ y :: xs.drop k
def mtF (m : Mt) (o : T) (xs : List T) (st : Sto) : R T := match m, o, xs with
  | .append, .obj n, [y] => match st[n]? with
    | some (.lst ys) => if ys.length < sizeLine then .ok .non (st.set n (.lst (ys ++ [y]))) else .bad
    | _ => .bad
  | .pop, .obj n, [] => match st[n]? with
    | some (.lst ys) => match ys[ys.length - 1]? with
      | some y => .ok y (st.set n (.lst ys.dropLast))
      | none => .bad
    | _ => .bad
  | .popAt, .obj n, [.int i] => match st[n]? with
    | some (.lst ys) => if i < 2 ^ 63 ∧ -(2 ^ 63) ≤ i then match (ixOf ys.length i) with
        | some k => match ys[k]? with
          | some y => .ok y (st.set n (.lst (ys.eraseIdx k)))
          | none => .bad
        | none => .bad
      else .bad
    | _ => .bad
  | .extend, .obj n, [x] => match st[n]?, deref st x with
    | some (.lst ys), .lst zs => if ys.length + zs.length ≤ sizeLine then .ok .non (st.set n (.lst (ys ++ zs))) else .bad
    | _, _ => .bad
  | .insert, .obj n, [.int i, y] => match st[n]? with
    | some (.lst ys) => if ys.length < sizeLine ∧ 0 ≤ i ∧ i < 2 ^ 63 then .ok .non (st.set n (.lst (ys.take i.toNat ++ [y] ++ ys.drop i.toNat))) else .bad
    | _ => .bad
  | .index, o, [x] => match deref st o with
    | .lst ys => if SeqAt.shaped (deref st x).toD && SeqAt.shaped (.list (T.toDs ys)) then
        match idxOfD (deref st x).toD (T.toDs ys) with
        | some k => .ok (.int k) st
        | none => .bad
      else .bad
    | _ => .bad
  | _, _, _ => .bad

/-! ### targets -/
mutual
def asgP : Pt → T → Fm → Option Fm
  | .v i, t, ρ => some (ρ.set i (some t))
  | .tup ps, t, ρ => match t with
    | .tup xs => if xs.length = ps.len then asgPs ps xs ρ else none
    | _ => none
def asgPs : Pts → List T → Fm → Option Fm
  | .nil, _, ρ => some ρ
  | .cons p ps, xs, ρ => match xs with
    | x :: xs => (asgP p x ρ).bind fun ρ' => asgPs ps xs ρ'
    | [] => none
end

/-! ### expressions -/
structure Cf where
  call : Nat → List T → Sto → R T
  g : Nat → T

/-- the arguments in the parameters' order -/
def pick {α : Type} (pm : List Nat) (xs : List α) : List α := pm.filterMap fun j => xs[j]?

def wipeE (ρ : Fm) : List Nat → Fm
  | [] => ρ
  | v :: vs => (wipeE ρ vs).set v none

mutual
def T.beq : T → T → Bool
  | .non, .non => true
  | .bl a, .bl b => a == b
  | .int a, .int b => a == b
  | .str a, .str b => decide (a = b)
  | .tup a, .tup b => T.beqs a b
  | .lst a, .lst b => T.beqs a b
  | .obj a, .obj b => a == b
  | .scr a, .scr b => a == b
  | .exc a x, .exc b y => a == b && T.beqs x y
  | _, _ => false
def T.beqs : List T → List T → Bool
  | [], [] => true
  | x :: xs, y :: ys => T.beq x y && T.beqs xs ys
  | _, _ => false
end
/-- the lists that are walked stand as they stood -/
def sameSrc (st0 st : Sto) : List T → Bool
  | [] => true
  | .obj n :: r => (match st0[n]?, st[n]? with
    | some (.lst a), some (.lst b) => T.beqs a b
    | _, _ => false) && sameSrc st0 st r
  | _ :: r => sameSrc st0 st r
def compGo (chk : Sto → Bool) (body : T → Sto → R (Option T)) : List T → Sto → R (List T)
  | [], st => .ok [] st
  | x :: xs, st => (body x st).bnd fun o st => if chk st then (compGo chk body xs st).bnd fun r st => .ok (o.toList ++ r) st else .bad

/-- what a walk takes: the items, what stands still meanwhile -/
structure Wk where
  xs : List T
  src : List T
def enumF : Nat → List T → List T
  | _, [] => []
  | i, x :: xs => .tup [.int i, x] :: enumF (i + 1) xs
def zipF : List T → List T → List T
  | x :: xs, y :: ys => .tup [x, y] :: zipF xs ys
  | _, _ => []
def rngF (lo : Int) (n : Nat) : List T := (List.range n).map fun (k : Nat) => T.int (lo + (k : Int))
def inR (i : Int) : Bool := decide (-(2 ^ 62) ≤ i ∧ i < 2 ^ 62)
mutual
def evE (c : Cf) : E → Fm → Sto → R T
  | .v i, ρ, st => match ρ[i]? with
    | some (some t) => .ok t st
    | _ => .bad
  | .lit k, _, st => .ok k.t st
  | .glob k, _, st => .ok (c.g k) st
  | .bin o a b, ρ, st => (evE c a ρ st).bnd fun x st => (evE c b ρ st).bnd fun y st => R.lift (binop o (deref st x) (deref st y)) st
  | .neg a, ρ, st => (evE c a ρ st).bnd fun x st => match x with
    | .int i => .ok (.int (-i)) st
    | _ => .bad
  | .not a, ρ, st => (evE c a ρ st).bnd fun x st => match x with
    | .bl b => .ok (.bl (!b)) st
    | _ => .bad
  | .and a b, ρ, st => (evE c a ρ st).bnd fun x st => match x with
    | .bl true => evE c b ρ st
    | .bl false => .ok (.bl false) st
    | _ => .bad
  | .or a b, ρ, st => (evE c a ρ st).bnd fun x st => match x with
    | .bl false => evE c b ρ st
    | .bl true => .ok (.bl true) st
    | _ => .bad
  | .ite t a b, ρ, st => (evE c t ρ st).bnd fun x st => match x with
    | .bl true => evE c a ρ st
    | .bl false => evE c b ρ st
    | _ => .bad
  | .cmp a cs, ρ, st => (evE c a ρ st).bnd fun x st => (evCs c cs x ρ st).bnd fun b st => .ok (.bl b) st
  | .tup xs, ρ, st => (evEs c xs ρ st).bnd fun ts st => if ts.length ≤ sizeLine then .ok (.tup ts) st else .bad
  | .lt l, ρ, st => (evL c l ρ st).bnd fun ts st => .ok (.lst ts) st
  | .lo l, ρ, st => (evL c l ρ st).bnd fun ts st => .ok (.obj st.length) (st ++ [.lst ts])
  | .idx a i, ρ, st => (evE c a ρ st).bnd fun x st => (evE c i ρ st).bnd fun y st => match y with
    | .int k => match items st x with
      | some ts => match ixOf ts.length k with
        | some j => R.lift ts[j]? st
        | none => .bad
      | none => .bad
    | _ => .bad
  | .sl a lo hi, ρ, st => (evE c a ρ st).bnd fun x st => (evO c lo ρ st).bnd fun l st => (evO c hi ρ st).bnd fun h st => R.lift (sliceT st x l h) st
  | .call f xs ys kn pm, ρ, st => (evEs c xs ρ st).bnd fun ts st => (evEs c ys ρ st).bnd fun us st => c.call f (if kn.isEmpty then ts else pick pm (ts ++ us)) st
  | .isI a t, ρ, st => (evE c a ρ st).bnd fun x st => R.lift ((tyIs st t x).map T.bl) st
  | .bi b xs, ρ, st => (evEs c xs ρ st).bnd fun ts st => R.lift (biF st b ts) st
  | .dflt mx a d, ρ, st => (evE c a ρ st).bnd fun x st => (evE c d ρ st).bnd fun y st => R.lift (dfltF st mx x y) st
  | .mt m o xs, ρ, st => (evE c o ρ st).bnd fun x st => if isLst st x then (evEs c xs ρ st).bnd fun ts st => mtF m x ts st else .bad
  | .frz a, ρ, st => (evE c a ρ st).bnd fun x st => match x with
    | .obj n => match st[n]? with
      | some (.lst ts) => .ok (.lst ts) (st.set n .dead)
      | _ => .bad
    | t => .ok t st
def evEs (c : Cf) : Es → Fm → Sto → R (List T)
  | .nil, _, st => .ok [] st
  | .cons e es, ρ, st => (evE c e ρ st).bnd fun t st => (evEs c es ρ st).bnd fun ts st => .ok (t :: ts) st
def evCs (c : Cf) : Cs → T → Fm → Sto → R Bool
  | .one o e, x, ρ, st => (evE c e ρ st).bnd fun y st => R.lift (cmpop st o x y) st
  | .cons o e cs, x, ρ, st => (evE c e ρ st).bnd fun y st => (R.lift (cmpop st o x y) st).bnd fun b st => if b then evCs c cs y ρ st else .ok false st
def evO (c : Cf) : Oe → Fm → Sto → R (Option Int)
  | .none, _, st => .ok none st
  | .some e, ρ, st => (evE c e ρ st).bnd fun t st => match t with
    | .int i => .ok (some i) st
    | _ => .bad
def evC (c : Cf) : Oe → Fm → Sto → R Bool
  | .none, _, st => .ok true st
  | .some e, ρ, st => (evE c e ρ st).bnd fun t st => match t with
    | .bl b => .ok b st
    | _ => .bad
def evL (c : Cf) : L → Fm → Sto → R (List T)
  | .disp xs, ρ, st => (evEs c xs ρ st).bnd fun ts st => if ts.length ≤ sizeLine then .ok ts st else .bad
  | .cat a b, ρ, st => (evE c a ρ st).bnd fun x st => (evE c b ρ st).bnd fun y st => match deref st x, deref st y with
    | .lst xs, .lst ys => if xs.length + ys.length ≤ sizeLine then .ok (xs ++ ys) st else .bad
    | _, _ => .bad
  | .comp p it cd e own, ρ, st => (evIt c it ρ st).bnd fun w st => if w.xs.length ≤ sizeLine then
      compGo (fun st' => sameSrc st st' w.src) (fun x st => match asgP p x (wipeE ρ own) with
        | none => .bad
        | some ρ2 => (evC c cd ρ2 st).nox.bnd fun b st => if b then ((evE c e ρ2 st).nox.bnd fun t st => .ok (some t) st) else .ok none st) w.xs st else .bad
  | .ofSeq a, ρ, st => (evE c a ρ st).bnd fun x st => R.lift (items st x) st
  | .ofRng a, ρ, st => (evE c a ρ st).bnd fun x st => match x with
    | .int j => if inR j ∧ j.toNat ≤ 2 ^ 24 then .ok (rngF 0 j.toNat) st else .bad
    | _ => .bad
  | .ofRng2 a b, ρ, st => (evE c a ρ st).bnd fun x st => (evE c b ρ st).bnd fun y st => match x, y with
    | .int i, .int j => if inR i ∧ inR j ∧ (j - i).toNat ≤ 2 ^ 24 then .ok (rngF i (j - i).toNat) st else .bad
    | _, _ => .bad
  | .sorted a, ρ, st => (evE c a ρ st).bnd fun x st => match items st x with
    | some xs => R.lift (sortT xs) st
    | none => .bad
  | .sortedSet a, ρ, st => (evE c a ρ st).bnd fun x st => match items st x with
    | some xs => R.lift (sortSetT xs) st
    | none => .bad
  | .rep a n, ρ, st => (evE c a ρ st).bnd fun x st => (evE c n ρ st).bnd fun y st => match deref st x, y with
    | .lst xs, .int k => if -(2 ^ 63) ≤ k ∧ k < 2 ^ 63 ∧ xs.length * k.toNat ≤ sizeLine then .ok ((List.replicate k.toNat xs).flatten) st else .bad
    | _, _ => .bad
def evIt (c : Cf) : It → Fm → Sto → R Wk
  | .e a, ρ, st => (evE c a ρ st).bnd fun x st => match items st x with
    | some xs => .ok ⟨xs, [x]⟩ st
    | none => .bad
  | .rng1 a, ρ, st => (evE c a ρ st).bnd fun x st => match x with
    | .int j => if inR j then .ok ⟨rngF 0 j.toNat, []⟩ st else .bad
    | _ => .bad
  | .rng2 a b, ρ, st => (evE c a ρ st).bnd fun x st => (evE c b ρ st).bnd fun y st => match x, y with
    | .int i, .int j => if inR i ∧ inR j then .ok ⟨rngF i (j - i).toNat, []⟩ st else .bad
    | _, _ => .bad
  | .enum a, ρ, st => (evE c a ρ st).bnd fun x st => match items st x with
    | some xs => .ok ⟨enumF 0 xs, [x]⟩ st
    | none => .bad
  | .zip a b, ρ, st => (evE c a ρ st).bnd fun x st => (evE c b ρ st).bnd fun y st => match items st x, items st y with
    | some xs, some ys => if isSeqL st x == isSeqL st y then .ok ⟨zipF xs ys, [x, y]⟩ st else .bad
    | _, _ => .bad
end

/-! ### statements -/
def whlGo (test : Fm → Sto → R T) (body : Fm → Sto → RS) : Nat → Fm → Sto → RS
  | 0, _, _ => .bad
  | n + 1, ρ, st => (test ρ st).then_ ρ fun t st => match t with
    | .bl true => match body ρ st with
      | .nx ρ st => whlGo test body n ρ st
      | .cnt ρ st => whlGo test body n ρ st
      | .brk ρ st => .nx ρ st
      | r => r
    | .bl false => .nx ρ st
    | _ => .bad
def forGo (tgt : T → Fm → Option Fm) (body : Fm → Sto → RS) (chk : Sto → Bool) : List T → Fm → Sto → RS
  | [], ρ, st => .nx ρ st
  | x :: xs, ρ, st => match tgt x ρ with
    | none => .bad
    | some ρ => match body ρ st with
      | .nx ρ st => if chk st then forGo tgt body chk xs ρ st else .bad
      | .cnt ρ st => if chk st then forGo tgt body chk xs ρ st else .bad
      | .brk ρ st => .nx ρ st
      | r => r
def whlMost : Nat := 1000000
def setIxF (o i v : T) (st : Sto) : Option Sto := match o, i with
  | .obj n, .int k => match st[n]? with
    | some (.lst xs) => match ixOf xs.length k with
      | some j => some (st.set n (.lst (xs.set j v)))
      | none => none
    | _ => none
  | _, _ => none

mutual
def evS (c : Cf) : S → Fm → Sto → RS
  | .set i e, ρ, st => (evE c e ρ st).then_ ρ fun t st => .nx (ρ.set i (some t)) st
  | .par i j a b, ρ, st => (evE c a ρ st).then_ ρ fun t st => (evE c b ρ st).then_ ρ fun u st => .nx ((ρ.set i (some t)).set j (some u)) st
  | .par3 i j k a b e, ρ, st => (evE c a ρ st).then_ ρ fun t st => (evE c b ρ st).then_ ρ fun u st => (evE c e ρ st).then_ ρ fun v st => .nx (((ρ.set i (some t)).set j (some u)).set k (some v)) st
  | .asg p e, ρ, st => (evE c e ρ st).then_ ρ fun t st => match asgP p t ρ with
    | some ρ => .nx ρ st
    | none => .bad
  | .aug i o e, ρ, st => match ρ[i]? with
    | some (some x) => (evE c e ρ st).then_ ρ fun y st => match x, y, binop o x y with
      | .int _, .int _, some z => .nx (ρ.set i (some z)) st
      | _, _, _ => .bad
    | _ => .bad
  | .setIx o i e, ρ, st => (evE c e ρ st).then_ ρ fun v st => (evE c o ρ st).then_ ρ fun x st => (evE c i ρ st).then_ ρ fun y st => match setIxF x y v st with
    | some st => .nx ρ st
    | none => .bad
  | .swapIx o1 i1 o2 i2 e1 e2, ρ, st => (evE c e1 ρ st).then_ ρ fun v st => (evE c e2 ρ st).then_ ρ fun w st =>
      (evE c o1 ρ st).then_ ρ fun x st => (evE c i1 ρ st).then_ ρ fun y st => match setIxF x y v st with
        | some st => (evE c o2 ρ st).then_ ρ fun x st => (evE c i2 ρ st).then_ ρ fun y st => match setIxF x y w st with
          | some st => .nx ρ st
          | none => .bad
        | none => .bad
  | .expr e, ρ, st => (evE c e ρ st).then_ ρ fun _ st => .nx ρ st
  | .ret e, ρ, st => (evE c e ρ st).then_ ρ fun t st => .ret t st
  | .ife t a b, ρ, st => (evE c t ρ st).then_ ρ fun x st => match x with
    | .bl true => evSs c a ρ st
    | .bl false => evSs c b ρ st
    | _ => .bad
  | .whl t a, ρ, st => whlGo (evE c t) (evSs c a) whlMost ρ st
  | .for_ p it a, ρ, st => (evIt c it ρ st).then_ ρ fun w st => forGo (asgP p) (evSs c a) (fun st' => sameSrc st st' w.src) w.xs ρ st
  | .brk, ρ, st => .brk ρ st
  | .cnt, ρ, st => .cnt ρ st
  | .pass, ρ, st => .nx ρ st
  | .doc, ρ, st => .nx ρ st
  | .frz i, ρ, st => match ρ[i]? with
    | some (some (.obj n)) => match st[n]? with
      | some (.lst ts) => .nx (ρ.set i (some (.lst ts))) (st.set n .dead)
      | _ => .bad
    | _ => .bad
  | .never, _, _ => .bad
def evSs (c : Cf) : Ss → Fm → Sto → RS
  | .nil, ρ, st => .nx ρ st
  | .cons s ss, ρ, st => match evS c s ρ st with
    | .nx ρ st => evSs c ss ρ st
    | r => r
end

/-! ### defs -/
/-- pu: it gets no object of the store and hands none out (it runs in a store of its own); kp: its new objects stay in the store -/
structure Fn where
  np : Nat
  nl : Nat
  pu : Bool
  kp : Bool
  body : Ss
mutual
/-- no object from n on is named in it -/
def T.own (n : Nat) : T → Bool
  | .obj k => decide (k < n)
  | .tup xs => T.ownAll n xs
  | .lst xs => T.ownAll n xs
  | .exc _ xs => T.ownAll n xs
  | .non => true
  | .bl _ => true
  | .int _ => true
  | .str _ => true
  | .scr _ => true
def T.ownAll (n : Nat) : List T → Bool
  | [] => true
  | x :: xs => T.own n x && T.ownAll n xs
end
def obOwn (n : Nat) : Ob → Bool
  | .dead => true
  | .lst ts => T.ownAll n ts
  | .dK kvs => kvs.all fun p => T.own n p.2
  | .dT kvs => kvs.all fun p => T.own n p.2
  | .ins _ fs => fs.all fun p => T.own n p.2
def kvSame {κ : Type} [DecidableEq κ] : List (κ × T) → List (κ × T) → Bool
  | [], [] => true
  | p :: ps, q :: qs => decide (p.1 = q.1) && T.beq p.2 q.2 && kvSame ps qs
  | _, _ => false
def obSame : Ob → Ob → Bool
  | .dead, .dead => true
  | .lst a, .lst b => T.beqs a b
  | .dK a, .dK b => kvSame a b
  | .dT a, .dT b => kvSame a b
  | _, _ => false
/-- the caller's objects: as they stood, or naming none of the callee's -/
def keepOk (n : Nat) : Sto → Sto → Bool
  | [], _ => true
  | a :: r, b :: r' => (obOwn n b || obSame a b) && keepOk n r r'
  | _ :: _, [] => false
def finish (kp : Bool) (st : Sto) : RS → R T
  | .nx _ st' => if kp then .ok .non st' else if keepOk st.length st st' then .ok .non (st'.take st.length) else .bad
  | .ret t st' => if kp then .ok t st' else if T.own st.length t && keepOk st.length st st' then .ok t (st'.take st.length) else .bad
  | .exc k xs _ st' => if T.ownAll st.length xs && keepOk st.length st st' then .exc k xs (st'.take st.length) else .bad
  | .brk _ _ => .bad
  | .cnt _ _ => .bad
  | .bad => .bad
def pureEnd (st : Sto) : RS → R T
  | .nx _ _ => .ok .non st
  | .ret t _ => if T.own 0 t then .ok t st else .bad
  | .exc k xs _ _ => if T.ownAll 0 xs then .exc k xs st else .bad
  | .brk _ _ => .bad
  | .cnt _ _ => .bad
  | .bad => .bad
def frame (fn : Fn) (xs : List T) : Fm := xs.map some ++ List.replicate (fn.nl - fn.np) none
def callF (Φ : Nat → Option Fn) (g : Nat → T) : Nat → Nat → List T → Sto → R T
  | 0, _, _, _ => .bad
  | n + 1, f, xs, st => match Φ f with
    | none => .bad
    | some fn => if xs.length = fn.np then (if fn.pu = true then (if T.ownAll 0 xs = true then pureEnd st (evSs ⟨callF Φ g n, g⟩ fn.body (frame fn xs) []) else .bad)
        else finish fn.kp st (evSs ⟨callF Φ g n, g⟩ fn.body (frame fn xs) st)) else .bad
end Lm
/-! How the trees and the store stand in the abstract heap; what is kept; outcomes as readings. -/
namespace Lm
open PySem PySem.Spec PyProof.Rows L2

/-- the store's places, the store, what is protected -/
structure Wd where
  m : Nat → Addr
  st : Sto
  L : Addr → Prop
def alive : Ob → Bool
  | .dead => false
  | _ => true
def Live (W : Wd) (a : Addr) : Prop := ∃ (n : Nat) (ob : Ob), W.st[n]? = some ob ∧ alive ob = true ∧ W.m n = a

def KTup (K : PySem.W.Frag) (a : Addr) (xs : List V) : Prop :=
  ∃ (o : Obj) (its : Array Value) (n : Nat), K.lookup a = some o ∧ o.cls = .type "tuple" ∧ o.data = .seq its n ∧ its.size ≤ sizeLine ∧ Vals xs its.toList
def KLst (K : PySem.W.Frag) (a : Addr) (xs : List V) : Prop :=
  ∃ (o : Obj) (its : Array Value) (n : Nat), K.lookup a = some o ∧ o.cls = .type "list" ∧ o.dict = none ∧ o.data = .seq its n ∧ its.size ≤ sizeLine ∧ Vals xs its.toList
def TupAt (K : PySem.W.Frag) (W : Wd) (H : Hp) (a : Addr) (xs : List V) : Prop := (Rd H a (.tup xs) ∧ ¬ W.L a) ∨ KTup K a xs
def ScrAt (K : PySem.W.Frag) (W : Wd) (H : Hp) (a : Addr) (xs : List V) : Prop := ((∃ o, H a = some (.frz o (.lst xs))) ∧ ¬ W.L a) ∨ KLst K a xs

section
variable (K : PySem.W.Frag) (W : Wd) (H : Hp)
mutual
inductive Rep : V → T → Prop
  | non : Rep .non .non
  | bl (b : Bool) : Rep (.bl b) (.bl b)
  | int (i : Int) : Rep (.int i) (.int i)
  | str (s : Str) : Rep (.str s) (.str s)
  | tup {a : Addr} {xs : List V} {ts : List T} : TupAt K W H a xs → Reps xs ts → Rep (.ref a) (.tup ts)
  | lst {a : Addr} {xs : List V} {ts : List T} : H a = some (.lst xs) → ¬ W.L a → Reps xs ts → Rep (.ref a) (.lst ts)
  | obj {n : Nat} : n < W.st.length → Rep (.ref (W.m n)) (.obj n)
  | scr {a : Addr} {ns : List Int} : ScrAt K W H a (ns.map V.int) → Rep (.ref a) (.scr ns)
inductive Reps : List V → List T → Prop
  | nil : Reps [] []
  | cons {v : V} {vs : List V} {t : T} {ts : List T} : Rep v t → Reps vs ts → Reps (v :: vs) (t :: ts)
end
def KvR {κ : Type} : List (κ × V) → List (κ × T) → Prop := Paired fun p q => p.1 = q.1 ∧ Rep K W H p.2 q.2
/-- an object of the store at its place -/
def ObR (a : Addr) : Ob → Prop
  | .dead => True
  | .lst ts => ∃ xs, H a = some (.lst xs) ∧ Reps K W H xs ts
  | .dK kvs => ∃ ks, H a = some (.dK ks) ∧ KvR K W H ks kvs
  | .dT kvs => ∃ ks, H a = some (.dT ks) ∧ KvR K W H ks kvs
  | .ins _ _ => False
structure StOk : Prop where
  inj : ∀ (i j : Nat) (oi oj : Ob), W.st[i]? = some oi → alive oi = true → W.st[j]? = some oj → alive oj = true → W.m i = W.m j → i = j
  liv : ∀ (i : Nat) (o : Ob), W.st[i]? = some o → alive o = true → W.L (W.m i)
  ob : ∀ (i : Nat) (o : Ob), W.st[i]? = some o → ObR K W H (W.m i) o
  lh : ∀ a, W.L a → ∃ o, H a = some o
def EnvR (σ : L2.St) (ρ : Fm) : Prop := σ.length = ρ.length ∧ ∀ (i : Nat) (t : T), ρ[i]? = some (some t) → ∃ v, σ[i]? = some (some v) ∧ Rep K W H v t
end

/-- what a tree's reading leans on -/
structure Ext0 (W : Wd) (H : Hp) (W' : Wd) (H' : Hp) : Prop where
  len : W.st.length ≤ W'.st.length
  agr : ∀ n : Nat, n < W.st.length → W'.m n = W.m n
  keep : ∀ (a : Addr) (o : HO), H a = some o → ¬ W.L a → H' a = some o
  low : ∀ a, W'.L a → W.L a ∨ H a = none
/-- from one state to a later one -/
structure Ext (W : Wd) (H : Hp) (W' : Wd) (H' : Hp) : Prop extends Ext0 W H W' H' where
  keepx : ∀ (a : Addr) (o : HO), H a = some o → W.L a → ¬ Live W a → H' a = some o
  up : ∀ a, W.L a → ¬ Live W a → W'.L a
  nl : ∀ a, Live W' a → Live W a ∨ H a = none
  sm : ∀ (a : Addr) (o : HO), H a = some o → ∃ o', H' a = some o'

section
variable {K : PySem.W.Frag} {W W' W'' : Wd} {H H' H'' : Hp}
theorem Ext.refl : Ext W H W H := ⟨⟨Nat.le_refl _, fun _ _ => rfl, fun _ _ h _ => h, fun _ h => .inl h⟩, fun _ _ h _ _ => h, fun _ h _ => h, fun _ h => .inl h, fun _ o h => ⟨o, h⟩⟩
theorem Ext.some_back (x : Ext W H W' H') {a : Addr} (h : H' a = none) : H a = none := by
  cases q : H a with
  | none => rfl
  | some o =>
    obtain ⟨o', e⟩ := x.sm a o q
    rw [h] at e; cases e
theorem Ext.trans (s : StOk K W H) (x : Ext W H W' H') (y : Ext W' H' W'' H'') : Ext W H W'' H'' := by
  have nl' : ∀ a o, H a = some o → ¬ Live W a → ¬ Live W' a := fun a o h v q => by
    rcases x.nl a q with z | z
    · exact v z
    · rw [h] at z; cases z
  refine ⟨⟨Nat.le_trans x.len y.len, fun n h => (y.agr n (Nat.lt_of_lt_of_le h x.len)).trans (x.agr n h), fun a o h l => ?_, fun a h => ?_⟩, fun a o h l v => ?_, fun a l v => ?_, fun a h => ?_, fun a o h => ?_⟩
  · refine y.keep a o (x.keep a o h l) fun q => ?_
    rcases x.low a q with z | z
    · exact l z
    · rw [h] at z; cases z
  · rcases y.low a h with z | z
    · exact x.low a z
    · exact .inr (x.some_back z)
  · exact y.keepx a o (x.keepx a o h l v) (x.up a l v) (nl' a o h v)
  · obtain ⟨o, ho⟩ := s.lh a l
    exact y.up a (x.up a l v) (nl' a o ho v)
  · rcases y.nl a h with z | z
    · exact x.nl a z
    · exact .inr (x.some_back z)
  · obtain ⟨o', e⟩ := x.sm a o h
    exact y.sm a o' e
theorem Rd.keep (x : Ext0 W H W' H') {a : Addr} {u : HO} (h : Rd H a u) (l : ¬ W.L a) : Rd H' a u ∧ ¬ W'.L a := by
  have nl : ∀ o, H a = some o → ¬ W'.L a := fun o e q => by
    rcases x.low a q with z | z
    · exact l z
    · rw [e] at z; cases z
  rcases h with h | ⟨o, h⟩
  · exact ⟨.inl (x.keep a _ h l), nl _ h⟩
  · exact ⟨.inr ⟨o, x.keep a _ h l⟩, nl _ h⟩
theorem TupAt.ext (x : Ext0 W H W' H') {a : Addr} {xs : List V} (h : TupAt K W H a xs) : TupAt K W' H' a xs := by
  rcases h with ⟨h, l⟩ | h
  · exact .inl (Rd.keep x h l)
  · exact .inr h
theorem ScrAt.ext (x : Ext0 W H W' H') {a : Addr} {xs : List V} (h : ScrAt K W H a xs) : ScrAt K W' H' a xs := by
  rcases h with ⟨⟨o, h⟩, l⟩ | h
  · refine .inl ⟨⟨o, x.keep a _ h l⟩, fun q => ?_⟩
    rcases x.low a q with z | z
    · exact l z
    · rw [h] at z; cases z
  · exact .inr h
mutual
theorem Rep.ext (x : Ext0 W H W' H') : ∀ (t : T) (v : V), Rep K W H v t → Rep K W' H' v t
  | .non, _, h => by cases h; exact .non
  | .bl b, _, h => by cases h; exact .bl b
  | .int i, _, h => by cases h; exact .int i
  | .str s, _, h => by cases h; exact .str s
  | .tup ts, _, h => by
    cases h with
    | tup ha hr => exact .tup (ha.ext x) (Reps.ext x ts _ hr)
  | .lst ts, _, h => by
    cases h with
    | lst ha hl hr =>
      obtain ⟨q1, q2⟩ := Rd.keep x (.inl ha) hl
      exact .lst (x.keep _ _ ha hl) q2 (Reps.ext x ts _ hr)
  | .obj n, _, h => by
    cases h with
    | obj hn =>
      rw [← x.agr n hn]
      exact .obj (Nat.lt_of_lt_of_le hn x.len)
  | .scr ns, _, h => by
    cases h with
    | scr ha => exact .scr (ha.ext x)
  | .exc _ _, _, h => by cases h
theorem Reps.ext (x : Ext0 W H W' H') : ∀ (ts : List T) (vs : List V), Reps K W H vs ts → Reps K W' H' vs ts
  | [], _, h => by cases h; exact .nil
  | t :: ts, _, h => by
    cases h with
    | cons h1 h2 => exact .cons (Rep.ext x t _ h1) (Reps.ext x ts _ h2)
end
theorem Rep.mv {v : V} {t : T} (h : Rep K W H v t) (x : Ext W H W' H') : Rep K W' H' v t := Rep.ext x.toExt0 t v h
theorem Reps.mv {v : List V} {t : List T} (h : Reps K W H v t) (x : Ext W H W' H') : Reps K W' H' v t := Reps.ext x.toExt0 t v h
theorem Rep.mv0 {v : V} {t : T} (h : Rep K W H v t) (x : Ext0 W H W' H') : Rep K W' H' v t := Rep.ext x t v h
theorem Reps.mv0 {v : List V} {t : List T} (h : Reps K W H v t) (x : Ext0 W H W' H') : Reps K W' H' v t := Reps.ext x t v h
theorem EnvR.mv0 {σ : L2.St} {ρ : Fm} (h : EnvR K W H σ ρ) (x : Ext0 W H W' H') : EnvR K W' H' σ ρ := ⟨h.1, fun i t e => by
  obtain ⟨v, h1, h2⟩ := h.2 i t e
  exact ⟨v, h1, h2.mv0 x⟩⟩
theorem EnvR.mv {σ : L2.St} {ρ : Fm} (h : EnvR K W H σ ρ) (x : Ext W H W' H') : EnvR K W' H' σ ρ := ⟨h.1, fun i t e => by
  obtain ⟨v, h1, h2⟩ := h.2 i t e
  exact ⟨v, h1, h2.mv x⟩⟩
theorem KvR.mv {κ : Type} : ∀ {ks : List (κ × V)} {kvs : List (κ × T)}, KvR K W H ks kvs → Ext0 W H W' H' → KvR K W' H' ks kvs
  | _, _, .nil, _ => .nil
  | _, _, .cons ⟨e, r⟩ t, x => .cons ⟨e, r.mv0 x⟩ (KvR.mv t x)
theorem Reps.length : ∀ {vs : List V} {ts : List T}, Reps K W H vs ts → vs.length = ts.length
  | _, _, .nil => rfl
  | _, _, .cons _ t => by simp [Reps.length t]
theorem Reps.get : ∀ {vs : List V} {ts : List T} {i : Nat} {t : T}, Reps K W H vs ts → ts[i]? = some t → ∃ v, vs[i]? = some v ∧ Rep K W H v t
  | _, _, _, _, .nil, e => by simp at e
  | _, _, 0, _, .cons r _, e => by simp at e; subst e; exact ⟨_, rfl, r⟩
  | _, _, i + 1, t, .cons _ q, e => by
    obtain ⟨u, h1, h2⟩ := Reps.get (i := i) (t := t) q (by simpa using e)
    exact ⟨u, by simpa using h1, h2⟩
theorem Reps.get' : ∀ {vs : List V} {ts : List T} {i : Nat} {v : V}, Reps K W H vs ts → vs[i]? = some v → ∃ t, ts[i]? = some t ∧ Rep K W H v t
  | _, _, _, _, .nil, e => by simp at e
  | _, _, 0, _, .cons r _, e => by simp at e; subst e; exact ⟨_, rfl, r⟩
  | _, _, i + 1, t, .cons _ q, e => by
    obtain ⟨u, h1, h2⟩ := Reps.get' (i := i) (v := t) q (by simpa using e)
    exact ⟨u, by simpa using h1, h2⟩
theorem Reps.append : ∀ {xs ys : List V} {ts us : List T}, Reps K W H xs ts → Reps K W H ys us → Reps K W H (xs ++ ys) (ts ++ us)
  | _, _, _, _, .nil, s => s
  | _, _, _, _, .cons r t, s => .cons r (Reps.append t s)
theorem Reps.take : ∀ {xs : List V} {ts : List T} (n : Nat), Reps K W H xs ts → Reps K W H (xs.take n) (ts.take n)
  | _, _, 0, _ => .nil
  | _, _, _ + 1, .nil => .nil
  | _, _, n + 1, .cons r t => .cons r (Reps.take n t)
theorem Reps.drop : ∀ {xs : List V} {ts : List T} (n : Nat), Reps K W H xs ts → Reps K W H (xs.drop n) (ts.drop n)
  | _, _, 0, r => r
  | _, _, _ + 1, .nil => .nil
  | _, _, n + 1, .cons _ t => Reps.drop n t
theorem Reps.set {x : V} {t : T} (r : Rep K W H x t) : ∀ {xs : List V} {ts : List T} (i : Nat), Reps K W H xs ts → Reps K W H (xs.set i x) (ts.set i t)
  | _, _, _, .nil => .nil
  | _, _, 0, .cons _ t => .cons r t
  | _, _, i + 1, .cons q t => .cons q (Reps.set r i t)
theorem Reps.eraseIdx : ∀ {xs : List V} {ts : List T} (i : Nat), Reps K W H xs ts → Reps K W H (xs.eraseIdx i) (ts.eraseIdx i)
  | _, _, _, .nil => .nil
  | _, _, 0, .cons _ t => t
  | _, _, i + 1, .cons q t => .cons q (Reps.eraseIdx i t)
theorem Reps.ints : ∀ (ns : List Int), Reps K W H (ns.map V.int) (ns.map T.int)
  | [] => .nil
  | n :: ns => .cons (.int n) (Reps.ints ns)
theorem Reps.ints_inv : ∀ {ns : List Int} {vs : List V}, Reps K W H vs (ns.map T.int) → vs = ns.map V.int
  | [], _, h => by cases h; rfl
  | n :: ns, _, h => by
    cases h with
    | cons h1 h2 => cases h1; rw [Reps.ints_inv h2]; rfl
theorem TupAt.sq {a : Addr} {xs : List V} (h : TupAt K W H a xs) : SqT K H a xs := by
  rcases h with ⟨h, _⟩ | h
  · exact .inl h
  · exact .inr h
theorem ScrAt.sq {a : Addr} {xs : List V} (h : ScrAt K W H a xs) : SqL K H a xs := by
  rcases h with ⟨⟨o, h⟩, _⟩ | h
  · exact .inl (.inr ⟨o, h⟩)
  · exact .inr h

/-- a list as it stands -/
theorem StOk.lst (s : StOk K W H) {v : V} {t : T} {ts : List T} (r : Rep K W H v t) (e : deref W.st t = .lst ts) : ∃ a xs, v = .ref a ∧ H a = some (.lst xs) ∧ Reps K W H xs ts := by
  cases r with
  | lst h l hr =>
    have e' : T.lst _ = T.lst ts := e
    cases e'
    exact ⟨_, _, rfl, h, hr⟩
  | @obj n hn =>
    have e' : (match W.st[n]? with | some (.lst xs) => T.lst xs | _ => .obj n) = .lst ts := e
    cases q : W.st[n]? with
    | none => rw [q] at e'; cases e'
    | some o =>
      have hob := s.ob n o q
      rw [q] at e'
      cases o <;> first | (cases e'; obtain ⟨xs, h1, h2⟩ := hob; exact ⟨_, xs, rfl, h1, h2⟩) | cases e'
  | non => cases e
  | bl _ => cases e
  | int _ => cases e
  | str _ => cases e
  | tup _ _ => cases e
  | scr _ => cases e
theorem StOk.tup (s : StOk K W H) {v : V} {t : T} {ts : List T} (r : Rep K W H v t) (e : deref W.st t = .tup ts) : ∃ a xs, v = .ref a ∧ TupAt K W H a xs ∧ Reps K W H xs ts := by
  cases r with
  | tup h hr =>
    have e' : T.tup _ = T.tup ts := e
    cases e'
    exact ⟨_, _, rfl, h, hr⟩
  | @obj n hn =>
    have e' : (match W.st[n]? with | some (.lst xs) => T.lst xs | _ => .obj n) = .tup ts := e
    split at e' <;> cases e'
  | non => cases e
  | bl _ => cases e
  | int _ => cases e
  | str _ => cases e
  | lst _ _ _ => cases e
  | scr _ => cases e
theorem StOk.scr (s : StOk K W H) {v : V} {t : T} {ns : List Int} (r : Rep K W H v t) (e : deref W.st t = .scr ns) : ∃ a, v = .ref a ∧ ScrAt K W H a (ns.map V.int) := by
  cases r with
  | scr h =>
    have e' : T.scr _ = T.scr ns := e
    cases e'
    exact ⟨_, rfl, h⟩
  | @obj n hn =>
    have e' : (match W.st[n]? with | some (.lst xs) => T.lst xs | _ => .obj n) = .scr ns := e
    split at e' <;> cases e'
  | non => cases e
  | bl _ => cases e
  | int _ => cases e
  | str _ => cases e
  | lst _ _ _ => cases e
  | tup _ _ => cases e
/-- the items of a list or a tuple -/
theorem StOk.items (s : StOk K W H) {v : V} {t : T} {ts : List T} (r : Rep K W H v t) (e : items W.st t = some ts) : ∃ a xs, v = .ref a ∧ (SqL K H a xs ∨ SqT K H a xs) ∧ Reps K W H xs ts := by
  unfold Lm.items at e
  cases q : deref W.st t <;> rw [q] at e <;> first | cases e | skip
  · obtain ⟨a, xs, e1, h, hr⟩ := s.tup r q
    exact ⟨a, xs, e1, .inr h.sq, hr⟩
  · obtain ⟨a, xs, e1, h, hr⟩ := s.lst r q
    exact ⟨a, xs, e1, .inl (SqL.of h), hr⟩
  · obtain ⟨a, e1, h⟩ := s.scr r q
    exact ⟨a, _, e1, .inl h.sq, Reps.ints _⟩
theorem deref_plain {st : Sto} {t u : T} (h : deref st t = u) (hu : ∀ n, u ≠ .obj n) (hl : ∀ xs, u ≠ .lst xs) : t = u := by
  cases t <;> first | exact h | skip
  rename_i n
  have e' : (match st[n]? with | some (.lst xs) => T.lst xs | _ => .obj n) = u := h
  split at e'
  · exact absurd e'.symm (hl _)
  · exact absurd e'.symm (hu _)
mutual
theorem Rep.dp : ∀ (t : T) (v : V), Rep K W H v t → t.toD.canLay0 = true → Dp K H v t.toD
  | .non, _, h, _ => by cases h; exact .non
  | .bl b, _, h, _ => by cases h; exact .bl b
  | .int i, _, h, _ => by cases h; exact .int i
  | .str s, _, h, _ => by cases h; exact .str s
  | .tup ts, _, h, c => by
    cases h with
    | tup ha hr => exact .tup ha.sq (Reps.dp ts _ hr (by simpa [T.toD, PyData.canLay0] using c))
  | .lst ts, _, h, c => by
    cases h with
    | lst ha hl hr => exact .lst (SqL.of ha) (Reps.dp ts _ hr (by simpa [T.toD, PyData.canLay0] using c))
  | .obj n, _, h, c => by simp [T.toD, PyData.canLay0] at c
  | .scr ns, _, h, c => by simp [T.toD, PyData.canLay0] at c
  | .exc _ _, _, h, c => by cases h
theorem Reps.dp : ∀ (ts : List T) (vs : List V), Reps K W H vs ts → PyData.canLayAll0 (T.toDs ts) = true → DpAll K H vs (T.toDs ts)
  | [], _, h, _ => by cases h; exact .nil
  | t :: ts, _, h, c => by
    have c' : t.toD.canLay0 = true ∧ PyData.canLayAll0 (T.toDs ts) = true := by simpa [T.toDs, PyData.canLayAll0] using c
    cases h with
    | cons h1 h2 => exact .cons (Rep.dp t _ h1 c'.1) (Reps.dp ts _ h2 c'.2)
end
/-- data for the library's rules of equality -/
theorem StOk.dp (s : StOk K W H) {v : V} {t : T} (r : Rep K W H v t) (c : SeqAt.shaped (deref W.st t).toD = true) : Dp K H v (deref W.st t).toD := by
  have c0 := SeqAt.canLay_of_shaped c
  cases q : deref W.st t with
  | lst ts =>
    rw [q] at c0
    obtain ⟨a, xs, rfl, h, hr⟩ := s.lst r q
    exact .lst (SqL.of h) (Reps.dp ts _ hr (by simpa [T.toD, PyData.canLay0] using c0))
  | obj n => rw [q] at c0; simp [T.toD, PyData.canLay0] at c0
  | scr n => rw [q] at c0; simp [T.toD, PyData.canLay0] at c0
  | exc n _ => rw [q] at c0; simp [T.toD, PyData.canLay0] at c0
  | _ =>
    have e := deref_plain q (by intro n h; cases h) (by intro n h; cases h)
    rw [e] at r
    rw [q] at c0
    exact Rep.dp _ _ r c0
end

/-! ### outcomes -/
/-- what is the same through a whole law: the written part, where the classes stand, their field's name -/
structure Gx where
  K : PySem.W.Frag
  ca : Nat → Addr
  an : Nat → Str
def ExcP (G : Gx) (W : Wd) (H : Hp) (cls : Value) (d : Option Addr) (c : Nat) (xs : List T) : Prop :=
  cls = .ref (G.ca c) ∧ (xs = [] ∨ ∃ dd v t, d = some dd ∧ xs = [t] ∧ H dd = some (.xd [(G.an c, v)]) ∧ ¬ W.L dd ∧ Rep G.K W H v t)
abbrev Rel (α β : Type) := Wd → Hp → β → α → Prop
def Post {α β : Type} (G : Gx) (Rl : Rel α β) (W : Wd) (H : Hp) (Q : β → Hp → Prop) (E : XK) : R α → Prop
  | .ok t st => ∀ v W' H', W'.st = st → Ext W H W' H' → StOk G.K W' H' → Rl W' H' v t → Q v H'
  | .exc c xs st => ∀ cls d W' H', W'.st = st → Ext W H W' H' → StOk G.K W' H' → ExcP G W' H' cls d c xs → E cls d H'
  | .bad => False
/-- a reading: from the trees that the slots and the store stand for -/
def tG {α β : Type} (G : Gx) (Rl : Rel α β) (X : WX) (ev : Fm → Sto → R α) : L2.St → Hp → (β → Hp → Prop) → Prop := fun σ H Q =>
  ∃ W ρ, StOk G.K W H ∧ EnvR G.K W H σ ρ ∧ Post G Rl W H Q (fun cls d H' => X cls d σ H') (ev ρ W.st)
abbrev RT (G : Gx) : Rel T V := fun W H v t => Rep G.K W H v t
abbrev RTs (G : Gx) : Rel (List T) (List V) := fun W H v t => Reps G.K W H v t
abbrev REq (α : Type) : Rel α α := fun _ _ v t => v = t
abbrev tE (G : Gx) (X : WX) (ev : Fm → Sto → R T) : TE := tG G (RT G) X ev
abbrev tA (G : Gx) (X : WX) (ev : Fm → Sto → R (List T)) : TA := tG G (RTs G) X ev
def asB (r : R T) : R Bool := r.bnd fun t st => match t with
  | .bl b => .ok b st
  | _ => .bad
abbrev tT (G : Gx) (X : WX) (ev : Fm → Sto → R T) : TT := tG G (REq Bool) X (fun ρ st => asB (ev ρ st))
section
variable {α β γ δ : Type} {G : Gx} {Rl : Rel α β} {Rm : Rel γ δ} {W W' : Wd} {H H' : Hp} {Q Q' : β → Hp → Prop} {E E' : XK}
theorem Post.shift (s : StOk G.K W H) (x : Ext W H W' H') {r : R α} (h : Post G Rl W H Q E r) : Post G Rl W' H' Q E r := by
  cases r with
  | ok t st => exact fun v W2 H2 e y s2 rl => h v W2 H2 e (x.trans s y) s2 rl
  | exc c xs st => exact fun cls d W2 H2 e y s2 rl => h cls d W2 H2 e (x.trans s y) s2 rl
  | bad => exact h
theorem Post.imp {r : R α} (h : Post G Rl W H Q E r) (hq : ∀ v H', Q v H' → Q' v H') (he : ∀ c d H', E c d H' → E' c d H') : Post G Rl W H Q' E' r := by
  cases r with
  | ok t st => exact fun v W2 H2 e y s2 rl => hq _ _ (h v W2 H2 e y s2 rl)
  | exc c xs st => exact fun cls d W2 H2 e y s2 rl => he _ _ _ (h cls d W2 H2 e y s2 rl)
  | bad => exact h
/-- one thing after another -/
theorem Post.bnd (s : StOk G.K W H) {r : R α} {k : α → Sto → R γ} {Q2 : δ → Hp → Prop} (h : Post G Rm W H Q2 E (r.bnd k)) :
    Post G Rl W H (fun b H1 => ∃ W1 a, Ext W H W1 H1 ∧ StOk G.K W1 H1 ∧ Rl W1 H1 b a ∧ Post G Rm W1 H1 Q2 E (k a W1.st)) E r := by
  cases r with
  | ok t st =>
    intro v W1 H1 e x s1 rl
    subst e
    exact ⟨W1, t, x, s1, rl, Post.shift s x h⟩
  | exc c xs st => exact fun cls d W2 H2 e y s2 rl => h cls d W2 H2 e y s2 rl
  | bad => exact h
end

section
variable {X : Cx} {a : Expr} {t u : TE}
theorem PE_imp {e : Expr} {t t' : TE} (h : PE X e t) (hi : ∀ σ H Q, t' σ H Q → t σ H Q) : PE X e t' := ⟨fun pins s σ H Q I q => h.run pins s σ H Q I (hi σ H Q q)⟩
theorem PT_imp {e : Expr} {t t' : TT} (h : PT X e t) (hi : ∀ σ H Q, t' σ H Q → t σ H Q) : PT X e t' := ⟨fun pins s σ H Q I q => h.run pins s σ H Q I (hi σ H Q q)⟩
theorem PW_imp {e : Expr} {t t' : TT} (h : PW X e t) (hi : ∀ σ H Q, t' σ H Q → t σ H Q) : PW X e t' := ⟨fun w pins s σ H Q I q => h.run w pins s σ H Q I (hi σ H Q q)⟩
theorem PA_imp {e : List Expr} {t t' : TA} (h : PA X e t) (hi : ∀ σ H Q, t' σ H Q → t σ H Q) : PA X e t' := ⟨fun pos pins s σ H Q I q => h.run pos pins s σ H Q I (hi σ H Q q)⟩
theorem PS_imp {e : Stmt} {t t' : TS} (h : PS X e t) (hi : ∀ D σ H, t' D σ H → t D σ H) : PS X e t' := ⟨fun pins s σ H D I q => h.run pins s σ H D I (hi D σ H q)⟩
theorem PSs_imp {e : List Stmt} {t t' : TS} (h : PSs X e t) (hi : ∀ D σ H, t' D σ H → t D σ H) : PSs X e t' := ⟨fun pins s σ H D I q => h.run pins s σ H D I (hi D σ H q)⟩
theorem PI_imp {tg e : Expr} {t t' : TI} (h : PI X tg e t) (hi : ∀ σ H Q, t' σ H Q → t σ H Q) : PI X tg e t' := ⟨fun pins s σ H Q I q => h.run pins s σ H Q I (hi σ H Q q)⟩
end
end Lm
/-! Operators over the trees. -/
namespace Lm
open PySem PySem.Spec PyProof.Rows L2

/-- a reading by values, from the trees: f hands back a tree (the store stands) -/
def Hand (G : Gx) (W : Wd) (H : Hp) (Q : VK) (z : T) : Prop := ∀ v W' H', W'.st = W.st → Ext W H W' H' → StOk G.K W' H' → Rep G.K W' H' v z → Q v H'
def rT2 (G : Gx) (f : Sto → T → T → Option T) : R2 := fun x y H Q => ∃ W t u z, StOk G.K W H ∧ Rep G.K W H x t ∧ Rep G.K W H y u ∧ f W.st t u = some z ∧ Hand G W H Q z
theorem Hand.here {G : Gx} {W : Wd} {H : Hp} {Q : VK} {z : T} {v : V} (h : Hand G W H Q z) (s : StOk G.K W H) (r : Rep G.K W H v z) : Q v H := h v W H rfl Ext.refl s r
/-- a new object at p -/
theorem Ext.new {W : Wd} {H : Hp} {p : Addr} {o : HO} (hp : H p = none) (s : ∀ a, W.L a → ∃ o, H a = some o) : Ext W H W (upd H p o) := by
  refine ⟨⟨Nat.le_refl _, fun _ _ => rfl, fun a u h _ => ?_, fun _ h => .inl h⟩, fun a u h _ _ => ?_, fun _ h _ => h, fun _ h => .inl h, fun a u h => ⟨u, ?_⟩⟩
  all_goals rw [upd_ne (ne_of_none h hp)]; exact h
theorem not_L_of_none {K : PySem.W.Frag} {W : Wd} {H : Hp} (s : StOk K W H) {p : Addr} (hp : H p = none) : ¬ W.L p := fun h => by
  obtain ⟨o, e⟩ := s.lh p h
  rw [hp] at e; cases e
theorem ObR.mv {K : PySem.W.Frag} {W W' : Wd} {H H' : Hp} {a : Addr} {o : Ob} (h : ObR K W H a o) (x : Ext0 W H W' H') (ha : ∀ u, H a = some u → H' a = some u) : ObR K W' H' a o := by
  cases o with
  | dead => trivial
  | lst ts => obtain ⟨xs, h1, h2⟩ := h; exact ⟨xs, ha _ h1, h2.mv0 x⟩
  | dK kvs => obtain ⟨xs, h1, h2⟩ := h; exact ⟨xs, ha _ h1, h2.mv x⟩
  | dT kvs => obtain ⟨xs, h1, h2⟩ := h; exact ⟨xs, ha _ h1, h2.mv x⟩
  | ins c fs => exact h.elim
theorem StOk.new {K : PySem.W.Frag} {W : Wd} {H : Hp} (s : StOk K W H) {p : Addr} {o : HO} (hp : H p = none) : StOk K W (upd H p o) := by
  have x := Ext.new (o := o) hp s.lh
  refine ⟨s.inj, s.liv, fun i ob e => (s.ob i ob e).mv x.toExt0 fun u h => ?_, fun a h => ?_⟩
  · rw [upd_ne (ne_of_none h hp)]; exact h
  · obtain ⟨u, e⟩ := s.lh a h
    exact ⟨u, by rw [upd_ne (ne_of_none e hp)]; exact e⟩
/-- a new tuple -/
theorem Hand.tup {G : Gx} {W : Wd} {H : Hp} {Q : VK} {ts : List T} {xs : List V} {p : Addr} (h : Hand G W H Q (.tup ts)) (s : StOk G.K W H) (r : Reps G.K W H xs ts) (hp : H p = none) : Q (.ref p) (upd H p (.tup xs)) :=
  h _ W _ rfl (Ext.new hp s.lh) (s.new hp) (.tup (.inl ⟨.inl upd_same, not_L_of_none s hp⟩) (r.mv (Ext.new hp s.lh)))
theorem Hand.lst {G : Gx} {W : Wd} {H : Hp} {Q : VK} {ts : List T} {xs : List V} {p : Addr} (h : Hand G W H Q (.lst ts)) (s : StOk G.K W H) (r : Reps G.K W H xs ts) (hp : H p = none) : Q (.ref p) (upd H p (.lst xs)) :=
  h _ W _ rfl (Ext.new hp s.lh) (s.new hp) (.lst upd_same (not_L_of_none s hp) (r.mv (Ext.new hp s.lh)))

section
variable {X : Cx} {G : Gx}
theorem int_of {G : Gx} {W : Wd} {H : Hp} {x : V} {i : Int} (h : Rep G.K W H x (.int i)) : x = .int i := by cases h; rfl
def opOf : BOp → Operator
  | .add => .Add
  | .sub => .Sub
  | .mul => .Mult
  | .fdiv => .FloorDiv
  | .mod => .Mod
  | .pow => .Pow
def binD (o : BOp) (st : Sto) (t u : T) : Option T := binop o (deref st t) (deref st u)
theorem OpR.of {f : Value → Value → Sem Value} {r r' : R2} (h : OpR X f r) (hi : ∀ x y H Q, r' x y H Q → r x y H Q) : OpR X f r' := fun pins s σ H x y v u Q I rx ry q => h pins s σ H x y v u Q I rx ry (hi _ _ _ _ q)
theorem op_binInt (o : BOp) {i j : Int} {z : T} (pins : List (Addr × Obj)) (s : Shared) (σ : L2.St) (H : Hp) (v u : Value) (Q : VK) (I : Inv X pins σ H s) (rx : RelV (.int i) v) (ry : RelV (.int j) u)
    (e : binop o (.int i) (.int j) = some z) (q : ∀ k, z = .int k → Q (.int k) H) : wpAny (model X.prog X.w) X.A (binaryOp (opOf o) v u) (EP X pins σ Q) X.xe s := by
  cases o with
  | add => exact op_add pins s σ H _ _ v u Q I rx ry ⟨i, j, rfl, rfl, q _ (Option.some.inj e).symm⟩
  | sub => exact op_sub pins s σ H _ _ v u Q I rx ry ⟨i, j, rfl, rfl, q _ (Option.some.inj e).symm⟩
  | mul =>
    have e' : (if mulOk i j = true then some (T.int (i * j)) else none) = some z := e
    split at e'
    · rename_i hc
      have q' := q _ (Option.some.inj e').symm
      unfold mulOk at hc
      simp only [Bool.or_eq_true, decide_eq_true_eq] at hc
      rcases hc with (hc | hc) | hc
      · exact op_mul pins s σ H _ _ v u Q I rx ry ⟨i, j, rfl, rfl, .inl hc, q'⟩
      · exact op_mul pins s σ H _ _ v u Q I rx ry ⟨i, j, rfl, rfl, .inr hc, q'⟩
      · exact op_mulW pins s σ H _ _ v u Q I rx ry ⟨i, j, rfl, rfl, (show i.natAbs.log2 + j.natAbs.log2 < 1000000 by omega), q'⟩
    · cases e'
  | fdiv =>
    have e' : (if fdivOk j = true then some (T.int (i / j)) else none) = some z := e
    split at e'
    · rename_i hc
      have q' := q _ (Option.some.inj e').symm
      unfold fdivOk at hc
      simp only [Bool.and_eq_true, Bool.or_eq_true, decide_eq_true_eq] at hc
      obtain ⟨h0, hc | hc⟩ := hc
      · exact op_fdiv pins s σ H _ _ v u Q I rx ry ⟨i, j, rfl, rfl, ⟨h0, hc⟩, q'⟩
      · exact op_fdivW pins s σ H _ _ v u Q I rx ry ⟨i, j, rfl, rfl, ⟨h0, hc⟩, q'⟩
    · cases e'
  | mod =>
    have e' : (if 0 < j then some (T.int (i % j)) else none) = some z := e
    split at e'
    · rename_i hc
      exact op_mod pins s σ H _ _ v u Q I rx ry ⟨i, j, rfl, rfl, hc, q _ (Option.some.inj e').symm⟩
    · cases e'
  | pow =>
    have e' : (if 0 ≤ j ∧ j ≤ 1000000 ∧ i.natAbs < 2 ^ 64 then some (T.int (i ^ j.toNat)) else none) = some z := e
    split at e'
    · rename_i hc
      exact op_pow pins s σ H _ _ v u Q I rx ry ⟨i, j, rfl, rfl, hc, q _ (Option.some.inj e').symm⟩
    · cases e'
theorem op_binT (o : BOp) (hK : X.K = G.K) : OpR X (binaryOp (opOf o)) (rT2 G (binD o)) := by
  intro pins s σ H x y v u Q I rx ry h
  obtain ⟨W, t, w, z, so, hx, hy, e, hQ⟩ := h
  have e' : binop o (deref W.st t) (deref W.st w) = some z := e
  cases p : deref W.st t with
  | int i =>
    have e1 := deref_plain p (by intro n h; cases h) (by intro n h; cases h)
    cases p2 : deref W.st w with
    | int j =>
      have e2 := deref_plain p2 (by intro n h; cases h) (by intro n h; cases h)
      rw [p, p2] at e'
      subst e1; subst e2
      cases hx; cases hy
      exact op_binInt o pins s σ H v u Q I rx ry e' fun k hk => hQ.here so (hk ▸ .int k)
    | _ => rw [p, p2] at e'; cases o <;> cases e'
  | str i =>
    have e1 := deref_plain p (by intro n h; cases h) (by intro n h; cases h)
    cases p2 : deref W.st w with
    | str j =>
      have e2 := deref_plain p2 (by intro n h; cases h) (by intro n h; cases h)
      rw [p, p2] at e'
      subst e1; subst e2
      cases hx; cases hy
      cases o <;> first | cases e' | skip
      have e3 : (if i.length + j.length ≤ sizeLine then some (T.str ⟨i.cps ++ j.cps⟩) else none) = some z := e'
      split at e3
      · rename_i hz
        cases e3
        exact op_add_str pins s σ H _ _ v u Q I rx ry ⟨i, j, rfl, rfl, hz, hQ.here so (.str _)⟩
      · cases e3
    | _ => rw [p, p2] at e'; cases o <;> cases e'
  | tup ts =>
    obtain ⟨a, xs, rfl, ha, hra⟩ := so.tup hx p
    cases p2 : deref W.st w with
    | tup us =>
      obtain ⟨b, ys, rfl, hb, hrb⟩ := so.tup hy p2
      rw [p, p2] at e'
      cases o <;> first | cases e' | skip
      have e3 : (if ts.length + us.length ≤ sizeLine then some (T.tup (ts ++ us)) else none) = some z := e'
      split at e3
      · rename_i hz
        cases e3
        refine op_catA pins s σ H _ _ v u Q I rx ry ⟨a, b, xs, ys, rfl, rfl, by rw [hK]; exact ha.sq, by rw [hK]; exact hb.sq, by rw [hra.length, hrb.length]; exact hz, fun h0 => ?_, fun h1 h2 => ?_, fun _ _ p hp => hQ.tup so (hra.append hrb) hp⟩
        · subst h0
          cases hra
          exact hQ.here so (.tup hb hrb)
        · subst h2
          cases hrb
          exact hQ.here so (by rw [List.append_nil]; exact .tup ha hra)
      · cases e3
    | _ => rw [p, p2] at e'; cases o <;> cases e'
  | lst ts =>
    obtain ⟨a, xs, rfl, ha, hra⟩ := so.lst hx p
    cases p2 : deref W.st w with
    | lst us =>
      obtain ⟨b, ys, rfl, hb, hrb⟩ := so.lst hy p2
      rw [p, p2] at e'
      cases o <;> first | cases e' | skip
      have e3 : (if ts.length + us.length ≤ sizeLine then some (T.lst (ts ++ us)) else none) = some z := e'
      split at e3
      · rename_i hz
        cases e3
        exact op_cat pins s σ H _ _ v u Q I rx ry ⟨a, b, xs, ys, rfl, rfl, ha, hb, by rw [hra.length, hrb.length]; exact hz, fun p hp => hQ.lst so (hra.append hrb) hp⟩
      · cases e3
    | _ => rw [p, p2] at e'; cases o <;> cases e'
  | _ => rw [p] at e'; cases o <;> cases e'

/-! ### comparisons -/
def cOf : COp → CmpOp
  | .eq => .Eq
  | .ne => .NotEq
  | .lt => .Lt
  | .le => .LtE
  | .gt => .Gt
  | .ge => .GtE
  | .is_ => .Is
  | .isNot => .IsNot
  | .in_ => .In
  | .notIn => .NotIn
def cmpD (o : COp) (st : Sto) (t u : T) : Option T := (cmpop st o t u).map T.bl
theorem eqT_some {x y : T} {b : Bool} (h : eqT x y = some b) : SeqAt.shaped x.toD = true ∧ SeqAt.shaped y.toD = true ∧ b = PyData.eqv x.toD y.toD := by
  unfold eqT at h
  split at h
  · rename_i hc
    simp only [Bool.and_eq_true] at hc
    exact ⟨hc.1, hc.2, (Option.some.inj h).symm⟩
  · cases h
theorem inT_some {x : T} {ys : List T} {b : Bool} (h : inT x ys = some b) : SeqAt.shaped x.toD = true ∧ SeqAt.shaped (.list (T.toDs ys)) = true ∧ b = (T.toDs ys).any fun z => PyData.eqv z x.toD := by
  unfold inT at h
  split at h
  · rename_i hc
    simp only [Bool.and_eq_true] at hc
    exact ⟨hc.1, hc.2, (Option.some.inj h).symm⟩
  · cases h
theorem isNone_v {W : Wd} {H : Hp} {x : V} {t : T} {b : Bool} (h : Rep G.K W H x t) (e : isNone t = some b) : decide (x = .non) = b := by
  cases h <;> cases e <;> simp

theorem op_cmpT (o : COp) (hK : X.K = G.K) (hu : X.A.units + 65 < cLine) : OpR X (compareOp (cOf o)) (rT2 G (cmpD o)) := by
  intro pins s σ H x y v u Q I rx ry h
  obtain ⟨W, t, w, z, so, hx, hy, e, hQ⟩ := h
  have e0 : (cmpop W.st o t w).map T.bl = some z := e
  obtain ⟨b, e1, rfl⟩ := Option.map_eq_some_iff.mp e0
  have fin : ∀ {c : Bool}, c = b → Q (.bl c) H := fun h => h ▸ hQ.here so (.bl b)
  have ord : ∀ (i j : Int), t = .int i → w = .int j → x = .int i ∧ y = .int j := fun i j h1 h2 => by
    subst h1; subst h2
    cases hx; cases hy
    exact ⟨rfl, rfl⟩
  cases o with
  | eq =>
    obtain ⟨c1, c2, rfl⟩ := eqT_some (show eqT (deref W.st t) (deref W.st w) = some b from e1)
    exact op_eqD (by omega) pins s σ H x y v u Q I rx ry ⟨_, _, by rw [hK]; exact so.dp hx c1, by rw [hK]; exact so.dp hy c2, c1, c2, fin rfl⟩
  | ne =>
    have e2 : (eqT (deref W.st t) (deref W.st w)).map (!·) = some b := e1
    obtain ⟨c, e3, rfl⟩ := Option.map_eq_some_iff.mp e2
    obtain ⟨c1, c2, rfl⟩ := eqT_some e3
    exact op_neD (by omega) pins s σ H x y v u Q I rx ry ⟨_, _, by rw [hK]; exact so.dp hx c1, by rw [hK]; exact so.dp hy c2, c1, c2, fin rfl⟩
  | lt =>
    unfold cmpop at e1; dsimp only at e1
    split at e1 <;> cases e1
    obtain ⟨rfl, rfl⟩ := ord _ _ rfl rfl
    exact op_lt pins s σ H _ _ v u Q I rx ry ⟨_, _, rfl, rfl, fin rfl⟩
  | le =>
    unfold cmpop at e1; dsimp only at e1
    split at e1 <;> cases e1
    obtain ⟨rfl, rfl⟩ := ord _ _ rfl rfl
    exact op_le pins s σ H _ _ v u Q I rx ry ⟨_, _, rfl, rfl, fin rfl⟩
  | gt =>
    unfold cmpop at e1; dsimp only at e1
    split at e1 <;> cases e1
    obtain ⟨rfl, rfl⟩ := ord _ _ rfl rfl
    exact op_gt pins s σ H _ _ v u Q I rx ry ⟨_, _, rfl, rfl, fin rfl⟩
  | ge =>
    unfold cmpop at e1; dsimp only at e1
    split at e1 <;> cases e1
    obtain ⟨rfl, rfl⟩ := ord _ _ rfl rfl
    exact op_ge pins s σ H _ _ v u Q I rx ry ⟨_, _, rfl, rfl, fin rfl⟩
  | is_ =>
    unfold cmpop at e1; dsimp only at e1
    cases w with
    | non =>
      cases hy
      exact op_isN pins s σ H _ _ v u Q I rx ry ⟨rfl, fin (isNone_v hx e1)⟩
    | bl c =>
      cases t <;> cases e1
      cases hx; cases hy
      exact op_isBl pins s σ H _ _ v u Q I rx ry ⟨_, _, rfl, rfl, fin rfl⟩
    | _ => cases e1
  | isNot =>
    unfold cmpop at e1; dsimp only at e1
    cases w with
    | non =>
      cases hy
      obtain ⟨c, e3, rfl⟩ := Option.map_eq_some_iff.mp e1
      exact op_notN pins s σ H _ _ v u Q I rx ry ⟨rfl, fin (by rw [isNone_v hx e3])⟩
    | _ => cases e1
  | in_ =>
    have e2 : ((items W.st w).bind fun ys => inT (deref W.st t) ys) = some b := e1
    obtain ⟨ys, e3, e4⟩ := Option.bind_eq_some_iff.mp e2
    obtain ⟨c1, c2, rfl⟩ := inT_some e4
    have hd := so.dp hx c1
    have ca := SeqAt.canLay_of_shaped c2
    obtain ⟨a, xs, rfl, hq, hr⟩ := so.items hy e3
    have hda := Reps.dp ys xs hr (by simpa [PyData.canLay0] using ca)
    rcases hq with hq | hq
    · exact op_inD hu pins s σ H _ _ v u Q I rx ry ⟨_, _, by rw [hK]; exact hd, by rw [hK]; exact .lst hq hda, c1, c2, fin rfl⟩
    · obtain ⟨as, r1⟩ := Dp.reads I _ x v (by rw [hK]; exact hd) rx
      obtain ⟨bs, r2⟩ := Dp.reads I (.tuple (T.toDs ys)) _ u (by rw [hK]; exact .tup hq hda) ry
      exact SeqAt.in_tuple_reads r2 r1 (by simpa [PyData.canLay0] using ca) (SeqAt.canLay_of_shaped c1) (room_in_shaped c1 hu) ⟨.bl _, H, I, rfl, fin rfl⟩
  | notIn =>
    have e2 : ((items W.st w).bind fun ys => inT (deref W.st t) ys).map (!·) = some b := e1
    obtain ⟨c, e2', rfl⟩ := Option.map_eq_some_iff.mp e2
    obtain ⟨ys, e3, e4⟩ := Option.bind_eq_some_iff.mp e2'
    obtain ⟨c1, c2, rfl⟩ := inT_some e4
    have hd := so.dp hx c1
    have ca := SeqAt.canLay_of_shaped c2
    obtain ⟨a, xs, rfl, hq, hr⟩ := so.items hy e3
    have hda := Reps.dp ys xs hr (by simpa [PyData.canLay0] using ca)
    rcases hq with hq | hq
    · exact op_notInD hu pins s σ H _ _ v u Q I rx ry ⟨_, _, by rw [hK]; exact hd, by rw [hK]; exact .lst hq hda, c1, c2, fin rfl⟩
    · obtain ⟨as, r1⟩ := Dp.reads I _ x v (by rw [hK]; exact hd) rx
      obtain ⟨bs, r2⟩ := Dp.reads I (.tuple (T.toDs ys)) _ u (by rw [hK]; exact .tup hq hda) ry
      exact SeqAt.notIn_tuple_reads r2 r1 (by simpa [PyData.canLay0] using ca) (SeqAt.canLay_of_shaped c1) (room_in_shaped c1 hu) ⟨.bl _, H, I, rfl, fin rfl⟩
end
end Lm
/-! Built-in functions over the trees. -/
namespace Lm
open PySem PySem.Spec PyProof.Rows L2

def rTn (G : Gx) (f : Sto → List T → Option T) : List V → Hp → VK → Prop := fun xs H Q => ∃ W ts z, StOk G.K W H ∧ Reps G.K W H xs ts ∧ f W.st ts = some z ∧ Hand G W H Q z
theorem allB_some : ∀ {ts : List T} {bs : List Bool}, allB ts = some bs → ts = bs.map T.bl
  | [], _, h => by cases h; rfl
  | t :: ts, bs, h => by
    cases t with
    | bl b =>
      have h' : (allB ts).map (b :: ·) = some bs := h
      obtain ⟨cs, h1, rfl⟩ := Option.map_eq_some_iff.mp h'
      rw [allB_some h1]; rfl
    | _ => cases h
theorem allI_some : ∀ {ts : List T} {ns : List Int}, allI ts = some ns → ts = ns.map T.int
  | [], _, h => by cases h; rfl
  | t :: ts, bs, h => by
    cases t with
    | int b =>
      have h' : (allI ts).map (b :: ·) = some bs := h
      obtain ⟨cs, h1, rfl⟩ := Option.map_eq_some_iff.mp h'
      rw [allI_some h1]; rfl
    | _ => cases h
theorem maxI_in : ∀ (n : Int) (ns : List Int), maxI (n :: ns) ∈ n :: ns ∧ ∀ y ∈ n :: ns, y ≤ maxI (n :: ns)
  | n, [] => ⟨by simp [maxI], by simp [maxI]⟩
  | n, k :: ns => by
    obtain ⟨h1, h2⟩ := maxI_in k ns
    have e : maxI (n :: k :: ns) = max n (maxI (k :: ns)) := rfl
    rw [e]
    refine ⟨?_, fun y hy => ?_⟩
    · by_cases c : n ≤ maxI (k :: ns)
      · rw [Int.max_eq_right c]; exact List.mem_cons_of_mem _ h1
      · rw [Int.max_eq_left (by omega)]; exact List.mem_cons_self
    · rcases List.mem_cons.mp hy with rfl | hy
      · exact Int.le_max_left _ _
      · exact Int.le_trans (h2 y hy) (Int.le_max_right _ _)
theorem minI_in : ∀ (n : Int) (ns : List Int), minI (n :: ns) ∈ n :: ns ∧ ∀ y ∈ n :: ns, minI (n :: ns) ≤ y
  | n, [] => ⟨by simp [minI], by simp [minI]⟩
  | n, k :: ns => by
    obtain ⟨h1, h2⟩ := minI_in k ns
    have e : minI (n :: k :: ns) = min n (minI (k :: ns)) := rfl
    rw [e]
    refine ⟨?_, fun y hy => ?_⟩
    · by_cases c : n ≤ minI (k :: ns)
      · rw [Int.min_eq_left c]; exact List.mem_cons_self
      · rw [Int.min_eq_right (by omega)]; exact List.mem_cons_of_mem _ h1
    · rcases List.mem_cons.mp hy with rfl | hy
      · exact Int.min_le_left _ _
      · exact Int.le_trans (Int.min_le_right _ _) (h2 y hy)
section
variable {X : Cx} {G : Gx}
theorem Reps.bls {K : PySem.W.Frag} {W : Wd} {H : Hp} : ∀ {bs : List Bool} {vs : List V}, Reps K W H vs (bs.map T.bl) → vs = bs.map V.bl
  | [], _, h => by cases h; rfl
  | n :: ns, _, h => by
    cases h with
    | cons h1 h2 => cases h1; rw [Reps.bls h2]; rfl
theorem CallR.of {f : Value} {r r' : List V → Hp → VK → Prop} (h : CallR X f r) (hi : ∀ x H Q, r' x H Q → r x H Q) : CallR X f r' := fun pins s σ H xs us Q I rx q => h pins s σ H xs us Q I rx (hi _ _ _ q)
theorem one_of {ts : List T} {xs : List V} {W : Wd} {H : Hp} {t : T} (r : Reps G.K W H xs [t]) : ∃ x, xs = [x] ∧ Rep G.K W H x t := by
  cases r with
  | cons h1 h2 => cases h2; exact ⟨_, rfl, h1⟩
theorem two_of {xs : List V} {W : Wd} {H : Hp} {t u : T} (r : Reps G.K W H xs [t, u]) : ∃ x y, xs = [x, y] ∧ Rep G.K W H x t ∧ Rep G.K W H y u := by
  cases r with
  | cons h1 h2 =>
    obtain ⟨y, rfl, h3⟩ := one_of (ts := []) h2
    exact ⟨_, _, rfl, h1, h3⟩
theorem bi_len (hK : X.K = G.K) : CallR X (.builtin "len") (rTn G fun st ts => biF st .len ts) := CallR.of call_len fun xs H Q h => by
  obtain ⟨W, ts, z, so, r, e, hQ⟩ := h
  match ts, r, e with
  | [t], r, e =>
    obtain ⟨x, rfl, rx⟩ := one_of (ts := []) r
    have e' : (match deref W.st t with | .lst ys => some (T.int ys.length) | .tup ys => some (.int ys.length) | .scr ns => some (.int ns.length) | .str s => if s.length ≤ sizeLine then some (.int s.length) else none | _ => none) = some z := e
    cases p : deref W.st t with
    | lst ys =>
      rw [p] at e'; cases e'
      obtain ⟨a, vs, rfl, ha, hr⟩ := so.lst rx p
      exact ⟨_, ys.length, rfl, .inl ⟨vs, SqL.of ha, by rw [hr.length]⟩, hQ.here so (.int _)⟩
    | tup ys =>
      rw [p] at e'; cases e'
      obtain ⟨a, vs, rfl, ha, hr⟩ := so.tup rx p
      exact ⟨_, ys.length, rfl, .inr ⟨vs, by rw [hK]; exact ha.sq, by rw [hr.length]⟩, hQ.here so (.int _)⟩
    | scr ns =>
      rw [p] at e'; cases e'
      obtain ⟨a, rfl, ha⟩ := so.scr rx p
      exact ⟨_, ns.length, rfl, .inl ⟨_, by rw [hK]; exact ha.sq, by simp⟩, hQ.here so (.int _)⟩
    | str s =>
      rw [p] at e'
      have e2 := deref_plain p (by intro n h; cases h) (by intro n h; cases h)
      subst e2
      cases rx
      dsimp only at e'
      split at e'
      · rename_i hz
        cases e'
        exact ⟨_, s.length, rfl, ⟨hz, rfl⟩, hQ.here so (.int _)⟩
      · cases e'
    | _ => rw [p] at e'; cases e'
  | [], _, e => cases e
  | _ :: _ :: _, _, e => cases e
theorem bi_all (hK : X.K = G.K) (hc : X.calm = true) : CallR X (.builtin "all") (rTn G fun st ts => biF st .all ts) := CallR.of (cr_all hc) fun xs H Q h => by
  obtain ⟨W, ts, z, so, r, e, hQ⟩ := h
  match ts, r, e with
  | [t], r, e =>
    obtain ⟨x, rfl, rx⟩ := one_of (ts := []) r
    have e' : (match deref W.st t with | .lst ys => (allB ys).map fun bs => T.bl (bs.all id) | _ => none) = some z := e
    cases p : deref W.st t with
    | lst ys =>
      rw [p] at e'
      obtain ⟨bs, h1, rfl⟩ := Option.map_eq_some_iff.mp e'
      obtain ⟨a, vs, rfl, ha, hr⟩ := so.lst rx p
      rw [allB_some h1] at hr
      exact ⟨a, bs, rfl, SqL.of (hr.bls ▸ ha), hQ.here so (.bl _)⟩
    | _ => rw [p] at e'; cases e'
  | [], _, e => cases e
  | _ :: _ :: _, _, e => cases e
theorem bi_any (hK : X.K = G.K) (hc : X.calm = true) : CallR X (.builtin "any") (rTn G fun st ts => biF st .any ts) := CallR.of (cr_any hc) fun xs H Q h => by
  obtain ⟨W, ts, z, so, r, e, hQ⟩ := h
  match ts, r, e with
  | [t], r, e =>
    obtain ⟨x, rfl, rx⟩ := one_of (ts := []) r
    have e' : (match deref W.st t with | .lst ys => (allB ys).map fun bs => T.bl (bs.any id) | _ => none) = some z := e
    cases p : deref W.st t with
    | lst ys =>
      rw [p] at e'
      obtain ⟨bs, h1, rfl⟩ := Option.map_eq_some_iff.mp e'
      obtain ⟨a, vs, rfl, ha, hr⟩ := so.lst rx p
      rw [allB_some h1] at hr
      exact ⟨a, bs, rfl, SqL.of (hr.bls ▸ ha), hQ.here so (.bl _)⟩
    | _ => rw [p] at e'; cases e'
  | [], _, e => cases e
  | _ :: _ :: _, _, e => cases e
theorem bi_sum (hK : X.K = G.K) (hc : X.calm = true) : CallR X (.builtin "sum") (rTn G fun st ts => biF st .sum ts) := CallR.of (cr_sum hc) fun xs H Q h => by
  obtain ⟨W, ts, z, so, r, e, hQ⟩ := h
  match ts, r, e with
  | [t], r, e =>
    obtain ⟨x, rfl, rx⟩ := one_of (ts := []) r
    have e' : (match deref W.st t with | .lst ys => (allI ys).map fun ns => T.int ns.sum | _ => none) = some z := e
    cases p : deref W.st t with
    | lst ys =>
      rw [p] at e'
      obtain ⟨bs, h1, rfl⟩ := Option.map_eq_some_iff.mp e'
      obtain ⟨a, vs, rfl, ha, hr⟩ := so.lst rx p
      rw [allI_some h1] at hr
      exact ⟨a, bs, rfl, SqL.of (hr.ints_inv ▸ ha), hQ.here so (.int _)⟩
    | _ => rw [p] at e'; cases e'
  | [], _, e => cases e
  | _ :: _ :: _, _, e => cases e
theorem bi_max1 (hK : X.K = G.K) (hc : X.calm = true) : CallR X (.builtin "max") (rTn G fun st ts => biF st .max1 ts) := CallR.of (cr_max hc) fun xs H Q h => by
  obtain ⟨W, ts, z, so, r, e, hQ⟩ := h
  match ts, r, e with
  | [t], r, e =>
    obtain ⟨x, rfl, rx⟩ := one_of (ts := []) r
    have e' : (match deref W.st t with | .lst ys => (match allI ys with | some (n :: ns) => some (T.int (maxI (n :: ns))) | _ => none) | _ => none) = some z := e
    cases p : deref W.st t with
    | lst ys =>
      rw [p] at e'
      dsimp only at e'
      split at e'
      · rename_i n ns h1
        cases e'
        obtain ⟨a, vs, rfl, ha, hr⟩ := so.lst rx p
        rw [allI_some h1] at hr
        obtain ⟨m1, m2⟩ := maxI_in n ns
        refine ⟨a, n :: ns, rfl, SqL.of (hr.ints_inv ▸ ha), by simp, fun m hm hb => ?_⟩
        have e2 : m = maxI (n :: ns) := Int.le_antisymm (m2 m hm) (hb _ m1)
        rw [e2]
        exact hQ.here so (.int _)
      · cases e'
    | _ => rw [p] at e'; cases e'
  | [], _, e => cases e
  | _ :: _ :: _, _, e => cases e
theorem bi_min1 (hK : X.K = G.K) (hc : X.calm = true) : CallR X (.builtin "min") (rTn G fun st ts => biF st .min1 ts) := CallR.of (cr_min hc) fun xs H Q h => by
  obtain ⟨W, ts, z, so, r, e, hQ⟩ := h
  match ts, r, e with
  | [t], r, e =>
    obtain ⟨x, rfl, rx⟩ := one_of (ts := []) r
    have e' : (match deref W.st t with | .lst ys => (match allI ys with | some (n :: ns) => some (T.int (minI (n :: ns))) | _ => none) | _ => none) = some z := e
    cases p : deref W.st t with
    | lst ys =>
      rw [p] at e'
      dsimp only at e'
      split at e'
      · rename_i n ns h1
        cases e'
        obtain ⟨a, vs, rfl, ha, hr⟩ := so.lst rx p
        rw [allI_some h1] at hr
        obtain ⟨m1, m2⟩ := minI_in n ns
        refine ⟨a, n :: ns, rfl, SqL.of (hr.ints_inv ▸ ha), by simp, fun m hm hb => ?_⟩
        have e2 : m = minI (n :: ns) := Int.le_antisymm (hb _ m1) (m2 m hm)
        rw [e2]
        exact hQ.here so (.int _)
      · cases e'
    | _ => rw [p] at e'; cases e'
  | [], _, e => cases e
  | _ :: _ :: _, _, e => cases e
theorem bi_abs : CallR X (.builtin "abs") (rTn G fun st ts => biF st .abs ts) := CallR.of call_abs fun xs H Q h => by
  obtain ⟨W, ts, z, so, r, e, hQ⟩ := h
  match ts, r, e with
  | [.int i], r, e =>
    obtain ⟨x, rfl, rx⟩ := one_of (ts := []) r
    cases rx; cases e
    exact ⟨i, rfl, hQ.here so (.int _)⟩
theorem bi_intOf : CallR X (.type "int") (rTn G fun st ts => biF st .intOf ts) := CallR.of call_int1 fun xs H Q h => by
  obtain ⟨W, ts, z, so, r, e, hQ⟩ := h
  match ts, r, e with
  | [.int i], r, e =>
    obtain ⟨x, rfl, rx⟩ := one_of (ts := []) r
    cases rx; cases e
    exact .inl ⟨i, rfl, hQ.here so (.int _)⟩
  | [.bl b], r, e =>
    obtain ⟨x, rfl, rx⟩ := one_of (ts := []) r
    cases rx; cases e
    exact .inr ⟨b, rfl, hQ.here so (.int _)⟩
theorem bi_max2 (hc : X.calm = true) : CallR X (.builtin "max") (rTn G fun st ts => biF st .max2 ts) := CallR.of (call_max2 hc) fun xs H Q h => by
  obtain ⟨W, ts, z, so, r, e, hQ⟩ := h
  match ts, r, e with
  | [.int i, .int j], r, e =>
    obtain ⟨x, y, rfl, rx, ry⟩ := two_of r
    cases rx; cases ry; cases e
    exact ⟨i, j, rfl, hQ.here so (.int _)⟩
theorem bi_min2 (hc : X.calm = true) : CallR X (.builtin "min") (rTn G fun st ts => biF st .min2 ts) := CallR.of (call_min2 hc) fun xs H Q h => by
  obtain ⟨W, ts, z, so, r, e, hQ⟩ := h
  match ts, r, e with
  | [.int i, .int j], r, e =>
    obtain ⟨x, y, rfl, rx, ry⟩ := two_of r
    cases rx; cases ry; cases e
    exact ⟨i, j, rfl, hQ.here so (.int _)⟩
theorem bi_strOf : CallR X (.type "str") (rTn G fun st ts => match ts with | [.int i] => biF st .strOf [.int i] | _ => none) := CallR.of call_str_int fun xs H Q h => by
  obtain ⟨W, ts, z, so, r, e, hQ⟩ := h
  match ts, r, e with
  | [.int i], r, e =>
    obtain ⟨x, rfl, rx⟩ := one_of (ts := []) r
    cases rx
    have e' : (if i.natAbs.log2 < 1920 then some (T.str (Str.ofString (toString i))) else none) = some z := e
    split at e'
    · rename_i hc
      cases e'
      exact ⟨i, rfl, hc, hQ.here so (.str _)⟩
    · cases e'
theorem bi_strOf' : CallR X (.type "str") (rTn G fun st ts => biF st .strOf ts) := CallR.of bi_strOf fun xs H Q h => by
  obtain ⟨W, ts, z, so, r, e, hQ⟩ := h
  match ts, r, e with
  | [.int i], r, e => exact ⟨W, _, z, so, r, e, hQ⟩
theorem bi_tupleOf (hK : X.K = G.K) : CallR X (.type "tuple") (rTn G fun st ts => biF st .tupleOf ts) := CallR.of call_tuple_of fun xs H Q h => by
  obtain ⟨W, ts, z, so, r, e, hQ⟩ := h
  match ts, r, e with
  | [t], r, e =>
    obtain ⟨x, rfl, rx⟩ := one_of (ts := []) r
    have e' : (items W.st t).map T.tup = some z := e
    obtain ⟨ys, h1, rfl⟩ := Option.map_eq_some_iff.mp e'
    unfold items at h1
    cases p : deref W.st t with
    | lst us =>
      rw [p] at h1; cases h1
      obtain ⟨a, vs, rfl, ha, hr⟩ := so.lst rx p
      exact ⟨a, vs, rfl, .inl ⟨SqL.of ha, fun l hl => hQ.tup so hr hl⟩⟩
    | tup us =>
      rw [p] at h1; cases h1
      obtain ⟨a, vs, rfl, ha, hr⟩ := so.tup rx p
      exact ⟨a, vs, rfl, .inr ⟨by rw [hK]; exact ha.sq, hQ.here so (.tup ha hr)⟩⟩
    | scr ns =>
      rw [p] at h1; cases h1
      obtain ⟨a, rfl, ha⟩ := so.scr rx p
      exact ⟨a, _, rfl, .inl ⟨by rw [hK]; exact ha.sq, fun l hl => hQ.tup so (Reps.ints _) hl⟩⟩
    | _ => rw [p] at h1; cases h1
  | [], _, e => cases e
  | _ :: _ :: _, _, e => cases e
end
end Lm
/-! Calls of the text's own defs: the promise (as FnOk, with the guards around told), positional and named arguments. -/
namespace Lm
open PySem PySem.Spec PyProof.Rows L2

structure FnG (P : Program) (w : World) (K : PySem.W.Frag) (mg : Str → Option Value) (base : Heap) (k : Nat) (f : Addr) (fd : FuncData) (ps : List Str) (sp : Sp) : Prop where
  len : ∀ vs H Q E, sp vs H Q E → vs.length = ps.length
  run : ∀ (A : Around) (outer : List Env) (s : Shared) (H : Hp) (args : Args) (us : List Value) (vs : List V) (Q : VK) (E : XK), Room k A → A.guards = some [] → Env0 P w K mg base A outer s H → BindsTo s fd args (ps.zip us) → Vals vs us → sp vs H Q E →
    codeAny (model P w) A (.call (.ref f) args) (CR (L2.CX P w) outer P w H s Q E) s

theorem fnG_of {P : Program} {w : World} {K : PySem.W.Frag} {mg : Str → Option Value} {base : Heap} {k : Nat} {f : Addr} {name qual : Str} {params : Arguments} {body : List Stmt} {scope : Scope} {dV kV doc pm cdv ct oc : Value} {an od : Option Addr}
    {osl : Array (Option Value)} {N ps : List Str} {sp : Sp} (lk : K.lookup f = some ⟨oc, od, .func (PySem.W.fnOf name qual params body scope dV kV doc pm an cdv ct), osl⟩) (hcd : PySem.W.codeIn K cdv qual = true) (S : FnScope N ps scope)
    (len : ∀ vs H Q E, sp vs H Q E → vs.length = ps.length)
    (hbody : ∀ (A : Around) (outer : List PySem.Env) (s : Shared) (H : Hp) (vs : List V) (Q : VK) (E : XK), Room k (A.deeper (envOfC qual scope s.heap.objs.size f cdv)) → (A.deeper (envOfC qual scope s.heap.objs.size f cdv)).guards = some [] → sp vs H Q E →
      ∃ t, PSs (cxOf (L2.CX P w) P w K mg base N qual scope f cdv A outer s H E) body t ∧ t { nx := fun _ H' => Q .non H', rt := Q } (start N vs) H) :
    FnG P w K mg base (k + 1) f (PySem.W.fnOf name qual params body scope dV kV doc pm an cdv ct) ps sp := by
  refine ⟨len, fun A outer s H args us vs Q E hr hgd e0 hb r hsp => ?_⟩
  have hl := len _ _ _ _ hsp
  have KX : K.In s.heap := e0.mod.kin.keeps fun b o e => (e0.bs b o e).1
  have lim : s.heap.NoLimit := e0.mod.nolimit.keeps fun b o e => (e0.bs b o e).1
  have hkind : ∀ y ∈ ps.zip us, scope.names.lookup y.1 = some .local ∨ (scope.names.lookup y.1 = some .cell ∧ ((cellsFrom (s.heap.objs.size + 1) scope.names []).lookup y.1).isSome = true) := fun ⟨n, v⟩ hy => by
    rcases S.par n (List.of_mem_zip hy).1 with q | q
    · exact .inl q
    · exact .inr ⟨q, PySem.W.cellsFrom_some _ _ _ (.inl q)⟩
  refine codeAny_call_function hr.depth (KX _ _ lk) rfl S.co S.gen rfl (PySem.W.codeRec_of KX hcd) (hb _ _ _ _ ?_)
  refine wpAny_newFunctionEnv_cells S.kind hkind fun env he s1 x => ?_
  subst he
  refine ⟨lim.keeps x.toInCall.keep, codeAny_func ?_⟩
  obtain ⟨t, ht, hq⟩ := hbody A outer s H vs Q E (hr.deeper _) hgd hsp
  have I : Inv (cxOf (L2.CX P w) P w K mg base N qual scope f cdv A outer s H E) [] (start N vs) H s1 := inv_start S hr.hd e0 hl r x
  refine wpAny_mono (ht.run [] s1 (start N vs) H _ I hq) (fun fl s' hs => ?_) fun e s' hs => hs
  have fin : ∀ {σ' : L2.St} {H' : Hp} {v : V} {u : Value}, Inv (cxOf (L2.CX P w) P w K mg base N qual scope f cdv A outer s H E) [] σ' H' s' → RelV v u → Q v H' → CE outer P w H s Q u s' :=
    fun {σ' H' v u} J rv q => ⟨v, H', J.os, J.bare, J.base, J.hok, rv, q⟩
  cases fl with
  | ret u =>
    obtain ⟨v, σ', H', J, rv, q⟩ := hs
    exact fin J rv q
  | next =>
    obtain ⟨σ', H', J, q⟩ := hs
    exact fin (v := V.non) (u := Value.none) J rfl q
  | brk =>
    obtain ⟨_, _, _, q⟩ := hs
    exact False.elim q
  | cont =>
    obtain ⟨_, _, _, q⟩ := hs
    exact False.elim q
theorem FnG.mono {P : Program} {w : World} {K : PySem.W.Frag} {mg : Str → Option Value} {base : Heap} {j k : Nat} {f : Addr} {fd : FuncData} {ps : List Str} {sp : Sp} (F : FnG P w K mg base j f fd ps sp) (h : j ≤ k) :
    FnG P w K mg base k f fd ps sp := ⟨F.len, fun A outer s H args us vs Q E hr => F.run A outer s H args us vs Q E (hr.mono h)⟩

/-! ### how arguments come to parameters -/
/-- plain parameters alone -/
def plainArgs (p : Arguments) (ps : List Str) : Bool :=
  p.posonlyargs.isEmpty && decide (p.args.map (·.arg) = ps) && p.vararg.isNone && p.kwonlyargs.isEmpty && p.kwarg.isNone
theorem fm_congr {α β : Type} {f g : α → Option β} : ∀ {l : List α}, (∀ x ∈ l, f x = g x) → l.filterMap f = l.filterMap g
  | [], _ => rfl
  | x :: l, h => by
    rw [List.filterMap_cons, List.filterMap_cons, h x List.mem_cons_self, fm_congr (l := l) fun y hy => h y (List.mem_cons_of_mem _ hy)]
theorem seqItems_none : seqItems? .none = pure none := by rfl
theorem forIn_kws {ps : List Str} {f : (Str × Value) → (List (Str × Value) × List (Str × Value)) → Sem (ForInStep (List (Str × Value) × List (Str × Value)))}
    (hf : ∀ k v sl, ps.contains k = true → (sl.lookup k).isSome = false → f (k, v) (sl, []) = pure (.yield (sl ++ [(k, v)], []))) :
    ∀ (kws sl : List (Str × Value)), (∀ p ∈ kws, ps.contains p.1 = true ∧ (sl.lookup p.1).isSome = false) → (kws.map (·.1)).Nodup → forIn kws (sl, []) f = pure (sl ++ kws, [])
  | [], sl, _, _ => by rw [List.forIn_nil, List.append_nil]
  | (k, v) :: r, sl, h, nd => by
    obtain ⟨h1, h2⟩ := h (k, v) List.mem_cons_self
    rw [List.forIn_cons, hf k v sl h1 h2]
    have nd' : k ∉ r.map (·.1) ∧ (r.map (·.1)).Nodup := List.nodup_cons.mp nd
    have ih := forIn_kws hf r (sl ++ [(k, v)]) (fun p hp => ?_) nd'.2
    · show forIn r (sl ++ [(k, v)], []) f = _
      rw [ih, List.append_assoc]; rfl
    · obtain ⟨q1, q2⟩ := h p (List.mem_cons_of_mem _ hp)
      refine ⟨q1, ?_⟩
      have ne : (p.1 == k) = false := beq_false_of_ne fun e => nd'.1 (e ▸ List.mem_map_of_mem hp)
      rw [List.lookup_append]
      simp only [List.lookup, ne]
      cases e : List.lookup p.1 sl with
      | none => rfl
      | some w => rw [e] at q2; cases q2
theorem bind_all {fd : FuncData} {ps : List Str} {us : List Value} {kws : List (Str × Value)} (h : plainArgs fd.params ps = true) (hd : fd.defaults = .none) (hl : us.length ≤ ps.length)
    (hk : ∀ p ∈ kws, ps.contains p.1 = true ∧ ((ps.zip us).lookup p.1).isSome = false) (nk : (kws.map (·.1)).Nodup) (hall : ∀ n ∈ ps, ((ps.zip us ++ kws).lookup n).isSome = true) :
    bindArgs fd ⟨us, kws⟩ = pure (ps.filterMap fun n => ((ps.zip us ++ kws).lookup n).map (n, ·)) := by
  obtain ⟨name, qual, params, body, scope, globals, closure, defaults, kwd, doc, pm, an, code, ct, bl⟩ := fd
  obtain ⟨po, ar, va, ko, kd, ka, de⟩ := params
  unfold plainArgs at h
  simp only [Bool.and_eq_true, List.isEmpty_iff, decide_eq_true_eq, Option.isNone_iff_eq_none] at h
  obtain ⟨⟨⟨⟨h1, h2⟩, h3⟩, h4⟩, h5⟩ := h
  dsimp only at hd
  subst h1 h3 h4 h5 hd
  unfold bindArgs
  simp only [List.map_nil, List.nil_append, h2, seqItems_none]
  rw [forIn_kws (ps := ps) (fun k v sl c1 c2 => by
    have m1 : k ∈ ps := by simpa using c1
    simp [m1, c2]) kws (ps.zip us) hk nk]
  have e1 : ¬ us.length > ps.length := by omega
  have e2 : (List.filter (fun n => (List.lookup n (ps.zip us ++ kws)).isNone) ps) = [] := by
    rw [List.filter_eq_nil_iff]
    intro n hn
    have := hall n hn
    cases e : List.lookup n (ps.zip us ++ kws) with
    | none => rw [e] at this; cases this
    | some w => simp
  show (if _ then _ else _) = _
  simp [e1, e2]
/-- by names: positional values, then named ones -/
def arrN {α : Type} (ps : List Str) (xs : List α) (kws : List (Str × α)) : List α := ps.filterMap fun n => (ps.zip xs ++ kws).lookup n
theorem zip_of {α : Type} {g : Str → Option α} : ∀ {l : List Str}, (∀ n ∈ l, (g n).isSome = true) → (l.filterMap fun n => (g n).map (n, ·)) = l.zip (l.filterMap g)
  | [], _ => rfl
  | n :: l, h => by
    have h1 := h n List.mem_cons_self
    cases e : g n with
    | none => rw [e] at h1; cases h1
    | some v =>
      rw [List.filterMap_cons, List.filterMap_cons, e, List.zip_cons_cons, ← zip_of (l := l) fun m hm => h m (List.mem_cons_of_mem _ hm)]
      rfl
theorem lookup_map {α β : Type} (f : α → β) (n : Str) : ∀ l : List (Str × α), (l.map fun p => (p.1, f p.2)).lookup n = (l.lookup n).map f
  | [] => rfl
  | (k, v) :: l => by
    simp only [List.map_cons, List.lookup]
    cases e : n == k with
    | true => rfl
    | false => exact lookup_map f n l
theorem zip_map {α β : Type} (f : α → β) : ∀ (ps : List Str) (xs : List α), ps.zip (xs.map f) = (ps.zip xs).map fun p => (p.1, f p.2)
  | [], _ => rfl
  | _ :: _, [] => rfl
  | p :: ps, x :: xs => by simp [zip_map f ps xs]
theorem arrN_map {α β : Type} (f : α → β) (ps : List Str) (xs : List α) (kws : List (Str × α)) : arrN ps (xs.map f) (kws.map fun p => (p.1, f p.2)) = (arrN ps xs kws).map f := by
  unfold arrN
  rw [zip_map, ← List.map_append, List.map_filterMap]
  exact fm_congr fun n _ => lookup_map f n _
/-- a call's names, its number of positional arguments, the places -/
def binds (ps : List Str) (np : Nat) (kn : List Str) (pm : List Nat) : Bool :=
  decide (np + kn.length = ps.length) && decide (np ≤ ps.length) && (kn.all fun n => ps.contains n && ((ps.zip (List.range np)).lookup n).isNone) && decide kn.Nodup &&
    (ps.all fun n => ((ps.zip (List.range np) ++ kn.zip ((List.range kn.length).map (· + np))).lookup n).isSome) && decide (arrN ps (List.range np) (kn.zip ((List.range kn.length).map (· + np))) = pm) && pm.all fun j => decide (j < ps.length)
theorem pick_map {α : Type} {xs : List α} : ∀ {pm : List Nat}, (∀ j ∈ pm, j < xs.length) → (pm.map fun j => xs[j]?) = (pick pm xs).map some
  | [], _ => rfl
  | j :: pm, h => by
    have hj := h j List.mem_cons_self
    unfold pick
    rw [List.filterMap_cons, List.getElem?_eq_getElem hj, List.map_cons, List.getElem?_eq_getElem hj, pick_map (pm := pm) fun k hk => h k (List.mem_cons_of_mem _ hk)]
    rfl
theorem filterMap_some' {α : Type} : ∀ (l : List α), (l.map some).filterMap id = l
  | [] => rfl
  | x :: l => by simp
theorem range_map {α : Type} (xs ys : List α) : (List.range xs.length).map (fun j => (xs ++ ys)[j]?) = xs.map some := by
  apply List.ext_getElem?
  intro i
  by_cases h : i < xs.length
  · simp [h, List.getElem?_append_left h]
  · rw [List.getElem?_eq_none (by simpa using h), List.getElem?_eq_none (by simpa using h)]
theorem range_map2 {α : Type} (xs ys : List α) : ((List.range ys.length).map (· + xs.length)).map (fun j => (xs ++ ys)[j]?) = ys.map some := by
  apply List.ext_getElem?
  intro i
  by_cases h : i < ys.length
  · simp [h, List.getElem?_append_right]
  · rw [List.getElem?_eq_none (by simpa using h), List.getElem?_eq_none (by simpa using h)]
theorem lookup_isSome_map {α β : Type} (f : α → β) (n : Str) (l : List (Str × α)) : ((l.map fun p => (p.1, f p.2)).lookup n).isSome = (l.lookup n).isSome := by
  rw [lookup_map]; cases l.lookup n <;> rfl
theorem binds_to {fd : FuncData} {ps kn : List Str} {pm : List Nat} {us ws : List Value} (h : plainArgs fd.params ps = true) (hd : fd.defaults = .none) (hw : ws.length = kn.length) (b : binds ps us.length kn pm = true) :
    bindArgs fd ⟨us, kn.zip ws⟩ = pure (ps.zip (pick pm (us ++ ws))) := by
  unfold binds at b
  simp only [Bool.and_eq_true, decide_eq_true_eq, List.all_eq_true] at b
  obtain ⟨⟨⟨⟨⟨⟨b1, b2⟩, b3⟩, b4⟩, b5⟩, b6⟩, b7⟩ := b
  -- the places, mapped to the values
  let F : Nat → Option Value := fun j => (us ++ ws)[j]?
  have z1 : ps.zip (us.map some) = (ps.zip (List.range us.length)).map fun p => (p.1, F p.2) := by
    rw [← range_map us ws, zip_map]
  have z2 : kn.zip (ws.map some) = (kn.zip ((List.range kn.length).map (· + us.length))).map fun p => (p.1, F p.2) := by
    rw [← range_map2 us ws, hw, zip_map]
  have zu : ps.zip (us.map some) = (ps.zip us).map fun p => (p.1, some p.2) := zip_map some ps us
  have zw : kn.zip (ws.map some) = (kn.zip ws).map fun p => (p.1, some p.2) := zip_map some kn ws
  have is1 : ∀ n, ((ps.zip us).lookup n).isSome = ((ps.zip (List.range us.length)).lookup n).isSome := fun n => by
    rw [← lookup_isSome_map some n (ps.zip us), ← zu, z1, lookup_isSome_map]
  have is2 : ∀ n, ((ps.zip us ++ kn.zip ws).lookup n).isSome = ((ps.zip (List.range us.length) ++ kn.zip ((List.range kn.length).map (· + us.length))).lookup n).isSome := fun n => by
    rw [← lookup_isSome_map some n (ps.zip us ++ kn.zip ws), List.map_append, ← zu, ← zw, z1, z2, ← List.map_append, lookup_isSome_map]
  have mk : (kn.zip ws).map (·.1) = kn := by
    rw [List.map_fst_zip (by omega)]
  rw [bind_all h hd b2 (fun p hp => ?_) (by rw [mk]; exact b4) (fun n hn => by rw [is2]; exact b5 n hn)]
  · rw [zip_of (g := fun n => (ps.zip us ++ kn.zip ws).lookup n) fun n hn => by rw [is2]; exact b5 n hn]
    congr 2
    -- the values by names are the values at the places
    have l1 : (arrN ps us (kn.zip ws)).map some = arrN ps (us.map some) (kn.zip (ws.map some)) := by rw [← arrN_map some, zip_map]
    have l2 : pm.map F = arrN ps (us.map some) (kn.zip (ws.map some)) := by
      rw [← b6, ← arrN_map F, ← zip_map F]
      rw [show (List.range us.length).map F = us.map some from range_map us ws, show ((List.range kn.length).map (· + us.length)).map F = ws.map some from by rw [← hw]; exact range_map2 us ws]
    show arrN ps us (kn.zip ws) = pick pm (us ++ ws)
    have e1 : pick pm (us ++ ws) = (pm.map F).filterMap id := by
      unfold pick
      rw [List.filterMap_map]; rfl
    rw [e1, l2, ← l1, filterMap_some']
  · have hp1 : p.1 ∈ kn := by rw [← mk]; exact List.mem_map_of_mem hp
    obtain ⟨q1, q2⟩ := b3 p.1 hp1
    refine ⟨q1, ?_⟩
    rw [is1]
    cases e : List.lookup p.1 (ps.zip (List.range us.length)) with
    | none => rfl
    | some w => rw [e] at q2; cases q2
end Lm
/-! The store changed: a list put in the place of another, a list frozen, a new one taken in; methods of lists. -/
namespace Lm
open PySem PySem.Spec PyProof.Rows L2

section
variable {K : PySem.W.Frag} {W W' : Wd} {H H' : Hp}
theorem live_of {n : Nat} {o : Ob} (e : W.st[n]? = some o) (a : alive o = true) : Live W (W.m n) := ⟨n, o, e, a, rfl⟩
theorem getElem?_set' {α : Type} (l : List α) (n k : Nat) (x : α) : (l.set n x)[k]? = if n = k then (if n < l.length then some x else none) else l[k]? := by
  rw [List.getElem?_set]
/-- the object at n is another one now; its place holds hb -/
theorem put_ext (s : StOk K W H) {n : Nat} {o o' : Ob} {hb : HO} (e : W.st[n]? = some o) (a : alive o = true) : Ext W H { W with st := W.st.set n o' } (upd H (W.m n) hb) := by
  have lv := live_of e a
  have lL := s.liv n o e a
  refine ⟨⟨by simp, fun _ _ => rfl, fun b u h l => ?_, fun _ h => .inl h⟩, fun b u h _ v => ?_, fun _ h _ => h, fun b h => ?_, fun b u h => ?_⟩
  · rw [upd_ne]; exact h
    rintro rfl; exact l lL
  · rw [upd_ne]; exact h
    rintro rfl; exact v lv
  · obtain ⟨k, ob, h1, h2, h3⟩ := h
    have h1' : (W.st.set n o')[k]? = some ob := h1
    rw [getElem?_set'] at h1'
    by_cases c : n = k
    · subst c
      have h3' : W.m n = b := h3
      subst h3'
      exact .inl lv
    · rw [if_neg c] at h1'
      exact .inl ⟨k, ob, h1', h2, h3⟩
  · by_cases c : b = W.m n
    · subst c; exact ⟨hb, upd_same⟩
    · exact ⟨u, by rw [upd_ne c]; exact h⟩
theorem put_ok (s : StOk K W H) {n : Nat} {o o' : Ob} {hb : HO} (e : W.st[n]? = some o) (a : alive o = true)
    (hob : ∀ W' H', Ext0 W H W' H' → H' (W.m n) = some hb → ObR K W' H' (W.m n) o') : StOk K { W with st := W.st.set n o' } (upd H (W.m n) hb) := by
  have x := put_ext (o' := o') (hb := hb) s e a
  have nd : ∀ {k : Nat} {ob : Ob}, (W.st.set n o')[k]? = some ob → alive ob = true → ∃ ob', W.st[k]? = some ob' ∧ alive ob' = true := fun {k ob} h q => by
    rw [getElem?_set'] at h
    by_cases c : n = k
    · subst c; exact ⟨o, e, a⟩
    · rw [if_neg c] at h; exact ⟨ob, h, q⟩
  refine ⟨fun i j oi oj h1 q1 h2 q2 em => ?_, fun i ob h q => ?_, fun i ob h => ?_, fun b h => ?_⟩
  · obtain ⟨o1, p1, a1⟩ := nd h1 q1
    obtain ⟨o2, p2, a2⟩ := nd h2 q2
    exact s.inj i j o1 o2 p1 a1 p2 a2 em
  · obtain ⟨o1, p1, a1⟩ := nd h q
    exact s.liv i o1 p1 a1
  · have h' : (W.st.set n o')[i]? = some ob := h
    rw [getElem?_set'] at h'
    by_cases c : n = i
    · subst c
      rw [if_pos rfl] at h'
      split at h'
      · cases h'
        exact hob _ _ x.toExt0 upd_same
      · cases h'
    · rw [if_neg c] at h'
      cases al : alive ob with
      | false =>
        cases ob <;> first | trivial | cases al
      | true =>
        have ne : W.m i ≠ W.m n := fun z => c (s.inj i n ob o h' al e a z).symm
        exact (s.ob i ob h').mv x.toExt0 fun u hu => by rw [upd_ne ne]; exact hu
  · obtain ⟨u, hu⟩ := s.lh b h
    exact x.sm b u hu
/-- a list of the store is another list -/
theorem put_lst (s : StOk K W H) {n : Nat} {ts ts' : List T} {xs' : List V} (e : W.st[n]? = some (.lst ts)) (r : Reps K W H xs' ts') :
    Ext W H { W with st := W.st.set n (.lst ts') } (upd H (W.m n) (.lst xs')) ∧ StOk K { W with st := W.st.set n (.lst ts') } (upd H (W.m n) (.lst xs')) :=
  ⟨put_ext s e rfl, put_ok s e rfl fun W' H' x h => ⟨xs', h, r.mv0 x⟩⟩
/-- a list of the store becomes a tree -/
theorem frz_ok (s : StOk K W H) {n : Nat} {ts : List T} (e : W.st[n]? = some (.lst ts)) :
    Ext W H { W with st := W.st.set n .dead, L := fun a => W.L a ∧ a ≠ W.m n } H ∧ StOk K { W with st := W.st.set n .dead, L := fun a => W.L a ∧ a ≠ W.m n } H ∧
      Rep K { W with st := W.st.set n .dead, L := fun a => W.L a ∧ a ≠ W.m n } H (.ref (W.m n)) (.lst ts) := by
  have lv := live_of e rfl
  have nd : ∀ {k : Nat} {ob : Ob}, (W.st.set n .dead)[k]? = some ob → alive ob = true → W.st[k]? = some ob ∧ n ≠ k := fun {k ob} h q => by
    rw [getElem?_set'] at h
    by_cases c : n = k
    · subst c
      rw [if_pos rfl] at h
      split at h
      · cases h; cases q
      · cases h
    · rw [if_neg c] at h; exact ⟨h, c⟩
  have x : Ext W H { W with st := W.st.set n .dead, L := fun a => W.L a ∧ a ≠ W.m n } H := by
    refine ⟨⟨by simp, fun _ _ => rfl, fun b u h l => h, fun _ h => .inl h.1⟩, fun b u h _ v => h, fun b h v => ⟨h, fun z => v (z ▸ lv)⟩, fun b h => ?_, fun b u h => ⟨u, h⟩⟩
    · obtain ⟨k, ob, h1, h2, h3⟩ := h
      obtain ⟨q1, q2⟩ := nd h1 h2
      exact .inl ⟨k, ob, q1, h2, h3⟩
  obtain ⟨xs, h1, h2⟩ := s.ob n _ e
  refine ⟨x, ⟨fun i j oi oj a1 b1 a2 b2 em => ?_, fun i o h q => ?_, fun i o h => ?_, fun b h => s.lh b h.1⟩, ?_⟩
  · exact s.inj i j oi oj (nd a1 b1).1 b1 (nd a2 b2).1 b2 em
  · obtain ⟨q1, q2⟩ := nd h q
    exact ⟨s.liv i o q1 q, fun z => q2 (s.inj i n o _ q1 q e rfl z).symm⟩
  · cases al : alive o with
    | false => cases o <;> first | trivial | cases al
    | true => exact (s.ob i o (nd h al).1).mv x.toExt0 fun u hu => hu
  · exact .lst h1 (fun z => z.2 rfl) (h2.mv x)
/-- a protected list, no object of the store, is taken into the store -/
theorem take_ok (s : StOk K W H) {p : Addr} {ts : List T} {xs : List V} (lp : W.L p) (nl : ¬ Live W p) (hp : H p = some (.lst xs)) (r : Reps K W H xs ts) :
    let W3 : Wd := { m := fun k => if k = W.st.length then p else W.m k, st := W.st ++ [.lst ts], L := W.L }
    Ext0 W H W3 H ∧ StOk K W3 H ∧ Rep K W3 H (.ref p) (.obj W.st.length) ∧ (∀ a, Live W3 a → Live W a ∨ a = p) := by
  intro W3
  have m3 : ∀ k, k < W.st.length → W3.m k = W.m k := fun k h => if_neg (Nat.ne_of_lt h)
  have mn : W3.m W.st.length = p := if_pos rfl
  have get3 : ∀ {k : Nat} {ob : Ob}, W3.st[k]? = some ob → (k < W.st.length ∧ W.st[k]? = some ob) ∨ (k = W.st.length ∧ ob = .lst ts) := fun {k ob} h => by
    have h' : (W.st ++ [Ob.lst ts])[k]? = some ob := h
    by_cases c : k < W.st.length
    · rw [List.getElem?_append_left c] at h'; exact .inl ⟨c, h'⟩
    · rw [List.getElem?_append_right (by omega)] at h'
      by_cases c2 : k = W.st.length
      · subst c2; simp at h'; exact .inr ⟨rfl, h'.symm⟩
      · have : k - W.st.length ≠ 0 := by omega
        rw [List.getElem?_eq_none (by simp; omega)] at h'; cases h'
  have x : Ext0 W H W3 H := ⟨by show W.st.length ≤ (W.st ++ [Ob.lst ts]).length; simp, m3, fun _ _ h _ => h, fun _ h => .inl h⟩
  refine ⟨x, ⟨fun i j oi oj h1 q1 h2 q2 em => ?_, fun i o h q => ?_, fun i o h => ?_, s.lh⟩, ?_, fun a h => ?_⟩
  · rcases get3 h1 with ⟨c1, g1⟩ | ⟨c1, g1⟩
    · rcases get3 h2 with ⟨c2, g2⟩ | ⟨c2, g2⟩
      · rw [m3 i c1, m3 j c2] at em
        exact s.inj i j oi oj g1 q1 g2 q2 em
      · rw [m3 i c1, c2, mn] at em
        exact absurd ⟨i, oi, g1, q1, em⟩ nl
    · rcases get3 h2 with ⟨c2, g2⟩ | ⟨c2, g2⟩
      · rw [c1, mn, m3 j c2] at em
        exact absurd ⟨j, oj, g2, q2, em.symm⟩ nl
      · rw [c1, c2]
  · rcases get3 h with ⟨c1, g1⟩ | ⟨c1, g1⟩
    · rw [m3 i c1]; exact s.liv i o g1 q
    · rw [c1, mn]; exact lp
  · rcases get3 h with ⟨c1, g1⟩ | ⟨c1, g1⟩
    · rw [m3 i c1]
      exact (s.ob i o g1).mv x fun u hu => hu
    · rw [c1, mn, g1]
      exact ⟨xs, hp, r.mv0 x⟩
  · have := Rep.obj (K := K) (W := W3) (H := H) (n := W.st.length) (by show _ < (W.st ++ [Ob.lst ts]).length; simp)
    rw [mn] at this
    exact this
  · obtain ⟨k, ob, h1, h2, h3⟩ := h
    rcases get3 h1 with ⟨c1, g1⟩ | ⟨c1, g1⟩
    · rw [m3 k c1] at h3; exact .inl ⟨k, ob, g1, h2, h3⟩
    · rw [c1, mn] at h3; exact .inr h3.symm
/-- a protected list, no object of the store, becomes a tree -/
theorem free_ok (s : StOk K W H) {p : Addr} {ts : List T} {xs : List V} (nl : ¬ Live W p) (hp : H p = some (.lst xs)) (r : Reps K W H xs ts) :
    let W3 : Wd := { W with L := fun a => W.L a ∧ a ≠ p }
    Ext0 W H W3 H ∧ StOk K W3 H ∧ Rep K W3 H (.ref p) (.lst ts) := by
  intro W3
  have x : Ext0 W H W3 H := ⟨Nat.le_refl _, fun _ _ => rfl, fun _ _ h _ => h, fun _ h => .inl h.1⟩
  exact ⟨x, ⟨s.inj, fun i o h q => ⟨s.liv i o h q, fun z => nl ⟨i, o, h, q, z⟩⟩, fun i o h => (s.ob i o h).mv x fun _ hu => hu, fun a h => s.lh a h.1⟩, .lst hp (fun z => z.2 rfl) (r.mv0 x)⟩
end

/-! ### methods of lists -/
def rTm (G : Gx) (m : Mt) : V → List V → Hp → VK → Prop := fun x xs H Q => ∃ W t ts E, StOk G.K W H ∧ Rep G.K W H x t ∧ Reps G.K W H xs ts ∧ Post G (RT G) W H Q E (mtF m t ts W.st)
section
variable {X : Cx} {G : Gx}
theorem obj_of {G : Gx} {W : Wd} {H : Hp} {x : V} {n : Nat} (h : Rep G.K W H x (.obj n)) : x = .ref (W.m n) ∧ n < W.st.length := by cases h; exact ⟨rfl, by assumption⟩
theorem MtR.of {id : String} {r r' : V → List V → Hp → VK → Prop} (h : MtR X id r) (hi : ∀ x xs H Q, r' x xs H Q → r x xs H Q) : MtR X id r' := fun pins s σ H x xs v us Q I rx rs q => h pins s σ H x xs v us Q I rx rs (hi _ _ _ _ q)
theorem mt_appendT : MtR X "list.append" (rTm G .append) := MtR.of mt_append fun x xs H Q h => by
  obtain ⟨W, t, ts, E, so, rx, rs, p⟩ := h
  cases t <;> try (exact False.elim (by simpa [mtF, Post] using p))
  rename_i n
  rcases ts with _ | ⟨y, _ | ⟨z, r⟩⟩ <;> try (exact False.elim (by simpa [mtF, Post] using p))
  obtain ⟨rfl, hn⟩ := obj_of rx
  obtain ⟨vy, rfl, ry⟩ := one_of (ts := []) rs
  cases e : W.st[n]? with
  | none => exact False.elim (by simpa [mtF, Post, e] using p)
  | some o =>
    cases o <;> try (exact False.elim (by simpa [mtF, Post, e] using p))
    rename_i ys
    obtain ⟨xs, h1, h2⟩ := so.ob n _ e
    by_cases c : ys.length < sizeLine
    · have p' : Post G (RT G) W H Q E (.ok .non (W.st.set n (.lst (ys ++ [y])))) := by simpa [mtF, e, c] using p
      obtain ⟨x1, s1⟩ := put_lst so e (h2.append (.cons ry .nil))
      exact ⟨_, xs, vy, rfl, rfl, h1, by rw [h2.length]; exact c, p' _ _ _ rfl x1 s1 .non⟩
    · exact False.elim (by simpa [mtF, Post, e, c] using p)
theorem mt_extendT : MtR X "list.extend" (rTm G .extend) := MtR.of mt_extend fun x xs H Q h => by
  obtain ⟨W, t, ts, E, so, rx, rs, p⟩ := h
  cases t <;> try (exact False.elim (by simpa [mtF, Post] using p))
  rename_i n
  rcases ts with _ | ⟨y, _ | ⟨z, r⟩⟩ <;> try (exact False.elim (by simpa [mtF, Post] using p))
  obtain ⟨rfl, hn⟩ := obj_of rx
  obtain ⟨vy, rfl, ry⟩ := one_of (ts := []) rs
  cases e : W.st[n]? with
  | none => exact False.elim (by simpa [mtF, Post, e] using p)
  | some o =>
    cases o <;> try (exact False.elim (by simpa [mtF, Post, e] using p))
    rename_i ys
    obtain ⟨xs, h1, h2⟩ := so.ob n _ e
    cases d : deref W.st y with
    | lst zs =>
      by_cases c : ys.length + zs.length ≤ sizeLine
      · have p' : Post G (RT G) W H Q E (.ok .non (W.st.set n (.lst (ys ++ zs)))) := by simpa [mtF, e, d, c] using p
        obtain ⟨b, vz, rfl, hb, hz⟩ := so.lst ry d
        obtain ⟨x1, s1⟩ := put_lst so e (h2.append hz)
        exact ⟨_, b, xs, vz, rfl, rfl, h1, hb, by rw [h2.length, hz.length]; exact c, p' _ _ _ rfl x1 s1 .non⟩
      · exact False.elim (by simpa [mtF, Post, e, d, c] using p)
    | _ => exact False.elim (by simpa [mtF, Post, e, d] using p)
theorem Reps.dropLast : ∀ {K : PySem.W.Frag} {W : Wd} {H : Hp} {xs : List V} {ts : List T}, Reps K W H xs ts → Reps K W H xs.dropLast ts.dropLast := fun {K W H xs ts} h => by
  rw [List.dropLast_eq_take, List.dropLast_eq_take, h.length]
  exact h.take _
theorem mt_popT : MtR X "list.pop" (rTm G .pop) := MtR.of mt_pop fun x xs H Q h => by
  obtain ⟨W, t, ts, E, so, rx, rs, p⟩ := h
  cases t <;> try (exact False.elim (by simpa [mtF, Post] using p))
  rename_i n
  rcases ts with _ | ⟨y, r⟩ <;> try (exact False.elim (by simpa [mtF, Post] using p))
  obtain ⟨rfl, hn⟩ := obj_of rx
  cases rs
  cases e : W.st[n]? with
  | none => exact False.elim (by simpa [mtF, Post, e] using p)
  | some o =>
    cases o <;> try (exact False.elim (by simpa [mtF, Post, e] using p))
    rename_i ys
    obtain ⟨xs, h1, h2⟩ := so.ob n _ e
    cases g : ys[ys.length - 1]? with
    | none => exact False.elim (by have p' := p; unfold mtF at p'; dsimp only at p'; rw [e] at p'; dsimp only at p'; rw [g] at p'; exact p')
    | some y =>
      have p' : Post G (RT G) W H Q E (.ok y (W.st.set n (.lst ys.dropLast))) := by have p' := p; unfold mtF at p'; dsimp only at p'; rw [e] at p'; dsimp only at p'; rw [g] at p'; exact p'
      obtain ⟨vy, gv, ry⟩ := h2.get g
      obtain ⟨x1, s1⟩ := put_lst so e h2.dropLast
      exact ⟨_, xs, vy, rfl, rfl, h1, by rw [h2.length]; exact gv, p' _ _ _ rfl x1 s1 (ry.mv x1)⟩
theorem mt_popAtT : MtR X "list.pop" (rTm G .popAt) := MtR.of mt_popAt fun x xs H Q h => by
  obtain ⟨W, t, ts, E, so, rx, rs, p⟩ := h
  cases t <;> try (exact False.elim (by simpa [mtF, Post] using p))
  rename_i n
  rcases ts with _ | ⟨y, _ | ⟨z, r⟩⟩ <;> try (exact False.elim (by simpa [mtF, Post] using p))
  cases y <;> try (exact False.elim (by simpa [mtF, Post] using p))
  rename_i i
  obtain ⟨rfl, hn⟩ := obj_of rx
  obtain ⟨vy, rfl, ry⟩ := one_of (ts := []) rs
  cases ry
  cases e : W.st[n]? with
  | none => exact False.elim (by simpa [mtF, Post, e] using p)
  | some o =>
    cases o <;> try (exact False.elim (by simpa [mtF, Post, e] using p))
    rename_i ys
    obtain ⟨xs, h1, h2⟩ := so.ob n _ e
    unfold mtF at p
    dsimp only at p
    rw [e] at p
    dsimp only at p
    split at p
    · rename_i c
      split at p
      · rename_i k hk
        split at p
        · rename_i y hy
          obtain ⟨vy, gv, ry⟩ := h2.get hy
          obtain ⟨x1, s1⟩ := put_lst so e (h2.eraseIdx k)
          have hk' : ixN xs.length i = some k := by rw [h2.length]; exact hk
          exact ⟨_, xs, i, k, vy, rfl, rfl, h1, c.2, c.1, (ixN_seq hk').1, gv, p _ _ _ rfl x1 s1 (ry.mv x1)⟩
        · exact p.elim
      · exact p.elim
    · exact p.elim
theorem mt_insertT : MtR X "list.insert" (rTm G .insert) := MtR.of mt_insert fun x xs H Q h => by
  obtain ⟨W, t, ts, E, so, rx, rs, p⟩ := h
  cases t <;> try (exact False.elim (by simpa [mtF, Post] using p))
  rename_i n
  rcases ts with _ | ⟨w, _ | ⟨y, _ | ⟨z, r⟩⟩⟩ <;> try (exact False.elim (by simpa [mtF, Post] using p))
  · cases w <;> try (exact False.elim (by simpa [mtF, Post] using p))
    rename_i i
    obtain ⟨rfl, hn⟩ := obj_of rx
    obtain ⟨vi, vy, rfl, ri, ry⟩ := two_of rs
    cases ri
    cases e : W.st[n]? with
    | none => exact False.elim (by simpa [mtF, Post, e] using p)
    | some o =>
      cases o <;> try (exact False.elim (by simpa [mtF, Post, e] using p))
      rename_i ys
      obtain ⟨xs, h1, h2⟩ := so.ob n _ e
      unfold mtF at p
      dsimp only at p
      rw [e] at p
      dsimp only at p
      split at p
      · rename_i c
        obtain ⟨x1, s1⟩ := put_lst so e (((h2.take i.toNat).append (.cons ry .nil)).append (h2.drop i.toNat))
        exact ⟨_, xs, i, vy, rfl, rfl, h1, by rw [h2.length]; exact c.1, c.2.1, c.2.2, p _ _ _ rfl x1 s1 .non⟩
      · exact p.elim
theorem idxOfD_some {d : PyData} : ∀ {zs : List PyData} {k : Nat}, idxOfD d zs = some k → ∃ z, zs[k]? = some z ∧ PyData.eqv z d = true ∧ ∀ (m : Nat) (z' : PyData), m < k → zs[m]? = some z' → PyData.eqv z' d = false
  | [], _, h => by cases h
  | z :: zs, k, h => by
    unfold idxOfD at h
    split at h
    · rename_i c
      cases h
      exact ⟨z, rfl, c, fun m _ hm => absurd hm (Nat.not_lt_zero _)⟩
    · rename_i c
      obtain ⟨j, hj, rfl⟩ := Option.map_eq_some_iff.mp h
      obtain ⟨y, h1, h2, h3⟩ := idxOfD_some hj
      refine ⟨y, by simpa using h1, h2, fun m z' hm hz => ?_⟩
      cases m with
      | zero => cases hz; simpa using c
      | succ m => exact h3 m z' (by omega) (by simpa using hz)
theorem mt_indexT (hK : X.K = G.K) (hu : X.A.units + 65 < cLine) : MtR X "list.index" (rTm G .index) := MtR.of (mt_indexD hu) fun x xs H Q h => by
  obtain ⟨W, t, ts, E, so, rx, rs, p⟩ := h
  rcases ts with _ | ⟨y, _ | ⟨z, r⟩⟩
  · cases t <;> exact False.elim (by simpa [mtF, Post] using p)
  · obtain ⟨vy, rfl, ry⟩ := one_of (ts := []) rs
    have p1 : Post G (RT G) W H Q E (match deref W.st t with
      | .lst ys => if SeqAt.shaped (deref W.st y).toD && SeqAt.shaped (.list (T.toDs ys)) then
          match idxOfD (deref W.st y).toD (T.toDs ys) with
          | some k => .ok (.int k) W.st
          | none => .bad
        else .bad
      | _ => .bad) := by cases t <;> exact p
    cases d : deref W.st t with
    | lst ys =>
      rw [d] at p1
      dsimp only at p1
      split at p1
      · rename_i c
        simp only [Bool.and_eq_true] at c
        split at p1
        · rename_i k hk
          obtain ⟨a, vs, rfl, ha, hr⟩ := so.lst rx d
          obtain ⟨z, i1, i2, i3⟩ := idxOfD_some hk
          exact ⟨a, vy, _, _, k, z, rfl, rfl, by rw [hK]; exact .lst (SqL.of ha) (Reps.dp ys vs hr (by simpa [PyData.canLay0] using SeqAt.canLay_of_shaped c.2)), by rw [hK]; exact so.dp ry c.1, c.2, c.1, i1, i2, i3, p1 _ W H rfl Ext.refl so (.int _)⟩
        · exact p1.elim
      · exact p1.elim
    | _ => rw [d] at p1; exact p1.elim
  · cases t <;> exact False.elim (by simpa [mtF, Post] using p)
end
end Lm
/-! Expressions: one rule a construct, over the trees. -/
namespace Lm
open PySem PySem.Spec PyProof.Rows L2

def notStar : Expr → Bool
  | .Starred .. => false
  | _ => true
theorem starEach_cons {e : Expr} {es : List Expr} {env : PySem.Env} (h : notStar e = true) : starEach (e :: es) env = (false, eval e env) :: starEach es env := by
  cases e <;> first | rfl | cases h
theorem plain_star {pos : Pos} {env : PySem.Env} : ∀ {es : List Expr}, es.all notStar = true → (backTo pos (starEach es env)).any (·.1) = false
  | [], _ => rfl
  | e :: es, h => by
    obtain ⟨h1, h2⟩ := Bool.and_eq_true_iff.mp (by simpa using h : (notStar e && es.all notStar) = true)
    rw [starEach_cons h1]
    show (false || (backTo pos (starEach es env)).any (·.1)) = false
    rw [plain_star h2]; rfl
theorem few_star {pos : Pos} {env : PySem.Env} : ∀ {es : List Expr}, es.all notStar = true → (backTo pos (starEach es env)).all (fun x => !x.1) = true
  | [], _ => rfl
  | e :: es, h => by
    obtain ⟨h1, h2⟩ := Bool.and_eq_true_iff.mp (by simpa using h : (notStar e && es.all notStar) = true)
    rw [starEach_cons h1]
    show (!false && (backTo pos (starEach es env)).all (fun x => !x.1)) = true
    rw [few_star h2]; rfl

section
variable {X : Cx} {G : Gx} {WX : WX} {c : Cf}

/-! ### names, constants -/
theorem r_v {i : Nat} {x : Str} {pos : Pos} (hN : X.N[i]? = some x) (hv : Vis X.env.scope x) (hd : (x == ("__debug__" : Str)) = false) (hcd : (x == ("__classdict__" : Str)) = false) : PE X (.Name x pos) (tE G WX (evE c (.v i))) :=
  PE_imp (pe_var hN hv hd hcd) fun σ H Q ⟨W, ρ, so, en, p⟩ => by
    have p' : Post G (RT G) W H Q (fun cls d H' => WX cls d σ H') (match ρ[i]? with | some (some t) => .ok t W.st | _ => .bad) := p
    split at p'
    · rename_i t e
      obtain ⟨v, h1, h2⟩ := en.2 i t e
      exact ⟨v, h1, p' v W H rfl Ext.refl so h2⟩
    · exact p'.elim
def litE : Lit → Const
  | .non => .none
  | .bl b => .bool b
  | .int i => .int i
  | .str s => .str s
theorem r_lit {k : Lit} {j : Nat} {pos : Pos} : PE X (.Constant (litE k) j pos) (tE G WX (evE c (.lit k))) := by
  have fin : ∀ {σ : L2.St} {H : Hp} {Q : VK} {v : V}, tE G WX (evE c (.lit k)) σ H Q → (∀ W, Rep G.K W H v k.t) → Q v H := fun ⟨W, ρ, so, en, p⟩ r => p _ W _ rfl Ext.refl so (r W)
  cases k with
  | non => exact PE_imp pe_non fun σ H Q h => fin h fun _ => .non
  | bl b => exact PE_imp pe_bl fun σ H Q h => fin h fun _ => .bl b
  | int i => exact PE_imp pe_int fun σ H Q h => fin h fun _ => .int i
  | str s => exact PE_imp pe_str fun σ H Q h => fin h fun _ => .str s
/-- what a module's constant stands for -/
def GlobIs (G : Gx) (u : Value) (t : T) : Prop := ∃ v, RelV v u ∧ ∀ W H, Rep G.K W H v t
theorem r_glob {k : Nat} {x : Str} {u : Value} {pos : Pos} (hg : Gl X x) (hm : X.mg x = some u) (r : GlobIs G u (c.g k)) (hd : (x == ("__debug__" : Str)) = false) : PE X (.Name x pos) (tE G WX (evE c (.glob k))) := by
  obtain ⟨v, r1, r2⟩ := r
  exact PE_imp (pe_glob hg hm r1 hd) fun σ H Q ⟨W, ρ, so, en, p⟩ => p v W H rfl Ext.refl so (r2 W H)

/-! ### operators -/
theorem Post.lift {α β : Type} {Rl : Rel α β} {W : Wd} {H : Hp} {Q : β → Hp → Prop} {E : XK} {o : Option α} (p : Post G Rl W H Q E (R.lift o W.st)) : ∃ z, o = some z ∧ ∀ v W' H', W'.st = W.st → Ext W H W' H' → StOk G.K W' H' → Rl W' H' v z → Q v H' := by
  cases o with
  | none => exact p.elim
  | some z => exact ⟨z, rfl, p⟩
theorem r_bin (hK : X.K = G.K) {o : BOp} {a b : E} {xa xb : Expr} {pos : Pos} (ha : PE X xa (tE G WX (evE c a))) (hb : PE X xb (tE G WX (evE c b))) : PE X (.BinOp xa (opOf o) xb pos) (tE G WX (evE c (.bin o a b))) :=
  PE_imp (pe_op (op_binT (G := G) o hK) ha hb) fun σ H Q ⟨W, ρ, so, en, p⟩ =>
    ⟨W, ρ, so, en, Post.imp (Post.bnd (Rl := RT G) so p) (fun x H1 ⟨W1, t, x1, s1, r1, p1⟩ =>
      ⟨W1, ρ, s1, en.mv x1, Post.imp (Post.bnd (Rl := RT G) s1 p1) (fun y H2 ⟨W2, u, x2, s2, r2, p2⟩ => by
        obtain ⟨z, e, h⟩ := Post.lift p2
        exact ⟨W2, t, u, z, s2, r1.mv x2, r2, e, h⟩) fun _ _ _ h => h⟩) fun _ _ _ h => h⟩
theorem r_neg {a : E} {xa : Expr} {pos : Pos} (ha : PE X xa (tE G WX (evE c a))) : PE X (.UnaryOp .USub xa pos) (tE G WX (evE c (.neg a))) :=
  PE_imp (pe_un un_neg ha) fun σ H Q ⟨W, ρ, so, en, p⟩ =>
    ⟨W, ρ, so, en, Post.imp (Post.bnd (Rl := RT G) so p) (fun x H1 ⟨W1, t, x1, s1, r1, p1⟩ => by
      cases t <;> try exact p1.elim
      cases r1
      exact ⟨_, rfl, p1 _ W1 H1 rfl Ext.refl s1 (.int _)⟩) fun _ _ _ h => h⟩
theorem r_not {a : E} {xa : Expr} {pos : Pos} (ha : PE X xa (tE G WX (evE c a))) : PE X (.UnaryOp .Not xa pos) (tE G WX (evE c (.not a))) :=
  PE_imp (pe_not ha) fun σ H Q ⟨W, ρ, so, en, p⟩ =>
    ⟨W, ρ, so, en, Post.imp (Post.bnd (Rl := RT G) so p) (fun x H1 ⟨W1, t, x1, s1, r1, p1⟩ => by
      cases t <;> try exact p1.elim
      cases r1
      exact ⟨_, rfl, p1 _ W1 H1 rfl Ext.refl s1 (.bl _)⟩) fun _ _ _ h => h⟩
theorem r_and {a b : E} {xa xb : Expr} {rest : List Expr} {pos : Pos} (ha : PE X xa (tE G WX (evE c a))) (hb : PE X (.BoolOp .And (xb :: rest) pos) (tE G WX (evE c b))) : PE X (.BoolOp .And (xa :: xb :: rest) pos) (tE G WX (evE c (.and a b))) :=
  PE_imp (pe_and ha hb) fun σ H Q ⟨W, ρ, so, en, p⟩ =>
    ⟨W, ρ, so, en, Post.imp (Post.bnd (Rl := RT G) so p) (fun x H1 ⟨W1, t, x1, s1, r1, p1⟩ => by
      cases t <;> try exact p1.elim
      rename_i d
      cases r1
      refine ⟨d, rfl, ?_⟩
      cases d with
      | true => exact ⟨W1, ρ, s1, en.mv x1, p1⟩
      | false => exact p1 _ W1 H1 rfl Ext.refl s1 (.bl _)) fun _ _ _ h => h⟩
theorem r_or {a b : E} {xa xb : Expr} {rest : List Expr} {pos : Pos} (ha : PE X xa (tE G WX (evE c a))) (hb : PE X (.BoolOp .Or (xb :: rest) pos) (tE G WX (evE c b))) : PE X (.BoolOp .Or (xa :: xb :: rest) pos) (tE G WX (evE c (.or a b))) :=
  PE_imp (pe_or ha hb) fun σ H Q ⟨W, ρ, so, en, p⟩ =>
    ⟨W, ρ, so, en, Post.imp (Post.bnd (Rl := RT G) so p) (fun x H1 ⟨W1, t, x1, s1, r1, p1⟩ => by
      cases t <;> try exact p1.elim
      rename_i d
      cases r1
      refine ⟨d, rfl, ?_⟩
      cases d with
      | false => exact ⟨W1, ρ, s1, en.mv x1, p1⟩
      | true => exact p1 _ W1 H1 rfl Ext.refl s1 (.bl _)) fun _ _ _ h => h⟩

/-! ### tests -/
theorem t_val {a : E} {xa : Expr} (ha : PE X xa (tE G WX (evE c a))) (he : ∀ whole, isTrue xa X.env whole = (do let v ← whole; standAt xa.pos; holding [v] (truthy v))) : PT X xa (tT G WX (evE c a)) :=
  PT_imp (pt_val ha he) fun σ H Q ⟨W, ρ, so, en, p⟩ =>
    ⟨W, ρ, so, en, Post.imp (Post.bnd (Rl := RT G) so p) (fun x H1 ⟨W1, t, x1, s1, r1, p1⟩ => by
      cases t <;> try exact p1.elim
      cases r1
      exact ⟨_, rfl, p1 _ W1 H1 rfl Ext.refl s1 rfl⟩) fun _ _ _ h => h⟩
/-- isTrue of what is none of its own forms -/
def plainTest : Expr → Bool
  | .UnaryOp .Not _ _ => false
  | .BoolOp .. => false
  | .IfExp .. => false
  | .Compare .. => false
  | _ => true
theorem isTrue_val {e : Expr} {env : PySem.Env} (h : plainTest e = true) (whole : Sem Value) : isTrue e env whole = (do let v ← whole; standAt e.pos; holding [v] (truthy v)) := by
  cases e <;> first | rfl | (cases h) | skip
  rename_i op a p
  cases op <;> first | rfl | cases h
theorem asB_bl (b : Bool) (st : Sto) : asB (.ok (.bl b) st) = .ok b st := rfl
theorem t_not {a : E} {xa : Expr} {pos : Pos} (ha : PT X xa (tT G WX (evE c a))) : PT X (.UnaryOp .Not xa pos) (tT G WX (evE c (.not a))) :=
  PT_imp (pt_not ha) fun σ H Q ⟨W, ρ, so, en, p⟩ => by
    refine ⟨W, ρ, so, en, ?_⟩
    have e : asB (evE c (.not a) ρ W.st) = (asB (evE c a ρ W.st)).bnd fun b st => .ok (!b) st := by
      show asB ((evE c a ρ W.st).bnd _) = _
      unfold asB
      cases evE c a ρ W.st with
      | ok t st => cases t <;> rfl
      | exc _ _ _ => rfl
      | bad => rfl
    dsimp only at p
    rw [e] at p
    refine Post.imp (Post.bnd (Rl := REq Bool) so p) (fun x H1 ⟨W1, t, x1, s1, r1, p1⟩ => ?_) fun _ _ _ h => h
    cases r1
    exact p1 _ W1 H1 rfl Ext.refl s1 rfl
theorem w_and {a b : E} {xa xb : Expr} {rest : List Expr} {pos : Pos} (ha : PT X xa (tT G WX (evE c a))) (hb : PW X (.BoolOp .And (xb :: rest) pos) (tT G WX (evE c b))) : PW X (.BoolOp .And (xa :: xb :: rest) pos) (tT G WX (evE c (.and a b))) :=
  PW_imp (pw_and ha hb) fun σ H Q ⟨W, ρ, so, en, p⟩ => by
    refine ⟨W, ρ, so, en, ?_⟩
    have e : asB (evE c (.and a b) ρ W.st) = (asB (evE c a ρ W.st)).bnd fun d st => if d then asB (evE c b ρ st) else .ok false st := by
      show asB ((evE c a ρ W.st).bnd _) = _
      unfold asB
      cases evE c a ρ W.st with
      | ok t st =>
        cases t <;> try rfl
        rename_i d
        cases d <;> rfl
      | exc _ _ _ => rfl
      | bad => rfl
    dsimp only at p
    rw [e] at p
    refine Post.imp (Post.bnd (Rl := REq Bool) so p) (fun x H1 ⟨W1, t, x1, s1, r1, p1⟩ => ?_) fun _ _ _ h => h
    cases r1
    cases x with
    | true => exact ⟨W1, ρ, s1, en.mv x1, p1⟩
    | false => exact p1 _ W1 H1 rfl Ext.refl s1 rfl
theorem w_or {a b : E} {xa xb : Expr} {rest : List Expr} {pos : Pos} (ha : PT X xa (tT G WX (evE c a))) (hb : PW X (.BoolOp .Or (xb :: rest) pos) (tT G WX (evE c b))) : PW X (.BoolOp .Or (xa :: xb :: rest) pos) (tT G WX (evE c (.or a b))) :=
  PW_imp (pw_or ha hb) fun σ H Q ⟨W, ρ, so, en, p⟩ => by
    refine ⟨W, ρ, so, en, ?_⟩
    have e : asB (evE c (.or a b) ρ W.st) = (asB (evE c a ρ W.st)).bnd fun d st => if d then .ok true st else asB (evE c b ρ st) := by
      show asB ((evE c a ρ W.st).bnd _) = _
      unfold asB
      cases evE c a ρ W.st with
      | ok t st =>
        cases t <;> try rfl
        rename_i d
        cases d <;> rfl
      | exc _ _ _ => rfl
      | bad => rfl
    dsimp only at p
    rw [e] at p
    refine Post.imp (Post.bnd (Rl := REq Bool) so p) (fun x H1 ⟨W1, t, x1, s1, r1, p1⟩ => ?_) fun _ _ _ h => h
    cases r1
    cases x with
    | false => exact ⟨W1, ρ, s1, en.mv x1, p1⟩
    | true => exact p1 _ W1 H1 rfl Ext.refl s1 rfl
theorem r_ite {t a b : E} {xt xa xb : Expr} {pos : Pos} (ht : PT X xt (tT G WX (evE c t))) (ha : PE X xa (tE G WX (evE c a))) (hb : PE X xb (tE G WX (evE c b))) : PE X (.IfExp xt xa xb pos) (tE G WX (evE c (.ite t a b))) :=
  PE_imp (pe_ifExp ht ha hb) fun σ H Q ⟨W, ρ, so, en, p⟩ => by
    refine ⟨W, ρ, so, en, ?_⟩
    have e : evE c (.ite t a b) ρ W.st = (asB (evE c t ρ W.st)).bnd fun d st => if d then evE c a ρ st else evE c b ρ st := by
      show (evE c t ρ W.st).bnd _ = _
      unfold asB
      cases evE c t ρ W.st with
      | ok t st =>
        cases t <;> try rfl
        rename_i d
        cases d <;> rfl
      | exc _ _ _ => rfl
      | bad => rfl
    rw [e] at p
    refine Post.imp (Post.bnd (Rl := REq Bool) so p) (fun x H1 ⟨W1, t, x1, s1, r1, p1⟩ => ?_) fun _ _ _ h => h
    cases r1
    cases x with
    | true => exact ⟨W1, ρ, s1, en.mv x1, p1⟩
    | false => exact ⟨W1, ρ, s1, en.mv x1, p1⟩

/-! ### chains of comparisons -/
/-- what stands behind the first operand -/
structure PCh (X : Cx) (G : Gx) (WX : L2.WX) (ops : List CmpOp) (es : List Expr) (f : T → Fm → Sto → R Bool) : Prop where
  val : ∀ (pos : Pos) (pins : List (Addr × Obj)) (s : Shared) (σ : L2.St) (H : Hp) (x : V) (v : Value) (Q : VK) (W : Wd) (ρ : Fm) (t : T), Inv X pins σ H s → RelV x v → StOk G.K W H → EnvR G.K W H σ ρ → Rep G.K W H x t →
    Post G (REq Bool) W H (fun b H' => Q (.bl b) H') (fun cls d H' => WX cls d σ H') (f t ρ W.st) → wpAny (model X.prog X.w) X.A (compareChain pos v ops (evalEach es X.env)) (EP X pins σ Q) X.xe s
  tst : ∀ (pos : Pos) (pins : List (Addr × Obj)) (s : Shared) (σ : L2.St) (H : Hp) (x : V) (v : Value) (Q : Bool → Hp → Prop) (W : Wd) (ρ : Fm) (t : T), Inv X pins σ H s → RelV x v → StOk G.K W H → EnvR G.K W H σ ρ → Rep G.K W H x t →
    Post G (REq Bool) W H Q (fun cls d H' => WX cls d σ H') (f t ρ W.st) → wpAny (model X.prog X.w) X.A (testChain pos v ops (evalEach es X.env)) (TP X pins σ Q) X.xe s
  nm : lastMarks ops es = false
  ne : ops ≠ [] ∧ es.length = ops.length
def notSet : Expr → Bool
  | .Set .. => false
  | _ => true
theorem noMarks {op : CmpOp} {e : Expr} (h : notSet e = true) : behindInMarks op e = false := by
  cases e <;> first | rfl | cases h
theorem ch_one (hK : X.K = G.K) (hu : X.A.units + 65 < cLine) {o : COp} {e : E} {xe : Expr} (he : PE X xe (tE G WX (evE c e))) (hs : notSet xe = true) : PCh X G WX [cOf o] [xe] (fun t ρ st => evCs c (.one o e) t ρ st) where
  val pos pins s σ H x v Q W ρ t I rx so en rt p := by
    refine chain_last ?_
    refine thn (he.run pins s σ H _ I ⟨W, ρ, so, en, Post.bnd (Rl := RT G) so p⟩) fun u s1 ⟨y, H1, I1, ry, W1, w, x1, s1', r1, p1⟩ => ?_
    obtain ⟨z, e1, h⟩ := Post.lift p1
    exact op_cmpT (G := G) o hK hu pins s1 σ H1 x y v u Q I1 rx ry ⟨W1, t, w, .bl z, s1', rt.mv x1, r1, by show (cmpop W1.st o t w).map T.bl = _; rw [e1]; rfl, fun v' W' H' e2 x2 s2 r2 => by cases r2; exact h z W' H' e2 x2 s2 rfl⟩
  tst pos pins s σ H x v Q W ρ t I rx so en rt p := by
    refine test_last ?_
    refine thn (he.run pins s σ H _ I ⟨W, ρ, so, en, Post.bnd (Rl := RT G) so p⟩) fun u s1 ⟨y, H1, I1, ry, W1, w, x1, s1', r1, p1⟩ => ?_
    obtain ⟨z, e1, h⟩ := Post.lift p1
    refine thn (op_cmpT (G := G) o hK hu pins s1 σ H1 x y v u (fun v' H' => ∃ b, v' = .bl b ∧ Q b H') I1 rx ry ⟨W1, t, w, .bl z, s1', rt.mv x1, r1, by show (cmpop W1.st o t w).map T.bl = _; rw [e1]; rfl, fun v' W' H' e2 x2 s2 r2 => by cases r2; exact ⟨z, rfl, h z W' H' e2 x2 s2 rfl⟩⟩) fun q s2 ⟨zv, H2, I2, rz, b, eb, q2⟩ => ?_
    subst eb
    cases rz
    exact wpAny_truthy_bool ⟨H2, I2, q2⟩
  nm := noMarks hs
  ne := ⟨by simp, rfl⟩
theorem ch_cons (hK : X.K = G.K) (hu : X.A.units + 65 < cLine) {o : COp} {e : E} {cs : Cs} {xe : Expr} {ops : List CmpOp} {es : List Expr} (he : PE X xe (tE G WX (evE c e))) (hs : notSet xe = true) (hr : PCh X G WX ops es (fun t ρ st => evCs c cs t ρ st)) :
    PCh X G WX (cOf o :: ops) (xe :: es) (fun t ρ st => evCs c (.cons o e cs) t ρ st) := by
  obtain ⟨hv, ht, hn, hne, hle⟩ := hr
  match ops, es, hne, hle with
  | op' :: ops, e' :: es, _, hle =>
    refine ⟨fun pos pins s σ H x v Q W ρ t I rx so en rt p => ?_, fun pos pins s σ H x v Q W ρ t I rx so en rt p => ?_, hn, by simp, congrArg (· + 1) hle⟩
    · refine chain_link ?_
      refine thn (he.run pins s σ H _ I ⟨W, ρ, so, en, Post.bnd (Rl := RT G) so p⟩) fun u s1 ⟨y, H1, I1, ry, W1, w, x1, s1', r1, p1⟩ => ?_
      have q1 := Post.bnd (Rl := REq Bool) (Rm := REq Bool) s1' p1
      obtain ⟨z, e1, h⟩ := Post.lift q1
      refine thn (op_cmpT (G := G) o hK hu pins s1 σ H1 x y v u (fun v' H' => ∃ b W2, v' = .bl b ∧ StOk G.K W2 H' ∧ Ext W1 H1 W2 H' ∧ Post G (REq Bool) W2 H' (fun b H' => Q (.bl b) H') (fun cls d H' => WX cls d σ H') (if b then evCs c cs w ρ W2.st else .ok false W2.st)) I1 rx ry
        ⟨W1, t, w, .bl z, s1', rt.mv x1, r1, by show (cmpop W1.st o t w).map T.bl = _; rw [e1]; rfl, fun v' W' H' e2 x2 s2 r2 => by
          cases r2
          obtain ⟨W3, a, x3, s3, ea, p3⟩ := h z W' H' e2 x2 s2 rfl
          cases ea
          exact ⟨z, W3, rfl, s3, x3, p3⟩⟩) fun q s2 ⟨zv, H2, I2, rz, b, W2, eb, so2, x2, q2⟩ => ?_
      subst eb
      cases rz
      refine wpAny_truthy_bool ?_
      cases b with
      | false => exact ite_ff ⟨.bl false, H2, I2, rfl, q2 false W2 H2 rfl Ext.refl so2 rfl⟩
      | true => exact ite_tt (hv pos pins s2 σ H2 y u Q W2 ρ w I2 ry so2 (en.mv (x1.trans so x2)) (r1.mv x2) q2)
    · refine test_link ?_
      refine thn (he.run pins s σ H _ I ⟨W, ρ, so, en, Post.bnd (Rl := RT G) so p⟩) fun u s1 ⟨y, H1, I1, ry, W1, w, x1, s1', r1, p1⟩ => ?_
      have q1 := Post.bnd (Rl := REq Bool) (Rm := REq Bool) s1' p1
      obtain ⟨z, e1, h⟩ := Post.lift q1
      refine thn (op_cmpT (G := G) o hK hu pins s1 σ H1 x y v u (fun v' H' => ∃ b W2, v' = .bl b ∧ StOk G.K W2 H' ∧ Ext W1 H1 W2 H' ∧ Post G (REq Bool) W2 H' Q (fun cls d H' => WX cls d σ H') (if b then evCs c cs w ρ W2.st else .ok false W2.st)) I1 rx ry
        ⟨W1, t, w, .bl z, s1', rt.mv x1, r1, by show (cmpop W1.st o t w).map T.bl = _; rw [e1]; rfl, fun v' W' H' e2 x2 s2 r2 => by
          cases r2
          obtain ⟨W3, a, x3, s3, ea, p3⟩ := h z W' H' e2 x2 s2 rfl
          cases ea
          exact ⟨z, W3, rfl, s3, x3, p3⟩⟩) fun q s2 ⟨zv, H2, I2, rz, b, W2, eb, so2, x2, q2⟩ => ?_
      subst eb
      cases rz
      refine wpAny_truthy_bool ?_
      cases b with
      | false => exact ite_ff ⟨H2, I2, q2 false W2 H2 rfl Ext.refl so2 rfl⟩
      | true => exact ite_tt (ht pos pins s2 σ H2 y u Q W2 ρ w I2 ry so2 (en.mv (x1.trans so x2)) (r1.mv x2) q2)
end
end Lm
/-! Expressions: displays, new lists, items, slices, calls. -/
namespace Lm
open PySem PySem.Spec PyProof.Rows L2
section
variable {X : Cx} {G : Gx} {WX : WX} {c : Cf}

/-! ### arguments, tuples -/
theorem ra_nil : PA X [] (tA G WX (evEs c .nil)) := PA_imp pa_nil fun σ H Q ⟨W, ρ, so, en, p⟩ => p [] W H rfl Ext.refl so .nil
theorem ra_cons {e : E} {es : Es} {xe : Expr} {xs : List Expr} (he : PE X xe (tE G WX (evE c e))) (hs : PA X xs (tA G WX (evEs c es))) (ns : notStar xe = true) : PA X (xe :: xs) (tA G WX (evEs c (.cons e es))) :=
  PA_imp (pa_cons he hs (starEach_cons ns)) fun σ H Q ⟨W, ρ, so, en, p⟩ =>
    ⟨W, ρ, so, en, Post.imp (Post.bnd (Rl := RT G) so p) (fun x H1 ⟨W1, t, x1, s1, r1, p1⟩ =>
      ⟨W1, ρ, s1, en.mv x1, Post.imp (Post.bnd (Rl := RTs G) s1 p1) (fun ys H2 ⟨W2, ts, x2, s2, r2, p2⟩ => p2 _ W2 H2 rfl Ext.refl s2 (.cons (r1.mv x2) r2)) fun _ _ _ h => h⟩) fun _ _ _ h => h⟩
theorem r_tup {xs : Es} {es : List Expr} {k : Nat} {pos : Pos} (ha : PA X es (tA G WX (evEs c xs))) : PE X (.Tuple es k pos) (tE G WX (evE c (.tup xs))) :=
  PE_imp (pe_tup ha) fun σ H Q ⟨W, ρ, so, en, p⟩ =>
    ⟨W, ρ, so, en, Post.imp (Post.bnd (Rl := RTs G) so p) (fun vs H1 ⟨W1, ts, x1, s1, r1, p1⟩ => by
      split at p1
      · rename_i hl
        refine ⟨by rw [r1.length]; exact hl, fun q hq => ?_⟩
        exact Hand.tup (Q := Q) (fun v W' H' e x s r => p1 v W' H' e x s r) s1 r1 hq
      · exact p1.elim) fun _ _ _ h => h⟩

/-! ### new lists -/
def RF (G : Gx) (H0 : Hp) : Rel (List T) V := fun W H v ts => ∃ p xs, v = .ref p ∧ W.L p ∧ ¬ Live W p ∧ H0 p = none ∧ H p = some (.lst xs) ∧ Reps G.K W H xs ts
def tF (G : Gx) (WX : L2.WX) (f : Fm → Sto → R (List T)) : TE := fun σ H Q => ∃ W ρ, StOk G.K W H ∧ EnvR G.K W H σ ρ ∧ Post G (RF G H) W H Q (fun cls d H' => WX cls d σ H') (f ρ W.st)
/-- a new list at p, protected -/
theorem prot_ok {K : PySem.W.Frag} {W : Wd} {H : Hp} {p : Addr} {o : HO} (s : StOk K W H) (hp : H p = none) :
    Ext W H { W with L := fun a => W.L a ∨ a = p } (upd H p o) ∧ StOk K { W with L := fun a => W.L a ∨ a = p } (upd H p o) ∧ ¬ Live { W with L := fun a => W.L a ∨ a = p } p := by
  have ne : ∀ {a : Addr} {u : HO}, H a = some u → upd H p o a = some u := fun h => by rw [upd_ne (ne_of_none h hp)]; exact h
  have x : Ext W H { W with L := fun a => W.L a ∨ a = p } (upd H p o) := by
    refine ⟨⟨Nat.le_refl _, fun _ _ => rfl, fun a u h _ => ne h, fun a h => ?_⟩, fun a u h _ _ => ne h, fun a h _ => .inl h, fun a h => .inl h, fun a u h => ⟨u, ne h⟩⟩
    rcases h with h | rfl
    · exact .inl h
    · exact .inr hp
  refine ⟨x, ⟨s.inj, fun i ob h q => .inl (s.liv i ob h q), fun i ob h => (s.ob i ob h).mv x.toExt0 fun u hu => ne hu, fun a h => ?_⟩, fun h => ?_⟩
  · rcases h with h | rfl
    · obtain ⟨u, e⟩ := s.lh a h
      exact ⟨u, ne e⟩
    · exact ⟨o, upd_same⟩
  · obtain ⟨n, ob, h1, h2, h3⟩ := h
    obtain ⟨u, e⟩ := s.lh p (h3 ▸ s.liv n ob h1 h2)
    rw [hp] at e; cases e
theorem Post.fresh {W W1 : Wd} {H H1 : Hp} {Q : VK} {E : XK} {ts : List T} {xs : List V} {p : Addr} (s : StOk G.K W H) (x : Ext W H W1 H1) (s1 : StOk G.K W1 H1) (h : Post G (RF G H) W1 H1 Q E (.ok ts W1.st)) (r : Reps G.K W1 H1 xs ts) (hp : H1 p = none) :
    Q (.ref p) (upd H1 p (.lst xs)) := by
  obtain ⟨x2, s2, nl⟩ := prot_ok (o := .lst xs) s1 hp
  exact h (.ref p) { W1 with L := fun a => W1.L a ∨ a = p } _ rfl x2 s2 ⟨p, xs, rfl, .inr rfl, nl, x.some_back hp, upd_same, r.mv x2⟩
theorem lt_imp {l : L} {σ : L2.St} {H : Hp} {Q : VK} : tE G WX (evE c (.lt l)) σ H Q → tF G WX (evL c l) σ H Q :=
  fun ⟨W, ρ, so, en, p⟩ => by
    refine ⟨W, ρ, so, en, ?_⟩
    have p' : Post G (RT G) W H Q (fun cls d H' => WX cls d σ H') ((evL c l ρ W.st).bnd fun ts st => .ok (.lst ts) st) := p
    cases e : evL c l ρ W.st with
    | bad => rw [e] at p'; exact p'.elim
    | exc k xs st => rw [e] at p'; exact p'
    | ok ts st =>
      rw [e] at p'
      intro v W' H' ew x s ⟨q, xs, ev, lq, nl, hn, hq, hr⟩
      subst ev
      obtain ⟨x3, s3, r3⟩ := free_ok s nl hq hr
      refine p' (.ref q) { W' with L := fun a => W'.L a ∧ a ≠ q } H' ew ⟨⟨x.len, x.agr, x.keep, fun a h => x.low a h.1⟩, x.keepx, fun a h v => ⟨x.up a h v, fun z => ?_⟩, x.nl, x.sm⟩ s3 r3
      obtain ⟨o, ho⟩ := so.lh a h
      rw [z, hn] at ho; cases ho
theorem r_lt {l : L} {xe : Expr} (h : PE X xe (tF G WX (evL c l))) : PE X xe (tE G WX (evE c (.lt l))) := PE_imp h fun σ H Q => lt_imp
theorem lo_imp {l : L} {σ : L2.St} {H : Hp} {Q : VK} : tE G WX (evE c (.lo l)) σ H Q → tF G WX (evL c l) σ H Q :=
  fun ⟨W, ρ, so, en, p⟩ => by
    refine ⟨W, ρ, so, en, ?_⟩
    have p' : Post G (RT G) W H Q (fun cls d H' => WX cls d σ H') ((evL c l ρ W.st).bnd fun ts st => .ok (.obj st.length) (st ++ [.lst ts])) := p
    cases e : evL c l ρ W.st with
    | bad => rw [e] at p'; exact p'.elim
    | exc k xs st => rw [e] at p'; exact p'
    | ok ts st =>
      rw [e] at p'
      intro v W' H' ew x s ⟨q, xs, ev, lq, nl, hn, hq, hr⟩
      subst ev
      subst ew
      obtain ⟨x3, s3, r3, l3⟩ := take_ok s lq nl hq hr
      refine p' (.ref q) _ H' rfl ⟨⟨Nat.le_trans x.len x3.len, fun n h => (x3.agr n (Nat.lt_of_lt_of_le h x.len)).trans (x.agr n h), x.keep, x.low⟩, x.keepx, x.up, fun a h => ?_, x.sm⟩ s3 r3
      · rcases l3 a h with z | z
        · exact x.nl a z
        · exact .inr (z ▸ hn)
theorem r_lo {l : L} {xe : Expr} (h : PE X xe (tF G WX (evL c l))) : PE X xe (tE G WX (evE c (.lo l))) := PE_imp h fun σ H Q => lo_imp
theorem f_disp {xs : Es} {es : List Expr} {pos : Pos} (ha : PA X es (tA G WX (evEs c xs))) : PE X (.List es pos) (tF G WX (evL c (.disp xs))) :=
  PE_imp (pe_lst ha) fun σ H Q ⟨W, ρ, so, en, p⟩ =>
    ⟨W, ρ, so, en, Post.imp (Post.bnd (Rl := RTs G) so p) (fun vs H1 ⟨W1, ts, x1, s1, r1, p1⟩ => by
      split at p1
      · rename_i hl
        exact ⟨by rw [r1.length]; exact hl, fun q hq => Post.fresh so x1 s1 p1 r1 hq⟩
      · exact p1.elim) fun _ _ _ h => h⟩
/-- by values: two lists in, their items handed on -/
theorem f_cat {a b : E} {xa xb : Expr} {pos : Pos} (ha : PE X xa (tE G WX (evE c a))) (hb : PE X xb (tE G WX (evE c b))) : PE X (.BinOp xa .Add xb pos) (tF G WX (evL c (.cat a b))) :=
  PE_imp (pe_op op_cat ha hb) fun σ H Q ⟨W, ρ, so, en, p⟩ =>
    ⟨W, ρ, so, en, Post.imp (Post.bnd (Rl := RT G) so p) (fun x H1 ⟨W1, t, x1, s1, r1, p1⟩ =>
      ⟨W1, ρ, s1, en.mv x1, Post.imp (Post.bnd (Rl := RT G) s1 p1) (fun y H2 ⟨W2, u, x2, s2, r2, p2⟩ => by
        split at p2
        · rename_i ts us d1 d2
          split at p2
          · rename_i hl
            obtain ⟨l, vs, rfl, hv, rv⟩ := s2.lst (r1.mv x2) d1
            obtain ⟨l2, ws, rfl, hw, rw'⟩ := s2.lst r2 d2
            exact ⟨l, l2, vs, ws, rfl, rfl, hv, hw, by rw [rv.length, rw'.length]; exact hl, fun q hq => Post.fresh so (x1.trans so x2) s2 p2 (rv.append rw') hq⟩
          · exact p2.elim
        · exact p2.elim) fun _ _ _ h => h⟩) fun _ _ _ h => h⟩
theorem Reps.rep {K : PySem.W.Frag} {W : Wd} {H : Hp} {xs : List V} {ts : List T} (h : Reps K W H xs ts) : ∀ n, Reps K W H (List.replicate n xs).flatten (List.replicate n ts).flatten
  | 0 => .nil
  | n + 1 => by
    rw [List.replicate_succ, List.replicate_succ, List.flatten_cons, List.flatten_cons]
    exact h.append (Reps.rep h n)
theorem f_ofSeq {a : E} {xa : Expr} {p pos : Pos} (hK : X.K = G.K) (ha : PA X [xa] (tA G WX (evEs c (.cons a .nil)))) (hg : Gl X "list") (hm : X.mg "list" = none) (ns : notStar xa = true) : PE X (.Call (.Name "list" p) [xa] [] pos) (tF G WX (evL c (.ofSeq a))) :=
  PE_imp (pe_callTy call_list_of hg hm boot_list ha (by decide) (by decide) (starEach_cons ns) rfl) fun σ H Q ⟨W, ρ, so, en, p⟩ => by
    refine ⟨W, ρ, so, en, ?_⟩
    have e : evL c (.ofSeq a) ρ W.st = (evEs c (.cons a .nil) ρ W.st).bnd fun ts st => match ts with
      | [x] => R.lift (items st x) st
      | _ => .bad := by
      show (evE c a ρ W.st).bnd _ = ((evE c a ρ W.st).bnd _).bnd _
      cases evE c a ρ W.st <;> rfl
    rw [e] at p
    refine Post.imp (Post.bnd (Rl := RTs G) so p) (fun vs H1 ⟨W1, ts, x1, s1, r1, p1⟩ => ?_) fun _ _ _ h => h
    split at p1
    · rename_i t
      obtain ⟨v, rfl, rv⟩ := one_of (ts := []) r1
      cases d : items W1.st t with
      | none => rw [d] at p1; exact p1.elim
      | some us =>
        rw [d] at p1
        obtain ⟨q, ws, rfl, hq, hr⟩ := s1.items rv d
        exact ⟨q, ws, rfl, by rw [hK]; exact hq, fun l hl => Post.fresh so x1 s1 p1 hr hl⟩
    · exact p1.elim

/-! ### items, slices -/
def plainIx : Expr → Bool
  | .Slice .. => false
  | _ => true
theorem plainIx_of {b : Expr} (h : plainIx b = true) : PlainIx b := by
  intro o i
  cases b <;> first | rfl | cases h
def rTix (G : Gx) : R2 := fun x y H Q => ∃ W t k ts j z, StOk G.K W H ∧ Rep G.K W H x t ∧ y = .int k ∧ items W.st t = some ts ∧ ixOf ts.length k = some j ∧ ts[j]? = some z ∧ Hand G W H Q z
theorem IxR.of {r r' : R2} (h : IxR X r) (hi : ∀ x y H Q, r' x y H Q → r x y H Q) : IxR X r' := fun value slice pins s σ H x y v u Q I rx ry q hs => h value slice pins s σ H x y v u Q I rx ry (hi _ _ _ _ q) hs
theorem ix_T (hK : X.K = G.K) : IxR X (rTix G) := IxR.of (ix_list.or ix_tup) fun x y H Q h => by
  obtain ⟨W, t, k, ts, j, z, so, rx, rfl, hi, hj, hz, hQ⟩ := h
  obtain ⟨a, xs, rfl, hq, hr⟩ := so.items rx hi
  obtain ⟨v, hv, rv⟩ := hr.get hz
  have ha : atI xs k = some v := by
    unfold atI
    rw [show ixN xs.length k = some j from by rw [hr.length]; exact hj]
    exact hv
  rcases hq with hq | hq
  · exact .inl ⟨a, xs, k, v, rfl, rfl, by rw [hK]; exact hq, ha, hQ.here so rv⟩
  · exact .inr ⟨a, xs, k, v, rfl, rfl, by rw [hK]; exact hq, ha, hQ.here so rv⟩
theorem r_idx {a b : E} {xa xb : Expr} {pos : Pos} (hK : X.K = G.K) (ha : PE X xa (tE G WX (evE c a))) (hb : PE X xb (tE G WX (evE c b))) (hp : plainIx xb = true) : PE X (.Subscript xa xb pos) (tE G WX (evE c (.idx a b))) :=
  PE_imp (pe_ix (ix_T (G := G) hK) ha hb (plainIx_of hp)) fun σ H Q ⟨W, ρ, so, en, p⟩ =>
    ⟨W, ρ, so, en, Post.imp (Post.bnd (Rl := RT G) so p) (fun x H1 ⟨W1, t, x1, s1, r1, p1⟩ =>
      ⟨W1, ρ, s1, en.mv x1, Post.imp (Post.bnd (Rl := RT G) s1 p1) (fun y H2 ⟨W2, u, x2, s2, r2, p2⟩ => by
        split at p2
        · rename_i k
          split at p2
          · rename_i ts d1
            split at p2
            · rename_i j d2
              obtain ⟨z, hz, h⟩ := Post.lift p2
              cases r2
              exact ⟨W2, t, k, ts, j, z, s2, r1.mv x2, rfl, d1, d2, hz, h⟩
            · exact p2.elim
          · exact p2.elim
        · exact p2.elim) fun _ _ _ h => h⟩) fun _ _ _ h => h⟩
/-- a part of a slice -/
abbrev tO (G : Gx) (WX : L2.WX) (f : Fm → Sto → R (Option Int)) : TO := tG G (REq (Option Int)) WX f
theorem PO_imp {e : Option Expr} {t t' : TO} (h : PO X e t) (hi : ∀ σ H Q, t' σ H Q → t σ H Q) : PO X e t' := ⟨fun pins s σ H Q I q => h.run pins s σ H Q I (hi σ H Q q)⟩
theorem ro_none : PO X none (tO G WX (evO c .none)) := PO_imp po_none fun σ H Q ⟨W, ρ, so, en, p⟩ => p _ W H rfl Ext.refl so rfl
theorem ro_some {e : E} {xe : Expr} (h : PE X xe (tE G WX (evE c e))) : PO X (some xe) (tO G WX (evO c (.some e))) := PO_imp (po_some h) fun σ H Q ⟨W, ρ, so, en, p⟩ =>
  ⟨W, ρ, so, en, Post.imp (Post.bnd (Rl := RT G) so p) (fun x H1 ⟨W1, t, x1, s1, r1, p1⟩ => by
    split at p1
    · cases r1
      exact ⟨_, rfl, p1 _ W1 H1 rfl Ext.refl s1 rfl⟩
    · exact p1.elim) fun _ _ _ h => h⟩
def rTsl (G : Gx) : V → Option Int → Option Int → Hp → VK → Prop := fun x lo hi H Q => ∃ W t z, StOk G.K W H ∧ Rep G.K W H x t ∧ sliceT W.st t lo hi = some z ∧ Hand G W H Q z
theorem SlR.of {r r' : V → Option Int → Option Int → Hp → VK → Prop} (h : SlR X r) (hi : ∀ x lo hi H Q, r' x lo hi H Q → r x lo hi H Q) : SlR X r' := fun pins s σ H x v vl vu lo up sl Q I rx hs pl pu q => h pins s σ H x v vl vu lo up sl Q I rx hs pl pu (hi _ _ _ _ _ q)
theorem slice_whole {ts : List T} {lo hi : Option Int} (h : HT.sIx ts.length 0 lo = 0 ∧ HT.sIx ts.length ts.length hi = ts.length) : sliceL ts lo hi = ts := by
  unfold sliceL
  rw [h.1, h.2]
  simp
theorem Reps.cut {K : PySem.W.Frag} {W : Wd} {H : Hp} {xs : List V} {ts : List T} (h : Reps K W H xs ts) (lo hi : Option Int) : Reps K W H (cutV xs lo hi) (sliceL ts lo hi) := by
  unfold cutV sliceL
  rw [h.length]
  exact (h.drop _).take _
theorem sl_T (hK : X.K = G.K) : SlR X (rTsl G) := SlR.of (sl_list.or sl_tupA) fun x lo hi H Q h => by
  obtain ⟨W, t, z, so, rx, e, hQ⟩ := h
  have e' : (match deref W.st t with | .tup xs => some (T.tup (sliceL xs lo hi)) | .lst xs => some (.lst (sliceL xs lo hi)) | _ => none) = some z := e
  cases d : deref W.st t with
  | tup ts =>
    rw [d] at e'; cases e'
    obtain ⟨a, xs, rfl, ha, hr⟩ := so.tup rx d
    refine .inr ⟨a, xs, rfl, by rw [hK]; exact ha.sq, fun hw => ?_, fun _ q hq => hQ.tup so (hr.cut lo hi) hq⟩
    rw [hr.length] at hw
    exact hQ.here so (by rw [slice_whole hw]; exact .tup ha hr)
  | lst ts =>
    rw [d] at e'; cases e'
    obtain ⟨a, xs, rfl, ha, hr⟩ := so.lst rx d
    exact .inl ⟨a, xs, rfl, SqL.of ha, fun q hq => hQ.lst so (hr.cut lo hi) hq⟩
  | _ => rw [d] at e'; cases e'
theorem r_sl {a : E} {lo hi : Oe} {xa : Expr} {xl xh : Option Expr} {p2 pos : Pos} (hK : X.K = G.K) (ha : PE X xa (tE G WX (evE c a))) (hl : PO X xl (tO G WX (evO c lo))) (hh : PO X xh (tO G WX (evO c hi))) : PE X (.Subscript xa (.Slice xl xh none p2) pos) (tE G WX (evE c (.sl a lo hi))) :=
  PE_imp (pe_slice (sl_T (G := G) hK) ha hl hh) fun σ H Q ⟨W, ρ, so, en, p⟩ =>
    ⟨W, ρ, so, en, Post.imp (Post.bnd (Rl := RT G) so p) (fun x H1 ⟨W1, t, x1, s1, r1, p1⟩ =>
      ⟨W1, ρ, s1, en.mv x1, Post.imp (Post.bnd (Rl := REq (Option Int)) s1 p1) (fun l H2 ⟨W2, l', x2, s2, r2, p2⟩ => by
        cases r2
        exact ⟨W2, ρ, s2, (en.mv x1).mv x2, Post.imp (Post.bnd (Rl := REq (Option Int)) s2 p2) (fun u H3 ⟨W3, u', x3, s3, r3, p3⟩ => by
          cases r3
          obtain ⟨z, hz, h⟩ := Post.lift p3
          exact ⟨W3, t, z, s3, (r1.mv x2).mv x3, hz, h⟩) fun _ _ _ h => h⟩) fun _ _ _ h => h⟩) fun _ _ _ h => h⟩
end
end Lm
/-! Expressions: calls of own defs, of built-ins, of methods; isinstance; a list frozen. -/
namespace Lm
open PySem PySem.Spec PyProof.Rows L2
section
variable {X : Cx} {G : Gx} {WX : WX} {c : Cf}

/-- a def's promise: what ev says of the arguments' trees -/
def spT (G : Gx) (np : Nat) (ev : List T → Sto → R T) : Sp := fun vs H Q E => vs.length = np ∧ ∃ W ts, StOk G.K W H ∧ Reps G.K W H vs ts ∧ Post G (RT G) W H Q E (ev ts W.st)
theorem evEs_len : ∀ {es : Es} {ρ : Fm} {st st' : Sto} {ts : List T}, evEs c es ρ st = .ok ts st' → ts.length = es.len
  | .nil, _, _, _, _, h => by
    have h' : R.ok [] _ = R.ok _ _ := h
    cases h'; rfl
  | .cons e es, ρ, st, st', ts, h => by
    have h' : ((evE c e ρ st).bnd fun t st => (evEs c es ρ st).bnd fun ts st => .ok (t :: ts) st) = R.ok ts st' := h
    cases h1 : evE c e ρ st with
    | ok t st1 =>
      rw [h1] at h'
      cases h2 : evEs c es ρ st1 with
      | ok us st2 =>
        have h3 : (evEs c es ρ st1).bnd (fun ts st => .ok (t :: ts) st) = R.ok ts st' := h'
        rw [h2] at h3
        cases h3
        have := evEs_len h2
        simp [Es.len, this]
      | exc _ _ _ =>
        have h3 : (evEs c es ρ st1).bnd (fun ts st => .ok (t :: ts) st) = R.ok ts st' := h'
        rw [h2] at h3; cases h3
      | bad =>
        have h3 : (evEs c es ρ st1).bnd (fun ts st => .ok (t :: ts) st) = R.ok ts st' := h'
        rw [h2] at h3; cases h3
    | exc _ _ _ => rw [h1] at h'; cases h'
    | bad => rw [h1] at h'; cases h'
/-- .. with their number told -/
def RTn (G : Gx) (n : Nat) : Rel (List T) (List V) := fun W H v t => Reps G.K W H v t ∧ t.length = n
theorem Post.lenEs {es : Es} {W : Wd} {H : Hp} {ρ : Fm} {st : Sto} {Q : List V → Hp → Prop} {E : XK} (h : Post G (RTn G es.len) W H Q E (evEs c es ρ st)) : Post G (RTs G) W H Q E (evEs c es ρ st) := by
  cases e : evEs c es ρ st with
  | ok ts st' =>
    rw [e] at h
    exact fun v W' H' e1 x s r => h v W' H' e1 x s ⟨r, evEs_len e⟩
  | exc _ _ _ => rw [e] at h; exact h
  | bad => rw [e] at h; exact h
theorem Paired_pick {pm : List Nat} {xs : List V} {us : List Value} (h : Vals xs us) : Vals (pick pm xs) (pick pm us) := by
  unfold pick
  induction pm with
  | nil => exact .nil
  | cons j pm ih =>
    rw [List.filterMap_cons, List.filterMap_cons]
    cases e : xs[j]? with
    | none => rw [h.none_of e]; exact ih
    | some v =>
      obtain ⟨u, h1, h2⟩ := h.get e
      rw [h1]
      exact .cons h2 ih
theorem Reps.none_of {K : PySem.W.Frag} {W : Wd} {H : Hp} {vs : List V} {ts : List T} {i : Nat} (h : Reps K W H vs ts) (e : vs[i]? = none) : ts[i]? = none := by
  have h1 := h.length
  have h2 : vs.length ≤ i := List.getElem?_eq_none_iff.mp e
  exact List.getElem?_eq_none_iff.mpr (by omega)
theorem Reps_pick {K : PySem.W.Frag} {W : Wd} {H : Hp} {pm : List Nat} {vs : List V} {ts : List T} (h : Reps K W H vs ts) : Reps K W H (pick pm vs) (pick pm ts) := by
  unfold pick
  induction pm with
  | nil => exact .nil
  | cons j pm ih =>
    rw [List.filterMap_cons, List.filterMap_cons]
    cases e : vs[j]? with
    | none => rw [h.none_of e]; exact ih
    | some v =>
      obtain ⟨u, h1, h2⟩ := h.get' e
      rw [h1]
      exact .cons h2 ih
theorem pick_range {α : Type} (xs : List α) : pick (List.range xs.length) xs = xs := by
  unfold pick
  have e : (List.range xs.length).map (fun j => xs[j]?) = xs.map some := by
    have := range_map xs []
    simpa using this
  have e2 : (List.range xs.length).filterMap (fun j => xs[j]?) = ((List.range xs.length).map fun j => xs[j]?).filterMap id := by rw [List.filterMap_map]; rfl
  rw [e2, e, filterMap_some']
theorem binds_len {ps kn : List Str} {np : Nat} {pm : List Nat} (b : binds ps np kn pm = true) : pm.length = ps.length := by
  unfold binds at b
  simp only [Bool.and_eq_true, decide_eq_true_eq, List.all_eq_true] at b
  obtain ⟨⟨⟨⟨⟨⟨b1, b2⟩, b3⟩, b4⟩, b5⟩, b6⟩, b7⟩ := b
  rw [← b6]
  unfold arrN
  clear b6 b1 b2 b3 b4 b7
  induction ps generalizing np with
  | nil => rfl
  | cons n ps ih => exact len_fm (fun m hm => b5 m hm)
where
  len_fm : ∀ {l : List Str} {g : Str → Option Nat}, (∀ n ∈ l, (g n).isSome = true) → (l.filterMap g).length = l.length
    | [], _, _ => rfl
    | n :: l, g, h => by
      have h1 := h n List.mem_cons_self
      cases e : g n with
      | none => rw [e] at h1; cases h1
      | some v => rw [List.filterMap_cons, e]; simp [len_fm (l := l) (g := g) fun m hm => h m (List.mem_cons_of_mem _ hm)]
/-- the def runs -/
theorem run_G {k : Nat} {f : Addr} {fd : FuncData} {ps kn : List Str} {pm : List Nat} {ev : List T → Sto → R T} {pins : List (Addr × Obj)} {σ : L2.St} {H : Hp} {s : Shared} {Q : VK} {us ws : List Value} {vs zs : List V} {ts us' : List T} {W : Wd}
    (F : FnG X.prog X.w X.K X.mg X.base k f fd ps (spT G ps.length ev)) (hr : Room k X.A) (hgd : X.A.guards = some []) (hp : plainArgs fd.params ps = true) (hd : fd.defaults = .none) (hb : binds ps ts.length kn (if kn.isEmpty then List.range ts.length else pm) = true) (hw : us'.length = kn.length)
    (tk : Takes X WX) (I : Inv X pins σ H s) (r1 : Vals vs us) (r2 : Vals zs ws) (so : StOk G.K W H) (q1 : Reps G.K W H vs ts) (q2 : Reps G.K W H zs us') (p : Post G (RT G) W H Q (fun cls d H' => WX cls d σ H') (ev (if kn.isEmpty then ts else pick pm (ts ++ us')) W.st)) :
    wpAny (model X.prog X.w) X.A (call (.ref f) us (kn.zip ws)) (EP X pins σ Q) X.xe s := by
  have lu : us.length = ts.length := by rw [← r1.length, q1.length]
  have lw : ws.length = kn.length := by rw [← r2.length, q2.length, hw]
  have rv : Vals (pick (if kn.isEmpty then List.range ts.length else pm) (vs ++ zs)) (pick (if kn.isEmpty then List.range ts.length else pm) (us ++ ws)) := Paired_pick (r1.append r2)
  have rt : Reps G.K W H (pick (if kn.isEmpty then List.range ts.length else pm) (vs ++ zs)) (if kn.isEmpty then ts else pick pm (ts ++ us')) := by
    cases e : kn.isEmpty with
    | false => rw [if_neg (by decide), if_neg (by decide)]; exact Reps_pick (q1.append q2)
    | true =>
      rw [if_pos rfl, if_pos rfl]
      have e0 : us' = [] := by
        rw [List.isEmpty_iff] at e
        rw [e] at hw
        exact List.length_eq_zero_iff.mp hw
      have := Reps_pick (pm := List.range ts.length) (q1.append q2)
      rw [e0, List.append_nil, pick_range] at this
      exact this
  have hb' := hb
  have hl : (pick (if kn.isEmpty then List.range ts.length else pm) (vs ++ zs)).length = ps.length := by
    have h1 := binds_len hb
    unfold binds at hb'
    simp only [Bool.and_eq_true, decide_eq_true_eq, List.all_eq_true] at hb'
    obtain ⟨⟨⟨⟨⟨⟨b1, b2⟩, b3⟩, b4⟩, b5⟩, b6⟩, b7⟩ := hb'
    have h3 : ((if kn.isEmpty then List.range ts.length else pm).map fun j => (vs ++ zs)[j]?) = (pick (if kn.isEmpty then List.range ts.length else pm) (vs ++ zs)).map some := by
      refine pick_map fun j hj => ?_
      have := b7 j hj
      rw [List.length_append, q1.length, q2.length, hw]
      omega
    have h4 := congrArg List.length h3
    rw [List.length_map, List.length_map] at h4
    rw [← h4, h1]
  refine wpAny_call (codeAny_mono (F.run X.A X.stack s H ⟨us, kn.zip ws⟩ _ _ Q _ hr hgd I.env0 (BindsTo.of_eq (binds_to hp hd lw (by rw [lu]; exact hb))) rv ⟨hl, W, _, so, rt, p⟩) fun r s' hq => ?_)
  cases r with
  | error e => exact passAt tk σ pins H s e s' I hq
  | ok fl =>
    cases fl with
    | ret u => exact I.after hq
    | next => exact False.elim hq
    | brk => exact False.elim hq
    | cont => exact False.elim hq

/-! ### calls -/
theorem kwn_all {pos : Pos} {env : PySem.Env} : ∀ {kws : List Keyword}, (kws.all fun k => k.arg.isSome) = true → (backToKw pos (keywordEach kws env)).all (·.1.isSome) = true ∧ (backToKw pos (keywordEach kws env)).any (·.1.isNone) = false
  | [], _ => ⟨rfl, rfl⟩
  | ⟨nm, v, kp⟩ :: kws, h => by
    obtain ⟨h1, h2⟩ := Bool.and_eq_true_iff.mp (by simpa using h : (nm.isSome && kws.all fun k => k.arg.isSome) = true)
    obtain ⟨i1, i2⟩ := kwn_all (pos := pos) (env := env) h2
    constructor
    · show (nm.isSome && (backToKw pos (keywordEach kws env)).all (·.1.isSome)) = true
      rw [h1, i1]; rfl
    · show (nm.isNone || (backToKw pos (keywordEach kws env)).any (·.1.isNone)) = false
      rw [i2]
      cases nm with
      | none => cases h1
      | some _ => rfl
theorem kwn_names {pos : Pos} {env : PySem.Env} : ∀ {kws : List Keyword}, (backToKw pos (keywordEach kws env)).filterMap (·.1) = kws.filterMap (·.arg)
  | [] => rfl
  | ⟨nm, v, kp⟩ :: kws => by
    show List.filterMap (·.1) ((nm, _) :: backToKw pos (keywordEach kws env)) = _
    rw [List.filterMap_cons, List.filterMap_cons, kwn_names (kws := kws)]
theorem rk_nil : PK X [] (tA G WX (evEs c .nil)) := ⟨fun pos pins s σ H Q I ⟨W, ρ, so, en, p⟩ => wpAny_evalAll_nil ⟨[], H, I, .nil, p [] W H rfl Ext.refl so .nil⟩⟩
theorem PK_imp {kws : List Keyword} {t t' : TA} (h : PK X kws t) (hi : ∀ σ H Q, t' σ H Q → t σ H Q) : PK X kws t' := ⟨fun pos pins s σ H Q I q => h.run pos pins s σ H Q I (hi σ H Q q)⟩
theorem rk_cons {nm : Option Str} {kp : Pos} {e : E} {es : Es} {xe : Expr} {kws : List Keyword} (he : PE X xe (tE G WX (evE c e))) (hs : PK X kws (tA G WX (evEs c es))) : PK X (⟨nm, xe, kp⟩ :: kws) (tA G WX (evEs c (.cons e es))) :=
  PK_imp (pk_cons he hs) fun σ H Q ⟨W, ρ, so, en, p⟩ =>
    ⟨W, ρ, so, en, Post.imp (Post.bnd (Rl := RT G) so p) (fun x H1 ⟨W1, t, x1, s1, r1, p1⟩ =>
      ⟨W1, ρ, s1, en.mv x1, Post.imp (Post.bnd (Rl := RTs G) s1 p1) (fun ys H2 ⟨W2, ts, x2, s2, r2, p2⟩ => p2 _ W2 H2 rfl Ext.refl s2 (.cons (r1.mv x2) r2)) fun _ _ _ h => h⟩) fun _ _ _ h => h⟩
/-- f(..), f a def of the text -/
theorem r_call {k f : Nat} {xs ys : Es} {kn : List Str} {pm : List Nat} {x : Str} {es : List Expr} {kws : List Keyword} {p pos : Pos} {fa : Addr} {fd : FuncData} {ps : List Str}
    (F : FnG X.prog X.w X.K X.mg X.base k fa fd ps (spT G ps.length (c.call f))) (hr : Room k X.A) (hgd : X.A.guards = some []) (hp : plainArgs fd.params ps = true) (hd : fd.defaults = .none) (tk : Takes X WX)
    (hg : Gl X x) (hm : X.mg x = some (.ref fa)) (hk : PySem.W.keepIn X.K (.ref fa) = true) (ha : PA X es (tA G WX (evEs c xs))) (hkw : PK X kws (tA G WX (evEs c ys))) (ns : es.all notStar = true) (na : (kws.all fun k => k.arg.isSome) = true)
    (hkn : kws.filterMap (·.arg) = kn) (hl : xs.len = es.length) (hl2 : ys.len = kn.length) (hb : binds ps es.length kn (if kn.isEmpty then List.range es.length else pm) = true) (hdb : (x == ("__debug__" : Str)) = false) :
    PE X (.Call (.Name x p) es kws pos) (tE G WX (evE c (.call f xs ys kn pm))) := by
  refine ⟨fun pins s σ H Q I ⟨W, ρ, so, en, p⟩ => ?_⟩
  refine wpAny_Call_Name_kw (ld_glob I hg hm ?_ hdb)
  obtain ⟨kw1, kw2⟩ := kwn_all (pos := pos) (env := X.env) na
  have p0 : Post G (RT G) W H Q (fun cls d H' => WX cls d σ H') ((evEs c xs ρ W.st).bnd fun ts st => (evEs c ys ρ st).bnd fun us st => c.call f (if kn.isEmpty then ts else pick pm (ts ++ us)) st) := p
  have p1 := Post.bnd (Rl := RTn G xs.len) so p0
  -- behind the positional ones
  have go : ∀ (us : List Value) (s1 : Shared) (vs : List V) (H1 : Hp), Inv X pins σ H1 s1 → Vals vs us → (∃ W1 ts, Ext W H W1 H1 ∧ StOk G.K W1 H1 ∧ RTn G xs.len W1 H1 vs ts ∧ Post G (RT G) W1 H1 Q (fun cls d H' => WX cls d σ H') ((evEs c ys ρ W1.st).bnd fun us st => c.call f (if kn.isEmpty then ts else pick pm (ts ++ us)) st)) →
      wpAny (model X.prog X.w) X.A (evalAll ((backToKw pos (keywordEach kws X.env)).map (·.2))) (fun ks s₂ => X.K.In s₂.heap ∧ wpAny (model X.prog X.w) X.A (call (.ref fa) us (((backToKw pos (keywordEach kws X.env)).filterMap (·.1)).zip ks)) (EP X pins σ Q) X.xe s₂) X.xe s1 := by
    intro us s1 vs H1 I1 rv ⟨W1, ts, x1, so1, ⟨q1, l1⟩, p2⟩
    refine thn (hkw.run pos pins s1 σ H1 _ I1 ⟨W1, ρ, so1, en.mv x1, Post.lenEs (Post.bnd (Rl := RTn G ys.len) so1 p2)⟩) fun ws s2 ⟨zs, H2, I2, rz, W2, us2, x2, so2, ⟨q2, l2⟩, p3⟩ => ⟨I2.kIn, ?_⟩
    rw [kwn_names, hkn]
    exact run_G F hr hgd hp hd (by rw [l1, hl]; exact hb) (by rw [l2, hl2]) tk I2 rv rz so2 (q1.mv x2) q2 p3
  cases es with
  | nil =>
    refine PySem.W.callWith_KW0 (h₀ := X.base) I.ok.mod.kin hk kw1 ?_ (by rw [kw2]; rfl)
    refine go [] s [] H I .nil ?_
    have e0 : xs = .nil := by
      cases xs with
      | nil => rfl
      | cons _ _ => simp [Es.len] at hl
    subst e0
    exact p1 [] W H rfl Ext.refl so ⟨.nil, rfl⟩
  | cons e es =>
    obtain ⟨ns1, ns2⟩ := Bool.and_eq_true_iff.mp (by simpa using ns : (notStar e && es.all notStar) = true)
    refine PySem.W.callWith_KW (h₀ := X.base) I.ok.mod.kin hk kw1 (thn (ha.run pos pins s σ H _ I ⟨W, ρ, so, en, Post.lenEs p1⟩) fun us s1 ⟨vs, H1, I1, rv, q⟩ => go us s1 vs H1 I1 rv q) ?_ (starEach_cons ns1)
    rw [kw2, plain_star ns]; rfl

/-! ### built-ins, methods -/
theorem r_biB {b : Bi} {xs : Es} {xe : Expr} {es : List Expr} {x : Str} {id : String} {p pos : Pos} (hc : CallR X (.builtin id) (rTn G fun st ts => biF st b ts)) (hg : Gl X x) (hm : X.mg x = none) (hv : bootBuiltins x = some (.builtin id)) (ha : PA X (xe :: es) (tA G WX (evEs c xs)))
    (hn : x ≠ "__name__") (hdb : (x == ("__debug__" : Str)) = false) (ns : (xe :: es).all notStar = true) : PE X (.Call (.Name x p) (xe :: es) [] pos) (tE G WX (evE c (.bi b xs))) := by
  obtain ⟨ns1, ns2⟩ := Bool.and_eq_true_iff.mp (by simpa using ns : (notStar xe && es.all notStar) = true)
  exact PE_imp (pe_callB hc hg hm hv ha hn hdb (starEach_cons ns1) (plain_star ns2)) fun σ H Q ⟨W, ρ, so, en, p⟩ =>
    ⟨W, ρ, so, en, Post.imp (Post.bnd (Rl := RTs G) so p) (fun vs H1 ⟨W1, ts, x1, s1, r1, p1⟩ => by
      obtain ⟨z, e, h⟩ := Post.lift p1
      exact ⟨W1, ts, z, s1, r1, e, h⟩) fun _ _ _ h => h⟩
theorem r_biT {b : Bi} {xs : Es} {xe : Expr} {es : List Expr} {x : Str} {id : String} {p pos : Pos} (hc : CallR X (.type id) (rTn G fun st ts => biF st b ts)) (hg : Gl X x) (hm : X.mg x = none) (hv : bootBuiltins x = some (.type id)) (ha : PA X (xe :: es) (tA G WX (evEs c xs)))
    (hn : x ≠ "__name__") (hdb : (x == ("__debug__" : Str)) = false) (ns : (xe :: es).all notStar = true) : PE X (.Call (.Name x p) (xe :: es) [] pos) (tE G WX (evE c (.bi b xs))) := by
  obtain ⟨ns1, ns2⟩ := Bool.and_eq_true_iff.mp (by simpa using ns : (notStar xe && es.all notStar) = true)
  exact PE_imp (pe_callTy hc hg hm hv ha hn hdb (starEach_cons ns1) (plain_star ns2)) fun σ H Q ⟨W, ρ, so, en, p⟩ =>
    ⟨W, ρ, so, en, Post.imp (Post.bnd (Rl := RTs G) so p) (fun vs H1 ⟨W1, ts, x1, s1, r1, p1⟩ => by
      obtain ⟨z, e, h⟩ := Post.lift p1
      exact ⟨W1, ts, z, s1, r1, e, h⟩) fun _ _ _ h => h⟩
theorem isLst_tyV {K : PySem.W.Frag} {W : Wd} {H : Hp} {v : V} {t : T} (s : StOk K W H) (r : Rep K W H v t) (h : isLst W.st t = true) (K' : PySem.W.Frag) : tyV K' "list" v H := by
  unfold isLst at h
  cases d : deref W.st t with
  | lst ts =>
    obtain ⟨a, xs, rfl, ha, _⟩ := s.lst r d
    exact .inl ⟨rfl, _, .inl (.inl ha)⟩
  | _ => rw [d] at h; cases h
def noSuper : Expr → Bool
  | .Call (.Name id _) [] [] _ => id != ("super" : Str)
  | _ => true
theorem base_of {o : Expr} {attr : Str} {env : PySem.Env} {whole : Sem Value} (h : noSuper o = true) : attributeBase o attr env whole = whole := by
  unfold attributeBase
  split
  · rename_i id p1 p2
    have h' : (id != ("super" : Str)) = true := h
    rw [h']
    rfl
  · rfl
def mtName : Mt → Str × String
  | .append => ("append", "list.append")
  | .pop => ("pop", "list.pop")
  | .popAt => ("pop", "list.pop")
  | .insert => ("insert", "list.insert")
  | .extend => ("extend", "list.extend")
  | .index => ("index", "list.index")
  | .count => ("count", "list.count")
theorem r_mt {m : Mt} {o : E} {xs : Es} {xo xe : Expr} {es : List Expr} {name : Str} {id : String} {apos cpos : Pos} (slot : Slot "list" name id) (hty : typeOf (.builtin id) = pure (.type "method_descriptor")) (hm : MtR X id (rTm G m))
    (ho : PE X xo (tE G WX (evE c o))) (ha : PA X (xe :: es) (tA G WX (evEs c xs))) (hb : noSuper xo = true) (ns : (xe :: es).all notStar = true) (hf : decide ((xe :: es).length < 9) = true) (hline : (apos.endLine == cpos.line) = true) :
    PE X (.Call (.Attribute xo name apos) (xe :: es) [] cpos) (tE G WX (evE c (.mt m o xs))) := by
  obtain ⟨ns1, ns2⟩ := Bool.and_eq_true_iff.mp (by simpa using ns : (notStar xe && es.all notStar) = true)
  have hl : (xe :: es).length < 9 := of_decide_eq_true hf
  refine PE_imp (pe_bm PySem.F.plainAttrs_list slot hty hm ho ha (base_of hb) ?_ hline (starEach_cons ns1) (plain_star ns2)) fun σ H Q ⟨W, ρ, so, en, p⟩ =>
    ⟨W, ρ, so, en, Post.imp (Post.bnd (Rl := RT G) so p) (fun v H1 ⟨W1, t, x1, s1, r1, p1⟩ => by
      split at p1
      · rename_i hi
        exact ⟨isLst_tyV s1 r1 hi _, W1, ρ, s1, en.mv x1, Post.imp (Post.bnd (Rl := RTs G) s1 p1) (fun vs H2 ⟨W2, ts, x2, s2, r2, p2⟩ => ⟨W2, t, ts, _, s2, r1.mv x2, r2, p2⟩) fun _ _ _ h => h⟩
      · exact p1.elim) fun _ _ _ h => h⟩
  rw [few_star ns]
  show (true && true && decide ((xe :: es).length + 0 + 0 < 30)) = true
  simp only [Bool.true_and, decide_eq_true_eq]
  omega
theorem r_mt0 {m : Mt} {o : E} {xo : Expr} {name : Str} {id : String} {apos cpos : Pos} (slot : Slot "list" name id) (hty : typeOf (.builtin id) = pure (.type "method_descriptor")) (hm : MtR X id (rTm G m))
    (ho : PE X xo (tE G WX (evE c o))) (hb : noSuper xo = true) (hline : (apos.endLine == cpos.line) = true) :
    PE X (.Call (.Attribute xo name apos) [] [] cpos) (tE G WX (evE c (.mt m o .nil))) :=
  PE_imp (pe_bm0 PySem.F.plainAttrs_list slot hty hm ho (base_of hb) hline) fun σ H Q ⟨W, ρ, so, en, p⟩ =>
    ⟨W, ρ, so, en, Post.imp (Post.bnd (Rl := RT G) so p) (fun v H1 ⟨W1, t, x1, s1, r1, p1⟩ => by
      split at p1
      · rename_i hi
        exact ⟨isLst_tyV s1 r1 hi _, W1, t, [], _, s1, r1, .nil, p1⟩
      · exact p1.elim) fun _ _ _ h => h⟩
/-- a list that is not changed any more -/
theorem r_frz {a : E} {xa : Expr} (ha : PE X xa (tE G WX (evE c a))) : PE X xa (tE G WX (evE c (.frz a))) :=
  PE_imp ha fun σ H Q ⟨W, ρ, so, en, p⟩ =>
    ⟨W, ρ, so, en, Post.imp (Post.bnd (Rl := RT G) so p) (fun v H1 ⟨W1, t, x1, s1, r1, p1⟩ => by
      cases t with
      | obj n =>
        dsimp only at p1
        split at p1
        · rename_i ts e
          obtain ⟨x2, s2, r2⟩ := frz_ok s1 e
          obtain ⟨rfl, _⟩ := obj_of r1
          exact p1 _ _ H1 rfl x2 s2 r2
        · exact p1.elim
      | _ => exact p1 v W1 H1 rfl Ext.refl s1 r1) fun _ _ _ h => h⟩

/-! ### isinstance -/
def tyNames : Ty → List String
  | .int => ["int"]
  | .bool => ["bool"]
  | .str => ["str"]
  | .list => ["list"]
  | .tuple => ["tuple"]
  | .lt => ["list", "tuple"]
  | .bs => ["bool", "str"]
  | .tl => ["tuple", "list"]
def tyOf : T → String
  | .non => "NoneType"
  | .bl _ => "bool"
  | .int _ => "int"
  | .str _ => "str"
  | .tup _ => "tuple"
  | .lst _ => "list"
  | .scr _ => "list"
  | .obj _ => ""
  | .exc _ _ => ""
theorem tyX_of {K : PySem.W.Frag} {W : Wd} {H : Hp} {v : V} {t : T} (s : StOk K W H) (r : Rep K W H v t) (h : ∀ n, deref W.st t ≠ .obj n) (h2 : ∀ n ts, deref W.st t ≠ .exc n ts) : TyX K H v (.type (tyOf (deref W.st t))) := by
  cases d : deref W.st t with
  | lst ts =>
    obtain ⟨a, xs, rfl, ha, _⟩ := s.lst r d
    exact .base (.lst ha)
  | tup ts =>
    obtain ⟨a, xs, rfl, ha, _⟩ := s.tup r d
    rcases ha with ⟨ha | ⟨o, ha⟩, _⟩ | ⟨o, its, n, ha, hc, _⟩
    · exact .base (.tup ha)
    · exact .fTuple ha
    · exact .kTuple ha hc
  | scr ns =>
    obtain ⟨a, rfl, ha⟩ := s.scr r d
    rcases ha with ⟨⟨o, ha⟩, _⟩ | ⟨o, its, n, ha, hc, _⟩
    · exact .base (.frz ha)
    · exact .kList ha hc
  | obj n => exact absurd d (h n)
  | exc n ts => exact absurd d (h2 n ts)
  | _ =>
    have e := deref_plain d (by intro n h; cases h) (by intro n h; cases h)
    rw [e] at r
    cases r
    first
      | exact .base .non
      | exact .base (.bl _)
      | exact .base (.int _)
      | exact .base (.str _)
theorem kit_one {K : PySem.W.Frag} {st : Sto} {ty : Ty} {t : T} {b : Bool} {n : String} (h : tyIs st ty t = some b) (hn : tyNames ty = [n]) : PySem.W.kitOne K (.type (tyOf (deref st t))) (.type n) = some b := by
  have h' : (match deref st t with
    | .non => some false
    | .bl _ => some (ty == .int || ty == .bool || ty == .bs)
    | .int _ => some (ty == .int)
    | .str _ => some (ty == .str || ty == .bs)
    | .tup _ => some (ty == .tuple || ty == .lt || ty == .tl)
    | .lst _ => some (ty == .list || ty == .lt || ty == .tl)
    | .scr _ => some (ty == .list || ty == .lt || ty == .tl)
    | .obj _ => none
    | .exc _ _ => none) = some b := h
  cases d : deref st t <;> rw [d] at h' <;> cases ty <;> cases hn <;> cases h' <;> (dsimp only [tyOf]; exact kit_ty (by decide +kernel))
theorem kit_two {K : PySem.W.Frag} {st : Sto} {ty : Ty} {t : T} {b : Bool} {n m : String} (h : tyIs st ty t = some b) (hn : tyNames ty = [n, m]) : PySem.W.kitAny K (.type (tyOf (deref st t))) [.type n, .type m] = some b := by
  have h' : (match deref st t with
    | .non => some false
    | .bl _ => some (ty == .int || ty == .bool || ty == .bs)
    | .int _ => some (ty == .int)
    | .str _ => some (ty == .str || ty == .bs)
    | .tup _ => some (ty == .tuple || ty == .lt || ty == .tl)
    | .lst _ => some (ty == .list || ty == .lt || ty == .tl)
    | .scr _ => some (ty == .list || ty == .lt || ty == .tl)
    | .obj _ => none
    | .exc _ _ => none) = some b := h
  cases d : deref st t <;> rw [d] at h' <;> cases ty <;> cases hn <;> cases h' <;> dsimp only [tyOf] <;>
    first
      | exact kitAny_cons (b := false) (kit_ty (by decide +kernel)) (fun _ => kitAny_cons (b := false) (kit_ty (by decide +kernel)) (fun _ => kitAny_nil) (fun z => by cases z)) (fun z => by cases z)
      | exact kitAny_cons (b := true) (kit_ty (by decide +kernel)) (fun z => by cases z) (fun _ => rfl)
      | exact kitAny_cons (b := false) (kit_ty (by decide +kernel)) (fun _ => kitAny_cons (b := true) (kit_ty (by decide +kernel)) (fun z => by cases z) (fun _ => rfl)) (fun z => by cases z)
end
end Lm
/-! enumerate over a tuple. -/
namespace PySem
open Sem (wp)
open AutoSeq1 (wpAny_loadPart')
theorem lm_meets_enumerate_newT (l : Addr) (items : Array Value) (n : Nat) (dct : Option Addr) (sl : Array (Option Value)) :
    Meets (Builtin.«enumerate.__new__» ⟨[.type "enumerate", .ref l], []⟩) (fun _ R s => s.heap.get? l = some { cls := .type "tuple", dict := dct, data := .seq items n, slots := sl } ∧
      R (.ok (.ret (.ref (s.heap.push { cls := .type "tuple_iterator", data := .fields #[.ref l, .int 0 0] }).objs.size)))
        { s with heap := (s.heap.push { cls := .type "tuple_iterator", data := .fields #[.ref l, .int 0 0] }).push { cls := .type "enumerate", data := .fields #[.none, .bool false, .ref s.heap.objs.size, rawInt 0, .none, .none] } }) :=
  .of_wp fun prog w A R s h => by
    obtain ⟨hp, g, d, tk, os⟩ := s; obtain ⟨hl, h⟩ := h
    have hsub := sub_enumerate
    have hL : Heap.IsTuple (Shared.heap ⟨hp, g, d, tk, os⟩) l items := ⟨_, hl, rfl, n, rfl⟩
    wp_walk using wpAny_loadPart' hl
    refine wpAny_stack_any fun st => wpAny_pure ?_
    split
    · rename_i c _ _ _ _ _
      cases (c == Value.type "enumerate")
      · wp_walk using wpAny_loadPart' hl, wpAny_pyIter_tuple hL
        exact ⟨_, rfl, h⟩
      · wp_walk using wpAny_loadPart' hl, wpAny_pyIter_tuple hL
        exact ⟨_, rfl, h⟩
    · wp_walk using wpAny_loadPart' hl, wpAny_pyIter_tuple hL
      exact ⟨_, rfl, h⟩
theorem lm_call_enumerate_tuple {prog : Program} {w : World} {A : Around} {E : Value → Shared → Prop} {s : Shared} {l : Addr} {items : Array Value} {Q : Value → Shared → Prop} (hL : s.heap.IsTuple l items)
    (h : ∀ h', IsEnum h' (s.heap.objs.size + 1) s.heap.objs.size 0 .none → h'.IsTupleIter s.heap.objs.size l 0 → h'.objs.size = s.heap.objs.size + 2 →
      (∀ b o, s.heap.get? b = some o → h'.get? b = some o) → Q (.ref (s.heap.objs.size + 1)) { s with heap := h' }) :
    wpAny (model prog w) A (call (.type "enumerate") [.ref l]) Q E s := by
  obtain ⟨⟨c, dct, dt, sl⟩, hl, hc, n, hd⟩ := hL
  replace hc : c = .type "tuple" := hc
  replace hd : dt = .seq items n := hd
  subst hc hd
  refine callType_new F.called_enumerate (by decide) (F.typeCall_enumerate_1 _) (F.newCall_enumerate_1 _) (fun obj => F.args_object_init_2 obj _) F.entry_enumerate_new
    (lm_meets_enumerate_newT l items n dct sl) ⟨hl, ?_⟩
  have hz : (s.heap.push { cls := .type "tuple_iterator", data := .fields #[.ref l, .int 0 0] }).objs.size = s.heap.objs.size + 1 := Heap.size_push ..
  show _ ∧ _
  rw [hz]
  have he : IsEnum ((s.heap.push { cls := .type "tuple_iterator", data := .fields #[.ref l, .int 0 0] }).push
      { cls := .type "enumerate", data := .fields #[.none, .bool false, .ref s.heap.objs.size, rawInt 0, .none, .none] }) (s.heap.objs.size + 1) s.heap.objs.size 0 .none := by
    have := Heap.get?_push_size (s.heap.push { cls := .type "tuple_iterator", data := .fields #[.ref l, .int 0 0] })
      (o := { cls := .type "enumerate", data := .fields #[.none, .bool false, .ref s.heap.objs.size, rawInt 0, .none, .none] }) rfl
    rw [hz] at this; exact this
  refine ⟨⟨_, he, rfl⟩, h _ he ⟨_, Heap.get?_push_of_some _ (Heap.get?_push_size _ rfl), rfl, rfl⟩ (by rw [Heap.size_push, hz]) fun b o x => Heap.get?_push_of_some _ (Heap.get?_push_of_some _ x)⟩
end PySem
namespace Lm
open PySem PySem.Spec PyProof.Rows L2
def IteT (K : PySem.W.Frag) (a : Addr) : L2.It :=
  ⟨fun i H => ∃ (xs : List V) (x : V), SqT K H a xs ∧ xs[i]? = some x, fun i H v H' => ∃ T x, v = .ref T ∧ H T = none ∧ H' = upd H T (.tup [.int (i : Nat), x]) ∧ ∀ xs, SqT K H a xs → xs[i]? = some x, fun i H => ∃ xs : List V, SqT K H a xs ∧ xs.length ≤ i⟩
theorem turn_enumT {P : Program} {w : World} {K : PySem.W.Frag} {elts : List Expr} {kk : Nat} {tpos : Pos} (a e it : Addr) :
    Turn P w K (.Tuple elts kk tpos) (IteT K a) [e, it] e (fun i h => (∃ old, IsEnum h e it ((i : Nat) : Int) old) ∧ h.IsTupleIter it a i ∧ e ≠ it) where
  mem := by simp
  obj := fun i h st b hb => by
    obtain ⟨⟨old, he⟩, ⟨o, ho, hc, hd⟩, _⟩ := st
    have e' : b = e ∨ b = it := by simpa using hb
    rcases e' with z | z
    · rw [z]; exact ⟨_, he, fun v q => nomatch q⟩
    · rw [z]; exact ⟨o, ho, fun v q => by rw [hd] at q; cases q⟩
  keep := fun i h h' st k => let ⟨⟨old, he⟩, hi, hne⟩ := st; ⟨⟨old, k e (by simp) _ he⟩, hi.at fun o q => k it (by simp) o q, hne⟩
  item := by
    intro X hP hw hK hc i pins s σ H E I hf st hg
    subst hP hw hK
    obtain ⟨⟨old, he⟩, hit, hne⟩ := st
    obtain ⟨xs, x, hq, hx⟩ := hg
    obtain ⟨its, rv, p, hz⟩ := I.tuple hq
    obtain ⟨u, hu, ru⟩ := rv.get hx
    have hel : e < s.heap.objs.size := Heap.lt_size he
    have hil : it < s.heap.objs.size := by obtain ⟨_, q, _⟩ := hit; exact Heap.lt_size q
    have pT : s.heap.IsTuple a its.toArray := p
    have hai : a ≠ it := by
      rintro rfl
      obtain ⟨o, ho, hc1, _⟩ := pT
      obtain ⟨o2, ho2, hc2, _⟩ := hit
      rw [ho] at ho2; cases ho2
      rw [hc1] at hc2; simp at hc2
    have hae : e ≠ a := by
      rintro rfl
      obtain ⟨o, ho, hc1, _⟩ := pT
      have he' : s.heap.get? e = some _ := he
      rw [ho] at he'; cases he'
      simp at hc1
    have D := Draws.tuple (prog := X.prog) (w := X.w) (A := X.A.in1) (I.ok.hd hc) it a hai its.toArray
    have hlt : i < its.toArray.size := by
      have := (List.getElem?_eq_some_iff.mp hu).1
      simpa using this
    refine wpAny_pyNext_enum_itemD D he ⟨hit, pT⟩ hlt hne (by simp [hne, hae]) fun x' h' tk hx' ho hst' hT hsz hk => ?_
    have ex : x' = u := by
      have : its.toArray[i]? = some u := by simpa using hu
      rw [this] at hx'; exact (Option.some.inj hx').symm
    subst ex
    refine ⟨_, rfl, wpAny_letOwnedTupleGo_enum (s := { s with heap := h', toks := tk + 1 }) ho fun h'' he' sb => ?_⟩
    have hT2 : h''.get? s.heap.objs.size = some { cls := .type "tuple", data := .seq #[.int i tk, x'] } := (sb.2 _ (Nat.ne_of_gt hel)).trans hT
    have new : ObjOk X.prog X.w (upd H s.heap.objs.size (.tup [.int (i : Nat), x])) h'' s.heap.objs.size (.tup [.int (i : Nat), x]) :=
      ⟨by show 2 ≤ sizeLine; decide, [.int i tk, x'], .cons ⟨_, rfl⟩ (.cons ru .nil), ⟨_, hT2, rfl, _, rfl⟩⟩
    have I1 : Inv X pins σ (upd H s.heap.objs.size (.tup [.int (i : Nat), x])) { s with heap := h'', toks := tk + 1 } :=
      I.turnedNew (ch := [e, it]) (fun b ob hb q => (sb.2 b (fun z => hb (by simp [z]))).trans (hk b ob (fun z => hb (by simp [z])) (fun z => hb (by simp [z])) q)) hf (Nat.le_refl _) new
    refine ⟨.ref s.heap.objs.size, _, I1, rfl, ⟨_, x, rfl, I.hok.fresh (Nat.le_refl _), rfl, fun ys hy => by rw [I.tuple_inj hy hq]; exact hx⟩, ⟨⟨x', ?_⟩, hst'.1.at fun o q => (sb.2 it (Ne.symm hne)).trans q, hne⟩, fun b hb => ?_⟩
    · have e1 : ((i + 1 : Nat) : Int) = (i : Int) + 1 := by omega
      rw [e1]; exact he'
    · have hb' : b < s.heap.objs.size := by
        have e' : b = e ∨ b = it := by simpa using hb
        rcases e' with z | z
        · rw [z]; exact hel
        · rw [z]; exact hil
      rw [upd_ne (Nat.ne_of_lt hb')]
      exact (hf b hb).1
  done := by
    intro X hP hw hK hc i pins s σ H E I hf st hg
    subst hP hw hK
    obtain ⟨⟨old, he⟩, hit, hne⟩ := st
    obtain ⟨xs, hq, hx⟩ := hg
    obtain ⟨its, rv, p, hz⟩ := I.tuple hq
    obtain ⟨f0, f1, f2, f3, f4, f5⟩ := hf it (by simp)
    have hl := rv.length
    have pT : s.heap.IsTuple a its.toArray := p
    have hai : a ≠ it := by
      rintro rfl
      obtain ⟨o, ho, hc1, _⟩ := pT
      obtain ⟨o2, ho2, hc2, _⟩ := hit
      rw [ho] at ho2; cases ho2
      rw [hc1] at hc2; simp at hc2
    -- the iterator stands at the end: a walk of i items whose rest is none
    unfold pyNext
    refine wpAny_bind (wpAny_attempt (wpAny_callSpecial?_slot (name := Str.ofString "__next__") (⟨_, he, rfl⟩ : s.TypeIs (.ref e) "enumerate") F.slot_enumerate_next
      (wpAny_call_entry F.slot_enumerate_next ⟨_, he, rfl⟩ F.entry_enumerate_next ?_ (F.args_enumerate_next_1 _))))
    show wpAny _ _ (field (.ref e) 2 >>= _) _ _ _
    refine wpAny_bind (wpAny_field he rfl (x := .ref it) rfl ?_)
    refine wpAny_bind (wpAny_nextOf_tuple_end (A := X.A.in1) (I.ok.hd hc) hit pT (by simp; omega) fun h' x he' hx' => ?_)
    obtain ⟨o, ho, hcx⟩ := hx'
    refine wpAny_bind (wpAny_isInstance (T := "StopIteration") (b := true) ⟨o, ho, hcx⟩ isSubtype_stop ?_)
    exact wpAny_pure ⟨rfl, I.turned (t' := s.toks) (fun b o hb q => he' b o hb q) f0 f1 f3 f4 f5⟩
  self := fun A i s Q E st h => let ⟨⟨_, he⟩, _⟩ := st; wpAny_pyIter_enum he h
def iEnumT (K : PySem.W.Frag) (ta : TA) : TI := fun σ H R => ta σ H fun vs H1 => ∃ a xs, vs = [.ref a] ∧ ((SqL K H1 a xs ∧ R (Ite K a) H1) ∨ (SqT K H1 a xs ∧ R (IteT K a) H1))
theorem pi_enumT {X : Cx} {e : Expr} {ta : TA} {p pos tpos : Pos} {elts : List Expr} {kk : Nat} (hg : Gl X "enumerate") (hm : X.mg "enumerate" = none) (ha : PA X [e] ta) (hs : starEach [e] X.env = [(false, eval e X.env)]) :
    PI X (.Tuple elts kk tpos) (.Call (.Name "enumerate" p) [e] [] pos) (iEnumT X.K ta) := by
  refine ⟨fun pins s σ H R I h => ?_⟩
  refine Call_ (ld_blt I hg hm boot_enumerate (PyProof.Rows.callWith_type1 (thn (ha.run pos pins s σ H _ I h) fun us s1 ⟨vs, H1, I1, r1, q1⟩ => ?_) hs rfl))
  obtain ⟨a, xs, ex, q1⟩ := q1
  subst ex
  cases r1 with
  | cons r rr =>
    cases rr
    cases r
    have fp : ∀ {h' : Heap}, ∀ b ∈ [s1.heap.objs.size + 1, s1.heap.objs.size], FpOk X pins H1 b := fun {h'} b hb => by
      have e' : b = s1.heap.objs.size + 1 ∨ b = s1.heap.objs.size := by simpa using hb
      have hle : s1.heap.objs.size ≤ b := by
        rcases e' with z | z
        · rw [z]; exact Nat.le_add_right _ _
        · rw [z]; exact Nat.le_refl _
      exact I1.fpOk hle (I1.hok.fresh hle)
    rcases q1 with ⟨hq, q⟩ | ⟨hq, q⟩
    · obtain ⟨its, rv, p', hz⟩ := I1.list hq
      refine call_enumerate_list p'.isList fun h' he hit hsz hk => wpAny_pyIter_enum he ?_
      have I2 : Inv X pins σ H1 { s1 with heap := h' } := I1.kept (t' := s1.toks) hk
      exact ⟨s1.heap.objs.size + 1, [s1.heap.objs.size + 1, s1.heap.objs.size], _, _, H1, rfl, I2, turn_enum a (s1.heap.objs.size + 1) s1.heap.objs.size, ⟨⟨.none, he⟩, hit, Nat.succ_ne_self _⟩, fp (h' := h'), q⟩
    · obtain ⟨its, rv, p', hz⟩ := I1.tuple hq
      refine lm_call_enumerate_tuple p' fun h' he hit hsz hk => wpAny_pyIter_enum he ?_
      have I2 : Inv X pins σ H1 { s1 with heap := h' } := I1.kept (t' := s1.toks) hk
      exact ⟨s1.heap.objs.size + 1, [s1.heap.objs.size + 1, s1.heap.objs.size], _, _, H1, rfl, I2, turn_enumT a (s1.heap.objs.size + 1) s1.heap.objs.size, ⟨⟨.none, he⟩, hit, Nat.succ_ne_self _⟩, fp (h' := h'), q⟩
end Lm
/-! What is walked: from the trees, with the sources standing still. -/
namespace Lm
open PySem PySem.Spec PyProof.Rows L2

mutual
theorem beq_eq : ∀ {a b : T}, T.beq a b = true → a = b
  | .non, b, h => by cases b <;> first | rfl | cases h
  | .bl x, b, h => by
    cases b <;> try cases h
    rename_i y
    have h' : (x == y) = true := h
    rw [eq_of_beq h']
  | .int x, b, h => by
    cases b <;> try cases h
    rename_i y
    have h' : (x == y) = true := h
    rw [eq_of_beq h']
  | .str x, b, h => by
    cases b <;> try cases h
    rename_i y
    have h' : decide (x = y) = true := h
    rw [of_decide_eq_true h']
  | .tup x, b, h => by
    cases b <;> try cases h
    rename_i y
    rw [beqs_eq (show T.beqs x y = true from h)]
  | .lst x, b, h => by
    cases b <;> try cases h
    rename_i y
    rw [beqs_eq (show T.beqs x y = true from h)]
  | .obj x, b, h => by
    cases b <;> try cases h
    rename_i y
    have h' : (x == y) = true := h
    rw [eq_of_beq h']
  | .scr x, b, h => by
    cases b <;> try cases h
    rename_i y
    have h' : (x == y) = true := h
    rw [eq_of_beq h']
  | .exc k x, b, h => by
    cases b <;> try cases h
    rename_i j y
    have h' : (k == j && T.beqs x y) = true := h
    obtain ⟨h1, h2⟩ := Bool.and_eq_true_iff.mp h'
    rw [eq_of_beq h1, beqs_eq h2]
theorem beqs_eq : ∀ {a b : List T}, T.beqs a b = true → a = b
  | [], b, h => by cases b <;> first | rfl | cases h
  | x :: xs, b, h => by
    cases b <;> try cases h
    rename_i y ys
    have h' : (T.beq x y && T.beqs xs ys) = true := h
    obtain ⟨h1, h2⟩ := Bool.and_eq_true_iff.mp h'
    rw [beq_eq h1, beqs_eq h2]
end
theorem sameSrc_obj {st0 st : Sto} : ∀ {src : List T} {n : Nat}, sameSrc st0 st src = true → T.obj n ∈ src → ∃ ts, st0[n]? = some (.lst ts) ∧ st[n]? = some (.lst ts)
  | [], _, _, h => by cases h
  | t :: src, n, h, hm => by
    have rest : sameSrc st0 st src = true := by
      cases t <;> first | exact h | skip
      have h' : (_ && sameSrc st0 st src) = true := h
      exact (Bool.and_eq_true_iff.mp h').2
    rcases List.mem_cons.mp hm with e | hm
    · subst e
      have h' : ((match st0[n]?, st[n]? with
        | some (.lst a), some (.lst b) => T.beqs a b
        | _, _ => false) && sameSrc st0 st src) = true := h
      have h1 := (Bool.and_eq_true_iff.mp h').1
      split at h1
      · rename_i a b e1 e2
        exact ⟨a, e1, by rw [e2, beqs_eq h1]⟩
      · cases h1
    · exact sameSrc_obj rest hm

mutual
theorem beq_refl : ∀ t : T, T.beq t t = true
  | .non => rfl
  | .bl b => by show (b == b) = true; simp
  | .int i => by show (i == i) = true; simp
  | .str s => by show decide (s = s) = true; simp
  | .tup xs => beqs_refl xs
  | .lst xs => beqs_refl xs
  | .obj n => by show (n == n) = true; simp
  | .scr ns => by show (ns == ns) = true; simp
  | .exc k xs => by show (k == k && T.beqs xs xs) = true; rw [beqs_refl xs]; simp
theorem beqs_refl : ∀ ts : List T, T.beqs ts ts = true
  | [] => rfl
  | t :: ts => by show (T.beq t t && T.beqs ts ts) = true; rw [beq_refl t, beqs_refl ts]; rfl
end
theorem same_self {st : Sto} : ∀ {src : List T}, (∀ t ∈ src, (items st t).isSome = true) → sameSrc st st src = true
  | [], _ => rfl
  | t :: src, h => by
    have ih := same_self (src := src) fun u hu => h u (List.mem_cons_of_mem _ hu)
    cases t with
    | obj n =>
      have h1 := h _ List.mem_cons_self
      show ((match st[n]?, st[n]? with
        | some (.lst a), some (.lst b) => T.beqs a b
        | _, _ => false) && sameSrc st st src) = true
      rw [ih, Bool.and_true]
      unfold items deref at h1
      dsimp only at h1
      cases e : st[n]? with
      | none => rw [e] at h1; cases h1
      | some o =>
        rw [e] at h1
        cases o <;> first | (dsimp only; exact beqs_refl _) | cases h1
    | _ => exact ih
section
variable {X : Cx} {G : Gx} {WX : L2.WX} {c : Cf}
structure Yl (G : Gx) (W0 : Wd) (H0 : Hp) (src : List T) (J : L2.It) (xs : List T) : Prop where
  go : ∀ W H (i : Nat) (h : i < xs.length), Ext W0 H0 W H → StOk G.K W H → sameSrc W0.st W.st src = true → J.go i H ∧ ∀ x H', J.yld i H x H' → ∃ W', W'.st = W.st ∧ Ext W H W' H' ∧ StOk G.K W' H' ∧ Rep G.K W' H' x xs[i]
  self : sameSrc W0.st W0.st src = true
  stop : ∀ W H (i : Nat), xs.length ≤ i → Ext W0 H0 W H → StOk G.K W H → sameSrc W0.st W.st src = true → J.stop i H
abbrev RW (G : Gx) : Rel Wk L2.It := fun W H J w => Yl G W H w.src J w.xs
abbrev tI (G : Gx) (WX : L2.WX) (f : Fm → Sto → R Wk) : TI := tG G (RW G) WX f

/-- a list or a tuple's place stays a place of the same items -/
theorem stays {K : PySem.W.Frag} {W0 W : Wd} {H0 H : Hp} {t : T} {ts : List T} {v : V} (s0 : StOk K W0 H0) (r : Rep K W0 H0 v t) (e : items W0.st t = some ts) (x : Ext W0 H0 W H) (s : StOk K W H) (hs : sameSrc W0.st W.st [t] = true) : items W.st t = some ts := by
  unfold items at e ⊢
  cases t with
  | obj n =>
    obtain ⟨us, h1, h2⟩ := sameSrc_obj hs List.mem_cons_self
    have d0 : deref W0.st (.obj n) = .lst us := by show (match W0.st[n]? with | some (.lst xs) => T.lst xs | _ => .obj n) = _; rw [h1]
    have d1 : deref W.st (.obj n) = .lst us := by show (match W.st[n]? with | some (.lst xs) => T.lst xs | _ => .obj n) = _; rw [h2]
    rw [d0] at e
    rw [d1]
    exact e
  | _ => exact e
theorem one_src {st0 st : Sto} {t u : T} : sameSrc st0 st [t, u] = true → sameSrc st0 st [t] = true ∧ sameSrc st0 st [u] = true := fun h => by
  cases t with
  | obj n =>
    have h' : ((match st0[n]?, st[n]? with
        | some (.lst a), some (.lst b) => T.beqs a b
        | _, _ => false) && sameSrc st0 st [u]) = true := h
    obtain ⟨h1, h2⟩ := Bool.and_eq_true_iff.mp h'
    refine ⟨?_, h2⟩
    show ((match st0[n]?, st[n]? with
        | some (.lst a), some (.lst b) => T.beqs a b
        | _, _ => false) && true) = true
    rw [Bool.and_true]; exact h1
  | _ => exact ⟨rfl, h⟩
/-- where a list or a tuple stands later -/
theorem at_later {K : PySem.W.Frag} {W0 W : Wd} {H0 H : Hp} {t : T} {ts : List T} {a : Addr} (s0 : StOk K W0 H0) (r : Rep K W0 H0 (.ref a) t) (e : items W0.st t = some ts) (x : Ext W0 H0 W H) (s : StOk K W H) (hs : sameSrc W0.st W.st [t] = true) :
    ∃ xs, (SqL K H a xs ∨ SqT K H a xs) ∧ Reps K W H xs ts := by
  obtain ⟨b, xs, eb, hq, hr⟩ := s.items (r.mv x) (stays s0 r e x s hs)
  cases eb
  exact ⟨xs, hq, hr⟩
theorem kind_at {K : PySem.W.Frag} {W : Wd} {H : Hp} {t : T} {ts : List T} {a : Addr} (s : StOk K W H) (r : Rep K W H (.ref a) t) (e : items W.st t = some ts) :
    (isSeqL W.st t = true ∧ ∃ xs, SqL K H a xs ∧ Reps K W H xs ts) ∨ (isSeqL W.st t = false ∧ ∃ xs, SqT K H a xs ∧ Reps K W H xs ts) := by
  unfold items at e
  unfold isSeqL
  cases q : deref W.st t <;> rw [q] at e <;> first | cases e | skip
  · obtain ⟨b, xs, e1, h, hr⟩ := s.tup r q
    cases e1
    exact .inr ⟨rfl, xs, h.sq, hr⟩
  · obtain ⟨b, xs, e1, h, hr⟩ := s.lst r q
    cases e1
    exact .inl ⟨rfl, xs, SqL.of h, hr⟩
  · obtain ⟨b, e1, h⟩ := s.scr r q
    cases e1
    exact .inl ⟨rfl, _, h.sq, Reps.ints _⟩
theorem kind_later {K : PySem.W.Frag} {W0 W : Wd} {H0 H : Hp} {t : T} {ts : List T} {a : Addr} (s0 : StOk K W0 H0) (r : Rep K W0 H0 (.ref a) t) (e : items W0.st t = some ts) (x : Ext W0 H0 W H) (s : StOk K W H) (hs : sameSrc W0.st W.st [t] = true) :
    (isSeqL W0.st t = true → ∃ xs, SqL K H a xs ∧ Reps K W H xs ts) ∧ (isSeqL W0.st t = false → ∃ xs, SqT K H a xs ∧ Reps K W H xs ts) := by
  have ek : isSeqL W.st t = isSeqL W0.st t := by
    cases t with
    | obj n =>
      obtain ⟨us, h1, h2⟩ := sameSrc_obj hs List.mem_cons_self
      unfold isSeqL deref
      dsimp only
      rw [h1, h2]
    | _ => rfl
  rcases kind_at s (r.mv x) (stays s0 r e x s hs) with ⟨k, h⟩ | ⟨k, h⟩
  · exact ⟨fun _ => h, fun z => (by rw [← ek, k] at z; cases z)⟩
  · exact ⟨fun z => (by rw [← ek, k] at z; cases z), fun _ => h⟩
/-- two readings of one place are the same items -/
theorem yl_list {W : Wd} {H : Hp} {t : T} {ts : List T} {a : Addr} (s : StOk G.K W H) (r : Rep G.K W H (.ref a) t) (e : items W.st t = some ts) (k : isSeqL W.st t = true) : Yl G W H [t] (Itl G.K a) ts where
  go W1 H1 i h x s1 hs := by
    obtain ⟨xs, hq, hr⟩ := (kind_later s r e x s1 hs).1 k
    obtain ⟨v, hv, rv⟩ := hr.get (List.getElem?_eq_getElem h)
    refine ⟨⟨xs, v, hq, hv⟩, fun y H' ⟨e', hy⟩ => ?_⟩
    subst e'
    have := hy xs hq
    rw [hv] at this; cases this
    exact ⟨W1, rfl, Ext.refl, s1, rv⟩
  self := same_self fun u hu => by
    rw [List.mem_singleton] at hu
    rw [hu, e]; rfl
  stop W1 H1 i h x s1 hs := by
    obtain ⟨xs, hq, hr⟩ := (kind_later s r e x s1 hs).1 k
    exact ⟨xs, hq, by rw [hr.length]; exact h⟩
theorem yl_tup {W : Wd} {H : Hp} {t : T} {ts : List T} {a : Addr} (s : StOk G.K W H) (r : Rep G.K W H (.ref a) t) (e : items W.st t = some ts) (k : isSeqL W.st t = false) : Yl G W H [t] (Itt G.K a) ts where
  go W1 H1 i h x s1 hs := by
    obtain ⟨xs, hq, hr⟩ := (kind_later s r e x s1 hs).2 k
    obtain ⟨v, hv, rv⟩ := hr.get (List.getElem?_eq_getElem h)
    refine ⟨⟨xs, v, hq, hv⟩, fun y H' ⟨e', hy⟩ => ?_⟩
    subst e'
    have := hy xs hq
    rw [hv] at this; cases this
    exact ⟨W1, rfl, Ext.refl, s1, rv⟩
  self := same_self fun u hu => by
    rw [List.mem_singleton] at hu
    rw [hu, e]; rfl
  stop W1 H1 i h x s1 hs := by
    obtain ⟨xs, hq, hr⟩ := (kind_later s r e x s1 hs).2 k
    exact ⟨xs, hq, by rw [hr.length]; exact h⟩
theorem yl_rng {W : Wd} {H : Hp} (lo : Int) (n : Nat) : Yl G W H [] (Itr lo n) (rngF lo n) where
  go W1 H1 i h x s1 hs := by
    have hn : i < n := by simpa [rngF] using h
    refine ⟨hn, fun y H' ⟨e', hy⟩ => ?_⟩
    subst e'; subst hy
    exact ⟨W1, rfl, Ext.refl, s1, by simp [rngF]; exact .int _⟩
  self := rfl
  stop W1 H1 i h x s1 hs := by
    have hn : n ≤ i := by simpa [rngF] using h
    exact hn
theorem enumF_get : ∀ (k : Nat) (ts : List T) (i : Nat) (h : i < (enumF k ts).length), ∃ t, ts[i]? = some t ∧ (enumF k ts)[i] = .tup [.int ((k + i : Nat) : Int), t]
  | _, [], _, h => by simp [enumF] at h
  | k, t :: ts, 0, _ => ⟨t, rfl, rfl⟩
  | k, t :: ts, i + 1, h => by
    have h' : i < (enumF (k + 1) ts).length := by simpa [enumF] using h
    obtain ⟨u, h1, h2⟩ := enumF_get (k + 1) ts i h'
    refine ⟨u, by simpa using h1, ?_⟩
    have e : (k + 1 + i : Nat) = k + (i + 1) := by omega
    rw [e] at h2
    exact h2
theorem enumF_len : ∀ (k : Nat) (ts : List T), (enumF k ts).length = ts.length
  | _, [] => rfl
  | k, t :: ts => by simp [enumF, enumF_len (k + 1) ts]
theorem pair_rep {W : Wd} {H : Hp} {p : Addr} {x y : V} {t u : T} (s : StOk G.K W H) (hp : H p = none) (rx : Rep G.K W H x t) (ry : Rep G.K W H y u) :
    ∃ W', W'.st = W.st ∧ Ext W H W' (upd H p (.tup [x, y])) ∧ StOk G.K W' (upd H p (.tup [x, y])) ∧ Rep G.K W' (upd H p (.tup [x, y])) (.ref p) (.tup [t, u]) := by
  have e := Ext.new (o := .tup [x, y]) hp s.lh
  exact ⟨W, rfl, e, s.new hp, .tup (.inl ⟨.inl upd_same, not_L_of_none s hp⟩) (.cons (rx.mv e) (.cons (ry.mv e) .nil))⟩
theorem yl_enumL {W : Wd} {H : Hp} {t : T} {ts : List T} {a : Addr} (s : StOk G.K W H) (r : Rep G.K W H (.ref a) t) (e : items W.st t = some ts) (k : isSeqL W.st t = true) : Yl G W H [t] (Ite G.K a) (enumF 0 ts) where
  go W1 H1 i h x s1 hs := by
    obtain ⟨xs, hq, hr⟩ := (kind_later s r e x s1 hs).1 k
    obtain ⟨u, h1, h2⟩ := enumF_get 0 ts i h
    obtain ⟨v, hv, rv⟩ := hr.get h1
    refine ⟨⟨xs, v, hq, hv⟩, fun y H' ⟨p, z, ey, hp, eH, hy⟩ => ?_⟩
    subst ey; subst eH
    have := hy xs hq
    rw [hv] at this; cases this
    rw [h2, Nat.zero_add]
    exact pair_rep s1 hp (.int _) rv
  self := same_self fun u hu => by
    rw [List.mem_singleton] at hu
    rw [hu, e]; rfl
  stop W1 H1 i h x s1 hs := by
    obtain ⟨xs, hq, hr⟩ := (kind_later s r e x s1 hs).1 k
    exact ⟨xs, hq, by rw [hr.length]; rw [enumF_len] at h; exact h⟩
theorem yl_enumT {W : Wd} {H : Hp} {t : T} {ts : List T} {a : Addr} (s : StOk G.K W H) (r : Rep G.K W H (.ref a) t) (e : items W.st t = some ts) (k : isSeqL W.st t = false) : Yl G W H [t] (IteT G.K a) (enumF 0 ts) where
  go W1 H1 i h x s1 hs := by
    obtain ⟨xs, hq, hr⟩ := (kind_later s r e x s1 hs).2 k
    obtain ⟨u, h1, h2⟩ := enumF_get 0 ts i h
    obtain ⟨v, hv, rv⟩ := hr.get h1
    refine ⟨⟨xs, v, hq, hv⟩, fun y H' ⟨p, z, ey, hp, eH, hy⟩ => ?_⟩
    subst ey; subst eH
    have := hy xs hq
    rw [hv] at this; cases this
    rw [h2, Nat.zero_add]
    exact pair_rep s1 hp (.int _) rv
  self := same_self fun u hu => by
    rw [List.mem_singleton] at hu
    rw [hu, e]; rfl
  stop W1 H1 i h x s1 hs := by
    obtain ⟨xs, hq, hr⟩ := (kind_later s r e x s1 hs).2 k
    exact ⟨xs, hq, by rw [hr.length]; rw [enumF_len] at h; exact h⟩
theorem zipF_get : ∀ (xs ys : List T) (i : Nat) (h : i < (zipF xs ys).length), ∃ t u, xs[i]? = some t ∧ ys[i]? = some u ∧ (zipF xs ys)[i] = .tup [t, u]
  | [], _, _, h => by simp [zipF] at h
  | _ :: _, [], _, h => by simp [zipF] at h
  | t :: xs, u :: ys, 0, _ => ⟨t, u, rfl, rfl, rfl⟩
  | t :: xs, u :: ys, i + 1, h => by
    obtain ⟨a, b, h1, h2, h3⟩ := zipF_get xs ys i (by simpa [zipF] using h)
    exact ⟨a, b, by simpa using h1, by simpa using h2, h3⟩
theorem zipF_len : ∀ (xs ys : List T), (zipF xs ys).length = min xs.length ys.length
  | [], _ => by simp [zipF]
  | _ :: _, [] => by simp [zipF]
  | t :: xs, u :: ys => by simp [zipF, zipF_len xs ys]
theorem yl_zipL {W : Wd} {H : Hp} {t u : T} {ts us : List T} {a b : Addr} (s : StOk G.K W H) (r : Rep G.K W H (.ref a) t) (r2 : Rep G.K W H (.ref b) u) (e : items W.st t = some ts) (e2 : items W.st u = some us) (k : isSeqL W.st t = true) (k2 : isSeqL W.st u = true) : Yl G W H [t, u] (Itz G.K a b) (zipF ts us) where
  go W1 H1 i h x s1 hs := by
    obtain ⟨hs1, hs2⟩ := one_src hs
    obtain ⟨xs, hq, hr⟩ := (kind_later s r e x s1 hs1).1 k
    obtain ⟨ys, hq2, hr2⟩ := (kind_later s r2 e2 x s1 hs2).1 k2
    obtain ⟨u1, u2, h1, h2, h3⟩ := zipF_get ts us i h
    obtain ⟨v, hv, rv⟩ := hr.get h1
    obtain ⟨v2, hv2, rv2⟩ := hr2.get h2
    refine ⟨⟨xs, ys, v, v2, hq, hq2, hv, hv2⟩, fun y H' ⟨p, z, z2, ey, hp, eH, hy, hy2⟩ => ?_⟩
    subst ey; subst eH
    have := hy xs hq
    rw [hv] at this; cases this
    have := hy2 ys hq2
    rw [hv2] at this; cases this
    rw [h3]
    exact pair_rep s1 hp rv rv2
  self := same_self fun v hv => by
    rcases List.mem_cons.mp hv with q | q
    · rw [q, e]; rfl
    · rw [List.mem_singleton.mp q, e2]; rfl
  stop W1 H1 i h x s1 hs := by
    obtain ⟨hs1, hs2⟩ := one_src hs
    obtain ⟨xs, hq, hr⟩ := (kind_later s r e x s1 hs1).1 k
    obtain ⟨ys, hq2, hr2⟩ := (kind_later s r2 e2 x s1 hs2).1 k2
    refine ⟨xs, ys, hq, hq2, ?_⟩
    rw [hr.length, hr2.length]
    rw [zipF_len] at h
    omega
theorem yl_zipT {W : Wd} {H : Hp} {t u : T} {ts us : List T} {a b : Addr} (s : StOk G.K W H) (r : Rep G.K W H (.ref a) t) (r2 : Rep G.K W H (.ref b) u) (e : items W.st t = some ts) (e2 : items W.st u = some us) (k : isSeqL W.st t = false) (k2 : isSeqL W.st u = false) : Yl G W H [t, u] (RZ.ItzT G.K a b) (zipF ts us) where
  go W1 H1 i h x s1 hs := by
    obtain ⟨hs1, hs2⟩ := one_src hs
    obtain ⟨xs, hq, hr⟩ := (kind_later s r e x s1 hs1).2 k
    obtain ⟨ys, hq2, hr2⟩ := (kind_later s r2 e2 x s1 hs2).2 k2
    obtain ⟨u1, u2, h1, h2, h3⟩ := zipF_get ts us i h
    obtain ⟨v, hv, rv⟩ := hr.get h1
    obtain ⟨v2, hv2, rv2⟩ := hr2.get h2
    refine ⟨⟨xs, ys, v, v2, hq, hq2, hv, hv2⟩, fun y H' ⟨p, z, z2, ey, hp, eH, hy, hy2⟩ => ?_⟩
    subst ey; subst eH
    have := hy xs hq
    rw [hv] at this; cases this
    have := hy2 ys hq2
    rw [hv2] at this; cases this
    rw [h3]
    exact pair_rep s1 hp rv rv2
  self := same_self fun v hv => by
    rcases List.mem_cons.mp hv with q | q
    · rw [q, e]; rfl
    · rw [List.mem_singleton.mp q, e2]; rfl
  stop W1 H1 i h x s1 hs := by
    obtain ⟨hs1, hs2⟩ := one_src hs
    obtain ⟨xs, hq, hr⟩ := (kind_later s r e x s1 hs1).2 k
    obtain ⟨ys, hq2, hr2⟩ := (kind_later s r2 e2 x s1 hs2).2 k2
    refine ⟨xs, ys, hq, hq2, ?_⟩
    rw [hr.length, hr2.length]
    rw [zipF_len] at h
    omega

/-! ### the rules -/
theorem pi_seq {tg l : Expr} {tl : TE} (hl : PE X l tl) : PI X tg l (fun σ H R => tl σ H fun x H1 => ∃ a xs, x = .ref a ∧ ((SqL X.K H1 a xs ∧ R (Itl X.K a) H1) ∨ (SqT X.K H1 a xs ∧ R (Itt X.K a) H1))) := by
  refine ⟨fun pins s σ H R I h => ?_⟩
  refine thn (hl.run pins s σ H _ I h) fun v s1 ⟨x, H1, I1, r1, q1⟩ => ?_
  obtain ⟨a, xs, e, q1⟩ := q1
  subst e
  cases r1
  rcases q1 with ⟨hq, q⟩ | ⟨hq, q⟩
  · obtain ⟨its, rv, p, hz⟩ := I1.list hq
    refine wpAny_pyIter_list p.isList ?_
    refine ⟨s1.heap.objs.size, [s1.heap.objs.size], _, _, H1, rfl, I1.kept (t' := s1.toks) fun b o e => Heap.get?_push_of_some _ e, turn_list a _, ⟨_, Heap.get?_push_size _ rfl, rfl, rfl⟩, fun b hb => ?_, q⟩
    have e : b = s1.heap.objs.size := by simpa using hb
    subst e
    exact I1.fpOk (Nat.le_refl _) (I1.hok.fresh (Nat.le_refl _))
  · obtain ⟨its, rv, p, hz⟩ := I1.tuple hq
    refine wpAny_pyIter_tuple (show s1.heap.IsTuple a its.toArray from p) ?_
    refine ⟨s1.heap.objs.size, [s1.heap.objs.size], _, _, H1, rfl, I1.kept (t' := s1.toks) fun b o e => Heap.get?_push_of_some _ e, turn_tuple a _, ⟨_, Heap.get?_push_size _ rfl, rfl, rfl⟩, fun b hb => ?_, q⟩
    have e : b = s1.heap.objs.size := by simpa using hb
    subst e
    exact I1.fpOk (Nat.le_refl _) (I1.hok.fresh (Nat.le_refl _))
theorem ref_of_items {K : PySem.W.Frag} {W : Wd} {H : Hp} {v : V} {t : T} {ts : List T} (s : StOk K W H) (r : Rep K W H v t) (e : items W.st t = some ts) : ∃ a, v = .ref a := by
  obtain ⟨a, _, h, _⟩ := s.items r e
  exact ⟨a, h⟩
theorem ri_e {a : E} {tg xa : Expr} (hK : X.K = G.K) (ha : PE X xa (tE G WX (evE c a))) : PI X tg xa (tI G WX (evIt c (.e a))) :=
  PI_imp (pi_seq ha) fun σ H R ⟨W, ρ, so, en, p⟩ =>
    ⟨W, ρ, so, en, Post.imp (Post.bnd (Rl := RT G) so p) (fun x H1 ⟨W1, t, x1, s1, r1, p1⟩ => by
      split at p1
      · rename_i ts d
        obtain ⟨a, rfl⟩ := ref_of_items s1 r1 d
        have d' : items W1.st t = some ts := d
        rcases kind_at s1 r1 d' with ⟨k, xs, hq, hr⟩ | ⟨k, xs, hq, hr⟩
        · exact ⟨a, xs, rfl, .inl ⟨by rw [hK]; exact hq, by rw [hK]; exact p1 _ W1 H1 rfl Ext.refl s1 (yl_list s1 r1 d' k)⟩⟩
        · exact ⟨a, xs, rfl, .inr ⟨by rw [hK]; exact hq, by rw [hK]; exact p1 _ W1 H1 rfl Ext.refl s1 (yl_tup s1 r1 d' k)⟩⟩
      · exact p1.elim) fun _ _ _ h => h⟩
theorem evEs_one (a : E) (ρ : Fm) (st : Sto) : evEs c (.cons a .nil) ρ st = (evE c a ρ st).bnd fun t st => .ok [t] st := by
  show (evE c a ρ st).bnd _ = _
  cases evE c a ρ st <;> rfl
theorem evEs_two (a b : E) (ρ : Fm) (st : Sto) : evEs c (.cons a (.cons b .nil)) ρ st = (evE c a ρ st).bnd fun t st => (evE c b ρ st).bnd fun u st => .ok [t, u] st := by
  show (evE c a ρ st).bnd _ = _
  cases evE c a ρ st with
  | ok t st =>
    show (evEs c (.cons b .nil) ρ st).bnd _ = (evE c b ρ st).bnd _
    rw [evEs_one]
    cases evE c b ρ st <;> rfl
  | exc _ _ _ => rfl
  | bad => rfl
theorem ri_rng1 {a : E} {tg xa : Expr} {p pos : Pos} (hg : Gl X "range") (hm : X.mg "range" = none) (ha : PE X xa (tE G WX (evE c a))) (ns : notStar xa = true) : PI X tg (.Call (.Name "range" p) [xa] [] pos) (tI G WX (evIt c (.rng1 a))) :=
  PI_imp (pi_range1 hg hm (ra_cons ha ra_nil ns) (starEach_cons ns)) fun σ H R ⟨W, ρ, so, en, p⟩ => by
    refine ⟨W, ρ, so, en, ?_⟩
    rw [evEs_one]
    have e : evIt c (.rng1 a) ρ W.st = ((evE c a ρ W.st).bnd fun t st => .ok [t] st).bnd fun ts st => match ts with
      | [.int j] => if inR j then .ok ⟨rngF 0 j.toNat, []⟩ st else .bad
      | _ => .bad := by
      show (evE c a ρ W.st).bnd _ = _
      cases evE c a ρ W.st with
      | ok t st => cases t <;> rfl
      | exc _ _ _ => rfl
      | bad => rfl
    rw [e] at p
    refine Post.imp (Post.bnd (Rl := RTs G) so p) (fun vs H1 ⟨W1, ts, x1, s1, r1, p1⟩ => ?_) fun _ _ _ h => h
    split at p1
    · rename_i j
      obtain ⟨v, rfl, rv⟩ := one_of (ts := []) r1
      cases rv
      split at p1
      · rename_i hj
        have hj' : -(2 ^ 62) ≤ j ∧ j < 2 ^ 62 := by simpa [inR] using hj
        exact ⟨j, rfl, hj'.1, hj'.2, p1 _ W1 H1 rfl Ext.refl s1 (yl_rng 0 j.toNat)⟩
      · exact p1.elim
    · exact p1.elim
theorem ri_rng2 {a b : E} {tg xa xb : Expr} {p pos : Pos} (hg : Gl X "range") (hm : X.mg "range" = none) (ha : PE X xa (tE G WX (evE c a))) (hb : PE X xb (tE G WX (evE c b))) (ns : notStar xa = true) (ns2 : notStar xb = true) : PI X tg (.Call (.Name "range" p) [xa, xb] [] pos) (tI G WX (evIt c (.rng2 a b))) :=
  PI_imp (pi_range2 hg hm (ra_cons ha (ra_cons hb ra_nil ns2) ns) (by rw [starEach_cons ns, starEach_cons ns2]; rfl) (starEach_cons ns2)) fun σ H R ⟨W, ρ, so, en, p⟩ => by
    refine ⟨W, ρ, so, en, ?_⟩
    rw [evEs_two]
    have e : evIt c (.rng2 a b) ρ W.st = ((evE c a ρ W.st).bnd fun t st => (evE c b ρ st).bnd fun u st => .ok [t, u] st).bnd fun ts st => match ts with
      | [.int i, .int j] => if inR i ∧ inR j then .ok ⟨rngF i (j - i).toNat, []⟩ st else .bad
      | _ => .bad := by
      show (evE c a ρ W.st).bnd _ = _
      cases evE c a ρ W.st with
      | ok t st =>
        show (evE c b ρ st).bnd _ = ((evE c b ρ st).bnd _).bnd _
        cases evE c b ρ st with
        | ok u st => cases t <;> cases u <;> rfl
        | exc _ _ _ => rfl
        | bad => rfl
      | exc _ _ _ => rfl
      | bad => rfl
    rw [e] at p
    refine Post.imp (Post.bnd (Rl := RTs G) so p) (fun vs H1 ⟨W1, ts, x1, s1, r1, p1⟩ => ?_) fun _ _ _ h => h
    split at p1
    · rename_i i j
      obtain ⟨v, v2, rfl, rv, rv2⟩ := two_of r1
      cases rv; cases rv2
      split at p1
      · rename_i hj
        have hj' : (-(2 ^ 62) ≤ i ∧ i < 2 ^ 62) ∧ (-(2 ^ 62) ≤ j ∧ j < 2 ^ 62) := by simpa [inR] using hj
        exact ⟨i, j, rfl, ⟨hj'.1.1, hj'.1.2, hj'.2.1, hj'.2.2⟩, p1 _ W1 H1 rfl Ext.refl s1 (yl_rng i (j - i).toNat)⟩
      · exact p1.elim
    · exact p1.elim
theorem ri_enum {a : E} {xa : Expr} {elts : List Expr} {kk : Nat} {p pos tpos : Pos} (hK : X.K = G.K) (hg : Gl X "enumerate") (hm : X.mg "enumerate" = none) (ha : PE X xa (tE G WX (evE c a))) (ns : notStar xa = true) :
    PI X (.Tuple elts kk tpos) (.Call (.Name "enumerate" p) [xa] [] pos) (tI G WX (evIt c (.enum a))) :=
  PI_imp (pi_enumT hg hm (ra_cons ha ra_nil ns) (starEach_cons ns)) fun σ H R ⟨W, ρ, so, en, p⟩ => by
    refine ⟨W, ρ, so, en, ?_⟩
    rw [evEs_one]
    have e : evIt c (.enum a) ρ W.st = ((evE c a ρ W.st).bnd fun t st => .ok [t] st).bnd fun ts st => match ts with
      | [x] => match items st x with
        | some xs => .ok ⟨enumF 0 xs, [x]⟩ st
        | none => .bad
      | _ => .bad := by
      show (evE c a ρ W.st).bnd _ = _
      cases evE c a ρ W.st <;> rfl
    rw [e] at p
    refine Post.imp (Post.bnd (Rl := RTs G) so p) (fun vs H1 ⟨W1, ts, x1, s1, r1, p1⟩ => ?_) fun _ _ _ h => h
    split at p1
    · rename_i t
      obtain ⟨v, rfl, rv⟩ := one_of (ts := []) r1
      split at p1
      · rename_i us d
        obtain ⟨a, rfl⟩ := ref_of_items s1 rv d
        have d' : items W1.st t = some us := d
        rcases kind_at s1 rv d' with ⟨k, xs, hq, hr⟩ | ⟨k, xs, hq, hr⟩
        · exact ⟨a, xs, rfl, .inl ⟨by rw [hK]; exact hq, by rw [hK]; exact p1 _ W1 H1 rfl Ext.refl s1 (yl_enumL s1 rv d' k)⟩⟩
        · exact ⟨a, xs, rfl, .inr ⟨by rw [hK]; exact hq, by rw [hK]; exact p1 _ W1 H1 rfl Ext.refl s1 (yl_enumT s1 rv d' k)⟩⟩
      · exact p1.elim
    · exact p1.elim
theorem ri_zip {a b : E} {xa xb : Expr} {elts : List Expr} {kk : Nat} {p pos tpos : Pos} (hK : X.K = G.K) (hg : Gl X "zip") (hm : X.mg "zip" = none) (ha : PE X xa (tE G WX (evE c a))) (hb : PE X xb (tE G WX (evE c b))) (ns : notStar xa = true) (ns2 : notStar xb = true) :
    PI X (.Tuple elts kk tpos) (.Call (.Name "zip" p) [xa, xb] [] pos) (tI G WX (evIt c (.zip a b))) :=
  PI_imp (RZ.pi_zipA hg hm (ra_cons ha (ra_cons hb ra_nil ns2) ns) (starEach_cons ns) (plain_star (by simp [ns2]))) fun σ H R ⟨W, ρ, so, en, p⟩ => by
    refine ⟨W, ρ, so, en, ?_⟩
    rw [evEs_two]
    have e : evIt c (.zip a b) ρ W.st = ((evE c a ρ W.st).bnd fun t st => (evE c b ρ st).bnd fun u st => .ok [t, u] st).bnd fun ts st => match ts with
      | [x, y] => match items st x, items st y with
        | some xs, some ys => if isSeqL st x == isSeqL st y then .ok ⟨zipF xs ys, [x, y]⟩ st else .bad
        | _, _ => .bad
      | _ => .bad := by
      show (evE c a ρ W.st).bnd _ = _
      cases evE c a ρ W.st with
      | ok t st =>
        show (evE c b ρ st).bnd _ = ((evE c b ρ st).bnd _).bnd _
        cases evE c b ρ st <;> rfl
      | exc _ _ _ => rfl
      | bad => rfl
    rw [e] at p
    refine Post.imp (Post.bnd (Rl := RTs G) so p) (fun vs H1 ⟨W1, ts, x1, s1, r1, p1⟩ => ?_) fun _ _ _ h => h
    split at p1
    · rename_i t u
      obtain ⟨v, v2, rfl, rv, rv2⟩ := two_of r1
      split at p1
      · rename_i us ws d d2
        split at p1
        · rename_i ek
          have ek' := eq_of_beq ek
          obtain ⟨a, rfl⟩ := ref_of_items s1 rv d
          obtain ⟨b, rfl⟩ := ref_of_items s1 rv2 d2
          have d' : items W1.st t = some us := d
          have d2' : items W1.st u = some ws := d2
          rcases kind_at s1 rv d' with ⟨k, xs, hq, hr⟩ | ⟨k, xs, hq, hr⟩
          · rcases kind_at s1 rv2 d2' with ⟨k2, ys, hq2, hr2⟩ | ⟨k2, ys, hq2, hr2⟩
            · exact ⟨a, b, xs, ys, rfl, .inl ⟨by rw [hK]; exact hq, by rw [hK]; exact hq2, by rw [hK]; exact p1 _ W1 H1 rfl Ext.refl s1 (yl_zipL s1 rv rv2 d' d2' k k2)⟩⟩
            · rw [k, k2] at ek'; cases ek'
          · rcases kind_at s1 rv2 d2' with ⟨k2, ys, hq2, hr2⟩ | ⟨k2, ys, hq2, hr2⟩
            · rw [k, k2] at ek'; cases ek'
            · exact ⟨a, b, xs, ys, rfl, .inr ⟨by rw [hK]; exact hq, by rw [hK]; exact hq2, by rw [hK]; exact p1 _ W1 H1 rfl Ext.refl s1 (yl_zipT s1 rv rv2 d' d2' k k2)⟩⟩
        · exact p1.elim
      · exact p1.elim
    · exact p1.elim
end
end Lm
/-! Targets; list comprehensions. -/
namespace Lm
open PySem PySem.Spec PyProof.Rows L2
section
variable {X : Cx} {G : Gx} {WX : L2.WX} {c : Cf}

/-! ### targets -/
mutual
def Pt.slots : Pt → List Nat
  | .v i => [i]
  | .tup ps => ps.slots
def Pts.slots : Pts → List Nat
  | .nil => []
  | .cons p ps => p.slots ++ ps.slots
end
theorem EnvR.set {K : PySem.W.Frag} {W : Wd} {H : Hp} {σ : L2.St} {ρ : Fm} {v : V} {t : T} (en : EnvR K W H σ ρ) (r : Rep K W H v t) (i : Nat) : EnvR K W H (σ.set i (some v)) (ρ.set i (some t)) := by
  refine ⟨by simp [en.1], fun j u e => ?_⟩
  rw [List.getElem?_set] at e
  by_cases c : i = j
  · subst c
    rw [if_pos rfl] at e
    split at e
    · rename_i hl
      cases e
      exact ⟨v, by rw [List.getElem?_set, if_pos rfl, if_pos (by rw [en.1]; exact hl)], r⟩
    · cases e
  · rw [if_neg c] at e
    obtain ⟨w, h1, h2⟩ := en.2 j u e
    exact ⟨w, by rw [List.getElem?_set, if_neg c]; exact h1, h2⟩
theorem wipe_set {σ : L2.St} {i : Nat} {x : Option V} : ∀ {vs : List Nat}, i ∈ vs → wipe (σ.set i x) vs = wipe σ vs
  | [], h => by cases h
  | v :: vs, h => by
    unfold wipe
    by_cases hm : i ∈ vs
    · rw [wipe_set hm]
    · have e : i = v := by
        rcases List.mem_cons.mp h with e | h
        · exact e
        · exact absurd h hm
      subst e
      rw [show wipe (σ.set i x) vs = (wipe σ vs).set i x from wipe_comm hm]
      rw [List.set_set]
where
  wipe_comm : ∀ {vs : List Nat}, i ∉ vs → wipe (σ.set i x) vs = (wipe σ vs).set i x
    | [], _ => rfl
    | v :: vs, h => by
      have h1 : v ≠ i := fun e => h (by rw [e]; exact List.mem_cons_self)
      have h2 : i ∉ vs := fun m => h (List.mem_cons_of_mem _ m)
      show (wipe (σ.set i x) vs).set v none = ((wipe σ vs).set v none).set i x
      rw [wipe_comm h2, List.set_comm _ _ (Ne.symm h1)]
theorem wipe_get {σ : L2.St} {i : Nat} : ∀ {vs : List Nat}, i ∈ vs → (L2.wipe σ vs)[i]? = if i < σ.length then some none else none
  | [], h => by cases h
  | v :: vs, h => by
    show ((L2.wipe σ vs).set v none)[i]? = _
    rw [List.getElem?_set]
    by_cases c : v = i
    · rw [if_pos c, wipe_length, c]
    · rw [if_neg c]
      exact wipe_get (by rcases List.mem_cons.mp h with e | h; exact absurd e.symm c; exact h)
theorem wipe_idem {σ : L2.St} {vs : List Nat} : L2.wipe (L2.wipe σ vs) vs = L2.wipe σ vs := by
  apply List.ext_getElem?
  intro i
  by_cases h : i ∈ vs
  · rw [wipe_get h, wipe_get h, wipe_length]
  · rw [wipe_out h]
theorem EnvR.wipe {K : PySem.W.Frag} {W : Wd} {H : Hp} {σ : L2.St} {ρ : Fm} (en : EnvR K W H σ ρ) : ∀ vs : List Nat, EnvR K W H (L2.wipe σ vs) (wipeE ρ vs)
  | [] => en
  | v :: vs => by
    have ih := EnvR.wipe en vs
    refine ⟨by show ((L2.wipe σ vs).set v none).length = ((wipeE ρ vs).set v none).length; simp [ih.1], fun j u e => ?_⟩
    have e' : ((wipeE ρ vs).set v none)[j]? = some (some u) := e
    rw [List.getElem?_set] at e'
    by_cases c : v = j
    · rw [if_pos c] at e'
      split at e' <;> cases e'
    · rw [if_neg c] at e'
      obtain ⟨w, h1, h2⟩ := ih.2 j u e'
      exact ⟨w, by show ((L2.wipe σ vs).set v none)[j]? = _; rw [List.getElem?_set, if_neg c]; exact h1, h2⟩
/-- a target's reading: the slots behind it -/
def gT (G : Gx) (sl : List Nat) (f : T → Fm → Option Fm) : TG := fun v σ H Q => ∃ W ρ t ρ', StOk G.K W H ∧ EnvR G.K W H σ ρ ∧ Rep G.K W H v t ∧ f t ρ = some ρ' ∧ ∀ σ', EnvR G.K W H σ' ρ' → (∀ vs : List Nat, (∀ i ∈ sl, i ∈ vs) → L2.wipe σ' vs = L2.wipe σ vs) → Q σ' H
def gTs (G : Gx) (n : Nat) (sl : List Nat) (f : List T → Fm → Option Fm) : TGs := fun v σ H Q => ∃ W ρ t ρ', StOk G.K W H ∧ EnvR G.K W H σ ρ ∧ Reps G.K W H v t ∧ f t ρ = some ρ' ∧ t.length = n ∧ ∀ σ', EnvR G.K W H σ' ρ' → (∀ vs : List Nat, (∀ i ∈ sl, i ∈ vs) → L2.wipe σ' vs = L2.wipe σ vs) → Q σ' H
theorem PG_imp {tg : Expr} {t t' : TG} (h : PG X tg t) (hi : ∀ v σ H Q, t' v σ H Q → t v σ H Q) : PG X tg t' := ⟨fun pins s σ H v u Q I r q => h.run pins s σ H v u Q I r (hi v σ H Q q)⟩
theorem PGs_imp {tg : List Expr} {t t' : TGs} (h : PGs X tg t) (hi : ∀ v σ H Q, t' v σ H Q → t v σ H Q) : PGs X tg t' := ⟨fun pins s σ H v u Q I r q => h.run pins s σ H v u Q I r (hi v σ H Q q)⟩
theorem g_v {i : Nat} {x : Str} {pos : Pos} (hN : X.N.Nodup) (hi : X.N[i]? = some x) (hx : Loc X.env.scope x) (hf : X.fn x = true ∨ X.env.scope.names.lookup x = some .local) : PG X (.Name x pos) (gT G [i] (asgP (.v i))) :=
  PG_imp (pg_name hN hi hx hf) fun v σ H Q ⟨W, ρ, t, ρ', so, en, r, e, q⟩ => by
    have e' : some (ρ.set i (some t)) = some ρ' := e
    cases e'
    exact q _ (en.set r i) fun vs hs => wipe_set (hs i List.mem_cons_self)
theorem g_nil : PGs X [] (gTs G 0 [] (asgPs .nil)) := PGs_imp pgs_nil fun v σ H Q ⟨W, ρ, t, ρ', so, en, r, e, hl, q⟩ => by
  have e' : some ρ = some ρ' := e
  cases e'
  have ht : t = [] := List.length_eq_zero_iff.mp hl
  subst ht
  cases r
  exact ⟨rfl, q σ en fun _ _ => rfl⟩
theorem assignEach_cons {e : Expr} {es : List Expr} {env : PySem.Env} (h : notStar e = true) : assignEach (e :: es) env = (false, assign e env) :: assignEach es env := by
  cases e <;> first | rfl | cases h
theorem g_cons {p : Pt} {ps : Pts} {e : Expr} {es : List Expr} (h1 : PG X e (gT G p.slots (asgP p))) (h2 : PGs X es (gTs G ps.len ps.slots (asgPs ps))) (ns : notStar e = true) : PGs X (e :: es) (gTs G (ps.len + 1) (p.slots ++ ps.slots) (asgPs (.cons p ps))) :=
  PGs_imp (pgs_cons h1 h2 (by rw [assignEach_cons ns]; rfl)) fun v σ H Q ⟨W, ρ, t, ρ', so, en, r, e, hl, q⟩ => by
    cases t with
    | nil => simp at hl
    | cons t ts =>
      cases r with
      | cons r1 r2 =>
        have e' : (asgP p t ρ).bind (fun ρ1 => asgPs ps ts ρ1) = some ρ' := e
        obtain ⟨ρ1, e1, e2⟩ := Option.bind_eq_some_iff.mp e'
        refine ⟨_, _, rfl, W, ρ, t, ρ1, so, en, r1, e1, fun σ1 en1 w1 => ?_⟩
        exact ⟨W, ρ1, ts, ρ', so, en1, r2, e2, by simpa using hl, fun σ' en' w' => q σ' en' fun vs hs => (w' vs fun i hi => hs i (List.mem_append_right _ hi)).trans (w1 vs fun i hi => hs i (List.mem_append_left _ hi))⟩
theorem assignEach_plain {env : PySem.Env} : ∀ {es : List Expr}, es.all notStar = true → (assignEach es env).length = es.length ∧ (assignEach es env).findIdx? (·.1) = none
  | [], _ => ⟨rfl, rfl⟩
  | e :: es, h => by
    obtain ⟨h1, h2⟩ := Bool.and_eq_true_iff.mp (by simpa using h : (notStar e && es.all notStar) = true)
    obtain ⟨i1, i2⟩ := assignEach_plain (env := env) h2
    rw [assignEach_cons h1]
    refine ⟨by simp [i1], ?_⟩
    rw [List.findIdx?_cons, i2]
    rfl
theorem g_tup {ps : Pts} {es : List Expr} {k : Nat} {pos : Pos} (hK : X.K = G.K) (hc : X.calm = true) (h : PGs X es (gTs G ps.len ps.slots (asgPs ps))) (ns : es.all notStar = true) (hl : es.length = ps.len) : PG X (.Tuple es k pos) (gT G ps.slots (asgP (.tup ps))) := by
  obtain ⟨i1, i2⟩ := assignEach_plain (env := X.env) ns
  refine PG_imp (pg_tup hc h i1 i2) fun v σ H Q ⟨W, ρ, t, ρ', so, en, r, e, q⟩ => ?_
  cases t with
  | tup ts =>
    have e' : (if ts.length = ps.len then asgPs ps ts ρ else none) = some ρ' := e
    split at e'
    · rename_i hn
      cases r with
      | tup ha hr => exact ⟨_, _, rfl, by rw [hK]; exact ha.sq, by rw [hr.length, hn, hl], W, ρ, ts, ρ', so, en, hr, e', hn, q⟩
    · cases e'
  | _ => cases e

/-! ### tests of a comprehension -/
theorem PTs_imp {ifs : List Expr} {t t' : TT} (h : PTs X ifs t) (hi : ∀ σ H Q, t' σ H Q → t σ H Q) : PTs X ifs t' := ⟨fun pins s σ H Q I q => h.run pins s σ H Q I (hi σ H Q q)⟩
abbrev tC' (G : Gx) (WX : L2.WX) (f : Fm → Sto → R Bool) : TT := tG G (REq Bool) WX f
theorem rc_none : PTs X [] (tC' G WX (evC c .none)) := PTs_imp pts_nil fun σ H Q ⟨W, ρ, so, en, p⟩ => p true W H rfl Ext.refl so rfl
theorem rc_some {e : E} {xe : Expr} (h : PT X xe (tT G WX (evE c e))) : PTs X [xe] (tC' G WX (evC c (.some e))) := PTs_imp (pts_one h) fun σ H Q q => q

/-! ### the comprehension -/
theorem bnd_eta {α : Type} (r : R α) : r.bnd (fun a st => .ok a st) = r := by cases r <;> rfl
theorem bnd_assoc {α β γ : Type} (r : R α) (f : α → Sto → R β) (g : β → Sto → R γ) : (r.bnd f).bnd g = r.bnd fun a st => (f a st).bnd g := by cases r <;> rfl
def noW : L2.WX := fun _ _ _ _ => False
/-- one item's turn -/
def turnC (c : Cf) (p : Pt) (cd : Oe) (e : E) (ρ' : Fm) : T → Sto → R (Option T) := fun x st => match asgP p x ρ' with
  | none => .bad
  | some ρ2 => (evC c cd ρ2 st).nox.bnd fun b st => if b then ((evE c e ρ2 st).nox.bnd fun t st => .ok (some t) st) else .ok none st
theorem lc_T {p : Pt} {it : It} {cd : Oe} {e : E} {own : List Nat} {σ : L2.St} {H : Hp} {Q : VK} (hs : ∀ i ∈ p.slots, i ∈ own) (h : tF G WX (evL c (.comp p it cd e own)) σ H Q) :
    tLc (tI G WX (evIt c it)) (gT G p.slots (asgP p)) (tC' G noW (evC c cd)) (tE G noW (evE c e)) own σ H Q := by
  obtain ⟨W, ρ, so, en, pp⟩ := h
  refine ⟨W, ρ, so, en, Post.imp (Post.bnd (Rl := RW G) so pp) (fun J H1 ⟨W1, w, x1, s1, yl, p1⟩ D hD => ?_) fun _ _ _ h => h⟩
  split at p1
  case isFalse => exact p1.elim
  rename_i hsz
  have p1 : Post G (RF G H) W1 H1 Q (fun cls d H' => WX cls d σ H') (compGo (fun st' => sameSrc W1.st st' w.src) (turnC c p cd e (wipeE ρ own)) w.xs W1.st) := p1
  obtain ⟨x2, s2, nl2⟩ := prot_ok (o := .lst []) s1 hD
  -- the walk's way so far
  let Pv : Nat → Hp → Prop := fun i Hc => ∃ (Wc : Wd) (acc : List V) (ts : List T), StOk G.K Wc Hc ∧ Ext W1 H1 Wc Hc ∧ Wc.L D ∧ ¬ Live Wc D ∧ Hc D = some (.lst acc) ∧ Reps G.K Wc Hc acc ts ∧ sameSrc W1.st Wc.st w.src = true ∧ acc.length ≤ i ∧
    compGo (fun st' => sameSrc W1.st st' w.src) (turnC c p cd e (wipeE ρ own)) w.xs W1.st = (compGo (fun st' => sameSrc W1.st st' w.src) (turnC c p cd e (wipeE ρ own)) (w.xs.drop i) Wc.st).bnd fun r st => .ok (ts ++ r) st
  refine ⟨fun i m Hc => m = w.xs.length - i ∧ i ≤ w.xs.length ∧ Pv i Hc, ⟨_, rfl, Nat.zero_le _, { W1 with L := fun a => W1.L a ∨ a = D }, [], [], s2, x2, .inr rfl, nl2, upd_same, .nil, ?_, Nat.le_refl _, ?_⟩, ?_⟩
  · exact yl.self
  · rw [List.drop_zero]
    exact (bnd_eta _).symm
  · rintro i m Hc ⟨rfl, hi, Wc, acc, ts, sc, xc, lD, nlD, hDc, hr, hss, hacc, hgo⟩
    by_cases hlt : i < w.xs.length
    · right
      obtain ⟨g1, g2⟩ := yl.go Wc Hc i hlt xc sc hss
      refine ⟨g1, Pv (i + 1), fun H' hp => ⟨w.xs.length - (i + 1), by omega, rfl, hlt, hp⟩, fun y H' hy => ?_⟩
      obtain ⟨Wy, ey, xy, sy, ry⟩ := g2 y H' hy
      -- the turn is no bad one
      have hdrop : w.xs.drop i = w.xs[i] :: w.xs.drop (i + 1) := List.drop_eq_getElem_cons hlt
      rw [hdrop] at hgo
      have hgo2 : compGo (fun st' => sameSrc W1.st st' w.src) (turnC c p cd e (wipeE ρ own)) w.xs W1.st = ((turnC c p cd e (wipeE ρ own) w.xs[i] Wc.st).bnd fun o st => if sameSrc W1.st st w.src then (compGo (fun st' => sameSrc W1.st st' w.src) (turnC c p cd e (wipeE ρ own)) (w.xs.drop (i + 1)) st).bnd fun r st => .ok (ts ++ (o.toList ++ r)) st else .bad) := by
        rw [hgo]
        show ((turnC c p cd e (wipeE ρ own) w.xs[i] Wc.st).bnd _).bnd _ = _
        rw [bnd_assoc]
        congr 1
        funext o st
        split
        · rw [bnd_assoc]; rfl
        · rfl
      have dead : ∀ {P : Prop}, turnC c p cd e (wipeE ρ own) w.xs[i] Wc.st = .bad → P := fun hb => by
        rw [hgo2, hb] at p1; exact p1.elim
      cases ha : asgP p w.xs[i] (wipeE ρ own) with
      | none => exact dead (by unfold turnC; rw [ha])
      | some ρ2 =>
        have eny : EnvR G.K Wy H' (L2.wipe σ own) (wipeE ρ own) := (EnvR.wipe en own).mv ((x1.trans so xc).trans so xy)
        refine ⟨Wy, wipeE ρ own, w.xs[i], ρ2, sy, eny, ry, ha, fun σ2 en2 w2 => ⟨?_, ?_⟩⟩
        · rw [w2 own hs]; exact wipe_idem
        · have et : turnC c p cd e (wipeE ρ own) w.xs[i] Wc.st = (evC c cd ρ2 Wc.st).nox.bnd fun b st => if b then ((evE c e ρ2 st).nox.bnd fun t st => .ok (some t) st) else .ok none st := by
            unfold turnC; rw [ha]
          refine ⟨Wy, ρ2, sy, en2, ?_⟩
          rw [ey]
          cases hc : evC c cd ρ2 Wc.st with
          | bad => exact dead (by rw [et, hc]; rfl)
          | exc k us st => exact dead (by rw [et, hc]; rfl)
          | ok b st1 =>
            intro b' W3 H3 e3 x3 s3 rb
            have rb' : b' = b := rb
            subst rb'
            rw [hc] at et
            have et' : turnC c p cd e (wipeE ρ own) w.xs[i] Wc.st = if b' then ((evE c e ρ2 st1).nox.bnd fun t st => .ok (some t) st) else .ok none st1 := et
            have xc3 : Ext Wc Hc W3 H3 := xy.trans sc x3
            have nD3 : ¬ Live W3 D := fun z => by
              rcases xc3.nl D z with q | q
              · exact nlD q
              · rw [hDc] at q; cases q
            cases b' with
            | false =>
              rw [if_neg (by decide)]
              rw [if_neg (by decide)] at et'
              rw [et'] at hgo2
              dsimp only [R.bnd] at hgo2
              split at hgo2
              · rename_i hss3
                exact ⟨W3, acc, ts, s3, xc.trans s1 xc3, xc3.up D lD nlD, nD3, xc3.keepx D _ hDc lD nlD, hr.mv xc3, by rw [e3]; exact hss3, Nat.le_succ_of_le hacc, by rw [e3]; exact hgo2⟩
              · rw [hgo2] at p1; exact p1.elim
            | true =>
              rw [if_pos rfl]
              rw [if_pos rfl] at et'
              refine ⟨W3, ρ2, s3, en2.mv x3, ?_⟩
              rw [e3]
              cases he : evE c e ρ2 st1 with
              | bad => exact dead (by rw [et', he]; rfl)
              | exc k us st => exact dead (by rw [et', he]; rfl)
              | ok t st2 =>
                intro v W4 H4 e4 x4 s4 rv
                rw [he] at et'
                have et2 : turnC c p cd e (wipeE ρ own) w.xs[i] Wc.st = .ok (some t) st2 := et'
                rw [et2] at hgo2
                dsimp only [R.bnd] at hgo2
                have xc4 : Ext Wc Hc W4 H4 := xc3.trans sc x4
                have nD4 : ¬ Live W4 D := fun z => by
                  rcases xc4.nl D z with q | q
                  · exact nlD q
                  · rw [hDc] at q; cases q
                have lD4 := xc4.up D lD nlD
                have h4 := xc4.keepx D _ hDc lD nlD
                split at hgo2
                · rename_i hss4
                  refine ⟨acc, h4, by omega, ?_⟩
                  -- the list at D grows
                  have x5 : Ext0 W4 H4 W4 (upd H4 D (.lst (acc ++ [v]))) := ⟨Nat.le_refl _, fun _ _ => rfl, fun a o ha hl => by rw [upd_ne]; exact ha; rintro rfl; exact hl lD4, fun _ h => .inl h⟩
                  have s5 : StOk G.K W4 (upd H4 D (.lst (acc ++ [v]))) := ⟨s4.inj, s4.liv, fun j o ho => by
                    cases al : alive o with
                    | false => cases o <;> first | trivial | cases al
                    | true => exact (s4.ob j o ho).mv x5 fun u hu => by rw [upd_ne]; exact hu; exact fun z => nD4 ⟨j, o, ho, al, z⟩, fun a ha => by
                    obtain ⟨o, ho⟩ := s4.lh a ha
                    by_cases z : a = D
                    · subst z; exact ⟨_, upd_same⟩
                    · exact ⟨o, by rw [upd_ne z]; exact ho⟩⟩
                  refine ⟨W4, acc ++ [v], ts ++ [t], s5, ?_, lD4, nD4, upd_same, ((hr.mv xc4).mv0 x5).append (.cons (rv.mv0 x5) .nil), by rw [e4]; exact hss4, by simp; omega, ?_⟩
                  · have x6 := xc.trans s1 xc4
                    have neD : ∀ a o, H1 a = some o → a ≠ D := fun a o ha z => by rw [z, hD] at ha; cases ha
                    exact ⟨⟨x6.len, x6.agr, fun a o ha hl => by rw [upd_ne (neD a o ha)]; exact x6.keep a o ha hl, x6.low⟩, fun a o ha hl hv => by rw [upd_ne (neD a o ha)]; exact x6.keepx a o ha hl hv, x6.up, x6.nl, fun a o ha => by
                      obtain ⟨o', ho'⟩ := x6.sm a o ha
                      exact ⟨o', by rw [upd_ne (neD a o ha)]; exact ho'⟩⟩
                  · rw [e4, hgo2]
                    congr 1
                    funext r st
                    simp
                · rw [hgo2] at p1; exact p1.elim
    · left
      have e0 : i = w.xs.length := by omega
      subst e0
      refine ⟨yl.stop Wc Hc _ (Nat.le_refl _) xc sc hss, ?_⟩
      rw [List.drop_length] at hgo
      have hgo' : compGo (fun st' => sameSrc W1.st st' w.src) (turnC c p cd e (wipeE ρ own)) w.xs W1.st = .ok (ts ++ []) Wc.st := hgo
      rw [hgo', List.append_nil] at p1
      exact p1 _ Wc Hc rfl xc sc ⟨D, acc, rfl, lD, nlD, x1.some_back hD, hDc, hr⟩
end
end Lm
/-! Statements. -/
namespace Lm
open PySem PySem.Spec PyProof.Rows L2

def PostS (G : Gx) (WX : L2.WX) (D : Ends) (W : Wd) (H : Hp) : RS → Prop
  | .nx ρ st => ∀ σ W' H', W'.st = st → Ext W H W' H' → StOk G.K W' H' → EnvR G.K W' H' σ ρ → D.nx σ H'
  | .ret t st => ∀ v W' H', W'.st = st → Ext W H W' H' → StOk G.K W' H' → Rep G.K W' H' v t → D.rt v H'
  | .brk ρ st => ∀ σ W' H', W'.st = st → Ext W H W' H' → StOk G.K W' H' → EnvR G.K W' H' σ ρ → D.bk σ H'
  | .cnt ρ st => ∀ σ W' H', W'.st = st → Ext W H W' H' → StOk G.K W' H' → EnvR G.K W' H' σ ρ → D.ct σ H'
  | .exc c xs ρ st => ∀ cls d σ W' H', W'.st = st → Ext W H W' H' → StOk G.K W' H' → EnvR G.K W' H' σ ρ → ExcP G W' H' cls d c xs → WX cls d σ H'
  | .bad => False
def tS (G : Gx) (WX : L2.WX) (f : Fm → Sto → RS) : TS := fun D σ H => ∃ W ρ, StOk G.K W H ∧ EnvR G.K W H σ ρ ∧ PostS G WX D W H (f ρ W.st)
section
variable {X : Cx} {G : Gx} {WX : L2.WX} {c : Cf}
theorem PostS.shift {D : Ends} {W W' : Wd} {H H' : Hp} (s : StOk G.K W H) (x : Ext W H W' H') {r : RS} (h : PostS G WX D W H r) : PostS G WX D W' H' r := by
  cases r with
  | nx ρ st => exact fun σ W2 H2 e y s2 en => h σ W2 H2 e (x.trans s y) s2 en
  | ret t st => exact fun σ W2 H2 e y s2 en => h σ W2 H2 e (x.trans s y) s2 en
  | brk ρ st => exact fun σ W2 H2 e y s2 en => h σ W2 H2 e (x.trans s y) s2 en
  | cnt ρ st => exact fun σ W2 H2 e y s2 en => h σ W2 H2 e (x.trans s y) s2 en
  | exc k xs ρ st => exact fun cls d σ W2 H2 e y s2 en q => h cls d σ W2 H2 e (x.trans s y) s2 en q
  | bad => exact h
/-- an expression, then what follows -/
theorem PostS.thn {α β : Type} {Rl : Rel α β} {D : Ends} {W : Wd} {H : Hp} {σ : L2.St} {ρ : Fm} {r : R α} {k : α → Sto → RS} (s : StOk G.K W H) (en : EnvR G.K W H σ ρ) (h : PostS G WX D W H (r.then_ ρ k)) :
    Post G Rl W H (fun b H1 => ∃ W1 a, Ext W H W1 H1 ∧ StOk G.K W1 H1 ∧ Rl W1 H1 b a ∧ PostS G WX D W1 H1 (k a W1.st)) (fun cls d H' => WX cls d σ H') r := by
  cases r with
  | ok t st =>
    intro v W1 H1 e x s1 rl
    subst e
    exact ⟨W1, t, x, s1, rl, PostS.shift s x h⟩
  | exc k' xs st => exact fun cls d W' H' e x s' q => h cls d σ W' H' e x s' (en.mv x) q
  | bad => exact h

/-! ### which assignments -/
def notComp : Expr → Bool
  | .ListComp .. => false
  | .SetComp .. => false
  | .DictComp .. => false
  | _ => true
theorem swaps_not {e : Expr} {t : Option Expr} {l : Nat} {env : PySem.Env} (h : notComp e = true) : swapsWith e t l env = pure false := by
  cases e <;> first | rfl | cases h
theorem sole_not {e t : Expr} {l : Nat} {env : PySem.Env} (h : notComp e = true) : swapsWithSole [t] e l env = pure false := by
  unfold swapsWithSole
  exact swaps_not h
/-- whether [..] is laid into the name itself -/
def swapB (elt : Expr) (gs : List Comprehension) (scope : Scope) (pos : Pos) (y : Str) (py : Pos) (env : PySem.Env) : Bool :=
  env.blockKind == .function && env.kindOf y == some .local && py.line == pos.line && !(scope.names.any fun (n, k) => n == y && (k == .local || k == .cell))
theorem swaps_comp {elt : Expr} {gs : List Comprehension} {scope : Scope} {pos py : Pos} {y : Str} {l : Nat} {env : PySem.Env} : swapsWith (.ListComp elt gs scope pos) (some (.Name y py)) l env = pure (swapB elt gs scope pos y py env) := by
  unfold swapsWith swapB
  rfl
theorem s_set {i : Nat} {x : Str} {e : E} {xe : Expr} {pos pos' : Pos} (hN : X.N.Nodup) (hi : X.N[i]? = some x) (hx : Loc X.env.scope x) (he : PE X xe (tE G WX (evE c e))) (hs : swapsWith xe (some (.Name x pos')) pos.line X.env = pure false) (hf : X.fn x = true ∨ X.env.scope.names.lookup x = some .local) :
    PS X (.Assign [.Name x pos'] xe pos) (tS G WX (evS c (.set i e))) :=
  PS_imp (ps_set hN hi hx he hs hf) fun D σ H ⟨W, ρ, so, en, p⟩ =>
    ⟨W, ρ, so, en, Post.imp (PostS.thn (Rl := RT G) so en p) (fun v H1 ⟨W1, t, x1, s1, r1, p1⟩ => p1 _ W1 H1 rfl Ext.refl s1 ((en.mv x1).set r1 i)) fun _ _ _ h => h⟩
/-- x = [.. for ..], laid into the name -/
theorem s_setLc {i : Nat} {y : Str} {py : Pos} {p : Pt} {it : It} {cd : Oe} {e : E} {own : List (Str × Nat)} {elt tg iter : Expr} {ifs : List Expr} {scope : Scope} {pos spos : Pos} {ex : E} (hex : (∃ l, ex = .lt l ∧ l = L.comp p it cd e (own.map (·.2))) ∨ (∃ l, ex = .lo l ∧ l = L.comp p it cd e (own.map (·.2))))
    (hc : X.calm = true) (hN : X.N.Nodup) (hy : X.N[i]? = some y) (hyl : X.env.scope.names.lookup y = some .local)
    (hsw : swapsWith (.ListComp elt [⟨tg, iter, ifs, 0⟩] scope pos) (some (.Name y py)) spos.line X.env = pure true) (hi : PI X tg iter (tI G WX (evIt c it))) (ok : BlkOk X.N X.env.scope scope own) (hsl : ∀ j ∈ p.slots, j ∈ own.map (·.2))
    (hg : ∀ (s : Shared) (H : Hp) (C : Addr) (cl : List (Str × Addr)) (fp : List Addr), PG (X.blk s H scope (compEnvC scope cl C X.env) fp) tg (gT G p.slots (asgP p)))
    (ht : ∀ (s : Shared) (H : Hp) (C : Addr) (cl : List (Str × Addr)) (fp : List Addr), PTs (X.blk s H scope (compEnvC scope cl C X.env) fp) ifs (tC' G noW (evC c cd)))
    (he : ∀ (s : Shared) (H : Hp) (C : Addr) (cl : List (Str × Addr)) (fp : List Addr), PE (X.blk s H scope (compEnvC scope cl C X.env) fp) elt (tE G noW (evE c e))) (hs : ∀ x, foldedSetIterable iter X.env x = pure x) :
    PS X (.Assign [.Name y py] (.ListComp elt [⟨tg, iter, ifs, 0⟩] scope pos) spos) (tS G WX (evS c (.set i ex))) :=
  PS_imp (ps_setLc hc hN hy hyl hsw hi ok hg ht he hs) fun D σ H ⟨W, ρ, so, en, p⟩ => by
    have q : tE G WX (evE c ex) σ H (fun v H1 => gName i v σ H1 D.nx) :=
      ⟨W, ρ, so, en, Post.imp (PostS.thn (Rl := RT G) so en p) (fun v H1 ⟨W1, t, x1, s1, r1, p1⟩ => p1 _ W1 H1 rfl Ext.refl s1 ((en.mv x1).set r1 i)) fun _ _ _ h => h⟩
    rcases hex with ⟨l, rfl, rfl⟩ | ⟨l, rfl, rfl⟩
    · exact lc_T hsl (lt_imp q)
    · exact lc_T hsl (lo_imp q)
/-- [.. for ..] as a value -/
theorem f_comp {p : Pt} {it : It} {cd : Oe} {e : E} {own : List (Str × Nat)} {elt tg iter : Expr} {ifs : List Expr} {scope : Scope} {pos : Pos}
    (hc : X.calm = true) (hN : X.N.Nodup) (hi : PI X tg iter (tI G WX (evIt c it))) (ok : BlkOk X.N X.env.scope scope own) (hsl : ∀ j ∈ p.slots, j ∈ own.map (·.2))
    (hg : ∀ (s : Shared) (H : Hp) (C : Addr) (cl : List (Str × Addr)) (fp : List Addr), PG (X.blk s H scope (compEnvC scope cl C X.env) fp) tg (gT G p.slots (asgP p)))
    (ht : ∀ (s : Shared) (H : Hp) (C : Addr) (cl : List (Str × Addr)) (fp : List Addr), PTs (X.blk s H scope (compEnvC scope cl C X.env) fp) ifs (tC' G noW (evC c cd)))
    (he : ∀ (s : Shared) (H : Hp) (C : Addr) (cl : List (Str × Addr)) (fp : List Addr), PE (X.blk s H scope (compEnvC scope cl C X.env) fp) elt (tE G noW (evE c e))) (hs : ∀ x, foldedSetIterable iter X.env x = pure x) :
    PE X (.ListComp elt [⟨tg, iter, ifs, 0⟩] scope pos) (tF G WX (evL c (.comp p it cd e (own.map (·.2))))) :=
  PE_imp (pe_lc hc hN hi ok hg ht he hs) fun σ H Q q => lc_T hsl q
theorem s_par {i j : Nat} {x y : Str} {a b : E} {xa xb : Expr} {px py pt pos : Pos} {kt k2 : Nat} {pt2 : Pos} (hc : X.calm = true) (hN : X.N.Nodup) (hi : X.N[i]? = some x) (hj : X.N[j]? = some y) (hij : i ≠ j)
    (hx : X.env.scope.names.lookup x = some .local) (hy : X.env.scope.names.lookup y = some .local) (ha : PE X xa (tE G WX (evE c a))) (hb : PE X xb (tE G WX (evE c b))) (ns : notStar xa = true) (ns2 : notStar xb = true)
    (hw : swappedStores [.Tuple [.Name x px, .Name y py] kt pt] (.Tuple [xa, xb] k2 pt2) X.env = pure (some [x, y])) :
    PS X (.Assign [.Tuple [.Name x px, .Name y py] kt pt] (.Tuple [xa, xb] k2 pt2) pos) (tS G WX (evS c (.par i j a b))) :=
  PS_imp (ps_par hc hN hi hj hij hx hy (ra_cons ha (ra_cons hb ra_nil ns2) ns) hw rfl) fun D σ H ⟨W, ρ, so, en, p⟩ => by
    refine ⟨W, ρ, so, en, ?_⟩
    rw [evEs_two]
    have e : evS c (.par i j a b) ρ W.st = R.then_ ((evE c a ρ W.st).bnd fun t st => (evE c b ρ st).bnd fun u st => .ok [t, u] st) ρ fun ts st => match ts with
      | [t, u] => .nx ((ρ.set i (some t)).set j (some u)) st
      | _ => .bad := by
      show R.then_ (evE c a ρ W.st) ρ _ = _
      cases evE c a ρ W.st with
      | ok t st =>
        show R.then_ (evE c b ρ st) ρ _ = R.then_ ((evE c b ρ st).bnd _) ρ _
        cases evE c b ρ st <;> rfl
      | exc _ _ _ => rfl
      | bad => rfl
    rw [e] at p
    refine Post.imp (PostS.thn (Rl := RTs G) so en p) (fun vs H1 ⟨W1, ts, x1, s1, r1, p1⟩ => ?_) fun _ _ _ h => h
    split at p1
    · obtain ⟨v, v2, rfl, rv, rv2⟩ := two_of r1
      exact ⟨v, v2, rfl, p1 _ W1 H1 rfl Ext.refl s1 (((en.mv x1).set rv i).set rv2 j)⟩
    · exact p1.elim
theorem evEs_three (a b d : E) (ρ : Fm) (st : Sto) : evEs c (.cons a (.cons b (.cons d .nil))) ρ st = (evE c a ρ st).bnd fun t st => (evE c b ρ st).bnd fun u st => (evE c d ρ st).bnd fun w st => .ok [t, u, w] st := by
  show (evE c a ρ st).bnd _ = _
  cases evE c a ρ st with
  | ok t st =>
    show (evEs c (.cons b (.cons d .nil)) ρ st).bnd _ = (evE c b ρ st).bnd _
    rw [evEs_two]
    cases evE c b ρ st with
    | ok u st =>
      show ((evE c d ρ st).bnd _).bnd _ = (evE c d ρ st).bnd _
      cases evE c d ρ st <;> rfl
    | exc _ _ _ => rfl
    | bad => rfl
  | exc _ _ _ => rfl
  | bad => rfl
theorem three_of {xs : List V} {W : Wd} {H : Hp} {t u w : T} (r : Reps G.K W H xs [t, u, w]) : ∃ x y z, xs = [x, y, z] ∧ Rep G.K W H x t ∧ Rep G.K W H y u ∧ Rep G.K W H z w := by
  cases r with
  | cons h1 h2 =>
    obtain ⟨y, z, rfl, h3, h4⟩ := two_of h2
    exact ⟨_, _, _, rfl, h1, h3, h4⟩
theorem s_par3 {i j l : Nat} {x y z : Str} {a b d : E} {xa xb xd : Expr} {px py pz pt pos : Pos} {kt k2 : Nat} {pt2 : Pos} (hc : X.calm = true) (hN : X.N.Nodup) (hi : X.N[i]? = some x) (hj : X.N[j]? = some y) (hl : X.N[l]? = some z) (hij : i ≠ j) (hil : i ≠ l) (hjl : j ≠ l)
    (hx : X.env.scope.names.lookup x = some .local) (hy : X.env.scope.names.lookup y = some .local) (hz : X.env.scope.names.lookup z = some .local) (ha : PE X xa (tE G WX (evE c a))) (hb : PE X xb (tE G WX (evE c b))) (hd : PE X xd (tE G WX (evE c d))) (ns : notStar xa = true) (ns2 : notStar xb = true) (ns3 : notStar xd = true)
    (hw : swappedStores [.Tuple [.Name x px, .Name y py, .Name z pz] kt pt] (.Tuple [xa, xb, xd] k2 pt2) X.env = pure (some [x, y, z])) :
    PS X (.Assign [.Tuple [.Name x px, .Name y py, .Name z pz] kt pt] (.Tuple [xa, xb, xd] k2 pt2) pos) (tS G WX (evS c (.par3 i j l a b d))) :=
  PS_imp (ps_par3 hc hN hi hj hl hij hil hjl hx hy hz (ra_cons ha (ra_cons hb (ra_cons hd ra_nil ns3) ns2) ns) hw rfl) fun D σ H ⟨W, ρ, so, en, p⟩ => by
    refine ⟨W, ρ, so, en, ?_⟩
    rw [evEs_three]
    have e : evS c (.par3 i j l a b d) ρ W.st = R.then_ ((evE c a ρ W.st).bnd fun t st => (evE c b ρ st).bnd fun u st => (evE c d ρ st).bnd fun w st => .ok [t, u, w] st) ρ fun ts st => match ts with
      | [t, u, w] => .nx (((ρ.set i (some t)).set j (some u)).set l (some w)) st
      | _ => .bad := by
      show R.then_ (evE c a ρ W.st) ρ _ = _
      cases evE c a ρ W.st with
      | ok t st =>
        show R.then_ (evE c b ρ st) ρ _ = R.then_ ((evE c b ρ st).bnd _) ρ _
        cases evE c b ρ st with
        | ok u st =>
          show R.then_ (evE c d ρ st) ρ _ = R.then_ ((evE c d ρ st).bnd _) ρ _
          cases evE c d ρ st <;> rfl
        | exc _ _ _ => rfl
        | bad => rfl
      | exc _ _ _ => rfl
      | bad => rfl
    rw [e] at p
    refine Post.imp (PostS.thn (Rl := RTs G) so en p) (fun vs H1 ⟨W1, ts, x1, s1, r1, p1⟩ => ?_) fun _ _ _ h => h
    split at p1
    · obtain ⟨v, v2, v3, rfl, rv, rv2, rv3⟩ := three_of r1
      exact ⟨v, v2, v3, rfl, p1 _ W1 H1 rfl Ext.refl s1 ((((en.mv x1).set rv i).set rv2 j).set rv3 l)⟩
    · exact p1.elim
/-- a tuple target -/
theorem s_asg {ps : Pts} {e : E} {xe : Expr} {es : List Expr} {k : Nat} {tpos pos : Pos} (he : PE X xe (tE G WX (evE c e))) (hg : PG X (.Tuple es k tpos) (gT G (Pt.tup ps).slots (asgP (.tup ps)))) (hw : swappedStores [.Tuple es k tpos] xe X.env = pure none) (nc : notComp xe = true) :
    PS X (.Assign [.Tuple es k tpos] xe pos) (tS G WX (evS c (.asg (.tup ps) e))) :=
  PS_imp (ps_asg he hg (sole_not nc) hw rfl) fun D σ H ⟨W, ρ, so, en, p⟩ =>
    ⟨W, ρ, so, en, Post.imp (PostS.thn (Rl := RT G) so en p) (fun v H1 ⟨W1, t, x1, s1, r1, p1⟩ => by
      split at p1
      · rename_i ρ' e1
        exact ⟨W1, ρ, t, ρ', s1, en.mv x1, r1, e1, fun σ' en' _ => p1 σ' W1 H1 rfl Ext.refl s1 en'⟩
      · exact p1.elim) fun _ _ _ h => h⟩
theorem ip_mul : PIp X .Mult (fun x y H Q => ∃ i j, x = .int i ∧ y = .int j ∧ mulOk i j = true ∧ Q (.int (i * j)) H) := by
  intro pins s σ H x y v u Q I r1 r2 h
  obtain ⟨i, j, e1, e2, hc, q⟩ := h
  subst e1; subst e2
  obtain ⟨t, rfl⟩ := r1
  obtain ⟨t', rfl⟩ := r2
  have ok : IntMulOk i j := by
    unfold mulOk at hc
    simp only [Bool.or_eq_true, decide_eq_true_eq] at hc
    rcases hc with (hc | hc) | hc
    · exact CMul.ok (.inl hc)
    · exact CMul.ok (.inr hc)
    · exact CMulW.ok (show i.natAbs.log2 + j.natAbs.log2 < 1000000 by omega)
  exact PyProof.Rows.imul_int ⟨.int _, H, I.tok _, ⟨_, rfl⟩, q⟩ ok
theorem s_aug {i : Nat} {x : Str} {o : BOp} {e : E} {xe : Expr} {pos pos' : Pos} (hN : X.N.Nodup) (hi : X.N[i]? = some x) (hx : Loc X.env.scope x) (he : PE X xe (tE G WX (evE c e))) (ho : o = .add ∨ o = .sub ∨ o = .mul) (hf : X.fn x = true ∨ X.env.scope.names.lookup x = some .local) :
    PS X (.AugAssign (.Name x pos') (opOf o) xe pos) (tS G WX (evS c (.aug i o e))) := by
  have go : ∀ (f : Int → Int → Prop) (ti : TIp) (hp : PIp X (opOf o) ti) (hti : ∀ (a b z : Int) H Q, binop o (.int a) (.int b) = some (.int z) → Q (.int z) H → ti (.int a) (.int b) H Q), PS X (.AugAssign (.Name x pos') (opOf o) xe pos) (tS G WX (evS c (.aug i o e))) := fun f ti hp hti =>
    PS_imp (ps_aug hN hi hx he hp hf) fun D σ H ⟨W, ρ, so, en, p⟩ => by
      have p' : PostS G WX D W H (match ρ[i]? with
        | some (some x) => (evE c e ρ W.st).then_ ρ fun y st => match x, y, binop o x y with
          | .int _, .int _, some z => .nx (ρ.set i (some z)) st
          | _, _, _ => .bad
        | _ => .bad) := p
      split at p'
      · rename_i t et
        obtain ⟨v, h1, h2⟩ := en.2 i t et
        refine ⟨v, h1, W, ρ, so, en, Post.imp (PostS.thn (Rl := RT G) so en p') (fun y H1 ⟨W1, u, x1, s1, r1, p1⟩ => ?_) fun _ _ _ h => h⟩
        cases t with
        | int a =>
          cases u with
          | int b =>
            cases ez : binop o (.int a) (.int b) with
            | none => rw [ez] at p1; exact p1.elim
            | some z =>
              rw [ez] at p1
              cases h2; cases r1
              have hz : ∃ k, z = .int k := by
                rcases ho with rfl | rfl | rfl
                · exact ⟨_, (Option.some.inj ez).symm⟩
                · exact ⟨_, (Option.some.inj ez).symm⟩
                · have ez' : (if mulOk a b = true then some (T.int (a * b)) else none) = some z := ez
                  split at ez'
                  · exact ⟨_, (Option.some.inj ez').symm⟩
                  · cases ez'
              obtain ⟨k, rfl⟩ := hz
              exact hti a b k H1 _ ez (p1 _ W1 H1 rfl Ext.refl s1 ((en.mv x1).set (.int k) i))
          | _ => exact p1.elim
        | _ => exact p1.elim
      · exact p'.elim
  rcases ho with rfl | rfl | rfl
  · exact go (fun _ _ => True) _ ip_add fun a b z H Q e1 q => by
      have e2 := Option.some.inj e1
      cases e2
      exact ⟨a, b, rfl, rfl, q⟩
  · exact go (fun _ _ => True) _ ip_sub fun a b z H Q e1 q => by
      have e2 := Option.some.inj e1
      cases e2
      exact ⟨a, b, rfl, rfl, q⟩
  · exact go (fun _ _ => True) _ ip_mul fun a b z H Q e1 q => by
      have ez' : (if mulOk a b = true then some (T.int (a * b)) else none) = some (.int z) := e1
      split at ez'
      · rename_i hm
        have e2 := Option.some.inj ez'
        cases e2
        exact ⟨a, b, rfl, rfl, hm, q⟩
      · cases ez'
/-! ### items stored -/
theorem setIx_some {W : Wd} {H : Hp} {o i t : T} {st' : Sto} {vo vi v : V} (s : StOk G.K W H) (ro : Rep G.K W H vo o) (ri : Rep G.K W H vi i) (rv : Rep G.K W H v t) (h : setIxF o i t W.st = some st') :
    ∃ p xs k j W', vo = .ref p ∧ vi = .int k ∧ H p = some (.lst xs) ∧ ixN xs.length k = some j ∧ W'.st = st' ∧ Ext W H W' (upd H p (.lst (xs.set j v))) ∧ StOk G.K W' (upd H p (.lst (xs.set j v))) := by
  unfold setIxF at h
  split at h
  · rename_i n k
    split at h
    · rename_i ts e
      split at h
      · rename_i j hj
        cases h
        obtain ⟨rfl, hn⟩ := obj_of ro
        cases ri
        obtain ⟨xs, h1, h2⟩ := s.ob n _ e
        obtain ⟨x1, s1⟩ := put_lst s e (h2.set rv j)
        exact ⟨_, xs, k, j, _, rfl, rfl, h1, by rw [h2.length]; exact hj, rfl, x1, s1⟩
      · cases h
    · cases h
  · cases h
theorem assign_sub {o i : Expr} {pos : Pos} {env : PySem.Env} (h : plainIx i = true) (v : Value) : assign (.Subscript o i pos) env v = (do
      let ov ← holding [v] (eval o env)
      let iv ← holding [v, ov] (eval i env)
      standAt pos
      holding [v, ov, iv] (setItem ov iv v)
      release [v, ov, iv] []) := by
  cases i <;> first | rfl | cases h
theorem s_setIx {o i e : E} {xo xi xe : Expr} {tpos pos : Pos} (ho : PE X xo (tE G WX (evE c o))) (hi : PE X xi (tE G WX (evE c i))) (he : PE X xe (tE G WX (evE c e))) (hp : plainIx xi = true) (nc : notComp xe = true) :
    PS X (.Assign [.Subscript xo xi tpos] xe pos) (tS G WX (evS c (.setIx o i e))) :=
  PS_imp (ps_asg he (pg_sub ho hi set_list (assign_sub hp)) (sole_not nc) rfl rfl) fun D σ H ⟨W, ρ, so, en, p⟩ =>
    ⟨W, ρ, so, en, Post.imp (PostS.thn (Rl := RT G) so en p) (fun v H1 ⟨W1, t, x1, s1, r1, p1⟩ =>
      ⟨W1, ρ, s1, en.mv x1, Post.imp (PostS.thn (Rl := RT G) s1 (en.mv x1) p1) (fun vo H2 ⟨W2, u, x2, s2, r2, p2⟩ =>
        ⟨W2, ρ, s2, (en.mv x1).mv x2, Post.imp (PostS.thn (Rl := RT G) s2 ((en.mv x1).mv x2) p2) (fun vi H3 ⟨W3, w, x3, s3, r3, p3⟩ => by
          split at p3
          · rename_i st' e1
            obtain ⟨q, xs, k, j, W', rfl, rfl, h1, h2, h3, x4, s4⟩ := setIx_some s3 (r2.mv x3) r3 ((r1.mv x2).mv x3) e1
            exact ⟨q, xs, k, j, rfl, rfl, h1, h2, p3 σ W' _ h3 x4 s4 ((((en.mv x1).mv x2).mv x3).mv x4)⟩
          · exact p3.elim) fun _ _ _ h => h⟩) fun _ _ _ h => h⟩) fun _ _ _ h => h⟩
end
end Lm
/-! Flow, blocks. -/
namespace Lm
open PySem PySem.Spec PyProof.Rows L2
section
variable {X : Cx} {G : Gx} {WX : L2.WX} {c : Cf}
theorem s_expr {e : E} {xe : Expr} {pos : Pos} (he : PE X xe (tE G WX (evE c e))) (nc : notComp xe = true) : PS X (.Expr xe pos) (tS G WX (evS c (.expr e))) :=
  PS_imp (ps_expr he (swaps_not nc)) fun D σ H ⟨W, ρ, so, en, p⟩ =>
    ⟨W, ρ, so, en, Post.imp (PostS.thn (Rl := RT G) so en p) (fun v H1 ⟨W1, t, x1, s1, r1, p1⟩ => p1 σ W1 H1 rfl Ext.refl s1 (en.mv x1)) fun _ _ _ h => h⟩
theorem s_ret {e : E} {xe : Expr} {pos : Pos} (he : PE X xe (tE G WX (evE c e))) : PS X (.Return (some xe) pos) (tS G WX (evS c (.ret e))) :=
  PS_imp (ps_ret he) fun D σ H ⟨W, ρ, so, en, p⟩ =>
    ⟨W, ρ, so, en, Post.imp (PostS.thn (Rl := RT G) so en p) (fun v H1 ⟨W1, t, x1, s1, r1, p1⟩ => p1 v W1 H1 rfl Ext.refl s1 r1) fun _ _ _ h => h⟩
theorem s_retN {pos : Pos} : PS X (.Return none pos) (tS G WX (evS c (.ret (.lit .non)))) :=
  PS_imp ps_retN fun D σ H ⟨W, ρ, so, en, p⟩ => p .non W H rfl Ext.refl so .non
theorem s_brk {pos : Pos} : PS X (.Break pos) (tS G WX (evS c .brk)) := PS_imp ps_break fun D σ H ⟨W, ρ, so, en, p⟩ => p σ W H rfl Ext.refl so en
theorem s_cnt {pos : Pos} : PS X (.Continue pos) (tS G WX (evS c .cnt)) := PS_imp ps_continue fun D σ H ⟨W, ρ, so, en, p⟩ => p σ W H rfl Ext.refl so en
theorem s_pass {pos : Pos} : PS X (.Pass pos) (tS G WX (evS c .pass)) := PS_imp ps_pass fun D σ H ⟨W, ρ, so, en, p⟩ => p σ W H rfl Ext.refl so en
theorem s_doc {x j pos pos'} : PS X (.Expr (.Constant (.str x) j pos) pos') (tS G WX (evS c .doc)) := PS_imp ps_doc fun D σ H ⟨W, ρ, so, en, p⟩ => p σ W H rfl Ext.refl so en
/-- a test's outcome goes on -/
theorem asB_then {r : R T} {ρ : Fm} {a b : Sto → RS} : (r.then_ ρ fun t st => match t with | .bl true => a st | .bl false => b st | _ => .bad) = (asB r).then_ ρ fun k st => if k = true then a st else b st := by
  cases r with
  | ok t st =>
    cases t with
    | bl k => cases k <;> rfl
    | _ => rfl
  | exc k xs st => rfl
  | bad => rfl
theorem s_ife {t : E} {a b : Ss} {xt : Expr} {xa xb : List Stmt} {pos : Pos} (ht : PT X xt (tT G WX (evE c t))) (ha : PSs X xa (tS G WX (evSs c a))) (hb : PSs X xb (tS G WX (evSs c b))) : PS X (.If xt xa xb pos) (tS G WX (evS c (.ife t a b))) :=
  PS_imp (ps_if ht ha hb) fun D σ H ⟨W, ρ, so, en, p⟩ => by
    have p' : PostS G WX D W H ((evE c t ρ W.st).then_ ρ fun x st => match x with | .bl true => evSs c a ρ st | .bl false => evSs c b ρ st | _ => .bad) := p
    rw [asB_then] at p'
    exact ⟨W, ρ, so, en, Post.imp (PostS.thn (Rl := REq Bool) so en p') (fun v H1 ⟨W1, k, x1, s1, r1, p1⟩ => by
      have r1' : v = k := r1
      subst r1'
      cases v with
      | true =>
        rw [if_pos rfl] at p1 ⊢
        exact ⟨W1, ρ, s1, en.mv x1, p1⟩
      | false =>
        rw [if_neg (by decide)] at p1 ⊢
        exact ⟨W1, ρ, s1, en.mv x1, p1⟩) fun _ _ _ h => h⟩
/-- what stands at the loop's end -/
theorem PostS.loop {D : Ends} {W : Wd} {H : Hp} {r : RS} {N : L2.St → Hp → Prop} {k : Fm → Sto → RS} (s : StOk G.K W H)
    (hN : ∀ σ' W' H' ρ', StOk G.K W' H' → EnvR G.K W' H' σ' ρ' → Ext W H W' H' → PostS G WX D W' H' (k ρ' W'.st) → N σ' H')
    (p : PostS G WX D W H (match r with | .nx ρ st => k ρ st | .cnt ρ st => k ρ st | .brk ρ st => .nx ρ st | r => r)) : PostS G WX { D with nx := N, ct := N, bk := D.nx } W H r := by
  cases r with
  | nx ρ st => exact fun σ W' H' e x s' en => hN σ W' H' ρ s' en x (e ▸ PostS.shift s x p)
  | cnt ρ st => exact fun σ W' H' e x s' en => hN σ W' H' ρ s' en x (e ▸ PostS.shift s x p)
  | brk ρ st => exact p
  | ret t st => exact p
  | exc k' xs ρ st => exact p
  | bad => exact p
theorem s_whl {t : E} {a : Ss} {xt : Expr} {xa : List Stmt} {pos : Pos} (hp : PassesOwn (model X.prog X.w) X.A X.env X.xe) (ht : PT X xt (tT G WX (evE c t))) (ha : PSs X xa (tS G WX (evSs c a))) : PS X (.While xt xa [] pos) (tS G WX (evS c (.whl t a))) :=
  PS_imp (ps_while hp ht ha) fun D σ H ⟨W, ρ, so, en, p⟩ => by
    refine ⟨fun m σ H => ∃ W ρ, StOk G.K W H ∧ EnvR G.K W H σ ρ ∧ PostS G WX D W H (whlGo (evE c t) (evSs c a) m ρ W.st), ⟨whlMost, W, ρ, so, en, p⟩, ?_⟩
    rintro m σ H ⟨W, ρ, so, en, p⟩
    cases m with
    | zero => exact p.elim
    | succ m =>
      have p' : PostS G WX D W H ((evE c t ρ W.st).then_ ρ fun x st => match x with | .bl true => (match evSs c a ρ st with | .nx ρ st => whlGo (evE c t) (evSs c a) m ρ st | .cnt ρ st => whlGo (evE c t) (evSs c a) m ρ st | .brk ρ st => .nx ρ st | r => r) | .bl false => .nx ρ st | _ => .bad) := p
      rw [asB_then (a := fun st => match evSs c a ρ st with | .nx ρ st => whlGo (evE c t) (evSs c a) m ρ st | .cnt ρ st => whlGo (evE c t) (evSs c a) m ρ st | .brk ρ st => .nx ρ st | r => r) (b := fun st => .nx ρ st)] at p'
      refine ⟨W, ρ, so, en, Post.imp (PostS.thn (Rl := REq Bool) so en p') (fun v H1 ⟨W1, k, x1, s1, r1, p1⟩ => ?_) fun _ _ _ h => h⟩
      have r1' : v = k := r1
      subst r1'
      cases v with
      | true =>
        rw [if_pos rfl] at p1 ⊢
        refine ⟨fun σ H => ∃ W ρ, StOk G.K W H ∧ EnvR G.K W H σ ρ ∧ PostS G WX D W H (whlGo (evE c t) (evSs c a) m ρ W.st), fun σ' H' h => ⟨m, Nat.lt_succ_self m, h⟩, W1, ρ, s1, en.mv x1, ?_⟩
        exact PostS.loop (k := whlGo (evE c t) (evSs c a) m) s1 (fun σ' W' H' ρ' s' en' _ q => ⟨W', ρ', s', en', q⟩) p1
      | false =>
        rw [if_neg (by decide)] at p1 ⊢
        exact p1 σ W1 H1 rfl Ext.refl s1 (en.mv x1)
theorem s_for {p : Pt} {it : Lm.It} {a : Ss} {tg xi : Expr} {xa : List Stmt} {pos : Pos} (hp : PassesOwn (model X.prog X.w) X.A X.env X.xe) (hc : X.calm = true) (hi : PI X tg xi (tI G WX (evIt c it))) (hg : PG X tg (gT G p.slots (asgP p))) (ha : PSs X xa (tS G WX (evSs c a)))
    (hs : ∀ x, foldedSetIterable xi X.env x = pure x) : PS X (.For tg xi xa [] pos) (tS G WX (evS c (.for_ p it a))) :=
  PS_imp (ps_for hp hc hi hg ha hs) fun D σ H ⟨W, ρ, so, en, pp⟩ => by
    refine ⟨W, ρ, so, en, Post.imp (PostS.thn (Rl := RW G) so en pp) (fun J H1 ⟨W1, w, x1, s1, yl, p1⟩ => ?_) fun _ _ _ h => h⟩
    let go : List T → Fm → Sto → RS := forGo (asgP p) (evSs c a) (fun st' => sameSrc W1.st st' w.src)
    let Inv : Nat → L2.St → Hp → Prop := fun i σ H => ∃ W ρ, StOk G.K W H ∧ EnvR G.K W H σ ρ ∧ Ext W1 H1 W H ∧ sameSrc W1.st W.st w.src = true ∧ PostS G WX D W H (go (w.xs.drop i) ρ W.st)
    refine ⟨fun i m σ H => m = w.xs.length - i ∧ i ≤ w.xs.length ∧ Inv i σ H, ⟨_, rfl, Nat.zero_le _, W1, ρ, s1, en.mv x1, Ext.refl, yl.self, p1⟩, ?_⟩
    rintro i m σ Hc ⟨rfl, hi, Wc, ρc, sc, enc, xc, hss, pc⟩
    by_cases hlt : i < w.xs.length
    · right
      obtain ⟨g1, g2⟩ := yl.go Wc Hc i hlt xc sc hss
      have hdrop : w.xs.drop i = w.xs[i] :: w.xs.drop (i + 1) := List.drop_eq_getElem_cons hlt
      refine ⟨g1, Inv (i + 1), fun σ' H' h => ⟨w.xs.length - (i + 1), by omega, rfl, hlt, h⟩, fun y H' hy => ?_⟩
      obtain ⟨Wy, ey, xy, sy, ry⟩ := g2 y H' hy
      rw [hdrop] at pc
      have pc1 := PostS.shift sc xy pc
      have pc' : PostS G WX D Wy H' (match asgP p w.xs[i] ρc with | none => .bad | some ρ => match evSs c a ρ Wc.st with
        | .nx ρ st => if sameSrc W1.st st w.src then go (w.xs.drop (i + 1)) ρ st else .bad
        | .cnt ρ st => if sameSrc W1.st st w.src then go (w.xs.drop (i + 1)) ρ st else .bad
        | .brk ρ st => .nx ρ st
        | r => r) := pc1
      cases hasg : asgP p w.xs[i] ρc with
      | none => rw [hasg] at pc'; exact pc'.elim
      | some ρ2 =>
        rw [hasg] at pc'
        refine ⟨Wy, ρc, w.xs[i], ρ2, sy, enc.mv xy, ry, hasg, fun σ2 en2 _ => ⟨Wy, ρ2, sy, en2, ?_⟩⟩
        rw [ey]
        refine PostS.loop (k := fun ρ st => if sameSrc W1.st st w.src then go (w.xs.drop (i + 1)) ρ st else .bad) sy (fun σ' W' H2 ρ' s' en' x' q => ?_) pc'
        cases hq : sameSrc W1.st W'.st w.src with
        | true => 
          rw [hq, if_pos rfl] at q
          exact ⟨W', ρ', s', en', (xc.trans s1 xy).trans s1 x', hq, q⟩
        | false => rw [hq, if_neg (by decide)] at q; exact q.elim
    · left
      have hi' : w.xs.length ≤ i := by omega
      rw [List.drop_eq_nil_of_le hi'] at pc
      exact ⟨yl.stop Wc Hc i hi' xc sc hss, pc σ Wc Hc rfl Ext.refl sc enc⟩
theorem ss_nil : PSs X [] (tS G WX (evSs c .nil)) := PSs_imp pss_nil fun D σ H ⟨W, ρ, so, en, p⟩ => p σ W H rfl Ext.refl so en
theorem ss_cons {s : S} {ss : Ss} {st : Stmt} {rest : List Stmt} (h1 : PS X st (tS G WX (evS c s))) (h2 : PSs X rest (tS G WX (evSs c ss))) : PSs X (st :: rest) (tS G WX (evSs c (.cons s ss))) :=
  PSs_imp (pss_cons h1 h2) fun D σ H ⟨W, ρ, so, en, p⟩ => by
    refine ⟨W, ρ, so, en, ?_⟩
    have p' : PostS G WX D W H (match evS c s ρ W.st with | .nx ρ st => evSs c ss ρ st | r => r) := p
    cases hr : evS c s ρ W.st with
    | nx ρ' st' =>
      rw [hr] at p'
      exact fun σ' W' H' e x s' en' => ⟨W', ρ', s', en', e ▸ PostS.shift so x p'⟩
    | ret t st => rw [hr] at p'; exact p'
    | brk ρ st => rw [hr] at p'; exact p'
    | cnt ρ st => rw [hr] at p'; exact p'
    | exc k xs ρ st => rw [hr] at p'; exact p'
    | bad => rw [hr] at p'; exact p'
theorem set_self {α : Type} : ∀ {l : List α} {i : Nat} {x : α}, l[i]? = some x → l.set i x = l
  | [], _, _, h => by simp at h
  | _ :: _, 0, _, h => by simp at h; subst h; rfl
  | _ :: l, i + 1, x, h => by
    rw [List.set_cons_succ, set_self (l := l) (by simpa using h)]
theorem ss_frz {i : Nat} {ss : Ss} {rest : List Stmt} (h2 : PSs X rest (tS G WX (evSs c ss))) : PSs X rest (tS G WX (evSs c (.cons (.frz i) ss))) :=
  PSs_imp h2 fun D σ H ⟨W, ρ, so, en, p⟩ => by
    have p' : PostS G WX D W H (match evS c (.frz i) ρ W.st with | .nx ρ st => evSs c ss ρ st | r => r) := p
    have key : evS c (.frz i) ρ W.st = .bad ∨ ∃ n ts, ρ[i]? = some (some (.obj n)) ∧ W.st[n]? = some (.lst ts) ∧ evS c (.frz i) ρ W.st = .nx (ρ.set i (some (.lst ts))) (W.st.set n .dead) := by
      unfold evS
      split
      · rename_i n hn
        split
        · rename_i ts e
          exact .inr ⟨n, ts, hn, e, rfl⟩
        · exact .inl rfl
      · exact .inl rfl
    rcases key with hb | ⟨n, ts, hn, e, hr⟩
    · rw [hb] at p'; exact p'.elim
    · rw [hr] at p'
      obtain ⟨x2, s2, r2⟩ := frz_ok so e
      obtain ⟨v, h1, h3⟩ := en.2 i _ hn
      obtain ⟨rfl, _⟩ := obj_of h3
      have en2 := (en.mv x2).set r2 i
      rw [set_self h1] at en2
      exact ⟨_, _, s2, en2, PostS.shift so x2 p'⟩
end
end Lm
/-! isinstance; list(range(..)). -/
namespace Lm
open PySem PySem.Spec PyProof.Rows L2
section
variable {X : Cx} {G : Gx} {WX : L2.WX} {c : Cf}
theorem tyIs_plain {st : Sto} {ty : Ty} {t : T} {b : Bool} (h : tyIs st ty t = some b) : (∀ n, deref st t ≠ .obj n) ∧ ∀ n ts, deref st t ≠ .exc n ts := by
  unfold tyIs at h
  constructor
  · intro n e; rw [e] at h; cases h
  · intro n ts e; rw [e] at h; cases h
theorem r_is1 {a : E} {ty : Ty} {n : String} {x : Str} {xa : Expr} {p p2 pos : Pos} (hK : X.K = G.K) (hn : tyNames ty = [n]) (hg : Gl X "isinstance") (hm : X.mg "isinstance" = none) (ha : PE X xa (tE G WX (evE c a))) (ns : notStar xa = true)
    (hg2 : Gl X x) (hm2 : X.mg x = none) (hv : bootBuiltins x = some (.type n)) (hx : x ≠ "__name__") (hd : (x == ("__debug__" : Str)) = false) : PE X (.Call (.Name "isinstance" p) [xa, .Name x p2] [] pos) (tE G WX (evE c (.isI a ty))) :=
  PE_imp (pe_callB call_isi hg hm boot_isinstance (pa_cons ha (pa_cons (pe_bltn hg2 hm2 hv (v := .ty n) rfl hx hd) pa_nil rfl) (starEach_cons ns)) (by decide) (by decide) (starEach_cons ns) (plain_star rfl)) fun σ H Q ⟨W, ρ, so, en, p⟩ =>
    ⟨W, ρ, so, en, Post.imp (Post.bnd (Rl := RT G) so p) (fun v H1 ⟨W1, t, x1, s1, r1, p1⟩ => by
      obtain ⟨z, e, h⟩ := Post.lift p1
      cases et : tyIs W1.st ty t with
      | none => rw [et] at e; cases e
      | some b =>
        rw [et] at e
        cases e
        obtain ⟨q1, q2⟩ := tyIs_plain et
        refine ⟨v, .ty n, _, .type n, b, rfl, .ty n, ?_, kit_one et hn, h _ W1 H1 rfl Ext.refl s1 (.bl b)⟩
        rw [hK]; exact tyX_of s1 r1 q1 q2) fun _ _ _ h => h⟩
theorem r_is2 {a : E} {ty : Ty} {n m : String} {x y : Str} {xa : Expr} {k : Nat} {p p2 p3 p4 pos : Pos} (hK : X.K = G.K) (hn : tyNames ty = [n, m]) (hg : Gl X "isinstance") (hm : X.mg "isinstance" = none) (ha : PE X xa (tE G WX (evE c a))) (ns : notStar xa = true)
    (hg2 : Gl X x) (hm2 : X.mg x = none) (hv : bootBuiltins x = some (.type n)) (hx : x ≠ "__name__") (hd : (x == ("__debug__" : Str)) = false)
    (hg3 : Gl X y) (hm3 : X.mg y = none) (hv3 : bootBuiltins y = some (.type m)) (hx3 : y ≠ "__name__") (hd3 : (y == ("__debug__" : Str)) = false) : PE X (.Call (.Name "isinstance" p) [xa, .Tuple [.Name x p2, .Name y p3] k p4] [] pos) (tE G WX (evE c (.isI a ty))) :=
  PE_imp (pe_callB call_isiT hg hm boot_isinstance (pa_cons ha (pa_cons (pe_tup (pa_cons (pe_bltn hg2 hm2 hv (v := .ty n) rfl hx hd) (pa_cons (pe_bltn hg3 hm3 hv3 (v := .ty m) rfl hx3 hd3) pa_nil rfl) rfl)) pa_nil rfl) (starEach_cons ns)) (by decide) (by decide) (starEach_cons ns) (plain_star rfl)) fun σ H Q ⟨W, ρ, so, en, p⟩ =>
    ⟨W, ρ, so, en, Post.imp (Post.bnd (Rl := RT G) so p) (fun v H1 ⟨W1, t, x1, s1, r1, p1⟩ => by
      obtain ⟨z, e, h⟩ := Post.lift p1
      cases et : tyIs W1.st ty t with
      | none => rw [et] at e; cases e
      | some b =>
        rw [et] at e
        cases e
        obtain ⟨q1, q2⟩ := tyIs_plain et
        refine ⟨show 2 ≤ sizeLine by decide, fun tp htp => ?_⟩
        have x2 := Ext.new (W := W1) (o := .tup [V.ty n, V.ty m]) htp s1.lh
        have s2 := s1.new (o := .tup [V.ty n, V.ty m]) htp
        refine ⟨v, tp, [.ty n, .ty m], _, [.type n, .type m], b, rfl, upd_same, .cons (.ty n) (.cons (.ty m) .nil), ?_, kit_two et hn, h _ W1 _ rfl x2 s2 (.bl b)⟩
        rw [hK]; exact tyX_of s2 (r1.mv x2) q1 q2) fun _ _ _ h => h⟩
theorem rgV_reps {K : PySem.W.Frag} {W : Wd} {H : Hp} {i j : Int} : Reps K W H (rgV i j) (rngF i (j - i).toNat) := by
  unfold rgV rngF
  induction List.range (j - i).toNat with
  | nil => exact .nil
  | cons k r ih => exact .cons (.int _) ih
theorem inR_b {i : Int} (h : inR i = true) : -(2 ^ 62) ≤ i ∧ i < 2 ^ 62 := by simpa [inR] using h
theorem f_rng1 {a : E} {xa : Expr} {p p2 pos pos2 : Pos} (hc : X.calm = true) (hg : Gl X "list") (hm : X.mg "list" = none) (hg2 : Gl X "range") (hm2 : X.mg "range" = none) (ha : PE X xa (tE G WX (evE c a))) (ns : notStar xa = true) :
    PE X (.Call (.Name "list" p) [.Call (.Name "range" p2) [xa] [] pos2] [] pos) (tF G WX (evL c (.ofRng a))) :=
  PE_imp (pe_listRg hc hg hm (prg_1 hg2 hm2 ha (starEach_cons ns)) rfl) fun σ H Q ⟨W, ρ, so, en, p⟩ =>
    ⟨W, ρ, so, en, Post.imp (Post.bnd (Rl := RT G) so p) (fun v H1 ⟨W1, t, x1, s1, r1, p1⟩ => by
      split at p1
      · rename_i j
        split at p1
        · rename_i hj
          cases r1
          obtain ⟨b1, b2⟩ := inR_b hj.1
          refine ⟨j, rfl, ⟨by decide, by decide, b1, b2, by rw [Int.sub_zero]; exact hj.2⟩, fun q hq => ?_⟩
          exact Post.fresh (xs := rgV 0 j) so x1 s1 p1 (by have := rgV_reps (K := G.K) (W := W1) (H := H1) (i := 0) (j := j); rwa [Int.sub_zero] at this) hq
        · exact p1.elim
      · exact p1.elim) fun _ _ _ h => h⟩
theorem f_rng2 {a b : E} {xa xb : Expr} {p p2 pos pos2 : Pos} (hc : X.calm = true) (hg : Gl X "list") (hm : X.mg "list" = none) (hg2 : Gl X "range") (hm2 : X.mg "range" = none) (ha : PE X xa (tE G WX (evE c a))) (hb : PE X xb (tE G WX (evE c b))) (ns : notStar xa = true) (ns2 : notStar xb = true) :
    PE X (.Call (.Name "list" p) [.Call (.Name "range" p2) [xa, xb] [] pos2] [] pos) (tF G WX (evL c (.ofRng2 a b))) :=
  PE_imp (pe_listRg hc hg hm (prg_2 hg2 hm2 ha hb (starEach_cons ns) (starEach_cons ns2) (plain_star (by simpa using ns2))) rfl) fun σ H Q ⟨W, ρ, so, en, p⟩ =>
    ⟨W, ρ, so, en, Post.imp (Post.bnd (Rl := RT G) so p) (fun v H1 ⟨W1, t, x1, s1, r1, p1⟩ =>
      ⟨W1, ρ, s1, en.mv x1, Post.imp (Post.bnd (Rl := RT G) s1 p1) (fun v2 H2 ⟨W2, t2, x2, s2, r2, p2⟩ => by
        cases t <;> try exact p2.elim
        rename_i i _
        cases t2 <;> try exact p2.elim
        rename_i j
        cases r1
        cases r2
        have p3 : Post G (RF G H) W2 H2 Q (fun cls d H' => WX cls d σ H') (if inR i ∧ inR j ∧ (j - i).toNat ≤ 2 ^ 24 then .ok (rngF i (j - i).toNat) W2.st else .bad) := p2
        split at p3
        · rename_i hj
          obtain ⟨b1, b2⟩ := inR_b hj.1
          obtain ⟨b3, b4⟩ := inR_b hj.2.1
          refine ⟨i, j, rfl, rfl, ⟨b1, b2, b3, b4, hj.2.2⟩, fun q hq => ?_⟩
          exact Post.fresh (xs := rgV i j) so (x1.trans so x2) s2 p3 rgV_reps hq
        · exact p3.elim) fun _ _ _ h => h⟩) fun _ _ _ h => h⟩
end
end Lm
/-! len(set(..)) of ints. -/
namespace Lm
open PySem PySem.Spec PyProof.Rows L2

theorem sub_len {α : Type} [DecidableEq α] : ∀ {l D : List α}, l.Nodup → (∀ x ∈ l, x ∈ D) → l.length ≤ D.length
  | [], _, _, _ => Nat.zero_le _
  | x :: l, D, nd, h => by
    have hx := h x List.mem_cons_self
    have nd' := List.nodup_cons.mp nd
    have := sub_len (l := l) (D := D.erase x) nd'.2 fun y hy => (List.mem_erase_of_ne (fun e => nd'.1 (by rw [← e]; exact hy))).mpr (h y (List.mem_cons_of_mem _ hy))
    rw [List.length_erase_of_mem hx] at this
    have pos : 0 < D.length := List.length_pos_of_mem hx
    simp only [List.length_cons]
    omega
theorem same_len {α : Type} [DecidableEq α] {l D : List α} (h1 : l.Nodup) (h2 : D.Nodup) (h : ∀ x, x ∈ l ↔ x ∈ D) : l.length = D.length :=
  Nat.le_antisymm (sub_len h1 fun x hx => (h x).mp hx) (sub_len h2 fun x hx => (h x).mpr hx)
theorem mem_dedup {α : Type} [DecidableEq α] {x : α} : ∀ {l : List α}, x ∈ dedup l ↔ x ∈ l
  | [] => Iff.rfl
  | y :: l => by
    unfold dedup
    split
    · rename_i hy
      rw [mem_dedup (l := l), List.mem_cons]
      exact ⟨.inr, fun h => h.elim (fun e => e ▸ hy) id⟩
    · rw [List.mem_cons, List.mem_cons, mem_dedup (l := l)]
theorem nodup_dedup {α : Type} [DecidableEq α] : ∀ (l : List α), (dedup l).Nodup
  | [] => List.nodup_nil
  | y :: l => by
    unfold dedup
    split
    · exact nodup_dedup l
    · rename_i hy
      exact List.nodup_cons.mpr ⟨fun h => hy (mem_dedup.mp h), nodup_dedup l⟩
theorem firstMet_mem (f : Nat → Int) (k : Int) : ∀ n, k ∈ firstMet f n ↔ k ∈ (List.range n).map f := fun n => by
  have := firstMet_any f n k
  rw [Bool.eq_iff_iff] at this
  simpa using this
theorem firstMet_nodup (f : Nat → Int) : ∀ n, (firstMet f n).Nodup
  | 0 => List.nodup_nil
  | n + 1 => by
    rw [firstMet_succ]
    unfold step_dedup
    split
    · exact firstMet_nodup f n
    · rename_i h
      have h' : f n ∉ firstMet f n := by simpa using h
      exact List.nodup_append.mpr ⟨firstMet_nodup f n, by simp, fun a ha b hb => by
        have : b = f n := by simpa using hb
        subst this
        exact fun e => h' (e ▸ ha)⟩
theorem range_getD (ns : List Int) : (List.range ns.length).map (fun i => ns.getD i 0) = ns := by
  apply List.ext_getElem
  · simp
  · intro i h1 h2
    simp [List.getD, h2]
theorem ints_vals : ∀ {ns : List Int} {us : List Value}, Vals (ns.map V.int) us → IntsAre us ns
  | [], _, .nil => .nil
  | n :: ns, _, .cons ⟨t, e⟩ r => by
    subst e
    exact .cons n t (ints_vals r)
section
variable {X : Cx} {G : Gx} {WX : L2.WX} {c : Cf}
theorem biF_lenSet (st : Sto) (t : T) : biF st .lenSet [t] = match deref st t with
    | .lst ys => (lenSetT ys).map T.int
    | .tup ys => (lenSetT ys).map T.int
    | _ => none := rfl
theorem lenSetT_some {ts : List T} {z : Int} (h : lenSetT ts = some z) : ∃ ns, ts = ns.map T.int ∧ ns.length < 4000 ∧ z = ((dedup ns).length : Int) := by
  unfold lenSetT at h
  split at h
  · rename_i hl
    split at h
    · rename_i ns e
      cases h
      have := allI_some e
      subst this
      exact ⟨ns, rfl, by simpa using hl, rfl⟩
    · cases h
  · cases h
theorem r_lenSet {a : E} {xa : Expr} {p p2 q pos : Pos} (hK : X.K = G.K) (hc : X.calm = true) (hg : Gl X "len") (hm : X.mg "len" = none) (hg2 : Gl X "set") (hm2 : X.mg "set" = none) (ha : PE X xa (tE G WX (evE c a))) (ns : notStar xa = true) :
    PE X (.Call (.Name "len" p) [.Call (.Name "set" p2) [xa] [] q] [] pos) (tE G WX (evE c (.bi .lenSet (.cons a .nil)))) := by
  have na : starEach [xa] X.env = (false, eval xa X.env) :: starEach [] X.env := starEach_cons ns
  refine ⟨fun pins s σ H Q I ⟨W, ρ, so, en, pp⟩ => ?_⟩
  have p' : Post G (RT G) W H Q (fun cls d H' => WX cls d σ H') ((evEs c (.cons a .nil) ρ W.st).bnd fun ts st => R.lift (biF st .lenSet ts) st) := pp
  rw [evEs_one, bnd_assoc] at p'
  refine Call_ (ld_blt I hg hm boot_len ?_)
  refine PyProof.Rows.callWith_builtin1 (PyProof.Rows.args_cons ?_ rfl) rfl rfl
  refine Call_ (ld_blt I hg2 hm2 boot_set ?_)
  refine PyProof.Rows.callWith_type1 (PyProof.Rows.args_cons (thn (ha.run pins s σ H _ I ⟨W, ρ, so, en, Post.bnd (Rl := RT G) so p'⟩) fun v s1 ⟨x, H1, I1, r1, W1, t, x1, s1', rt, p1⟩ => PyProof.Rows.args_nil ?_) na) na rfl
  obtain ⟨z, ez, hz⟩ := Post.lift p1
  have fin : ∀ (n : Nat) (h' : Heap) (tk : Nat) (o : Obj) (es : Array (Int × Value)) (ep : Nat) (t : SetTable), h'.get? s1.heap.objs.size = some o → o.ExactSet → o.data = .set es ep t → t.fits es.size = true → es.size = n → n < 4000 → z = .int n →
      (∀ b o, s1.heap.get? b = some o → h'.get? b = some o) →
      wpAny (model X.prog X.w) X.A (spliced (backTo pos (starEach [] X.env))) (fun vs s₂ => wpAny (model X.prog X.w) X.A (call (.builtin "len") (Value.ref s1.heap.objs.size :: vs)) (EP X pins σ Q) X.xe s₂) X.xe { s1 with heap := h', toks := tk } := fun n h' tk o es ep t ho hex hd hf hn hl ezn hk => by
    refine PyProof.Rows.args_nil ?_
    have I2 : Inv X pins σ H1 { s1 with heap := h', toks := tk } := I1.kept fun b o e => hk b o e
    refine call_len_set ho hex hd hf (by rw [hn]; omega) ⟨.int n, H1, I2.tok _, ⟨_, by rw [hn]⟩, ?_⟩
    subst ezn
    exact hz (.int n) W1 H1 rfl Ext.refl s1' (.int n)
  cases hd : deref W1.st t with
  | lst ys =>
    have ez' : (lenSetT ys).map T.int = some z := by
      have : biF W1.st .lenSet [t] = some z := ez
      rw [biF_lenSet, hd] at this
      exact this
    cases el : lenSetT ys with
    | none => rw [el] at ez'; cases ez'
    | some k =>
      rw [el] at ez'
      cases ez'
      obtain ⟨ns, rfl, hl, rfl⟩ := lenSetT_some el
      obtain ⟨b, xs, rfl, hb, hr⟩ := s1'.lst rt hd
      cases Reps.ints_inv hr
      cases r1
      obtain ⟨its, rv, pl, hzz⟩ := I1.list (SqL.of hb)
      have ia := ints_vals rv
      have hsz : its.toArray.size = ns.length := by rw [List.size_toArray, ia.length]
      refine call_set_list (I1.ok.hd hc) pl.isList (by simpa using ia) (by rw [hsz]; show ns.length + 1 < 4096; omega) fun h' tk hS hk => ?_
      obtain ⟨o, es, ep, t2, ho, hex, hdt, _, _, _, hf, hn⟩ := hS
      have hlen : (firstMet (fun i => ns.getD i 0) its.toArray.size).length = (dedup ns).length := by
        rw [hsz]
        refine same_len (firstMet_nodup _ _) (nodup_dedup _) fun x => ?_
        rw [firstMet_mem, range_getD, mem_dedup]
      have hle : (dedup ns).length ≤ ns.length := sub_len (nodup_dedup _) fun x hx => mem_dedup.mp hx
      exact fin _ h' tk o es ep t2 ho hex hdt hf (hn.trans hlen) (by omega) rfl fun b o e => hk b o (Heap.lt_size e) e
  | tup ys =>
    have ez' : (lenSetT ys).map T.int = some z := by
      have : biF W1.st .lenSet [t] = some z := ez
      rw [biF_lenSet, hd] at this
      exact this
    cases el : lenSetT ys with
    | none => rw [el] at ez'; cases ez'
    | some k =>
      rw [el] at ez'
      cases ez'
      obtain ⟨ns, rfl, hl, rfl⟩ := lenSetT_some el
      obtain ⟨b, xs, rfl, hb, hr⟩ := s1'.tup rt hd
      cases Reps.ints_inv hr
      cases r1
      obtain ⟨its, rv, pl, hzz⟩ := I1.tuple (hK ▸ hb.sq)
      have ia := ints_vals rv
      refine call_set_tupI ns (I1.ok.hd hc) pl (by simpa using ia) (by show ns.length + 1 < 4096; omega) fun h' tk c' hS hle hk => ?_
      obtain ⟨o, es, ep, t2, ho, hex, hdt, _, hnd, hmem, _, hf, hn, _⟩ := hS
      have hlen : c' = (dedup ns).length := by
        rw [← hn]
        have : es.size = (es.toList.map L2.keyOf).length := by simp
        rw [this]
        refine same_len hnd (nodup_dedup _) fun x => ?_
        rw [← hmem, mem_dedup, decide_eq_true_eq]
      exact fin _ h' tk o es ep t2 ho hex hdt hf (hn.trans hlen) (by omega) rfl hk
  | _ =>
    exfalso
    have : biF W1.st .lenSet [t] = some z := ez
    rw [biF_lenSet, hd] at this
    cases this
end
end Lm
/-! sorted(..): ints, tuples of ints and texts; of a list or a tuple. -/
namespace Lm
open PySem PySem.Spec PyProof.Rows L2

/-! ### strict total orders -/
structure TO {α : Type} (lt : α → α → Bool) : Prop where
  irr : ∀ x, lt x x = false
  tr : ∀ x y z, lt x y = true → lt y z = true → lt x z = true
  tri : ∀ x y, lt x y = true ∨ x = y ∨ lt y x = true
theorem TO.asym {α : Type} {lt : α → α → Bool} (O : TO lt) {x y : α} (h : lt x y = true) : lt y x = false := by
  cases e : lt y x with
  | false => rfl
  | true => have := O.tr x y x h e; rw [O.irr] at this; cases this
theorem TO.anti {α : Type} {lt : α → α → Bool} (O : TO lt) {x y : α} (h1 : lt x y = false) (h2 : lt y x = false) : x = y := by
  rcases O.tri x y with h | h | h
  · rw [h1] at h; cases h
  · exact h
  · rw [h2] at h; cases h
theorem TO.swo {α β : Type} {lt : α → α → Bool} (O : TO lt) (f : β → α) : SrtO.Swo (fun v u => lt (f v) (f u)) :=
  ⟨fun x y h => O.asym h, fun x y z h1 h2 => by
    cases e : lt (f z) (f x) with
    | false => rfl
    | true =>
      exfalso
      rcases O.tri (f x) (f y) with h | h | h
      · have := O.tr _ _ _ e h; rw [h2] at this; cases this
      · rw [h] at e; rw [h2] at e; cases e
      · rw [h1] at h; cases h⟩
theorem to_int : TO (fun i j : Int => decide (i < j)) := ⟨fun x => by simp, fun x y z h1 h2 => by simp at *; omega, fun x y => by simp; omega⟩
theorem to_key : TO kLt := by
  refine ⟨fun x => ?_, fun x y z h1 h2 => ?_, fun x y => ?_⟩
  · cases x with
    | inl i => exact to_int.irr i
    | inr s => exact decide_eq_false (List.lt_irrefl _)
  · cases x <;> cases y <;> cases z <;> first | rfl | (cases h1; done) | (cases h2; done) | exact to_int.tr _ _ _ h1 h2 | exact decide_eq_true (List.lt_trans (of_decide_eq_true h1) (of_decide_eq_true h2))
  · cases x <;> cases y
    · rcases to_int.tri _ _ with h | h | h
      · exact .inl h
      · exact .inr (.inl (congrArg _ h))
      · exact .inr (.inr h)
    · exact .inl rfl
    · exact .inr (.inr rfl)
    · rename_i a b
      by_cases h1 : a.cps.toList < b.cps.toList
      · exact .inl (decide_eq_true h1)
      · by_cases h2 : b.cps.toList < a.cps.toList
        · exact .inr (.inr (decide_eq_true h2))
        · refine .inr (.inl ?_)
          have : a.cps.toList = b.cps.toList := List.le_antisymm h2 h1
          obtain ⟨⟨x⟩⟩ := a
          obtain ⟨⟨y⟩⟩ := b
          simp at this
          subst this
          rfl
theorem to_keys : TO ksLt := by
  refine ⟨fun x => ?_, fun x => ?_, fun x => ?_⟩
  · induction x with
    | nil => rfl
    | cons k ks ih => unfold ksLt; rw [if_pos rfl]; exact ih
  · induction x with
    | nil =>
      intro y z h1 h2
      cases y with
      | nil => cases h1
      | cons _ _ => cases z with
        | nil => cases h2
        | cons _ _ => rfl
    | cons k ks ih =>
      intro y z h1 h2
      cases y with
      | nil => cases h1
      | cons l ls =>
        cases z with
        | nil => cases h2
        | cons m ms =>
          unfold ksLt at h1 h2 ⊢
          by_cases e1 : k = l
          · subst e1
            rw [if_pos rfl] at h1
            by_cases e2 : k = m
            · subst e2
              rw [if_pos rfl] at h2 ⊢
              exact ih ls ms h1 h2
            · rw [if_neg e2] at h2 ⊢
              exact h2
          · rw [if_neg e1] at h1
            by_cases e2 : l = m
            · subst e2
              rw [if_neg e1]; exact h1
            · rw [if_neg e2] at h2
              have h3 := to_key.tr _ _ _ h1 h2
              by_cases e3 : k = m
              · subst e3; rw [to_key.irr] at h3; cases h3
              · rw [if_neg e3]; exact h3
  · induction x with
    | nil =>
      intro y
      cases y with
      | nil => exact .inr (.inl rfl)
      | cons _ _ => exact .inl rfl
    | cons k ks ih =>
      intro y
      cases y with
      | nil => exact .inr (.inr rfl)
      | cons l ls =>
        unfold ksLt
        by_cases e1 : k = l
        · subst e1
          rw [if_pos rfl, if_pos rfl]
          rcases ih ls with h | h | h
          · exact .inl h
          · exact .inr (.inl (by rw [h]))
          · exact .inr (.inr h)
        · rw [if_neg e1, if_neg (fun e => e1 e.symm)]
          rcases to_key.tri k l with h | h | h
          · exact .inl h
          · exact absurd h e1
          · exact .inr (.inr h)
def Sd {α : Type} (lt : α → α → Bool) (l : List α) : Prop := l.Pairwise fun x y => lt y x = false
theorem ins_perm {α : Type} (lt : α → α → Bool) (x : α) : ∀ l : List α, (ins lt x l).Perm (x :: l)
  | [] => List.Perm.refl _
  | y :: l => by
    unfold ins
    split
    · exact ((ins_perm lt x l).cons y).trans (List.Perm.swap x y l)
    · exact List.Perm.refl _
theorem isort_perm {α : Type} (lt : α → α → Bool) : ∀ l : List α, (isort lt l).Perm l
  | [] => List.Perm.refl _
  | x :: l => (ins_perm lt x _).trans ((isort_perm lt l).cons x)
theorem ins_sd {α : Type} {lt : α → α → Bool} (O : TO lt) (x : α) : ∀ {l : List α}, Sd lt l → Sd lt (ins lt x l)
  | [], _ => List.pairwise_singleton _ _
  | y :: l, h => by
    have h' := List.pairwise_cons.mp h
    unfold ins
    split
    · rename_i hy
      refine List.pairwise_cons.mpr ⟨fun z hz => ?_, ins_sd O x h'.2⟩
      rcases List.mem_cons.mp ((ins_perm lt x l).mem_iff.mp hz) with rfl | hz
      · exact O.asym hy
      · exact h'.1 z hz
    · rename_i hy
      have hy' : lt y x = false := by
        cases e : lt y x with
        | false => rfl
        | true => exact absurd e hy
      refine List.pairwise_cons.mpr ⟨fun z hz => ?_, h⟩
      rcases List.mem_cons.mp hz with rfl | hz
      · exact hy'
      · exact (O.swo id).tr x y z hy' (h'.1 z hz)
theorem isort_sd {α : Type} {lt : α → α → Bool} (O : TO lt) : ∀ l : List α, Sd lt (isort lt l)
  | [] => List.Pairwise.nil
  | x :: l => ins_sd O x (isort_sd O l)
theorem sd_eq {α : Type} {lt : α → α → Bool} (O : TO lt) : ∀ {l m : List α}, Sd lt l → Sd lt m → l.Perm m → l = m
  | [], m, _, _, p => (List.nil_perm.mp p).symm
  | x :: l, [], _, _, p => (List.cons_ne_nil _ _ (List.perm_nil.mp p)).elim
  | x :: l, y :: m, h1, h2, p => by
    have a1 := List.pairwise_cons.mp h1
    have a2 := List.pairwise_cons.mp h2
    have e : x = y := by
      rcases List.mem_cons.mp (p.mem_iff.mp List.mem_cons_self) with e | hx
      · exact e
      · rcases List.mem_cons.mp (p.mem_iff.mpr List.mem_cons_self) with e | hy
        · exact e.symm
        · exact O.anti (a2.1 x hx) (a1.1 y hy)
    subst e
    rw [sd_eq O a1.2 a2.2 (List.perm_cons x |>.mp p)]
theorem isort_eq {α : Type} {lt : α → α → Bool} (O : TO lt) {l m : List α} (h : Sd lt m) (p : m.Perm l) : m = isort lt l := sd_eq O h (isort_sd O l) (p.trans (isort_perm lt l).symm)

/-! ### the builtin -/
section
variable {prog : Program} {w : World} {A : Around} {E : Value → Shared → Prop} {s : Shared}
theorem sortedG {l : Addr} {o : Obj} {vs : List Value} {n : Nat} {ty : String} {ltv : Value → Value → Bool} {Q : Value → Shared → Prop} (hT : ty = "list" ∨ ty = "tuple") (ho : s.heap.get? l = some o) (hc : o.cls = .type ty) (hd : o.data = .seq vs.toArray n) (hz : vs.length ≤ sizeLine) (O : SrtO.Swo ltv)
    (hS : 2 ≤ vs.length → ∀ (h₁ : Heap) (a : Addr), h₁.get? a = some (seqObj "list" vs.toArray 0) → (∀ b o, s.heap.get? b = some o → b ≠ a ∧ h₁.get? b = some o) → SrtO.SortableO prog w A.in1.in1 { s with heap := h₁ } a vs ltv)
    (hQ : ∀ (out : List Value) (h1 h' : Heap) (e : Nat), SrtO.Srtd ltv out → SrtO.Stb ltv out vs → (∀ b o, s.heap.get? b = some o → h1.get? b = some o) → (∀ b o, h1.get? b = some o → h'.get? b = some o) → h'.get? h1.objs.size = some (seqObj "list" out.toArray e) → Q (.ref h1.objs.size) { s with heap := h' }) :
    wpAny (model prog w) A (call (.builtin "sorted") [.ref l]) Q E s := by
  refine Calls.call_function_entry kind_sorted plain_sorted entry_sorted (args_sorted1 _) ?_
  unfold Builtin.«sorted»
  refine wpAny_bind (m := checkCount "sorted" 1 1 _) (wpAny_pure ?_)
  refine wpAny_bind (wpAny_collect_seq l hT ho hc hd (fun h1 k1 => ?_) (by rw [List.size_toArray]; exact hz))
  rw [List.toList_toArray]
  refine wpAny_bind (wpAny_newList ?_ hz)
  have hoL : (h1.push (seqObj "list" vs.toArray 0)).get? h1.objs.size = some (seqObj "list" vs.toArray 0) := Heap.get?_push_size _ rfl
  have keep : ∀ b o, s.heap.get? b = some o → b ≠ h1.objs.size ∧ (h1.push (seqObj "list" vs.toArray 0)).get? b = some o := fun b o q =>
    ⟨Nat.ne_of_lt (Heap.lt_size (k1 b o q)), Heap.get?_push_of_some _ (k1 b o q)⟩
  show wpAny _ _ _ _ _ { s with heap := h1.push (seqObj "list" vs.toArray 0) }
  refine wpAny_bind (wpAny_holding (wpAny_call_entry slot_list_sort ⟨_, hoL, rfl⟩ entry_list_sort (SrtO.list_sort_ord O hoL hz (fun h2 => hS h2 _ _ hoL keep) fun out hs hb => ⟨_, rfl, ?_⟩) (args_list_sort _)))
  obtain ⟨e, he⟩ := sortedHeap_at (out := out.toArray) hoL
  refine wpAny_pure ⟨_, rfl, hQ out h1 _ e hs hb k1 (fun b o q => ?_) he⟩
  have q2 := Heap.get?_push_of_some (seqObj "list" vs.toArray 0) q
  rw [sortedHeap_old (Nat.ne_of_lt (Heap.lt_size q)) (Heap.lt_size q2)]
  exact q2

/-! ### tuples of ints and texts -/
def valKey : Value → Option L2.Key
  | .int i _ => some (.inl i)
  | .str x _ => some (.inr x)
  | _ => none
/-- the keys that stand in the tuple -/
def hKey (h : Heap) : Value → List L2.Key
  | .ref a => match h.get? a with
    | some o => match o.data with
      | .seq its _ => its.toList.filterMap valKey
      | _ => []
    | none => []
  | _ => []
def KTupAt (h : Heap) (v : Value) (ks : List L2.Key) : Prop := ∃ a o its n, v = .ref a ∧ h.get? a = some o ∧ o.cls = .type "tuple" ∧ o.data = .seq its n ∧ Vals (ks.map kV) its.toList
theorem valKeys : ∀ {ks : List L2.Key} {us : List Value}, Vals (ks.map kV) us → us.filterMap valKey = ks
  | [], _, .nil => rfl
  | .inl i :: ks, _, .cons ⟨t, e⟩ r => by
    subst e
    rw [List.filterMap_cons, valKeys (ks := ks) r]; rfl
  | .inr x :: ks, _, .cons ⟨t, e⟩ r => by
    subst e
    rw [List.filterMap_cons, valKeys (ks := ks) r]; rfl
theorem KTupAt.key {h : Heap} {v : Value} {ks : List L2.Key} (k : KTupAt h v ks) : hKey h v = ks := by
  obtain ⟨a, o, its, n, rfl, ho, hc, hd, r⟩ := k
  unfold hKey
  simp only [ho, hd]
  exact valKeys r
theorem KTupAt.keep {h h' : Heap} {v : Value} {ks : List L2.Key} (k : KTupAt h v ks) (x : ∀ b o, h.get? b = some o → o.cls = .type "tuple" → h'.get? b = some o) : KTupAt h' v ks := by
  obtain ⟨a, o, its, n, rfl, ho, hc, hd, r⟩ := k
  exact ⟨a, o, its, n, rfl, x a o ho hc, hc, hd, r⟩
/-- item by item -/
theorem lex_go {Q : Bool → Shared → Prop} : ∀ (ks ls : List L2.Key) (us vs : List Value) (i : Nat), ks.map isL = ls.map isL → (i = 0 → ∀ k r, ks = k :: r → isL k = true) → Vals (ks.map kV) us → Vals (ls.map kV) vs → Q (ksLt ks ls) s → PySem.W.KatLex prog w A true false Q (us.zip vs) i s
  | [], ls, us, vs, i, hk, hi, r1, r2, q => by
    cases ls with
    | nil =>
      cases r1; cases r2
      exact PySem.W.kat_nil q
    | cons l ls => cases hk
  | k :: ks, ls, us, vs, i, hk, hi, r1, r2, q => by
    cases ls with
    | nil => cases hk
    | cons l ls =>
      have hk1 : isL k = isL l := by injection hk
      have hk2 : ks.map isL = ls.map isL := by injection hk
      cases r1 with
      | @cons x u xs us rx rr =>
        cases r2 with
        | @cons y v ys vs ry rr2 =>
          rw [List.zip_cons_cons]
          have next : k = l → PySem.W.KatLex prog w A true false Q (us.zip vs) (i + 1) s := fun e =>
            lex_go ks ls us vs (i + 1) hk2 (fun z => by omega) rr rr2 (by subst e; unfold ksLt at q; rw [if_pos rfl] at q; exact q)
          have stop : k ≠ l → Q (kLt k l) s := fun e => by unfold ksLt at q; rw [if_neg e] at q; exact q
          refine PySem.W.kat_cons ?_
          cases k with
          | inl a =>
            cases l with
            | inr b => cases hk1
            | inl b =>
              obtain ⟨t, rfl⟩ := rx
              obtain ⟨t', rfl⟩ := ry
              refine SeqAt.EqAt.int_int a t b t' prog w _ _ ?_
              refine PySem.W.kat_go (fun e1 => ?_) (fun e1 => ?_)
              · have : a = b := by simpa using e1
                exact PySem.W.kat_yes (next (by rw [this]))
              · have : a ≠ b := by simpa using e1
                exact PySem.W.kat_no (TS.oneLt_ints _ (stop fun e => this (by injection e)))
          | inr a =>
            cases l with
            | inl b => cases hk1
            | inr b =>
              obtain ⟨t, rfl⟩ := rx
              obtain ⟨t', rfl⟩ := ry
              refine SeqAt.EqAt.str_str a t b t' prog w _ _ ?_
              refine PySem.W.kat_go (fun e1 => ?_) (fun e1 => ?_)
              · have : a = b := by simpa using e1
                exact PySem.W.kat_yes (next (by rw [this]))
              · have ne : a ≠ b := by simpa using e1
                have hi0 : (true && i == 0) = false := by
                  cases i with
                  | zero => have := hi rfl _ _ rfl; cases this
                  | succ i => rfl
                refine PySem.W.kat_no ?_
                rw [hi0]
                exact PySem.W.kat_one _ _ (PyProof.Rows.lt_str (stop fun e => ne (by injection e)))
theorem keys_sortable {a : Addr} {vs : List Value} {kss : List (List L2.Key)} (hp : Paired (fun v ks => KTupAt s.heap v ks) vs kss) (hk : sameKinds kss = true) (h2 : 2 ≤ vs.length) (ha : ∀ o, s.heap.get? a = some o → o.cls ≠ .type "tuple") (f : Value → List L2.Key) (hf : ∀ v ∈ vs, f v = hKey s.heap v) :
    SrtO.SortableO prog w A s a vs fun v u => ksLt (f v) (f u) := by
  intro h' keep
  have kp : ∀ b o, s.heap.get? b = some o → o.cls = .type "tuple" → h'.get? b = some o := fun b o e c => keep b o (fun z => by subst z; exact ha o e c) e
  have mem : ∀ v ∈ vs, ∃ ks ∈ kss, KTupAt s.heap v ks := by
    clear h2 hk hf
    induction hp with
    | nil => intro v hv; cases hv
    | cons h1 _ ih =>
      intro v hv
      rcases List.mem_cons.mp hv with rfl | hv
      · exact ⟨_, List.mem_cons_self, h1⟩
      · obtain ⟨ks, m, k⟩ := ih v hv
        exact ⟨ks, List.mem_cons_of_mem _ m, k⟩
  have kinds : ∀ ks ∈ kss, ∀ ls ∈ kss, ks.map isL = ls.map isL ∧ ∃ i r, ks = .inl i :: r := by
    cases kss with
    | nil => intro ks h; cases h
    | cons k0 r0 =>
      unfold sameKinds at hk
      simp only [Bool.and_eq_true, List.all_eq_true, decide_eq_true_eq] at hk
      have h0 : ∃ i r, k0 = .inl i :: r := by
        match k0, hk.1 with
        | .inl i :: r, _ => exact ⟨i, r, rfl⟩
      have all : ∀ ks ∈ k0 :: r0, ks.map isL = k0.map isL := fun ks h => (List.mem_cons.mp h).elim (fun e => e ▸ rfl) (hk.2 ks)
      intro ks hks ls hls
      refine ⟨(all ks hks).trans (all ls hls).symm, ?_⟩
      have := all ks hks
      obtain ⟨i, r, rfl⟩ := h0
      cases ks with
      | nil => cases this
      | cons k ks =>
        cases k with
        | inl j => exact ⟨j, ks, rfl⟩
        | inr x => cases this
  have firsts : ∃ fs, PySem.W.KatTups h' vs fs ∧ fs.length = vs.length ∧ ∀ v ∈ fs, ∃ i t, v = Value.int i t := by
    have go : ∀ l : List Value, (∀ v ∈ l, v ∈ vs) → ∃ fs, PySem.W.KatTups h' l fs ∧ fs.length = l.length ∧ ∀ v ∈ fs, ∃ i t, v = Value.int i t := by
      intro l
      induction l with
      | nil => intro _; exact ⟨[], PySem.W.KatTups.nil, rfl, fun v hv => by cases hv⟩
      | cons v l ih =>
        intro hm
        obtain ⟨fs, h1, h2, h3⟩ := ih fun u hu => hm u (List.mem_cons_of_mem _ hu)
        obtain ⟨ks, mk, kt⟩ := mem v (hm v List.mem_cons_self)
        obtain ⟨_, i, r, rfl⟩ := kinds ks mk ks mk
        obtain ⟨a, o, its, n, rfl, ho, hc, hd, rv⟩ := kt.keep kp
        obtain ⟨⟨its⟩⟩ := its
        · cases rv
        · rename_i x xs
          cases rv with
          | cons r1 rr =>
            obtain ⟨t, rfl⟩ := r1
            refine ⟨.int i t :: fs, PySem.W.KatTups.cons ho hc hd (by simp) h1, by simp [h2], fun u hu => ?_⟩
            rcases List.mem_cons.mp hu with rfl | hu
            · exact ⟨i, t, rfl⟩
            · exact h3 u hu
    exact go vs fun _ h => h
  obtain ⟨fs, h1, h3, h4⟩ := firsts
  refine ⟨tuples' true, fun Q E hq => ?_, fun p q hm hm' => ?_⟩
  · refine PySem.W.kat_kind (T := .type "int") h1 (by omega) (fun g hm => ?_) (by rfl) ?_
    · obtain ⟨x, t, rfl⟩ := h4 g hm
      exact PySem.W.Looks.now
    · have e : (Value.type "int" != Value.type "tuple") = true := by decide +kernel
      rw [e]
      exact hq
  · obtain ⟨ks, mk, kt⟩ := mem _ hm
    obtain ⟨ls, ml, lt⟩ := mem _ hm'
    obtain ⟨kk, i, r, ek⟩ := kinds ks mk ls ml
    show wpAny (model prog w) A (keyLt' (tuples' true) p.1 q.1) (fun r s' => s' = { s with heap := h' } ∧ r = ksLt (f p.1) (f q.1)) (fun _ _ => False) { s with heap := h' }
    rw [hf _ hm, hf _ hm', kt.key, lt.key]
    obtain ⟨a1, o1, its1, n1, e1, ho1, hc1, hd1, rv1⟩ := kt.keep kp
    obtain ⟨a2, o2, its2, n2, e2, ho2, hc2, hd2, rv2⟩ := lt.keep kp
    rw [e1, e2]
    refine PySem.W.kat_lt ho1 hd1 ho2 hd2 ?_
    have hsz : (decide (its1.size < its2.size)) = false := by
      have l1 : its1.size = ks.length := by rw [← Array.length_toList, ← rv1.length, List.length_map]
      have l2 : its2.size = ls.length := by rw [← Array.length_toList, ← rv2.length, List.length_map]
      have : ks.length = ls.length := by have := congrArg List.length kk; simpa using this
      rw [l1, l2, this]; simp
    show PySem.W.KatLex prog w A true (decide (its1.size < its2.size)) _ (its1.toList.zip its2.toList) 0 { s with heap := h' }
    rw [hsz]
    exact lex_go ks ls _ _ 0 kk (fun _ k r' e => by rw [ek] at e; cases e; rfl) rv1 rv2 ⟨rfl, rfl⟩
end
section
variable {X : Cx} {G : Gx} {WX : L2.WX} {c : Cf}
def rSrt (G : Gx) : List V → Hp → VK → Prop := fun xs H Q => ∃ W v t ts zs, xs = [v] ∧ StOk G.K W H ∧ Rep G.K W H v t ∧ items W.st t = some ts ∧ sortT ts = some zs ∧ ∀ q ys, H q = none → Reps G.K W H ys zs → Q (.ref q) (upd H q (.lst ys))
theorem tkeys_some : ∀ {ts : List T} {kss : List (List L2.Key)}, tkeys ts = some kss → ts = kss.map tupK
  | [], _, h => by cases h; rfl
  | t :: ts, kss, h => by
    unfold tkeys at h
    split at h
    · rename_i k ks e1 e2
      cases h
      rw [tkeys_some e2, List.map_cons]
      congr 1
      cases t <;> first | (cases e1; done) | skip
      rename_i xs
      have e1' : keysOf xs = some k := e1
      show T.tup xs = .tup (k.map kT)
      congr 1
      clear e1
      induction xs generalizing k with
      | nil => cases e1'; rfl
      | cons x xs ih =>
        unfold keysOf at e1'
        split at e1'
        · rename_i k1 ks1 q1 q2
          cases e1'
          rw [List.map_cons, ← ih _ q2]
          congr 1
          cases x <;> first | (cases q1; done) | (cases q1; rfl)
        · cases e1'
    · cases h
theorem Reps.keys {K : PySem.W.Frag} {W : Wd} {H : Hp} : ∀ {ks : List L2.Key} {xs : List V}, Reps K W H xs (ks.map kT) → xs = ks.map kV
  | [], _, h => by cases h; rfl
  | .inl i :: ks, _, h => by
    cases h with
    | cons h1 h2 => cases h1; rw [Reps.keys h2]; rfl
  | .inr x :: ks, _, h => by
    cases h with
    | cons h1 h2 => cases h1; rw [Reps.keys h2]; rfl
theorem map_key {h : Heap} : ∀ {its : List Value} {kss : List (List L2.Key)}, Paired (fun v ks => KTupAt h v ks) its kss → its.map (hKey h) = kss
  | _, _, .nil => rfl
  | _, _, .cons k r => by rw [List.map_cons, k.key, map_key r]
def refV : Value → V
  | .ref b => .ref b
  | _ => .non
theorem Paired_imp {α β : Type} {R S : α → β → Prop} : ∀ {xs : List α} {ys : List β}, Paired R xs ys → (∀ x y, R x y → S x y) → Paired S xs ys
  | _, _, .nil, _ => .nil
  | _, _, .cons r t, h => .cons (h _ _ r) (Paired_imp t h)
theorem Paired_mem {α β : Type} {R : α → β → Prop} : ∀ {xs : List α} {ys : List β} {x : α}, Paired R xs ys → x ∈ xs → ∃ y, y ∈ ys ∧ R x y
  | _, _, _, .nil, h => by cases h
  | _, _, x, .cons r t, h => by
    rcases List.mem_cons.mp h with rfl | h
    · exact ⟨_, List.mem_cons_self, r⟩
    · obtain ⟨y, h1, h2⟩ := Paired_mem t h
      exact ⟨y, List.mem_cons_of_mem _ h1, h2⟩
theorem paired_keys {pins : List (Addr × Obj)} {σ : L2.St} {H : Hp} {s : Shared} {W : Wd} (hK : X.K = G.K) (I : L2.Inv X pins σ H s) : ∀ {kss : List (List L2.Key)} {ys : List V} {its : List Value}, Reps G.K W H ys (kss.map tupK) → Vals ys its →
    Paired (fun v ks => KTupAt s.heap v ks ∧ ∃ b, v = .ref b ∧ Rep G.K W H (.ref b) (tupK ks)) its kss
  | [], _, _, r, v => by
    cases r
    cases v
    exact .nil
  | ks :: kss, _, _, r, v => by
    cases r with
    | cons r1 r2 =>
      cases v with
      | cons v1 v2 =>
        refine .cons ?_ (paired_keys hK I r2 v2)
        have r1' := r1
        cases r1 with
        | tup ha hr =>
          cases Reps.keys hr
          cases v1
          obtain ⟨its, rv, pl, hz⟩ := I.tuple (hK ▸ ha.sq)
          obtain ⟨o, ho, hc, n, hd⟩ := pl
          exact ⟨⟨_, o, its.toArray, n, rfl, ho, hc, hd, by simpa using rv⟩, _, rfl, r1'⟩
theorem cr_srt (hK : X.K = G.K) : CallR X (.builtin "sorted") (rSrt G) := by
  intro pins s σ H xs us Q I r h
  obtain ⟨W, v, t, ts, zs, rfl, so, rt, it, ez, q⟩ := h
  obtain ⟨a, ys, rfl, hseq, hr⟩ := so.items rt it
  rw [Vals.ref1 r]
  have main : ∀ (its : List Value) (o : Obj) (n : Nat) (ty : String), Vals ys its → ys.length ≤ sizeLine → (ty = "list" ∨ ty = "tuple") → s.heap.get? a = some o → o.cls = .type ty → o.data = .seq its.toArray n →
      wpAny (model X.prog X.w) X.A (call (.builtin "sorted") [.ref a]) (EP X pins σ Q) X.xe s := fun its o n ty rv hz hT ho hc hd => by
    have hz' : its.length ≤ sizeLine := by rw [← rv.length]; exact hz
    unfold sortT at ez
    split at ez
    · split at ez
      · rename_i ns e
        cases ez
        have := allI_some e
        subst this
        cases Reps.ints_inv hr
        have hi := ints_vals rv
        refine sortedG hT ho hc hd hz' SrtO.swo_int (fun h2 h₁ a' _ _ => SrtO.ints_sortable hi h2) fun out h1 h' e hs hb k1 k2 he => ?_
        obtain ⟨g1, g2, g3⟩ := SrtO.ints_out hi hs hb
        have es : out.map SrtO.iv = isort (fun i j => decide (i < j)) ns := isort_eq to_int (g3.imp fun {x y} h => by simp; omega) g2
        have I1 : L2.Inv X pins σ H { s with heap := h1 } := I.kept (t' := s.toks) k1
        have hlen : ((out.map SrtO.iv).map V.int).length ≤ sizeLine := by
          rw [List.length_map, g2.length_eq]
          rw [List.length_map] at hz
          exact hz
        refine ⟨.ref _, upd H h1.objs.size (.lst ((out.map SrtO.iv).map V.int)), I1.laid (t' := s.toks) k2 (Nat.le_refl _) ⟨hlen, out, e, vals_of_ints g1, he⟩, rfl, q _ _ (I1.hok.fresh (Nat.le_refl _)) ?_⟩
        rw [es]
        exact Reps.ints _
      · split at ez
        · rename_i kss e
          split at ez
          · rename_i hk
            cases ez
            have := tkeys_some e
            subst this
            have hp := paired_keys hK I hr rv
            have hp1 : Paired (fun v ks => KTupAt s.heap v ks) its kss := Paired_imp hp fun _ _ z => z.1
            have hmap := map_key hp1
            refine sortedG hT ho hc hd hz' (to_keys.swo (hKey s.heap)) (fun h2 h₁ a' ha' keep => ?_) fun out h1 h' e hs hb k1 k2 he => ?_
            · have kp : ∀ v ks, KTupAt s.heap v ks → KTupAt h₁ v ks := fun v ks k => k.keep fun b o e _ => (keep b o e).2
              refine keys_sortable (s := { s with heap := h₁ }) (Paired_imp hp1 fun v ks k => kp v ks k) hk h2 (fun o e => ?_) (hKey s.heap) fun v hv => ?_
              · have e' : some o = some (seqObj "list" its.toArray 0) := e.symm.trans ha'
                cases e'
                exact (show ¬ (Value.type "list" = Value.type "tuple") by decide)
              · obtain ⟨ks, _, k⟩ := Paired_mem hp1 hv
                rw [k.key, (kp v ks k).key]
            · have es : out.map (hKey s.heap) = isort ksLt kss := isort_eq to_keys (List.pairwise_map.mpr hs) (by rw [← hmap]; exact hb.perm.map _)
              have I1 : L2.Inv X pins σ H { s with heap := h1 } := I.kept (t' := s.toks) k1
              have each : ∀ v ∈ out, ∃ b, v = .ref b ∧ Rep G.K W H (.ref b) (tupK (hKey s.heap v)) := fun v hv => by
                obtain ⟨ks, _, k, b, e1, e2⟩ := Paired_mem hp (hb.perm.mem_iff.mp hv)
                exact ⟨b, e1, by rw [k.key]; exact e2⟩
              have rep : ∀ l : List Value, (∀ v ∈ l, v ∈ out) → Vals (l.map refV) l ∧ Reps G.K W H (l.map refV) ((l.map (hKey s.heap)).map tupK) := by
                intro l
                induction l with
                | nil => intro _; exact ⟨.nil, .nil⟩
                | cons v l ih =>
                  intro hm
                  obtain ⟨b, rfl, e2⟩ := each v (hm v List.mem_cons_self)
                  obtain ⟨h3, h4⟩ := ih fun u hu => hm u (List.mem_cons_of_mem _ hu)
                  exact ⟨.cons rfl h3, .cons e2 h4⟩
              obtain ⟨r3, r4⟩ := rep out fun _ h => h
              have hlen : (out.map refV).length ≤ sizeLine := by rw [List.length_map, hb.len]; exact hz'
              refine ⟨.ref _, upd H h1.objs.size (.lst (out.map refV)), I1.laid (t' := s.toks) k2 (Nat.le_refl _) ⟨hlen, out, e, r3, he⟩, rfl, q _ _ (I1.hok.fresh (Nat.le_refl _)) ?_⟩
              rw [← es]
              exact r4
          · cases ez
        · cases ez
    · cases ez
  rcases hseq with hs | hs
  · obtain ⟨its, rv, pl, hz⟩ := I.list (hK ▸ hs)
    obtain ⟨o, ho, hc, n, hd⟩ := pl.isList
    exact main its o n "list" rv hz (.inl rfl) ho hc hd
  · obtain ⟨its, rv, pl, hz⟩ := I.tuple (hK ▸ hs)
    obtain ⟨o, ho, hc, n, hd⟩ := pl
    exact main its o n "tuple" rv hz (.inr rfl) ho hc hd
theorem boot_srt : bootBuiltins "sorted" = some (.builtin "sorted") := by decide +kernel
theorem f_sorted {a : E} {xa : Expr} {p pos : Pos} (hK : X.K = G.K) (ha : PE X xa (tE G WX (evE c a))) (hg : Gl X "sorted") (hm : X.mg "sorted" = none) (ns : notStar xa = true) : PE X (.Call (.Name "sorted" p) [xa] [] pos) (tF G WX (evL c (.sorted a))) :=
  PE_imp (pe_callB (cr_srt (G := G) hK) hg hm boot_srt (pa_cons ha pa_nil (starEach_cons ns)) (by decide +kernel) (by decide +kernel) (starEach_cons ns) (plain_star rfl)) fun σ H Q ⟨W, ρ, so, en, p⟩ =>
    ⟨W, ρ, so, en, Post.imp (Post.bnd (Rl := RT G) so p) (fun v H1 ⟨W1, t, x1, s1, r1, p1⟩ => by
      split at p1
      · rename_i xs e
        obtain ⟨zs, ez, hz⟩ := Post.lift (Rl := RF G H) p1
        have p2 : Post G (RF G H) W1 H1 Q (fun cls d H' => WX cls d σ H') (.ok zs W1.st) := by
          rw [ez] at p1; exact p1
        exact ⟨W1, v, t, xs, zs, rfl, s1, r1, e, ez, fun q ys hq hr => Post.fresh so x1 s1 p2 hr hq⟩
      · exact p1.elim) fun _ _ _ h => h⟩
end
end Lm
/-! max, min of a list of ints, with a default. -/
namespace Lm
open PySem PySem.Spec PyProof.Rows L2
theorem fold_max : ∀ (ns : List Int) (n : Int), ns.foldl max n = maxI (n :: ns)
  | [], n => rfl
  | k :: r, n => by
    rw [List.foldl_cons, fold_max r]
    show maxI (max n k :: r) = max n (maxI (k :: r))
    cases r with
    | nil => rfl
    | cons j r => show max (max n k) (maxI (j :: r)) = max n (max k (maxI (j :: r))); omega
theorem fold_min : ∀ (ns : List Int) (n : Int), ns.foldl min n = minI (n :: ns)
  | [], n => rfl
  | k :: r, n => by
    rw [List.foldl_cons, fold_min r]
    show minI (min n k :: r) = min n (minI (k :: r))
    cases r with
    | nil => rfl
    | cons j r => show min (min n k) (minI (j :: r)) = min n (min k (minI (j :: r))); omega
theorem reads_ints {h : Heap} : ∀ {ns : List Int} {us : List Value}, Vals (ns.map V.int) us → ReadsAll h us (ns.map PyData.int) []
  | [], _, .nil => .nil
  | n :: ns, _, .cons ⟨t, e⟩ r => by
    subst e
    exact .cons (as := []) (bs := []) (.int n t) (reads_ints r)
theorem alike_ints (ns : List Int) : PySem.W.AlikeAll (ns.map PyData.int) := by
  refine ⟨fun x hx y hy => ?_, fun x hx => ?_⟩
  · obtain ⟨a, _, rfl⟩ := List.mem_map.mp hx
    obtain ⟨b, _, rfl⟩ := List.mem_map.mp hy
    rfl
  · obtain ⟨a, _, rfl⟩ := List.mem_map.mp hx
    intro h; cases h
theorem depth_ints : ∀ ns : List Int, PyData.depthAll (ns.map PyData.int) = 0
  | [] => rfl
  | n :: ns => by
    show max (PyData.depth (.int n)) (PyData.depthAll (ns.map PyData.int)) = 0
    rw [depth_ints ns]; rfl
def mxName (mx : Bool) : Str := if mx then "max" else "min"
theorem boot_mx : bootBuiltins "max" = some (.builtin "max") := by decide +kernel
theorem boot_mn : bootBuiltins "min" = some (.builtin "min") := by decide +kernel
section
variable {X : Cx} {G : Gx} {WX : L2.WX} {c : Cf}
theorem dflt_go {mx : Bool} {pins : List (Addr × Obj)} {σ : L2.St} {H : Hp} {s : Shared} {Q : VK} {W : Wd} {v d : V} {u e : Value} {t x z : T} (hK : X.K = G.K) (hc : X.calm = true) (hu : X.A.units + 65 < cLine) (I : L2.Inv X pins σ H s) (so : StOk G.K W H) (rt : Rep G.K W H v t) (rd : Rep G.K W H d x) (r1 : RelV v u) (r2 : RelV d e)
    (hz : dfltF W.st mx t x = some z) (hQ : ∀ v' W' H', W'.st = W.st → Ext W H W' H' → StOk G.K W' H' → Rep G.K W' H' v' z → Q v' H') :
    wpAny (model X.prog X.w) X.A (call (.builtin (if mx then "max" else "min")) [u] [(Str.ofString "default", e)]) (EP X pins σ Q) X.xe s := by
  have hz' : (match deref W.st t with
    | .lst ys => match allI ys with
      | some [] => some x
      | some (n :: ns) => some (.int (if mx then maxI (n :: ns) else minI (n :: ns)))
      | none => none
    | _ => none) = some z := hz
  cases hd : deref W.st t with
  | lst ys =>
    rw [hd] at hz'
    dsimp only at hz'
    cases ea : allI ys with
    | none => rw [ea] at hz'; cases hz'
    | some ns =>
      have := allI_some ea
      subst this
      obtain ⟨a, xs, rfl, ha, hr⟩ := so.lst rt hd
      cases Reps.ints_inv hr
      cases r1
      obtain ⟨its, rv, pl, hzz⟩ := I.list (SqL.of ha)
      have rs : ReadsAll s.heap its.toArray.toList (ns.map PyData.int) [] := by simpa using reads_ints rv
      have hun : X.A.units + 1 + PyData.depthAll (ns.map PyData.int) < cLine := by rw [depth_ints]; omega
      have kept : ∀ {h' : Heap} {tk : Nat}, (∀ b o, s.heap.get? b = some o → h'.get? b = some o) → L2.Inv X pins σ H { s with heap := h', toks := tk } := fun {h' tk} k => I.kept k
      have h0 : ns.map PyData.int = [] → ∀ h' tk, (∀ b o, s.heap.get? b = some o → h'.get? b = some o) → EP X pins σ Q e { s with heap := h', toks := tk } := fun en h' tk k => by
        have : ns = [] := List.map_eq_nil_iff.mp en
        subst this
        rw [ea] at hz'
        cases hz'
        exact ⟨d, H, kept k, r2, hQ d W H rfl Ext.refl so rd⟩
      cases mx with
      | true =>
        refine PySem.W.max_list_default (I.ok.hd hc) pl.isList rs (alike_ints ns) hun h0 fun y ys' i v' h' tk bs ex hi rd' k => ?_
        cases ns with
        | nil => cases ex
        | cons n ns =>
          cases ex
          rw [ea] at hz'
          cases hz'
          rw [PySem.W.maxD_ints] at rd'
          cases rd' with
          | int _ t' => exact ⟨.int (ns.foldl max n), H, kept k, ⟨t', rfl⟩, hQ _ W H rfl Ext.refl so (by rw [fold_max]; exact .int _)⟩
      | false =>
        refine PySem.W.min_list_default (I.ok.hd hc) pl.isList rs (alike_ints ns) hun h0 fun y ys' i v' h' tk bs ex hi rd' k => ?_
        cases ns with
        | nil => cases ex
        | cons n ns =>
          cases ex
          rw [ea] at hz'
          cases hz'
          rw [PySem.W.minD_ints] at rd'
          cases rd' with
          | int _ t' => exact ⟨.int (ns.foldl min n), H, kept k, ⟨t', rfl⟩, hQ _ W H rfl Ext.refl so (by rw [fold_min]; exact .int _)⟩
  | _ => rw [hd] at hz'; cases hz'
theorem r_dflt {mx : Bool} {a d : E} {xa xd : Expr} {p kp pos : Pos} (hK : X.K = G.K) (hc : X.calm = true) (hu : X.A.units + 65 < cLine) (hg : Gl X (mxName mx)) (hm : X.mg (mxName mx) = none) (ha : PE X xa (tE G WX (evE c a))) (hd : PE X xd (tE G WX (evE c d))) (ns : notStar xa = true) :
    PE X (.Call (.Name (mxName mx) p) [xa] [⟨some "default", xd, kp⟩] pos) (tE G WX (evE c (.dflt mx a d))) := by
  refine ⟨fun pins s σ H Q I ⟨W, ρ, so, en, pp⟩ => ?_⟩
  have hv : bootBuiltins (mxName mx) = some (.builtin (if mx then "max" else "min")) := by cases mx; exact boot_mn; exact boot_mx
  have hn : mxName mx ≠ "__name__" ∧ (mxName mx == ("__debug__" : Str)) = false := by cases mx <;> exact ⟨by decide +kernel, by decide +kernel⟩
  refine wpAny_Call_Name_kw (ld_blt I hg hm hv ?_ hn.1 hn.2)
  obtain ⟨kw1, kw2⟩ := kwn_all (pos := pos) (env := X.env) (kws := [⟨some "default", xd, kp⟩]) rfl
  have p1 := Post.bnd (Rl := RT G) so (show Post G (RT G) W H Q (fun cls d H' => WX cls d σ H') ((evE c a ρ W.st).bnd fun x st => (evE c d ρ st).bnd fun y st => R.lift (dfltF st mx x y) st) from pp)
  refine PyProof.Rows.callWith_kw (PyProof.Rows.args_cons (thn (ha.run pins s σ H _ I ⟨W, ρ, so, en, p1⟩) fun u s1 ⟨v, H1, I1, r1, W1, t, x1, s1', rt, q1⟩ => PyProof.Rows.args_nil ?_) (starEach_cons ns)) (by rw [starEach_cons ns]; rfl) (plain_star (by simpa using ns)) kw1 kw2
  have hk : PK X [⟨some "default", xd, kp⟩] (tA G WX (evEs c (.cons d .nil))) := rk_cons hd rk_nil
  have q2 := Post.bnd (Rl := RT G) s1' q1
  refine thn (hk.run pos pins s1 σ H1 (fun vs H2 => ∃ W2 dv y, vs = [dv] ∧ Ext W1 H1 W2 H2 ∧ StOk G.K W2 H2 ∧ Rep G.K W2 H2 dv y ∧ Post G (RT G) W2 H2 Q (fun cls d H' => WX cls d σ H') (R.lift (dfltF W2.st mx t y) W2.st)) I1 ⟨W1, ρ, s1', en.mv x1, ?_⟩) fun ws s2 hws => ?_
  · rw [evEs_one]
    have q3 : Post G (RT G) W1 H1 Q (fun cls d H' => WX cls d σ H') ((evE c d ρ W1.st).bnd fun y st => R.lift (dfltF st mx t y) st) := q1
    cases hr : evE c d ρ W1.st with
    | ok y st =>
      rw [hr] at q3
      intro vs W2 H2 e x2 s2 r2
      cases r2 with
      | cons ra rb =>
        cases rb
        refine ⟨W2, _, y, rfl, x2, s2, ra, ?_⟩
        subst e
        exact Post.shift s1' x2 q3
    | exc k xs st => rw [hr] at q3; exact q3
    | bad => rw [hr] at q3; exact q3
  · obtain ⟨zs, H2, I2, rz, W2, dv, y, rfl, x2, s2', rd, q4⟩ := hws
    rw [kwn_names]
    cases rz with
    | cons rz1 rz2 =>
      cases rz2
      obtain ⟨z, ez, hz⟩ := Post.lift q4
      exact dflt_go hK hc hu I2 s2' (rt.mv x2) rd r1 rz1 ez fun v' W' H' e x s r => hz v' W' H' e x s r
end
end Lm
/-! Whether a text is what its short form says: a look by program. -/
namespace Lm
open PySem PySem.Spec PyProof.Rows L2

/-! ### forms -/
def asName : Expr → Option Str
  | .Name x _ => some x
  | _ => none
theorem asName_of {e : Expr} {x : Str} (h : asName e = some x) : ∃ p, e = .Name x p := by
  cases e <;> first | (cases h; exact ⟨_, rfl⟩) | cases h
def asConst : Expr → Option Const
  | .Constant k _ _ => some k
  | _ => none
theorem asConst_of {e : Expr} {x : Const} (h : asConst e = some x) : ∃ j p, e = .Constant x j p := by
  cases e <;> first | (cases h; exact ⟨_, _, rfl⟩) | cases h
def asBin : Expr → Option (Expr × Operator × Expr)
  | .BinOp a o b _ => some (a, o, b)
  | _ => none
theorem asBin_of {e a b : Expr} {o : Operator} (h : asBin e = some (a, o, b)) : ∃ p, e = .BinOp a o b p := by
  cases e <;> first | (cases h; exact ⟨_, rfl⟩) | cases h
def asUn : Expr → Option (UnaryOp × Expr)
  | .UnaryOp o a _ => some (o, a)
  | _ => none
theorem asUn_of {e a : Expr} {o : UnaryOp} (h : asUn e = some (o, a)) : ∃ p, e = .UnaryOp o a p := by
  cases e <;> first | (cases h; exact ⟨_, rfl⟩) | cases h
def asBool : Expr → Option (BoolOp × List Expr × Pos)
  | .BoolOp o l p => some (o, l, p)
  | _ => none
theorem asBool_of {e : Expr} {o : BoolOp} {l : List Expr} {p : Pos} (h : asBool e = some (o, l, p)) : e = .BoolOp o l p := by
  cases e <;> first | (cases h; rfl) | cases h
def asIf : Expr → Option (Expr × Expr × Expr)
  | .IfExp a b d _ => some (a, b, d)
  | _ => none
theorem asIf_of {e a b d : Expr} (h : asIf e = some (a, b, d)) : ∃ p, e = .IfExp a b d p := by
  cases e <;> first | (cases h; exact ⟨_, rfl⟩) | cases h
def asCmp : Expr → Option (Expr × List CmpOp × List Expr)
  | .Compare a o l _ => some (a, o, l)
  | _ => none
theorem asCmp_of {e a : Expr} {o : List CmpOp} {l : List Expr} (h : asCmp e = some (a, o, l)) : ∃ p, e = .Compare a o l p := by
  cases e <;> first | (cases h; exact ⟨_, rfl⟩) | cases h
def asTup : Expr → Option (List Expr)
  | .Tuple l _ _ => some l
  | _ => none
theorem asTup_of {e : Expr} {l : List Expr} (h : asTup e = some l) : ∃ k p, e = .Tuple l k p := by
  cases e <;> first | (cases h; exact ⟨_, _, rfl⟩) | cases h
def asList : Expr → Option (List Expr)
  | .List l _ => some l
  | _ => none
theorem asList_of {e : Expr} {l : List Expr} (h : asList e = some l) : ∃ p, e = .List l p := by
  cases e <;> first | (cases h; exact ⟨_, rfl⟩) | cases h
def asSub : Expr → Option (Expr × Expr)
  | .Subscript a b _ => some (a, b)
  | _ => none
theorem asSub_of {e a b : Expr} (h : asSub e = some (a, b)) : ∃ p, e = .Subscript a b p := by
  cases e <;> first | (cases h; exact ⟨_, rfl⟩) | cases h
def asSlice : Expr → Option (Option Expr × Option Expr)
  | .Slice a b none _ => some (a, b)
  | _ => none
theorem asSlice_of {e : Expr} {a b : Option Expr} (h : asSlice e = some (a, b)) : ∃ p, e = .Slice a b none p := by
  cases e <;> try cases h
  rename_i a b d p
  cases d <;> cases h
  exact ⟨_, rfl⟩
def asCall : Expr → Option (Str × List Expr × List Keyword)
  | .Call (.Name x _) es kw _ => some (x, es, kw)
  | _ => none
theorem asCall_of {e : Expr} {x : Str} {es : List Expr} {kw : List Keyword} (h : asCall e = some (x, es, kw)) : ∃ p q, e = .Call (.Name x p) es kw q := by
  cases e <;> try cases h
  rename_i f l k p
  cases f <;> cases h
  exact ⟨_, _, rfl⟩
/-- a method's call, no named arguments, on one line -/
def asMeth : Expr → Option (Expr × Str × List Expr)
  | .Call (.Attribute o x p) es [] q => if (p.endLine == q.line) = true then some (o, x, es) else none
  | _ => none
theorem asMeth_of {e o : Expr} {x : Str} {es : List Expr} (h : asMeth e = some (o, x, es)) : ∃ p q, e = .Call (.Attribute o x p) es [] q ∧ (p.endLine == q.line) = true := by
  cases e <;> try cases h
  rename_i f l k p
  cases f <;> try cases h
  rename_i o' x' p'
  cases k <;> try cases h
  have h' : (if (p'.endLine == p.line) = true then some (o', x', l) else none) = some (o, x, es) := h
  split at h'
  · cases h'; exact ⟨_, _, rfl, by assumption⟩
  · cases h'
def asComp : Expr → Option (Expr × Expr × Expr × List Expr × Scope × Pos)
  | .ListComp e [⟨tg, it, ifs, 0⟩] sc p => some (e, tg, it, ifs, sc, p)
  | _ => none
theorem asComp_of {e elt tg it : Expr} {ifs : List Expr} {sc : Scope} {p : Pos} (h : asComp e = some (elt, tg, it, ifs, sc, p)) : e = .ListComp elt [⟨tg, it, ifs, 0⟩] sc p := by
  unfold asComp at h
  split at h
  · cases h; rfl
  · cases h
def litIs : Lit → Const → Bool
  | .non, .none => true
  | .bl b, .bool d => b == d
  | .int i, .int j => decide (i = j)
  | .str s, .str t => decide (s = t)
  | _, _ => false
theorem litIs_of {k : Lit} {d : Const} (h : litIs k d = true) : d = litE k := by
  unfold litIs at h
  split at h
  · rfl
  · simp only [beq_iff_eq] at h; subst h; rfl
  · simp only [decide_eq_true_eq] at h; subst h; rfl
  · simp only [decide_eq_true_eq] at h; subst h; rfl
  · cases h

/-! ### names -/
def visB (sc : Scope) (x : Str) : Bool := match sc.names.lookup x with
  | some .local => true
  | some .cell => true
  | some .free => true
  | _ => false
def locB (sc : Scope) (x : Str) : Bool := match sc.names.lookup x with
  | some .local => true
  | some .cell => true
  | _ => false
def glB (sc : Scope) (x : Str) : Bool := match sc.names.lookup x with
  | some .globalImplicit => true
  | _ => false
def locOnly (sc : Scope) (x : Str) : Bool := match sc.names.lookup x with
  | some .local => true
  | _ => false
theorem visB_of {sc : Scope} {x : Str} (h : visB sc x = true) : Vis sc x := by
  unfold visB at h
  split at h
  · exact .inl (by assumption)
  · exact .inr (.inl (by assumption))
  · exact .inr (.inr (by assumption))
  · cases h
theorem locB_of {sc : Scope} {x : Str} (h : locB sc x = true) : Loc sc x := by
  unfold locB at h
  split at h
  · exact .inl (by assumption)
  · exact .inr (by assumption)
  · cases h
theorem glB_of {sc : Scope} {x : Str} (h : glB sc x = true) : sc.names.lookup x = some .globalImplicit := by
  unfold glB at h
  split at h
  · assumption
  · cases h
theorem locOnly_of {sc : Scope} {x : Str} (h : locOnly sc x = true) : sc.names.lookup x = some .local := by
  unfold locOnly at h
  split at h
  · assumption
  · cases h
def plainN (x : Str) : Bool := !(x == ("__debug__" : Str)) && !(x == ("__classdict__" : Str))

/-- a law's defs (names, parameters) and constants by their numbers -/
structure Lw where
  fs : List (Nat × Str × List Str)
  gs : List (Nat × Str)
/-- a block: its slots' names, its scope, what may be stored into -/
structure Bk where
  N : List Str
  sc : Scope
  fn : Str → Bool
def Bk.slot (b : Bk) (i : Nat) (x : Str) : Bool := decide (b.N[i]? = some x)
def Bk.gl (b : Bk) (x : Str) : Bool := glB b.sc x
def Bk.sto (b : Bk) (x : Str) : Bool := locB b.sc x && (b.fn x || locOnly b.sc x)
/-- a comprehension's block -/
def Bk.cmp (b : Bk) (scope : Scope) : Bk := ⟨b.N, relS scope b.sc, fun x => scope.names.lookup x == some .cell⟩
def biN : Bi → Str × String × Bool
  | .len => ("len", "len", false)
  | .all => ("all", "all", false)
  | .any => ("any", "any", false)
  | .sum => ("sum", "sum", false)
  | .abs => ("abs", "abs", false)
  | .intOf => ("int", "int", true)
  | .max2 => ("max", "max", false)
  | .min2 => ("min", "min", false)
  | .max1 => ("max", "max", false)
  | .min1 => ("min", "min", false)
  | .tupleOf => ("tuple", "tuple", true)
  | .strOf => ("str", "str", true)
  | .repr => ("", "", true)
  | .lenSet => ("", "", true)
def opIs (o : BOp) (p : Operator) : Bool := decide (p = opOf o)
def cmpIs (o : COp) (p : CmpOp) : Bool := decide (p = cOf o)
def kwNames (kws : List Keyword) : List Str := kws.filterMap (·.arg)
def tyNm : Ty → List Str
  | .int => ["int"]
  | .bool => ["bool"]
  | .str => ["str"]
  | .list => ["list"]
  | .tuple => ["tuple"]
  | .lt => ["list", "tuple"]
  | .bs => ["bool", "str"]
  | .tl => ["tuple", "list"]

mutual
/-- m: as a test -/
def chkE (L : Lw) : Bk → Bool → E → Expr → Bool
  | b, m, .v i, xe => match asName xe with
    | some x => b.slot i x && visB b.sc x && plainN x
    | none => false
  | b, m, .lit k, xe => match asConst xe with
    | some d => litIs k d
    | none => false
  | b, m, .glob k, xe => match asName xe with
    | some x => decide (L.gs.lookup k = some x) && b.gl x && plainN x
    | none => false
  | b, m, .bin o e1 e2, xe => match asBin xe with
    | some (x, p, y) => opIs o p && chkE L b false e1 x && chkE L b false e2 y
    | none => false
  | b, m, .neg e, xe => match asUn xe with
    | some (.USub, x) => chkE L b false e x
    | _ => false
  | b, m, .not e, xe => match asUn xe with
    | some (.Not, x) => chkE L b m e x
    | _ => false
  | b, m, .and e1 e2, xe => match asBool xe with
    | some (.And, [x, y], _) => chkE L b m e1 x && chkE L b m e2 y
    | some (.And, x :: y :: z :: l, p) => chkE L b m e1 x && chkE L b m e2 (.BoolOp .And (y :: z :: l) p)
    | _ => false
  | b, m, .or e1 e2, xe => match asBool xe with
    | some (.Or, [x, y], _) => chkE L b m e1 x && chkE L b m e2 y
    | some (.Or, x :: y :: z :: l, p) => chkE L b m e1 x && chkE L b m e2 (.BoolOp .Or (y :: z :: l) p)
    | _ => false
  | b, m, .ite t e1 e2, xe => match asIf xe with
    | some (x, y, z) => !m && chkE L b true t x && chkE L b false e1 y && chkE L b false e2 z
    | none => false
  | b, m, .cmp e cs, xe => match asCmp xe with
    | some (x, ops, l) => chkE L b false e x && chkCs L b cs ops l
    | none => false
  | b, m, .tup es, xe => match asTup xe with
    | some l => chkEs L b es l
    | none => false
  | b, m, .lt l, xe => !m && chkL L b l xe
  | b, m, .lo l, xe => !m && chkL L b l xe
  | b, m, .idx e1 e2, xe => match asSub xe with
    | some (x, y) => plainIx y && chkE L b false e1 x && chkE L b false e2 y
    | none => false
  | b, m, .sl e lo hi, xe => match asSub xe with
    | some (x, y) => match asSlice y with
      | some (l, h) => chkE L b false e x && chkO L b lo l && chkO L b hi h
      | none => false
    | none => false
  | b, m, .call f xs ys kn pm, xe => match asCall xe with
    | some (x, es, kws) => match L.fs.lookup f with
      | some (y, ps) => decide (x = y) && b.gl x && plainN x && chkEs L b xs es && chkKs L b ys kws && es.all notStar && (kws.all fun k => k.arg.isSome) && decide (kwNames kws = kn) && decide (xs.len = es.length) && decide (ys.len = kn.length) &&
          binds ps es.length kn (if kn.isEmpty then List.range es.length else pm)
      | none => false
    | none => false
  | b, m, .isI e t, xe => match asCall xe with
    | some (x, [a, y], []) => decide (x = "isinstance") && b.gl "isinstance" && chkE L b false e a && notStar a && (match tyNm t with
      | [n] => decide (asName y = some n) && b.gl n
      | [n, n2] => (match asTup y with
        | some [y1, y2] => decide (asName y1 = some n) && b.gl n && decide (asName y2 = some n2) && b.gl n2
        | _ => false)
      | _ => false)
    | _ => false
  | b, m, .bi f xs, xe => match asCall xe with
    | some (x, y :: es, []) => if f = .lenSet then (match asCall y, es with
        | some (x2, [z], []), [] => decide (x = "len") && b.gl "len" && decide (x2 = "set") && b.gl "set" && chkEs L b xs [z]
        | _, _ => false)
      else decide ((biN f).1 ≠ "") && decide (x = (biN f).1) && b.gl x && chkEs L b xs (y :: es) && (y :: es).all notStar
    | _ => false
  | b, m, .dflt mx e d, xe => match asCall xe with
    | some (x, [y], [⟨some k, z, _⟩]) => decide (x = mxName mx) && b.gl x && decide (k = "default") && notStar y && chkE L b false e y && chkE L b false d z
    | _ => false
  | b, m, .mt f o xs, xe => match asMeth xe with
    | some (y, x, es) => !decide (f = .count) && decide (x = (mtName f).1) && noSuper y && chkE L b false o y && chkEs L b xs es && es.all notStar && decide (es.length < 9)
    | none => false
  | b, m, .frz e, xe => !m && chkE L b false e xe
def chkEs (L : Lw) : Bk → Es → List Expr → Bool
  | b, .nil, [] => true
  | b, .cons e es, x :: xs => notStar x && chkE L b false e x && chkEs L b es xs
  | _, .nil, _ :: _ => false
  | _, .cons _ _, [] => false
def chkKs (L : Lw) : Bk → Es → List Keyword → Bool
  | b, .nil, [] => true
  | b, .cons e es, k :: ks => chkE L b false e k.value && chkKs L b es ks
  | _, .nil, _ :: _ => false
  | _, .cons _ _, [] => false
def chkCs (L : Lw) : Bk → Cs → List CmpOp → List Expr → Bool
  | b, .one o e, [p], [x] => cmpIs o p && notSet x && chkE L b false e x
  | b, .cons o e cs, p :: ps, x :: xs => cmpIs o p && notSet x && chkE L b false e x && chkCs L b cs ps xs
  | _, _, _, _ => false
def chkO (L : Lw) : Bk → Oe → Option Expr → Bool
  | b, .none, none => true
  | b, .some e, some x => chkE L b false e x
  | _, _, _ => false
def chkC (L : Lw) : Bk → Oe → List Expr → Bool
  | b, .none, [] => true
  | b, .some e, [x] => chkE L b true e x
  | _, _, _ => false
def chkL (L : Lw) : Bk → Lm.L → Expr → Bool
  | b, .disp es, xe => match asList xe with
    | some l => chkEs L b es l
    | none => false
  | b, .cat e1 e2, xe => match asBin xe with
    | some (x, p, y) => opIs .add p && chkE L b false e1 x && chkE L b false e2 y
    | none => false
  | b, .comp p it cd e own, xe => match asComp xe with
    | some (elt, tg, iter, ifs, scope, _) => chkIt L b it tg iter && blkC b.N b.sc scope (own.map fun i => ((b.N[i]?).getD "", i)) && (p.slots.all fun i => own.contains i) && chkPt (b.cmp scope) p tg && chkC L (b.cmp scope) cd ifs && chkE L (b.cmp scope) false e elt && notSet iter
    | none => false
  | b, .ofSeq e, xe => match asCall xe with
    | some (x, [y], []) => decide (x = "list") && b.gl "list" && notStar y && chkE L b false e y
    | _ => false
  | b, .ofRng e, xe => match asCall xe with
    | some (x, [y], []) => match asCall y with
      | some (x2, [z], []) => decide (x = "list") && b.gl "list" && decide (x2 = "range") && b.gl "range" && notStar z && chkE L b false e z
      | _ => false
    | _ => false
  | b, .ofRng2 e1 e2, xe => match asCall xe with
    | some (x, [y], []) => match asCall y with
      | some (x2, [z, z2], []) => decide (x = "list") && b.gl "list" && decide (x2 = "range") && b.gl "range" && notStar z && chkE L b false e1 z && notStar z2 && chkE L b false e2 z2
      | _ => false
    | _ => false
  | b, .sorted e, xe => match asCall xe with
    | some (x, [y], []) => decide (x = "sorted") && b.gl "sorted" && notStar y && chkE L b false e y
    | _ => false
  | b, .sortedSet e, xe => false
  | b, .rep e n, xe => false
def chkIt (L : Lw) : Bk → It → Expr → Expr → Bool
  | b, .e e, tg, xe => chkE L b false e xe
  | b, .rng1 e, tg, xe => match asCall xe with
    | some (x, [y], []) => decide (x = "range") && b.gl "range" && notStar y && chkE L b false e y
    | _ => false
  | b, .rng2 e1 e2, tg, xe => match asCall xe with
    | some (x, [y, z], []) => decide (x = "range") && b.gl "range" && notStar y && chkE L b false e1 y && notStar z && chkE L b false e2 z
    | _ => false
  | b, .enum e, tg, xe => match asCall xe with
    | some (x, [y], []) => decide (x = "enumerate") && b.gl "enumerate" && notStar y && chkE L b false e y && (asTup tg).isSome
    | _ => false
  | b, .zip e1 e2, tg, xe => match asCall xe with
    | some (x, [y, z], []) => decide (x = "zip") && b.gl "zip" && notStar y && chkE L b false e1 y && notStar z && chkE L b false e2 z && (asTup tg).isSome
    | _ => false
def chkPt : Bk → Pt → Expr → Bool
  | b, .v i, xe => match asName xe with
    | some x => b.slot i x && b.sto x
    | none => false
  | b, .tup ps, xe => match asTup xe with
    | some l => chkPts b ps l && l.all notStar && decide (l.length = ps.len)
    | none => false
def chkPts : Bk → Pts → List Expr → Bool
  | b, .nil, [] => true
  | b, .cons p ps, x :: xs => notStar x && chkPt b p x && chkPts b ps xs
  | _, .nil, _ :: _ => false
  | _, .cons _ _, [] => false
end
end Lm
/-! Comparisons as values and tests; single operands of and, or. -/
namespace Lm
open PySem PySem.Spec PyProof.Rows L2
section
variable {X : Cx} {G : Gx} {WX : L2.WX} {c : Cf}
theorem r_bool1 {o : BoolOp} {xa : Expr} {t : TE} {pos : Pos} (h : PE X xa t) : PE X (.BoolOp o [xa] pos) t := ⟨fun pins s σ H Q I q => h.run pins s σ H Q I q⟩
theorem asB_bnd {α : Type} {r : R α} {f : α → Sto → R T} : asB (r.bnd f) = r.bnd fun a st => asB (f a st) := by cases r <;> rfl
theorem asB_mk {r : R Bool} : asB (r.bnd fun b st => .ok (.bl b) st) = r := by cases r <;> rfl
theorem r_cmp1 {o : COp} {a b : E} {xa xb : Expr} {pos : Pos} (hK : X.K = G.K) (hu : X.A.units + 65 < cLine) (ha : PE X xa (tE G WX (evE c a))) (hb : PE X xb (tE G WX (evE c b))) (hs : notSet xb = true) : PE X (.Compare xa [cOf o] [xb] pos) (tE G WX (evE c (.cmp a (.one o b)))) :=
  PE_imp (pe_cmpR (op_cmpT (G := G) o hK hu) ha hb (noMarks hs)) fun σ H Q ⟨W, ρ, so, en, p⟩ =>
    ⟨W, ρ, so, en, Post.imp (Post.bnd (Rl := RT G) so p) (fun x H1 ⟨W1, t, x1, s1, r1, p1⟩ =>
      ⟨W1, ρ, s1, en.mv x1, Post.imp (Post.bnd (Rl := RT G) s1 (Post.bnd (Rl := REq Bool) s1 p1)) (fun y H2 ⟨W2, u, x2, s2, r2, p2⟩ => by
        obtain ⟨z, e, h⟩ := Post.lift p2
        refine ⟨W2, t, u, .bl z, s2, r1.mv x2, r2, by show (cmpop W2.st o t u).map T.bl = _; rw [e]; rfl, fun v W' H' e' x' s' r' => ?_⟩
        cases r'
        obtain ⟨W3, b3, x3, s3, e3, p3⟩ := h z W' H' e' x' s' rfl
        cases e3
        exact p3 (.bl z) W3 H' rfl Ext.refl s3 (.bl z)) fun _ _ _ h => h⟩) fun _ _ _ h => h⟩
theorem t_cmp1 {o : COp} {a b : E} {xa xb : Expr} {pos : Pos} (hK : X.K = G.K) (hu : X.A.units + 65 < cLine) (ha : PE X xa (tE G WX (evE c a))) (hb : PE X xb (tE G WX (evE c b))) (hs : notSet xb = true) : PT X (.Compare xa [cOf o] [xb] pos) (tT G WX (evE c (.cmp a (.one o b)))) :=
  PT_imp (pt_cmpR (op_cmpT (G := G) o hK hu) ha hb (noMarks hs)) fun σ H Q ⟨W, ρ, so, en, p⟩ => by
    have p' : Post G (REq Bool) W H Q (fun cls d H' => WX cls d σ H') (asB ((evE c a ρ W.st).bnd fun x st => ((evE c b ρ st).bnd fun y st => R.lift (cmpop st o x y) st).bnd fun b st => .ok (.bl b) st)) := p
    rw [asB_bnd] at p'
    exact ⟨W, ρ, so, en, Post.imp (Post.bnd (Rl := RT G) so p') (fun x H1 ⟨W1, t, x1, s1, r1, p1⟩ => by
      rw [asB_mk] at p1
      exact ⟨W1, ρ, s1, en.mv x1, Post.imp (Post.bnd (Rl := RT G) s1 p1) (fun y H2 ⟨W2, u, x2, s2, r2, p2⟩ => by
        obtain ⟨z, e, h⟩ := Post.lift p2
        refine ⟨W2, t, u, .bl z, s2, r1.mv x2, r2, by show (cmpop W2.st o t u).map T.bl = _; rw [e]; rfl, fun v W' H' e' x' s' r' => ?_⟩
        cases r'
        exact ⟨z, rfl, h z W' H' e' x' s' rfl⟩) fun _ _ _ h => h⟩) fun _ _ _ h => h⟩
theorem r_cmpN {a : E} {cs : Cs} {xa e1 e2 : Expr} {o1 o2 : CmpOp} {ops : List CmpOp} {es : List Expr} {pos : Pos} (ha : PE X xa (tE G WX (evE c a))) (hc : PCh X G WX (o1 :: o2 :: ops) (e1 :: e2 :: es) (fun t ρ st => evCs c cs t ρ st)) :
    PE X (.Compare xa (o1 :: o2 :: ops) (e1 :: e2 :: es) pos) (tE G WX (evE c (.cmp a cs))) :=
  ⟨fun pins s σ H Q I ⟨W, ρ, so, en, p⟩ => Compare_chain (thn (ha.run pins s σ H _ I ⟨W, ρ, so, en, Post.bnd (Rl := RT G) so p⟩) fun v s1 ⟨x, H1, I1, r1, W1, t, x1, s1', rt, p1⟩ =>
    hc.val pos pins s1 σ H1 x v Q W1 ρ t I1 r1 s1' (en.mv x1) rt (Post.imp (Post.bnd (Rl := REq Bool) s1' p1) (fun b H' ⟨W2, b2, x2, s2, e, q⟩ => by
      cases e
      exact q (.bl b) W2 H' rfl Ext.refl s2 (.bl b)) fun _ _ _ h => h)) hc.nm⟩
theorem t_cmpN {a : E} {cs : Cs} {xa e1 e2 : Expr} {o1 o2 : CmpOp} {ops : List CmpOp} {es : List Expr} {pos : Pos} (ha : PE X xa (tE G WX (evE c a))) (hc : PCh X G WX (o1 :: o2 :: ops) (e1 :: e2 :: es) (fun t ρ st => evCs c cs t ρ st)) :
    PT X (.Compare xa (o1 :: o2 :: ops) (e1 :: e2 :: es) pos) (tT G WX (evE c (.cmp a cs))) :=
  ⟨fun pins s σ H Q I ⟨W, ρ, so, en, p⟩ => by
    have p' : Post G (REq Bool) W H Q (fun cls d H' => WX cls d σ H') (asB ((evE c a ρ W.st).bnd fun x st => (evCs c cs x ρ st).bnd fun b st => .ok (.bl b) st)) := p
    rw [asB_bnd] at p'
    refine isTrue_chain (thn (ha.run pins s σ H _ I ⟨W, ρ, so, en, Post.bnd (Rl := RT G) so p'⟩) fun v s1 ⟨x, H1, I1, r1, W1, t, x1, s1', rt, p1⟩ => ?_) hc.nm
    rw [asB_mk] at p1
    exact hc.tst pos pins s1 σ H1 x v Q W1 ρ t I1 r1 s1' (en.mv x1) rt p1⟩
end
end Lm
/-! The look by program is right: expressions. -/
namespace Lm
open PySem PySem.Spec PyProof.Rows L2

def blts : List Str := ["isinstance", "int", "bool", "str", "list", "tuple", "len", "all", "any", "sum", "abs", "max", "min", "range", "enumerate", "zip", "sorted", "set", "repr"]
structure XOk (L : Lw) (G : Gx) (WX : L2.WX) (c : Cf) (k : Nat) (b : Bk) (X : Cx) : Prop where
  N : X.N = b.N
  nd : b.N.Nodup
  sc : X.env.scope = b.sc
  fn : ∀ x, b.fn x = true → X.fn x = true
  calm : X.calm = true
  K : X.K = G.K
  rm : Room k X.A
  gd : X.A.guards = some []
  tk : Takes X WX
  bt : ∀ x ∈ blts, X.mg x = none
  fns : ∀ (f : Nat) (x : Str) (ps : List Str), L.fs.lookup f = some (x, ps) → ∃ fa fd, FnG X.prog X.w X.K X.mg X.base k fa fd ps (spT G ps.length (c.call f)) ∧ plainArgs fd.params ps = true ∧ fd.defaults = .none ∧ X.mg x = some (.ref fa) ∧ PySem.W.keepIn X.K (.ref fa) = true
  gls : ∀ (g : Nat) (x : Str), L.gs.lookup g = some x → ∃ u, X.mg x = some u ∧ GlobIs G u (c.g g)
section
variable {L : Lw} {G : Gx} {c : Cf} {k : Nat}
theorem XOk.hu {b : Bk} {X : Cx} {WX : L2.WX} (ok : XOk L G WX c k b X) : X.A.units + 65 < cLine := by have := ok.rm.un; omega
theorem XOk.gl {b : Bk} {X : Cx} {WX : L2.WX} (ok : XOk L G WX c k b X) {x : Str} (h : b.gl x = true) : Gl X x := by
  show X.env.scope.names.lookup x = _
  rw [ok.sc]; exact glB_of h
theorem XOk.slot {b : Bk} {X : Cx} {WX : L2.WX} (ok : XOk L G WX c k b X) {i : Nat} {x : Str} (h : b.slot i x = true) : X.N[i]? = some x := by
  rw [ok.N]; exact of_decide_eq_true h
theorem XOk.nd' {b : Bk} {X : Cx} {WX : L2.WX} (ok : XOk L G WX c k b X) : X.N.Nodup := by rw [ok.N]; exact ok.nd
theorem XOk.sto {b : Bk} {X : Cx} {WX : L2.WX} (ok : XOk L G WX c k b X) {x : Str} (h : b.sto x = true) : Loc X.env.scope x ∧ (X.fn x = true ∨ X.env.scope.names.lookup x = some .local) := by
  unfold Bk.sto at h
  simp only [Bool.and_eq_true, Bool.or_eq_true] at h
  rw [ok.sc]
  refine ⟨locB_of h.1, h.2.imp (ok.fn x) locOnly_of⟩
theorem plainN_of {x : Str} (h : plainN x = true) : (x == ("__debug__" : Str)) = false ∧ (x == ("__classdict__" : Str)) = false := by
  unfold plainN at h
  simpa using h
theorem XOk.blk {b : Bk} {X : Cx} {WX : L2.WX} (ok : XOk L G WX c k b X) (s : Shared) (H : Hp) (scope : Scope) (C : Addr) (cl : List (Str × Addr)) (fp : List Addr) : XOk L G noW c k (b.cmp scope) (X.blk s H scope (compEnvC scope cl C X.env) fp) where
  N := ok.N
  nd := ok.nd
  sc := by
    show relS scope X.env.scope = relS scope b.sc
    rw [ok.sc]
  fn x h := h
  calm := ok.calm
  K := ok.K
  rm := ok.rm
  gd := ok.gd
  tk := fun u s' ⟨a, B, sI, pins, σ, H, cls, d, e, I, nb, up, sky, na, os, ag, w⟩ => w.elim
  bt := ok.bt
  fns := ok.fns
  gls := ok.gls
/-- as a value, as a test -/
def PM (G : Gx) (WX : L2.WX) (c : Cf) (X : Cx) (m : Bool) (xe : Expr) (e : E) : Prop :=
  if m = true then PT X xe (tT G WX (evE c e)) ∧ ((asBool xe).isSome = true → PW X xe (tT G WX (evE c e))) else PE X xe (tE G WX (evE c e))
variable {X : Cx} {WX : L2.WX}
theorem pm_plain {m : Bool} {xe : Expr} {e : E} (h : PE X xe (tE G WX (evE c e))) (hp : plainTest xe = true) : PM G WX c X m xe e := by
  unfold PM
  cases m with
  | false => exact h
  | true => exact ⟨t_val h (isTrue_val hp), fun q => by cases xe <;> first | (cases hp; done) | (cases q; done)⟩
theorem pm_both {m : Bool} {xe : Expr} {e : E} (h : PE X xe (tE G WX (evE c e))) (h2 : PT X xe (tT G WX (evE c e))) (hp : asBool xe = none) : PM G WX c X m xe e := by
  unfold PM
  cases m with
  | false => exact h
  | true => exact ⟨h2, fun q => by rw [hp] at q; cases q⟩
theorem PM.pe {xe : Expr} {e : E} (h : PM G WX c X false xe e) : PE X xe (tE G WX (evE c e)) := h
theorem PM.pt {xe : Expr} {e : E} (h : PM G WX c X true xe e) : PT X xe (tT G WX (evE c e)) := h.1
theorem foldedNo {e : Expr} (h : notSet e = true) (env : PySem.Env) (x : Value) : foldedSetIterable e env x = pure x := by
  cases e <;> first | rfl | cases h
/-- a comprehension's parts -/
structure CmpOk (L : Lw) (G : Gx) (WX : L2.WX) (c : Cf) (X : Cx) (p : Pt) (it : Lm.It) (cd : Oe) (e : E) (own : List (Str × Nat)) (elt tg iter : Expr) (ifs : List Expr) (scope : Scope) : Prop where
  hi : PI X tg iter (tI G WX (evIt c it))
  ok : BlkOk X.N X.env.scope scope own
  hsl : ∀ j ∈ p.slots, j ∈ own.map (·.2)
  hg : ∀ (s : Shared) (H : Hp) (C : Addr) (cl : List (Str × Addr)) (fp : List Addr), PG (X.blk s H scope (compEnvC scope cl C X.env) fp) tg (gT G p.slots (asgP p))
  ht : ∀ (s : Shared) (H : Hp) (C : Addr) (cl : List (Str × Addr)) (fp : List Addr), PTs (X.blk s H scope (compEnvC scope cl C X.env) fp) ifs (tC' G noW (evC c cd))
  he : ∀ (s : Shared) (H : Hp) (C : Addr) (cl : List (Str × Addr)) (fp : List Addr), PE (X.blk s H scope (compEnvC scope cl C X.env) fp) elt (tE G noW (evE c e))
  hs : notSet iter = true
def ownOf (b : Bk) (own : List Nat) : List (Str × Nat) := own.map fun i => ((b.N[i]?).getD "", i)
theorem ownOf_snd {b : Bk} {own : List Nat} : (ownOf b own).map (·.2) = own := by
  unfold ownOf
  rw [List.map_map]
  show own.map id = own
  rw [List.map_id]

mutual
theorem snd_P : ∀ (p : Pt) (b : Bk) (xe : Expr) (X : Cx) (WX : L2.WX), XOk L G WX c k b X → chkPt b p xe = true → PG X xe (gT G p.slots (asgP p))
  | .v i, b, xe, X, WX, ok, h => by
    unfold chkPt at h
    split at h
    · rename_i x e
      obtain ⟨p, rfl⟩ := asName_of e
      simp only [Bool.and_eq_true] at h
      obtain ⟨h1, h2⟩ := ok.sto h.2
      exact g_v ok.nd' (ok.slot h.1) h1 h2
    · cases h
  | .tup ps, b, xe, X, WX, ok, h => by
    unfold chkPt at h
    split at h
    · rename_i l e
      obtain ⟨q, p, rfl⟩ := asTup_of e
      simp only [Bool.and_eq_true, decide_eq_true_eq] at h
      exact g_tup ok.K ok.calm (snd_Ps ps b l X WX ok h.1.1) h.1.2 h.2
    · cases h
theorem snd_Ps : ∀ (ps : Pts) (b : Bk) (xs : List Expr) (X : Cx) (WX : L2.WX), XOk L G WX c k b X → chkPts b ps xs = true → PGs X xs (gTs G ps.len ps.slots (asgPs ps))
  | .nil, b, [], X, WX, ok, h => g_nil
  | .cons p ps, b, x :: xs, X, WX, ok, h => by
    unfold chkPts at h
    simp only [Bool.and_eq_true] at h
    exact g_cons (snd_P p b x X WX ok h.1.2) (snd_Ps ps b xs X WX ok h.2) h.1.1
  | .nil, b, _ :: _, X, WX, ok, h => by unfold chkPts at h; cases h
  | .cons _ _, b, [], X, WX, ok, h => by unfold chkPts at h; cases h
end
theorem bi_go {f : Bi} (hK : X.K = G.K) (hc : X.calm = true) (hn : (biN f).1 ≠ "") : (biN f).2.2 = false ∧ CallR X (.builtin (biN f).2.1) (rTn G fun st ts => biF st f ts) ∧ bootBuiltins (biN f).1 = some (.builtin (biN f).2.1) ∨ (biN f).2.2 = true ∧ CallR X (.type (biN f).2.1) (rTn G fun st ts => biF st f ts) ∧ bootBuiltins (biN f).1 = some (.type (biN f).2.1) := by
  cases f with
  | len => exact .inl ⟨rfl, bi_len hK, by decide +kernel⟩
  | all => exact .inl ⟨rfl, bi_all hK hc, by decide +kernel⟩
  | any => exact .inl ⟨rfl, bi_any hK hc, by decide +kernel⟩
  | sum => exact .inl ⟨rfl, bi_sum hK hc, by decide +kernel⟩
  | abs => exact .inl ⟨rfl, bi_abs, by decide +kernel⟩
  | intOf => exact .inr ⟨rfl, bi_intOf, by decide +kernel⟩
  | max2 => exact .inl ⟨rfl, bi_max2 hc, by decide +kernel⟩
  | min2 => exact .inl ⟨rfl, bi_min2 hc, by decide +kernel⟩
  | max1 => exact .inl ⟨rfl, bi_max1 hK hc, by decide +kernel⟩
  | min1 => exact .inl ⟨rfl, bi_min1 hK hc, by decide +kernel⟩
  | tupleOf => exact .inr ⟨rfl, bi_tupleOf hK, by decide +kernel⟩
  | strOf => exact .inr ⟨rfl, bi_strOf', by decide +kernel⟩
  | repr => exact absurd rfl hn
  | lenSet => exact absurd rfl hn
theorem bi_in {f : Bi} (hn : (biN f).1 ≠ "") : (biN f).1 ∈ blts ∧ (biN f).1 ≠ "__name__" ∧ ((biN f).1 == ("__debug__" : Str)) = false := by
  cases f <;> first | exact absurd rfl hn | decide +kernel
structure MtOk (X : Cx) (G : Gx) (f : Mt) : Prop where
  slot : Slot "list" (mtName f).1 (mtName f).2
  ty : typeOf (.builtin (mtName f).2) = pure (.type "method_descriptor")
  run : MtR X (mtName f).2 (rTm G f)
theorem mt_go {f : Mt} (hK : X.K = G.K) (hu : X.A.units + 65 < cLine) (hn : f ≠ .count) : MtOk X G f := by
  cases f with
  | append => exact ⟨PySem.F.slot_list_append, PySem.F.type_list_append, mt_appendT⟩
  | pop => exact ⟨PySem.F.slot_list_pop, PySem.F.type_list_pop, mt_popT⟩
  | popAt => exact ⟨PySem.F.slot_list_pop, PySem.F.type_list_pop, mt_popAtT⟩
  | insert => exact ⟨PySem.F.slot_list_insert, PySem.F.type_list_insert, mt_insertT⟩
  | extend => exact ⟨PySem.F.slot_list_extend, PySem.F.type_list_extend, mt_extendT⟩
  | index => exact ⟨PySem.F.slot_list_index, PySem.F.type_list_index, mt_indexT hK hu⟩
  | count => exact absurd rfl hn
end
end Lm
namespace Lm
open PySem PySem.Spec PyProof.Rows L2
section
variable {L : Lw} {G : Gx} {c : Cf} {k : Nat}
theorem plain_sub {x y : Expr} {p : Pos} : plainTest (.Subscript x y p) = true := rfl
theorem asPair {l : List Expr} {x y : Expr} (h : l = [x, y]) : l = [x, y] := h
mutual
theorem snd_E : ∀ (e : E) (b : Bk) (m : Bool) (xe : Expr) (X : Cx) (WX : L2.WX), XOk L G WX c k b X → chkE L b m e xe = true → PM G WX c X m xe e
  | .v i, b, m, xe, X, WX, ok, h => by
    unfold chkE at h
    split at h
    · rename_i x e
      obtain ⟨p, rfl⟩ := asName_of e
      simp only [Bool.and_eq_true] at h
      obtain ⟨q1, q2⟩ := plainN_of h.2
      exact pm_plain (r_v (ok.slot h.1.1) (by rw [ok.sc]; exact visB_of h.1.2) q1 q2) rfl
    · cases h
  | .lit d, b, m, xe, X, WX, ok, h => by
    unfold chkE at h
    split at h
    · rename_i x e
      obtain ⟨j, p, rfl⟩ := asConst_of e
      rw [litIs_of h]
      exact pm_plain r_lit rfl
    · cases h
  | .glob g, b, m, xe, X, WX, ok, h => by
    unfold chkE at h
    split at h
    · rename_i x e
      obtain ⟨p, rfl⟩ := asName_of e
      simp only [Bool.and_eq_true, decide_eq_true_eq] at h
      obtain ⟨u, h1, h2⟩ := ok.gls g x h.1.1
      exact pm_plain (r_glob (ok.gl h.1.2) h1 h2 (plainN_of h.2).1) rfl
    · cases h
  | .bin o e1 e2, b, m, xe, X, WX, ok, h => by
    unfold chkE at h
    split at h
    · rename_i x p y e
      obtain ⟨q, rfl⟩ := asBin_of e
      simp only [Bool.and_eq_true] at h
      have ho : p = opOf o := of_decide_eq_true h.1.1
      subst ho
      exact pm_plain (r_bin ok.K (snd_E e1 b false x X WX ok h.1.2).pe (snd_E e2 b false y X WX ok h.2).pe) rfl
    · cases h
  | .neg e1, b, m, xe, X, WX, ok, h => by
    unfold chkE at h
    split at h
    · rename_i x e
      obtain ⟨q, rfl⟩ := asUn_of e
      exact pm_plain (r_neg (snd_E e1 b false x X WX ok h).pe) rfl
    · cases h
  | .not e1, b, m, xe, X, WX, ok, h => by
    unfold chkE at h
    split at h
    · rename_i x e
      obtain ⟨q, rfl⟩ := asUn_of e
      cases m with
      | false => exact r_not (snd_E e1 b false x X WX ok h).pe
      | true => exact ⟨t_not (snd_E e1 b true x X WX ok h).pt, fun z => nomatch z⟩
    · cases h
  | .and e1 e2, b, m, xe, X, WX, ok, h => by
    unfold chkE at h
    split at h
    · rename_i x y p e
      cases asBool_of e
      simp only [Bool.and_eq_true] at h
      cases m with
      | false => exact r_and (snd_E e1 b false x X WX ok h.1).pe (r_bool1 (snd_E e2 b false y X WX ok h.2).pe)
      | true =>
        have q := w_and (pos := p) (snd_E e1 b true x X WX ok h.1).pt (pw_and1 (snd_E e2 b true y X WX ok h.2).pt)
        exact ⟨q.pt, fun _ => q⟩
    · rename_i x y z l p e
      cases asBool_of e
      simp only [Bool.and_eq_true] at h
      cases m with
      | false => exact r_and (snd_E e1 b false x X WX ok h.1).pe (snd_E e2 b false _ X WX ok h.2).pe
      | true =>
        have q := w_and (pos := p) (snd_E e1 b true x X WX ok h.1).pt ((snd_E e2 b true _ X WX ok h.2).2 rfl)
        exact ⟨q.pt, fun _ => q⟩
    · cases h
  | .or e1 e2, b, m, xe, X, WX, ok, h => by
    unfold chkE at h
    split at h
    · rename_i x y p e
      cases asBool_of e
      simp only [Bool.and_eq_true] at h
      cases m with
      | false => exact r_or (snd_E e1 b false x X WX ok h.1).pe (r_bool1 (snd_E e2 b false y X WX ok h.2).pe)
      | true =>
        have q := w_or (pos := p) (snd_E e1 b true x X WX ok h.1).pt (pw_or1 (snd_E e2 b true y X WX ok h.2).pt)
        exact ⟨q.pt, fun _ => q⟩
    · rename_i x y z l p e
      cases asBool_of e
      simp only [Bool.and_eq_true] at h
      cases m with
      | false => exact r_or (snd_E e1 b false x X WX ok h.1).pe (snd_E e2 b false _ X WX ok h.2).pe
      | true =>
        have q := w_or (pos := p) (snd_E e1 b true x X WX ok h.1).pt ((snd_E e2 b true _ X WX ok h.2).2 rfl)
        exact ⟨q.pt, fun _ => q⟩
    · cases h
  | .ite t e1 e2, b, m, xe, X, WX, ok, h => by
    unfold chkE at h
    split at h
    · rename_i x y z e
      obtain ⟨q, rfl⟩ := asIf_of e
      simp only [Bool.and_eq_true, Bool.not_eq_true'] at h
      obtain ⟨⟨⟨rfl, h1⟩, h2⟩, h3⟩ := h
      exact r_ite (snd_E t b true x X WX ok h1).pt (snd_E e1 b false y X WX ok h2).pe (snd_E e2 b false z X WX ok h3).pe
    · cases h
  | .cmp e1 cs, b, m, xe, X, WX, ok, h => by
    unfold chkE at h
    split at h
    · rename_i x ops l e
      obtain ⟨q, rfl⟩ := asCmp_of e
      simp only [Bool.and_eq_true] at h
      have ha := (snd_E e1 b false x X WX ok h.1).pe
      have hc := h.2
      cases cs with
      | one o e2 =>
        match ops, l, hc with
        | [p], [y], hc =>
          unfold chkCs at hc
          simp only [Bool.and_eq_true] at hc
          have ho : p = cOf o := of_decide_eq_true hc.1.1
          subst ho
          have hb := (snd_E e2 b false y X WX ok hc.2).pe
          exact pm_both (r_cmp1 ok.K ok.hu ha hb hc.1.2) (t_cmp1 ok.K ok.hu ha hb hc.1.2) rfl
        | [], _, hc => unfold chkCs at hc; cases hc
        | [_], [], hc => unfold chkCs at hc; cases hc
        | [_], _ :: _ :: _, hc => unfold chkCs at hc; cases hc
        | _ :: _ :: _, _, hc => unfold chkCs at hc; cases hc
      | cons o e2 cs2 =>
        have hch := snd_Cs (.cons o e2 cs2) b ops l X WX ok hc
        match ops, l, hc, hch, hch.ne.2 with
        | o1 :: o2 :: ops, x1 :: x2 :: l, hc, hch, _ => exact pm_both (r_cmpN ha hch) (t_cmpN ha hch) rfl
        | [o1], [x1], hc, hch, _ =>
          exfalso
          unfold chkCs at hc
          simp only [Bool.and_eq_true] at hc
          exact (snd_Cs cs2 b [] [] X WX ok hc.2).ne.1 rfl
        | [], l, hc, hch, _ => exact absurd rfl hch.ne.1
    · cases h
  | .tup es, b, m, xe, X, WX, ok, h => by
    unfold chkE at h
    split at h
    · rename_i l e
      obtain ⟨q, p, rfl⟩ := asTup_of e
      exact pm_plain (r_tup (snd_Es es b l X WX ok h)) rfl
    · cases h
  | .lt l, b, m, xe, X, WX, ok, h => by
    unfold chkE at h
    simp only [Bool.and_eq_true, Bool.not_eq_true'] at h
    obtain ⟨rfl, h⟩ := h
    exact r_lt (snd_L l b xe X WX ok h)
  | .lo l, b, m, xe, X, WX, ok, h => by
    unfold chkE at h
    simp only [Bool.and_eq_true, Bool.not_eq_true'] at h
    obtain ⟨rfl, h⟩ := h
    exact r_lo (snd_L l b xe X WX ok h)
  | .idx e1 e2, b, m, xe, X, WX, ok, h => by
    unfold chkE at h
    split at h
    · rename_i x y e
      obtain ⟨q, rfl⟩ := asSub_of e
      simp only [Bool.and_eq_true] at h
      exact pm_plain (r_idx ok.K (snd_E e1 b false x X WX ok h.1.2).pe (snd_E e2 b false y X WX ok h.2).pe h.1.1) rfl
    · cases h
  | .sl e1 lo hi, b, m, xe, X, WX, ok, h => by
    unfold chkE at h
    split at h
    · rename_i x y e
      obtain ⟨q, rfl⟩ := asSub_of e
      split at h
      · rename_i l h' e'
        obtain ⟨q', rfl⟩ := asSlice_of e'
        simp only [Bool.and_eq_true] at h
        exact pm_plain (r_sl ok.K (snd_E e1 b false x X WX ok h.1.1).pe (snd_O lo b l X WX ok h.1.2) (snd_O hi b h' X WX ok h.2)) rfl
      · cases h
    · cases h
  | .call f xs ys kn pm, b, m, xe, X, WX, ok, h => by
    unfold chkE at h
    split at h
    · rename_i x es kws e
      obtain ⟨q, q', rfl⟩ := asCall_of e
      split at h
      · rename_i y ps e'
        simp only [Bool.and_eq_true, decide_eq_true_eq] at h
        obtain ⟨⟨⟨⟨⟨⟨⟨⟨⟨⟨h1, h2⟩, h3⟩, h4⟩, h5⟩, h6⟩, h7⟩, h8⟩, h9⟩, h10⟩, h11⟩ := h
        subst h1
        obtain ⟨fa, fd, F, g1, g2, g3, g4⟩ := ok.fns f _ ps e'
        exact pm_plain (r_call F ok.rm ok.gd g1 g2 ok.tk (ok.gl h2) g3 g4 (snd_Es xs b es X WX ok h4) (snd_Ks ys b kws X WX ok h5) h6 h7 h8 h9 h10 h11 (plainN_of h3).1) rfl
      · cases h
    · cases h
  | .isI e1 t, b, m, xe, X, WX, ok, h => by
    unfold chkE at h
    split at h
    · rename_i x a y e
      obtain ⟨q, q', rfl⟩ := asCall_of e
      simp only [Bool.and_eq_true, decide_eq_true_eq] at h
      obtain ⟨⟨⟨⟨h1, h2⟩, h3⟩, h4⟩, h5⟩ := h
      subst h1
      have ha := (snd_E e1 b false a X WX ok h3).pe
      have hm := ok.bt "isinstance" (by decide +kernel)
      cases t with
      | int =>
        dsimp only [tyNm] at h5
        simp only [Bool.and_eq_true, decide_eq_true_eq] at h5
        obtain ⟨p2, rfl⟩ := asName_of h5.1
        exact pm_plain (r_is1 ok.K (n := "int") rfl (ok.gl h2) hm ha h4 (ok.gl h5.2) (ok.bt _ (by decide +kernel)) (by decide +kernel) (by decide +kernel) (by decide +kernel)) rfl
      | bool =>
        dsimp only [tyNm] at h5
        simp only [Bool.and_eq_true, decide_eq_true_eq] at h5
        obtain ⟨p2, rfl⟩ := asName_of h5.1
        exact pm_plain (r_is1 ok.K (n := "bool") rfl (ok.gl h2) hm ha h4 (ok.gl h5.2) (ok.bt _ (by decide +kernel)) (by decide +kernel) (by decide +kernel) (by decide +kernel)) rfl
      | str =>
        dsimp only [tyNm] at h5
        simp only [Bool.and_eq_true, decide_eq_true_eq] at h5
        obtain ⟨p2, rfl⟩ := asName_of h5.1
        exact pm_plain (r_is1 ok.K (n := "str") rfl (ok.gl h2) hm ha h4 (ok.gl h5.2) (ok.bt _ (by decide +kernel)) (by decide +kernel) (by decide +kernel) (by decide +kernel)) rfl
      | list =>
        dsimp only [tyNm] at h5
        simp only [Bool.and_eq_true, decide_eq_true_eq] at h5
        obtain ⟨p2, rfl⟩ := asName_of h5.1
        exact pm_plain (r_is1 ok.K (n := "list") rfl (ok.gl h2) hm ha h4 (ok.gl h5.2) (ok.bt _ (by decide +kernel)) (by decide +kernel) (by decide +kernel) (by decide +kernel)) rfl
      | tuple =>
        dsimp only [tyNm] at h5
        simp only [Bool.and_eq_true, decide_eq_true_eq] at h5
        obtain ⟨p2, rfl⟩ := asName_of h5.1
        exact pm_plain (r_is1 ok.K (n := "tuple") rfl (ok.gl h2) hm ha h4 (ok.gl h5.2) (ok.bt _ (by decide +kernel)) (by decide +kernel) (by decide +kernel) (by decide +kernel)) rfl
      | lt =>
        dsimp only [tyNm] at h5
        split at h5
        · rename_i y1 y2 ey
          obtain ⟨k1, p1, rfl⟩ := asTup_of ey
          simp only [Bool.and_eq_true, decide_eq_true_eq] at h5
          obtain ⟨p2, rfl⟩ := asName_of h5.1.1.1
          obtain ⟨p3, rfl⟩ := asName_of h5.1.2
          exact pm_plain (r_is2 ok.K (n := "list") (m := "tuple") rfl (ok.gl h2) hm ha h4 (ok.gl h5.1.1.2) (ok.bt _ (by decide +kernel)) (by decide +kernel) (by decide +kernel) (by decide +kernel) (ok.gl h5.2) (ok.bt _ (by decide +kernel)) (by decide +kernel) (by decide +kernel) (by decide +kernel)) rfl
        · cases h5
      | bs =>
        dsimp only [tyNm] at h5
        split at h5
        · rename_i y1 y2 ey
          obtain ⟨k1, p1, rfl⟩ := asTup_of ey
          simp only [Bool.and_eq_true, decide_eq_true_eq] at h5
          obtain ⟨p2, rfl⟩ := asName_of h5.1.1.1
          obtain ⟨p3, rfl⟩ := asName_of h5.1.2
          exact pm_plain (r_is2 ok.K (n := "bool") (m := "str") rfl (ok.gl h2) hm ha h4 (ok.gl h5.1.1.2) (ok.bt _ (by decide +kernel)) (by decide +kernel) (by decide +kernel) (by decide +kernel) (ok.gl h5.2) (ok.bt _ (by decide +kernel)) (by decide +kernel) (by decide +kernel) (by decide +kernel)) rfl
        · cases h5
      | tl =>
        dsimp only [tyNm] at h5
        split at h5
        · rename_i y1 y2 ey
          obtain ⟨k1, p1, rfl⟩ := asTup_of ey
          simp only [Bool.and_eq_true, decide_eq_true_eq] at h5
          obtain ⟨p2, rfl⟩ := asName_of h5.1.1.1
          obtain ⟨p3, rfl⟩ := asName_of h5.1.2
          exact pm_plain (r_is2 ok.K (n := "tuple") (m := "list") rfl (ok.gl h2) hm ha h4 (ok.gl h5.1.1.2) (ok.bt _ (by decide +kernel)) (by decide +kernel) (by decide +kernel) (by decide +kernel) (ok.gl h5.2) (ok.bt _ (by decide +kernel)) (by decide +kernel) (by decide +kernel) (by decide +kernel)) rfl
        · cases h5
    · cases h
  | .bi f xs, b, m, xe, X, WX, ok, h => by
    unfold chkE at h
    split at h
    · rename_i x y es e
      obtain ⟨q, q', rfl⟩ := asCall_of e
      split at h
      · rename_i hf
        subst hf
        split at h
        · rename_i x2 z e2
          obtain ⟨q2, q3, rfl⟩ := asCall_of e2
          simp only [Bool.and_eq_true, decide_eq_true_eq] at h
          obtain ⟨⟨⟨⟨h1, h2⟩, h3⟩, h4⟩, h5⟩ := h
          subst h1
          subst h3
          cases xs with
          | nil => unfold chkEs at h5; cases h5
          | cons a as =>
            unfold chkEs at h5
            simp only [Bool.and_eq_true] at h5
            cases as with
            | nil => exact pm_plain (r_lenSet ok.K ok.calm (ok.gl h2) (ok.bt _ (by decide +kernel)) (ok.gl h4) (ok.bt _ (by decide +kernel)) (snd_E a b false z X WX ok h5.1.2).pe h5.1.1) rfl
            | cons _ _ => have := h5.2; unfold chkEs at this; cases this
        · cases h
      simp only [Bool.and_eq_true, decide_eq_true_eq] at h
      obtain ⟨⟨⟨⟨h1, h2⟩, h3⟩, h4⟩, h5⟩ := h
      subst h2
      obtain ⟨i1, i2, i3⟩ := bi_in h1
      rcases bi_go ok.K ok.calm h1 with ⟨_, g1, g2⟩ | ⟨_, g1, g2⟩
      · exact pm_plain (r_biB g1 (ok.gl h3) (ok.bt _ i1) g2 (snd_Es xs b _ X WX ok h4) i2 i3 (by simpa using h5)) rfl
      · exact pm_plain (r_biT g1 (ok.gl h3) (ok.bt _ i1) g2 (snd_Es xs b _ X WX ok h4) i2 i3 (by simpa using h5)) rfl
    · cases h
  | .dflt mx e d, b, m, xe, X, WX, ok, h => by
    unfold chkE at h
    split at h
    · rename_i x y kk z kp ex
      obtain ⟨q, q', rfl⟩ := asCall_of ex
      simp only [Bool.and_eq_true, decide_eq_true_eq] at h
      obtain ⟨⟨⟨⟨⟨h1, h2⟩, h3⟩, h4⟩, h5⟩, h6⟩ := h
      subst h1
      subst h3
      exact pm_plain (r_dflt ok.K ok.calm ok.hu (ok.gl h2) (ok.bt _ (by cases mx <;> decide +kernel)) (snd_E e b false y X WX ok h5).pe (snd_E d b false z X WX ok h6).pe h4) rfl
    · cases h
  | .mt f o xs, b, m, xe, X, WX, ok, h => by
    unfold chkE at h
    split at h
    · rename_i y x es e
      obtain ⟨q, q', rfl, hl⟩ := asMeth_of e
      simp only [Bool.and_eq_true, decide_eq_true_eq, Bool.not_eq_true', decide_eq_false_iff_not] at h
      obtain ⟨⟨⟨⟨⟨⟨h1, h2⟩, h3⟩, h4⟩, h5⟩, h6⟩, h7⟩ := h
      subst h2
      have g := mt_go (G := G) ok.K ok.hu h1
      have ho := (snd_E o b false y X WX ok h4).pe
      have ha := snd_Es xs b es X WX ok h5
      cases es with
      | nil =>
        cases xs with
        | nil => exact pm_plain (r_mt0 g.slot g.ty g.run ho h3 hl) rfl
        | cons _ _ => unfold chkEs at h5; cases h5
      | cons y2 es => exact pm_plain (r_mt g.slot g.ty g.run ho ha h3 h6 (decide_eq_true h7) hl) rfl
    · cases h
  | .frz e1, b, m, xe, X, WX, ok, h => by
    unfold chkE at h
    simp only [Bool.and_eq_true, Bool.not_eq_true'] at h
    obtain ⟨rfl, h⟩ := h
    exact r_frz (snd_E e1 b false xe X WX ok h).pe
theorem snd_Es : ∀ (es : Es) (b : Bk) (xs : List Expr) (X : Cx) (WX : L2.WX), XOk L G WX c k b X → chkEs L b es xs = true → PA X xs (tA G WX (evEs c es))
  | .nil, b, [], X, WX, ok, h => ra_nil
  | .cons e es, b, x :: xs, X, WX, ok, h => by
    unfold chkEs at h
    simp only [Bool.and_eq_true] at h
    exact ra_cons (snd_E e b false x X WX ok h.1.2).pe (snd_Es es b xs X WX ok h.2) h.1.1
  | .nil, b, _ :: _, X, WX, ok, h => by unfold chkEs at h; cases h
  | .cons _ _, b, [], X, WX, ok, h => by unfold chkEs at h; cases h
theorem snd_Ks : ∀ (es : Es) (b : Bk) (xs : List Keyword) (X : Cx) (WX : L2.WX), XOk L G WX c k b X → chkKs L b es xs = true → PK X xs (tA G WX (evEs c es))
  | .nil, b, [], X, WX, ok, h => rk_nil
  | .cons e es, b, ⟨nm, x, kp⟩ :: xs, X, WX, ok, h => by
    unfold chkKs at h
    simp only [Bool.and_eq_true] at h
    exact rk_cons (snd_E e b false x X WX ok h.1).pe (snd_Ks es b xs X WX ok h.2)
  | .nil, b, _ :: _, X, WX, ok, h => by unfold chkKs at h; cases h
  | .cons _ _, b, [], X, WX, ok, h => by unfold chkKs at h; cases h
theorem snd_Cs : ∀ (cs : Cs) (b : Bk) (ops : List CmpOp) (xs : List Expr) (X : Cx) (WX : L2.WX), XOk L G WX c k b X → chkCs L b cs ops xs = true → PCh X G WX ops xs (fun t ρ st => evCs c cs t ρ st)
  | .one o e, b, [p], [x], X, WX, ok, h => by
    unfold chkCs at h
    simp only [Bool.and_eq_true] at h
    have ho : p = cOf o := of_decide_eq_true h.1.1
    subst ho
    exact ch_one ok.K ok.hu (snd_E e b false x X WX ok h.2).pe h.1.2
  | .one o e, b, [], _, X, WX, ok, h => by unfold chkCs at h; cases h
  | .one o e, b, [_], [], X, WX, ok, h => by unfold chkCs at h; cases h
  | .one o e, b, [_], _ :: _ :: _, X, WX, ok, h => by unfold chkCs at h; cases h
  | .one o e, b, _ :: _ :: _, _, X, WX, ok, h => by unfold chkCs at h; cases h
  | .cons o e cs, b, p :: ps, x :: xs, X, WX, ok, h => by
    unfold chkCs at h
    simp only [Bool.and_eq_true] at h
    have ho : p = cOf o := of_decide_eq_true h.1.1.1
    subst ho
    exact ch_cons ok.K ok.hu (snd_E e b false x X WX ok h.1.2).pe h.1.1.2 (snd_Cs cs b ps xs X WX ok h.2)
  | .cons o e cs, b, [], _, X, WX, ok, h => by unfold chkCs at h; cases h
  | .cons o e cs, b, _ :: _, [], X, WX, ok, h => by unfold chkCs at h; cases h
theorem snd_O : ∀ (e : Oe) (b : Bk) (xs : Option Expr) (X : Cx) (WX : L2.WX), XOk L G WX c k b X → chkO L b e xs = true → PO X xs (tO G WX (evO c e))
  | .none, b, none, X, WX, ok, h => ro_none
  | .some e, b, some x, X, WX, ok, h => by
    unfold chkO at h
    exact ro_some (snd_E e b false x X WX ok h).pe
  | .none, b, some _, X, WX, ok, h => by unfold chkO at h; cases h
  | .some _, b, none, X, WX, ok, h => by unfold chkO at h; cases h
theorem snd_C : ∀ (e : Oe) (b : Bk) (xs : List Expr) (X : Cx) (WX : L2.WX), XOk L G WX c k b X → chkC L b e xs = true → PTs X xs (tC' G WX (evC c e))
  | .none, b, [], X, WX, ok, h => rc_none
  | .none, b, _ :: _, X, WX, ok, h => by unfold chkC at h; cases h
  | .some e, b, [x], X, WX, ok, h => by
    unfold chkC at h
    exact rc_some (snd_E e b true x X WX ok h).pt
  | .some e, b, [], X, WX, ok, h => by unfold chkC at h; cases h
  | .some e, b, _ :: _ :: _, X, WX, ok, h => by unfold chkC at h; cases h
theorem snd_L : ∀ (l : Lm.L) (b : Bk) (xe : Expr) (X : Cx) (WX : L2.WX), XOk L G WX c k b X → chkL L b l xe = true → PE X xe (tF G WX (evL c l))
  | .disp es, b, xe, X, WX, ok, h => by
    unfold chkL at h
    split at h
    · rename_i l e
      obtain ⟨p, rfl⟩ := asList_of e
      exact f_disp (snd_Es es b l X WX ok h)
    · cases h
  | .cat e1 e2, b, xe, X, WX, ok, h => by
    unfold chkL at h
    split at h
    · rename_i x p y e
      obtain ⟨q, rfl⟩ := asBin_of e
      simp only [Bool.and_eq_true] at h
      have ho : p = .Add := of_decide_eq_true h.1.1
      subst ho
      exact f_cat (snd_E e1 b false x X WX ok h.1.2).pe (snd_E e2 b false y X WX ok h.2).pe
    · cases h
  | .comp p it cd e own, b, xe, X, WX, ok, h => by
    unfold chkL at h
    split at h
    · rename_i elt tg iter ifs scope pos ex
      cases asComp_of ex
      simp only [Bool.and_eq_true, List.all_eq_true, List.contains_iff_mem] at h
      obtain ⟨⟨⟨⟨⟨⟨h1, h2⟩, h3⟩, h4⟩, h5⟩, h6⟩, h7⟩ := h
      have := f_comp (c := c) (G := G) (WX := WX) (own := ownOf b own) (pos := pos) ok.calm ok.nd' (snd_It it b tg iter X WX ok h1) (by rw [ok.N, ok.sc]; exact blkOk_by h2) (by rw [ownOf_snd]; exact h3)
        (fun s H C cl fp => snd_P p _ tg _ noW (ok.blk s H scope C cl fp) h4) (fun s H C cl fp => snd_C cd _ ifs _ noW (ok.blk s H scope C cl fp) h5) (fun s H C cl fp => (snd_E e _ false elt _ noW (ok.blk s H scope C cl fp) h6).pe) (foldedNo h7 X.env)
      rw [ownOf_snd] at this
      exact this
    · cases h
  | .ofSeq e1, b, xe, X, WX, ok, h => by
    unfold chkL at h
    split at h
    · rename_i x y e
      obtain ⟨q, q', rfl⟩ := asCall_of e
      simp only [Bool.and_eq_true, decide_eq_true_eq] at h
      obtain ⟨⟨⟨h1, h2⟩, h3⟩, h4⟩ := h
      subst h1
      exact f_ofSeq ok.K (ra_cons (snd_E e1 b false y X WX ok h4).pe ra_nil h3) (ok.gl h2) (ok.bt _ (by decide +kernel)) h3
    · cases h
  | .ofRng e1, b, xe, X, WX, ok, h => by
    unfold chkL at h
    split at h
    · rename_i x y e
      obtain ⟨q, q', rfl⟩ := asCall_of e
      split at h
      · rename_i x2 z e'
        obtain ⟨p, p', rfl⟩ := asCall_of e'
        simp only [Bool.and_eq_true, decide_eq_true_eq] at h
        obtain ⟨⟨⟨⟨⟨h1, h2⟩, h3⟩, h4⟩, h5⟩, h6⟩ := h
        subst h1; subst h3
        exact f_rng1 ok.calm (ok.gl h2) (ok.bt _ (by decide +kernel)) (ok.gl h4) (ok.bt _ (by decide +kernel)) (snd_E e1 b false z X WX ok h6).pe h5
      · cases h
    · cases h
  | .ofRng2 e1 e2, b, xe, X, WX, ok, h => by
    unfold chkL at h
    split at h
    · rename_i x y e
      obtain ⟨q, q', rfl⟩ := asCall_of e
      split at h
      · rename_i x2 z z2 e'
        obtain ⟨p, p', rfl⟩ := asCall_of e'
        simp only [Bool.and_eq_true, decide_eq_true_eq] at h
        obtain ⟨⟨⟨⟨⟨⟨⟨h1, h2⟩, h3⟩, h4⟩, h5⟩, h6⟩, h7⟩, h8⟩ := h
        subst h1; subst h3
        exact f_rng2 ok.calm (ok.gl h2) (ok.bt _ (by decide +kernel)) (ok.gl h4) (ok.bt _ (by decide +kernel)) (snd_E e1 b false z X WX ok h6).pe (snd_E e2 b false z2 X WX ok h8).pe h5 h7
      · cases h
    · cases h
  | .sorted e1, b, xe, X, WX, ok, h => by
    unfold chkL at h
    split at h
    · rename_i x y e
      obtain ⟨q, q', rfl⟩ := asCall_of e
      simp only [Bool.and_eq_true, decide_eq_true_eq] at h
      obtain ⟨⟨⟨h1, h2⟩, h3⟩, h4⟩ := h
      subst h1
      exact f_sorted ok.K (snd_E e1 b false y X WX ok h4).pe (ok.gl h2) (ok.bt _ (by decide +kernel)) h3
    · cases h
  | .sortedSet e1, b, xe, X, WX, ok, h => by unfold chkL at h; cases h
  | .rep e1 n, b, xe, X, WX, ok, h => by unfold chkL at h; cases h
theorem snd_It : ∀ (it : Lm.It) (b : Bk) (tg xe : Expr) (X : Cx) (WX : L2.WX), XOk L G WX c k b X → chkIt L b it tg xe = true → PI X tg xe (tI G WX (evIt c it))
  | .e e1, b, tg, xe, X, WX, ok, h => by
    unfold chkIt at h
    exact ri_e ok.K (snd_E e1 b false xe X WX ok h).pe
  | .rng1 e1, b, tg, xe, X, WX, ok, h => by
    unfold chkIt at h
    split at h
    · rename_i x y e
      obtain ⟨q, q', rfl⟩ := asCall_of e
      simp only [Bool.and_eq_true, decide_eq_true_eq] at h
      obtain ⟨⟨⟨h1, h2⟩, h3⟩, h4⟩ := h
      subst h1
      exact ri_rng1 (ok.gl h2) (ok.bt _ (by decide +kernel)) (snd_E e1 b false y X WX ok h4).pe h3
    · cases h
  | .rng2 e1 e2, b, tg, xe, X, WX, ok, h => by
    unfold chkIt at h
    split at h
    · rename_i x y z e
      obtain ⟨q, q', rfl⟩ := asCall_of e
      simp only [Bool.and_eq_true, decide_eq_true_eq] at h
      obtain ⟨⟨⟨⟨⟨h1, h2⟩, h3⟩, h4⟩, h5⟩, h6⟩ := h
      subst h1
      exact ri_rng2 (ok.gl h2) (ok.bt _ (by decide +kernel)) (snd_E e1 b false y X WX ok h4).pe (snd_E e2 b false z X WX ok h6).pe h3 h5
    · cases h
  | .enum e1, b, tg, xe, X, WX, ok, h => by
    unfold chkIt at h
    split at h
    · rename_i x y e
      obtain ⟨q, q', rfl⟩ := asCall_of e
      simp only [Bool.and_eq_true, decide_eq_true_eq] at h
      obtain ⟨⟨⟨⟨h1, h2⟩, h3⟩, h4⟩, h5⟩ := h
      subst h1
      obtain ⟨l, hl⟩ := Option.isSome_iff_exists.mp h5
      obtain ⟨k1, p1, rfl⟩ := asTup_of hl
      exact ri_enum ok.K (ok.gl h2) (ok.bt _ (by decide +kernel)) (snd_E e1 b false y X WX ok h4).pe h3
    · cases h
  | .zip e1 e2, b, tg, xe, X, WX, ok, h => by
    unfold chkIt at h
    split at h
    · rename_i x y z e
      obtain ⟨q, q', rfl⟩ := asCall_of e
      simp only [Bool.and_eq_true, decide_eq_true_eq] at h
      obtain ⟨⟨⟨⟨⟨⟨h1, h2⟩, h3⟩, h4⟩, h5⟩, h6⟩, h7⟩ := h
      subst h1
      obtain ⟨l, hl⟩ := Option.isSome_iff_exists.mp h7
      obtain ⟨k1, p1, rfl⟩ := asTup_of hl
      exact ri_zip ok.K (ok.gl h2) (ok.bt _ (by decide +kernel)) (snd_E e1 b false y X WX ok h4).pe (snd_E e2 b false z X WX ok h6).pe h3 h5
    · cases h
end
end
end Lm
/-! Statements: the look by program, and why it is right. -/
namespace Lm
open PySem PySem.Spec PyProof.Rows L2

def asSet : Stmt → Option (Str × Pos × Expr × Pos)
  | .Assign [.Name x px] xe pos => some (x, px, xe, pos)
  | _ => none
theorem asSet_of {st : Stmt} {x : Str} {px pos : Pos} {xe : Expr} (h : asSet st = some (x, px, xe, pos)) : st = .Assign [.Name x px] xe pos := by
  unfold asSet at h
  split at h
  · cases h; rfl
  · cases h
/-- one target, a tuple -/
def asAsg : Stmt → Option (List Expr × Expr)
  | .Assign [.Tuple es _ _] xe _ => some (es, xe)
  | _ => none
theorem asAsg_of {st : Stmt} {es : List Expr} {xe : Expr} (h : asAsg st = some (es, xe)) : ∃ k p q, st = .Assign [.Tuple es k p] xe q := by
  unfold asAsg at h
  split at h
  · cases h; exact ⟨_, _, _, rfl⟩
  · cases h
def asPut : Stmt → Option (Expr × Expr × Expr)
  | .Assign [.Subscript o i _] xe _ => some (o, i, xe)
  | _ => none
theorem asPut_of {st : Stmt} {o i : Expr} {xe : Expr} (h : asPut st = some (o, i, xe)) : ∃ p q, st = .Assign [.Subscript o i p] xe q := by
  unfold asPut at h
  split at h
  · cases h; exact ⟨_, _, rfl⟩
  · cases h
def asAug : Stmt → Option (Str × Operator × Expr)
  | .AugAssign (.Name x _) o xe _ => some (x, o, xe)
  | _ => none
theorem asAug_of {st : Stmt} {x : Str} {o : Operator} {xe : Expr} (h : asAug st = some (x, o, xe)) : ∃ p q, st = .AugAssign (.Name x p) o xe q := by
  unfold asAug at h
  split at h
  · cases h; exact ⟨_, _, rfl⟩
  · cases h
def asExp : Stmt → Option Expr
  | .Expr e _ => some e
  | _ => none
theorem asExp_of {st : Stmt} {e : Expr} (h : asExp st = some e) : ∃ p, st = .Expr e p := by
  cases st <;> first | (cases h; exact ⟨_, rfl⟩) | cases h
def asRet : Stmt → Option (Option Expr)
  | .Return e _ => some e
  | _ => none
theorem asRet_of {st : Stmt} {e : Option Expr} (h : asRet st = some e) : ∃ p, st = .Return e p := by
  cases st <;> first | (cases h; exact ⟨_, rfl⟩) | cases h
def asIfS : Stmt → Option (Expr × List Stmt × List Stmt)
  | .If t a b _ => some (t, a, b)
  | _ => none
theorem asIfS_of {st : Stmt} {t : Expr} {a b : List Stmt} (h : asIfS st = some (t, a, b)) : ∃ p, st = .If t a b p := by
  cases st <;> first | (cases h; exact ⟨_, rfl⟩) | cases h
def asWhl : Stmt → Option (Expr × List Stmt)
  | .While t a [] _ => some (t, a)
  | _ => none
theorem asWhl_of {st : Stmt} {t : Expr} {a : List Stmt} (h : asWhl st = some (t, a)) : ∃ p, st = .While t a [] p := by
  unfold asWhl at h
  split at h
  · cases h; exact ⟨_, rfl⟩
  · cases h
def asFor : Stmt → Option (Expr × Expr × List Stmt)
  | .For t i a [] _ => some (t, i, a)
  | _ => none
theorem asFor_of {st : Stmt} {t i : Expr} {a : List Stmt} (h : asFor st = some (t, i, a)) : ∃ p, st = .For t i a [] p := by
  unfold asFor at h
  split at h
  · cases h; exact ⟨_, rfl⟩
  · cases h
def isBrk : Stmt → Bool
  | .Break _ => true
  | _ => false
def isCnt : Stmt → Bool
  | .Continue _ => true
  | _ => false
def isPass : Stmt → Bool
  | .Pass _ => true
  | _ => false
def isDoc : Stmt → Bool
  | .Expr (.Constant (.str _) _ _) _ => true
  | _ => false

/-! ### which stores change places -/
def kindF (sc : Scope) : ScopeKind := if sc.kind.isAnnotationScope then .function else sc.kind
def swN (sc scope : Scope) (pos : Pos) (y : Str) (py : Pos) : Bool :=
  kindF sc == .function && sc.names.lookup y == some .local && py.line == pos.line && !(scope.names.any fun (n, k) => n == y && (k == .local || k == .cell))
theorem swN_eq {elt : Expr} {gs : List Comprehension} {scope : Scope} {pos py : Pos} {y : Str} {env : PySem.Env} : swapB elt gs scope pos y py env = swN env.scope scope pos y py := rfl
def isStar : Expr → Bool
  | .Starred .. => true
  | _ => false
def lineOf (ts : List Expr) : Nat := (ts.head?.map (·.pos.line)).getD 0
def plainNames (sc : Scope) (line : Nat) (ts : List Expr) : List Str := ts.filterMap fun t => match t with
  | .Name id pos => if sc.names.lookup id == some .local && pos.line == line then some id else none
  | _ => none
def swStores (sc : Scope) (ts vs : List Expr) : Option (Option (List Str)) :=
  if (!(ts.length == 2 || ts.length == 3) || vs.length != ts.length || kindF sc != .function) = true then some none
  else if vs.any isStar = true then some none
  else if ((plainNames sc (lineOf ts) ts).length != ts.length || (plainNames sc (lineOf ts) ts).eraseDups.length != (plainNames sc (lineOf ts) ts).length) = true then some none
  else if vs.all (foldedForSure 8) = true then some none
  else if vs.all (constantsAlone 8) = true then none
  else some (some (plainNames sc (lineOf ts) ts))
theorem isStar_eq : (fun e : Expr => match e with | .Starred .. => true | _ => false) = isStar := by
  funext e; cases e <;> rfl
theorem swStores_of {ts vs : List Expr} {k k2 : Nat} {p p2 : Pos} {env : PySem.Env} {r : Option (List Str)} (h : swStores env.scope ts vs = some r) : swappedStores [.Tuple ts k p] (.Tuple vs k2 p2) env = pure r := by
  have hn : (ts.filterMap fun t => match t with
    | .Name id pos => if env.kindOf id == some .local && pos.line == lineOf ts then some id else none
    | _ => none) = plainNames env.scope (lineOf ts) ts := rfl
  unfold swStores at h
  show (if (!(ts.length == 2 || ts.length == 3) || vs.length != ts.length || kindF env.scope != .function) = true then (pure none : Sem (Option (List Str))) else _) = pure r
  split at h
  · rename_i c1
    cases h
    rw [if_pos c1]
  · rename_i c1
    rw [if_neg c1]
    show (if (vs.any fun e => match e with | .Starred .. => true | _ => false) = true then (pure none : Sem (Option (List Str))) else _) = pure r
    rw [isStar_eq]
    split at h
    · rename_i c2
      cases h
      rw [if_pos c2]
    · rename_i c2
      rw [if_neg c2]
      show (if ((plainNames env.scope (lineOf ts) ts).length != ts.length || (plainNames env.scope (lineOf ts) ts).eraseDups.length != (plainNames env.scope (lineOf ts) ts).length) = true then (pure none : Sem (Option (List Str))) else _) = pure r
      split at h
      · rename_i c3
        cases h
        rw [if_pos c3]
      · rename_i c3
        rw [if_neg c3]
        show (if vs.all (foldedForSure 8) = true then (pure none : Sem (Option (List Str))) else _) = pure r
        split at h
        · rename_i c4
          cases h
          rw [if_pos c4]
        · rename_i c4
          rw [if_neg c4]
          show (if vs.all (constantsAlone 8) = true then _ else (pure (some (plainNames env.scope (lineOf ts) ts)) : Sem (Option (List Str)))) = pure r
          split at h
          · cases h
          · rename_i c5
            cases h
            rw [if_neg c5]
theorem swStores_no {ts : List Expr} {k : Nat} {p : Pos} {xe : Expr} {env : PySem.Env} (h : asTup xe = none) : swappedStores [.Tuple ts k p] xe env = pure none := by
  cases xe <;> first | rfl | (cases h; done)

/-! ### the look -/
def isFrz : S → Option Nat
  | .frz i => some i
  | _ => none
theorem isFrz_of {s : S} {i : Nat} (h : isFrz s = some i) : s = .frz i := by
  cases s <;> first | (cases h; rfl) | cases h
/-- a new list by a comprehension, laid straight into the name -/
def isCompE : E → Bool
  | .lt (.comp ..) => true
  | .lo (.comp ..) => true
  | _ => false
def chkSw (b : Bk) (x : Str) (px : Pos) (e : E) (xe : Expr) : Bool := match asComp xe with
  | some (_, _, _, _, scope, cp) => if swN b.sc scope cp x px = true then locOnly b.sc x && isCompE e else true
  | none => notComp xe
mutual
def chkS (L : Lw) : Bk → S → Stmt → Bool
  | b, .set i e, st => match asSet st with
    | some (x, px, xe, _) => b.slot i x && b.sto x && chkE L b false e xe && chkSw b x px e xe
    | none => false
  | b, .par i j e1 e2, st => match asAsg st with
    | some ([y1, y2], xe) => (match asTup xe, asName y1, asName y2 with
      | some [x1, x2], some n1, some n2 => b.slot i n1 && b.slot j n2 && decide (i ≠ j) && locOnly b.sc n1 && locOnly b.sc n2 && chkE L b false e1 x1 && chkE L b false e2 x2 && notStar x1 && notStar x2 && decide (swStores b.sc [y1, y2] [x1, x2] = some (some [n1, n2]))
      | _, _, _ => false)
    | _ => false
  | b, .par3 i j l e1 e2 e3, st => match asAsg st with
    | some ([y1, y2, y3], xe) => (match asTup xe, asName y1, asName y2, asName y3 with
      | some [x1, x2, x3], some n1, some n2, some n3 => b.slot i n1 && b.slot j n2 && b.slot l n3 && decide (i ≠ j) && decide (i ≠ l) && decide (j ≠ l) && locOnly b.sc n1 && locOnly b.sc n2 && locOnly b.sc n3 && chkE L b false e1 x1 && chkE L b false e2 x2 && chkE L b false e3 x3 && notStar x1 && notStar x2 && notStar x3 &&
          decide (swStores b.sc [y1, y2, y3] [x1, x2, x3] = some (some [n1, n2, n3]))
      | _, _, _, _ => false)
    | _ => false
  | b, .asg p e, st => match p with
    | .tup ps => (match asAsg st with
      | some (es, xe) => chkPts b ps es && es.all notStar && decide (es.length = ps.len) && chkE L b false e xe && notComp xe && (match asTup xe with
        | some vs => decide (swStores b.sc es vs = some none)
        | none => true)
      | none => false)
    | .v _ => false
  | b, .aug i o e, st => match asAug st with
    | some (x, p, xe) => b.slot i x && b.sto x && opIs o p && (decide (o = .add) || decide (o = .sub) || decide (o = .mul)) && chkE L b false e xe
    | none => false
  | b, .setIx o i e, st => match asPut st with
    | some (xo, xi, xe) => chkE L b false o xo && chkE L b false i xi && chkE L b false e xe && plainIx xi && notComp xe
    | none => false
  | b, .swapIx .., st => false
  | b, .expr e, st => match asExp st with
    | some xe => chkE L b false e xe && notComp xe
    | none => false
  | b, .ret e, st => match asRet st with
    | some (some xe) => chkE L b false e xe
    | some none => (match e with
      | .lit .non => true
      | _ => false)
    | none => false
  | b, .ife t u v, st => match asIfS st with
    | some (x, y, z) => chkE L b true t x && chkSs L b u y && chkSs L b v z
    | none => false
  | b, .whl t u, st => match asWhl st with
    | some (x, y) => chkE L b true t x && chkSs L b u y
    | none => false
  | b, .for_ p it u, st => match asFor st with
    | some (tg, xi, y) => chkPt b p tg && chkIt L b it tg xi && notSet xi && chkSs L b u y
    | none => false
  | b, .brk, st => isBrk st
  | b, .cnt, st => isCnt st
  | b, .pass, st => isPass st
  | b, .doc, st => isDoc st
  | b, .frz i, st => false
  | b, .never, st => true
def chkSs (L : Lw) : Bk → Ss → List Stmt → Bool
  | b, .nil, sts => sts.isEmpty
  | b, .cons s ss, sts => match isFrz s with
    | some _ => chkSs L b ss sts
    | none => match sts with
      | st :: sts => chkS L b s st && chkSs L b ss sts
      | [] => false
end

section
variable {L : Lw} {G : Gx} {c : Cf} {k : Nat}
theorem cmp_parts {p : Pt} {it : Lm.It} {cd : Oe} {e : E} {own : List Nat} {b : Bk} {elt tg iter : Expr} {ifs : List Expr} {scope : Scope} {pos : Pos} {X : Cx} {WX : L2.WX} (ok : XOk L G WX c k b X)
    (h : chkL L b (.comp p it cd e own) (.ListComp elt [⟨tg, iter, ifs, 0⟩] scope pos) = true) : CmpOk L G WX c X p it cd e (ownOf b own) elt tg iter ifs scope := by
  unfold chkL at h
  dsimp only [asComp] at h
  simp only [Bool.and_eq_true, List.all_eq_true, List.contains_iff_mem] at h
  obtain ⟨⟨⟨⟨⟨⟨h1, h2⟩, h3⟩, h4⟩, h5⟩, h6⟩, h7⟩ := h
  exact ⟨snd_It it b tg iter X WX ok h1, by rw [ok.N, ok.sc]; exact blkOk_by h2, by rw [ownOf_snd]; exact h3, fun s H C cl fp => snd_P p _ tg _ noW (ok.blk s H scope C cl fp) h4, fun s H C cl fp => snd_C cd _ ifs _ noW (ok.blk s H scope C cl fp) h5,
    fun s H C cl fp => (snd_E e _ false elt _ noW (ok.blk s H scope C cl fp) h6).pe, h7⟩
theorem snd_set {i : Nat} {e : E} {b : Bk} {x : Str} {px pos : Pos} {xe : Expr} {X : Cx} {WX : L2.WX} (ok : XOk L G WX c k b X) (h1 : b.slot i x = true) (h2 : b.sto x = true) (h3 : chkE L b false e xe = true) (h4 : chkSw b x px e xe = true) :
    PS X (.Assign [.Name x px] xe pos) (tS G WX (evS c (.set i e))) := by
  obtain ⟨l1, l2⟩ := ok.sto h2
  have he := (snd_E e b false xe X WX ok h3).pe
  unfold chkSw at h4
  split at h4
  · rename_i elt tg iter ifs scope cp ex
    cases asComp_of ex
    split at h4
    · rename_i hsw
      simp only [Bool.and_eq_true] at h4
      have hyl : X.env.scope.names.lookup x = some .local := by rw [ok.sc]; exact locOnly_of h4.1
      have sw : swapsWith (.ListComp elt [⟨tg, iter, ifs, 0⟩] scope cp) (some (.Name x px)) pos.line X.env = pure true := by rw [swaps_comp, swN_eq, ok.sc, hsw]
      have h5 := h4.2
      cases e <;> try (cases h5; done)
      · rename_i l
        cases l <;> try (cases h5; done)
        rename_i p it cd e own
        unfold chkE at h3
        simp only [Bool.and_eq_true] at h3
        have q := cmp_parts ok h3.2
        exact s_setLc (.inl ⟨_, rfl, by rw [ownOf_snd]⟩) ok.calm ok.nd' (ok.slot h1) hyl sw q.hi q.ok q.hsl q.hg q.ht q.he (foldedNo q.hs X.env)
      · rename_i l
        cases l <;> try (cases h5; done)
        rename_i p it cd e own
        unfold chkE at h3
        simp only [Bool.and_eq_true] at h3
        have q := cmp_parts ok h3.2
        exact s_setLc (.inr ⟨_, rfl, by rw [ownOf_snd]⟩) ok.calm ok.nd' (ok.slot h1) hyl sw q.hi q.ok q.hsl q.hg q.ht q.he (foldedNo q.hs X.env)
    · rename_i hsw
      have sw : swapsWith (.ListComp elt [⟨tg, iter, ifs, 0⟩] scope cp) (some (.Name x px)) pos.line X.env = pure false := by
        rw [swaps_comp, swN_eq, ok.sc]
        cases e2 : swN b.sc scope cp x px with
        | true => exact absurd e2 hsw
        | false => rfl
      exact s_set ok.nd' (ok.slot h1) l1 he sw l2
  · exact s_set ok.nd' (ok.slot h1) l1 he (swaps_not h4) l2
mutual
theorem snd_S : ∀ (s : S) (b : Bk) (st : Stmt) (X : Cx) (WX : L2.WX), XOk L G WX c k b X → PassesOwn (model X.prog X.w) X.A X.env X.xe → chkS L b s st = true → PS X st (tS G WX (evS c s))
  | .set i e, b, st, X, WX, ok, pa, h => by
    unfold chkS at h
    split at h
    · rename_i x px xe pos e'
      cases asSet_of e'
      simp only [Bool.and_eq_true] at h
      exact snd_set ok h.1.1.1 h.1.1.2 h.1.2 h.2
    · cases h
  | .par i j e1 e2, b, st, X, WX, ok, pa, h => by
    unfold chkS at h
    split at h
    · rename_i y1 y2 xe e'
      obtain ⟨k1, p1, p2, rfl⟩ := asAsg_of e'
      split at h
      · rename_i x1 x2 n1 n2 ht h1 h2
        obtain ⟨k2, p3, rfl⟩ := asTup_of ht
        obtain ⟨q1, rfl⟩ := asName_of h1
        obtain ⟨q2, rfl⟩ := asName_of h2
        simp only [Bool.and_eq_true, decide_eq_true_eq] at h
        obtain ⟨⟨⟨⟨⟨⟨⟨⟨⟨a1, a2⟩, a3⟩, a4⟩, a5⟩, a6⟩, a7⟩, a8⟩, a9⟩, a10⟩ := h
        exact s_par ok.calm ok.nd' (ok.slot a1) (ok.slot a2) a3 (by rw [ok.sc]; exact locOnly_of a4) (by rw [ok.sc]; exact locOnly_of a5) (snd_E e1 b false x1 X WX ok a6).pe (snd_E e2 b false x2 X WX ok a7).pe a8 a9 (swStores_of (by rw [ok.sc]; exact a10))
      · cases h
    · cases h
  | .par3 i j l e1 e2 e3, b, st, X, WX, ok, pa, h => by
    unfold chkS at h
    split at h
    · rename_i y1 y2 y3 xe e'
      obtain ⟨k1, p1, p2, rfl⟩ := asAsg_of e'
      split at h
      · rename_i x1 x2 x3 n1 n2 n3 ht h1 h2 h3
        obtain ⟨k2, p3, rfl⟩ := asTup_of ht
        obtain ⟨q1, rfl⟩ := asName_of h1
        obtain ⟨q2, rfl⟩ := asName_of h2
        obtain ⟨q3, rfl⟩ := asName_of h3
        simp only [Bool.and_eq_true, decide_eq_true_eq] at h
        obtain ⟨⟨⟨⟨⟨⟨⟨⟨⟨⟨⟨⟨⟨⟨⟨a1, a2⟩, a3⟩, a4⟩, a5⟩, a6⟩, a7⟩, a8⟩, a9⟩, a10⟩, a11⟩, a12⟩, a13⟩, a14⟩, a15⟩, a16⟩ := h
        exact s_par3 ok.calm ok.nd' (ok.slot a1) (ok.slot a2) (ok.slot a3) a4 a5 a6 (by rw [ok.sc]; exact locOnly_of a7) (by rw [ok.sc]; exact locOnly_of a8) (by rw [ok.sc]; exact locOnly_of a9) (snd_E e1 b false x1 X WX ok a10).pe (snd_E e2 b false x2 X WX ok a11).pe (snd_E e3 b false x3 X WX ok a12).pe a13 a14 a15 (swStores_of (by rw [ok.sc]; exact a16))
      · cases h
    · cases h
  | .asg p e, b, st, X, WX, ok, pa, h => by
    unfold chkS at h
    cases p with
    | v i => cases h
    | tup ps =>
      dsimp only at h
      split at h
      · rename_i es xe e'
        obtain ⟨k1, p1, p2, rfl⟩ := asAsg_of e'
        simp only [Bool.and_eq_true, decide_eq_true_eq] at h
        obtain ⟨⟨⟨⟨⟨a1, a2⟩, a3⟩, a4⟩, a5⟩, a6⟩ := h
        have hg : PG X (.Tuple es k1 p1) (gT G (Pt.tup ps).slots (asgP (.tup ps))) := g_tup ok.K ok.calm (snd_Ps ps b es X WX ok a1) a2 a3
        refine s_asg (snd_E e b false xe X WX ok a4).pe hg ?_ a5
        cases ht : asTup xe with
        | none => exact swStores_no ht
        | some vs =>
          rw [ht] at a6
          obtain ⟨k2, p3, rfl⟩ := asTup_of ht
          exact swStores_of (by rw [ok.sc]; exact of_decide_eq_true a6)
      · cases h
  | .aug i o e, b, st, X, WX, ok, pa, h => by
    unfold chkS at h
    split at h
    · rename_i x p xe e'
      obtain ⟨p1, p2, rfl⟩ := asAug_of e'
      simp only [Bool.and_eq_true, Bool.or_eq_true, decide_eq_true_eq] at h
      obtain ⟨⟨⟨⟨a1, a2⟩, a3⟩, a4⟩, a5⟩ := h
      have ho : p = opOf o := of_decide_eq_true a3
      subst ho
      obtain ⟨l1, l2⟩ := ok.sto a2
      exact s_aug ok.nd' (ok.slot a1) l1 (snd_E e b false xe X WX ok a5).pe (by rcases a4 with (q | q) | q; exact .inl q; exact .inr (.inl q); exact .inr (.inr q)) l2
    · cases h
  | .setIx o i e, b, st, X, WX, ok, pa, h => by
    unfold chkS at h
    split at h
    · rename_i xo xi xe e'
      obtain ⟨p1, p2, rfl⟩ := asPut_of e'
      simp only [Bool.and_eq_true] at h
      exact s_setIx (snd_E o b false xo X WX ok h.1.1.1.1).pe (snd_E i b false xi X WX ok h.1.1.1.2).pe (snd_E e b false xe X WX ok h.1.1.2).pe h.1.2 h.2
    · cases h
  | .swapIx o1 i1 o2 i2 e1 e2, b, st, X, WX, ok, pa, h => by unfold chkS at h; cases h
  | .expr e, b, st, X, WX, ok, pa, h => by
    unfold chkS at h
    split at h
    · rename_i xe e'
      obtain ⟨p1, rfl⟩ := asExp_of e'
      simp only [Bool.and_eq_true] at h
      exact s_expr (snd_E e b false xe X WX ok h.1).pe h.2
    · cases h
  | .ret e, b, st, X, WX, ok, pa, h => by
    unfold chkS at h
    split at h
    · rename_i xe e'
      obtain ⟨p1, rfl⟩ := asRet_of e'
      exact s_ret (snd_E e b false xe X WX ok h).pe
    · rename_i e'
      obtain ⟨p1, rfl⟩ := asRet_of e'
      split at h
      · exact s_retN
      · cases h
    · cases h
  | .ife t u v, b, st, X, WX, ok, pa, h => by
    unfold chkS at h
    split at h
    · rename_i x y z e'
      obtain ⟨p1, rfl⟩ := asIfS_of e'
      simp only [Bool.and_eq_true] at h
      exact s_ife (snd_E t b true x X WX ok h.1.1).pt (snd_Ss u b y X WX ok pa h.1.2) (snd_Ss v b z X WX ok pa h.2)
    · cases h
  | .whl t u, b, st, X, WX, ok, pa, h => by
    unfold chkS at h
    split at h
    · rename_i x y e'
      obtain ⟨p1, rfl⟩ := asWhl_of e'
      simp only [Bool.and_eq_true] at h
      exact s_whl pa (snd_E t b true x X WX ok h.1).pt (snd_Ss u b y X WX ok pa h.2)
    · cases h
  | .for_ p it u, b, st, X, WX, ok, pa, h => by
    unfold chkS at h
    split at h
    · rename_i tg xi y e'
      obtain ⟨p1, rfl⟩ := asFor_of e'
      simp only [Bool.and_eq_true] at h
      exact s_for pa ok.calm (snd_It it b tg xi X WX ok h.1.1.2) (snd_P p b tg X WX ok h.1.1.1) (snd_Ss u b y X WX ok pa h.2) (foldedNo h.1.2 X.env)
    · cases h
  | .brk, b, st, X, WX, ok, pa, h => by
    unfold chkS at h
    cases st <;> first | (cases h; done) | exact s_brk
  | .cnt, b, st, X, WX, ok, pa, h => by
    unfold chkS at h
    cases st <;> first | (cases h; done) | exact s_cnt
  | .pass, b, st, X, WX, ok, pa, h => by
    unfold chkS at h
    cases st <;> first | (cases h; done) | exact s_pass
  | .doc, b, st, X, WX, ok, pa, h => by
    unfold chkS isDoc at h
    split at h
    · exact s_doc
    · cases h
  | .frz i, b, st, X, WX, ok, pa, h => by unfold chkS at h; cases h
  | .never, b, st, X, WX, ok, pa, h => PS_imp ps_never fun D σ H ⟨W, ρ, so, en, p⟩ => p.elim
theorem snd_Ss : ∀ (ss : Ss) (b : Bk) (sts : List Stmt) (X : Cx) (WX : L2.WX), XOk L G WX c k b X → PassesOwn (model X.prog X.w) X.A X.env X.xe → chkSs L b ss sts = true → PSs X sts (tS G WX (evSs c ss))
  | .nil, b, sts, X, WX, ok, pa, h => by
    unfold chkSs at h
    cases sts with
    | nil => exact ss_nil
    | cons _ _ => cases h
  | .cons s ss, b, sts, X, WX, ok, pa, h => by
    unfold chkSs at h
    split at h
    · rename_i i e
      cases isFrz_of e
      exact ss_frz (snd_Ss ss b sts X WX ok pa h)
    · split at h
      · rename_i st sts
        simp only [Bool.and_eq_true] at h
        exact ss_cons (snd_S s b st X WX ok pa h.1) (snd_Ss ss b sts X WX ok pa h.2)
      · cases h
end
end
end Lm
/-! Calls: the callee's objects leave the store; the family of the defs. -/
namespace Lm
open PySem PySem.Spec PyProof.Rows L2
section
variable {K : PySem.W.Frag} {W W' : Wd} {H H' : Hp}
/-- the callee's objects are forgotten -/
def cutW (W' : Wd) (n : Nat) : Wd := { W' with st := W'.st.take n }
mutual
theorem Rep.trim {n : Nat} (hn : n ≤ W'.st.length) : ∀ (t : T) (v : V), Rep K W' H' v t → T.own n t = true → Rep K (cutW W' n) H' v t
  | .non, _, h, _ => by cases h; exact .non
  | .bl b, _, h, _ => by cases h; exact .bl b
  | .int i, _, h, _ => by cases h; exact .int i
  | .str s, _, h, _ => by cases h; exact .str s
  | .tup ts, _, h, o => by
    cases h with
    | tup ha hr =>
      unfold T.own at o
      exact .tup ha (Reps.trim hn ts _ hr o)
  | .lst ts, _, h, o => by
    cases h with
    | lst ha hl hr =>
      unfold T.own at o
      exact .lst ha hl (Reps.trim hn ts _ hr o)
  | .obj k, _, h, o => by
    cases h with
    | obj hk =>
      unfold T.own at o
      have : k < n := of_decide_eq_true o
      exact Rep.obj (W := cutW W' n) (by show k < (W'.st.take n).length; rw [List.length_take]; omega)
  | .scr ns, _, h, _ => by
    cases h with
    | scr ha => exact .scr ha
  | .exc _ _, _, h, _ => by cases h
theorem Reps.trim {n : Nat} (hn : n ≤ W'.st.length) : ∀ (ts : List T) (vs : List V), Reps K W' H' vs ts → T.ownAll n ts = true → Reps K (cutW W' n) H' vs ts
  | [], _, h, _ => by cases h; exact .nil
  | t :: ts, _, h, o => by
    unfold T.ownAll at o
    simp only [Bool.and_eq_true] at o
    cases h with
    | cons h1 h2 => exact .cons (Rep.trim hn t _ h1 o.1) (Reps.trim hn ts _ h2 o.2)
end
mutual
theorem Rep.own : ∀ (t : T) (v : V), Rep K W H v t → T.own W.st.length t = true
  | .non, _, h => rfl
  | .bl b, _, h => rfl
  | .int i, _, h => rfl
  | .str s, _, h => rfl
  | .tup ts, _, h => by
    cases h with
    | tup ha hr => exact Reps.own ts _ hr
  | .lst ts, _, h => by
    cases h with
    | lst ha hl hr => exact Reps.own ts _ hr
  | .obj k, _, h => by
    cases h with
    | obj hk => exact decide_eq_true hk
  | .scr ns, _, h => rfl
  | .exc _ _, _, h => by cases h
theorem Reps.own : ∀ (ts : List T) (vs : List V), Reps K W H vs ts → T.ownAll W.st.length ts = true
  | [], _, h => rfl
  | t :: ts, _, h => by
    cases h with
    | cons h1 h2 =>
      unfold T.ownAll
      rw [Rep.own t _ h1, Reps.own ts _ h2]; rfl
end
theorem KvR.own {κ : Type} : ∀ {ks : List (κ × V)} {kvs : List (κ × T)}, KvR K W H ks kvs → (kvs.all fun p => T.own W.st.length p.2) = true
  | _, _, .nil => rfl
  | _, _, .cons ⟨_, r⟩ t => by
    rw [List.all_cons, Rep.own _ _ r, KvR.own t]; rfl
theorem KvR.cut {κ : Type} {n : Nat} (hn : n ≤ W'.st.length) : ∀ {ks : List (κ × V)} {kvs : List (κ × T)}, KvR K W' H' ks kvs → (kvs.all fun p => T.own n p.2) = true → KvR K (cutW W' n) H' ks kvs
  | _, _, .nil, _ => .nil
  | _, _, .cons ⟨e, r⟩ t, o => by
    rw [List.all_cons] at o
    simp only [Bool.and_eq_true] at o
    exact .cons ⟨e, Rep.trim hn _ _ r o.1⟩ (KvR.cut hn t o.2)
theorem ObR.own {a : Addr} {o : Ob} (h : ObR K W H a o) : obOwn W.st.length o = true := by
  cases o with
  | dead => rfl
  | lst ts => obtain ⟨xs, _, r⟩ := h; exact Reps.own _ _ r
  | dK kvs => obtain ⟨xs, _, r⟩ := h; exact KvR.own r
  | dT kvs => obtain ⟨xs, _, r⟩ := h; exact KvR.own r
  | ins _ _ => exact h.elim
theorem ObR.cut {n : Nat} (hn : n ≤ W'.st.length) {a : Addr} {o : Ob} (h : ObR K W' H' a o) (ow : obOwn n o = true) : ObR K (cutW W' n) H' a o := by
  cases o with
  | dead => trivial
  | lst ts => obtain ⟨xs, e, r⟩ := h; exact ⟨xs, e, Reps.trim hn _ _ r ow⟩
  | dK kvs => obtain ⟨xs, e, r⟩ := h; exact ⟨xs, e, KvR.cut hn r ow⟩
  | dT kvs => obtain ⟨xs, e, r⟩ := h; exact ⟨xs, e, KvR.cut hn r ow⟩
  | ins _ _ => exact h.elim
theorem kvSame_eq {κ : Type} [DecidableEq κ] : ∀ {a b : List (κ × T)}, kvSame a b = true → a = b
  | [], [], _ => rfl
  | p :: ps, q :: qs, h => by
    unfold kvSame at h
    simp only [Bool.and_eq_true, decide_eq_true_eq] at h
    rw [kvSame_eq h.2, Prod.ext h.1.1 (beq_eq h.1.2)]
  | [], _ :: _, h => by cases h
  | _ :: _, [], h => by cases h
theorem obSame_eq {a b : Ob} (h : obSame a b = true) : a = b := by
  cases a <;> cases b <;> first | (cases h; done) | rfl | skip
  · exact congrArg Ob.lst (beqs_eq h)
  · exact congrArg Ob.dK (kvSame_eq h)
  · exact congrArg Ob.dT (kvSame_eq h)
theorem keepOk_get {n : Nat} : ∀ {a b : Sto}, keepOk n a b = true → ∀ (i : Nat) (o o' : Ob), a[i]? = some o → b[i]? = some o' → o = o' ∨ obOwn n o' = true
  | [], _, _, i, o, o', h1, _ => by simp at h1
  | _ :: _, [], h, _, _, _, _, h2 => by simp at h2
  | x :: a, y :: b, h, 0, o, o', h1, h2 => by
    simp at h1 h2
    subst h1; subst h2
    unfold keepOk at h
    simp only [Bool.and_eq_true, Bool.or_eq_true] at h
    exact h.1.elim .inr fun z => .inl (obSame_eq z)
  | x :: a, y :: b, h, i + 1, o, o', h1, h2 => by
    unfold keepOk at h
    simp only [Bool.and_eq_true] at h
    exact keepOk_get h.2 i o o' (by simpa using h1) (by simpa using h2)
theorem cut_ok (s : StOk K W H) (x : Ext W H W' H') (s' : StOk K W' H') (hk : keepOk W.st.length W.st W'.st = true) : Ext W H (cutW W' W.st.length) H' ∧ StOk K (cutW W' W.st.length) H' := by
  have gt : ∀ {i : Nat} {o : Ob}, (W'.st.take W.st.length)[i]? = some o → i < W.st.length ∧ W'.st[i]? = some o := fun {i o} h => by
    rw [List.getElem?_take] at h
    split at h
    · exact ⟨by assumption, h⟩
    · cases h
  have lvs : ∀ {a : Addr}, Live (cutW W' W.st.length) a → Live W' a := fun {a} ⟨n, ob, h1, h2, h3⟩ => ⟨n, ob, (gt h1).2, h2, h3⟩
  refine ⟨⟨⟨by show _ ≤ (W'.st.take W.st.length).length; rw [List.length_take]; have := x.len; omega, x.agr, x.keep, x.low⟩, x.keepx, x.up, fun a h => x.nl a (lvs h), x.sm⟩, ⟨fun i j oi oj h1 q1 h2 q2 e => s'.inj i j oi oj (gt h1).2 q1 (gt h2).2 q2 e, fun i o h q => s'.liv i o (gt h).2 q, fun i o h => ?_, s'.lh⟩⟩
  obtain ⟨hi, h2⟩ := gt h
  refine (s'.ob i o h2).cut x.len ?_
  obtain ⟨o0, h0⟩ : ∃ o0, W.st[i]? = some o0 := ⟨_, List.getElem?_eq_getElem hi⟩
  rcases keepOk_get hk i o0 o h0 h2 with e | e
  · subst e; exact (s.ob i _ h0).own
  · exact e
end
section
variable {G : Gx}
/-- what the def's end hands to its caller -/
theorem post_fin {kp : Bool} {W : Wd} {H : Hp} {Q : VK} {E : XK} {r : RS} (s : StOk G.K W H) (p : Post G (RT G) W H Q E (finish kp W.st r)) :
    PostS G (fun cls d _ H' => E cls d H') { nx := fun _ H' => Q .non H', rt := Q } W H r := by
  cases r with
  | nx ρ st =>
    intro σ W' H' e x s' en
    subst e
    dsimp only [finish] at p
    split at p
    · exact p .non W' H' rfl x s' .non
    · split at p
      · rename_i hk
        obtain ⟨x2, s2⟩ := cut_ok s x s' hk
        exact p .non _ H' rfl x2 s2 .non
      · exact p.elim
  | ret t st =>
    intro v W' H' e x s' rv
    subst e
    dsimp only [finish] at p
    split at p
    · exact p v W' H' rfl x s' rv
    · split at p
      · rename_i hk
        simp only [Bool.and_eq_true] at hk
        obtain ⟨x2, s2⟩ := cut_ok s x s' hk.2
        exact p v _ H' rfl x2 s2 (Rep.trim x.len _ _ rv hk.1)
      · exact p.elim
  | brk ρ st => exact p.elim
  | cnt ρ st => exact p.elim
  | exc k' xs ρ st =>
    intro cls d σ W' H' e x s' en q
    subst e
    dsimp only [finish] at p
    split at p
    · rename_i hk
      simp only [Bool.and_eq_true] at hk
      obtain ⟨x2, s2⟩ := cut_ok s x s' hk.2
      refine p cls d _ H' rfl x2 s2 ?_
      obtain ⟨q1, q2⟩ := q
      refine ⟨q1, ?_⟩
      rcases q2 with q2 | ⟨dd, v, t, h1, h2, h3, h4, h5⟩
      · exact .inl q2
      · subst h2
        have := hk.1
        unfold T.ownAll at this
        simp only [Bool.and_eq_true] at this
        exact .inr ⟨dd, v, t, h1, rfl, h3, h4, Rep.trim x.len _ _ h5 this.1⟩
    · exact p.elim
  | bad => exact p.elim
/-- the store set aside -/
def aside (W : Wd) : Wd := { W with st := [] }
theorem aside_ok {W : Wd} {H : Hp} (s : StOk G.K W H) : StOk G.K (aside W) H :=
  ⟨fun i j oi oj h => by simp [aside] at h, fun i o h => by simp [aside] at h, fun i o h => by simp [aside] at h, s.lh⟩
theorem aside_no {W : Wd} {a : Addr} : ¬ Live (aside W) a := fun ⟨n, ob, h, _⟩ => by simp [aside] at h
/-- taken back, behind a callee that had none of it -/
theorem back_ok {W W' : Wd} {H H' : Hp} (s : StOk G.K W H) (x : Ext (aside W) H W' H') (s' : StOk G.K W' H') : Ext W H { W with L := W'.L } H' ∧ StOk G.K { W with L := W'.L } H' := by
  have x2 : Ext W H { W with L := W'.L } H' := ⟨⟨Nat.le_refl _, fun _ _ => rfl, x.keep, x.low⟩, fun a o h l _ => x.keepx a o h l aside_no, fun a l _ => x.up a l aside_no, fun a h => .inl h, x.sm⟩
  refine ⟨x2, ⟨s.inj, fun i o h q => x.up _ (s.liv i o h q) aside_no, fun i o h => ?_, s'.lh⟩⟩
  have keep : ∀ {u : HO}, alive o = true → H (W.m i) = some u → H' (W.m i) = some u := fun q e => x.keepx _ _ e (s.liv i o h q) aside_no
  have ob := s.ob i o h
  cases o with
  | dead => trivial
  | lst ts => obtain ⟨xs, e, r⟩ := ob; exact ⟨xs, keep rfl e, r.mv x2⟩
  | dK kvs => obtain ⟨xs, e, r⟩ := ob; exact ⟨xs, keep rfl e, KvR.mv r x2.toExt0⟩
  | dT kvs => obtain ⟨xs, e, r⟩ := ob; exact ⟨xs, keep rfl e, KvR.mv r x2.toExt0⟩
  | ins _ _ => exact ob.elim
mutual
theorem Rep.free0 {K : PySem.W.Frag} {W W' : Wd} {H : Hp} (hL : W'.L = W.L) : ∀ (t : T) (v : V), Rep K W H v t → T.own 0 t = true → Rep K W' H v t
  | .non, _, h, _ => by cases h; exact .non
  | .bl b, _, h, _ => by cases h; exact .bl b
  | .int i, _, h, _ => by cases h; exact .int i
  | .str s, _, h, _ => by cases h; exact .str s
  | .tup ts, _, h, o => by
    cases h with
    | tup ha hr =>
      unfold T.own at o
      refine .tup ?_ (Reps.free0 hL ts _ hr o)
      rcases ha with ⟨h, l⟩ | h
      · exact .inl ⟨h, by rw [hL]; exact l⟩
      · exact .inr h
  | .lst ts, _, h, o => by
    cases h with
    | lst ha hl hr =>
      unfold T.own at o
      exact .lst ha (by rw [hL]; exact hl) (Reps.free0 hL ts _ hr o)
  | .obj k, _, h, o => by unfold T.own at o; simp at o
  | .scr ns, _, h, _ => by
    cases h with
    | scr ha =>
      rcases ha with ⟨h, l⟩ | h
      · exact .scr (.inl ⟨h, by rw [hL]; exact l⟩)
      · exact .scr (.inr h)
  | .exc _ _, _, h, _ => by cases h
theorem Reps.free0 {K : PySem.W.Frag} {W W' : Wd} {H : Hp} (hL : W'.L = W.L) : ∀ (ts : List T) (vs : List V), Reps K W H vs ts → T.ownAll 0 ts = true → Reps K W' H vs ts
  | [], _, h, _ => by cases h; exact .nil
  | t :: ts, _, h, o => by
    unfold T.ownAll at o
    simp only [Bool.and_eq_true] at o
    cases h with
    | cons h1 h2 => exact .cons (Rep.free0 hL t _ h1 o.1) (Reps.free0 hL ts _ h2 o.2)
end
theorem post_pure {W : Wd} {H : Hp} {Q : VK} {E : XK} {r : RS} (s : StOk G.K W H) (p : Post G (RT G) W H Q E (pureEnd W.st r)) :
    PostS G (fun cls d _ H' => E cls d H') { nx := fun _ H' => Q .non H', rt := Q } (aside W) H r := by
  cases r with
  | nx ρ st =>
    intro σ W' H' e x s' en
    dsimp only [pureEnd] at p
    obtain ⟨x2, s2⟩ := back_ok s x s'
    exact p .non { W with L := W'.L } H' rfl x2 s2 .non
  | ret t st =>
    intro v W' H' e x s' rv
    dsimp only [pureEnd] at p
    split at p
    · rename_i hk
      obtain ⟨x2, s2⟩ := back_ok s x s'
      exact p v { W with L := W'.L } H' rfl x2 s2 (Rep.free0 (W := W') (W' := { W with L := W'.L }) rfl _ _ rv hk)
    · exact p.elim
  | brk ρ st => exact p.elim
  | cnt ρ st => exact p.elim
  | exc k' xs ρ st =>
    intro cls d σ W' H' e x s' en q
    dsimp only [pureEnd] at p
    split at p
    · rename_i hk
      obtain ⟨x2, s2⟩ := back_ok s x s'
      refine p cls d { W with L := W'.L } H' rfl x2 s2 ?_
      obtain ⟨q1, q2⟩ := q
      refine ⟨q1, ?_⟩
      rcases q2 with q2 | ⟨dd, v, t, h1, h2, h3, h4, h5⟩
      · exact .inl q2
      · subst h2
        unfold T.ownAll at hk
        simp only [Bool.and_eq_true] at hk
        exact .inr ⟨dd, v, t, h1, rfl, h3, h4, Rep.free0 (W := W') (W' := { W with L := W'.L }) rfl _ _ h5 hk.1⟩
    · exact p.elim
  | bad => exact p.elim
theorem EnvR.start {W : Wd} {H : Hp} {N : List Str} {vs : List V} {ts : List T} {nl : Nat} (hN : N.length = nl) (r : Reps G.K W H vs ts) : EnvR G.K W H (L2.start N vs) (ts.map some ++ List.replicate (nl - ts.length) none) := by
  subst hN
  unfold L2.start
  refine ⟨by simp [r.length], fun i t h => ?_⟩
  by_cases hi : i < ts.length
  · rw [List.getElem?_append_left (by simpa using hi), List.getElem?_map] at h
    cases e : ts[i]? with
    | none => rw [e] at h; cases h
    | some u =>
      rw [e] at h; cases h
      obtain ⟨v, h1, h2⟩ := r.get e
      refine ⟨v, ?_, h2⟩
      rw [List.getElem?_append_left (by rw [List.length_map, r.length]; exact hi), List.getElem?_map, h1]
      rfl
  · rw [List.getElem?_append_right (by simpa using hi)] at h
    rw [List.getElem?_replicate] at h
    split at h <;> cases h
end

/-! ### the family -/
/-- a def as the law's text has it -/
structure Df where
  x : Str
  params : Arguments
  body : List Stmt
  scope : Scope
  N : List Str
/-- the def stands in the written part, under its name -/
structure DefAt (K : PySem.W.Frag) (mg : Str → Option Value) (d : Df) (fa : Addr) (fd : FuncData) : Prop where
  ex : ∃ (oc : Value) (od : Option Addr) (kV doc pm cdv ct : Value) (an : Option Addr) (osl : Array (Option Value)),
    fd = PySem.W.fnOf d.x d.x d.params d.body d.scope .none kV doc pm an cdv ct ∧ K.lookup fa = some ⟨oc, od, .func fd, osl⟩ ∧ PySem.W.codeIn K cdv d.x = true
  mgf : mg d.x = some (.ref fa)
  kp : PySem.W.keepIn K (.ref fa) = true
/-- the look at one def -/
def chkDef (L : Lw) (d : Df) (ps : List Str) (fn : Fn) : Bool :=
  C8.scC d.N ps d.scope && plainArgs d.params ps && decide (d.N.length = fn.nl) && decide (ps.length = fn.np) && chkSs L ⟨d.N, d.scope, fun _ => true⟩ fn.body d.body
section
variable {P : Program} {w : World} {K : PySem.W.Frag} {mg : Str → Option Value} {base : Heap} {L : Lw} {G : Gx} {Φ : Nat → Option Fn} {g : Nat → T}
theorem fam (hK : K = G.K) (bt : ∀ x ∈ blts, mg x = none) (gls : ∀ (i : Nat) (x : Str), L.gs.lookup i = some x → ∃ u, mg x = some u ∧ GlobIs G u (g i))
    (hd : ∀ (f : Nat) (x : Str) (ps : List Str), L.fs.lookup f = some (x, ps) → ∃ d fa fd, d.x = x ∧ DefAt K mg d fa fd ∧ plainArgs d.params ps = true ∧ ∀ fn, Φ f = some fn → chkDef L d ps fn = true) :
    ∀ (n f : Nat) (x : Str) (ps : List Str), L.fs.lookup f = some (x, ps) → ∀ (d : Df) (fa : Addr) (fd : FuncData), DefAt K mg d fa fd → (∀ fn, Φ f = some fn → chkDef L d ps fn = true) → FnG P w K mg base n fa fd ps (spT G ps.length (callF Φ g n f)) := by
  intro n
  induction n with
  | zero => 
    intro f x ps hf d fa fd D hc
    exact ⟨fun vs H Q E h => h.1, fun A outer s H args us vs Q E _ _ _ _ _ ⟨_, W, ts, _, _, p⟩ => p.elim⟩
  | succ n ih =>
    intro f x ps hf d fa fd D hc
    obtain ⟨oc, od, kV, doc, pm, cdv, ct, an, osl, rfl, lk, hcd⟩ := D.ex
    cases hΦ : Φ f with
    | none =>
      refine ⟨fun vs H Q E h => h.1, fun A outer s H args us vs Q E _ _ _ _ _ ⟨_, W, ts, _, _, p⟩ => ?_⟩
      unfold callF at p
      rw [hΦ] at p
      exact p.elim
    | some fn =>
      have hck := hc fn hΦ
      unfold chkDef at hck
      simp only [Bool.and_eq_true, decide_eq_true_eq] at hck
      obtain ⟨⟨⟨⟨c1, c2⟩, c3⟩, c4⟩, c5⟩ := hck
      have S := C8.fnScope_by c1
      refine fnG_of lk hcd S (fun vs H Q E h => h.1) fun A outer s H vs Q E hr hgd ⟨hl, W, ts, so, r, p⟩ => ?_
      refine ⟨tS G (fun cls d _ H' => E cls d H') (evSs ⟨callF Φ g n, g⟩ fn.body), ?_, ?_⟩
      · refine snd_Ss (L := L) (k := n) fn.body ⟨d.N, d.scope, fun _ => true⟩ d.body _ _ ?_ (passes_of rfl) c5
        refine ⟨rfl, S.nd, rfl, fun _ _ => rfl, rfl, hK, hr, hgd, takes_of rfl rfl rfl rfl, bt, fun f' x' ps' hf' => ?_, gls⟩
        obtain ⟨d', fa', fd', hx, D', hpl, hc'⟩ := hd f' x' ps' hf'
        obtain ⟨oc', od', kV', doc', pm', cdv', ct', an', osl', e', lk', hcd'⟩ := D'.ex
        refine ⟨fa', fd', ih f' x' ps' hf' d' fa' fd' D' hc', ?_, ?_, hx ▸ D'.mgf, D'.kp⟩
        · subst e'; exact hpl
        · subst e'; rfl
      · have p' : Post G (RT G) W H Q E (if ts.length = fn.np then (if fn.pu = true then (if T.ownAll 0 ts = true then pureEnd W.st (evSs ⟨callF Φ g n, g⟩ fn.body (frame fn ts) []) else .bad)
            else finish fn.kp W.st (evSs ⟨callF Φ g n, g⟩ fn.body (frame fn ts) W.st)) else .bad) := by
          unfold callF at p
          rw [hΦ] at p
          exact p
        have hlt : ts.length = fn.np := by rw [← r.length, hl, c4]
        rw [if_pos hlt] at p'
        have ef : frame fn ts = ts.map some ++ List.replicate (fn.nl - ts.length) none := by unfold frame; rw [hlt]
        rw [ef] at p'
        split at p'
        · split at p'
          · rename_i ho
            exact ⟨aside W, _, aside_ok so, EnvR.start c3 (Reps.free0 (W := W) (W' := aside W) rfl _ _ r ho), post_pure so p'⟩
          · exact p'.elim
        · exact ⟨W, _, so, EnvR.start c3 r, post_fin so p'⟩
end
end Lm
/-! From a def of the family to the law's own promise. -/
namespace Lm
open PySem PySem.Spec PyProof.Rows L2

/-- the promise of a def of the family, at the first call of all -/
theorem law_go {P : Program} {w : World} {K : PySem.W.Frag} {mg mb : Str → Option Value} {k : Nat} {fa a : Addr} {fd : FuncData} {x : Str} {sp : Sp} {s₁ : Shared} {vs : List Value} {ns : List Int}
    (KX : K.In s₁.heap) (hns : s₁.heap.Ns mainGlobals mg) (hb : s₁.heap.Ns builtinsNs mb) (hbb : ∀ x : Str, x ≠ "__name__" → mb x = bootBuiltins x) (hlim : s₁.heap.NoLimit) (hg : s₁.gens = #[])
    (ha : s₁.heap.get? a = some { cls := .type "list", data := .seq vs.toArray }) (hi : IntsAre vs ns) (hl : ns.length ≤ sizeLine) (hr : Room k callerA)
    (F : ∀ base : Heap, K.In base → base.Ns mainGlobals mg → FnG P w K mg base k fa fd [x] sp) (hbind : ∀ (s : Shared) (u : Value), BindsTo s fd ⟨[u], []⟩ [(x, u)])
    (hsp : ∀ H : Hp, Only H → SqL K H a (ns.map V.int) → sp [.ref a] H (fun v _ => v = .bl true) fun _ _ _ => False) :
    codeAny (model P w) callerA (.call (.ref fa) ⟨[.ref a], []⟩) (fun r s' => r = .ok (.ret (.bool true)) ∧ OldK s₁.heap s'.heap ∧ s'.os = s₁.os ∧ AllBare s'.gens) s₁ := by
  have rv := vals_ints hi
  have lenV := hi.length
  have main : ∀ H : Hp, Only H → SqL K H a (ns.map V.int) → HOk P w H s₁.heap → (∀ b, H b ≠ none → b = a) → (H a ≠ none → K.lookup a = none) →
      codeAny (model P w) callerA (.call (.ref fa) ⟨[.ref a], []⟩) (fun r s' => r = .ok (.ret (.bool true)) ∧ OldK s₁.heap s'.heap ∧ s'.os = s₁.os ∧ AllBare s'.gens) s₁ := by
    intro H hO hS hok hA hK
    have isA : ∀ {b : Addr} {u : HO}, H b = some u → b = a := fun {b u} q => hA b (by rw [q]; simp)
    have isK : ∀ {b : Addr} {u : HO}, H b = some u → K.lookup b = none := fun {b u} q => by
      have e := isA q
      subst e
      exact hK (by rw [q]; simp)
    have at_base : ∀ {b : Addr} {o : Obj}, s₁.heap.get? b = some o → H b = none → (hidT s₁.heap H).get? b = some o := fun e n => hidT_get e n
    have no_dict : ∀ {b : Addr} {o : Obj} {es : Array DictEntry} {ep : Nat}, s₁.heap.get? b = some o → o.data = .dict es ep → H b = none := fun {b o es ep} e d => by
      cases q : H b with
      | none => rfl
      | some u =>
        have e2 := isA q
        subst e2
        rw [ha] at e
        cases e
        cases (show Data.seq vs.toArray _ = Data.dict es ep from d)
    have ns_base : ∀ {b : Addr} {m : Str → Option Value}, s₁.heap.Ns b m → (hidT s₁.heap H).Ns b m := fun {b m} ⟨o, es, ep, e, d, r⟩ => ⟨o, es, ep, at_base e (no_dict e d), d, r⟩
    have k_base : K.In (hidT s₁.heap H) := fun b o e => at_base (KX b o e) (by
      cases q : H b with
      | none => rfl
      | some u => rw [isK q] at e; cases e)
    have hM : Mod K mg (hidT s₁.heap H) := ⟨k_base, ns_base hns, ⟨mb, ns_base hb, hbb⟩, by obtain ⟨mc, h1, h2⟩ := hlim; exact ⟨mc, ns_base h1, h2⟩⟩
    have e0 : Env0 P w K mg (hidT s₁.heap H) callerA [] s₁ H := ⟨rfl, hM, fun b o e => of_hidT e, Nat.le_of_eq (hidT_size _ _), trivial, fun b hb => absurd (show b ∈ ([] : List Addr) from hb) (by simp), hok, .of_eq hg⟩
    refine codeAny_mono ((F _ k_base (ns_base hns)).run callerA [] s₁ H ⟨[.ref a], []⟩ [.ref a] [.ref a] _ _ hr rfl e0 (hbind s₁ (.ref a)) (.cons rfl .nil) (hsp H hO hS)) fun r s' h => ?_
    cases r with
    | error e =>
      obtain ⟨_, _, _, _, _, _, _, _, _, _, _, _, z⟩ := (show L2.CX P w [] H s₁ (fun _ _ _ => False) e s' from h)
      exact z.elim
    | ok fl =>
      cases fl with
      | next => exact False.elim h
      | brk => exact False.elim h
      | cont => exact False.elim h
      | ret u =>
        obtain ⟨v, H', os, bare, un, hok', r', q⟩ := h
        have q' : v = .bl true := q
        subst q'
        obtain rfl : u = Value.bool true := r'
        refine ⟨rfl, OldK.of_keep fun b o e => ?_, os, bare⟩
        cases q2 : H b with
        | none => exact un.keep b o e q2 (by intro z; exact absurd (show b ∈ ([] : List Addr) from z) (by simp)) (by simp)
        | some u =>
          rcases hO b with z | ⟨ob, xs, z⟩
          · rw [q2] at z; cases z
          · obtain ⟨e1, _⟩ := hok b _ z
            obtain ⟨e2, _⟩ := hok' b _ (un.frzs b ob _ z)
            rw [e] at e1
            cases e1
            exact e2
  cases hk : K.lookup a with
  | some o =>
    have e := KX a o hk
    rw [ha] at e
    cases e
    exact main (fun _ => none) (fun _ => .inl rfl) (.inr ⟨_, vs.toArray, _, hk, rfl, rfl, rfl, by rw [List.size_toArray, lenV]; exact hl, by simpa using rv⟩) (fun b u z => nomatch (show (none : Option HO) = some u from z)) (fun b z => absurd rfl z) fun z => absurd rfl z
  | none =>
    let o0 : Obj := { cls := .type "list", data := .seq vs.toArray }
    refine main (fun b => if b = a then some (.frz o0 (.lst (ns.map V.int))) else none) (fun b => ?_) (.inl (.inr ⟨o0, if_pos rfl⟩)) (fun b u z => ?_) (fun b z => ?_) fun _ => hk
    · by_cases hb : b = a
      · exact .inr ⟨_, _, if_pos hb⟩
      · exact .inl (if_neg hb)
    · by_cases hb : b = a
      · cases (if_pos hb).symm.trans z
        subst hb
        exact ⟨ha, by rw [List.length_map]; exact hl, vs, _, rv, ha⟩
      · cases (if_neg hb).symm.trans z
    · by_cases hb : b = a
      · exact hb
      · exact absurd (if_neg hb) z

/-- the law's def answers True at every script -/
def Yes (Φ : Nat → Option Fn) (g : Nat → T) (N f : Nat) (n : Nat) : Prop := ∀ ns : List Int, ns.length ≤ n → ∃ st, callF Φ g N f [.scr ns] [] = .ok (.bl true) st
theorem yes_sp {G : Gx} {Φ : Nat → Option Fn} {g : Nat → T} {N f n : Nat} (y : Yes Φ g N f n) {H : Hp} {a : Addr} {ns : List Int} (hl : ns.length ≤ n) (hO : Only H) (hS : SqL G.K H a (ns.map V.int)) :
    spT G 1 (callF Φ g N f) [.ref a] H (fun v _ => v = .bl true) fun _ _ _ => False := by
  obtain ⟨st, e⟩ := y ns hl
  let W : Wd := ⟨fun _ => 0, [], fun _ => False⟩
  have so : StOk G.K W H := ⟨fun i j oi oj h => by simp [W] at h, fun i o h => by simp [W] at h, fun i o h => by simp [W] at h, fun a h => h.elim⟩
  refine ⟨rfl, W, [.scr ns], so, .cons (.scr ?_) .nil, ?_⟩
  · rcases hS with (h | ⟨o, h⟩) | h
    · rcases hO a with z | ⟨o, xs, z⟩
      · rw [h] at z; cases z
      · rw [h] at z; cases z
    · exact .inl ⟨⟨o, h⟩, fun z => z⟩
    · exact .inr h
  · show Post G (RT G) W H _ _ (callF Φ g N f [.scr ns] [])
    rw [e]
    intro v W' H' _ _ _ r
    cases r; rfl
theorem walkG {l : PySem.W.OpenLaw} {n k : Nat} {q : Program} {loose : List Str} {XP : (Str → Option Value) → Heap → Prop} {YP : World → Heap → Prop} {d : DefRec} {K : Params → PySem.W.Frag} {x : Str} {Φ : Nat → Option Fn} {f : Nat}
    (hn : l.most = some n) (hn2 : n ≤ sizeLine) (hdf : d.params.defaults = []) (hr : Room k callerA)
    (hY : ∀ (w : World) (h : Heap), YP w h → (K w.params).In h) (g : Nat → T) (y : Yes Φ g k f n) (ca : Nat → Addr) (an : Nat → Str)
    (F : ∀ (w : World) (mg : Str → Option Value) (fa : Addr) (h : Heap), (K w.params).In h → h.Ns mainGlobals mg → mg d.name = some (.ref fa) →
      ∃ fd : FuncData, (∀ (s : Shared) (u : Value), BindsTo s fd ⟨[u], []⟩ [(x, u)]) ∧
        ∀ base : Heap, (K w.params).In base → base.Ns mainGlobals mg → FnG l.prog w (K w.params) mg base k fa fd [x] (spT ⟨K w.params, ca, an⟩ 1 (callF Φ g k f))) :
    PySem.W.WalkO q loose XP YP l.row.toRowW d [] (fun f vs => PySem.call f vs) := by
  refine Att.attach_call hn hdf fun w s₀ s₁ mg mb fa o pm cd doc a vs ns G Y ho hd hcd hmg hobj hints hlen hg => ?_
  have KX := hY w _ Y
  obtain ⟨fd, hb, hF⟩ := F w mg fa _ KX G.T.g hmg
  exact law_go KX G.T.g G.T.b G.T.builtins G.T.nolimit hg hobj hints (Nat.le_trans hlen hn2) hr hF hb fun H hO hS => yes_sp (G := ⟨K w.params, ca, an⟩) y hlen hO hS

/-! ### what the top has written -/
def argsOf (s : Stmt) : Arguments := L2.defArgs s
/-- one def of the family: where it stands, that it is what its short form says -/
structure DfOk (K : PySem.W.Frag) (mg : Str → Option Value) (L : Lw) (Φ : Nat → Option Fn) (f : Nat) (x : Str) (ps : List Str) : Prop where
  ex : ∃ d fa fd, d.x = x ∧ DefAt K mg d fa fd ∧ plainArgs d.params ps = true ∧ ∀ fn, Φ f = some fn → chkDef L d ps fn = true
inductive DfAll (K : PySem.W.Frag) (mg : Str → Option Value) (L : Lw) (Φ : Nat → Option Fn) : List (Nat × Str × List Str) → Prop where
  | nil : DfAll K mg L Φ []
  | cons {f : Nat} {x : Str} {ps : List Str} {r : List (Nat × Str × List Str)} : DfOk K mg L Φ f x ps → DfAll K mg L Φ r → DfAll K mg L Φ ((f, x, ps) :: r)
theorem DfAll.get {K : PySem.W.Frag} {mg : Str → Option Value} {L : Lw} {Φ : Nat → Option Fn} : ∀ {l : List (Nat × Str × List Str)}, DfAll K mg L Φ l → ∀ (f : Nat) (x : Str) (ps : List Str), l.lookup f = some (x, ps) → DfOk K mg L Φ f x ps
  | _, .nil, f, x, ps, h => by cases h
  | _, .cons (f := f') d r, f, x, ps, h => by
    simp only [List.lookup] at h
    split at h
    · rename_i e
      cases h
      have : f = f' := by simpa using e
      subst this
      exact d
    · exact DfAll.get r f x ps h
def chkAt (L : Lw) (s : Stmt) (x : Str) (N ps : List Str) (fn : Fn) : Bool := plainArgs (L2.defArgs s) ps && chkDef L ⟨x, L2.defArgs s, L2.defBody s, L2.defScope s, N⟩ ps fn
theorem df_mk {K : PySem.W.Frag} {h : Heap} {mg : Str → Option Value} {L : Lw} {Φ : Nat → Option Fn} {f : Nat} {x : Str} {ps N : List Str} {fn : Fn} {s : Stmt} (X : K.In h) (G : h.Ns mainGlobals mg) (hf : Φ f = some fn) (hc : chkAt L s x N ps fn = true)
    {fa : Addr} {od an : Option Addr} {sl : Array (Option Value)} {oc kV dc pm cd ct : Value}
    (a : PySem.W.nsIn K mainGlobals x = some (some (.ref fa))) (lk : K.lookup fa = some ⟨oc, od, .func (PySem.W.fnOf x x (L2.defArgs s) (L2.defBody s) (L2.defScope s) .none kV dc pm an cd ct), sl⟩)
    (c : PySem.W.codeIn K cd x = true) (k : PySem.W.keepIn K (.ref fa) = true) : DfOk K mg L Φ f x ps := by
  unfold chkAt at hc
  simp only [Bool.and_eq_true] at hc
  refine ⟨⟨⟨x, L2.defArgs s, L2.defBody s, L2.defScope s, N⟩, fa, _, rfl, ⟨⟨oc, od, kV, dc, pm, cd, ct, an, sl, rfl, lk, c⟩, PySem.W.mg_of X G a, k⟩, hc.1, fun fn' h' => ?_⟩⟩
  rw [hf] at h'
  cases h'
  exact hc.2
/-- names that the text leaves to Python -/
inductive NoAll (K : PySem.W.Frag) : List Str → Prop where
  | nil : NoAll K []
  | cons {x : Str} {r : List Str} : PySem.W.nsIn K mainGlobals x = some none → NoAll K r → NoAll K (x :: r)
theorem NoAll.get {K : PySem.W.Frag} {h : Heap} {mg : Str → Option Value} (X : K.In h) (G : h.Ns mainGlobals mg) : ∀ {l : List Str}, NoAll K l → ∀ x ∈ l, mg x = none
  | _, .nil, x, hx => by cases hx
  | _, .cons e r, x, hx => by
    rcases List.mem_cons.mp hx with rfl | hx
    · exact PySem.W.mg_none_of X G e
    · exact NoAll.get X G r x hx
/-- constants of the text -/
inductive GlAll (G : Gx) (mg : Str → Option Value) (g : Nat → T) : List (Nat × Str) → Prop where
  | nil : GlAll G mg g []
  | cons {i : Nat} {x : Str} {r : List (Nat × Str)} {u : Value} : mg x = some u → GlobIs G u (g i) → GlAll G mg g r → GlAll G mg g ((i, x) :: r)
theorem GlAll.get {G : Gx} {mg : Str → Option Value} {g : Nat → T} : ∀ {l : List (Nat × Str)}, GlAll G mg g l → ∀ (i : Nat) (x : Str), l.lookup i = some x → ∃ u, mg x = some u ∧ GlobIs G u (g i)
  | _, .nil, i, x, h => by cases h
  | _, .cons (i := i') e1 e2 r, i, x, h => by
    simp only [List.lookup] at h
    split at h
    · rename_i e
      cases h
      have : i = i' := by simpa using e
      subst this
      exact ⟨_, e1, e2⟩
    · exact GlAll.get r i x h
theorem glob_int {G : Gx} {i : Int} {t : Tok} : GlobIs G (.int i t) (.int i) := ⟨.int i, ⟨t, rfl⟩, fun _ _ => .int i⟩
theorem glob_str {G : Gx} {s : Str} {t : Tok} : GlobIs G (.str s t) (.str s) := ⟨.str s, ⟨t, rfl⟩, fun _ _ => .str s⟩
inductive GlobsAre (G : Gx) : List Value → List T → Prop where
  | nil : GlobsAre G [] []
  | cons {u : Value} {t : T} {us : List Value} {ts : List T} : GlobIs G u t → GlobsAre G us ts → GlobsAre G (u :: us) (t :: ts)
theorem GlobsAre.reps {G : Gx} : ∀ {us : List Value} {ts : List T}, GlobsAre G us ts → ∃ vs, Vals vs us ∧ ∀ W H, Reps G.K W H vs ts
  | _, _, .nil => ⟨[], .nil, fun _ _ => .nil⟩
  | _, _, .cons ⟨v, r, h⟩ t => by
    obtain ⟨vs, h1, h2⟩ := GlobsAre.reps t
    exact ⟨v :: vs, .cons r h1, fun W H => .cons (h W H) (h2 W H)⟩
theorem glob_tup {G : Gx} {a : Addr} {dd : Option Addr} {its : Array Value} {n : Nat} {sl : Array (Option Value)} {ts : List T} (lk : G.K.lookup a = some ⟨.type "tuple", dd, .seq its n, sl⟩) (hz : its.size ≤ sizeLine) (h : GlobsAre G its.toList ts) : GlobIs G (.ref a) (.tup ts) := by
  obtain ⟨vs, h1, h2⟩ := h.reps
  exact ⟨.ref a, rfl, fun W H => .tup (.inr ⟨_, its, n, lk, rfl, rfl, hz, h1⟩) (h2 W H)⟩
/-- THE END: the law from its answers and from the facts of the top -/
theorem fd_of {K : PySem.W.Frag} {mg : Str → Option Value} {P : Program} {w : World} {h : Heap} {L : Lw} {Φ : Nat → Option Fn} {g : Nat → T} {ca : Nat → Addr} {an : Nat → Str} {f k : Nat} {x y : Str} {fa : Addr} (X : K.In h) (G : h.Ns mainGlobals mg)
    (hd : DfAll K mg L Φ L.fs) (hb : NoAll K blts) (hg : GlAll ⟨K, ca, an⟩ mg g L.gs) (hf : L.fs.lookup f = some (x, [y])) (hmg : mg x = some (.ref fa)) :
    ∃ fd : FuncData, (∀ (s : Shared) (u : Value), BindsTo s fd ⟨[u], []⟩ [(y, u)]) ∧ ∀ base : Heap, K.In base → base.Ns mainGlobals mg → FnG P w K mg base k fa fd [y] (spT ⟨K, ca, an⟩ 1 (callF Φ g k f)) := by
  obtain ⟨d, fa', fd, hx, D, hpl, hc⟩ := (hd.get f x [y] hf).ex
  have e : fa' = fa := by
    have := D.mgf
    rw [hx, hmg] at this
    cases this; rfl
  subst e
  refine ⟨fd, fun s u => ?_, fun base _ _ => fam (G := ⟨K, ca, an⟩) rfl (hb.get X G) hg.get (fun f' x' ps' h' => (hd.get f' x' ps' h').ex) k f x [y] hf d fa' fd D hc⟩
  obtain ⟨oc, od, kV, doc, pm, cdv, ct, an', osl, rfl, lk, hcd⟩ := D.ex
  have := binds_to (ps := [y]) (kn := []) (pm := List.range 1) (us := [u]) (ws := []) (fd := PySem.W.fnOf d.x d.x d.params d.body d.scope .none kV doc pm an' cdv ct) hpl rfl rfl (by simp [binds, arrN, List.lookup, pick])
  exact .of_eq this
end Lm
/-! The draws of the laws: plain facts. -/
namespace Lm
open PySem

mutual
theorem beqT_refl : ∀ t : T, T.beq t t = true
  | .non => rfl
  | .bl b => by unfold T.beq; simp
  | .int i => by unfold T.beq; simp
  | .str s => by unfold T.beq; simp
  | .tup xs => by unfold T.beq; exact beqsT_refl xs
  | .lst xs => by unfold T.beq; exact beqsT_refl xs
  | .obj n => by unfold T.beq; simp
  | .scr n => by unfold T.beq; simp
  | .exc a xs => by unfold T.beq; simp [beqsT_refl xs]
theorem beqsT_refl : ∀ ts : List T, T.beqs ts ts = true
  | [] => rfl
  | t :: ts => by unfold T.beqs; rw [beqT_refl t, beqsT_refl ts]; rfl
end
theorem kvSame_refl {κ : Type} [DecidableEq κ] : ∀ l : List (κ × T), kvSame l l = true
  | [] => rfl
  | p :: l => by unfold kvSame; rw [beqT_refl, kvSame_refl l]; simp
/-- objects that no instance is among -/
def noIns : Sto → Bool
  | [] => true
  | .ins _ _ :: _ => false
  | _ :: r => noIns r
theorem keepOk_app (n : Nat) : ∀ (st r : Sto), noIns st = true → keepOk n st (st ++ r) = true
  | [], r, _ => by cases r <;> rfl
  | o :: st, r, h => by
    have h' : noIns st = true := by cases o <;> first | exact h | cases h
    show ((obOwn n o || obSame o o) && keepOk n st (st ++ r)) = true
    rw [keepOk_app n st r h']
    have : obSame o o = true := by
      cases o with
      | dead => rfl
      | lst ts => exact beqsT_refl ts
      | dK kvs => exact kvSame_refl kvs
      | dT kvs => exact kvSame_refl kvs
      | ins _ _ => cases h
    rw [this]; simp
theorem keepOk_set (n : Nat) (o : Ob) (ho : obOwn n o = true) : ∀ (st : Sto) (i : Nat), noIns st = true → keepOk n st (st.set i o) = true
  | [], i, _ => rfl
  | x :: st, 0, h => by
    have h' : noIns st = true := by cases x <;> first | exact h | cases h
    show ((obOwn n o || obSame x o) && keepOk n st st) = true
    have := keepOk_app n st [] h'
    rw [List.append_nil] at this
    rw [this, ho]; rfl
  | x :: st, i + 1, h => by
    have h' : noIns st = true := by cases x <;> first | exact h | cases h
    show ((obOwn n x || obSame x x) && keepOk n st (st.set i o)) = true
    rw [keepOk_set n o ho st i h']
    have : obSame x x = true := by
      cases x with
      | dead => rfl
      | lst ts => exact beqsT_refl ts
      | dK kvs => exact kvSame_refl kvs
      | dT kvs => exact kvSame_refl kvs
      | ins _ _ => cases h
    rw [this]; simp
theorem noIns_set (ts : List T) : ∀ (st : Sto) (i : Nat), noIns st = true → noIns (st.set i (.lst ts)) = true
  | [], i, _ => rfl
  | x :: st, 0, h => by cases x <;> first | exact h | cases h
  | x :: st, i + 1, h => by
    have h' : noIns st = true := by cases x <;> first | exact h | cases h
    have := noIns_set ts st i h'
    cases x <;> first | exact this | cases h
def box (a b c : Int) : Ob := .lst [.int a, .int b, .int c]
/-- _law_take, its own number k -/
def bTake (k : Nat) : Ss :=
 (.cons (.ife (.cmp (.idx (.v 0) (.lit (.int 0))) (.one .gt (.lit (.int 0))))
 (.cons (.set 4 (.bin .mod (.idx (.v 0) (.lit (.int 0))) (.v 1)))
 (.cons (.setIx (.v 0) (.lit (.int 0)) (.bin .fdiv (.idx (.v 0) (.lit (.int 0))) (.v 1)))
 (.cons (.ret (.v 4))
 .nil)))
 .nil)
 (.cons (.ife (.cmp (.v 1) (.one .gt (.bin .pow (.lit (.int 10)) (.lit (.int 7)))))
 (.cons (.ret (.bin .mod (.bin .add (.call k (.cons (.v 0) (.cons (.bin .pow (.lit (.int 10)) (.lit (.int 7))) .nil)) .nil [] []) (.bin .mul (.bin .pow (.lit (.int 10)) (.lit (.int 7))) (.call k (.cons (.v 0) (.cons (.bin .add (.bin .fdiv (.v 1) (.bin .pow (.lit (.int 10)) (.lit (.int 7)))) (.lit (.int 1))) .nil)) .nil [] []))) (.v 1)))
 .nil)
 .nil)
 (.cons (.setIx (.v 0) (.lit (.int 2)) (.bin .add (.idx (.v 0) (.lit (.int 2))) (.lit (.int 1))))
 (.cons (.set 2 (.bin .mod (.bin .mul (.bin .add (.idx (.v 0) (.lit (.int 1))) (.bin .mul (.lit (.int 48271)) (.idx (.v 0) (.lit (.int 2))))) (.bin .add (.lit (.int 39373)) (.idx (.v 0) (.lit (.int 2))))) (.lit (.int 2147483647))))
 (.cons (.set 3 (.bin .mod (.bin .mul (.bin .add (.bin .add (.v 2) (.idx (.v 0) (.lit (.int 2)))) (.bin .fdiv (.idx (.v 0) (.lit (.int 1))) (.lit (.int 1000003)))) (.bin .add (.bin .mod (.v 2) (.lit (.int 40009))) (.lit (.int 7)))) (.lit (.int 2147483629))))
 (.cons (.ret (.bin .mod (.bin .fdiv (.bin .mod (.bin .add (.bin .mul (.v 3) (.lit (.int 48271))) (.v 2)) (.lit (.int 2147483587))) (.lit (.int 64))) (.v 1)))
 .nil))))))
def fTake (k : Nat) : Fn := ⟨2, 5, false, false, bTake k⟩
theorem mulOk_r {i j : Int} (h : -(2 ^ 64) < j ∧ j < 2 ^ 64) : mulOk i j = true := by
  unfold mulOk
  rw [decide_eq_true (p := -(2 ^ 64) < j ∧ j < 2 ^ 64) h]
  simp
theorem get_set {st : Sto} {i : Nat} {o o' : Ob} (h : st[i]? = some o) : (st.set i o')[i]? = some o' := by
  rw [List.getElem?_set]
  have := (List.getElem?_eq_some_iff.mp h).1
  simp [this]
theorem items_box {st : Sto} {i : Nat} {x y z : Int} (h : st[i]? = some (box x y z)) : items st (.obj i) = some [.int x, .int y, .int z] := by
  have : deref st (.obj i) = .lst [.int x, .int y, .int z] := by
    show (match st[i]? with | some (.lst xs) => T.lst xs | _ => .obj i) = _
    rw [h]; rfl
  unfold items
  rw [this]
theorem ix0 (a b c : T) : ixOf [a, b, c].length 0 = some 0 := rfl
theorem ix1 (a b c : T) : ixOf [a, b, c].length 1 = some 1 := rfl
theorem ix2 (a b c : T) : ixOf [a, b, c].length 2 = some 2 := rfl
theorem setIx_box {st : Sto} {i : Nat} {x y z v : Int} (h : st[i]? = some (box x y z)) : setIxF (.obj i) (.int 0) (.int v) st = some (st.set i (box v y z)) ∧ setIxF (.obj i) (.int 2) (.int v) st = some (st.set i (box x y v)) := by
  constructor
  · show (match st[i]? with | some (.lst xs) => (match ixOf xs.length 0 with | some j => some (st.set i (.lst (xs.set j (.int v)))) | none => none) | _ => none) = _
    rw [h]; rfl
  · show (match st[i]? with | some (.lst xs) => (match ixOf xs.length 2 with | some j => some (st.set i (.lst (xs.set j (.int v)))) | none => none) | _ => none) = _
    rw [h]; rfl
theorem take_box {Φ : Nat → Option Fn} {g : Nat → T} {n k i : Nat} {m a b c : Int} {st : Sto} (hΦ : Φ k = some (fTake k)) (hn : noIns st = true) (hi : st[i]? = some (box a b c)) (m0 : 0 < m) (m1 : m ≤ 10000000) (b0 : 0 ≤ b) (b1 : b < 2 ^ 62) (c0 : 0 ≤ c) (c1 : c < 1000000) :
    ∃ r a' c', callF Φ g (n + 1) k [.obj i, .int m] st = .ok (.int r) (st.set i (box a' b c')) ∧ 0 ≤ r ∧ r < m ∧ c ≤ c' ∧ c' ≤ c + 1 := by
  have body : callF Φ g (n + 1) k [.obj i, .int m] st = finish false st (evSs ⟨callF Φ g n, g⟩ (bTake k) [some (.obj i), some (.int m), none, none, none] st) := by
    unfold callF
    rw [hΦ]; rfl
  rw [body]
  generalize hcf : (⟨callF Φ g n, g⟩ : Cf) = cf
  -- the end: one box is changed
  have fin : ∀ (r x y z : Int), finish false st (.ret (.int r) (st.set i (box x y z))) = .ok (.int r) (st.set i (box x y z)) := fun r x y z => by
    show (if (false : Bool) = true then R.ok (T.int r) (st.set i (box x y z)) else if (T.own st.length (T.int r) && keepOk st.length st (st.set i (box x y z))) = true then R.ok (T.int r) ((st.set i (box x y z)).take st.length) else .bad) = _
    rw [if_neg (by decide), if_pos (by rw [keepOk_set st.length (box x y z) rfl st i hn]; rfl), List.take_of_length_le (by rw [List.length_set]; exact Nat.le_refl _)]
  have it := items_box hi
  by_cases ha : 0 < a
  · refine ⟨a % m, a / m, c, ?_, Int.emod_nonneg _ (by omega), Int.emod_lt_of_pos _ m0, Int.le_refl _, by omega⟩
    rw [← fin (a % m) (a / m) b c]
    congr 1
    have fd : fdivOk m = true := by
      unfold fdivOk
      rw [decide_eq_true m0, decide_eq_true (show m < 1073741824 by omega)]; rfl
    simp only [bTake, evSs, evS, evE, evCs, R.bnd_ok, R.then_ok, it, ix0, ix1, ix2, cmpop, R.lift_some, Lit.t, deref, decide_eq_true ha, List.getElem?_cons_zero, List.getElem?_cons_succ, List.set_cons_succ, List.set_cons_zero, binop, if_pos m0, if_pos fd, (setIx_box (v := a / m) hi).1]
  · have ha' : decide (0 < a) = false := decide_eq_false ha
    have hm : decide (10000000 < m) = false := decide_eq_false (by omega)
    have s1 := (setIx_box (v := c + 1) hi).2
    have hi1 : (st.set i (box a b (c + 1)))[i]? = some (box a b (c + 1)) := get_set hi
    have it1 := items_box hi1
    have k1 : mulOk 48271 (c + 1) = true := mulOk_r (by omega)
    have k2 : mulOk (b + 48271 * (c + 1)) (39373 + (c + 1)) = true := mulOk_r (by omega)
    generalize ho : (b + 48271 * (c + 1)) * (39373 + (c + 1)) % 2147483647 = o
    have o0 : 0 ≤ o := by rw [← ho]; exact Int.emod_nonneg _ (by omega)
    have o1 : o < 2147483647 := by rw [← ho]; exact Int.emod_lt_of_pos _ (by omega)
    have q0 : 0 ≤ o % 40009 := Int.emod_nonneg _ (by omega)
    have q1 : o % 40009 < 40009 := Int.emod_lt_of_pos _ (by omega)
    have k3 : mulOk (o + (c + 1) + b / 1000003) (o % 40009 + 7) = true := mulOk_r (by omega)
    generalize ht : (o + (c + 1) + b / 1000003) * (o % 40009 + 7) % 2147483629 = t
    have k4 : mulOk t 48271 = true := mulOk_r (by omega)
    refine ⟨(t * 48271 + o) % 2147483587 / 64 % m, a, c + 1, ?_, Int.emod_nonneg _ (by omega), Int.emod_lt_of_pos _ m0, by omega, Int.le_refl _⟩
    rw [← fin _ a b (c + 1)]
    congr 1
    have f1 : fdivOk 1000003 = true := by decide +kernel
    have f2 : fdivOk 64 = true := by decide +kernel
    have g1 : (0 : Int) < 2147483647 := by decide
    have g2 : (0 : Int) < 40009 := by decide
    have g3 : (0 : Int) < 2147483629 := by decide
    have g4 : (0 : Int) < 2147483587 := by decide
    have p7 : (if (0 : Int) ≤ 7 ∧ (7 : Int) ≤ 1000000 ∧ (10 : Int).natAbs < 2 ^ 64 then some (T.int (10 ^ (7 : Int).toNat)) else none) = some (T.int 10000000) := by kernel_rfl
    simp only [bTake, evSs, evS, evE, evCs, R.bnd_ok, R.then_ok, it, it1, ix0, ix1, ix2, cmpop, R.lift_some, Lit.t, deref, ha', hm, List.getElem?_cons_zero, List.getElem?_cons_succ, List.set_cons_succ, List.set_cons_zero, binop, p7, if_pos m0, if_pos f1, if_pos f2, if_pos k1, if_pos k2, if_pos g1, if_pos g2, if_pos g3, if_pos g4, ho, if_pos k3, ht, if_pos k4, s1]
end Lm
/-! The box of the draws; loops and comprehensions by invariants. -/
namespace Lm
open PySem
def bCell : Ss := (.cons (.ife (.cmp (.v 1) (.one .lt (.bi .len (.cons (.v 0) .nil))))
 (.cons (.ret (.idx (.v 0) (.v 1)))
 .nil)
 .nil)
 (.cons (.ret (.lit (.int 0)))
 .nil))
def fCell : Fn := ⟨2, 2, true, false, bCell⟩
def bBox (kc : Nat) : Ss := (.cons (.set 2 (.call kc (.cons (.v 0) (.cons (.v 1) .nil)) .nil [] []))
 (.cons (.ret (.lo (.disp (.cons (.bin .mul (.bi .abs (.cons (.v 2) .nil)) (.bi .intOf (.cons (.cmp (.bi .abs (.cons (.v 2) .nil)) (.one .ge (.bin .pow (.lit (.int 10)) (.lit (.int 18))))) .nil))) (.cons (.bin .add (.bin .add (.bin .mod (.v 2) (.lit (.int 2305843009213693951))) (.bin .mul (.lit (.int 39373)) (.v 1))) (.lit (.int 29))) (.cons (.lit (.int 0)) .nil))))))
 .nil))
def fBox (kc : Nat) : Fn := ⟨2, 3, false, true, bBox kc⟩
theorem noIns_app : ∀ (st : Sto) (ts : List T), noIns st = true → noIns (st ++ [.lst ts]) = true
  | [], ts, _ => rfl
  | x :: st, ts, h => by
    have h' : noIns st = true := by cases x <;> first | exact h | cases h
    have := noIns_app st ts h'
    cases x <;> first | exact this | cases h
theorem cell_at {Φ : Nat → Option Fn} {g : Nat → T} {n kc : Nat} (hΦ : Φ kc = some fCell) (ns : List Int) (k : Int) (k0 : 0 ≤ k) (st : Sto) : ∃ v, callF Φ g (n + 1) kc [.scr ns, .int k] st = .ok (.int v) st := by
  have body : callF Φ g (n + 1) kc [.scr ns, .int k] st = pureEnd st (evSs ⟨callF Φ g n, g⟩ bCell [some (.scr ns), some (.int k)] []) := by
    unfold callF
    rw [hΦ]; rfl
  rw [body]
  generalize (⟨callF Φ g n, g⟩ : Cf) = cf
  have bl : biF [] .len [.scr ns] = some (.int ns.length) := rfl
  by_cases h : k < ns.length
  · have hk : k.toNat < ns.length := by omega
    refine ⟨ns[k.toNat], ?_⟩
    have it : items [] (.scr ns) = some (ns.map T.int) := rfl
    have ix : ixOf (ns.map T.int).length k = some k.toNat := by
      unfold ixOf L2.ixN
      rw [if_pos k0, List.length_map, if_pos h]
    have gt : (ns.map T.int)[k.toNat]? = some (.int ns[k.toNat]) := by rw [List.getElem?_map, List.getElem?_eq_getElem hk]; rfl
    simp only [bCell, evSs, evS, evE, evEs, evCs, R.bnd_ok, R.then_ok, bl, cmpop, R.lift_some, deref, decide_eq_true h, List.getElem?_cons_zero, List.getElem?_cons_succ, it, ix, gt]
    rfl
  · refine ⟨0, ?_⟩
    simp only [bCell, evSs, evS, evE, evEs, evCs, R.bnd_ok, R.then_ok, bl, cmpop, R.lift_some, deref, decide_eq_false h, List.getElem?_cons_zero, List.getElem?_cons_succ, Lit.t]
    rfl
theorem box_new {Φ : Nat → Option Fn} {g : Nat → T} {n kc kb : Nat} (hc : Φ kc = some fCell) (hb : Φ kb = some (fBox kc)) (ns : List Int) (k : Int) (k0 : 0 ≤ k) (k1 : k < 1000000) (st : Sto) :
    ∃ a b, callF Φ g (n + 2) kb [.scr ns, .int k] st = .ok (.obj st.length) (st ++ [box a b 0]) ∧ 0 ≤ b ∧ b < 2 ^ 62 := by
  obtain ⟨v, hv⟩ := cell_at (g := g) (n := n) hc ns k k0 st
  have body : callF Φ g (n + 2) kb [.scr ns, .int k] st = finish true st (evSs ⟨callF Φ g (n + 1), g⟩ (bBox kc) [some (.scr ns), some (.int k), none] st) := by
    show callF Φ g ((n + 1) + 1) kb _ st = _
    unfold callF
    rw [hb]; rfl
  rw [body]
  generalize hcf : (⟨callF Φ g (n + 1), g⟩ : Cf) = cf
  have hv' : cf.call kc [.scr ns, .int k] st = .ok (.int v) st := by rw [← hcf]; exact hv
  have m0 : 0 ≤ v % 2305843009213693951 := Int.emod_nonneg _ (by omega)
  have m1 : v % 2305843009213693951 < 2305843009213693951 := Int.emod_lt_of_pos _ (by omega)
  have p18 : (if (0 : Int) ≤ 18 ∧ (18 : Int) ≤ 1000000 ∧ (10 : Int).natAbs < 2 ^ 64 then some (T.int (10 ^ (18 : Int).toNat)) else none) = some (T.int 1000000000000000000) := by kernel_rfl
  have ba : biF st .abs [.int v] = some (.int (if v < 0 then -v else v)) := rfl
  generalize (if v < 0 then -v else v) = u at ba
  have bi : ∀ x : Bool, biF st .intOf [.bl x] = some (.int (if x then 1 else 0)) := fun x => rfl
  have q1 : mulOk u (if decide (1000000000000000000 ≤ u) = true then 1 else 0) = true := mulOk_r (by split <;> omega)
  have q2 : mulOk 39373 k = true := mulOk_r (by omega)
  have g1 : (0 : Int) < 2305843009213693951 := by decide
  have gl : ∀ (x y z : T), [x, y, z].length ≤ sizeLine := fun _ _ _ => by show 3 ≤ sizeLine; decide
  refine ⟨u * (if decide (1000000000000000000 ≤ u) = true then 1 else 0), v % 2305843009213693951 + 39373 * k + 29, ?_, by omega, by omega⟩
  have hemp : List.isEmpty ([] : List Str) = true := rfl
  simp only [bBox, evSs, evS, evE, evEs, evL, evCs, R.bnd_ok, R.then_ok, cmpop, R.lift_some, Lit.t, deref, List.getElem?_cons_zero, List.getElem?_cons_succ, List.set_cons_succ, List.set_cons_zero, binop, p18, ba, bi, if_pos q1, if_pos q2, if_pos g1, if_pos (gl _ _ _), hv', hemp, if_true]
  rfl
/-- a for loop by its invariant -/
theorem for_inv {tgt : T → Fm → Option Fm} {body : Fm → Sto → RS} {chk : Sto → Bool} (I : List T → Fm → Sto → Prop)
    (h : ∀ x xs ρ st, I (x :: xs) ρ st → ∃ ρ1 ρ2 st2, tgt x ρ = some ρ1 ∧ (body ρ1 st = .nx ρ2 st2 ∨ body ρ1 st = .cnt ρ2 st2) ∧ chk st2 = true ∧ I xs ρ2 st2) :
    ∀ xs ρ st, I xs ρ st → ∃ ρ' st', forGo tgt body chk xs ρ st = .nx ρ' st' ∧ I [] ρ' st'
  | [], ρ, st, i => ⟨ρ, st, rfl, i⟩
  | x :: xs, ρ, st, i => by
    obtain ⟨ρ1, ρ2, st2, h1, h2, h3, h4⟩ := h x xs ρ st i
    obtain ⟨ρ', st', e, i'⟩ := for_inv I h xs ρ2 st2 h4
    refine ⟨ρ', st', ?_, i'⟩
    unfold forGo
    rw [h1]
    rcases h2 with h2 | h2 <;> (dsimp only; rw [h2]; dsimp only; rw [if_pos h3, e])
/-- a comprehension whose elements change the store, by its invariant -/
theorem comp_inv {chk : Sto → Bool} {body : T → Sto → R (Option T)} (I : List T → Sto → Prop) (y : T)
    (h : ∀ x xs st, I (x :: xs) st → ∃ st2, body x st = .ok (some y) st2 ∧ chk st2 = true ∧ I xs st2) :
    ∀ xs st, I xs st → ∃ st', compGo chk body xs st = .ok (List.replicate xs.length y) st' ∧ I [] st'
  | [], st, i => ⟨st, rfl, i⟩
  | x :: xs, st, i => by
    obtain ⟨st2, h1, h2, h3⟩ := h x xs st i
    obtain ⟨st', e, i'⟩ := comp_inv I y h xs st2 h3
    refine ⟨st', ?_, i'⟩
    unfold compGo
    rw [h1]
    dsimp only [R.bnd]
    rw [if_pos h2, e]
    rfl
end Lm
namespace K08
open PySem Lm
def top (i : Nat) : Stmt := PySem.Challenge.pw_leastmissing_k08_known_by_hand.main.body.getD i (.Pass ⟨0, 0, 0, 0⟩)
def lw : Lw := ⟨[((0, "is_number", ["thing"]) : Nat × Str × List Str), ((1, "plain", ["journal"]) : Nat × Str × List Str), ((2, "next_mark", ["mark", "there"]) : Nat × Str × List Str), ((3, "marks", ["row"]) : Nat × Str × List Str), ((4, "is_true", ["note", "row", "all_marks"]) : Nat × Str × List Str), ((5, "is_row", ["thing", "parcels", "times"]) : Nat × Str × List Str), ((6, "is_order", ["journal", "thing"]) : Nat × Str × List Str), ((7, "journal_of", ["parcels", "row"]) : Nat × Str × List Str), ((8, "with_note", ["journal", "note"]) : Nat × Str × List Str), ((9, "noted", ["journal", "kind"]) : Nat × Str × List Str), ((10, "look_parcel", ["journal", "parcel"]) : Nat × Str × List Str), ((11, "window", ["journal", "parcel"]) : Nat × Str × List Str), ((12, "must_come", ["journal", "parcel"]) : Nat × Str × List Str), ((13, "windows", ["journal"]) : Nat × Str × List Str), ((14, "sure_parcels", ["journal"]) : Nat × Str × List Str), ((15, "falling", ["pool", "many"]) : Nat × Str × List Str), ((16, "is_sound", ["journal"]) : Nat × Str × List Str), ((17, "steps", ["journal"]) : Nat × Str × List Str), ((18, "free_times", ["journal", "first", "last"]) : Nat × Str × List Str), ((19, "count_below", ["journal", "fixed"]) : Nat × Str × List Str), ((20, "count_orders", ["journal"]) : Nat × Str × List Str), ((21, "begun", ["journal", "row"]) : Nat × Str × List Str), ((22, "keeps_noted", ["journal", "row"]) : Nat × Str × List Str), ((23, "count_after", ["journal", "row"]) : Nat × Str × List Str), ((24, "next_counts", ["journal", "row"]) : Nat × Str × List Str), ((25, "order_at", ["journal", "number"]) : Nat × Str × List Str), ((26, "all_orders", ["journal"]) : Nat × Str × List Str), ((27, "sure_windows", ["journal"]) : Nat × Str × List Str), ((28, "lost_parcels", ["journal"]) : Nat × Str × List Str), ((29, "is_crowded", ["some", "first", "last"]) : Nat × Str × List Str), ((30, "evidence", ["journal"]) : Nat × Str × List Str), ((31, "is_possible", ["journal"]) : Nat × Str × List Str), ((32, "look_possible", ["journal"]) : Nat × Str × List Str), ((33, "first_order", ["journal"]) : Nat × Str × List Str), ((34, "_law_cell_at", ["_law_script", "_law_k"]) : Nat × Str × List Str), ((35, "_law_box", ["_law_script", "_law_k"]) : Nat × Str × List Str), ((36, "_law_take", ["_law_box_here", "_law_below"]) : Nat × Str × List Str), ((37, "_law_same", ["_law_found", "_law_due"]) : Nat × Str × List Str), ((38, "_law_book_right", ["_law_more"]) : Nat × Str × List Str), ((39, "_law_full_right", []) : Nat × Str × List Str), ((40, "_law_none_right", ["_law_more"]) : Nat × Str × List Str), ((41, "_law_right", ["_law_box_here"]) : Nat × Str × List Str), ((42, "law", ["_law_script"]) : Nat × Str × List Str)], [((0, "MOST") : Nat × Str)]⟩
/-- is_number -/
def f0 : Fn := ⟨1, 1, true, false,
 (.cons (.ret (.and (.isI (.v 0) .int) (.not (.isI (.v 0) .bool))))
 .nil)⟩
def n0 : List Str := ["thing"]
/-- plain -/
def f1 : Fn := ⟨1, 2, true, false,
 (.cons (.ret (.tup (.cons (.idx (.v 0) (.lit (.int 0))) (.cons (.idx (.v 0) (.lit (.int 1))) (.cons (.bi .tupleOf (.cons (.lt (.comp (.v 1) (.e (.idx (.v 0) (.lit (.int 2)))) .none (.bi .tupleOf (.cons (.v 1) .nil)) [1])) .nil)) .nil)))))
 .nil)⟩
def n1 : List Str := ["journal", "note"]
/-- next_mark -/
def f2 : Fn := ⟨2, 2, true, false,
 (.cons (.whl (.cmp (.v 0) (.one .in_ (.v 1)))
 (.cons (.aug 0 .add (.lit (.int 1)))
 .nil))
 (.cons (.ret (.v 0))
 .nil))⟩
def n2 : List Str := ["mark", "there"]
/-- marks -/
def f3 : Fn := ⟨1, 4, true, false,
 (.cons (.par 2 3 (.lo (.disp .nil)) (.lit (.int 0)))
 (.cons (.for_ (.v 1) (.rng1 (.bi .len (.cons (.v 0) .nil)))
 (.cons (.set 3 (.call 2 (.cons (.v 3) (.cons (.sl (.v 0) .none (.some (.bin .add (.v 1) (.lit (.int 1))))) .nil)) .nil [] []))
 (.cons (.expr (.mt .append (.v 2) (.cons (.v 3) .nil)))
 .nil)))
 (.cons (.ret (.bi .tupleOf (.cons (.v 2) .nil)))
 .nil)))⟩
def n3 : List Str := ["row", "time", "found", "mark"]
/-- is_true -/
def f4 : Fn := ⟨3, 6, true, false,
 (.cons (.asg (.tup (.cons (.v 3) (.cons (.v 4) (.cons (.v 5) .nil)))) (.v 0))
 (.cons (.ret (.cmp (.v 5) (.one .eq (.ite (.cmp (.v 4) (.one .eq (.lit (.str "mark")))) (.idx (.v 2) (.v 3)) (.idx (.v 1) (.v 3))))))
 .nil))⟩
def n4 : List Str := ["note", "row", "all_marks", "time", "kind", "value"]
/-- is_row -/
def f5 : Fn := ⟨3, 4, true, false,
 (.cons (.ife (.or (.not (.isI (.v 0) .tuple)) (.or (.cmp (.bi .len (.cons (.v 0) .nil)) (.one .ne (.v 2))) (.not (.bi .all (.cons (.lt (.comp (.v 3) (.e (.v 0)) .none (.call 0 (.cons (.v 3) .nil) .nil [] []) [3])) .nil)))))
 (.cons (.ret (.lit (.bl false)))
 .nil)
 .nil)
 (.cons (.ret (.and (.cmp (.bi .lenSet (.cons (.v 0) .nil)) (.one .eq (.v 2))) (.bi .all (.cons (.lt (.comp (.v 3) (.e (.v 0)) .none (.cmp (.lit (.int 0)) (.cons .le (.v 3) (.one .lt (.v 1)))) [3])) .nil))))
 .nil))⟩
def n5 : List Str := ["thing", "parcels", "times", "parcel"]
/-- is_order -/
def f6 : Fn := ⟨2, 4, true, false,
 (.cons (.ife (.not (.call 5 (.cons (.v 1) (.cons (.idx (.v 0) (.lit (.int 0))) (.cons (.idx (.v 0) (.lit (.int 1))) .nil))) .nil [] []))
 (.cons (.ret (.lit (.bl false)))
 .nil)
 .nil)
 (.cons (.set 2 (.call 3 (.cons (.v 1) .nil) .nil [] []))
 (.cons (.ret (.bi .all (.cons (.lt (.comp (.v 3) (.e (.idx (.v 0) (.lit (.int 2)))) .none (.call 4 (.cons (.v 3) (.cons (.v 1) (.cons (.v 2) .nil))) .nil [] []) [3])) .nil)))
 .nil)))⟩
def n6 : List Str := ["journal", "thing", "all_marks", "note"]
/-- journal_of -/
def f7 : Fn := ⟨2, 4, true, false,
 (.cons (.ret (.tup (.cons (.v 0) (.cons (.bi .len (.cons (.v 1) .nil)) (.cons (.bi .tupleOf (.cons (.lt (.comp (.tup (.cons (.v 2) (.cons (.v 3) .nil))) (.enum (.call 3 (.cons (.v 1) .nil) .nil [] [])) .none (.tup (.cons (.v 2) (.cons (.lit (.str "mark")) (.cons (.v 3) .nil)))) [2, 3])) .nil)) .nil)))))
 .nil)⟩
def n7 : List Str := ["parcels", "row", "time", "mark"]
/-- with_note -/
def f8 : Fn := ⟨2, 6, true, false,
 (.cons (.asg (.tup (.cons (.v 3) (.cons (.v 4) (.cons (.v 5) .nil)))) (.call 1 (.cons (.v 0) .nil) .nil [] []))
 (.cons (.for_ (.v 2) (.e (.v 5))
 (.cons (.ife (.cmp (.sl (.v 2) .none (.some (.lit (.int 2)))) (.one .eq (.sl (.bi .tupleOf (.cons (.v 1) .nil)) .none (.some (.lit (.int 2))))))
 (.cons .never
 .nil)
 .nil)
 .nil))
 (.cons (.ret (.tup (.cons (.v 3) (.cons (.v 4) (.cons (.bi .tupleOf (.cons (.lt (.sorted (.bin .add (.v 5) (.tup (.cons (.bi .tupleOf (.cons (.v 1) .nil)) .nil))))) .nil)) .nil)))))
 .nil)))⟩
def n8 : List Str := ["journal", "note", "other", "parcels", "times", "notes"]
/-- noted -/
def f9 : Fn := ⟨2, 5, true, false,
 (.cons (.ret (.lt (.comp (.tup (.cons (.v 2) (.cons (.v 3) (.cons (.v 4) .nil)))) (.e (.idx (.v 0) (.lit (.int 2)))) (.some (.cmp (.v 3) (.one .eq (.v 1)))) (.tup (.cons (.v 2) (.cons (.v 4) .nil))) [2, 3, 4])))
 .nil)⟩
def n9 : List Str := ["journal", "kind", "time", "other", "value"]
/-- look_parcel -/
def f10 : Fn := ⟨2, 2, true, false,
 (.cons (.ife (.not (.cmp (.lit (.int 0)) (.cons .le (.v 1) (.one .lt (.idx (.v 0) (.lit (.int 0)))))))
 (.cons .never
 .nil)
 .nil)
 .nil)⟩
def n10 : List Str := ["journal", "parcel"]
/-- window -/
def f11 : Fn := ⟨2, 9, true, false,
 (.cons (.expr (.call 10 (.cons (.v 0) (.cons (.v 1) .nil)) .nil [] []))
 (.cons (.par 4 5 (.call 9 (.cons (.v 0) (.cons (.lit (.str "mark")) .nil)) .nil [] []) (.lt (.comp (.tup (.cons (.v 6) (.cons (.v 7) .nil))) (.e (.call 9 (.cons (.v 0) (.cons (.lit (.str "came")) .nil)) .nil [] [])) (.some (.cmp (.v 7) (.one .eq (.v 1)))) (.v 6) [6, 7])))
 (.cons (.set 2 (.dflt true (.bin .add (.lt (.comp (.tup (.cons (.v 6) (.cons (.v 8) .nil))) (.e (.v 4)) (.some (.cmp (.v 8) (.one .eq (.v 1)))) (.bin .add (.v 6) (.lit (.int 1))) [6, 8])) (.v 5)) (.lit (.int 0))))
 (.cons (.set 3 (.dflt false (.bin .add (.lt (.comp (.tup (.cons (.v 6) (.cons (.v 8) .nil))) (.e (.v 4)) (.some (.cmp (.v 8) (.one .gt (.v 1)))) (.v 6) [6, 8])) (.v 5)) (.bin .sub (.idx (.v 0) (.lit (.int 1))) (.lit (.int 1)))))
 (.cons (.ret (.tup (.cons (.v 2) (.cons (.v 3) .nil))))
 .nil)))))⟩
def n11 : List Str := ["journal", "parcel", "first", "last", "all_marks", "came", "time", "value", "mark"]
/-- must_come -/
def f12 : Fn := ⟨2, 5, true, false,
 (.cons (.expr (.call 10 (.cons (.v 0) (.cons (.v 1) .nil)) .nil [] []))
 (.cons (.ife (.or (.cmp (.idx (.v 0) (.lit (.int 0))) (.one .eq (.idx (.v 0) (.lit (.int 1))))) (.bi .any (.cons (.lt (.comp (.tup (.cons (.v 2) (.cons (.v 4) .nil))) (.e (.call 9 (.cons (.v 0) (.cons (.lit (.str "mark")) .nil)) .nil [] [])) .none (.cmp (.v 4) (.one .gt (.v 1))) [2, 4])) .nil)))
 (.cons (.ret (.lit (.bl true)))
 .nil)
 .nil)
 (.cons (.ret (.cmp (.v 1) (.one .in_ (.lt (.comp (.tup (.cons (.v 2) (.cons (.v 3) .nil))) (.e (.call 9 (.cons (.v 0) (.cons (.lit (.str "came")) .nil)) .nil [] [])) .none (.v 3) [2, 3])))))
 .nil)))⟩
def n12 : List Str := ["journal", "parcel", "time", "value", "mark"]
/-- windows -/
def f13 : Fn := ⟨1, 2, true, false,
 (.cons (.ret (.lt (.comp (.v 1) (.rng1 (.idx (.v 0) (.lit (.int 0)))) .none (.call 11 (.cons (.v 0) (.cons (.v 1) .nil)) .nil [] []) [1])))
 .nil)⟩
def n13 : List Str := ["journal", "parcel"]
/-- sure_parcels -/
def f14 : Fn := ⟨1, 2, true, false,
 (.cons (.ret (.lt (.comp (.v 1) (.rng1 (.idx (.v 0) (.lit (.int 0)))) (.some (.call 12 (.cons (.v 0) (.cons (.v 1) .nil)) .nil [] [])) (.v 1) [1])))
 .nil)⟩
def n14 : List Str := ["journal", "parcel"]
/-- falling -/
def f15 : Fn := ⟨2, 4, true, false,
 (.cons (.set 2 (.lit (.int 1)))
 (.cons (.for_ (.v 3) (.rng1 (.v 1))
 (.cons (.aug 2 .mul (.bi .max2 (.cons (.lit (.int 0)) (.cons (.bin .sub (.v 0) (.v 3)) .nil))))
 .nil))
 (.cons (.ret (.v 2))
 .nil)))⟩
def n15 : List Str := ["pool", "many", "found", "turn"]
/-- is_sound -/
def f16 : Fn := ⟨1, 6, true, false,
 (.cons (.set 1 (.lt (.comp (.tup (.cons (.v 3) (.cons (.v 4) .nil))) (.e (.call 9 (.cons (.v 0) (.cons (.lit (.str "mark")) .nil)) .nil [] [])) .none (.v 4) [3, 4])))
 (.cons (.set 2 (.call 9 (.cons (.v 0) (.cons (.lit (.str "came")) .nil)) .nil [] []))
 (.cons (.ife (.or (.cmp (.v 1) (.one .ne (.lt (.sorted (.v 1))))) (.cmp (.bi .lenSet (.cons (.lt (.comp (.tup (.cons (.v 3) (.cons (.v 5) .nil))) (.e (.v 2)) .none (.v 5) [3, 5])) .nil)) (.one .lt (.bi .len (.cons (.v 2) .nil)))))
 (.cons (.ret (.lit (.bl false)))
 .nil)
 .nil)
 (.cons (.ret (.bi .all (.cons (.lt (.comp (.tup (.cons (.v 3) (.cons (.v 5) .nil))) (.e (.v 2)) .none (.cmp (.call 11 (.cons (.v 0) (.cons (.v 5) .nil)) .nil [] []) (.one .eq (.tup (.cons (.v 3) (.cons (.v 3) .nil))))) [3, 5])) .nil)))
 .nil))))⟩
def n16 : List Str := ["journal", "values", "came", "time", "mark", "parcel"]
/-- steps -/
def f17 : Fn := ⟨1, 6, true, false,
 (.cons (.set 1 (.bin .add (.lt (.disp (.cons (.tup (.cons (.neg (.lit (.int 1))) (.cons (.lit (.int 0)) .nil))) .nil))) (.call 9 (.cons (.v 0) (.cons (.lit (.str "mark")) .nil)) .nil [] [])))
 (.cons (.set 2 (.lt (.comp (.v 3) (.rng1 (.bin .sub (.bi .len (.cons (.v 1) .nil)) (.lit (.int 1)))) .none (.tup (.cons (.idx (.v 1) (.v 3)) (.cons (.idx (.v 1) (.bin .add (.v 3) (.lit (.int 1)))) .nil))) [3])))
 (.cons (.ret (.lt (.comp (.tup (.cons (.v 4) (.cons (.v 5) .nil))) (.e (.v 2)) (.some (.cmp (.idx (.v 4) (.lit (.int 1))) (.one .lt (.idx (.v 5) (.lit (.int 1)))))) (.tup (.cons (.v 4) (.cons (.v 5) .nil))) [4, 5])))
 .nil)))⟩
def n17 : List Str := ["journal", "known", "pairs", "place", "one", "other"]
/-- free_times -/
def f18 : Fn := ⟨3, 6, true, false,
 (.cons (.set 3 (.lt (.comp (.tup (.cons (.v 4) (.cons (.v 5) .nil))) (.e (.call 9 (.cons (.v 0) (.cons (.lit (.str "came")) .nil)) .nil [] [])) (.some (.cmp (.v 1) (.cons .le (.v 4) (.one .le (.v 2))))) (.v 4) [4, 5])))
 (.cons (.ret (.bin .sub (.bin .add (.bin .sub (.v 2) (.v 1)) (.lit (.int 1))) (.bi .len (.cons (.v 3) .nil))))
 .nil))⟩
def n18 : List Str := ["journal", "first", "last", "taken", "time", "parcel"]
/-- count_below -/
def f19 : Fn := ⟨2, 12, true, false,
 (.cons (.par 3 4 (.lit (.int 1)) (.lo (.disp .nil)))
 (.cons (.for_ (.tup (.cons (.tup (.cons (.v 7) (.cons (.v 8) .nil))) (.cons (.tup (.cons (.v 9) (.cons (.v 10) .nil))) .nil))) (.e (.call 17 (.cons (.v 0) .nil) .nil [] []))
 (.cons (.ife (.cmp (.v 8) (.one .notIn (.v 1)))
 (.cons (.aug 3 .mul (.call 18 (.cons (.v 0) (.cons (.bin .add (.v 7) (.lit (.int 1))) (.cons (.v 9) .nil))) .nil [] []))
 (.cons (.expr (.mt .append (.v 4) (.cons (.v 9) .nil)))
 .nil))
 .nil)
 .nil))
 (.cons (.set 2 (.lit (.int 0)))
 (.cons (.for_ (.tup (.cons (.tup (.cons (.v 7) (.cons (.v 8) .nil))) (.cons (.tup (.cons (.v 9) (.cons (.v 10) .nil))) .nil))) (.e (.call 17 (.cons (.v 0) .nil) .nil [] []))
 (.cons (.set 5 (.bin .sub (.call 18 (.cons (.v 0) (.cons (.lit (.int 0)) (.cons (.v 9) .nil))) .nil [] []) (.bi .len (.cons (.lt (.comp (.v 11) (.e (.v 4)) (.some (.cmp (.v 11) (.one .le (.v 9)))) (.v 11) [11])) .nil))))
 (.cons (.for_ (.v 6) (.rng2 (.bin .add (.v 8) (.lit (.int 1))) (.v 10))
 (.cons (.ife (.cmp (.v 6) (.one .notIn (.v 1)))
 (.cons (.aug 3 .mul (.bi .max2 (.cons (.lit (.int 0)) (.cons (.bin .sub (.v 5) (.v 2)) .nil))))
 (.cons (.aug 2 .add (.lit (.int 1)))
 .nil))
 .nil)
 .nil))
 .nil)))
 (.cons (.ret (.tup (.cons (.v 3) (.cons (.bin .add (.v 2) (.bi .len (.cons (.v 4) .nil))) .nil))))
 .nil)))))⟩
def n19 : List Str := ["journal", "fixed", "used", "found", "ends", "before", "parcel", "time", "mark", "later", "following", "end"]
/-- count_orders -/
def f20 : Fn := ⟨1, 10, true, false,
 (.cons (.ife (.not (.call 16 (.cons (.v 0) .nil) .nil [] []))
 (.cons (.ret (.lit (.int 0)))
 .nil)
 .nil)
 (.cons (.set 1 (.lt (.comp (.tup (.cons (.v 6) (.cons (.v 8) .nil))) (.e (.call 9 (.cons (.v 0) (.cons (.lit (.str "came")) .nil)) .nil [] [])) .none (.v 8) [6, 8])))
 (.cons (.asg (.tup (.cons (.v 4) (.cons (.v 5) .nil))) (.call 19 (.cons (.v 0) (.cons (.v 1) .nil)) .nil [] []))
 (.cons (.ife (.cmp (.v 4) (.one .eq (.lit (.int 0))))
 (.cons (.ret (.lit (.int 0)))
 .nil)
 .nil)
 (.cons (.asg (.tup (.cons (.v 6) (.cons (.v 7) .nil))) (.idx (.bin .add (.lt (.disp (.cons (.tup (.cons (.neg (.lit (.int 1))) (.cons (.lit (.int 0)) .nil))) .nil))) (.call 9 (.cons (.v 0) (.cons (.lit (.str "mark")) .nil)) .nil [] [])) (.neg (.lit (.int 1)))))
 (.cons (.set 2 (.bi .len (.cons (.lt (.comp (.v 9) (.rng2 (.bin .add (.v 7) (.lit (.int 1))) (.idx (.v 0) (.lit (.int 0)))) (.some (.cmp (.v 9) (.one .notIn (.v 1)))) (.v 9) [9])) .nil)))
 (.cons (.set 3 (.bin .sub (.call 18 (.cons (.v 0) (.cons (.lit (.int 0)) (.cons (.v 6) .nil))) .nil [] []) (.v 5)))
 (.cons (.aug 4 .mul (.call 15 (.cons (.v 2) (.cons (.v 3) .nil)) .nil [] []))
 (.cons (.ife (.and (.cmp (.v 7) (.one .lt (.idx (.v 0) (.lit (.int 0))))) (.cmp (.v 7) (.one .notIn (.v 1))))
 (.cons (.aug 2 .add (.lit (.int 1)))
 .nil)
 .nil)
 (.cons (.ret (.bin .mul (.v 4) (.call 15 (.cons (.bin .sub (.v 2) (.v 3)) (.cons (.call 18 (.cons (.v 0) (.cons (.bin .add (.v 6) (.lit (.int 1))) (.cons (.bin .sub (.idx (.v 0) (.lit (.int 1))) (.lit (.int 1))) .nil))) .nil [] []) .nil)) .nil [] [])))
 .nil))))))))))⟩
def n20 : List Str := ["journal", "fixed", "pool", "early", "found", "used", "time", "mark", "parcel", "other"]
/-- begun -/
def f21 : Fn := ⟨2, 9, true, false,
 (.cons (.asg (.tup (.cons (.v 3) (.cons (.v 4) (.cons (.v 5) .nil)))) (.call 1 (.cons (.v 0) .nil) .nil [] []))
 (.cons (.set 2 (.lt (.comp (.v 6) (.e (.v 5)) (.some (.or (.cmp (.idx (.v 6) (.lit (.int 1))) (.one .eq (.lit (.str "mark")))) (.cmp (.idx (.v 6) (.lit (.int 0))) (.one .ge (.bi .len (.cons (.v 1) .nil)))))) (.v 6) [6])))
 (.cons (.ret (.tup (.cons (.v 3) (.cons (.v 4) (.cons (.bi .tupleOf (.cons (.lt (.sorted (.bin .add (.v 2) (.lt (.comp (.tup (.cons (.v 7) (.cons (.v 8) .nil))) (.enum (.v 1)) .none (.tup (.cons (.v 7) (.cons (.lit (.str "came")) (.cons (.v 8) .nil)))) [7, 8]))))) .nil)) .nil)))))
 .nil)))⟩
def n21 : List Str := ["journal", "row", "rest", "parcels", "times", "notes", "note", "time", "parcel"]
/-- keeps_noted -/
def f22 : Fn := ⟨2, 4, true, false,
 (.cons (.ret (.bi .all (.cons (.lt (.comp (.tup (.cons (.v 2) (.cons (.v 3) .nil))) (.e (.call 9 (.cons (.v 0) (.cons (.lit (.str "came")) .nil)) .nil [] [])) .none (.or (.cmp (.v 2) (.one .ge (.bi .len (.cons (.v 1) .nil)))) (.cmp (.idx (.v 1) (.v 2)) (.one .eq (.v 3)))) [2, 3])) .nil)))
 .nil)⟩
def n22 : List Str := ["journal", "row", "time", "parcel"]
/-- count_after -/
def f23 : Fn := ⟨2, 2, true, false,
 (.cons (.ret (.ite (.call 22 (.cons (.v 0) (.cons (.v 1) .nil)) .nil [] []) (.call 20 (.cons (.call 21 (.cons (.v 0) (.cons (.v 1) .nil)) .nil [] []) .nil) .nil [] []) (.lit (.int 0))))
 .nil)⟩
def n23 : List Str := ["journal", "row"]
/-- next_counts -/
def f24 : Fn := ⟨2, 5, true, false,
 (.cons (.set 2 (.lt (.comp (.v 3) (.rng1 (.idx (.v 0) (.lit (.int 0)))) (.some (.cmp (.v 3) (.one .notIn (.v 1)))) (.tup (.cons (.v 3) (.cons (.call 23 (.cons (.v 0) (.cons (.bin .add (.v 1) (.tup (.cons (.v 3) .nil))) .nil)) .nil [] []) .nil))) [3])))
 (.cons (.ret (.lt (.comp (.tup (.cons (.v 3) (.cons (.v 4) .nil))) (.e (.v 2)) (.some (.cmp (.v 4) (.one .gt (.lit (.int 0))))) (.tup (.cons (.v 3) (.cons (.v 4) .nil))) [3, 4])))
 .nil))⟩
def n24 : List Str := ["journal", "row", "found", "parcel", "many"]
/-- order_at -/
def f25 : Fn := ⟨2, 7, true, false,
 (.cons (.ife (.not (.cmp (.lit (.int 0)) (.cons .le (.v 1) (.one .lt (.call 20 (.cons (.v 0) .nil) .nil [] [])))))
 (.cons .never
 .nil)
 .nil)
 (.cons (.par 3 4 (.tup .nil) (.v 1))
 (.cons (.for_ (.v 2) (.rng1 (.idx (.v 0) (.lit (.int 1))))
 (.cons (.for_ (.tup (.cons (.v 5) (.cons (.v 6) .nil))) (.e (.call 24 (.cons (.v 0) (.cons (.v 3) .nil)) .nil [] []))
 (.cons (.ife (.cmp (.v 4) (.one .lt (.v 6)))
 (.cons (.set 3 (.bin .add (.v 3) (.tup (.cons (.v 5) .nil))))
 (.cons .brk
 .nil))
 .nil)
 (.cons (.aug 4 .sub (.v 6))
 .nil)))
 .nil))
 (.cons (.ret (.v 3))
 .nil))))⟩
def n25 : List Str := ["journal", "number", "time", "found", "rest", "parcel", "many"]
/-- all_orders -/
def f26 : Fn := ⟨1, 8, true, false,
 (.cons (.set 1 (.call 20 (.cons (.v 0) .nil) .nil [] []))
 (.cons (.ife (.cmp (.v 1) (.one .gt (.glob 0)))
 (.cons .never
 .nil)
 .nil)
 (.cons (.ife (.cmp (.v 1) (.one .eq (.lit (.int 0))))
 (.cons (.ret (.lt (.disp .nil)))
 .nil)
 .nil)
 (.cons (.set 2 (.lt (.disp (.cons (.tup .nil) .nil))))
 (.cons (.for_ (.v 3) (.rng1 (.idx (.v 0) (.lit (.int 1))))
 (.cons (.set 4 (.lo (.disp .nil)))
 (.cons (.for_ (.v 5) (.e (.v 2))
 (.cons (.expr (.mt .extend (.v 4) (.cons (.lt (.comp (.tup (.cons (.v 6) (.cons (.v 7) .nil))) (.e (.call 24 (.cons (.v 0) (.cons (.v 5) .nil)) .nil [] [])) .none (.bin .add (.v 5) (.tup (.cons (.v 6) .nil))) [6, 7])) .nil)))
 .nil))
 (.cons (.set 2 (.frz (.v 4)))
 .nil))))
 (.cons (.ret (.v 2))
 .nil))))))⟩
def n26 : List Str := ["journal", "many", "found", "time", "longer", "row", "parcel", "count"]
/-- sure_windows -/
def f27 : Fn := ⟨1, 2, true, false,
 (.cons (.ret (.lt (.comp (.v 1) (.e (.call 14 (.cons (.v 0) .nil) .nil [] [])) .none (.tup (.cons (.v 1) (.cons (.call 11 (.cons (.v 0) (.cons (.v 1) .nil)) .nil [] []) .nil))) [1])))
 .nil)⟩
def n27 : List Str := ["journal", "parcel"]
/-- lost_parcels -/
def f28 : Fn := ⟨1, 4, true, false,
 (.cons (.ret (.lt (.comp (.tup (.cons (.v 1) (.cons (.tup (.cons (.v 2) (.cons (.v 3) .nil))) .nil))) (.e (.call 27 (.cons (.v 0) .nil) .nil [] [])) (.some (.cmp (.v 2) (.one .gt (.v 3)))) (.v 1) [1, 2, 3])))
 .nil)⟩
def n28 : List Str := ["journal", "parcel", "first", "last"]
/-- is_crowded -/
def f29 : Fn := ⟨3, 7, true, false,
 (.cons (.set 3 (.lt (.comp (.tup (.cons (.v 4) (.cons (.tup (.cons (.v 5) (.cons (.v 6) .nil))) .nil))) (.e (.v 0)) (.some (.cmp (.v 1) (.cons .le (.v 5) (.cons .le (.v 6) (.one .le (.v 2)))))) (.v 4) [4, 5, 6])))
 (.cons (.ret (.cmp (.bi .len (.cons (.v 3) .nil)) (.one .gt (.bin .add (.bin .sub (.v 2) (.v 1)) (.lit (.int 1))))))
 .nil))⟩
def n29 : List Str := ["some", "first", "last", "inside", "parcel", "begin", "end"]
/-- evidence -/
def f30 : Fn := ⟨1, 5, true, false,
 (.cons (.par 2 3 (.call 28 (.cons (.v 0) .nil) .nil [] []) (.call 27 (.cons (.v 0) .nil) .nil [] []))
 (.cons (.ife (.cmp (.bi .len (.cons (.v 2) .nil)) (.one .gt (.lit (.int 0))))
 (.cons (.ret (.tup (.cons (.lit (.str "never")) (.cons (.idx (.v 2) (.lit (.int 0))) .nil))))
 .nil)
 .nil)
 (.cons (.for_ (.v 1) (.rng1 (.idx (.v 0) (.lit (.int 1))))
 (.cons (.for_ (.v 4) (.rng2 (.v 1) (.idx (.v 0) (.lit (.int 1))))
 (.cons (.ife (.call 29 (.cons (.v 3) (.cons (.v 1) (.cons (.v 4) .nil))) .nil [] [])
 (.cons (.ret (.tup (.cons (.lit (.str "many")) (.cons (.v 1) (.cons (.v 4) .nil)))))
 .nil)
 .nil)
 .nil))
 .nil))
 (.cons (.ret (.lit .non))
 .nil))))⟩
def n30 : List Str := ["journal", "first", "lost", "some", "last"]
/-- is_possible -/
def f31 : Fn := ⟨1, 1, true, false,
 (.cons (.ret (.cmp (.call 20 (.cons (.v 0) .nil) .nil [] []) (.one .gt (.lit (.int 0)))))
 .nil)⟩
def n31 : List Str := ["journal"]
/-- look_possible -/
def f32 : Fn := ⟨1, 1, true, false,
 (.cons (.ife (.not (.call 31 (.cons (.v 0) .nil) .nil [] []))
 (.cons .never
 .nil)
 .nil)
 .nil)⟩
def n32 : List Str := ["journal"]
/-- first_order -/
def f33 : Fn := ⟨1, 1, true, false,
 (.cons (.expr (.call 32 (.cons (.v 0) .nil) .nil [] []))
 (.cons (.ret (.call 25 (.cons (.v 0) (.cons (.lit (.int 0)) .nil)) .nil [] []))
 .nil))⟩
def n33 : List Str := ["journal"]
/-- _law_cell_at -/
def f34 : Fn := ⟨2, 2, true, false,
 (.cons (.ife (.cmp (.v 1) (.one .lt (.bi .len (.cons (.v 0) .nil))))
 (.cons (.ret (.idx (.v 0) (.v 1)))
 .nil)
 .nil)
 (.cons (.ret (.lit (.int 0)))
 .nil))⟩
def n34 : List Str := ["_law_script", "_law_k"]
/-- _law_box -/
def f35 : Fn := ⟨2, 3, false, true,
 (.cons (.set 2 (.call 34 (.cons (.v 0) (.cons (.v 1) .nil)) .nil [] []))
 (.cons (.ret (.lo (.disp (.cons (.bin .mul (.bi .abs (.cons (.v 2) .nil)) (.bi .intOf (.cons (.cmp (.bi .abs (.cons (.v 2) .nil)) (.one .ge (.bin .pow (.lit (.int 10)) (.lit (.int 18))))) .nil))) (.cons (.bin .add (.bin .add (.bin .mod (.v 2) (.lit (.int 2305843009213693951))) (.bin .mul (.lit (.int 39373)) (.v 1))) (.lit (.int 29))) (.cons (.lit (.int 0)) .nil))))))
 .nil))⟩
def n35 : List Str := ["_law_script", "_law_k", "_law_core"]
/-- _law_take -/
def f36 : Fn := ⟨2, 5, false, false,
 (.cons (.ife (.cmp (.idx (.v 0) (.lit (.int 0))) (.one .gt (.lit (.int 0))))
 (.cons (.set 4 (.bin .mod (.idx (.v 0) (.lit (.int 0))) (.v 1)))
 (.cons (.setIx (.v 0) (.lit (.int 0)) (.bin .fdiv (.idx (.v 0) (.lit (.int 0))) (.v 1)))
 (.cons (.ret (.v 4))
 .nil)))
 .nil)
 (.cons (.ife (.cmp (.v 1) (.one .gt (.bin .pow (.lit (.int 10)) (.lit (.int 7)))))
 (.cons (.ret (.bin .mod (.bin .add (.call 36 (.cons (.v 0) (.cons (.bin .pow (.lit (.int 10)) (.lit (.int 7))) .nil)) .nil [] []) (.bin .mul (.bin .pow (.lit (.int 10)) (.lit (.int 7))) (.call 36 (.cons (.v 0) (.cons (.bin .add (.bin .fdiv (.v 1) (.bin .pow (.lit (.int 10)) (.lit (.int 7)))) (.lit (.int 1))) .nil)) .nil [] []))) (.v 1)))
 .nil)
 .nil)
 (.cons (.setIx (.v 0) (.lit (.int 2)) (.bin .add (.idx (.v 0) (.lit (.int 2))) (.lit (.int 1))))
 (.cons (.set 2 (.bin .mod (.bin .mul (.bin .add (.idx (.v 0) (.lit (.int 1))) (.bin .mul (.lit (.int 48271)) (.idx (.v 0) (.lit (.int 2))))) (.bin .add (.lit (.int 39373)) (.idx (.v 0) (.lit (.int 2))))) (.lit (.int 2147483647))))
 (.cons (.set 3 (.bin .mod (.bin .mul (.bin .add (.bin .add (.v 2) (.idx (.v 0) (.lit (.int 2)))) (.bin .fdiv (.idx (.v 0) (.lit (.int 1))) (.lit (.int 1000003)))) (.bin .add (.bin .mod (.v 2) (.lit (.int 40009))) (.lit (.int 7)))) (.lit (.int 2147483629))))
 (.cons (.ret (.bin .mod (.bin .fdiv (.bin .mod (.bin .add (.bin .mul (.v 3) (.lit (.int 48271))) (.v 2)) (.lit (.int 2147483587))) (.lit (.int 64))) (.v 1)))
 .nil))))))⟩
def n36 : List Str := ["_law_box_here", "_law_below", "_law_once", "_law_twice", "_law_found"]
/-- _law_same -/
def f37 : Fn := ⟨2, 4, true, false,
 (.cons (.ife (.isI (.v 1) .lt)
 (.cons (.ife (.or (.cmp (.isI (.v 0) .list) (.one .ne (.isI (.v 1) .list))) (.cmp (.isI (.v 0) .tuple) (.one .ne (.isI (.v 1) .tuple))))
 (.cons (.ret (.lit (.bl false)))
 .nil)
 .nil)
 (.cons (.ret (.and (.cmp (.bi .len (.cons (.v 0) .nil)) (.one .eq (.bi .len (.cons (.v 1) .nil)))) (.bi .all (.cons (.lt (.comp (.tup (.cons (.v 2) (.cons (.v 3) .nil))) (.zip (.v 0) (.v 1)) .none (.call 37 (.cons (.v 2) (.cons (.v 3) .nil)) .nil [] []) [2, 3])) .nil))))
 .nil))
 .nil)
 (.cons (.ife (.or (.cmp (.v 1) (.one .is_ (.lit .non))) (.isI (.v 1) .bs))
 (.cons (.ret (.and (.cmp (.v 0) (.one .eq (.v 1))) (.and (.cmp (.isI (.v 0) .bool) (.one .eq (.isI (.v 1) .bool))) (.cmp (.cmp (.v 0) (.one .is_ (.lit .non))) (.one .eq (.cmp (.v 1) (.one .is_ (.lit .non))))))))
 .nil)
 .nil)
 (.cons (.ret (.and (.isI (.v 0) .int) (.and (.not (.isI (.v 0) .bool)) (.cmp (.v 0) (.one .eq (.v 1))))))
 .nil)))⟩
def n37 : List Str := ["_law_found", "_law_due", "_law_a", "_law_b"]
/-- _law_book_right -/
def f38 : Fn := ⟨1, 4, true, false,
 (.cons (.set 1 (.tup (.cons (.bin .add (.lit (.int 5)) (.v 0)) (.cons (.lit (.int 4)) (.cons (.tup (.cons (.tup (.cons (.lit (.int 1)) (.cons (.lit (.str "mark")) (.cons (.lit (.int 0)) .nil)))) (.cons (.tup (.cons (.lit (.int 3)) (.cons (.lit (.str "mark")) (.cons (.lit (.int 3)) .nil)))) .nil))) .nil)))))
 (.cons (.set 2 (.lt (.disp (.cons (.sl (.call 13 (.cons (.v 1) .nil) .nil [] []) .none (.some (.lit (.int 5)))) (.cons (.call 14 (.cons (.v 1) .nil) .nil [] []) (.cons (.call 30 (.cons (.v 1) .nil) .nil [] []) (.cons (.call 33 (.cons (.v 1) .nil) .nil [] []) (.cons (.call 6 (.cons (.v 1) (.cons (.tup (.cons (.lit (.int 4)) (.cons (.lit (.int 2)) (.cons (.lit (.int 1)) (.cons (.lit (.int 0)) .nil))))) .nil)) .nil [] []) .nil))))))))
 (.cons (.set 3 (.lt (.disp (.cons (.lt (.disp (.cons (.tup (.cons (.lit (.int 2)) (.cons (.lit (.int 3)) .nil))) (.cons (.tup (.cons (.lit (.int 0)) (.cons (.lit (.int 3)) .nil))) (.cons (.tup (.cons (.lit (.int 0)) (.cons (.lit (.int 3)) .nil))) (.cons (.tup (.cons (.lit (.int 4)) (.cons (.lit (.int 3)) .nil))) (.cons (.tup (.cons (.lit (.int 0)) (.cons (.lit (.int 3)) .nil))) .nil))))))) (.cons (.lt (.disp (.cons (.lit (.int 0)) (.cons (.lit (.int 1)) (.cons (.lit (.int 2)) .nil))))) (.cons (.lit .non) (.cons (.tup (.cons (.lit (.int 1)) (.cons (.lit (.int 2)) (.cons (.lit (.int 0)) (.cons (.lit (.int 4)) .nil))))) (.cons (.lit (.bl true)) .nil))))))))
 (.cons (.ife (.or (.not (.call 37 (.cons (.v 2) (.cons (.v 3) .nil)) .nil [] [])) (.cmp (.call 20 (.cons (.v 1) .nil) .nil [] []) (.one .ne (.bin .mul (.lit (.int 12)) (.bin .add (.lit (.int 1)) (.v 0))))))
 (.cons (.ret (.lit (.bl false)))
 .nil)
 .nil)
 (.cons (.set 1 (.call 8 (.cons (.v 1) (.cons (.tup (.cons (.lit (.int 2)) (.cons (.lit (.str "came")) (.cons (.lit (.int 4)) .nil)))) .nil)) .nil [] []))
 (.cons (.set 2 (.lt (.disp (.cons (.call 11 (.cons (.v 1) (.cons (.lit (.int 4)) .nil)) .nil [] []) (.cons (.call 12 (.cons (.v 1) (.cons (.lit (.int 4)) .nil)) .nil [] []) (.cons (.call 11 (.cons (.v 1) (.cons (.lit (.int 0)) .nil)) .nil [] []) (.cons (.call 33 (.cons (.v 1) .nil) .nil [] []) (.cons (.call 20 (.cons (.v 1) .nil) .nil [] []) .nil))))))))
 (.cons (.ret (.call 37 (.cons (.v 2) (.cons (.lt (.disp (.cons (.tup (.cons (.lit (.int 2)) (.cons (.lit (.int 2)) .nil))) (.cons (.lit (.bl true)) (.cons (.tup (.cons (.lit (.int 2)) (.cons (.lit (.int 3)) .nil))) (.cons (.tup (.cons (.lit (.int 1)) (.cons (.lit (.int 2)) (.cons (.lit (.int 4)) (.cons (.lit (.int 0)) .nil))))) (.cons (.lit (.int 2)) .nil))))))) .nil)) .nil [] []))
 .nil)))))))⟩
def n38 : List Str := ["_law_more", "_law_book", "_law_told", "_law_due"]
/-- _law_full_right -/
def f39 : Fn := ⟨0, 3, true, false,
 (.cons (.set 0 (.call 7 (.cons (.lit (.int 4)) (.cons (.tup (.cons (.lit (.int 1)) (.cons (.lit (.int 2)) (.cons (.lit (.int 0)) (.cons (.lit (.int 3)) .nil))))) .nil)) .nil [] []))
 (.cons (.set 1 (.lt (.disp (.cons (.call 3 (.cons (.tup (.cons (.lit (.int 1)) (.cons (.lit (.int 2)) (.cons (.lit (.int 0)) (.cons (.lit (.int 3)) .nil))))) .nil) .nil [] []) (.cons (.call 26 (.cons (.v 0) .nil) .nil [] []) (.cons (.call 13 (.cons (.v 0) .nil) .nil [] []) .nil))))))
 (.cons (.set 2 (.lt (.disp (.cons (.tup (.cons (.lit (.int 0)) (.cons (.lit (.int 0)) (.cons (.lit (.int 3)) (.cons (.lit (.int 4)) .nil))))) (.cons (.lt (.disp (.cons (.tup (.cons (.lit (.int 1)) (.cons (.lit (.int 2)) (.cons (.lit (.int 0)) (.cons (.lit (.int 3)) .nil))))) (.cons (.tup (.cons (.lit (.int 2)) (.cons (.lit (.int 1)) (.cons (.lit (.int 0)) (.cons (.lit (.int 3)) .nil))))) .nil)))) (.cons (.lt (.disp (.cons (.tup (.cons (.lit (.int 2)) (.cons (.lit (.int 2)) .nil))) (.cons (.tup (.cons (.lit (.int 0)) (.cons (.lit (.int 2)) .nil))) (.cons (.tup (.cons (.lit (.int 0)) (.cons (.lit (.int 2)) .nil))) (.cons (.tup (.cons (.lit (.int 3)) (.cons (.lit (.int 3)) .nil))) .nil)))))) .nil))))))
 (.cons (.ife (.not (.call 37 (.cons (.v 1) (.cons (.v 2) .nil)) .nil [] []))
 (.cons (.ret (.lit (.bl false)))
 .nil)
 .nil)
 (.cons (.set 1 (.lt (.disp (.cons (.call 26 (.cons (.tup (.cons (.lit (.int 3)) (.cons (.lit (.int 3)) (.cons (.tup (.cons (.tup (.cons (.lit (.int 1)) (.cons (.lit (.str "mark")) (.cons (.lit (.int 2)) .nil)))) .nil)) .nil)))) .nil) .nil [] []) (.cons (.call 26 (.cons (.tup (.cons (.lit (.int 3)) (.cons (.lit (.int 3)) (.cons (.tup (.cons (.tup (.cons (.lit (.int 0)) (.cons (.lit (.str "mark")) (.cons (.lit (.int 0)) .nil)))) .nil)) .nil)))) .nil) .nil [] []) .nil)))))
 (.cons (.set 2 (.lt (.disp (.cons (.lt (.disp (.cons (.tup (.cons (.lit (.int 0)) (.cons (.lit (.int 1)) (.cons (.lit (.int 2)) .nil)))) (.cons (.tup (.cons (.lit (.int 1)) (.cons (.lit (.int 0)) (.cons (.lit (.int 2)) .nil)))) .nil)))) (.cons (.lt (.disp (.cons (.tup (.cons (.lit (.int 1)) (.cons (.lit (.int 0)) (.cons (.lit (.int 2)) .nil)))) (.cons (.tup (.cons (.lit (.int 1)) (.cons (.lit (.int 2)) (.cons (.lit (.int 0)) .nil)))) (.cons (.tup (.cons (.lit (.int 2)) (.cons (.lit (.int 0)) (.cons (.lit (.int 1)) .nil)))) (.cons (.tup (.cons (.lit (.int 2)) (.cons (.lit (.int 1)) (.cons (.lit (.int 0)) .nil)))) .nil)))))) .nil)))))
 (.cons (.ife (.not (.call 37 (.cons (.v 1) (.cons (.v 2) .nil)) .nil [] []))
 (.cons (.ret (.lit (.bl false)))
 .nil)
 .nil)
 (.cons (.set 1 (.lt (.disp (.cons (.call 3 (.cons (.tup .nil) .nil) .nil [] []) (.cons (.call 3 (.cons (.tup (.cons (.lit (.int 0)) .nil)) .nil) .nil [] []) (.cons (.call 3 (.cons (.tup (.cons (.lit (.int 5)) (.cons (.lit (.int 0)) (.cons (.lit (.int 2)) (.cons (.lit (.int 1)) .nil))))) .nil) .nil [] []) (.cons (.call 3 (.cons (.tup (.cons (.bin .pow (.lit (.int 10)) (.lit (.int 9))) (.cons (.lit (.int 0)) (.cons (.lit (.int 1)) .nil)))) .nil) .nil [] []) (.cons (.call 7 (.cons (.lit (.int 0)) (.cons (.tup .nil) .nil)) .nil [] []) .nil))))))))
 (.cons (.set 1 (.bin .add (.v 1) (.lt (.disp (.cons (.call 20 (.cons (.tup (.cons (.lit (.int 0)) (.cons (.lit (.int 0)) (.cons (.tup .nil) .nil)))) .nil) .nil [] []) .nil)))))
 (.cons (.ret (.call 37 (.cons (.v 1) (.cons (.lt (.disp (.cons (.tup .nil) (.cons (.tup (.cons (.lit (.int 1)) .nil)) (.cons (.tup (.cons (.lit (.int 0)) (.cons (.lit (.int 1)) (.cons (.lit (.int 1)) (.cons (.lit (.int 3)) .nil))))) (.cons (.tup (.cons (.lit (.int 0)) (.cons (.lit (.int 1)) (.cons (.lit (.int 2)) .nil)))) (.cons (.tup (.cons (.lit (.int 0)) (.cons (.lit (.int 0)) (.cons (.tup .nil) .nil)))) (.cons (.lit (.int 1)) .nil)))))))) .nil)) .nil [] []))
 .nil))))))))))⟩
def n39 : List Str := ["_law_book", "_law_told", "_law_due"]
/-- _law_none_right -/
def f40 : Fn := ⟨1, 5, true, false,
 (.cons (.set 1 (.lt (.disp (.cons (.call 30 (.cons (.tup (.cons (.bin .add (.lit (.int 3)) (.v 0)) (.cons (.lit (.int 3)) (.cons (.tup (.cons (.tup (.cons (.lit (.int 0)) (.cons (.lit (.str "mark")) (.cons (.lit (.int 2)) .nil)))) .nil)) .nil)))) .nil) .nil [] []) (.cons (.call 30 (.cons (.tup (.cons (.bin .add (.lit (.int 4)) (.v 0)) (.cons (.lit (.int 3)) (.cons (.tup (.cons (.tup (.cons (.lit (.int 0)) (.cons (.lit (.str "mark")) (.cons (.lit (.int 1)) .nil)))) (.cons (.tup (.cons (.lit (.int 2)) (.cons (.lit (.str "mark")) (.cons (.lit (.int 0)) .nil)))) .nil))) .nil)))) .nil) .nil [] []) .nil)))))
 (.cons (.set 1 (.bin .add (.v 1) (.lt (.disp (.cons (.call 30 (.cons (.tup (.cons (.lit (.int 3)) (.cons (.lit (.int 3)) (.cons (.tup (.cons (.tup (.cons (.lit (.int 1)) (.cons (.lit (.str "mark")) (.cons (.lit (.int 3)) .nil)))) .nil)) .nil)))) .nil) .nil [] []) (.cons (.call 30 (.cons (.tup (.cons (.lit (.int 2)) (.cons (.lit (.int 2)) (.cons (.tup (.cons (.tup (.cons (.lit (.int 1)) (.cons (.lit (.str "mark")) (.cons (.lit (.int 1)) .nil)))) .nil)) .nil)))) .nil) .nil [] []) .nil))))))
 (.cons (.set 1 (.bin .add (.v 1) (.lt (.disp (.cons (.call 30 (.cons (.tup (.cons (.lit (.int 2)) (.cons (.lit (.int 2)) (.cons (.tup (.cons (.tup (.cons (.lit (.int 0)) (.cons (.lit (.str "mark")) (.cons (.lit (.int 1)) .nil)))) .nil)) .nil)))) .nil) .nil [] []) .nil)))))
 (.cons (.set 2 (.lt (.disp (.cons (.tup (.cons (.lit (.str "many")) (.cons (.lit (.int 0)) (.cons (.lit (.int 0)) .nil)))) (.cons (.tup (.cons (.lit (.str "never")) (.cons (.lit (.int 0)) .nil))) (.cons (.tup (.cons (.lit (.str "many")) (.cons (.lit (.int 0)) (.cons (.lit (.int 1)) .nil)))) (.cons (.tup (.cons (.lit (.str "never")) (.cons (.lit (.int 1)) .nil))) (.cons (.lit .non) .nil))))))))
 (.cons (.ife (.not (.call 37 (.cons (.v 1) (.cons (.v 2) .nil)) .nil [] []))
 (.cons (.ret (.lit (.bl false)))
 .nil)
 .nil)
 (.cons (.set 1 (.tup (.cons (.tup (.cons (.lit (.int 1)) (.cons (.lit (.str "mark")) (.cons (.lit (.int 0)) .nil)))) (.cons (.tup (.cons (.lit (.int 2)) (.cons (.lit (.str "came")) (.cons (.lit (.int 6)) .nil)))) (.cons (.tup (.cons (.lit (.int 2)) (.cons (.lit (.str "mark")) (.cons (.lit (.int 1)) .nil)))) (.cons (.tup (.cons (.lit (.int 3)) (.cons (.lit (.str "came")) (.cons (.lit (.int 7)) .nil)))) (.cons (.tup (.cons (.lit (.int 3)) (.cons (.lit (.str "mark")) (.cons (.lit (.int 2)) .nil)))) .nil)))))))
 (.cons (.ife (.not (.call 37 (.cons (.call 30 (.cons (.tup (.cons (.bin .add (.lit (.int 8)) (.v 0)) (.cons (.lit (.int 4)) (.cons (.v 1) .nil)))) .nil) .nil [] []) (.cons (.tup (.cons (.lit (.str "many")) (.cons (.lit (.int 1)) (.cons (.lit (.int 3)) .nil)))) .nil)) .nil [] []))
 (.cons (.ret (.lit (.bl false)))
 .nil)
 .nil)
 (.cons (.set 3 (.tup (.cons (.bin .add (.lit (.int 3)) (.v 0)) (.cons (.lit (.int 2)) (.cons (.tup (.cons (.tup (.cons (.lit (.int 0)) (.cons (.lit (.str "came")) (.cons (.lit (.int 1)) .nil)))) (.cons (.tup (.cons (.lit (.int 1)) (.cons (.lit (.str "came")) (.cons (.lit (.int 1)) .nil)))) .nil))) .nil)))))
 (.cons (.set 4 (.tup (.cons (.bin .add (.lit (.int 4)) (.v 0)) (.cons (.lit (.int 4)) (.cons (.tup (.cons (.tup (.cons (.lit (.int 0)) (.cons (.lit (.str "mark")) (.cons (.lit (.int 1)) .nil)))) (.cons (.tup (.cons (.lit (.int 2)) (.cons (.lit (.str "came")) (.cons (.lit (.int 0)) .nil)))) .nil))) .nil)))))
 (.cons (.set 1 (.lt (.disp (.cons (.call 30 (.cons (.v 3) .nil) .nil [] []) (.cons (.call 30 (.cons (.v 4) .nil) .nil [] []) (.cons (.call 31 (.cons (.v 3) .nil) .nil [] []) (.cons (.call 31 (.cons (.v 4) .nil) .nil [] []) (.cons (.call 20 (.cons (.v 4) .nil) .nil [] []) .nil))))))))
 (.cons (.ret (.call 37 (.cons (.v 1) (.cons (.lt (.disp (.cons (.tup (.cons (.lit (.str "never")) (.cons (.lit (.int 1)) .nil))) (.cons (.tup (.cons (.lit (.str "never")) (.cons (.lit (.int 0)) .nil))) (.cons (.lit (.bl false)) (.cons (.lit (.bl false)) (.cons (.lit (.int 0)) .nil))))))) .nil)) .nil [] []))
 .nil)))))))))))⟩
def n40 : List Str := ["_law_more", "_law_told", "_law_due", "_law_twice", "_law_late"]
/-- _law_right -/
def f41 : Fn := ⟨1, 2, false, false,
 (.cons (.set 1 (.call 36 (.cons (.v 0) (.cons (.lit (.int 8)) .nil)) .nil [] []))
 (.cons (.ret (.and (.call 38 (.cons (.v 1) .nil) .nil [] []) (.and (.call 39 .nil .nil [] []) (.call 40 (.cons (.v 1) .nil) .nil [] []))))
 .nil))⟩
def n41 : List Str := ["_law_box_here", "_law_more"]
/-- law -/
def f42 : Fn := ⟨1, 4, true, false,
 (.cons (.for_ (.v 1) (.rng1 (.bin .add (.lit (.int 1)) (.bi .min2 (.cons (.lit (.int 3)) (.cons (.bi .len (.cons (.v 0) .nil)) .nil)))))
 (.cons (.set 2 (.call 35 (.cons (.v 0) (.cons (.v 1) .nil)) .nil [] []))
 (.cons (.ife (.not (.bi .all (.cons (.lt (.comp (.v 3) (.rng1 (.lit (.int 3))) .none (.call 41 (.cons (.v 2) .nil) .nil [] []) [3])) .nil)))
 (.cons (.ret (.lit (.bl false)))
 .nil)
 .nil)
 .nil)))
 (.cons (.ret (.lit (.bl true)))
 .nil))⟩
def n42 : List Str := ["_law_script", "_law_k", "_law_box_here", "_law_turn"]
def phi : Nat → Option Fn
  | 0 => some f0
  | 1 => some f1
  | 2 => some f2
  | 3 => some f3
  | 4 => some f4
  | 5 => some f5
  | 6 => some f6
  | 7 => some f7
  | 8 => some f8
  | 9 => some f9
  | 10 => some f10
  | 11 => some f11
  | 12 => some f12
  | 13 => some f13
  | 14 => some f14
  | 15 => some f15
  | 16 => some f16
  | 17 => some f17
  | 18 => some f18
  | 19 => some f19
  | 20 => some f20
  | 21 => some f21
  | 22 => some f22
  | 23 => some f23
  | 24 => some f24
  | 25 => some f25
  | 26 => some f26
  | 27 => some f27
  | 28 => some f28
  | 29 => some f29
  | 30 => some f30
  | 31 => some f31
  | 32 => some f32
  | 33 => some f33
  | 34 => some f34
  | 35 => some f35
  | 36 => some f36
  | 37 => some f37
  | 38 => some f38
  | 39 => some f39
  | 40 => some f40
  | 41 => some f41
  | 42 => some f42
  | _ => none
def gl : Nat → T
  | 0 => (.int 300)
  | _ => .non
theorem c0 : chkAt lw (top 7) "is_number" n0 ["thing"] f0 = true := by decide +kernel
theorem c1 : chkAt lw (top 8) "plain" n1 ["journal"] f1 = true := by decide +kernel
theorem c2 : chkAt lw (top 9) "next_mark" n2 ["mark", "there"] f2 = true := by decide +kernel
theorem c3 : chkAt lw (top 10) "marks" n3 ["row"] f3 = true := by decide +kernel
theorem c4 : chkAt lw (top 11) "is_true" n4 ["note", "row", "all_marks"] f4 = true := by decide +kernel
theorem c5 : chkAt lw (top 12) "is_row" n5 ["thing", "parcels", "times"] f5 = true := by decide +kernel
theorem c6 : chkAt lw (top 13) "is_order" n6 ["journal", "thing"] f6 = true := by decide +kernel
theorem c7 : chkAt lw (top 14) "journal_of" n7 ["parcels", "row"] f7 = true := by decide +kernel
theorem c8 : chkAt lw (top 15) "with_note" n8 ["journal", "note"] f8 = true := by decide +kernel
theorem c9 : chkAt lw (top 18) "noted" n9 ["journal", "kind"] f9 = true := by decide +kernel
theorem c10 : chkAt lw (top 19) "look_parcel" n10 ["journal", "parcel"] f10 = true := by decide +kernel
theorem c11 : chkAt lw (top 20) "window" n11 ["journal", "parcel"] f11 = true := by decide +kernel
theorem c12 : chkAt lw (top 21) "must_come" n12 ["journal", "parcel"] f12 = true := by decide +kernel
theorem c13 : chkAt lw (top 22) "windows" n13 ["journal"] f13 = true := by decide +kernel
theorem c14 : chkAt lw (top 23) "sure_parcels" n14 ["journal"] f14 = true := by decide +kernel
theorem c15 : chkAt lw (top 25) "falling" n15 ["pool", "many"] f15 = true := by decide +kernel
theorem c16 : chkAt lw (top 26) "is_sound" n16 ["journal"] f16 = true := by decide +kernel
theorem c17 : chkAt lw (top 27) "steps" n17 ["journal"] f17 = true := by decide +kernel
theorem c18 : chkAt lw (top 28) "free_times" n18 ["journal", "first", "last"] f18 = true := by decide +kernel
theorem c19 : chkAt lw (top 29) "count_below" n19 ["journal", "fixed"] f19 = true := by decide +kernel
theorem c20 : chkAt lw (top 30) "count_orders" n20 ["journal"] f20 = true := by decide +kernel
theorem c21 : chkAt lw (top 31) "begun" n21 ["journal", "row"] f21 = true := by decide +kernel
theorem c22 : chkAt lw (top 32) "keeps_noted" n22 ["journal", "row"] f22 = true := by decide +kernel
theorem c23 : chkAt lw (top 33) "count_after" n23 ["journal", "row"] f23 = true := by decide +kernel
theorem c24 : chkAt lw (top 34) "next_counts" n24 ["journal", "row"] f24 = true := by decide +kernel
theorem c25 : chkAt lw (top 35) "order_at" n25 ["journal", "number"] f25 = true := by decide +kernel
theorem c26 : chkAt lw (top 36) "all_orders" n26 ["journal"] f26 = true := by decide +kernel
theorem c27 : chkAt lw (top 38) "sure_windows" n27 ["journal"] f27 = true := by decide +kernel
theorem c28 : chkAt lw (top 39) "lost_parcels" n28 ["journal"] f28 = true := by decide +kernel
theorem c29 : chkAt lw (top 40) "is_crowded" n29 ["some", "first", "last"] f29 = true := by decide +kernel
theorem c30 : chkAt lw (top 41) "evidence" n30 ["journal"] f30 = true := by decide +kernel
theorem c31 : chkAt lw (top 42) "is_possible" n31 ["journal"] f31 = true := by decide +kernel
theorem c32 : chkAt lw (top 43) "look_possible" n32 ["journal"] f32 = true := by decide +kernel
theorem c33 : chkAt lw (top 44) "first_order" n33 ["journal"] f33 = true := by decide +kernel
theorem c34 : chkAt lw (top 46) "_law_cell_at" n34 ["_law_script", "_law_k"] f34 = true := by decide +kernel
theorem c35 : chkAt lw (top 47) "_law_box" n35 ["_law_script", "_law_k"] f35 = true := by decide +kernel
theorem c36 : chkAt lw (top 48) "_law_take" n36 ["_law_box_here", "_law_below"] f36 = true := by decide +kernel
theorem c37 : chkAt lw (top 49) "_law_same" n37 ["_law_found", "_law_due"] f37 = true := by decide +kernel
theorem c38 : chkAt lw (top 50) "_law_book_right" n38 ["_law_more"] f38 = true := by decide +kernel
theorem c39 : chkAt lw (top 51) "_law_full_right" n39 [] f39 = true := by decide +kernel
theorem c40 : chkAt lw (top 52) "_law_none_right" n40 ["_law_more"] f40 = true := by decide +kernel
theorem c41 : chkAt lw (top 53) "_law_right" n41 ["_law_box_here"] f41 = true := by decide +kernel
theorem c42 : chkAt lw (top 54) "law" n42 ["_law_script"] f42 = true := by decide +kernel
end K08
namespace K08
open PySem Lm
theorem r40_0 : ∀ st, callF phi gl 58 40 [.int 0] st = .ok (.bl true) st := by intro st; kernel_rfl
theorem r40_1 : ∀ st, callF phi gl 58 40 [.int 1] st = .ok (.bl true) st := by intro st; kernel_rfl
theorem r40_2 : ∀ st, callF phi gl 58 40 [.int 2] st = .ok (.bl true) st := by intro st; kernel_rfl
theorem r40_3 : ∀ st, callF phi gl 58 40 [.int 3] st = .ok (.bl true) st := by intro st; kernel_rfl
theorem r40_4 : ∀ st, callF phi gl 58 40 [.int 4] st = .ok (.bl true) st := by intro st; kernel_rfl
theorem r40_5 : ∀ st, callF phi gl 58 40 [.int 5] st = .ok (.bl true) st := by intro st; kernel_rfl
theorem r40_6 : ∀ st, callF phi gl 58 40 [.int 6] st = .ok (.bl true) st := by intro st; kernel_rfl
theorem r40_7 : ∀ st, callF phi gl 58 40 [.int 7] st = .ok (.bl true) st := by intro st; kernel_rfl
theorem r38_0 : ∀ st, callF phi gl 58 38 [.int 0] st = .ok (.bl true) st := by intro st; kernel_rfl
theorem r38_1 : ∀ st, callF phi gl 58 38 [.int 1] st = .ok (.bl true) st := by intro st; kernel_rfl
theorem r38_2 : ∀ st, callF phi gl 58 38 [.int 2] st = .ok (.bl true) st := by intro st; kernel_rfl
theorem r38_3 : ∀ st, callF phi gl 58 38 [.int 3] st = .ok (.bl true) st := by intro st; kernel_rfl
theorem r38_4 : ∀ st, callF phi gl 58 38 [.int 4] st = .ok (.bl true) st := by intro st; kernel_rfl
theorem r38_5 : ∀ st, callF phi gl 58 38 [.int 5] st = .ok (.bl true) st := by intro st; kernel_rfl
theorem r38_6 : ∀ st, callF phi gl 58 38 [.int 6] st = .ok (.bl true) st := by intro st; kernel_rfl
theorem r38_7 : ∀ st, callF phi gl 58 38 [.int 7] st = .ok (.bl true) st := by intro st; kernel_rfl

end K08
namespace K08
open PySem Lm
theorem r39 : ∀ st, callF phi gl 58 39 [] st = .ok (.bl true) st := by intro st; kernel_rfl
end K08
namespace K08
open PySem Lm
theorem e36 : phi 36 = some (fTake 36) := rfl
theorem e34 : phi 34 = some fCell := rfl
theorem e35 : phi 35 = some (fBox 34) := rfl
theorem all38 (r : Int) (h0 : 0 ≤ r) (h1 : r < 8) (st : Sto) : callF phi gl 58 38 [.int r] st = .ok (.bl true) st ∧ callF phi gl 58 40 [.int r] st = .ok (.bl true) st := by
  have : r = 0 ∨ r = 1 ∨ r = 2 ∨ r = 3 ∨ r = 4 ∨ r = 5 ∨ r = 6 ∨ r = 7 := by omega
  rcases this with rfl | rfl | rfl | rfl | rfl | rfl | rfl | rfl
  · exact ⟨r38_0 st, r40_0 st⟩
  · exact ⟨r38_1 st, r40_1 st⟩
  · exact ⟨r38_2 st, r40_2 st⟩
  · exact ⟨r38_3 st, r40_3 st⟩
  · exact ⟨r38_4 st, r40_4 st⟩
  · exact ⟨r38_5 st, r40_5 st⟩
  · exact ⟨r38_6 st, r40_6 st⟩
  · exact ⟨r38_7 st, r40_7 st⟩
theorem right {st : Sto} {i : Nat} {a b c : Int} (hn : noIns st = true) (hi : st[i]? = some (box a b c)) (b0 : 0 ≤ b) (b1 : b < 2 ^ 62) (c0 : 0 ≤ c) (c1 : c < 1000000) :
    ∃ a' c', callF phi gl 59 41 [.obj i] st = .ok (.bl true) (st.set i (box a' b c')) ∧ c ≤ c' ∧ c' ≤ c + 1 := by
  obtain ⟨r, a', c', e1, r0, r1, d0, d1⟩ := take_box (g := gl) (n := 57) (m := 8) e36 hn hi (by omega) (by omega) b0 b1 c0 c1
  refine ⟨a', c', ?_, d0, d1⟩
  have body : callF phi gl 59 41 [.obj i] st = finish false st (evSs ⟨callF phi gl 58, gl⟩ f41.body [some (.obj i), none] st) := rfl
  rw [body]
  have fin : ∀ (x y z : Int), finish false st (.ret (.bl true) (st.set i (box x y z))) = .ok (.bl true) (st.set i (box x y z)) := fun x y z => by
    show (if (false : Bool) = true then R.ok (T.bl true) (st.set i (box x y z)) else if (T.own st.length (T.bl true) && keepOk st.length st (st.set i (box x y z))) = true then R.ok (T.bl true) ((st.set i (box x y z)).take st.length) else .bad) = _
    rw [if_neg (by decide), if_pos (by rw [keepOk_set st.length (box x y z) rfl st i hn]; rfl), List.take_of_length_le (by rw [List.length_set]; exact Nat.le_refl _)]
  rw [← fin a' b c']
  congr 1
  obtain ⟨h38, h40⟩ := all38 r r0 r1 (st.set i (box a' b c'))
  have h39 := r39 (st.set i (box a' b c'))
  generalize hcf : (⟨callF phi gl 58, gl⟩ : Cf) = cf
  have q1 : cf.call 36 [.obj i, .int 8] st = .ok (.int r) (st.set i (box a' b c')) := by rw [← hcf]; exact e1
  have q2 : cf.call 38 [.int r] (st.set i (box a' b c')) = .ok (.bl true) (st.set i (box a' b c')) := by rw [← hcf]; exact h38
  have q3 : cf.call 39 [] (st.set i (box a' b c')) = .ok (.bl true) (st.set i (box a' b c')) := by rw [← hcf]; exact h39
  have q4 : cf.call 40 [.int r] (st.set i (box a' b c')) = .ok (.bl true) (st.set i (box a' b c')) := by rw [← hcf]; exact h40
  have hemp : List.isEmpty ([] : List Str) = true := rfl
  simp only [f41, evSs, evS, evE, evEs, R.bnd_ok, R.then_ok, Lit.t, List.getElem?_cons_zero, List.getElem?_cons_succ, List.set_cons_succ, List.set_cons_zero, hemp, if_true, q1, q2, q3, q4]
/-- the three turns of one box -/
theorem turns {st : Sto} {i : Nat} {a b : Int} {ρ : Fm} (hl : ρ.length = 4) (h2 : ρ[2]? = some (some (.obj i))) (hn : noIns st = true) (hi : st[i]? = some (box a b 0)) (b0 : 0 ≤ b) (b1 : b < 2 ^ 62) :
    ∃ st', evE ⟨callF phi gl 59, gl⟩ (.bi .all (.cons (.lt (.comp (.v 3) (.rng1 (.lit (.int 3))) .none (.call 41 (.cons (.v 2) .nil) .nil [] []) [3])) .nil)) ρ st = .ok (.bl true) st' ∧ noIns st' = true := by
  generalize hcf : (⟨callF phi gl 59, gl⟩ : Cf) = cf
  let I : List T → Sto → Prop := fun xs s => noIns s = true ∧ ∃ a' c', s[i]? = some (box a' b c') ∧ 0 ≤ c' ∧ c' + xs.length ≤ 3
  obtain ⟨st', e, hn', _⟩ := comp_inv (chk := fun st' => sameSrc st st' []) (body := fun x st => match asgP (.v 3) x (wipeE ρ [3]) with
        | none => .bad
        | some ρ2 => (evC cf .none ρ2 st).nox.bnd fun b st => if b then ((evE cf (.call 41 (.cons (.v 2) .nil) .nil [] []) ρ2 st).nox.bnd fun t st => .ok (some t) st) else .ok none st) I (.bl true) (fun x xs s hI => by
      obtain ⟨k1, a', c', k2, k3, k4⟩ := hI
      simp only [List.length_cons] at k4
      obtain ⟨a2, c2, k5, k6, k7⟩ := right k1 k2 b0 b1 k3 (by omega)
      have q1 : cf.call 41 [.obj i] s = .ok (.bl true) (s.set i (box a2 b c2)) := by rw [← hcf]; exact k5
      refine ⟨s.set i (box a2 b c2), ?_, rfl, noIns_set _ _ _ k1, a2, c2, get_set k2, by omega, by omega⟩
      have hρ : ((wipeE ρ [3]).set 3 (some x))[2]? = some (some (.obj i)) := by
        show ((ρ.set 3 none).set 3 (some x))[2]? = _
        rw [List.getElem?_set_ne (by decide), List.getElem?_set_ne (by decide), h2]
      have hemp : List.isEmpty ([] : List Str) = true := rfl
      simp only [asgP, evC, evE, evEs, R.bnd_ok, R.nox_ok, hρ, hemp, if_true, q1]) [.int 0, .int 1, .int 2] st ⟨hn, a, 0, hi, by omega, by simp⟩
  refine ⟨st', ?_, hn'⟩
  have r3 : (⟨rngF 0 (3 : Int).toNat, []⟩ : Wk) = ⟨[.int 0, .int 1, .int 2], []⟩ := rfl
  have ev : evL cf (.comp (.v 3) (.rng1 (.lit (.int 3))) .none (.call 41 (.cons (.v 2) .nil) .nil [] []) [3]) ρ st = .ok [.bl true, .bl true, .bl true] st' := by
    have : evIt cf (.rng1 (.lit (.int 3))) ρ st = .ok ⟨[.int 0, .int 1, .int 2], []⟩ st := rfl
    rw [evL, this, R.bnd_ok, if_pos (by show 3 ≤ sizeLine; decide)]
    exact e
  have ee : evEs cf (.cons (.lt (.comp (.v 3) (.rng1 (.lit (.int 3))) .none (.call 41 (.cons (.v 2) .nil) .nil [] []) [3])) .nil) ρ st = .ok [.lst [.bl true, .bl true, .bl true]] st' := by
    rw [evEs_one, evE, ev]; rfl
  rw [evE, ee]; rfl
theorem yes : Yes phi gl 60 42 63 := by
  intro ns _
  refine ⟨[], ?_⟩
  have body : callF phi gl 60 42 [.scr ns] [] = pureEnd [] (evSs ⟨callF phi gl 59, gl⟩ f42.body [some (.scr ns), none, none, none] []) := rfl
  rw [body]
  have eT := @turns
  generalize hcf : (⟨callF phi gl 59, gl⟩ : Cf) = cf at eT ⊢
  have it : evIt cf (.rng1 (.bin .add (.lit (.int 1)) (.bi .min2 (.cons (.lit (.int 3)) (.cons (.bi .len (.cons (.v 0) .nil)) .nil))))) [some (.scr ns), none, none, none] [] = .ok ⟨rngF 0 (1 + (if (ns.length : Int) < 3 then (ns.length : Int) else 3)).toNat, []⟩ [] := by
    have h1 : biF [] .len [.scr ns] = some (.int ns.length) := rfl
    have h2 : biF [] .min2 [.int 3, .int ns.length] = some (.int (if (ns.length : Int) < 3 then (ns.length : Int) else 3)) := rfl
    have h3 : inR (1 + (if (ns.length : Int) < 3 then (ns.length : Int) else 3)) = true := by unfold inR; simp only [decide_eq_true_eq]; split <;> omega
    simp only [evIt, evE, evEs, R.bnd_ok, Lit.t, List.getElem?_cons_zero, h1, R.lift_some, h2, deref, binop, h3, if_true]
  let I : List T → Fm → Sto → Prop := fun xs ρ st => noIns st = true ∧ ρ.length = 4 ∧ ρ[0]? = some (some (.scr ns)) ∧ ∀ x ∈ xs, ∃ k : Int, x = .int k ∧ 0 ≤ k ∧ k < 1000000
  obtain ⟨ρ', st', e, _⟩ := for_inv (tgt := asgP (.v 1)) (chk := fun st' => sameSrc [] st' []) (body := evSs cf (.cons (.set 2 (.call 35 (.cons (.v 0) (.cons (.v 1) .nil)) .nil [] []))
      (.cons (.ife (.not (.bi .all (.cons (.lt (.comp (.v 3) (.rng1 (.lit (.int 3))) .none (.call 41 (.cons (.v 2) .nil) .nil [] []) [3])) .nil))) (.cons (.ret (.lit (.bl false))) .nil) .nil) .nil))) I (fun x xs ρ st hI => by
      obtain ⟨k1, k2, k3, k4⟩ := hI
      obtain ⟨k, rfl, k5, k6⟩ := k4 x List.mem_cons_self
      obtain ⟨a, b, q1, b0, b1⟩ := box_new (g := gl) (n := 57) e34 e35 ns k k5 k6 st
      have q2 : cf.call 35 [.scr ns, .int k] st = .ok (.obj st.length) (st ++ [box a b 0]) := by rw [← hcf]; exact q1
      have hn2 : noIns (st ++ [box a b 0]) = true := noIns_app _ _ k1
      have hi2 : (st ++ [box a b 0])[st.length]? = some (box a b 0) := by simp
      let ρ1 := ρ.set 1 (some (T.int k))
      let ρ2 := ρ1.set 2 (some (T.obj st.length))
      have r0 : ρ1[0]? = some (some (.scr ns)) := by show (ρ.set 1 _)[0]? = _; rw [List.getElem?_set_ne (by decide), k3]
      have r1 : ρ1[1]? = some (some (.int k)) := by show (ρ.set 1 _)[1]? = _; rw [List.getElem?_set]; simp [k2]
      have l1 : ρ1.length = 4 := by show (ρ.set 1 _).length = 4; rw [List.length_set, k2]
      have l2 : ρ2.length = 4 := by show (ρ1.set 2 _).length = 4; rw [List.length_set, l1]
      have r2 : ρ2[2]? = some (some (.obj st.length)) := by show (ρ1.set 2 _)[2]? = _; rw [List.getElem?_set]; simp [l1]
      obtain ⟨st2, q3, hn3⟩ := eT l2 r2 hn2 hi2 b0 b1
      have hemp : List.isEmpty ([] : List Str) = true := rfl
      refine ⟨ρ1, ρ2, st2, rfl, .inl ?_, rfl, hn3, l2, by show (ρ1.set 2 _)[0]? = _; rw [List.getElem?_set_ne (by decide), r0], fun y hy => k4 y (List.mem_cons_of_mem _ hy)⟩
      have s1 : evS cf (.set 2 (.call 35 (.cons (.v 0) (.cons (.v 1) .nil)) .nil [] [])) ρ1 st = .nx ρ2 (st ++ [box a b 0]) := by
        simp only [evS, evE, evEs, R.bnd_ok, R.then_ok, r0, r1, hemp, if_true, q2]
        rfl
      have s2 : evS cf (.ife (.not (.bi .all (.cons (.lt (.comp (.v 3) (.rng1 (.lit (.int 3))) .none (.call 41 (.cons (.v 2) .nil) .nil [] []) [3])) .nil))) (.cons (.ret (.lit (.bl false))) .nil) .nil) ρ2 (st ++ [box a b 0]) = .nx ρ2 st2 := by
        show ((evE cf (.bi .all _) ρ2 (st ++ [box a b 0])).bnd _).then_ ρ2 _ = _
        rw [q3]; rfl
      show (match evS cf (.set 2 _) ρ1 st with | .nx ρ st => evSs cf _ ρ st | r => r) = _
      rw [s1]
      show (match evS cf (.ife _ _ _) ρ2 (st ++ [box a b 0]) with | .nx ρ st => evSs cf .nil ρ st | r => r) = _
      rw [s2]; rfl) (rngF 0 (1 + (if (ns.length : Int) < 3 then (ns.length : Int) else 3)).toNat) [some (.scr ns), none, none, none] [] ⟨rfl, rfl, rfl, fun x hx => by
      unfold rngF at hx
      obtain ⟨j, hj, rfl⟩ := List.mem_map.mp hx
      have := List.mem_range.mp hj
      refine ⟨_, rfl, by omega, ?_⟩
      split at this <;> omega⟩
  have s1 : evS cf (.for_ (.v 1) (.rng1 (.bin .add (.lit (.int 1)) (.bi .min2 (.cons (.lit (.int 3)) (.cons (.bi .len (.cons (.v 0) .nil)) .nil))))) (.cons (.set 2 (.call 35 (.cons (.v 0) (.cons (.v 1) .nil)) .nil [] []))
      (.cons (.ife (.not (.bi .all (.cons (.lt (.comp (.v 3) (.rng1 (.lit (.int 3))) .none (.call 41 (.cons (.v 2) .nil) .nil [] []) [3])) .nil))) (.cons (.ret (.lit (.bl false))) .nil) .nil) .nil))) [some (.scr ns), none, none, none] [] = .nx ρ' st' := by
    show (evIt cf _ _ _).then_ _ _ = _
    rw [it, R.then_ok]
    exact e
  show pureEnd [] (match evS cf (.for_ _ _ _) _ _ with | .nx ρ st => evSs cf (.cons (.ret (.lit (.bl true))) .nil) ρ st | r => r) = _
  rw [s1]
  rfl
end K08
open PySem PySem.W PyProof.Rows
set_option maxRecDepth 100000 in
set_option maxHeartbeats 0 in
theorem PySem.Challenge.cw_leastmissing_k08_known_by_hand_holds : PySem.Challenge.rw_leastmissing_k08_known_by_hand.Holds := by
  w_on; o_law; k_head; (case hw => w_witness2)
  k_fill
  refine Lm.walkG (l := PySem.Challenge.rw_leastmissing_k08_known_by_hand) (n := 63) (k := 60) (x := "_law_script") (Φ := K08.phi) (f := 42) rfl (by decide) rfl ⟨rfl, by decide, by decide⟩ (fun w h Y => PySem.W.kIn_of Y) K08.gl K08.yes (fun _ => 0) (fun _ => "") ?lmF
  case lmF =>
    intro w mg fa h KX G hmg
    refine Lm.fd_of (L := K08.lw) (f := 42) (x := "law") KX G ?lmd ?lmb ?lmgg rfl hmg
    case lmd =>
      refine' .cons (Lm.df_mk (fn := K08.f0) (s := K08.top 7) (N := K08.n0) KX G rfl K08.c0 ?lma0 ?lml0 ?lmc0 ?lmk0) (.cons (Lm.df_mk (fn := K08.f1) (s := K08.top 8) (N := K08.n1) KX G rfl K08.c1 ?lma1 ?lml1 ?lmc1 ?lmk1) (.cons (Lm.df_mk (fn := K08.f2) (s := K08.top 9) (N := K08.n2) KX G rfl K08.c2 ?lma2 ?lml2 ?lmc2 ?lmk2) (.cons (Lm.df_mk (fn := K08.f3) (s := K08.top 10) (N := K08.n3) KX G rfl K08.c3 ?lma3 ?lml3 ?lmc3 ?lmk3) (.cons (Lm.df_mk (fn := K08.f4) (s := K08.top 11) (N := K08.n4) KX G rfl K08.c4 ?lma4 ?lml4 ?lmc4 ?lmk4) (.cons (Lm.df_mk (fn := K08.f5) (s := K08.top 12) (N := K08.n5) KX G rfl K08.c5 ?lma5 ?lml5 ?lmc5 ?lmk5) (.cons (Lm.df_mk (fn := K08.f6) (s := K08.top 13) (N := K08.n6) KX G rfl K08.c6 ?lma6 ?lml6 ?lmc6 ?lmk6) (.cons (Lm.df_mk (fn := K08.f7) (s := K08.top 14) (N := K08.n7) KX G rfl K08.c7 ?lma7 ?lml7 ?lmc7 ?lmk7) (.cons (Lm.df_mk (fn := K08.f8) (s := K08.top 15) (N := K08.n8) KX G rfl K08.c8 ?lma8 ?lml8 ?lmc8 ?lmk8) (.cons (Lm.df_mk (fn := K08.f9) (s := K08.top 18) (N := K08.n9) KX G rfl K08.c9 ?lma9 ?lml9 ?lmc9 ?lmk9) (.cons (Lm.df_mk (fn := K08.f10) (s := K08.top 19) (N := K08.n10) KX G rfl K08.c10 ?lma10 ?lml10 ?lmc10 ?lmk10) (.cons (Lm.df_mk (fn := K08.f11) (s := K08.top 20) (N := K08.n11) KX G rfl K08.c11 ?lma11 ?lml11 ?lmc11 ?lmk11) (.cons (Lm.df_mk (fn := K08.f12) (s := K08.top 21) (N := K08.n12) KX G rfl K08.c12 ?lma12 ?lml12 ?lmc12 ?lmk12) (.cons (Lm.df_mk (fn := K08.f13) (s := K08.top 22) (N := K08.n13) KX G rfl K08.c13 ?lma13 ?lml13 ?lmc13 ?lmk13) (.cons (Lm.df_mk (fn := K08.f14) (s := K08.top 23) (N := K08.n14) KX G rfl K08.c14 ?lma14 ?lml14 ?lmc14 ?lmk14) (.cons (Lm.df_mk (fn := K08.f15) (s := K08.top 25) (N := K08.n15) KX G rfl K08.c15 ?lma15 ?lml15 ?lmc15 ?lmk15) (.cons (Lm.df_mk (fn := K08.f16) (s := K08.top 26) (N := K08.n16) KX G rfl K08.c16 ?lma16 ?lml16 ?lmc16 ?lmk16) (.cons (Lm.df_mk (fn := K08.f17) (s := K08.top 27) (N := K08.n17) KX G rfl K08.c17 ?lma17 ?lml17 ?lmc17 ?lmk17) (.cons (Lm.df_mk (fn := K08.f18) (s := K08.top 28) (N := K08.n18) KX G rfl K08.c18 ?lma18 ?lml18 ?lmc18 ?lmk18) (.cons (Lm.df_mk (fn := K08.f19) (s := K08.top 29) (N := K08.n19) KX G rfl K08.c19 ?lma19 ?lml19 ?lmc19 ?lmk19) (.cons (Lm.df_mk (fn := K08.f20) (s := K08.top 30) (N := K08.n20) KX G rfl K08.c20 ?lma20 ?lml20 ?lmc20 ?lmk20) (.cons (Lm.df_mk (fn := K08.f21) (s := K08.top 31) (N := K08.n21) KX G rfl K08.c21 ?lma21 ?lml21 ?lmc21 ?lmk21) (.cons (Lm.df_mk (fn := K08.f22) (s := K08.top 32) (N := K08.n22) KX G rfl K08.c22 ?lma22 ?lml22 ?lmc22 ?lmk22) (.cons (Lm.df_mk (fn := K08.f23) (s := K08.top 33) (N := K08.n23) KX G rfl K08.c23 ?lma23 ?lml23 ?lmc23 ?lmk23) (.cons (Lm.df_mk (fn := K08.f24) (s := K08.top 34) (N := K08.n24) KX G rfl K08.c24 ?lma24 ?lml24 ?lmc24 ?lmk24) (.cons (Lm.df_mk (fn := K08.f25) (s := K08.top 35) (N := K08.n25) KX G rfl K08.c25 ?lma25 ?lml25 ?lmc25 ?lmk25) (.cons (Lm.df_mk (fn := K08.f26) (s := K08.top 36) (N := K08.n26) KX G rfl K08.c26 ?lma26 ?lml26 ?lmc26 ?lmk26) (.cons (Lm.df_mk (fn := K08.f27) (s := K08.top 38) (N := K08.n27) KX G rfl K08.c27 ?lma27 ?lml27 ?lmc27 ?lmk27) (.cons (Lm.df_mk (fn := K08.f28) (s := K08.top 39) (N := K08.n28) KX G rfl K08.c28 ?lma28 ?lml28 ?lmc28 ?lmk28) (.cons (Lm.df_mk (fn := K08.f29) (s := K08.top 40) (N := K08.n29) KX G rfl K08.c29 ?lma29 ?lml29 ?lmc29 ?lmk29) (.cons (Lm.df_mk (fn := K08.f30) (s := K08.top 41) (N := K08.n30) KX G rfl K08.c30 ?lma30 ?lml30 ?lmc30 ?lmk30) (.cons (Lm.df_mk (fn := K08.f31) (s := K08.top 42) (N := K08.n31) KX G rfl K08.c31 ?lma31 ?lml31 ?lmc31 ?lmk31) (.cons (Lm.df_mk (fn := K08.f32) (s := K08.top 43) (N := K08.n32) KX G rfl K08.c32 ?lma32 ?lml32 ?lmc32 ?lmk32) (.cons (Lm.df_mk (fn := K08.f33) (s := K08.top 44) (N := K08.n33) KX G rfl K08.c33 ?lma33 ?lml33 ?lmc33 ?lmk33) (.cons (Lm.df_mk (fn := K08.f34) (s := K08.top 46) (N := K08.n34) KX G rfl K08.c34 ?lma34 ?lml34 ?lmc34 ?lmk34) (.cons (Lm.df_mk (fn := K08.f35) (s := K08.top 47) (N := K08.n35) KX G rfl K08.c35 ?lma35 ?lml35 ?lmc35 ?lmk35) (.cons (Lm.df_mk (fn := K08.f36) (s := K08.top 48) (N := K08.n36) KX G rfl K08.c36 ?lma36 ?lml36 ?lmc36 ?lmk36) (.cons (Lm.df_mk (fn := K08.f37) (s := K08.top 49) (N := K08.n37) KX G rfl K08.c37 ?lma37 ?lml37 ?lmc37 ?lmk37) (.cons (Lm.df_mk (fn := K08.f38) (s := K08.top 50) (N := K08.n38) KX G rfl K08.c38 ?lma38 ?lml38 ?lmc38 ?lmk38) (.cons (Lm.df_mk (fn := K08.f39) (s := K08.top 51) (N := K08.n39) KX G rfl K08.c39 ?lma39 ?lml39 ?lmc39 ?lmk39) (.cons (Lm.df_mk (fn := K08.f40) (s := K08.top 52) (N := K08.n40) KX G rfl K08.c40 ?lma40 ?lml40 ?lmc40 ?lmk40) (.cons (Lm.df_mk (fn := K08.f41) (s := K08.top 53) (N := K08.n41) KX G rfl K08.c41 ?lma41 ?lml41 ?lmc41 ?lmk41) (.cons (Lm.df_mk (fn := K08.f42) (s := K08.top 54) (N := K08.n42) KX G rfl K08.c42 ?lma42 ?lml42 ?lmc42 ?lmk42) (.nil)))))))))))))))))))))))))))))))))))))))))))
      (case lma0 => k_is); (case lml0 => k_is); (case lmc0 => k_is); (case lmk0 => k_is)
      (case lma1 => k_is); (case lml1 => k_is); (case lmc1 => k_is); (case lmk1 => k_is)
      (case lma2 => k_is); (case lml2 => k_is); (case lmc2 => k_is); (case lmk2 => k_is)
      (case lma3 => k_is); (case lml3 => k_is); (case lmc3 => k_is); (case lmk3 => k_is)
      (case lma4 => k_is); (case lml4 => k_is); (case lmc4 => k_is); (case lmk4 => k_is)
      (case lma5 => k_is); (case lml5 => k_is); (case lmc5 => k_is); (case lmk5 => k_is)
      (case lma6 => k_is); (case lml6 => k_is); (case lmc6 => k_is); (case lmk6 => k_is)
      (case lma7 => k_is); (case lml7 => k_is); (case lmc7 => k_is); (case lmk7 => k_is)
      (case lma8 => k_is); (case lml8 => k_is); (case lmc8 => k_is); (case lmk8 => k_is)
      (case lma9 => k_is); (case lml9 => k_is); (case lmc9 => k_is); (case lmk9 => k_is)
      (case lma10 => k_is); (case lml10 => k_is); (case lmc10 => k_is); (case lmk10 => k_is)
      (case lma11 => k_is); (case lml11 => k_is); (case lmc11 => k_is); (case lmk11 => k_is)
      (case lma12 => k_is); (case lml12 => k_is); (case lmc12 => k_is); (case lmk12 => k_is)
      (case lma13 => k_is); (case lml13 => k_is); (case lmc13 => k_is); (case lmk13 => k_is)
      (case lma14 => k_is); (case lml14 => k_is); (case lmc14 => k_is); (case lmk14 => k_is)
      (case lma15 => k_is); (case lml15 => k_is); (case lmc15 => k_is); (case lmk15 => k_is)
      (case lma16 => k_is); (case lml16 => k_is); (case lmc16 => k_is); (case lmk16 => k_is)
      (case lma17 => k_is); (case lml17 => k_is); (case lmc17 => k_is); (case lmk17 => k_is)
      (case lma18 => k_is); (case lml18 => k_is); (case lmc18 => k_is); (case lmk18 => k_is)
      (case lma19 => k_is); (case lml19 => k_is); (case lmc19 => k_is); (case lmk19 => k_is)
      (case lma20 => k_is); (case lml20 => k_is); (case lmc20 => k_is); (case lmk20 => k_is)
      (case lma21 => k_is); (case lml21 => k_is); (case lmc21 => k_is); (case lmk21 => k_is)
      (case lma22 => k_is); (case lml22 => k_is); (case lmc22 => k_is); (case lmk22 => k_is)
      (case lma23 => k_is); (case lml23 => k_is); (case lmc23 => k_is); (case lmk23 => k_is)
      (case lma24 => k_is); (case lml24 => k_is); (case lmc24 => k_is); (case lmk24 => k_is)
      (case lma25 => k_is); (case lml25 => k_is); (case lmc25 => k_is); (case lmk25 => k_is)
      (case lma26 => k_is); (case lml26 => k_is); (case lmc26 => k_is); (case lmk26 => k_is)
      (case lma27 => k_is); (case lml27 => k_is); (case lmc27 => k_is); (case lmk27 => k_is)
      (case lma28 => k_is); (case lml28 => k_is); (case lmc28 => k_is); (case lmk28 => k_is)
      (case lma29 => k_is); (case lml29 => k_is); (case lmc29 => k_is); (case lmk29 => k_is)
      (case lma30 => k_is); (case lml30 => k_is); (case lmc30 => k_is); (case lmk30 => k_is)
      (case lma31 => k_is); (case lml31 => k_is); (case lmc31 => k_is); (case lmk31 => k_is)
      (case lma32 => k_is); (case lml32 => k_is); (case lmc32 => k_is); (case lmk32 => k_is)
      (case lma33 => k_is); (case lml33 => k_is); (case lmc33 => k_is); (case lmk33 => k_is)
      (case lma34 => k_is); (case lml34 => k_is); (case lmc34 => k_is); (case lmk34 => k_is)
      (case lma35 => k_is); (case lml35 => k_is); (case lmc35 => k_is); (case lmk35 => k_is)
      (case lma36 => k_is); (case lml36 => k_is); (case lmc36 => k_is); (case lmk36 => k_is)
      (case lma37 => k_is); (case lml37 => k_is); (case lmc37 => k_is); (case lmk37 => k_is)
      (case lma38 => k_is); (case lml38 => k_is); (case lmc38 => k_is); (case lmk38 => k_is)
      (case lma39 => k_is); (case lml39 => k_is); (case lmc39 => k_is); (case lmk39 => k_is)
      (case lma40 => k_is); (case lml40 => k_is); (case lmc40 => k_is); (case lmk40 => k_is)
      (case lma41 => k_is); (case lml41 => k_is); (case lmc41 => k_is); (case lmk41 => k_is)
      (case lma42 => k_is); (case lml42 => k_is); (case lmc42 => k_is); (case lmk42 => k_is)
    case lmb =>
      refine' .cons ?lmz0 (.cons ?lmz1 (.cons ?lmz2 (.cons ?lmz3 (.cons ?lmz4 (.cons ?lmz5 (.cons ?lmz6 (.cons ?lmz7 (.cons ?lmz8 (.cons ?lmz9 (.cons ?lmz10 (.cons ?lmz11 (.cons ?lmz12 (.cons ?lmz13 (.cons ?lmz14 (.cons ?lmz15 (.cons ?lmz16 (.cons ?lmz17 (.cons ?lmz18 (.nil)))))))))))))))))))
      (case lmz0 => k_is)
      (case lmz1 => k_is)
      (case lmz2 => k_is)
      (case lmz3 => k_is)
      (case lmz4 => k_is)
      (case lmz5 => k_is)
      (case lmz6 => k_is)
      (case lmz7 => k_is)
      (case lmz8 => k_is)
      (case lmz9 => k_is)
      (case lmz10 => k_is)
      (case lmz11 => k_is)
      (case lmz12 => k_is)
      (case lmz13 => k_is)
      (case lmz14 => k_is)
      (case lmz15 => k_is)
      (case lmz16 => k_is)
      (case lmz17 => k_is)
      (case lmz18 => k_is)
    case lmgg =>
      refine' .cons (PySem.W.mg_of KX G ?lmg0) ?lmgs0 (.nil)
      (case lmg0 => k_is); (case lmgs0 => exact Lm.glob_int)
