import PyProof.Rows.All
import Wide.All
import OpenK.AllK
import Wide.FinOn
import HandS.ForMost
import HandS.ForExc
import HandS.Lambda
import HandS.TupAny
import HandS.Wide
import HandS.Flow
import HandS.Conv
import HandS.More
import HandS.SortInts
import HandS.SortRule
import HandS.IsInst
import HandS.SetFor
import HandS.ExcIs
import HandS.CallSlots
import HandS.Iter
import HandS.Zip
import PyProof.Draws
import PyProof.EnumMake
import HandS.Comp
import HandS.DictComp
import HandS.TryOnly
import HandS.Style
import HandS.Small
import HandS.RaiseMore
import HandS.Defaults
import HandS.Words
import HandS.HeadHook4
import HandS.HeadWalk
import HandS.HeadEnd
import HandS.Head0
import HandS.Head1
import HandS.Head2
import KE.KNestM
import HandS.NestedK
import PyProof.ExcBaseAll.ValueError
import PySem.Challenge.RW_codewarrant_k14_whole_steps_needs_and_gi
section
set_option Elab.async false
set_option linter.all false
set_option maxRecDepth 100000
/-! The pure side: values as trees, a store of mutable objects, the IR and what it does. -/
namespace CW
open PySem

inductive PV where
  | non | bl (b : Bool) | int (i : Int) | str (x : Str)
  | tup (xs : List PV) | lst (xs : List PV) | dct (kvs : List (PV × PV))
  | loc (n : Nat) | ty (n : String) | gl (x : Str) | clo | exn (x : Str) (fs : List (Str × PV))

/-- a mutable object -/
inductive Ob where
  | lst (xs : List PV) | dct (kvs : List (PV × PV)) | ins (c : Str) (fs : List (Str × PV)) | dead
abbrev Store := List Ob
abbrev Env := List (Option PV)
structure Exn where
  x : Str
  fs : List (Str × PV)

inductive Res (α : Type) where
  | ok (a : α) (S : Store) | exc (c : Exn) (S : Store) | bad
def Res.bind {α β : Type} (r : Res α) (k : α → Store → Res β) : Res β := match r with
  | .ok a S => k a S
  | .exc c S => .exc c S
  | .bad => .bad
@[simp] theorem Res.bind_ok {α β : Type} (a : α) (S : Store) (k : α → Store → Res β) : (Res.ok a S).bind k = k a S := rfl
@[simp] theorem Res.bind_exc {α β : Type} (c : Exn) (S : Store) (k : α → Store → Res β) : (Res.exc c S : Res α).bind k = .exc c S := rfl
@[simp] theorem Res.bind_bad {α β : Type} (k : α → Store → Res β) : (Res.bad : Res α).bind k = .bad := rfl
/-- a pure answer, or none -/
def Res.of {α : Type} (o : Option α) (S : Store) : Res α := match o with
  | some a => .ok a S
  | none => .bad
@[simp] theorem Res.of_some {α : Type} (a : α) (S : Store) : Res.of (some a) S = .ok a S := rfl
@[simp] theorem Res.of_none {α : Type} (S : Store) : (Res.of none S : Res α) = .bad := rfl

inductive SRes where
  | next (ρ : Env) (S : Store) | ret (v : PV) (S : Store) | brk (ρ : Env) (S : Store) | cont (ρ : Env) (S : Store) | exc (c : Exn) (ρ : Env) (S : Store) | bad

/-! ### values -/
def LINE : Nat := 16777216
def PV.asInt : PV → Option Int
  | .int i => some i
  | _ => none
def PV.asBl : PV → Option Bool
  | .bl b => some b
  | _ => none
def PV.asStr : PV → Option Str
  | .str x => some x
  | _ => none
def PV.asPair : PV → Option (Int × Int)
  | .tup [.int i, .int j] => some (i, j)
  | _ => none
def allOf {α : Type} (f : PV → Option α) : List PV → Option (List α)
  | [] => some []
  | v :: vs => (f v).bind fun a => (allOf f vs).map (a :: ·)
mutual
/-- nothing but none, bools, ints, texts, lists, tuples -/
def PV.plain : PV → Bool
  | .non | .bl _ | .int _ => true
  | .str x => x.cps.all (· < 0x110000)
  | .tup xs | .lst xs => plainL xs
  | _ => false
def plainL : List PV → Bool
  | [] => true
  | x :: xs => x.plain && plainL xs
end
mutual
def PV.depth : PV → Nat
  | .tup xs | .lst xs => depthL xs + 1
  | .dct kvs => depthKv kvs + 1
  | _ => 0
def depthL : List PV → Nat
  | [] => 0
  | x :: xs => max x.depth (depthL xs)
def depthKv : List (PV × PV) → Nat
  | [] => 0
  | (a, b) :: r => max (max a.depth b.depth) (depthKv r)
end
mutual
/-- == of plain values -/
def PV.eqv : PV → PV → Bool
  | .non, .non => true
  | .bl a, .bl b => a == b
  | .bl a, .int j => (if a then 1 else 0) == j
  | .int i, .bl b => i == (if b then 1 else 0)
  | .int i, .int j => i == j
  | .str x, .str y => x == y
  | .lst xs, .lst ys => eqvL xs ys
  | .tup xs, .tup ys => eqvL xs ys
  | _, _ => false
def eqvL : List PV → List PV → Bool
  | [], [] => true
  | x :: xs, y :: ys => x.eqv y && eqvL xs ys
  | _, _ => false
end
mutual
/-- no place of the store from n on -/
def PV.under (n : Nat) : PV → Bool
  | .loc l => decide (l < n)
  | .tup xs | .lst xs => underL n xs
  | .dct kvs => underKv n kvs
  | .exn _ _ => false
  | .clo => false
  | _ => true
def underL (n : Nat) : List PV → Bool
  | [] => true
  | x :: xs => x.under n && underL n xs
def underKv (n : Nat) : List (PV × PV) → Bool
  | [] => true
  | (a, b) :: r => a.under n && b.under n && underKv n r
def underF (n : Nat) : List (Str × PV) → Bool
  | [] => true
  | (_, b) :: r => b.under n && underF n r
end
def Ob.under (n : Nat) : Ob → Bool
  | .lst xs => underL n xs
  | .dct kvs => underKv n kvs
  | .ins _ fs => underF n fs
  | .dead => true

/-! ### dicts -/
mutual
def PV.keq : PV → PV → Bool
  | .int i, .int j => i == j
  | .str x, .str y => x == y
  | .tup xs, .tup ys => keqL xs ys
  | _, _ => false
def keqL : List PV → List PV → Bool
  | [], [] => true
  | x :: xs, y :: ys => x.keq y && keqL xs ys
  | _, _ => false
end
def dget (kvs : List (PV × PV)) (k : PV) : Option PV := (kvs.find? fun p => p.1.keq k).map (·.2)
def dput (kvs : List (PV × PV)) (k v : PV) : List (PV × PV) :=
  if kvs.any (fun p => p.1.keq k) then kvs.map (fun p => if p.1.keq k then (p.1, v) else p) else kvs ++ [(k, v)]
def isK1 : PV → Bool
  | .int _ | .str _ => true
  | _ => false
/-- what a dict of ours may be asked for: one kind of keys -/
def isKT : PV → Bool
  | .tup xs => xs.all isK1
  | _ => false
/-- the key suits the dict -/
def dOk (kvs : List (PV × PV)) (k : PV) : Bool := (isK1 k && kvs.all fun p => isK1 p.1) || (isKT k && !kvs.isEmpty && kvs.all fun p => isKT p.1)

/-! ### order -/
def insI (x : Int) : List Int → List Int
  | [] => [x]
  | y :: r => if x ≤ y then x :: y :: r else y :: insI x r
def sortI : List Int → List Int
  | [] => []
  | x :: r => insI x (sortI r)
def leP (a b : Int × Int) : Bool := decide (a.1 < b.1) || (a.1 == b.1 && decide (a.2 ≤ b.2))
def insP (x : Int × Int) : List (Int × Int) → List (Int × Int)
  | [] => [x]
  | y :: r => if leP x y then x :: y :: r else y :: insP x r
def sortP : List (Int × Int) → List (Int × Int)
  | [] => []
  | x :: r => insP x (sortP r)
def PV.pair (p : Int × Int) : PV := .tup [.int p.1, .int p.2]

/-! ### the store -/
def getL (S : Store) : PV → Option (List PV)
  | .lst xs => some xs
  | .loc l => match S[l]? with
    | some (.lst xs) => some xs
    | _ => none
  | _ => none
/-- a list's or tuple's items -/
def getSeq (S : Store) : PV → Option (List PV)
  | .tup xs => some xs
  | v => getL S v
def getD (S : Store) : PV → Option (List (PV × PV))
  | .dct kvs => some kvs
  | .loc l => match S[l]? with
    | some (.dct kvs) => some kvs
    | _ => none
  | _ => none
/-- one step into the store -/
def deref (S : Store) : PV → PV
  | .loc l => match S[l]? with
    | some (.lst xs) => .lst xs
    | some (.dct kvs) => .dct kvs
    | _ => .loc l
  | v => v
/-- a list or dict that was just made: mutable (laid into the store) or never to be changed -/
def laid (m : Bool) (v : PV) (S : Store) : Res PV := match m, v with
  | true, .lst xs => .ok (.loc S.length) (S ++ [.lst xs])
  | true, .dct kvs => .ok (.loc S.length) (S ++ [.dct kvs])
  | true, _ => .bad
  | false, v => .ok v S

/-! ### operators -/
inductive Bop where
  | add | sub | mul | fdiv | mod | pow
  deriving DecidableEq
inductive Cop where
  | eq | ne | lt | le | gt | ge | is_ | isNot | inn | notIn
  deriving DecidableEq
def mulOk (i j : Int) : Bool := decide (i.natAbs.log2 + j.natAbs.log2 < 1000000)
def divOk (j : Int) : Bool := j != 0 && decide (j.natAbs.log2 < 9000)
def ixN (n : Nat) (i : Int) : Option Nat := if 0 ≤ i then (if i < n then some i.toNat else none) else if -(n : Int) ≤ i then some (i + n).toNat else none
def binop (op : Bop) (a b : PV) (S : Store) : Option PV := match op, a, b with
  | .add, .int i, .int j => some (.int (i + j))
  | .sub, .int i, .int j => some (.int (i - j))
  | .mul, .int i, .int j => if mulOk i j then some (.int (i * j)) else none
  | .fdiv, .int i, .int j => if divOk j then some (.int (i.fdiv j)) else none
  | .mod, .int i, .int j => if j != 0 then some (.int (i.fmod j)) else none
  | .pow, .int i, .int j => if decide (0 ≤ j) && (decide (j ≤ 1000000) && decide (i.natAbs < 2 ^ 64)) then some (.int (i ^ j.toNat)) else none
  | .add, .str x, .str y => if decide (x.length + y.length ≤ LINE) then some (.str (x ++ y)) else none
  | .add, .tup xs, .tup ys => if decide (xs.length + ys.length ≤ LINE) then some (.tup (xs ++ ys)) else none
  | .add, a, b => (getL S a).bind fun xs => (getL S b).bind fun ys => if decide (xs.length + ys.length ≤ LINE) then some (.lst (xs ++ ys)) else none
  | .mul, a, .int k => (getL S a).bind fun xs => if decide (-(2 ^ 63) ≤ k) && (decide (k < 2 ^ 63) && decide (xs.length * k.toNat ≤ LINE)) then some (.lst (List.replicate k.toNat xs).flatten) else none
  | _, _, _ => none
def PV.flat : PV → Bool
  | .non | .bl _ | .int _ | .str _ => true
  | _ => false
def inSeq (v : PV) : List PV → Bool
  | [] => false
  | x :: xs => x.eqv v || inSeq v xs
def DEEP : Nat := 60
def eqOk (v : PV) : Bool := v.plain && decide (v.depth ≤ DEEP)
def eqop (a b : PV) (S : Store) : Option Bool := if eqOk (deref S a) && eqOk (deref S b) then some ((deref S a).eqv (deref S b)) else none
def inop (a b : PV) (S : Store) : Option Bool := match getD S b with
  | some kvs => if dOk kvs a then some (dget kvs a).isSome else none
  | none => match getSeq S b with
    | some xs => if a.flat && xs.all PV.flat then some (inSeq a xs) else none
    | none => none
def PV.isNon : PV → Bool
  | .non => true
  | _ => false
def cmpop (op : Cop) (a b : PV) (S : Store) : Option Bool := match op, a, b with
  | .lt, .int i, .int j => some (decide (i < j))
  | .le, .int i, .int j => some (decide (i ≤ j))
  | .gt, .int i, .int j => some (decide (j < i))
  | .ge, .int i, .int j => some (decide (j ≤ i))
  | .le, .str x, .str y => some (!decide (y.cps.toList < x.cps.toList))
  | .is_, a, .non => some a.isNon
  | .isNot, a, .non => some (!a.isNon)
  | .is_, .bl a, .bl c => some (a == c)
  | .isNot, .bl a, .bl c => some (!(a == c))
  | .eq, a, b => eqop a b S
  | .ne, a, b => (eqop a b S).map not
  | .inn, a, b => inop a b S
  | .notIn, a, b => (inop a b S).map not
  | _, _, _ => none
def truth (v : PV) (S : Store) : Option Bool := match v with
  | .non => some false
  | .bl b => some b
  | .int i => some (i != 0)
  | v => (getSeq S v).map fun xs => !xs.isEmpty
def ixop (a b : PV) (S : Store) : Option PV := match getD S a with
  | some kvs => if dOk kvs b then dget kvs b else none
  | none => match a, b with
    | .str z, .int i => if decide (z.length ≤ LINE) then (ixN z.cps.toList.length i).bind fun j => (z.cps.toList[j]?).map fun c => .str ⟨#[c]⟩ else none
    | a, .int i => (getSeq S a).bind fun xs => (ixN xs.length i).bind fun j => xs[j]?
    | _, _ => none
def slIx (n d : Nat) : Option Int → Nat
  | none => d
  | some v => if v < 0 then (v + (n : Int)).toNat else min v.toNat n
def cut {α : Type} (xs : List α) (lo hi : Option Int) : List α := (xs.drop (slIx xs.length 0 lo)).take (slIx xs.length xs.length hi - slIx xs.length 0 lo)
def slop (a : PV) (lo hi : Option Int) (S : Store) : Option PV := match a with
  | .tup xs => some (.tup (cut xs lo hi))
  | a => (getL S a).map fun xs => .lst (cut xs lo hi)

/-! ### built-in functions, methods -/
inductive Bi where
  | len | abs | int1 | all | any | sum | list1 | tuple1 | dict1 | sorted1 | bool1
  deriving DecidableEq
def bi (f : Bi) (vs : List PV) (S : Store) : Option PV := match f, vs with
  | .len, [.str x] => if decide (x.length ≤ LINE) then some (.int x.length) else none
  | .len, [v] => match getD S v with
    | some kvs => some (.int kvs.length)
    | none => (getSeq S v).map fun xs => .int xs.length
  | .abs, [.int i] => some (.int (if i < 0 then -i else i))
  | .int1, [.int i] => some (.int i)
  | .all, [v] => (getL S v).bind fun xs => (allOf PV.asBl xs).map fun bs => .bl (bs.all id)
  | .any, [v] => (getL S v).bind fun xs => (allOf PV.asBl xs).map fun bs => .bl (bs.any id)
  | .sum, [v] => (getL S v).bind fun xs => (allOf PV.asInt xs).map fun ns => .int ns.sum
  | .tuple1, [.tup xs] => some (.tup xs)
  | .tuple1, [v] => (getL S v).map fun xs => .tup xs
  | .list1, [v] => (getSeq S v).map fun xs => .lst xs
  | .sorted1, [v] => match (getD S v).map (fun kvs => kvs.map (·.1)) with
    | some ks => (allOf PV.asInt ks).bind fun ns => if decide (ns.length < 64) then some (.lst ((sortI ns).map .int)) else none
    | none => (getL S v).bind fun xs => match allOf PV.asInt xs with
      | some ns => some (.lst ((sortI ns).map .int))
      | none => (allOf PV.asPair xs).map fun ps => .lst ((sortP ps).map .pair)
  | _, _ => none
inductive Mt where
  | append | pop0 | pop1 | get1 | get2 | count | index | extend
  deriving DecidableEq
def firstEq (v : PV) : List PV → Option Nat
  | [] => none
  | x :: xs => if x.eqv v then some 0 else (firstEq v xs).map (· + 1)
def countEq (v : PV) : List PV → Nat
  | [] => 0
  | x :: xs => (if x.eqv v then 1 else 0) + countEq v xs
def meth (m : Mt) (o : PV) (vs : List PV) (S : Store) : Option (PV × Store) := match m, o, vs with
  | .append, .loc l, [v] => match S[l]? with
    | some (.lst xs) => if decide (xs.length < LINE) then some (.non, S.set l (.lst (xs ++ [v]))) else none
    | _ => none
  | .pop1, .loc l, [.int i] => match S[l]? with
    | some (.lst xs) => (ixN xs.length i).bind fun j => (xs[j]?).map fun v => (v, S.set l (.lst (xs.eraseIdx j)))
    | _ => none
  | .pop0, .loc l, [] => match S[l]? with
    | some (.lst xs) => (xs.getLast?).map fun v => (v, S.set l (.lst xs.dropLast))
    | _ => none
  | .get1, o, [k] => (getD S o).bind fun kvs => if dOk kvs k then some ((dget kvs k).getD .non, S) else none
  | .get2, o, [k, d] => (getD S o).bind fun kvs => if dOk kvs k then some ((dget kvs k).getD d, S) else none
  | .count, o, [v] => (getL S o).bind fun xs => if v.flat && xs.all PV.flat then some (.int (countEq v xs), S) else none
  | .index, o, [v] => (getL S o).bind fun xs => if v.flat && xs.all PV.flat then (firstEq v xs).map fun (n : Nat) => (PV.int (n : Int), S) else none
  | _, _, _ => none

/-- a receiver of the method's kind -/
def recvOk (f : Mt) (o : PV) (S : Store) : Bool := match f with
  | .get1 | .get2 => (getD S o).isSome
  | _ => (getL S o).isSome
/-- a class that isinstance or except asks for -/
inductive Bt where
  | bool | int | str | tuple | list | dict | verr
  deriving DecidableEq
inductive Cl where
  | bt (n : Bt) | own (x : Str)
  deriving DecidableEq
end CW
end

section
set_option Elab.async false
set_option linter.all false
set_option maxRecDepth 100000
namespace CW
open PySem

mutual
inductive E where
  | const (c : PV) | var (i : Nat) | glob (x : Str) (c : PV)
  | tup (es : Es) | lst (m : Bool) (es : Es) | dict (m : Bool) (kvs : Kv)
  | bin (op : Bop) (a b : E) | neg (a : E) | not (a : E) | bool (isAnd : Bool) (es : Es)
  | cmp (op : Cop) (a b : E) | chain (o1 o2 : Cop) (a b c : E) | chain3 (o1 o2 o3 : Cop) (a b c d : E) | ite (c : B) (a b : E)
  | idx (a b : E) | slice (a : E) (lo hi : O)
  | call (f : Nat) (es : Es) | callv (i : Nat) | calllam (f : Nat) (body : E)
  | bi (m : Bool) (f : Bi) (es : Es) | meth (f : Mt) (o : E) (es : Es) | isin (e : E) (cs : List Cl) | lrange (m : Bool) (es : Es)
  | comp (m : Bool) (own : List Nat) (elt : E) (t : T) (i : I) (ifs : Bs)
  | comp2 (m : Bool) (own : List Nat) (elt : E) (t : T) (i : I) (ifs : Bs) (own2 : List Nat) (t2 : T) (i2 : I) (ifs2 : Bs)
  | dcomp (m : Bool) (own : List Nat) (k v : E) (t : T) (i : I) (ifs : Bs)
  | attr (e : E) (f : Str)
inductive Es where
  | nil | cons (e : E) (es : Es)
inductive Kv where
  | nil | cons (k v : E) (r : Kv)
inductive B where
  | val (e : E) | cmp (op : Cop) (a b : E) | chain (o1 o2 : Cop) (a b c : E) | not (b : B) | bool (isAnd : Bool) (bs : Bs)
inductive Bs where
  | nil | cons (b : B) (bs : Bs)
inductive O where
  | none | some (e : E)
inductive I where
  | seq (e : E) | range (es : Es) | enum (e : E) | zip (a b : E) | items (e : E)
inductive T where
  | name (i : Nat) | tup (ts : Ts) | sub (o i : E)
inductive Ts where
  | nil | cons (t : T) (ts : Ts)
end
mutual
inductive S where
  | asg (t : T) (e : E) | par (is : List Nat) (es : Es) | aug (i : Nat) (op : Bop) (e : E) | ex (e : E) | ret (e : E) | ret0
  | iff (c : B) (a b : Ss) | whl (c : B) (b : Ss) | for_ (t : T) (i : I) (b : Ss)
  | raise (x : Str) (es : Es) | try_ (b : Ss) (c : Cl) (i : Option Nat) (h : Ss) | pass | brk | cont | frz (i : Nat)
inductive Ss where
  | nil | cons (s : S) (ss : Ss)
end

/-- what is around -/
structure Sx where
  call : Nat → List PV → Store → Res PV
  call2 : Nat → List PV → Store → Res PV
  lam : Nat → (Store → Res PV) → Store → Res PV
  clo : Option (Store → Res PV)
  fuel : Nat
  sub : Str → Cl → Option Bool
def underS (n : Nat) : Store → Bool
  | [] => true
  | o :: r => o.under n && underS n r
/-- no thing of this def alone is handed on -/
def Sx.okC (sx : Sx) (vs : List PV) (S : Store) : Bool := sx.clo.isNone || (underL S.length vs && underS S.length S)
/-- inside a lambda's body -/
def Sx.down (sx : Sx) : Sx := { call := sx.call2, call2 := fun _ _ _ => .bad, lam := fun _ _ _ => .bad, clo := none, fuel := 0, sub := sx.sub }

/-! ### targets without objects (a comprehension's) -/
mutual
def bindP : T → PV → Env → Option Env
  | .name i, v, ρ => some (ρ.set i (some v))
  | .tup ts, .tup vs, ρ => bindPs ts vs ρ
  | _, _, _ => none
def bindPs : Ts → List PV → Env → Option Env
  | .nil, [], ρ => some ρ
  | .cons t ts, v :: vs, ρ => (bindP t v ρ).bind (bindPs ts vs)
  | _, _, _ => none
end
def wipe (ρ : Env) : List Nat → Env
  | [] => ρ
  | v :: vs => (wipe ρ vs).set v none

/-- no exception may come out -/
def Res.calm {α : Type} (r : Res α) : Res α := match r with
  | .ok a S => .ok a S
  | _ => .bad
@[simp] theorem Res.calm_ok {α : Type} (a : α) (S : Store) : (Res.ok a S).calm = .ok a S := rfl
@[simp] theorem Res.calm_exc {α : Type} (c : Exn) (S : Store) : (Res.exc c S : Res α).calm = .bad := rfl
@[simp] theorem Res.calm_bad {α : Type} : (Res.bad : Res α).calm = .bad := rfl
/-- the items of a comprehension, from the left -/
def compL (f : PV → Store → Res (List PV)) : List PV → Store → Res (List PV)
  | [], S => .ok [] S
  | x :: xs, S => (f x S).calm.bind fun a S => (compL f xs S).bind fun b S => .ok (a ++ b) S
def dcompL (f : PV → Store → Res (Option (PV × PV))) : List PV → List (PV × PV) → Store → Res (List (PV × PV))
  | [], acc, S => .ok acc S
  | x :: xs, acc, S => (f x S).calm.bind fun a S => match a with
    | none => dcompL f xs acc S
    | some (k, v) => if isK1 k then dcompL f xs (dput acc k v) S else .bad
def pairsOf : List PV → List PV → List (PV × PV)
  | k :: ks, v :: vs => (k, v) :: pairsOf ks vs
  | _, _ => []
def mergeD (acc : List (PV × PV)) : List (PV × PV) → List (PV × PV)
  | [] => acc
  | (k, v) :: r => mergeD (dput acc k v) r
def rangeL (a b : Int) : List PV := (List.range (b - a).toNat).map fun i => PV.int (a + (i : Nat))
def rangeOk (a b : Int) : Bool := decide (-(2 ^ 62) ≤ a) && (decide (a < 2 ^ 62) && (decide (-(2 ^ 62) ≤ b) && (decide (b < 2 ^ 62) && decide ((b - a).toNat ≤ LINE))))
def rangeOf : List PV → Option (Int × Int)
  | [.int b] => if rangeOk 0 b then some (0, b) else none
  | [.int a, .int b] => if rangeOk a b then some (a, b) else none
  | _ => none
def enumL : Nat → List PV → List PV
  | _, [] => []
  | n, x :: xs => .tup [.int n, x] :: enumL (n + 1) xs
def zipL : List PV → List PV → List PV
  | x :: xs, y :: ys => .tup [x, y] :: zipL xs ys
  | _, _ => []
/-- what a walk over a thing yields (a thing that nothing changes meanwhile) -/
def walkOf : PV → Option (List PV)
  | .tup xs => some xs
  | .lst xs => some xs
  | .str x => if decide (x.length ≤ LINE) then some (x.cps.toList.map fun c => .str ⟨#[c]⟩) else none
  | _ => none
def enumOf : PV → Option (List PV)
  | .tup xs => some (enumL 0 xs)
  | .lst xs => some (enumL 0 xs)
  | _ => none
def zipOf : PV → PV → Option (List PV)
  | .tup xs, .tup ys => some (zipL xs ys)
  | .lst xs, .lst ys => some (zipL xs ys)
  | _, _ => none
def isinst (sub : Str → Cl → Option Bool) (v : PV) (S : Store) (c : Cl) : Option Bool := match deref S v, c with
  | .non, .bt .verr => none
  | .non, .bt _ => some false
  | .bl _, .bt n => if n == .verr then none else some (n == .bool || n == .int)
  | .int _, .bt n => if n == .verr then none else some (n == .int)
  | .str _, .bt n => if n == .verr then none else some (n == .str)
  | .tup _, .bt n => if n == .verr then none else some (n == .tuple)
  | .lst _, .bt n => if n == .verr then none else some (n == .list)
  | .dct _, .bt n => if n == .verr then none else some (n == .dict)
  | .exn x [], c => sub x c
  | _, _ => none
def isinstL (sub : Str → Cl → Option Bool) (v : PV) (S : Store) : List Cl → Option Bool
  | [] => some false
  | c :: cs => match isinst sub v S c with
    | some true => some true
    | some false => isinstL sub v S cs
    | none => none

def ofM {α : Type} (o : Option (α × Store)) : Res α := match o with
  | some (a, S) => .ok a S
  | none => .bad
@[simp] theorem ofM_some {α : Type} (a : α) (S : Store) : ofM (some (a, S)) = .ok a S := rfl
@[simp] theorem ofM_none {α : Type} : (ofM none : Res α) = .bad := rfl
mutual
def den (sx : Sx) : E → Env → Store → Res PV
  | .const c, _, S => .ok c S
  | .var i, ρ, S => match ρ[i]? with
    | some (some v) => .ok v S
    | _ => .bad
  | .glob _ c, _, S => .ok c S
  | .tup es, ρ, S => (denL sx es ρ S).bind fun vs S => .ok (.tup vs) S
  | .lst m es, ρ, S => (denL sx es ρ S).bind fun vs S => laid m (.lst vs) S
  | .dict m kvs, ρ, S => (denKv sx kvs ρ S).bind fun ps S => if ps.all (fun p => isK1 p.1) then laid m (.dct (mergeD [] ps)) S else .bad
  | .bin op a b, ρ, S => (den sx a ρ S).bind fun x S => (den sx b ρ S).bind fun y S => Res.of (binop op x y S) S
  | .neg a, ρ, S => (den sx a ρ S).bind fun x S => Res.of (x.asInt.map fun i => .int (-i)) S
  | .not a, ρ, S => (den sx a ρ S).bind fun v S => Res.of ((truth v S).map fun b => .bl (!b)) S
  | .bool isAnd es, ρ, S => denB sx isAnd es ρ S
  | .cmp op a b, ρ, S => (den sx a ρ S).bind fun x S => (den sx b ρ S).bind fun y S => Res.of ((cmpop op x y S).map .bl) S
  | .chain o1 o2 a b c, ρ, S => (den sx a ρ S).bind fun x S => (den sx b ρ S).bind fun y S => match cmpop o1 x y S with
    | some true => (den sx c ρ S).bind fun z S => Res.of ((cmpop o2 y z S).map .bl) S
    | some false => .ok (.bl false) S
    | none => .bad
  | .chain3 o1 o2 o3 a b c d, ρ, S => (den sx a ρ S).bind fun x S => (den sx b ρ S).bind fun y S => match cmpop o1 x y S with
    | some true => (den sx c ρ S).bind fun z S => match cmpop o2 y z S with
      | some true => (den sx d ρ S).bind fun w S => Res.of ((cmpop o3 z w S).map .bl) S
      | some false => .ok (.bl false) S
      | none => .bad
    | some false => .ok (.bl false) S
    | none => .bad
  | .ite c a b, ρ, S => (denT sx c ρ S).bind fun k S => if k then den sx a ρ S else den sx b ρ S
  | .idx a b, ρ, S => (den sx a ρ S).bind fun x S => (den sx b ρ S).bind fun y S => Res.of (ixop x y S) S
  | .slice a lo hi, ρ, S => (den sx a ρ S).bind fun x S => (denO sx lo ρ S).bind fun l S => (denO sx hi ρ S).bind fun h S => Res.of (slop x l h S) S
  | .call f es, ρ, S => (denL sx es ρ S).bind fun vs S => if sx.okC vs S then sx.call f vs S else .bad
  | .callv i, ρ, S => match ρ[i]?, sx.clo with
    | some (some .clo), some m => if underS S.length S then m S else .bad
    | _, _ => .bad
  | .calllam f body, ρ, S => if sx.okC [] S then (sx.lam f (den sx.down body ρ) S).calm else .bad
  | .bi m f es, ρ, S => (denL sx es ρ S).bind fun vs S => (Res.of (bi f vs S) S).bind fun v S => laid m v S
  | .meth f o es, ρ, S => (den sx o ρ S).bind fun x S => if recvOk f x S then (denL sx es ρ S).bind fun vs S => ofM (meth f x vs S) else .bad
  | .isin e cs, ρ, S => (den sx e ρ S).bind fun x S => Res.of ((isinstL sx.sub x S cs).map .bl) S
  | .lrange m es, ρ, S => (denL sx es ρ S).bind fun vs S => match rangeOf vs with
    | some (a, b) => laid m (.lst (rangeL a b)) S
    | none => .bad
  | .comp m own elt t i ifs, ρ, S => (denI sx i ρ S).bind fun xs S => (compL (fun x S => match bindP t x (wipe ρ own) with
      | some ρ' => (denT2 sx ifs ρ' S).bind fun k S => if k then (den sx elt ρ' S).bind fun v S => .ok [v] S else .ok [] S
      | none => .bad) xs S).bind fun vs S => laid m (.lst vs) S
  | .comp2 m own elt t i ifs own2 t2 i2 ifs2, ρ, S => (denI sx i ρ S).bind fun xs S => (compL (fun x S => match bindP t x (wipe ρ own) with
      | some ρ' => (denT2 sx ifs ρ' S).bind fun k S => if k then (denI sx i2 ρ' S).bind fun ys S => compL (fun y S => match bindP t2 y (wipe ρ' own2) with
          | some ρ2 => (denT2 sx ifs2 ρ2 S).bind fun k S => if k then (den sx elt ρ2 S).bind fun v S => .ok [v] S else .ok [] S
          | none => .bad) ys S else .ok [] S
      | none => .bad) xs S).bind fun vs S => if decide (vs.length ≤ LINE) then laid m (.lst vs) S else .bad
  | .dcomp m own ke ve t i ifs, ρ, S => (denI sx i ρ S).bind fun xs S => (dcompL (fun x S => match bindP t x (wipe ρ own) with
      | some ρ' => (denT2 sx ifs ρ' S).bind fun k S => if k then (den sx ke ρ' S).bind fun kk S => (den sx ve ρ' S).bind fun v S => .ok (some (kk, v)) S else .ok none S
      | none => .bad) xs [] S).bind fun kvs S => laid m (.dct kvs) S
  | .attr e f, ρ, S => (den sx e ρ S).bind fun x S => match x with
    | .exn _ fs => Res.of (fs.lookup f) S
    | _ => .bad
def denL (sx : Sx) : Es → Env → Store → Res (List PV)
  | .nil, _, S => .ok [] S
  | .cons e es, ρ, S => (den sx e ρ S).bind fun v S => (denL sx es ρ S).bind fun vs S => .ok (v :: vs) S
def denKv (sx : Sx) : Kv → Env → Store → Res (List (PV × PV))
  | .nil, _, S => .ok [] S
  | .cons k v r, ρ, S => (den sx k ρ S).bind fun a S => (den sx v ρ S).bind fun b S => (denKv sx r ρ S).bind fun r S => .ok ((a, b) :: r) S
def denO (sx : Sx) : O → Env → Store → Res (Option Int)
  | .none, _, S => .ok none S
  | .some e, ρ, S => (den sx e ρ S).bind fun v S => Res.of (v.asInt.map some) S
/-- and, or, as values: of bools -/
def denB (sx : Sx) (isAnd : Bool) : Es → Env → Store → Res PV
  | .nil, _, _ => .bad
  | .cons e es, ρ, S => (den sx e ρ S).bind fun v S => match es with
    | .nil => .ok v S
    | _ => match v with
      | .bl b => if b == isAnd then denB sx isAnd es ρ S else .ok (.bl b) S
      | _ => .bad
/-- a test -/
def denT (sx : Sx) : B → Env → Store → Res Bool
  | .val e, ρ, S => (den sx e ρ S).bind fun v S => Res.of (truth v S) S
  | .cmp op a b, ρ, S => (den sx a ρ S).bind fun x S => (den sx b ρ S).bind fun y S => Res.of (cmpop op x y S) S
  | .chain o1 o2 a b c, ρ, S => (den sx a ρ S).bind fun x S => (den sx b ρ S).bind fun y S => match cmpop o1 x y S with
    | some true => (den sx c ρ S).bind fun z S => Res.of (cmpop o2 y z S) S
    | some false => .ok false S
    | none => .bad
  | .not a, ρ, S => (denT sx a ρ S).bind fun b S => .ok (!b) S
  | .bool isAnd bs, ρ, S => denTB sx isAnd bs ρ S
def denTB (sx : Sx) (isAnd : Bool) : Bs → Env → Store → Res Bool
  | .nil, _, _ => .bad
  | .cons e es, ρ, S => (denT sx e ρ S).bind fun b S => match es with
    | .nil => .ok b S
    | _ => if b == isAnd then denTB sx isAnd es ρ S else .ok b S
/-- a comprehension's tests -/
def denT2 (sx : Sx) : Bs → Env → Store → Res Bool
  | .nil, _, S => .ok true S
  | .cons e es, ρ, S => (denT sx e ρ S).bind fun b S => if b then denT2 sx es ρ S else .ok false S
def denI (sx : Sx) : I → Env → Store → Res (List PV)
  | .seq e, ρ, S => (den sx e ρ S).bind fun v S => Res.of (walkOf v) S
  | .range es, ρ, S => (denL sx es ρ S).bind fun vs S => Res.of ((rangeOf vs).map fun p => rangeL p.1 p.2) S
  | .enum e, ρ, S => (den sx e ρ S).bind fun v S => Res.of (enumOf v) S
  | .zip a b, ρ, S => (den sx a ρ S).bind fun x S => (den sx b ρ S).bind fun y S => Res.of (zipOf x y) S
  | .items e, ρ, S => (den sx e ρ S).bind fun v S => Res.of (match v with
    | .dct kvs => some (kvs.map fun p => .tup [p.1, p.2])
    | _ => none) S
end

/-! ### statements -/
def Res.st {α : Type} (r : Res α) (ρ : Env) (k : α → Store → SRes) : SRes := match r with
  | .ok v S => k v S
  | .exc c S => .exc c ρ S
  | .bad => .bad
@[simp] theorem Res.st_ok {α : Type} (a : α) (S : Store) (ρ : Env) (k : α → Store → SRes) : (Res.ok a S).st ρ k = k a S := rfl
@[simp] theorem Res.st_exc {α : Type} (c : Exn) (S : Store) (ρ : Env) (k : α → Store → SRes) : (Res.exc c S : Res α).st ρ k = .exc c ρ S := rfl
@[simp] theorem Res.st_bad {α : Type} (ρ : Env) (k : α → Store → SRes) : (Res.bad : Res α).st ρ k = .bad := rfl
def SRes.andThen (r : SRes) (k : Env → Store → SRes) : SRes := match r with
  | .next ρ S => k ρ S
  | r => r
@[simp] theorem SRes.andThen_next (ρ : Env) (S : Store) (k : Env → Store → SRes) : (SRes.next ρ S).andThen k = k ρ S := rfl
@[simp] theorem SRes.andThen_ret (v : PV) (S : Store) (k : Env → Store → SRes) : (SRes.ret v S).andThen k = .ret v S := rfl
@[simp] theorem SRes.andThen_brk (ρ : Env) (S : Store) (k : Env → Store → SRes) : (SRes.brk ρ S).andThen k = .brk ρ S := rfl
@[simp] theorem SRes.andThen_cont (ρ : Env) (S : Store) (k : Env → Store → SRes) : (SRes.cont ρ S).andThen k = .cont ρ S := rfl
@[simp] theorem SRes.andThen_exc (c : Exn) (ρ : Env) (S : Store) (k : Env → Store → SRes) : (SRes.exc c ρ S).andThen k = .exc c ρ S := rfl
@[simp] theorem SRes.andThen_bad (k : Env → Store → SRes) : (SRes.bad).andThen k = .bad := rfl
/-- o[i] = v -/
def setop (o i v : PV) (S : Store) : Option Store := match o with
  | .loc l => match S[l]? with
    | some (.lst xs) => match i with
      | .int k => (ixN xs.length k).map fun j => S.set l (.lst (xs.set j v))
      | _ => none
    | some (.dct kvs) => if (dOk kvs i || (kvs.isEmpty && isK1 i)) && decide (kvs.length < LINE) then some (S.set l (.dct (dput kvs i v))) else none
    | _ => none
  | _ => none
mutual
def asgT (sx : Sx) : T → PV → Env → Store → SRes
  | .name i, v, ρ, S => .next (ρ.set i (some v)) S
  | .tup ts, v, ρ, S => match v with
    | .tup vs => asgTs sx ts vs ρ S
    | _ => .bad
  | .sub o i, v, ρ, S => (den sx o ρ S).st ρ fun a S => (den sx i ρ S).st ρ fun b S => match setop a b v S with
    | some S' => .next ρ S'
    | none => .bad
def asgTs (sx : Sx) : Ts → List PV → Env → Store → SRes
  | .nil, vs, ρ, S => match vs with
    | [] => .next ρ S
    | _ => .bad
  | .cons t ts, vs, ρ, S => match vs with
    | v :: vs => (asgT sx t v ρ S).andThen fun ρ S => asgTs sx ts vs ρ S
    | [] => .bad
end
def forL (bind : PV → Env → Store → SRes) (body : Env → Store → SRes) : List PV → Env → Store → SRes
  | [], ρ, S => .next ρ S
  | x :: xs, ρ, S => (bind x ρ S).andThen fun ρ S => match body ρ S with
    | .next ρ S => forL bind body xs ρ S
    | .cont ρ S => forL bind body xs ρ S
    | .brk ρ S => .next ρ S
    | r => r
def whlL (test : Env → Store → Res Bool) (body : Env → Store → SRes) : Nat → Env → Store → SRes
  | 0, _, _ => .bad
  | n + 1, ρ, S => (test ρ S).st ρ fun b S => if b then (match body ρ S with
    | .next ρ S => whlL test body n ρ S
    | .cont ρ S => whlL test body n ρ S
    | .brk ρ S => .next ρ S
    | r => r) else .next ρ S
def sets (ρ : Env) : List Nat → List PV → Env
  | i :: is, v :: vs => sets (ρ.set i (some v)) is vs
  | _, _ => ρ
/-- the fields of an exception that is made with these -/
def excFields (x : Str) (names : List Str) (vs : List PV) : Option (List (Str × PV)) := if names.length = vs.length then some (names.zip vs) else none
/-- out of an except suite: its name is gone -/
def unset (i : Option Nat) (ρ : Env) : Env := match i with
  | some i => ρ.set i none
  | none => ρ
/-- slots that hold a thing of the suite alone are gone -/
def clean (n : Nat) (ρ : Env) : Env := ρ.map fun o => o.bind fun v => if v.under n then some v else none
def leaveH (i : Option Nat) : SRes → SRes
  | .next ρ S => if underS S.length S then .next (clean S.length (unset i ρ)) S else .bad
  | .ret v S => if v.under S.length && underS S.length S then .ret v S else .bad
  | .brk ρ S => if underS S.length S then .brk (clean S.length (unset i ρ)) S else .bad
  | .cont ρ S => if underS S.length S then .cont (clean S.length (unset i ρ)) S else .bad
  | .exc _ _ _ => .bad
  | .bad => .bad
mutual
def exec (sx : Sx) : S → Env → Store → SRes
  | .asg t e, ρ, S => (den sx e ρ S).st ρ fun v S => asgT sx t v ρ S
  | .par is es, ρ, S => (denL sx es ρ S).st ρ fun vs S => .next (sets ρ is vs) S
  | .aug i op e, ρ, S => match ρ[i]? with
    | some (some x) => (den sx e ρ S).st ρ fun y S => (Res.of (binop op x y S) S).st ρ fun z S => .next (ρ.set i (some z)) S
    | _ => .bad
  | .ex e, ρ, S => (den sx e ρ S).st ρ fun _ S => .next ρ S
  | .ret e, ρ, S => (den sx e ρ S).st ρ fun v S => .ret v S
  | .ret0, _, S => .ret .non S
  | .iff c a b, ρ, S => (denT sx c ρ S).st ρ fun k S => if k then execL sx a ρ S else execL sx b ρ S
  | .whl c b, ρ, S => whlL (denT sx c) (execL sx b) sx.fuel ρ S
  | .for_ t i b, ρ, S => (denI sx i ρ S).st ρ fun xs S => forL (asgT sx t) (execL sx b) xs ρ S
  | .raise x es, ρ, S => (denL sx es ρ S).st ρ fun vs S => match vs with
    | [] => .exc ⟨x, []⟩ ρ S
    | _ => .bad
  | .try_ b c i h, ρ, S => match execL sx b ρ S with
    | .exc e ρ S => match sx.sub e.x c with
      | some true => leaveH i (execL sx h (match i with
        | some i => ρ.set i (some (.exn e.x e.fs))
        | none => ρ) S)
      | some false => .exc e ρ S
      | none => .bad
    | r => r
  | .pass, ρ, S => .next ρ S
  | .brk, ρ, S => .brk ρ S
  | .cont, ρ, S => .cont ρ S
  | .frz i, ρ, S => match ρ[i]? with
    | some (some (.loc l)) => match S[l]? with
      | some (.lst xs) => if decide (xs.length ≤ LINE) then .next (ρ.set i (some (.lst xs))) (S.set l .dead) else .bad
      | some (.dct kvs) => if decide (kvs.length ≤ LINE) then .next (ρ.set i (some (.dct kvs))) (S.set l .dead) else .bad
      | _ => .bad
    | _ => .bad
def execL (sx : Sx) : Ss → Env → Store → SRes
  | .nil, ρ, S => .next ρ S
  | .cons s ss, ρ, S => (exec sx s ρ S).andThen fun ρ S => execL sx ss ρ S
end

/-! ### defs -/
structure Dfn where
  par : Nat
  slots : Nat
  body : Ss
/-- behind a call: what it made is forgotten, if nothing names it -/
def back (n : Nat) (v : PV) (S : Store) : Res PV := if v.under n && underS n (S.take n) then .ok v (S.take n) else if v.under S.length && underS S.length S then .ok v S else .bad
def backX (n : Nat) (c : Exn) (S : Store) : Res PV := if underF n c.fs && underS n (S.take n) then .exc c (S.take n) else if underF S.length c.fs && underS S.length S then .exc c S else .bad
def begin_ (d : Dfn) (vs : List PV) : Env := vs.map some ++ List.replicate (d.slots - vs.length) none
def runD (sx : Sx) (d : Dfn) (vs : List PV) (S : Store) : Res PV := if vs.length = d.par then (match execL sx d.body (begin_ d vs) S with
  | .next _ S' => back S.length .non S'
  | .ret v S' => back S.length v S'
  | .exc c _ S' => backX S.length c S'
  | _ => .bad) else .bad
structure Prog where
  defs : List Dfn
  sub : Str → Cl → Option Bool
  fuel : Nat
abbrev Orc := Nat → List PV → Option (Store → Res PV) → Store → Res PV
def sxOf (P : Prog) (o o2 : Orc) (clo : Option (Store → Res PV)) : Sx := { call := fun f vs => o f vs none, call2 := fun f vs => o2 f vs none, lam := fun f m => o f [.clo] (some m), clo := clo, fuel := P.fuel, sub := P.sub }
def stepO (P : Prog) (o o2 : Orc) : Orc := fun f vs clo S => match P.defs[f]? with
  | some d => runD (sxOf P o o2 clo) d vs S
  | none => .bad
def bad0 : Orc := fun _ _ _ _ => .bad
/-- three levels at once: n, n - 1, n - 2 -/
def orc3 (P : Prog) : Nat → Orc × Orc × Orc
  | 0 => (bad0, bad0, bad0)
  | n + 1 => let t := orc3 P n; (stepO P t.1 t.2.2, t.1, t.2.1)
def orc (P : Prog) (n : Nat) : Orc := (orc3 P n).1
/-- a def called, n calls deep at most -/
def callN (P : Prog) (n f : Nat) (vs : List PV) (S : Store) : Res PV := orc P n f vs none S
theorem orc3_2 (P : Prog) (n : Nat) : (orc3 P (n + 2)).2.2 = orc P n := rfl
theorem orc_succ (P : Prog) (n : Nat) : orc P (n + 3) = stepO P (orc P (n + 2)) (orc P n) := rfl
end CW
end

section
set_option Elab.async false
set_option linter.all false
set_option maxRecDepth 100000
/-! How the pure side lies in the abstract heap of HandS. -/
namespace CW
open PySem PySem.Spec PyProof.Rows L2

/-- a lambda at hand: its maker's slots, its code object -/
structure LamI where
  ρ : Env
  σ : L2.St
  c : Addr
  q : Str
/-- what is fixed beside the text: an exception at hand, a closure at hand, the tables of code objects -/
structure Kz where
  xa : Option (Addr × Str × Option Addr) := none
  clo : Option Addr := none
  T : List (Addr × Str) := []
  lam : Option LamI := none

def pk : Key → PV
  | .inl i => .int i
  | .inr x => .str x
theorem sizeLine_LINE : sizeLine = LINE := by rw [sizeLine_eq] <;> rfl

mutual
def Rep (K : PySem.W.Frag) (z : Kz) (G : Hp) (μ : List Addr) : PV → V → Prop
  | .non, v => v = .non
  | .bl b, v => v = .bl b
  | .int i, v => v = .int i
  | .str x, v => v = .str x
  | .ty n, v => v = .ty n
  | .tup xs, v => ∃ a vs, v = .ref a ∧ SqT K G a vs ∧ vs.length ≤ LINE ∧ RepL K z G μ xs vs
  | .lst xs, v => ∃ a vs, v = .ref a ∧ Rd G a (.lst vs) ∧ vs.length ≤ LINE ∧ RepL K z G μ xs vs
  | .dct kvs, v => ∃ a kv, v = .ref a ∧ Rd G a (.dK kv) ∧ kv.length ≤ LINE ∧ RepK K z G μ kvs kv
  | .loc l, v => ∃ a, μ[l]? = some a ∧ v = .ref a
  | .gl _, _ => False
  | .clo, v => ∃ f, z.clo = some f ∧ v = .ref f
  | .exn x fs, v => ∃ a d, z.xa = some (a, x, d) ∧ v = .ref a ∧ RepX K z G μ fs d
def RepL (K : PySem.W.Frag) (z : Kz) (G : Hp) (μ : List Addr) : List PV → List V → Prop
  | [], vs => vs = []
  | x :: xs, vs => ∃ v r, vs = v :: r ∧ Rep K z G μ x v ∧ RepL K z G μ xs r
def RepK (K : PySem.W.Frag) (z : Kz) (G : Hp) (μ : List Addr) : List (PV × PV) → List (Key × V) → Prop
  | [], vs => vs = []
  | (k, x) :: xs, vs => ∃ q v r, vs = (q, v) :: r ∧ k = pk q ∧ Rep K z G μ x v ∧ RepK K z G μ xs r
/-- an exception's own fields: none, or in its dict -/
def RepX (K : PySem.W.Frag) (z : Kz) (G : Hp) (μ : List Addr) : List (Str × PV) → Option Addr → Prop
  | [], d => d = none
  | (f, x) :: r, d => ∃ a v, d = some a ∧ r = [] ∧ G a = some (.xd [(f, v)]) ∧ Rep K z G μ x v
end

section
variable {K : PySem.W.Frag} {z : Kz} {G G' : Hp} {μ μ' : List Addr}
/-- the still part grows -/
def Sub (G G' : Hp) : Prop := ∀ a o, G a = some o → G' a = some o
theorem Sub.refl (G : Hp) : Sub G G := fun _ _ h => h
theorem Sub.trans {G1 G2 G3 : Hp} (a : Sub G1 G2) (b : Sub G2 G3) : Sub G1 G3 := fun x o h => b x o (a x o h)
theorem Sub.rd {a : Addr} {u : HO} (s : Sub G G') (h : Rd G a u) : Rd G' a u := by
  rcases h with h | ⟨o, h⟩
  · exact .inl (s _ _ h)
  · exact .inr ⟨o, s _ _ h⟩
theorem Sub.sqT {a : Addr} {xs : List V} (s : Sub G G') (h : SqT K G a xs) : SqT K G' a xs := by
  rcases h with h | h
  · exact .inl (s.rd h)
  · exact .inr h
theorem Sub.sqL {a : Addr} {xs : List V} (s : Sub G G') (h : SqL K G a xs) : SqL K G' a xs := by
  rcases h with h | h
  · exact .inl (s.rd h)
  · exact .inr h
mutual
theorem Rep.mono (s : Sub G G') (m : ∀ (l : Nat) (a : Addr), μ[l]? = some a → μ'[l]? = some a) : ∀ (p : PV) (v : V), Rep K z G μ p v → Rep K z G' μ' p v
  | .non, v, h => h
  | .bl b, v, h => h
  | .int i, v, h => h
  | .str x, v, h => h
  | .ty n, v, h => h
  | .gl _, _, h => h.elim
  | .clo, v, h => h
  | .loc l, v, h => by
    obtain ⟨a, h1, h2⟩ := h
    exact ⟨a, m _ _ h1, h2⟩
  | .tup xs, v, h => by
    obtain ⟨a, vs, h1, h2, h3, h4⟩ := h
    exact ⟨a, vs, h1, s.sqT h2, h3, RepL.mono s m xs vs h4⟩
  | .lst xs, v, h => by
    obtain ⟨a, vs, h1, h2, h3, h4⟩ := h
    exact ⟨a, vs, h1, s.rd h2, h3, RepL.mono s m xs vs h4⟩
  | .dct kvs, v, h => by
    obtain ⟨a, kv, h1, h2, h3, h4⟩ := h
    exact ⟨a, kv, h1, s.rd h2, h3, RepK.mono s m kvs kv h4⟩
  | .exn x fs, v, h => by
    obtain ⟨a, d, h1, h2, h3⟩ := h
    exact ⟨a, d, h1, h2, RepX.mono s m fs d h3⟩
theorem RepL.mono (s : Sub G G') (m : ∀ (l : Nat) (a : Addr), μ[l]? = some a → μ'[l]? = some a) : ∀ (xs : List PV) (vs : List V), RepL K z G μ xs vs → RepL K z G' μ' xs vs
  | [], vs, h => h
  | x :: xs, vs, h => by
    obtain ⟨v, r, h1, h2, h3⟩ := h
    exact ⟨v, r, h1, Rep.mono s m x v h2, RepL.mono s m xs r h3⟩
theorem RepK.mono (s : Sub G G') (m : ∀ (l : Nat) (a : Addr), μ[l]? = some a → μ'[l]? = some a) : ∀ (xs : List (PV × PV)) (vs : List (Key × V)), RepK K z G μ xs vs → RepK K z G' μ' xs vs
  | [], vs, h => h
  | (k, x) :: xs, vs, h => by
    obtain ⟨q, v, r, h1, h0, h2, h3⟩ := h
    exact ⟨q, v, r, h1, h0, Rep.mono s m x v h2, RepK.mono s m xs r h3⟩
theorem RepX.mono (s : Sub G G') (m : ∀ (l : Nat) (a : Addr), μ[l]? = some a → μ'[l]? = some a) : ∀ (fs : List (Str × PV)) (d : Option Addr), RepX K z G μ fs d → RepX K z G' μ' fs d
  | [], d, h => h
  | (f, x) :: r, d, h => by
    obtain ⟨a, v, h1, h2, h3, h4⟩ := h
    exact ⟨a, v, h1, h2, s _ _ h3, Rep.mono s m x v h4⟩
end

theorem RepL.length : ∀ {xs : List PV} {vs : List V}, RepL K z G μ xs vs → xs.length = vs.length
  | [], vs, h => by
    have h : vs = [] := h
    subst h
    rfl
  | x :: xs, vs, h => by
    obtain ⟨v, r, rfl, _, h3⟩ := h
    simp only [List.length_cons, RepL.length h3]
theorem RepL.get : ∀ {xs : List PV} {vs : List V} {i : Nat} {x : PV}, RepL K z G μ xs vs → xs[i]? = some x → ∃ v, vs[i]? = some v ∧ Rep K z G μ x v
  | [], _, _, _, _, e => by simp at e
  | y :: ys, vs, 0, x, h, e => by
    obtain ⟨v, r, rfl, h2, _⟩ := h
    simp at e
    subst e
    exact ⟨v, rfl, h2⟩
  | y :: ys, vs, i + 1, x, h, e => by
    obtain ⟨v, r, rfl, _, h3⟩ := h
    obtain ⟨w, h4, h5⟩ := RepL.get (i := i) h3 (by simpa using e)
    exact ⟨w, by simpa using h4, h5⟩
theorem RepL.append : ∀ {xs ys : List PV} {vs ws : List V}, RepL K z G μ xs vs → RepL K z G μ ys ws → RepL K z G μ (xs ++ ys) (vs ++ ws)
  | [], ys, vs, ws, h, h' => by
    have h : vs = [] := h
    subst h
    exact h'
  | x :: xs, ys, vs, ws, h, h' => by
    obtain ⟨v, r, rfl, h2, h3⟩ := h
    exact ⟨v, r ++ ws, rfl, h2, RepL.append h3 h'⟩
theorem RepL.nil : RepL K z G μ [] [] := rfl
theorem RepL.cons {x : PV} {xs : List PV} {v : V} {vs : List V} (h : Rep K z G μ x v) (t : RepL K z G μ xs vs) : RepL K z G μ (x :: xs) (v :: vs) := ⟨v, vs, rfl, h, t⟩
theorem RepL.one {x : PV} {v : V} (h : Rep K z G μ x v) : RepL K z G μ [x] [v] := .cons h .nil
theorem RepL.set : ∀ {xs : List PV} {vs : List V} (i : Nat) {x : PV} {v : V}, RepL K z G μ xs vs → Rep K z G μ x v → RepL K z G μ (xs.set i x) (vs.set i v)
  | [], vs, i, x, v, h, _ => by
    have h : vs = [] := h
    subst h
    rfl
  | y :: ys, vs, 0, x, v, h, hx => by
    obtain ⟨w, r, rfl, h2, h3⟩ := h
    exact ⟨v, r, rfl, hx, h3⟩
  | y :: ys, vs, i + 1, x, v, h, hx => by
    obtain ⟨w, r, rfl, h2, h3⟩ := h
    exact ⟨w, r.set i v, rfl, h2, RepL.set i h3 hx⟩
theorem RepL.drop : ∀ (n : Nat) {xs : List PV} {vs : List V}, RepL K z G μ xs vs → RepL K z G μ (xs.drop n) (vs.drop n)
  | 0, _, _, h => h
  | n + 1, [], vs, h => by
    have h : vs = [] := h
    subst h
    rfl
  | n + 1, y :: ys, vs, h => by
    obtain ⟨w, r, rfl, h2, h3⟩ := h
    exact RepL.drop n h3
theorem RepL.take : ∀ (n : Nat) {xs : List PV} {vs : List V}, RepL K z G μ xs vs → RepL K z G μ (xs.take n) (vs.take n)
  | 0, xs, vs, h => by simp only [List.take_zero]; rfl
  | n + 1, [], vs, h => by
    have h : vs = [] := h
    subst h
    rfl
  | n + 1, y :: ys, vs, h => by
    obtain ⟨w, r, rfl, h2, h3⟩ := h
    exact ⟨w, r.take n, rfl, h2, RepL.take n h3⟩
theorem RepL.eraseIdx : ∀ (n : Nat) {xs : List PV} {vs : List V}, RepL K z G μ xs vs → RepL K z G μ (xs.eraseIdx n) (vs.eraseIdx n)
  | n, [], vs, h => by
    have h : vs = [] := h
    subst h
    rfl
  | 0, y :: ys, vs, h => by
    obtain ⟨w, r, rfl, h2, h3⟩ := h
    exact h3
  | n + 1, y :: ys, vs, h => by
    obtain ⟨w, r, rfl, h2, h3⟩ := h
    exact ⟨w, r.eraseIdx n, rfl, h2, RepL.eraseIdx n h3⟩
end

/-! ### a place of the store; the store -/
def RepO (K : PySem.W.Frag) (z : Kz) (G : Hp) (μ : List Addr) (H : Hp) (a : Addr) : Ob → Prop
  | .lst xs => G a = none ∧ ∃ vs, H a = some (.lst vs) ∧ RepL K z G μ xs vs
  | .dct kvs => G a = none ∧ ∃ kv, H a = some (.dK kv) ∧ RepK K z G μ kvs kv
  | .ins _ _ => False
  | .dead => True
def live : Ob → Bool
  | .dead => false
  | _ => true
def RelE (K : PySem.W.Frag) (z : Kz) (ρ : Env) (σ : L2.St) (G : Hp) (μ : List Addr) : Prop :=
  ρ.length = σ.length ∧ ∀ (i : Nat) (p : PV), ρ[i]? = some (some p) → ∃ v, σ[i]? = some (some v) ∧ Rep K z G μ p v
theorem RelE.mono' {K : PySem.W.Frag} {z : Kz} {ρ : Env} {σ : L2.St} {G G' : Hp} {μ μ' : List Addr} (h : RelE K z ρ σ G μ) (s : Sub G G') (m : ∀ (l : Nat) (a : Addr), μ[l]? = some a → μ'[l]? = some a) : RelE K z ρ σ G' μ' :=
  ⟨h.1, fun i p hp => let ⟨v, h1, h2⟩ := h.2 i p hp; ⟨v, h1, h2.mono s m⟩⟩
/-- the lambda at hand -/
def LamOk (K : PySem.W.Frag) (l : LamI) (G : Hp) (μ : List Addr) : Prop := RelE K {} l.ρ l.σ G μ ∧ G l.c = some (LamX.CodeO l.c l.q)
theorem LamOk.mono {K : PySem.W.Frag} {l : LamI} {G G' : Hp} {μ μ' : List Addr} (h : LamOk K l G μ) (s : Sub G G') (m : ∀ (l : Nat) (a : Addr), μ[l]? = some a → μ'[l]? = some a) : LamOk K l G' μ' := ⟨h.1.mono' s m, s _ _ h.2⟩
/-- no table, no code object -/
def Plain (a : Addr) (o : HO) : Prop := (∀ ps, o ≠ .tbl ps) ∧ ∀ q, o ≠ LamX.CodeO a q
structure RelS (K : PySem.W.Frag) (z : Kz) (S : Store) (G : Hp) (μ : List Addr) (H : Hp) : Prop where
  g : Sub G H
  len : μ.length = S.length
  at_ : ∀ (l : Nat) (ob : Ob) (a : Addr), S[l]? = some ob → μ[l]? = some a → RepO K z G μ H a ob
  inj : ∀ (l l' : Nat) (a : Addr) (ob ob' : Ob), μ[l]? = some a → μ[l']? = some a → S[l]? = some ob → S[l']? = some ob' → live ob = true → live ob' = true → l = l'
  there : ∀ (l : Nat) (a : Addr), μ[l]? = some a → ∃ o, H a = some o ∧ Plain a o
  gt : ∀ (a : Addr) (ps : Array Value), G a ≠ some (.tbl ps)
  tabs : LamX.Tabs z.T H
  lam : ∀ l, z.lam = some l → LamOk K l G μ
structure Ext (G : Hp) (μ : List Addr) (H : Hp) (G' : Hp) (μ' : List Addr) (H' : Hp) : Prop where
  g : Sub G G'
  m : ∀ (l : Nat) (a : Addr), μ[l]? = some a → μ'[l]? = some a
  f : ∀ (a : Addr) (o : HO), H a = some o → Plain a o → G a = none → a ∉ μ → H' a = some o ∧ G' a = none ∧ a ∉ μ'
theorem Ext.refl (G : Hp) (μ : List Addr) (H : Hp) : Ext G μ H G μ H := ⟨fun _ _ h => h, fun _ _ h => h, fun _ _ h _ g m => ⟨h, g, m⟩⟩
theorem Ext.trans {G1 G2 G3 H1 H2 H3 : Hp} {m1 m2 m3 : List Addr} (a : Ext G1 m1 H1 G2 m2 H2) (b : Ext G2 m2 H2 G3 m3 H3) : Ext G1 m1 H1 G3 m3 H3 :=
  ⟨a.g.trans b.g, fun l x h => b.m l x (a.m l x h), fun x o h t g m => let ⟨h1, h2, h3⟩ := a.f x o h t g m; b.f x o h1 t h2 h3⟩
theorem RelE.mono {K : PySem.W.Frag} {z : Kz} {ρ : Env} {σ : L2.St} {G G' H H' : Hp} {μ μ' : List Addr} (h : RelE K z ρ σ G μ) (e : Ext G μ H G' μ' H') : RelE K z ρ σ G' μ' :=
  ⟨h.1, fun i p hp => let ⟨v, h1, h2⟩ := h.2 i p hp; ⟨v, h1, h2.mono e.g e.m⟩⟩
theorem Rep.ext {K : PySem.W.Frag} {z : Kz} {p : PV} {v : V} {G G' H H' : Hp} {μ μ' : List Addr} (h : Rep K z G μ p v) (e : Ext G μ H G' μ' H') : Rep K z G' μ' p v := h.mono e.g e.m
theorem RepL.ext {K : PySem.W.Frag} {z : Kz} {p : List PV} {v : List V} {G G' H H' : Hp} {μ μ' : List Addr} (h : RepL K z G μ p v) (e : Ext G μ H G' μ' H') : RepL K z G' μ' p v := h.mono e.g e.m

/-- an exception: its class, its own dict -/
def RepXn (K : PySem.W.Frag) (mg : Str → Option Value) (z : Kz) (G : Hp) (μ : List Addr) (c : Exn) (cls : Value) (d : Option Addr) : Prop :=
  ∃ C, mg c.x = some (.ref C) ∧ cls = .ref C ∧ RepX K z G μ c.fs d
theorem RepXn.ext {K : PySem.W.Frag} {mg : Str → Option Value} {z : Kz} {c : Exn} {cls : Value} {d : Option Addr} {G G' H H' : Hp} {μ μ' : List Addr} (h : RepXn K mg z G μ c cls d) (e : Ext G μ H G' μ' H') : RepXn K mg z G' μ' c cls d :=
  let ⟨C, h1, h2, h3⟩ := h; ⟨C, h1, h2, h3.mono e.g e.m⟩

/-! ### what an answer asks -/
section
variable {α β : Type} {K : PySem.W.Frag} {mg : Str → Option Value} {z : Kz} {W : WX} {σ : L2.St} {G G' H H' : Hp} {μ μ' : List Addr}
/-- the wish of an answer: P where it is one, the wish W of an exception -/
def Post (K : PySem.W.Frag) (mg : Str → Option Value) (z : Kz) (W : WX) (σ : L2.St) (G : Hp) (μ : List Addr) (H : Hp) (r : Res α) (P : α → Store → Hp → List Addr → Hp → Prop) : Prop := match r with
  | .ok a S' => ∀ G' μ' H', Ext G μ H G' μ' H' → RelS K z S' G' μ' H' → P a S' G' μ' H'
  | .exc c S' => ∀ G' μ' H' cls d, Ext G μ H G' μ' H' → RelS K z S' G' μ' H' → RepXn K mg z G' μ' c cls d → W cls d σ H'
  | .bad => False
theorem Post.ext {r : Res α} {P : α → Store → Hp → List Addr → Hp → Prop} (h : Post K mg z W σ G μ H r P) (e : Ext G μ H G' μ' H') : Post K mg z W σ G' μ' H' r P := by
  cases r with
  | ok a S => exact fun G2 μ2 H2 e2 => h G2 μ2 H2 (e.trans e2)
  | exc c S => exact fun G2 μ2 H2 cls d e2 => h G2 μ2 H2 cls d (e.trans e2)
  | bad => exact h
theorem Post.imp {r : Res α} {P P' : α → Store → Hp → List Addr → Hp → Prop} (h : Post K mg z W σ G μ H r P) (hp : ∀ a S' G' μ' H', Ext G μ H G' μ' H' → RelS K z S' G' μ' H' → P a S' G' μ' H' → P' a S' G' μ' H') : Post K mg z W σ G μ H r P' := by
  cases r with
  | ok a S => exact fun G2 μ2 H2 e2 r2 => hp a S G2 μ2 H2 e2 r2 (h G2 μ2 H2 e2 r2)
  | exc c S => exact h
  | bad => exact h
theorem Post.imp' {r : Res α} {P P' : α → Store → Hp → List Addr → Hp → Prop} (h : Post K mg z W σ G μ H r P) (hp : ∀ a S', r = .ok a S' → ∀ G' μ' H', Ext G μ H G' μ' H' → RelS K z S' G' μ' H' → P a S' G' μ' H' → P' a S' G' μ' H') : Post K mg z W σ G μ H r P' := by
  cases r with
  | ok a S => exact fun G2 μ2 H2 e2 r2 => hp a S rfl G2 μ2 H2 e2 r2 (h G2 μ2 H2 e2 r2)
  | exc c S => exact h
  | bad => exact h
theorem Post.bind {r : Res α} {f : α → Store → Res β} {P : β → Store → Hp → List Addr → Hp → Prop} (h : Post K mg z W σ G μ H (r.bind f) P) :
    Post K mg z W σ G μ H r fun a S' G' μ' H' => Post K mg z W σ G' μ' H' (f a S') P := by
  cases r with
  | ok a S => exact fun G2 μ2 H2 e2 r2 => Post.ext h e2
  | exc c S => exact h
  | bad => exact h
/-- an expression's reading -/
def TEx (K : PySem.W.Frag) (mg : Str → Option Value) (z : Kz) (W : WX) (f : Env → Store → Res PV) : TE := fun σ H Q =>
  ∃ ρ S G μ, RelE K z ρ σ G μ ∧ RelS K z S G μ H ∧ Post K mg z W σ G μ H (f ρ S) fun p S' G' μ' H' => ∀ v, Rep K z G' μ' p v → Q v H'
def TTx (K : PySem.W.Frag) (mg : Str → Option Value) (z : Kz) (W : WX) (f : Env → Store → Res Bool) : TT := fun σ H Q =>
  ∃ ρ S G μ, RelE K z ρ σ G μ ∧ RelS K z S G μ H ∧ Post K mg z W σ G μ H (f ρ S) fun b S' G' μ' H' => Q b H'
def TAx (K : PySem.W.Frag) (mg : Str → Option Value) (z : Kz) (W : WX) (f : Env → Store → Res (List PV)) : TA := fun σ H Q =>
  ∃ ρ S G μ, RelE K z ρ σ G μ ∧ RelS K z S G μ H ∧ Post K mg z W σ G μ H (f ρ S) fun ps S' G' μ' H' => ∀ vs, RepL K z G' μ' ps vs → Q vs H'
end
end CW
end

section
set_option Elab.async false
set_option linter.all false
set_option maxRecDepth 100000
/-! Readings of the pure side against the rules of HandS: the heap, simple expressions, operators. -/
namespace CW
open PySem PySem.Spec PyProof.Rows L2

theorem PE.imp {X : Cx} {e : Expr} {t t' : TE} (h : PE X e t) (i : ∀ σ H Q, t' σ H Q → t σ H Q) : PE X e t' := ⟨fun pins s σ H Q I q => h.run pins s σ H Q I (i σ H Q q)⟩
theorem PT.imp {X : Cx} {e : Expr} {t t' : TT} (h : PT X e t) (i : ∀ σ H Q, t' σ H Q → t σ H Q) : PT X e t' := ⟨fun pins s σ H Q I q => h.run pins s σ H Q I (i σ H Q q)⟩
theorem PW.imp {X : Cx} {e : Expr} {t t' : TT} (h : PW X e t) (i : ∀ σ H Q, t' σ H Q → t σ H Q) : PW X e t' := ⟨fun wh pins s σ H Q I q => h.run wh pins s σ H Q I (i σ H Q q)⟩
theorem PA.imp {X : Cx} {es : List Expr} {t t' : TA} (h : PA X es t) (i : ∀ σ H Q, t' σ H Q → t σ H Q) : PA X es t' := ⟨fun pos pins s σ H Q I q => h.run pos pins s σ H Q I (i σ H Q q)⟩
theorem PS.imp {X : Cx} {st : Stmt} {t t' : TS} (h : PS X st t) (i : ∀ D σ H, t' D σ H → t D σ H) : PS X st t' := ⟨fun pins s σ H D I q => h.run pins s σ H D I (i D σ H q)⟩
theorem PSs.imp {X : Cx} {st : List Stmt} {t t' : TS} (h : PSs X st t) (i : ∀ D σ H, t' D σ H → t D σ H) : PSs X st t' := ⟨fun pins s σ H D I q => h.run pins s σ H D I (i D σ H q)⟩

/-! ### the heap grows -/
section
variable {K : PySem.W.Frag} {z : Kz} {S : Store} {G H : Hp} {μ : List Addr} {p : Addr} {o : HO}
theorem RelS.fresh (r : RelS K z S G μ H) (h : H p = none) : G p = none ∧ p ∉ μ := by
  refine ⟨?_, fun m => ?_⟩
  · cases e : G p with
    | none => rfl
    | some o =>
      have := r.g p o e
      rw [h] at this
      cases this
  · obtain ⟨l, hl, e⟩ := List.mem_iff_getElem.mp m
    obtain ⟨o, h1, _⟩ := r.there l p (by rw [List.getElem?_eq_getElem hl, e])
    rw [h] at h1
    cases h1
theorem sub_upd {G : Hp} (h : G p = none) : Sub G (upd G p o) := fun a u e => by rw [upd_ne (fun q => by subst q; rw [h] at e; cases e)]; exact e
theorem RepO.mono {G' H' : Hp} {μ' : List Addr} {a : Addr} {ob : Ob} (h : RepO K z G μ H a ob) (s : Sub G G') (m : ∀ (l : Nat) (a : Addr), μ[l]? = some a → μ'[l]? = some a) (e : H' a = H a) (g : G a = none → G' a = none) : RepO K z G' μ' H' a ob := by
  cases ob with
  | lst xs =>
    obtain ⟨h0, vs, h1, h2⟩ := h
    exact ⟨g h0, vs, e.trans h1, h2.mono s m⟩
  | dct kvs =>
    obtain ⟨h0, vs, h1, h2⟩ := h
    exact ⟨g h0, vs, e.trans h1, h2.mono s m⟩
  | ins c fs => exact h.elim
  | dead => trivial
theorem tabs_upd {T : List (Addr × Str)} {H : Hp} {p : Addr} {o : HO} (h : LamX.Tabs T H) (n : H p = none) : LamX.Tabs T (upd H p o) := LamX.Tabs.ext h fun b u e => by rw [upd_ne (ne_of_none e n)]; exact e
theorem gt_upd {G : Hp} {p : Addr} {o : HO} (h : ∀ (a : Addr) (ps : Array Value), G a ≠ some (.tbl ps)) (ho : ∀ ps, o ≠ .tbl ps) : ∀ (a : Addr) (ps : Array Value), upd G p o a ≠ some (.tbl ps) := fun a ps e => by
  by_cases q : a = p
  · subst q; rw [upd_same] at e; exact ho ps (Option.some.inj e)
  · rw [upd_ne q] at e; exact h a ps e
/-- a new object that nobody changes -/
theorem RelS.still (r : RelS K z S G μ H) (h : H p = none) (o : HO) (ho : ∀ ps, o ≠ .tbl ps := by intro _ w; exact nomatch w) : RelS K z S (upd G p o) μ (upd H p o) ∧ Ext G μ H (upd G p o) μ (upd H p o) := by
  obtain ⟨hg, hm⟩ := r.fresh h
  have ne : ∀ (l : Nat) (a : Addr), μ[l]? = some a → a ≠ p := fun l a e q => hm (by rw [← q]; exact List.mem_of_getElem? e)
  refine ⟨⟨fun a u e => ?_, r.len, fun l ob a e1 e2 => ?_, r.inj, fun l a e => ?_, gt_upd r.gt ho, tabs_upd r.tabs h, fun l e => (r.lam l e).mono (sub_upd hg) fun _ _ e => e⟩, ⟨sub_upd hg, fun _ _ e => e, fun a u e t g m => ?_⟩⟩
  · by_cases q : a = p
    · subst q; rw [upd_same] at e ⊢; exact e
    · rw [upd_ne q] at e ⊢; exact r.g a u e
  · exact (r.at_ l ob a e1 e2).mono (sub_upd hg) (fun _ _ e => e) (upd_ne (ne l a e2)) (fun z => by rw [upd_ne (ne l a e2)]; exact z)
  · rw [upd_ne (ne l a e)]; exact r.there l a e
  · have q : a ≠ p := ne_of_none e h
    exact ⟨by rw [upd_ne q]; exact e, by rw [upd_ne q]; exact g, m⟩
/-- a new object that may be changed -/
theorem RelS.grown (r : RelS K z S G μ H) (h : H p = none) (o : HO) (ob : Ob) (hob : ∀ G' μ' H', Sub G G' → (∀ (l : Nat) (a : Addr), μ[l]? = some a → μ'[l]? = some a) → G' p = none → H' p = some o → RepO K z G' μ' H' p ob) (ho : Plain p o := by exact ⟨(fun _ w => nomatch w), (fun _ w => nomatch w)⟩) :
    RelS K z (S ++ [ob]) G (μ ++ [p]) (upd H p o) ∧ Ext G μ H G (μ ++ [p]) (upd H p o) := by
  obtain ⟨hg, hm⟩ := r.fresh h
  have ne : ∀ (l : Nat) (a : Addr), μ[l]? = some a → a ≠ p := fun l a e q => hm (by rw [← q]; exact List.mem_of_getElem? e)
  have mm : ∀ (l : Nat) (a : Addr), μ[l]? = some a → (μ ++ [p])[l]? = some a := fun l a e => by
    have hl : l < μ.length := (List.getElem?_eq_some_iff.mp e).1
    rw [List.getElem?_append_left hl]; exact e
  have old : ∀ (l : Nat) (a : Addr), (μ ++ [p])[l]? = some a → (l < μ.length ∧ μ[l]? = some a) ∨ (l = μ.length ∧ a = p) := fun l a e => by
    by_cases hl : l < μ.length
    · rw [List.getElem?_append_left hl] at e; exact .inl ⟨hl, e⟩
    · have hl' := (List.getElem?_eq_some_iff.mp e).1
      simp only [List.length_append, List.length_singleton] at hl'
      have : l = μ.length := by omega
      subst this
      simp at e
      exact .inr ⟨rfl, e.symm⟩
  have oldS : ∀ (l : Nat) (o' : Ob), (S ++ [ob])[l]? = some o' → (l < S.length → S[l]? = some o') ∧ (l = S.length → o' = ob) := fun l o' e => by
    refine ⟨fun hl => ?_, fun hl => ?_⟩
    · rw [List.getElem?_append_left hl] at e; exact e
    · subst hl; simp at e; exact e.symm
  refine ⟨⟨fun a u e => ?_, by simp [r.len], fun l o' a e1 e2 => ?_, fun l l' a o1 o2 e1 e2 e3 e4 l1 l2 => ?_, fun l a e => ?_, r.gt, tabs_upd r.tabs h, fun l e => (r.lam l e).mono (Sub.refl G) mm⟩, ⟨Sub.refl G, mm, fun a u e t g m => ?_⟩⟩
  · have q : a ≠ p := ne_of_none (r.g a u e) h
    rw [upd_ne q]; exact r.g a u e
  · rcases old l a e2 with ⟨hl, e⟩ | ⟨hl, e⟩
    · exact (r.at_ l o' a ((oldS l o' e1).1 (by rw [← r.len]; exact hl)) e).mono (Sub.refl G) mm (upd_ne (ne l a e)) (fun z => z)
    · have := (oldS l o' e1).2 (by rw [← r.len]; exact hl)
      subst this e
      exact hob _ _ _ (Sub.refl G) mm hg upd_same
  · rcases old l a e1 with ⟨hl, e⟩ | ⟨hl, e⟩ <;> rcases old l' a e2 with ⟨hl', e'⟩ | ⟨hl', e'⟩
    · exact r.inj l l' a o1 o2 e e' ((oldS l o1 e3).1 (by rw [← r.len]; exact hl)) ((oldS l' o2 e4).1 (by rw [← r.len]; exact hl')) l1 l2
    · exact absurd e' (ne l a e)
    · exact absurd e (ne l' a e')
    · omega
  · rcases old l a e with ⟨hl, e⟩ | ⟨hl, e⟩
    · rw [upd_ne (ne l a e)]; exact r.there l a e
    · subst e; rw [upd_same]; exact ⟨_, rfl, ho⟩
  · have q : a ≠ p := ne_of_none e h
    refine ⟨by rw [upd_ne q]; exact e, g, fun z => ?_⟩
    rcases List.mem_append.mp z with z | z
    · exact m z
    · exact q (by simpa using z)
/-- a mutable object is changed -/
theorem RelS.write {l : Nat} {ob ob' : Ob} (r : RelS K z S G μ H) (e1 : S[l]? = some ob) (e2 : μ[l]? = some p) (hl : live ob = true) (hl' : live ob' = true) (hG : G p = none) (hT : ∀ ps, H p ≠ some (.tbl ps))
    (hC : ∀ q, H p ≠ some (LamX.CodeO p q))
    (hob : ∀ H', H' p = some o → RepO K z G μ H' p ob') (ho : Plain p o := by exact ⟨(fun _ w => nomatch w), (fun _ w => nomatch w)⟩) : RelS K z (S.set l ob') G μ (upd H p o) ∧ Ext G μ H G μ (upd H p o) := by
  have hlS : l < S.length := (List.getElem?_eq_some_iff.mp e1).1
  have hmem : p ∈ μ := List.mem_of_getElem? e2
  have at' : ∀ (k : Nat) (o' : Ob), (S.set l ob')[k]? = some o' → (k = l ∧ o' = ob') ∨ (k ≠ l ∧ S[k]? = some o') := fun k o' e => by
    by_cases q : k = l
    · subst q; rw [List.getElem?_set_self hlS] at e; exact .inl ⟨rfl, (Option.some.inj e).symm⟩
    · rw [List.getElem?_set_ne (Ne.symm q)] at e; exact .inr ⟨q, e⟩
  refine ⟨⟨fun a u e => ?_, by rw [List.length_set]; exact r.len, fun k o' a f1 f2 => ?_, fun k k' a o1 o2 f1 f2 f3 f4 l1 l2 => ?_, fun k a e => ?_, r.gt, fun q hq => ?_, r.lam⟩, ⟨Sub.refl G, fun _ _ e => e, fun a u e t g m => ?_⟩⟩
  · have q : a ≠ p := fun q => by subst q; rw [hG] at e; cases e
    rw [upd_ne q]; exact r.g a u e
  · rcases at' k o' f1 with ⟨q, q'⟩ | ⟨q, f⟩
    · subst q q'
      rw [e2] at f2; cases f2
      exact hob _ upd_same
    · by_cases hd : live o' = true
      · have : a ≠ p := fun w => by subst w; exact q (r.inj k l a o' ob f2 e2 f e1 hd hl)
        exact (r.at_ k o' a f f2).mono (Sub.refl G) (fun _ _ e => e) (upd_ne this) (fun z => z)
      · cases o' with
        | dead => trivial
        | _ => exact absurd rfl hd
  · rcases at' k o1 f3 with ⟨q, q'⟩ | ⟨q, f⟩ <;> rcases at' k' o2 f4 with ⟨w, w'⟩ | ⟨w, f'⟩
    · rw [q, w]
    · subst q q'; exact r.inj k k' a ob o2 f1 f2 e1 f' hl l2
    · subst w w'; exact r.inj k k' a o1 ob f1 f2 f e1 l1 hl
    · exact r.inj k k' a o1 o2 f1 f2 f f' l1 l2
  · by_cases q : a = p
    · subst q; rw [upd_same]; exact ⟨_, rfl, ho⟩
    · rw [upd_ne q]; exact r.there k a e
  · obtain ⟨ps, h1, h2, h3⟩ := r.tabs q hq
    have n1 : q.1 ≠ p := fun w => by rw [w] at h1; exact hT ps h1
    refine ⟨ps, by rw [upd_ne n1]; exact h1, h2, fun pos cv hc => ?_⟩
    obtain ⟨c, e, hc'⟩ := h3 pos cv hc
    have n2 : c ≠ p := fun w => by subst w; exact hC _ hc'
    exact ⟨c, e, by rw [upd_ne n2]; exact hc'⟩
  · have q : a ≠ p := fun q => by subst q; exact m hmem
    exact ⟨by rw [upd_ne q]; exact e, g, m⟩
/-- a mutable object is still from now on -/
theorem RelS.freeze {l : Nat} {ob : Ob} (r : RelS K z S G μ H) (e1 : S[l]? = some ob) (e2 : μ[l]? = some p) (hl : live ob = true) (hG : G p = none) (hH : H p = some o) (ho : ∀ ps, o ≠ .tbl ps := by intro _ w; exact nomatch w) :
    RelS K z (S.set l .dead) (upd G p o) μ H ∧ Ext G μ H (upd G p o) μ H := by
  have hlS : l < S.length := (List.getElem?_eq_some_iff.mp e1).1
  have at' : ∀ (k : Nat) (o' : Ob), (S.set l .dead)[k]? = some o' → (k = l ∧ o' = .dead) ∨ (k ≠ l ∧ S[k]? = some o') := fun k o' e => by
    by_cases q : k = l
    · subst q; rw [List.getElem?_set_self hlS] at e; exact .inl ⟨rfl, (Option.some.inj e).symm⟩
    · rw [List.getElem?_set_ne (Ne.symm q)] at e; exact .inr ⟨q, e⟩
  refine ⟨⟨fun a u e => ?_, by rw [List.length_set]; exact r.len, fun k o' a f1 f2 => ?_, fun k k' a o1 o2 f1 f2 f3 f4 l1 l2 => ?_, r.there, gt_upd r.gt ho, r.tabs, fun l e => (r.lam l e).mono (sub_upd hG) fun _ _ e => e⟩, ⟨sub_upd hG, fun _ _ e => e, fun a u e t g m => ?_⟩⟩
  · by_cases q : a = p
    · subst q; rw [upd_same] at e; rw [← e]; exact hH
    · rw [upd_ne q] at e; exact r.g a u e
  · rcases at' k o' f1 with ⟨q, q'⟩ | ⟨q, f⟩
    · subst q'; trivial
    · by_cases hd : live o' = true
      · have n : a ≠ p := fun w => by subst w; exact q (r.inj k l a o' ob f2 e2 f e1 hd hl)
        exact (r.at_ k o' a f f2).mono (sub_upd hG) (fun _ _ e => e) rfl (fun z => by rw [upd_ne n]; exact z)
      · cases o' with
        | dead => trivial
        | _ => exact absurd rfl hd
  · rcases at' k o1 f3 with ⟨q, q'⟩ | ⟨q, f⟩
    · subst q'; cases l1
    · rcases at' k' o2 f4 with ⟨w, w'⟩ | ⟨w, f'⟩
      · subst w'; cases l2
      · exact r.inj k k' a o1 o2 f1 f2 f f' l1 l2
  · have q : a ≠ p := fun q => by subst q; exact m (List.mem_of_getElem? e2)
    exact ⟨e, by rw [upd_ne q]; exact g, m⟩
end

/-! ### names, constants, lists of arguments -/
section
variable {X : Cx} {z : Kz} {W : WX} {pos : Pos}
abbrev TE' (X : Cx) (z : Kz) (W : WX) (f : Env → Store → Res PV) : TE := TEx X.K X.mg z W f
abbrev TT' (X : Cx) (z : Kz) (W : WX) (f : Env → Store → Res Bool) : TT := TTx X.K X.mg z W f
abbrev TA' (X : Cx) (z : Kz) (W : WX) (f : Env → Store → Res (List PV)) : TA := TAx X.K X.mg z W f
/-- a value that needs no heap -/
theorem s_const {e : Expr} {v : V} {p : PV} (h : PE X e (tC v)) (hp : ∀ G μ, Rep X.K z G μ p v) : PE X e (TE' X z W fun _ S => .ok p S) :=
  PE.imp h fun σ H Q ⟨ρ, S, G, μ, hE, hS, h⟩ => h G μ H (Ext.refl ..) hS v (hp G μ)
theorem s_int {i : Int} {j : Nat} : PE X (.Constant (.int i) j pos) (TE' X z W fun _ S => .ok (.int i) S) := s_const pe_int fun _ _ => rfl
theorem s_bl {b : Bool} {j : Nat} : PE X (.Constant (.bool b) j pos) (TE' X z W fun _ S => .ok (.bl b) S) := s_const pe_bl fun _ _ => rfl
theorem s_non {j : Nat} : PE X (.Constant .none j pos) (TE' X z W fun _ S => .ok .non S) := s_const pe_non fun _ _ => rfl
theorem s_str {x : Str} {j : Nat} : PE X (.Constant (.str x) j pos) (TE' X z W fun _ S => .ok (.str x) S) := s_const pe_str fun _ _ => rfl
theorem s_var {i : Nat} {x : Str} (hN : X.N[i]? = some x) (hv : Vis X.env.scope x) (hd : (x == ("__debug__" : Str)) = false) (hcd : (x == ("__classdict__" : Str)) = false) :
    PE X (.Name x pos) (TE' X z W fun ρ S => match ρ[i]? with | some (some v) => .ok v S | _ => .bad) := by
  refine PE.imp (pe_var hN hv hd hcd) fun σ H Q ⟨ρ, S, G, μ, hE, hS, h⟩ => ?_
  cases e : ρ[i]? with
  | none => simp only [e] at h; exact h.elim
  | some o =>
    cases o with
    | none => simp only [e] at h; exact h.elim
    | some p =>
      simp only [e] at h
      obtain ⟨v, h1, h2⟩ := hE.2 i p e
      exact ⟨v, h1, h G μ H (Ext.refl ..) hS v h2⟩
theorem s_nil : PA X [] (TA' X z W fun _ S => .ok [] S) := PA.imp pa_nil fun σ H Q ⟨ρ, S, G, μ, hE, hS, h⟩ => h G μ H (Ext.refl ..) hS [] rfl
theorem s_cons {e : Expr} {es : List Expr} {f : Env → Store → Res PV} {g : Env → Store → Res (List PV)} (he : PE X e (TE' X z W f)) (hr : PA X es (TA' X z W g)) (hs : starEach (e :: es) X.env = (false, eval e X.env) :: starEach es X.env) :
    PA X (e :: es) (TA' X z W fun ρ S => (f ρ S).bind fun v S => (g ρ S).bind fun vs S => .ok (v :: vs) S) := by
  refine PA.imp (pa_cons he hr hs) fun σ H Q ⟨ρ, S, G, μ, hE, hS, h⟩ => ?_
  refine ⟨ρ, S, G, μ, hE, hS, h.bind.imp fun p S1 G1 μ1 H1 e1 r1 h1 v hv => ?_⟩
  refine ⟨ρ, S1, G1, μ1, hE.mono e1, r1, h1.bind.imp fun ps S2 G2 μ2 H2 e2 r2 h2 vs hvs => ?_⟩
  exact h2 G2 μ2 H2 (Ext.refl ..) r2 (v :: vs) (.cons (hv.ext e2) hvs)
end

/-! ### two parts and an operation -/
section
variable {X : Cx} {z : Kz} {W : WX} {pos : Pos} {a b c : Expr} {fa fb fc : Env → Store → Res PV}
theorem t_bin {f : PV → PV → Store → Res PV} {r : R2} (hr : ∀ p q S G μ H x y Q σ, Rep X.K z G μ p x → Rep X.K z G μ q y → RelS X.K z S G μ H → Post X.K X.mg z W σ G μ H (f p q S) (fun v S' G' μ' H' => ∀ u, Rep X.K z G' μ' v u → Q u H') → r x y H Q)
    (σ : L2.St) (H : Hp) (Q : VK) (h : TE' X z W (fun ρ S => (fa ρ S).bind fun p S => (fb ρ S).bind fun q S => f p q S) σ H Q) : tOp r (TE' X z W fa) (TE' X z W fb) σ H Q := by
  obtain ⟨ρ, S, G, μ, hE, hS, h⟩ := h
  refine ⟨ρ, S, G, μ, hE, hS, h.bind.imp fun p S1 G1 μ1 H1 e1 r1 h1 x hx => ?_⟩
  refine ⟨ρ, S1, G1, μ1, hE.mono e1, r1, h1.bind.imp fun q S2 G2 μ2 H2 e2 r2 h2 y hy => ?_⟩
  exact hr p q S2 G2 μ2 H2 x y Q σ (hx.ext e2) hy r2 h2
/-- the reading of an operation on values that changes nothing of the store -/
def rOp (K : PySem.W.Frag) (z : Kz) (f : PV → PV → Store → Option PV) : R2 := fun x y H Q =>
  ∃ p q S G μ, Rep K z G μ p x ∧ Rep K z G μ q y ∧ RelS K z S G μ H ∧ ∃ v, f p q S = some v ∧ ∀ G' μ' H' u, Ext G μ H G' μ' H' → RelS K z S G' μ' H' → Rep K z G' μ' v u → Q u H'
theorem t_rOp {f : PV → PV → Store → Option PV} (σ : L2.St) (H : Hp) (Q : VK) (h : TE' X z W (fun ρ S => (fa ρ S).bind fun p S => (fb ρ S).bind fun q S => Res.of (f p q S) S) σ H Q) : tOp (rOp X.K z f) (TE' X z W fa) (TE' X z W fb) σ H Q := by
  refine t_bin (f := fun p q S => Res.of (f p q S) S) (fun p q S G μ H x y Q σ hp hq hS h => ⟨p, q, S, G, μ, hp, hq, hS, ?_⟩) σ H Q h
  cases e : f p q S with
  | none => rw [e] at h; exact h.elim
  | some v =>
    rw [e] at h
    exact ⟨v, rfl, fun G' μ' H' u e r hu => h G' μ' H' e r u hu⟩
theorem s_bin {op : Operator} {f : PV → PV → Store → Option PV} (ho : OpR X (binaryOp op) (rOp X.K z f)) (ha : PE X a (TE' X z W fa)) (hb : PE X b (TE' X z W fb)) :
    PE X (.BinOp a op b pos) (TE' X z W fun ρ S => (fa ρ S).bind fun p S => (fb ρ S).bind fun q S => Res.of (f p q S) S) := PE.imp (pe_op ho ha hb) t_rOp
theorem s_cmp {op : CmpOp} {f : PV → PV → Store → Option PV} (ho : OpR X (compareOp op) (rOp X.K z f)) (ha : PE X a (TE' X z W fa)) (hb : PE X b (TE' X z W fb)) (hm : behindInMarks op b = false) :
    PE X (.Compare a [op] [b] pos) (TE' X z W fun ρ S => (fa ρ S).bind fun p S => (fb ρ S).bind fun q S => Res.of (f p q S) S) := PE.imp (pe_cmpR ho ha hb hm) t_rOp
end

/-! ### lists and tuples read -/
section
variable {K : PySem.W.Frag} {z : Kz} {S : Store} {G H : Hp} {μ : List Addr} {p : PV} {v : V} {xs : List PV}
theorem getL_of (r : RelS K z S G μ H) (h : Rep K z G μ p v) (e : getL S p = some xs) : ∃ a vs, v = .ref a ∧ Rd H a (.lst vs) ∧ RepL K z G μ xs vs := by
  cases p with
  | lst ys =>
    obtain ⟨a, vs, h1, h2, h3, h4⟩ := h
    have e : some ys = some xs := e
    cases e
    exact ⟨a, vs, h1, r.g.rd h2, h4⟩
  | loc l =>
    obtain ⟨a, h1, h2⟩ := h
    cases e0 : S[l]? with
    | none => simp only [getL, e0] at e; cases e
    | some ob =>
      cases ob with
      | lst ys =>
        simp only [getL, e0, Option.some.injEq] at e
        subst e
        obtain ⟨_, vs, h3, h4⟩ := r.at_ l _ a e0 h1
        exact ⟨a, vs, h2, .inl h3, h4⟩
      | _ => simp only [getL, e0] at e; cases e
  | _ => cases e
theorem getSeq_of (r : RelS K z S G μ H) (h : Rep K z G μ p v) (e : getSeq S p = some xs) : ∃ a vs, v = .ref a ∧ (SqL K H a vs ∨ SqT K H a vs) ∧ RepL K z G μ xs vs := by
  cases p with
  | tup ys =>
    obtain ⟨a, vs, h1, h2, h3, h4⟩ := h
    have e : some ys = some xs := e
    cases e
    exact ⟨a, vs, h1, .inr (r.g.sqT h2), h4⟩
  | _ =>
    obtain ⟨a, vs, h1, h2, h3⟩ := getL_of r h e
    exact ⟨a, vs, h1, .inl (.inl h2), h3⟩
end
/-- an operation that makes a still tuple, a still list -/
theorem mk_tup {K : PySem.W.Frag} {z : Kz} {S : Store} {G H : Hp} {μ : List Addr} {xs : List PV} {vs : List V} {Q : VK} (r : RelS K z S G μ H) (hl : vs.length ≤ LINE) (hx : RepL K z G μ xs vs)
    (h : ∀ G' μ' H' u, Ext G μ H G' μ' H' → RelS K z S G' μ' H' → Rep K z G' μ' (.tup xs) u → Q u H') (p : Addr) (np : H p = none) : Q (.ref p) (upd H p (.tup vs)) := by
  obtain ⟨r', e'⟩ := r.still np (.tup vs)
  exact h _ _ _ _ e' r' ⟨p, vs, rfl, .inl (.inl upd_same), hl, hx.ext e'⟩
theorem mk_lst {K : PySem.W.Frag} {z : Kz} {S : Store} {G H : Hp} {μ : List Addr} {xs : List PV} {vs : List V} {Q : VK} (r : RelS K z S G μ H) (hl : vs.length ≤ LINE) (hx : RepL K z G μ xs vs)
    (h : ∀ G' μ' H' u, Ext G μ H G' μ' H' → RelS K z S G' μ' H' → Rep K z G' μ' (.lst xs) u → Q u H') (p : Addr) (np : H p = none) : Q (.ref p) (upd H p (.lst vs)) := by
  obtain ⟨r', e'⟩ := r.still np (.lst vs)
  exact h _ _ _ _ e' r' ⟨p, vs, rfl, .inl upd_same, hl, hx.ext e'⟩
end CW
end

section
set_option Elab.async false
set_option linter.all false
set_option maxRecDepth 100000
set_option maxHeartbeats 2000000
/-! Operators. -/
namespace CW
open PySem PySem.Spec PyProof.Rows L2
theorem Inv.lstR {X : Cx} {pins : List (Addr × Obj)} {σ : L2.St} {H : Hp} {s : Shared} {l : Addr} {xs : List V} (I : Inv X pins σ H s) (hH : Rd H l (.lst xs)) : xs.length ≤ sizeLine ∧ ∃ (its : List Value) (n : Nat), Vals xs its ∧ xs.length = its.length ∧ s.heap.get? l = some { cls := .type "list", data := .seq its.toArray n } := by
  obtain ⟨z, its, n, r, e⟩ := hH.ok I.hok
  exact ⟨z, its, n, r, r.length, e⟩
section
variable {X : Cx} {z : Kz}
def rCatR : R2 := fun x y H Q => ∃ l b xs zs, x = .ref l ∧ y = .ref b ∧ Rd H l (.lst xs) ∧ Rd H b (.lst zs) ∧ xs.length + zs.length ≤ sizeLine ∧ ∀ p, H p = none → Q (.ref p) (upd H p (.lst (xs ++ zs)))
theorem op_catR : OpR X (binaryOp .Add) rCatR := by
  intro pins s σ H x y v u Q I rx ry h
  obtain ⟨l, b, xs, zs, rfl, rfl, hH, hB, hz, q⟩ := h
  cases rx
  cases ry
  obtain ⟨z, its, n, r, hl, e⟩ := Inv.lstR I hH
  obtain ⟨z2, its2, n2, r2, hl2, e2⟩ := Inv.lstR I hB
  refine PySem.P.add_list e e2 ?_ (by rw [List.size_toArray, List.size_toArray]; omega)
  have ea : its.toArray ++ its2.toArray = (its ++ its2).toArray := by simp
  rw [ea]
  exact ⟨.ref _, _, I.lnew (t' := s.toks) (r.append r2) (by rw [List.length_append]; omega), rfl, q _ I.fresh⟩
def rRepR : R2 := fun x y H Q => ∃ l k xs, x = .ref l ∧ y = .int k ∧ Rd H l (.lst xs) ∧ -(2 ^ 63) ≤ k ∧ k < 2 ^ 63 ∧ xs.length * k.toNat ≤ sizeLine ∧
  ∀ p, H p = none → Q (.ref p) (upd H p (.lst (List.replicate k.toNat xs).flatten))
theorem op_repR : OpR X (binaryOp .Mult) rRepR := by
  intro pins s σ H x y v u Q I rx ry h
  obtain ⟨l, k, xs, rfl, rfl, hH, h1, h2, hz, q⟩ := h
  cases rx
  obtain ⟨t, rfl⟩ := ry
  obtain ⟨z, its, n, r, hl, e⟩ := Inv.lstR I hH
  have hlen : its.toArray.size * k.toNat ≤ sizeLine := by rw [List.size_toArray, ← hl]; exact hz
  have hcap : ¬ its.toArray.size * k.toNat > (2 ^ 63 - 1) / 8 := by
    have : (sizeLine : Nat) ≤ (2 ^ 63 - 1) / 8 := by decide
    omega
  have hfit : ¬ (!Builtin.List.listFitsIndex k) = true := by
    rw [fitsIndex_both h1 h2]
    exact Bool.false_ne_true
  have hlong : ¬ Builtin.List.listTooLong (its.toArray.size * k.toNat) = true := by
    rw [notLongL hlen]
    exact Bool.false_ne_true
  have hnew : List.foldl (fun x1 x2 => x1 ++ x2) #[] (List.replicate (if its.toArray.isEmpty = true then 0 else k.toNat) its.toArray) = (List.replicate k.toNat its).flatten.toArray := by
    have f0 : ∀ m : Nat, List.foldl (fun x1 x2 => x1 ++ x2) #[] (List.replicate m its.toArray) = (List.replicate m its).flatten.toArray := fun m => by
      have := foldl_rep its m []
      rw [List.nil_append] at this
      exact this
    rw [f0]
    cases its with
    | nil => simp
    | cons a r' => rw [if_neg (by simp)]
  refine wpAny_binaryOp_repeat_ref (T := "list") (U := "int") (by decide) ⟨_, e, rfl⟩ (fun s' => typeIs_int s' k t) noFill_list_mul F.fills_int_mul F.slot_int_rmul repeat_list F.slot_int_index.lookup
    (call_meets F.slot_int_rmul (typeIs_int s k t) F.entry_int_rmul (F.args_int_rmul_2 _ _) (int___rmul___int_list k t l its.toArray n)
      ⟨e, rfl, ⟨_, e, rfl⟩, call_meets F.slot_list_mul ⟨_, e, rfl⟩ F.entry_list_mul (F.args_list_mul_2 _ _) (AutoListH.list___mul___list_int_3 l its.toArray n k t hfit hcap hlong) ⟨e, ?_⟩⟩)
  rw [hnew]
  exact ⟨.ref _, _, I.lnew (t' := s.toks) (r.rep k.toNat) (by rw [PyProof.Rows.lm_len_rep_flat, Nat.mul_comm]; exact hz), rfl, q _ I.fresh⟩

theorem RepL.flat {K : PySem.W.Frag} {G : Hp} {μ : List Addr} {xs : List PV} {vs : List V} (h : RepL K z G μ xs vs) : ∀ n : Nat, RepL K z G μ (List.replicate n xs).flatten (List.replicate n vs).flatten
  | 0 => .nil
  | n + 1 => by
    rw [List.replicate_succ, List.replicate_succ, List.flatten_cons, List.flatten_cons]
    exact h.append (RepL.flat h n)
theorem flat_len {α : Type} (xs : List α) (n : Nat) : (List.replicate n xs).flatten.length = xs.length * n := by
  induction n with
  | zero => simp
  | succ n ih => rw [List.replicate_succ, List.flatten_cons, List.length_append, ih, Nat.mul_succ, Nat.add_comm]

/-- list + list -/
theorem add_lists {S : Store} {G H : Hp} {μ : List Addr} {p q w : PV} {x y : V} {Q : VK} (hp : Rep X.K z G μ p x) (hq : Rep X.K z G μ q y) (r : RelS X.K z S G μ H)
    (e : ((getL S p).bind fun xs => (getL S q).bind fun ys => if decide (xs.length + ys.length ≤ LINE) then some (PV.lst (xs ++ ys)) else none) = some w)
    (k : ∀ G' μ' H' u, Ext G μ H G' μ' H' → RelS X.K z S G' μ' H' → Rep X.K z G' μ' w u → Q u H') : rCatR x y H Q := by
  obtain ⟨xs, e1, e⟩ := Option.bind_eq_some_iff.mp e
  obtain ⟨ys, e2, e⟩ := Option.bind_eq_some_iff.mp e
  split at e
  · rename_i hl
    have hl := of_decide_eq_true hl
    cases e
    obtain ⟨a, vs, rfl, h1, h2⟩ := getL_of r hp e1
    obtain ⟨b, ws, rfl, h3, h4⟩ := getL_of r hq e2
    have l1 := h2.length
    have l2 := h4.length
    refine ⟨a, b, vs, ws, rfl, rfl, h1, h3, by rw [sizeLine_LINE]; omega, fun p np => mk_lst r ?_ (h2.append h4) k p np⟩
    rw [List.length_append]
    omega
  · cases e
theorem op_add_ok : OpR X (binaryOp .Add) (rOp X.K z (binop .add)) := by
  intro pins s σ H x y v u Q I rx ry h
  obtain ⟨p, q, S, G, μ, hp, hq, r, w, e, k⟩ := h
  have viaL : ((getL S p).bind fun xs => (getL S q).bind fun ys => if decide (xs.length + ys.length ≤ LINE) then some (PV.lst (xs ++ ys)) else none) = some w → wpAny (model X.prog X.w) X.A (binaryOp .Add v u) (EP X pins σ Q) X.xe s := fun e' =>
    op_catR pins s σ H x y v u Q I rx ry (add_lists hp hq r e' k)
  cases p with
  | int i =>
    cases q with
    | int j =>
      cases e
      cases hp
      cases hq
      exact L2.op_add pins s σ H _ _ v u Q I rx ry ⟨i, j, rfl, rfl, k G μ H _ (Ext.refl ..) r rfl⟩
    | _ => cases e
  | str i =>
    cases q with
    | str j =>
      simp only [binop] at e
      split at e
      · rename_i hl
        have hl := of_decide_eq_true hl
        cases e
        cases hp
        cases hq
        exact op_add_str pins s σ H _ _ v u Q I rx ry ⟨i, j, rfl, rfl, by rw [sizeLine_LINE]; exact hl, k G μ H _ (Ext.refl ..) r rfl⟩
      · cases e
    | _ => cases e
  | tup xs =>
    cases q with
    | tup ys =>
      simp only [binop] at e
      split at e
      · rename_i hl
        have hl := of_decide_eq_true hl
        cases e
        obtain ⟨a, vs, rfl, h1, h2, h3⟩ := id hp
        obtain ⟨b, ws, rfl, h4, h5, h6⟩ := id hq
        have l1 := h3.length
        have l2 := h6.length
        refine op_catA pins s σ H _ _ v u Q I rx ry ⟨a, b, vs, ws, rfl, rfl, r.g.sqT h1, r.g.sqT h4, by rw [sizeLine_LINE]; omega, fun z1 => ?_, fun _ z2 => ?_, fun _ _ p np => ?_⟩
        · have : xs = [] := List.length_eq_zero_iff.mp (by rw [l1, z1]; rfl)
          subst this
          exact k G μ H _ (Ext.refl ..) r hq
        · have : ys = [] := List.length_eq_zero_iff.mp (by rw [l2, z2]; rfl)
          subst this
          rw [List.append_nil] at k
          exact k G μ H _ (Ext.refl ..) r hp
        · exact mk_tup r (by rw [List.length_append]; omega) (h3.append h6) k p np
      · cases e
    | _ => cases e
  | lst xs => cases q <;> exact viaL e
  | loc l => cases q <;> exact viaL e
  | _ => cases q <;> cases e
theorem op_sub_ok : OpR X (binaryOp .Sub) (rOp X.K z (binop .sub)) := by
  intro pins s σ H x y v u Q I rx ry h
  obtain ⟨p, q, S, G, μ, hp, hq, r, w, e, k⟩ := h
  cases p with
  | int i =>
    cases q with
    | int j =>
      cases e
      cases hp
      cases hq
      exact L2.op_sub pins s σ H _ _ v u Q I rx ry ⟨i, j, rfl, rfl, k G μ H _ (Ext.refl ..) r rfl⟩
    | _ => cases e
  | _ => cases e
theorem op_mul_ok : OpR X (binaryOp .Mult) (rOp X.K z (binop .mul)) := by
  intro pins s σ H x y v u Q I rx ry h
  obtain ⟨p, q, S, G, μ, hp, hq, r, w, e, k⟩ := h
  have viaL : ∀ j, q = .int j → ((getL S p).bind fun xs => if decide (-(2 ^ 63) ≤ j) && (decide (j < 2 ^ 63) && decide (xs.length * j.toNat ≤ LINE)) then some (PV.lst (List.replicate j.toNat xs).flatten) else none) = some w →
      wpAny (model X.prog X.w) X.A (binaryOp .Mult v u) (EP X pins σ Q) X.xe s := fun j hj e' => by
    subst hj
    obtain ⟨xs, e1, e'⟩ := Option.bind_eq_some_iff.mp e'
    split at e'
    · rename_i hl
      simp only [Bool.and_eq_true, decide_eq_true_eq] at hl
      obtain ⟨h1, h2, h3⟩ := hl
      cases e'
      obtain ⟨a, vs, rfl, h4, h5⟩ := getL_of r hp e1
      have l1 := h5.length
      cases hq
      refine op_repR pins s σ H _ _ v u Q I rx ry ⟨a, j, vs, rfl, rfl, h4, h1, h2, by rw [sizeLine_LINE, ← l1]; exact h3, fun p np => mk_lst r ?_ (h5.flat _) k p np⟩
      rw [flat_len, ← l1]
      exact h3
    · cases e'
  cases p with
  | int i =>
    cases q with
    | int j =>
      simp only [binop] at e
      split at e
      · rename_i hl
        simp only [mulOk, decide_eq_true_eq] at hl
        cases e
        cases hp
        cases hq
        exact op_mulW pins s σ H _ _ v u Q I rx ry ⟨i, j, rfl, rfl, hl, k G μ H _ (Ext.refl ..) r rfl⟩
      · cases e
    | _ => cases e
  | lst xs =>
    cases q with
    | int j => exact viaL j rfl e
    | _ => cases e
  | loc l =>
    cases q with
    | int j => exact viaL j rfl e
    | _ => cases e
  | _ =>
    cases q with
    | int j => exact viaL j rfl e
    | _ => cases e
theorem op_fdiv_ok : OpR X (binaryOp .FloorDiv) (rOp X.K z (binop .fdiv)) := by
  intro pins s σ H x y v u Q I rx ry h
  obtain ⟨p, q, S, G, μ, hp, hq, r, w, e, k⟩ := h
  cases p with
  | int i =>
    cases q with
    | int j =>
      simp only [binop] at e
      split at e
      · rename_i hl
        simp only [divOk, Bool.and_eq_true, bne_iff_ne, ne_eq, decide_eq_true_eq] at hl
        cases e
        cases hp
        cases hq
        obtain ⟨t, rfl⟩ := rx
        obtain ⟨t', rfl⟩ := ry
        exact floordiv_int hl.1 ⟨.int _, H, I.tok _, ⟨_, rfl⟩, k G μ H _ (Ext.refl ..) r rfl⟩ (.inl (PyProof.noPylong_of_log2 hl.2))
      · cases e
    | _ => cases e
  | _ => cases e
theorem op_mod_ok : OpR X (binaryOp .Mod) (rOp X.K z (binop .mod)) := by
  intro pins s σ H x y v u Q I rx ry h
  obtain ⟨p, q, S, G, μ, hp, hq, r, w, e, k⟩ := h
  cases p with
  | int i =>
    cases q with
    | int j =>
      simp only [binop] at e
      split at e
      · rename_i hl
        simp only [bne_iff_ne, ne_eq] at hl
        cases e
        cases hp
        cases hq
        exact op_modN pins s σ H _ _ v u Q I rx ry ⟨i, j, rfl, rfl, hl, k G μ H _ (Ext.refl ..) r rfl⟩
      · cases e
    | _ => cases e
  | _ => cases e
theorem op_pow_ok : OpR X (binaryOp .Pow) (rOp X.K z (binop .pow)) := by
  intro pins s σ H x y v u Q I rx ry h
  obtain ⟨p, q, S, G, μ, hp, hq, r, w, e, k⟩ := h
  cases p with
  | int i =>
    cases q with
    | int j =>
      simp only [binop] at e
      split at e
      · rename_i hl
        simp only [Bool.and_eq_true, decide_eq_true_eq] at hl
        cases e
        cases hp
        cases hq
        exact op_pow pins s σ H _ _ v u Q I rx ry ⟨i, j, rfl, rfl, hl, k G μ H _ (Ext.refl ..) r rfl⟩
      · cases e
    | _ => cases e
  | _ => cases e
def bopA : Bop → Operator
  | .add => .Add
  | .sub => .Sub
  | .mul => .Mult
  | .fdiv => .FloorDiv
  | .mod => .Mod
  | .pow => .Pow
theorem op_bin_ok : ∀ op : Bop, OpR X (binaryOp (bopA op)) (rOp X.K z (binop op))
  | .add => op_add_ok
  | .sub => op_sub_ok
  | .mul => op_mul_ok
  | .fdiv => op_fdiv_ok
  | .mod => op_mod_ok
  | .pow => op_pow_ok
end
end CW
end

section
set_option Elab.async false
set_option linter.all false
set_option maxRecDepth 100000
set_option maxHeartbeats 2000000
/-! Comparisons, truth. -/
namespace CW
open PySem PySem.Spec PyProof.Rows L2
/-! ### plain values as data -/
mutual
def PV.pd : PV → PyData
  | .bl b => .bool b
  | .int i => .int i
  | .str x => .str x
  | .tup xs => .tuple (pdL xs)
  | .lst xs => .list (pdL xs)
  | _ => .none
def pdL : List PV → List PyData
  | [] => []
  | x :: xs => x.pd :: pdL xs
end
mutual
theorem pd_eqv : ∀ a b : PV, a.plain = true → b.plain = true → PyData.eqv a.pd b.pd = a.eqv b
  | .non, b, _, h => by cases b <;> first | rfl | cases h
  | .bl x, b, _, h => by cases b <;> first | rfl | cases h
  | .int x, b, _, h => by cases b <;> first | rfl | cases h
  | .str x, b, _, h => by cases b <;> first | rfl | cases h
  | .tup xs, b, h1, h => by
    cases b with
    | tup ys =>
      show PyData.eqv (.tuple (pdL xs)) (.tuple (pdL ys)) = eqvL xs ys
      rw [PyData.eqv]
      exact pd_eqvL xs ys h1 h
    | _ => first | rfl | cases h
  | .lst xs, b, h1, h => by
    cases b with
    | lst ys =>
      show PyData.eqv (.list (pdL xs)) (.list (pdL ys)) = eqvL xs ys
      rw [PyData.eqv]
      exact pd_eqvL xs ys h1 h
    | _ => first | rfl | cases h
  | .dct _, _, h, _ => by cases h
  | .loc _, _, h, _ => by cases h
  | .ty _, _, h, _ => by cases h
  | .gl _, _, h, _ => by cases h
  | .clo, _, h, _ => by cases h
  | .exn _ _, _, h, _ => by cases h
theorem pd_eqvL : ∀ xs ys : List PV, plainL xs = true → plainL ys = true → PyData.eqvAll (pdL xs) (pdL ys) = eqvL xs ys
  | [], [], _, _ => rfl
  | [], _ :: _, _, _ => rfl
  | _ :: _, [], _, _ => rfl
  | x :: xs, y :: ys, h1, h2 => by
    simp only [plainL, Bool.and_eq_true] at h1 h2
    simp only [pdL, PyData.eqvAll, eqvL, pd_eqv x y h1.1 h2.1, pd_eqvL xs ys h1.2 h2.2]
end
mutual
theorem pd_can : ∀ a : PV, a.plain = true → a.pd.canLay0 = true
  | .non, _ => rfl
  | .bl x, _ => rfl
  | .int x, _ => rfl
  | .str x, h => h
  | .tup xs, h => pd_canL xs h
  | .lst xs, h => pd_canL xs h
  | .dct _, h => by cases h
  | .loc _, h => by cases h
  | .ty _, h => by cases h
  | .gl _, h => by cases h
  | .clo, h => by cases h
  | .exn _ _, h => by cases h
theorem pd_canL : ∀ xs : List PV, plainL xs = true → PyData.canLayAll0 (pdL xs) = true
  | [], _ => rfl
  | x :: xs, h => by
    simp only [plainL, Bool.and_eq_true] at h
    simp only [pdL, PyData.canLayAll0, pd_can x h.1, pd_canL xs h.2, Bool.and_self]
end
mutual
theorem pd_depth : ∀ a : PV, a.plain = true → a.pd.depth = a.depth
  | .non, _ => rfl
  | .bl x, _ => rfl
  | .int x, _ => rfl
  | .str x, h => rfl
  | .tup xs, h => by
    show PyData.depth (.tuple (pdL xs)) = depthL xs + 1
    rw [PyData.depth, pd_depthL xs h]
  | .lst xs, h => by
    show PyData.depth (.list (pdL xs)) = depthL xs + 1
    rw [PyData.depth, pd_depthL xs h]
  | .dct _, h => by cases h
  | .loc _, h => by cases h
  | .ty _, h => by cases h
  | .gl _, h => by cases h
  | .clo, h => by cases h
  | .exn _ _, h => by cases h
theorem pd_depthL : ∀ xs : List PV, plainL xs = true → PyData.depthAll (pdL xs) = depthL xs
  | [], _ => rfl
  | x :: xs, h => by
    simp only [plainL, Bool.and_eq_true] at h
    simp only [pdL, PyData.depthAll, depthL, pd_depth x h.1, pd_depthL xs h.2]
end
section
variable {K : PySem.W.Frag} {z : Kz} {G H : Hp} {μ : List Addr}
mutual
theorem dp_of (g : Sub G H) : ∀ (p : PV) (v : V), p.plain = true → Rep K z G μ p v → Dp K H v p.pd
  | .non, v, _, h => by cases h; exact .non
  | .bl x, v, _, h => by cases h; exact .bl x
  | .int x, v, _, h => by cases h; exact .int x
  | .str x, v, _, h => by cases h; exact .str x
  | .tup xs, v, hp, h => by
    obtain ⟨a, vs, rfl, h2, _, h4⟩ := h
    exact .tup (g.sqT h2) (dp_ofL g xs vs hp h4)
  | .lst xs, v, hp, h => by
    obtain ⟨a, vs, rfl, h2, _, h4⟩ := h
    exact .lst (.inl (g.rd h2)) (dp_ofL g xs vs hp h4)
  | .dct _, _, h, _ => by cases h
  | .loc _, _, h, _ => by cases h
  | .ty _, _, h, _ => by cases h
  | .gl _, _, h, _ => by cases h
  | .clo, _, h, _ => by cases h
  | .exn _ _, _, h, _ => by cases h
theorem dp_ofL (g : Sub G H) : ∀ (xs : List PV) (vs : List V), plainL xs = true → RepL K z G μ xs vs → DpAll K H vs (pdL xs)
  | [], vs, _, h => by
    have h : vs = [] := h
    subst h
    exact .nil
  | x :: xs, vs, hp, h => by
    obtain ⟨v, r, rfl, h2, h3⟩ := h
    simp only [plainL, Bool.and_eq_true] at hp
    exact .cons (dp_of g x v hp.1 h2) (dp_ofL g xs r hp.2 h3)
end
/-- a place of the store that holds a list too -/
theorem dp_deref {S : Store} {p : PV} {v : V} (r : RelS K z S G μ H) (hp : (deref S p).plain = true) (h : Rep K z G μ p v) : Dp K H v (deref S p).pd := by
  cases p with
  | loc l =>
    obtain ⟨a, h1, rfl⟩ := h
    cases e0 : S[l]? with
    | none => simp only [deref, e0] at hp; cases hp
    | some ob =>
      cases ob with
      | lst xs =>
        simp only [deref, e0] at hp ⊢
        obtain ⟨_, vs, h3, h4⟩ := r.at_ l _ a e0 h1
        exact .lst (.inl (.inl h3)) (dp_ofL r.g xs vs hp h4)
      | _ => simp only [deref, e0] at hp; cases hp
  | _ => exact dp_of r.g _ v hp h
end
theorem shaped_of {p : PV} (h : eqOk p = true) : SeqAt.shaped p.pd = true := by
  simp only [eqOk, Bool.and_eq_true, decide_eq_true_eq] at h
  unfold SeqAt.shaped
  rw [pd_can p h.1, pd_depth p h.1, Bool.true_and]
  exact decide_eq_true (Nat.le_trans h.2 (by decide))
section
variable {X : Cx} {z : Kz}
abbrev cop (op : Cop) : PV → PV → Store → Option PV := fun x y S => (cmpop op x y S).map .bl
theorem cop_some {op : Cop} {p q w : PV} {S : Store} (e : cop op p q S = some w) : ∃ b, cmpop op p q S = some b ∧ w = .bl b := by
  obtain ⟨b, h1, h2⟩ := Option.map_eq_some_iff.mp e
  exact ⟨b, h1, h2.symm⟩
theorem op_eq_ok (hu : X.A.units + 64 < cLine) : OpR X (compareOp .Eq) (rOp X.K z (cop .eq)) := by
  intro pins s σ H x y v u Q I rx ry h
  obtain ⟨p, q, S, G, μ, hp, hq, r, w, e, k⟩ := h
  obtain ⟨b, e', hw⟩ := cop_some e
  clear e
  subst hw
  have e := e'
  clear e'
  have e : eqop p q S = some b := by cases p <;> exact e
  unfold eqop at e
  split at e
  · rename_i hl
    rw [Bool.and_eq_true] at hl
    cases e
    have p1 : (deref S p).plain = true := by have := hl.1; simp only [eqOk, Bool.and_eq_true] at this; exact this.1
    have p2 : (deref S q).plain = true := by have := hl.2; simp only [eqOk, Bool.and_eq_true] at this; exact this.1
    refine op_eqD hu pins s σ H x y v u Q I rx ry ⟨_, _, dp_deref r p1 hp, dp_deref r p2 hq, shaped_of hl.1, shaped_of hl.2, ?_⟩
    rw [pd_eqv _ _ p1 p2]
    exact k G μ H _ (Ext.refl ..) r rfl
  · cases e
theorem op_ne_ok (hu : X.A.units + 64 < cLine) : OpR X (compareOp .NotEq) (rOp X.K z (cop .ne)) := by
  intro pins s σ H x y v u Q I rx ry h
  obtain ⟨p, q, S, G, μ, hp, hq, r, w, e, k⟩ := h
  obtain ⟨b, e', hw⟩ := cop_some e
  clear e
  subst hw
  have e := e'
  clear e'
  have e : (eqop p q S).map not = some b := by cases p <;> exact e
  obtain ⟨b', e2, hb⟩ := Option.map_eq_some_iff.mp e
  clear e
  subst hb
  have e := e2
  clear e2
  unfold eqop at e
  split at e
  · rename_i hl
    rw [Bool.and_eq_true] at hl
    cases e
    have p1 : (deref S p).plain = true := by have := hl.1; simp only [eqOk, Bool.and_eq_true] at this; exact this.1
    have p2 : (deref S q).plain = true := by have := hl.2; simp only [eqOk, Bool.and_eq_true] at this; exact this.1
    refine op_neD hu pins s σ H x y v u Q I rx ry ⟨_, _, dp_deref r p1 hp, dp_deref r p2 hq, shaped_of hl.1, shaped_of hl.2, ?_⟩
    rw [pd_eqv _ _ p1 p2]
    exact k G μ H _ (Ext.refl ..) r rfl
  · cases e
theorem op_lt_ok : OpR X (compareOp .Lt) (rOp X.K z (cop .lt)) := by
  intro pins s σ H x y v u Q I rx ry h
  obtain ⟨p, q, S, G, μ, hp, hq, r, w, e, k⟩ := h
  obtain ⟨b, e', hw⟩ := cop_some e
  clear e
  subst hw
  have e := e'
  clear e'
  cases p with
  | int i =>
    cases q with
    | int j => cases e; cases hp; cases hq; exact L2.op_lt pins s σ H _ _ v u Q I rx ry ⟨i, j, rfl, rfl, k G μ H _ (Ext.refl ..) r rfl⟩
    | _ => cases e
  | _ => cases e
theorem op_gt_ok : OpR X (compareOp .Gt) (rOp X.K z (cop .gt)) := by
  intro pins s σ H x y v u Q I rx ry h
  obtain ⟨p, q, S, G, μ, hp, hq, r, w, e, k⟩ := h
  obtain ⟨b, e', hw⟩ := cop_some e
  clear e
  subst hw
  have e := e'
  clear e'
  cases p with
  | int i =>
    cases q with
    | int j => cases e; cases hp; cases hq; exact L2.op_gt pins s σ H _ _ v u Q I rx ry ⟨i, j, rfl, rfl, k G μ H _ (Ext.refl ..) r rfl⟩
    | _ => cases e
  | _ => cases e
theorem op_ge_ok : OpR X (compareOp .GtE) (rOp X.K z (cop .ge)) := by
  intro pins s σ H x y v u Q I rx ry h
  obtain ⟨p, q, S, G, μ, hp, hq, r, w, e, k⟩ := h
  obtain ⟨b, e', hw⟩ := cop_some e
  clear e
  subst hw
  have e := e'
  clear e'
  cases p with
  | int i =>
    cases q with
    | int j => cases e; cases hp; cases hq; exact L2.op_ge pins s σ H _ _ v u Q I rx ry ⟨i, j, rfl, rfl, k G μ H _ (Ext.refl ..) r rfl⟩
    | _ => cases e
  | _ => cases e
theorem op_le_ok : OpR X (compareOp .LtE) (rOp X.K z (cop .le)) := by
  intro pins s σ H x y v u Q I rx ry h
  obtain ⟨p, q, S, G, μ, hp, hq, r, w, e, k⟩ := h
  obtain ⟨b, e', hw⟩ := cop_some e
  clear e
  subst hw
  have e := e'
  clear e'
  cases p with
  | int i =>
    cases q with
    | int j => cases e; cases hp; cases hq; exact L2.op_le pins s σ H _ _ v u Q I rx ry ⟨i, j, rfl, rfl, k G μ H _ (Ext.refl ..) r rfl⟩
    | _ => cases e
  | str i =>
    cases q with
    | str j =>
      cases e
      cases hp
      cases hq
      obtain ⟨t, rfl⟩ := rx
      obtain ⟨t', rfl⟩ := ry
      exact PySem.P.le_str (fin_bl I (k G μ H (.bl _) (Ext.refl ..) r rfl) rfl)
    | _ => cases e
  | _ => cases e
theorem isNon_iff {K : PySem.W.Frag} {G : Hp} {μ : List Addr} {p : PV} {x : V} (h : Rep K z G μ p x) : p.isNon = decide (x = .non) := by
  cases p with
  | non => cases h; rfl
  | bl b => cases h; rfl
  | int b => cases h; rfl
  | str b => cases h; rfl
  | ty b => cases h; rfl
  | tup xs => obtain ⟨a, vs, rfl, _⟩ := h; rfl
  | lst xs => obtain ⟨a, vs, rfl, _⟩ := h; rfl
  | dct xs => obtain ⟨a, vs, rfl, _⟩ := h; rfl
  | loc l => obtain ⟨a, _, rfl⟩ := h; rfl
  | gl x => exact h.elim
  | clo => obtain ⟨a, _, rfl⟩ := h; rfl
  | exn a b => obtain ⟨a, d, _, rfl, _⟩ := h; rfl
theorem op_is_ok : OpR X (compareOp .Is) (rOp X.K z (cop .is_)) := by
  intro pins s σ H x y v u Q I rx ry h
  obtain ⟨p, q, S, G, μ, hp, hq, r, w, e, k⟩ := h
  obtain ⟨b, e', hw⟩ := cop_some e
  clear e
  subst hw
  have e := e'
  clear e'
  cases q with
  | non =>
    have e : some p.isNon = some b := by cases p <;> exact e
    cases e
    cases hq
    refine op_isN pins s σ H _ _ v u Q I rx ry ⟨rfl, ?_⟩
    rw [← isNon_iff hp]
    exact k G μ H _ (Ext.refl ..) r rfl
  | bl c =>
    cases p with
    | bl a =>
      cases e
      cases hp
      cases hq
      cases rx
      cases ry
      exact is_bool (fin_bl I (k G μ H (.bl _) (Ext.refl ..) r rfl) rfl)
    | _ => cases e
  | _ => cases p <;> cases e
theorem op_isNot_ok : OpR X (compareOp .IsNot) (rOp X.K z (cop .isNot)) := by
  intro pins s σ H x y v u Q I rx ry h
  obtain ⟨p, q, S, G, μ, hp, hq, r, w, e, k⟩ := h
  obtain ⟨b, e', hw⟩ := cop_some e
  clear e
  subst hw
  have e := e'
  clear e'
  cases q with
  | non =>
    have e : some (!p.isNon) = some b := by cases p <;> exact e
    cases e
    cases hq
    refine op_notN pins s σ H _ _ v u Q I rx ry ⟨rfl, ?_⟩
    rw [← isNon_iff hp]
    exact k G μ H _ (Ext.refl ..) r rfl
  | bl c =>
    cases p with
    | bl a =>
      cases e
      cases hp
      cases hq
      cases rx
      cases ry
      exact isnot_bool (fin_bl I (k G μ H (.bl _) (Ext.refl ..) r rfl) rfl)
    | _ => cases e
  | _ => cases p <;> cases e
end
end CW
end

section
set_option Elab.async false
set_option linter.all false
set_option maxRecDepth 100000
set_option maxHeartbeats 2000000
/-! Dicts read, in, subscripts, truth. -/
namespace CW
open PySem PySem.Spec PyProof.Rows L2

/-! ### dicts -/
theorem keq_pk (a b : Key) : (pk a).keq (pk b) = decide (a = b) := by
  cases a with
  | inl i => cases b with
    | inl j => rw [key_ll] <;> rfl
    | inr y => rw [key_lr] <;> rfl
  | inr x => cases b with
    | inl j => rw [key_rl] <;> rfl
    | inr y =>
      show (x == y) = _
      rw [key_rr]
      cases h : (x == y) with
      | true => rw [eq_of_beq h] <;> simp
      | false => exact (decide_eq_false (by simpa using h)).symm
theorem isK1_pk {p : PV} (h : isK1 p = true) : ∃ q, p = pk q := by
  cases p with
  | int i => exact ⟨.inl i, rfl⟩
  | str x => exact ⟨.inr x, rfl⟩
  | _ => cases h
theorem pk_isK1 (q : Key) : isK1 (pk q) = true := by cases q <;> rfl
section
variable {K : PySem.W.Frag} {z : Kz} {S : Store} {G H : Hp} {μ : List Addr}
theorem rep_pk {q : Key} {v : V} (h : Rep K z G μ (pk q) v) : v = kV q := by cases q <;> exact h
theorem rep_kV (q : Key) : Rep K z G μ (pk q) (kV q) := by cases q <;> rfl
theorem RepK.length : ∀ {kvs : List (PV × PV)} {kv : List (Key × V)}, RepK K z G μ kvs kv → kvs.length = kv.length
  | [], kv, h => by
    have h : kv = [] := h
    subst h
    rfl
  | (k, x) :: r, kv, h => by
    obtain ⟨q, v, t, rfl, rfl, h1, h2⟩ := h
    simp only [List.length_cons, RepK.length h2]
theorem RepK.key (h : RepK K z G μ kvs kv) {k : PV} (hk : dOk kvs k = true) : ∃ q, k = pk q := by
  unfold dOk at hk
  rw [Bool.or_eq_true] at hk
  rcases hk with hk | hk
  · exact isK1_pk (Bool.and_eq_true_iff.mp hk).1
  · simp only [Bool.and_eq_true] at hk
    obtain ⟨⟨_, h1⟩, h2⟩ := hk
    cases kvs with
    | nil => cases h1
    | cons p r =>
      obtain ⟨k0, x⟩ := p
      obtain ⟨q, v, t, rfl, rfl, _, _⟩ := h
      simp only [List.all_cons, Bool.and_eq_true] at h2
      have := h2.1
      cases q <;> cases this
theorem RepK.get : ∀ {kvs : List (PV × PV)} {kv : List (Key × V)} (h : RepK K z G μ kvs kv) (q : Key),
    (∃ p v, dget kvs (pk q) = some p ∧ valV kv q = some v ∧ Rep K z G μ p v) ∨ (dget kvs (pk q) = none ∧ valV kv q = none)
  | [], kv, h, q => by
    have h : kv = [] := h
    subst h
    exact .inr ⟨rfl, rfl⟩
  | (k, x) :: r, kv, h, q => by
    obtain ⟨q', v, t, rfl, rfl, h1, h2⟩ := h
    have ih := RepK.get h2 q
    by_cases e : q' = q
    · subst e
      refine .inl ⟨x, v, ?_, valV_pos rfl, h1⟩
      simp only [dget, List.find?_cons, keq_pk, decide_true, Option.map_some]
    · have e1 : dget ((pk q', x) :: r) (pk q) = dget r (pk q) := by
        simp only [dget, List.find?_cons, keq_pk, decide_eq_false e]
      have e2 : valV ((q', v) :: t) q = valV t q := valV_neg (p := (q', v)) e
      rw [e1, e2]
      exact ih
theorem RepK.any {kvs : List (PV × PV)} {kv : List (Key × V)} (h : RepK K z G μ kvs kv) (q : Key) : (kvs.any fun p => p.1.keq (pk q)) = (kv.any fun p => decide (p.1 = q)) := by
  rw [valV_any]
  have : (kvs.any fun p => p.1.keq (pk q)) = (dget kvs (pk q)).isSome := by
    unfold dget
    rw [Option.isSome_map]
    induction kvs with
    | nil => rfl
    | cons p r ih => 
      clear ih h
      generalize p :: r = l
      induction l with
      | nil => rfl
      | cons a l ih =>
        rw [List.any_cons, List.find?_cons]
        cases a.1.keq (pk q) with
        | true => rfl
        | false => simpa using ih
  rw [this]
  rcases h.get q with ⟨p, v, h1, h2, _⟩ | ⟨h1, h2⟩
  · rw [h1, h2] <;> rfl
  · rw [h1, h2] <;> rfl
theorem RepK.repl : ∀ {kvs : List (PV × PV)} {kv : List (Key × V)} (h : RepK K z G μ kvs kv) (q : Key) {p : PV} {v : V}, Rep K z G μ p v →
    RepK K z G μ (kvs.map fun e => if e.1.keq (pk q) then (e.1, p) else e) (kv.map fun e => if e.1 = q then (e.1, v) else e)
  | [], kv, h, q, p, v, hp => by
    have h : kv = [] := h
    subst h
    rfl
  | (k, x) :: r, kv, h, q, p, v, hp => by
    obtain ⟨q', w, t, rfl, rfl, h1, h2⟩ := h
    have ih := RepK.repl h2 q hp
    rw [List.map_cons, List.map_cons]
    by_cases e : q' = q
    · simp only [keq_pk, decide_eq_true e, if_pos, if_pos e]
      exact ⟨q', v, _, rfl, rfl, hp, ih⟩
    · simp only [keq_pk, decide_eq_false e, if_neg e]
      exact ⟨q', w, _, rfl, rfl, h1, ih⟩
theorem RepK.snoc : ∀ {kvs : List (PV × PV)} {kv : List (Key × V)} (h : RepK K z G μ kvs kv) (q : Key) {p : PV} {v : V}, Rep K z G μ p v → RepK K z G μ (kvs ++ [(pk q, p)]) (kv ++ [(q, v)])
  | [], kv, h, q, p, v, hp => by
    have h : kv = [] := h
    subst h
    exact ⟨q, v, [], rfl, rfl, hp, rfl⟩
  | (k, x) :: r, kv, h, q, p, v, hp => by
    obtain ⟨q', w, t, rfl, rfl, h1, h2⟩ := h
    exact ⟨q', w, t ++ [(q, v)], rfl, rfl, h1, RepK.snoc h2 q hp⟩
theorem RepK.put {kvs : List (PV × PV)} {kv : List (Key × V)} (h : RepK K z G μ kvs kv) (q : Key) {p : PV} {v : V} (hp : Rep K z G μ p v) : RepK K z G μ (dput kvs (pk q) p) (putK kv q v) := by
  unfold dput putK
  rw [h.any q]
  split
  · exact h.repl q hp
  · exact h.snoc q hp
theorem getD_of {p : PV} {v : V} {kvs : List (PV × PV)} (r : RelS K z S G μ H) (h : Rep K z G μ p v) (e : getD S p = some kvs) : ∃ a kv, v = .ref a ∧ Rd H a (.dK kv) ∧ RepK K z G μ kvs kv := by
  cases p with
  | dct ys =>
    obtain ⟨a, kv, h1, h2, h3, h4⟩ := h
    have e : some ys = some kvs := e
    cases e
    exact ⟨a, kv, h1, r.g.rd h2, h4⟩
  | loc l =>
    obtain ⟨a, h1, h2⟩ := h
    cases e0 : S[l]? with
    | none => simp only [getD, e0] at e; cases e
    | some ob =>
      cases ob with
      | dct ys =>
        simp only [getD, e0, Option.some.injEq] at e
        subst e
        obtain ⟨_, vs, h3, h4⟩ := r.at_ l _ a e0 h1
        exact ⟨a, vs, h2, .inl h3, h4⟩
      | _ => simp only [getD, e0] at e; cases e
  | _ => cases e
end

/-! ### in -/
section
variable {K : PySem.W.Frag} {z : Kz} {S : Store} {G H : Hp} {μ : List Addr}
theorem flat_of {p : PV} {v : V} (h : Rep K z G μ p v) (f : p.flat = true) : flatV v = true := by
  cases p <;> first | (cases h; rfl) | cases f
theorem eqV_of {p q : PV} {x y : V} (h : Rep K z G μ p x) (h' : Rep K z G μ q y) (f : p.flat = true) (g : q.flat = true) : eqV x y = p.eqv q := by
  have f' := f
  have g' := g
  cases p with
  | non => cases h; cases q <;> first | (cases h'; rfl) | exact absurd g Bool.false_ne_true
  | bl a => cases h; cases q <;> first | (cases h'; rfl) | exact absurd g Bool.false_ne_true
  | int a => cases h; cases q <;> first | (cases h'; rfl) | exact absurd g Bool.false_ne_true
  | str a => cases h; cases q <;> first | (cases h'; rfl) | exact absurd g Bool.false_ne_true
  | _ => exact absurd (show false = true from f) Bool.false_ne_true
theorem flatL_of : ∀ {ps : List PV} {vs : List V}, RepL K z G μ ps vs → ps.all PV.flat = true → vs.all flatV = true
  | [], vs, h, _ => by
    have h : vs = [] := h
    subst h
    rfl
  | p :: ps, vs, h, f => by
    obtain ⟨v, r, rfl, h1, h2⟩ := h
    rw [List.all_cons, Bool.and_eq_true] at f
    rw [List.all_cons, flat_of h1 f.1, flatL_of h2 f.2]
    rfl
theorem inV_of {p : PV} {x : V} (h : Rep K z G μ p x) (f : p.flat = true) : ∀ {ps : List PV} {vs : List V}, RepL K z G μ ps vs → ps.all PV.flat = true → inV x vs = inSeq p ps
  | [], vs, h, _ => by
    have h : vs = [] := h
    subst h
    rfl
  | q :: ps, vs, h', f' => by
    obtain ⟨v, r, rfl, h1, h2⟩ := h'
    rw [List.all_cons, Bool.and_eq_true] at f'
    have ih := inV_of h f h2 f'.2
    show (eqV v x || inV x r) = (q.eqv p || inSeq p ps)
    rw [ih, eqV_of h1 h f'.1 f]
end
section
variable {X : Cx} {z : Kz}
theorem inop_some {p q : PV} {S : Store} {b : Bool} (e : inop p q S = some b) :
    (∃ kvs, getD S q = some kvs ∧ dOk kvs p = true ∧ b = (dget kvs p).isSome) ∨ (∃ xs, getSeq S q = some xs ∧ p.flat = true ∧ xs.all PV.flat = true ∧ b = inSeq p xs) := by
  unfold inop at e
  cases h : getD S q with
  | some kvs =>
    simp only [h] at e
    split at e
    · rename_i hk
      exact .inl ⟨kvs, rfl, hk, (Option.some.inj e).symm⟩
    · cases e
  | none =>
    simp only [h] at e
    cases h2 : getSeq S q with
    | none => simp only [h2] at e; cases e
    | some xs =>
      simp only [h2] at e
      split at e
      · rename_i hk
        rw [Bool.and_eq_true] at hk
        exact .inr ⟨xs, rfl, hk.1, hk.2, (Option.some.inj e).symm⟩
      · cases e
theorem op_in_ok (hu : X.A.units + 64 < cLine) : OpR X (compareOp .In) (rOp X.K z (cop .inn)) := by
  intro pins s σ H x y v u Q I rx ry h
  obtain ⟨p, q, S, G, μ, hp, hq, r, w, e, k⟩ := h
  obtain ⟨b, e', hw⟩ := cop_some e
  subst hw
  have e2 : inop p q S = some b := by cases p <;> exact e'
  rcases inop_some e2 with ⟨kvs, h1, h2, rfl⟩ | ⟨xs, h1, h2, h3, rfl⟩
  · obtain ⟨a, kv, rfl, h4, h5⟩ := getD_of r hq h1
    obtain ⟨c, rfl⟩ := h5.key h2
    have hx := rep_pk hp
    subst hx
    cases ry
    refine d_in (o := valV kv c) (Nat.lt_of_le_of_lt (Nat.add_le_add_left (by decide : 1 ≤ 64) _) hu) I (.inl ⟨kv, c, h4, rfl, rfl⟩) rx fun s' I' => ⟨.bl (valV kv c).isSome, H, I', rfl, ?_⟩
    rcases h5.get c with ⟨p', v', g1, g2, _⟩ | ⟨g1, g2⟩
    · rw [g2]; rw [g1] at k; exact k G μ H _ (Ext.refl ..) r rfl
    · rw [g2]; rw [g1] at k; exact k G μ H _ (Ext.refl ..) r rfl
  · obtain ⟨a, vs, rfl, h4, h5⟩ := getSeq_of r hq h1
    refine op_in_seq pins s σ H x _ v u Q I rx ry ⟨a, vs, rfl, h4, flat_of hp h2, flatL_of h5 h3, ?_⟩
    rw [if_neg Bool.false_ne_true, inV_of hp h2 h5 h3]
    exact k G μ H _ (Ext.refl ..) r rfl
theorem op_notIn_ok (hu : X.A.units + 64 < cLine) : OpR X (compareOp .NotIn) (rOp X.K z (cop .notIn)) := by
  intro pins s σ H x y v u Q I rx ry h
  obtain ⟨p, q, S, G, μ, hp, hq, r, w, e, k⟩ := h
  obtain ⟨b, e', hw⟩ := cop_some e
  subst hw
  have e2 : (inop p q S).map not = some b := by cases p <;> exact e'
  obtain ⟨b', e3, hb⟩ := Option.map_eq_some_iff.mp e2
  subst hb
  rcases inop_some e3 with ⟨kvs, h1, h2, rfl⟩ | ⟨xs, h1, h2, h3, rfl⟩
  · obtain ⟨a, kv, rfl, h4, h5⟩ := getD_of r hq h1
    obtain ⟨c, rfl⟩ := h5.key h2
    have hx := rep_pk hp
    subst hx
    cases ry
    refine d_notIn (o := valV kv c) (Nat.lt_of_le_of_lt (Nat.add_le_add_left (by decide : 1 ≤ 64) _) hu) I (.inl ⟨kv, c, h4, rfl, rfl⟩) rx fun s' I' => ⟨.bl (!(valV kv c).isSome), H, I', rfl, ?_⟩
    rcases h5.get c with ⟨p', v', g1, g2, _⟩ | ⟨g1, g2⟩
    · rw [g2]; rw [g1] at k; exact k G μ H _ (Ext.refl ..) r rfl
    · rw [g2]; rw [g1] at k; exact k G μ H _ (Ext.refl ..) r rfl
  · obtain ⟨a, vs, rfl, h4, h5⟩ := getSeq_of r hq h1
    refine op_notIn_seq pins s σ H x _ v u Q I rx ry ⟨a, vs, rfl, h4, flat_of hp h2, flatL_of h5 h3, ?_⟩
    rw [if_pos rfl, inV_of hp h2 h5 h3]
    exact k G μ H _ (Ext.refl ..) r rfl
def copA : Cop → CmpOp
  | .eq => .Eq | .ne => .NotEq | .lt => .Lt | .le => .LtE | .gt => .Gt | .ge => .GtE | .is_ => .Is | .isNot => .IsNot | .inn => .In | .notIn => .NotIn
theorem op_cmp_ok (hu : X.A.units + 64 < cLine) : ∀ op : Cop, OpR X (compareOp (copA op)) (rOp X.K z (cop op))
  | .eq => op_eq_ok hu
  | .ne => op_ne_ok hu
  | .lt => op_lt_ok
  | .le => op_le_ok
  | .gt => op_gt_ok
  | .ge => op_ge_ok
  | .is_ => op_is_ok
  | .isNot => op_isNot_ok
  | .inn => op_in_ok hu
  | .notIn => op_notIn_ok hu
end

/-! ### subscripts -/
theorem ixN_eq (n : Nat) (i : Int) : CW.ixN n i = L2.ixN n i := rfl
section
variable {X : Cx} {z : Kz}
theorem ix_ok (hu : X.A.units + 64 < cLine) : IxR X (rOp X.K z ixop) := by
  intro value slice pins s σ H x y v u Q I rx ry h hs
  obtain ⟨p, q, S, G, μ, hp, hq, r, w, e, k⟩ := h
  unfold ixop at e
  cases hd : getD S p with
  | some kvs =>
    simp only [hd] at e
    split at e
    · rename_i hk
      obtain ⟨a, kv, rfl, h4, h5⟩ := getD_of r hp hd
      obtain ⟨c, rfl⟩ := h5.key hk
      have hx := rep_pk hq
      subst hx
      cases rx
      rcases h5.get c with ⟨p', v', g1, g2, g3⟩ | ⟨g1, g2⟩
      · rw [e] at g1
        cases g1
        have g : DGet H a (kV c) (some v') := .inl ⟨kv, c, h4, rfl, g2.symm⟩
        have ty := dict_typeIs I g
        refine tail_any (T := "dict") ty (by exact F.slot_dict_getitem.lookup) ?_ hs
        exact d_getItem (Nat.lt_of_le_of_lt (Nat.add_le_add_left (by decide : 1 ≤ 64) _) hu) I g ry fun w' s' I' rw' => ⟨v', H, I', rw', k G μ H _ (Ext.refl ..) r g3⟩
      · rw [e] at g1; cases g1
    · cases e
  | none =>
    simp only [hd] at e
    cases q with
    | int i =>
      cases hq
      have seq : ((getSeq S p).bind fun xs => (CW.ixN xs.length i).bind fun j => xs[j]?) = some w → wpAny (model X.prog X.w) X.A (subscriptTail value slice v u) (EP X pins σ Q) X.xe s := fun e => by
        obtain ⟨xs, e1, e⟩ := Option.bind_eq_some_iff.mp e
        obtain ⟨j, e2, e3⟩ := Option.bind_eq_some_iff.mp e
        obtain ⟨a, vs, rfl, h4, h5⟩ := getSeq_of r hp e1
        obtain ⟨w', hw, hr⟩ := h5.get e3
        have at' : atI vs i = some w' := by
          unfold atI
          rw [← h5.length, ← ixN_eq, e2]
          exact hw
        exact ix_seq value slice pins s σ H _ _ v u Q I rx ry (by
          rcases h4 with h4 | h4
          · exact .inl ⟨a, vs, i, w', rfl, rfl, h4, at', k G μ H _ (Ext.refl ..) r hr⟩
          · exact .inr (.inl ⟨a, vs, i, w', rfl, rfl, h4, at', k G μ H _ (Ext.refl ..) r hr⟩)) hs
      cases p with
      | str x0 =>
        cases hp
        have e : (if decide (x0.length ≤ LINE) = true then (CW.ixN x0.cps.toList.length i).bind fun j => (x0.cps.toList[j]?).map fun c => PV.str ⟨#[c]⟩ else none) = some w := e
        split at e
        · rename_i hl
          obtain ⟨j, e2, e3⟩ := Option.bind_eq_some_iff.mp e
          obtain ⟨c, e4, rfl⟩ := Option.map_eq_some_iff.mp e3
          refine ix_str value slice pins s σ H _ _ v u Q I rx ry ⟨x0, i, c, rfl, rfl, by rw [sizeLine_LINE]; exact of_decide_eq_true hl, ?_, k G μ H _ (Ext.refl ..) r rfl⟩ hs
          unfold atI
          rw [← ixN_eq, e2]
          exact e4
        · cases e
      | tup xs => exact seq e
      | lst xs => exact seq e
      | loc l => exact seq e
      | non => exact seq e
      | bl b => exact seq e
      | int b => exact seq e
      | dct b => exact seq e
      | ty b => exact seq e
      | gl b => exact seq e
      | clo => exact seq e
      | exn a b => exact seq e
    | _ => cases p <;> cases e
end
end CW
end

section
set_option Elab.async false
set_option linter.all false
set_option maxRecDepth 100000
set_option maxHeartbeats 2000000
/-! Tests, and, or, not, chains, subscripts, slices, displays. -/
namespace CW
open PySem PySem.Spec PyProof.Rows L2
theorem Res.bind_assoc {α β γ : Type} (r : Res α) (f : α → Store → Res β) (g : β → Store → Res γ) : (r.bind f).bind g = r.bind fun a S => (f a S).bind g := by cases r <;> rfl

/-- an expression whose test is its value's truth -/
def PlainT (a : Expr) : Prop := ∀ (env : PySem.Env) (whole : Sem Value), isTrue a env whole = (do let v ← whole; standAt a.pos; holding [v] (truthy v))
section
variable {X : Cx} {z : Kz} {W : WX} {pos : Pos} {a b c : Expr} {fa fb fc : Env → Store → Res PV}
theorem truV_of {K : PySem.W.Frag} {S : Store} {G H : Hp} {μ : List Addr} {p : PV} {v : V} {k : Bool} (r : RelS K z S G μ H) (h : Rep K z G μ p v) (e : truth p S = some k) : TruV K v H k := by
  have seq : (getSeq S p).map (fun xs => !xs.isEmpty) = some k → TruV K v H k := fun e => by
    obtain ⟨xs, h1, rfl⟩ := Option.map_eq_some_iff.mp e
    obtain ⟨a, vs, rfl, h2, h3⟩ := getSeq_of r h h1
    have e2 : (!xs.isEmpty) = !vs.isEmpty := by
      have := h3.length
      cases xs <;> cases vs <;> first | rfl | simp at this
    rcases h2 with h2 | h2
    · exact .inl ⟨vs, h2, e2⟩
    · exact .inr (.inl ⟨vs, h2, e2⟩)
  cases p with
  | non => cases h; cases e; exact rfl
  | bl b => cases h; cases e; exact rfl
  | int b => cases h; cases e; exact rfl
  | _ => exact seq e
theorem s_truth (ha : PE X a (TE' X z W fa)) (he : PlainT a) : PT X a (TT' X z W fun ρ S => (fa ρ S).bind fun v S => Res.of (truth v S) S) := by
  refine PT.imp (pt_truth ha (he X.env)) fun σ H Q ⟨ρ, S, G, μ, hE, hS, h⟩ => ?_
  refine ⟨ρ, S, G, μ, hE, hS, h.bind.imp fun p S1 G1 μ1 H1 e1 r1 h1 v hv => ?_⟩
  cases e : truth p S1 with
  | none => rw [e] at h1; exact h1.elim
  | some k =>
    rw [e] at h1
    exact ⟨k, truV_of r1 hv e, h1 G1 μ1 H1 (Ext.refl ..) r1⟩
/-- a comparison's test -/
theorem s_tcmp (op : Cop) (hu : X.A.units + 64 < cLine) (ha : PE X a (TE' X z W fa)) (hb : PE X b (TE' X z W fb)) (hm : behindInMarks (copA op) b = false) :
    PT X (.Compare a [copA op] [b] pos) (TT' X z W fun ρ S => ((fa ρ S).bind fun p S => (fb ρ S).bind fun q S => Res.of ((cmpop op p q S).map .bl) S).bind fun v S => Res.of (truth v S) S) := by
  refine PT.imp (pt_cmpR (op_cmp_ok (z := z) hu op) ha hb hm) fun σ H Q ⟨ρ, S, G, μ, hE, hS, h⟩ => ?_
  dsimp only at h
  rw [Res.bind_assoc] at h
  refine ⟨ρ, S, G, μ, hE, hS, h.bind.imp fun p S1 G1 μ1 H1 e1 r1 h1 x hx => ?_⟩
  rw [Res.bind_assoc] at h1
  refine ⟨ρ, S1, G1, μ1, hE.mono e1, r1, h1.bind.imp fun q S2 G2 μ2 H2 e2 r2 h2 y hy => ?_⟩
  cases e : cmpop op p q S2 with
  | none => rw [e] at h2; exact h2.elim
  | some k =>
    rw [e] at h2
    exact ⟨p, q, S2, G2, μ2, hx.ext e2, hy, r2, .bl k, by show (cmpop op p q S2).map PV.bl = _; rw [e]; rfl, fun G' μ' H' u e3 r3 hu => ⟨k, hu, h2 G' μ' H' e3 r3⟩⟩
/-- a op b op' c -/
theorem t_chain {o1 o2 : Cop} (σ : L2.St) (H : Hp) (Q : VK) (h : TE' X z W (fun ρ S => (fa ρ S).bind fun x S => (fb ρ S).bind fun y S => match cmpop o1 x y S with
      | some true => (fc ρ S).bind fun z S => Res.of ((cmpop o2 y z S).map .bl) S
      | some false => .ok (.bl false) S
      | none => .bad) σ H Q) : tChain (rOp X.K z (cop o1)) (rOp X.K z (cop o2)) (TE' X z W fa) (TE' X z W fb) (TE' X z W fc) σ H Q := by
  obtain ⟨ρ, S, G, μ, hE, hS, h⟩ := h
  refine ⟨ρ, S, G, μ, hE, hS, h.bind.imp fun p S1 G1 μ1 H1 e1 r1 h1 x hx => ?_⟩
  refine ⟨ρ, S1, G1, μ1, hE.mono e1, r1, h1.bind.imp fun q S2 G2 μ2 H2 e2 r2 h2 y hy => ?_⟩
  cases e : cmpop o1 p q S2 with
  | none => simp only [e] at h2; exact h2.elim
  | some k =>
    refine ⟨p, q, S2, G2, μ2, hx.ext e2, hy, r2, .bl k, by show (cmpop o1 p q S2).map PV.bl = _; rw [e]; rfl, fun G3 μ3 H3 u e3 r3 hu => ⟨k, hu, ?_⟩⟩
    cases k with
    | false =>
      simp only [e] at h2
      rw [if_neg Bool.false_ne_true]
      exact h2 G3 μ3 H3 e3 r3 _ rfl
    | true =>
      simp only [e] at h2
      rw [if_pos rfl]
      refine ⟨ρ, S2, G3, μ3, ((hE.mono e1).mono e2).mono e3, r3, (h2.ext e3).bind.imp fun q' S4 G4 μ4 H4 e4 r4 h4 w hw => ?_⟩
      cases e' : cmpop o2 q q' S4 with
      | none => rw [e'] at h4; exact h4.elim
      | some k' =>
        rw [e'] at h4
        exact ⟨q, q', S4, G4, μ4, (hy.ext e3).ext e4, hw, r4, .bl k', by show (cmpop o2 q q' S4).map PV.bl = _; rw [e']; rfl, fun G5 μ5 H5 u e5 r5 hu => h4 G5 μ5 H5 e5 r5 u hu⟩
theorem s_chain (o1 o2 : Cop) (hu : X.A.units + 64 < cLine) (ha : PE X a (TE' X z W fa)) (hb : PE X b (TE' X z W fb)) (hc : PE X c (TE' X z W fc)) (hm : lastMarks [copA o1, copA o2] [b, c] = false) :
    PE X (.Compare a [copA o1, copA o2] [b, c] pos) (TE' X z W fun ρ S => (fa ρ S).bind fun x S => (fb ρ S).bind fun y S => match cmpop o1 x y S with
      | some true => (fc ρ S).bind fun z S => Res.of ((cmpop o2 y z S).map .bl) S
      | some false => .ok (.bl false) S
      | none => .bad) := PE.imp (pe_chain (op_cmp_ok (z := z) hu o1) (op_cmp_ok (z := z) hu o2) ha hb hc hm) t_chain
/-- a op1 b op2 c op3 d -/
def tChain3 (r r' r'' : R2) (ta tb tc td : TE) : TE := fun σ H Q => ta σ H fun x H1 => tb σ H1 fun y H2 => r x y H2 fun z H3 => ∃ k, z = .bl k ∧
  (if k = true then tc σ H3 fun w H4 => r' y w H4 fun z2 H5 => ∃ k2, z2 = .bl k2 ∧ (if k2 = true then td σ H5 fun u H6 => r'' w u H6 Q else Q (.bl false) H5) else Q (.bl false) H3)
theorem pe_chain3 {op op' op'' : CmpOp} {r r' r'' : R2} {d : Expr} {ta tb tc td : TE} (ho : OpR X (compareOp op) r) (ho' : OpR X (compareOp op') r') (ho'' : OpR X (compareOp op'') r'') (ha : PE X a ta) (hb : PE X b tb) (hc : PE X c tc) (hd : PE X d td)
    (hm : lastMarks [op, op', op''] [b, c, d] = false) : PE X (.Compare a [op, op', op''] [b, c, d] pos) (tChain3 r r' r'' ta tb tc td) := by
  refine ⟨fun pins s σ H Q I h => ?_⟩
  refine Compare_chain (thn (ha.run pins s σ H _ I h) fun v s1 ⟨x, H1, I1, r1, q1⟩ => chain_link (thn (hb.run pins s1 σ H1 _ I1 q1) fun u s2 ⟨y, H2, I2, r2, q2⟩ =>
    thn (ho pins s2 σ H2 x y v u _ I2 r1 r2 q2) fun dv s3 ⟨z, H3, I3, r3, k, e, q3⟩ => ?_)) hm
  subst e
  cases r3
  refine wpAny_truthy_bool ?_
  cases k with
  | false => exact ite_ff ⟨.bl false, H3, I3, rfl, q3⟩
  | true =>
    refine ite_tt (chain_link (thn (hc.run pins s3 σ H3 _ I3 q3) fun u' s4 ⟨y', H4, I4, r4, q4⟩ => thn (ho' pins s4 σ H4 y y' u u' _ I4 r2 r4 q4) fun dv' s5 ⟨z', H5, I5, r5, k', e', q5⟩ => ?_))
    subst e'
    cases r5
    refine wpAny_truthy_bool ?_
    cases k' with
    | false => exact ite_ff ⟨.bl false, H5, I5, rfl, q5⟩
    | true => exact ite_tt (chain_last (thn (hd.run pins s5 σ H5 _ I5 q5) fun w' s6 ⟨z'', H6, I6, r6, q6⟩ => ho'' pins s6 σ H6 y' z'' u' w' Q I6 r4 r6 q6))
theorem s_chain3 (o1 o2 o3 : Cop) {d : Expr} {fd : Env → Store → Res PV} (hu : X.A.units + 64 < cLine) (ha : PE X a (TE' X z W fa)) (hb : PE X b (TE' X z W fb)) (hc : PE X c (TE' X z W fc)) (hd : PE X d (TE' X z W fd)) (hm : lastMarks [copA o1, copA o2, copA o3] [b, c, d] = false) :
    PE X (.Compare a [copA o1, copA o2, copA o3] [b, c, d] pos) (TE' X z W fun ρ S => (fa ρ S).bind fun x S => (fb ρ S).bind fun y S => match cmpop o1 x y S with
      | some true => (fc ρ S).bind fun z S => match cmpop o2 y z S with
        | some true => (fd ρ S).bind fun w S => Res.of ((cmpop o3 z w S).map .bl) S
        | some false => .ok (.bl false) S
        | none => .bad
      | some false => .ok (.bl false) S
      | none => .bad) := by
  refine PE.imp (pe_chain3 (op_cmp_ok (z := z) hu o1) (op_cmp_ok (z := z) hu o2) (op_cmp_ok (z := z) hu o3) ha hb hc hd hm) fun σ H Q h => ?_
  obtain ⟨ρ, S, G, μ, hE, hS, h⟩ := h
  refine ⟨ρ, S, G, μ, hE, hS, h.bind.imp fun p S1 G1 μ1 H1 e1 r1 h1 x hx => ?_⟩
  refine ⟨ρ, S1, G1, μ1, hE.mono e1, r1, h1.bind.imp fun q S2 G2 μ2 H2 e2 r2 h2 y hy => ?_⟩
  cases e : cmpop o1 p q S2 with
  | none => simp only [e] at h2; exact h2.elim
  | some k =>
    refine ⟨p, q, S2, G2, μ2, hx.ext e2, hy, r2, .bl k, by show (cmpop o1 p q S2).map PV.bl = _; rw [e]; rfl, fun G3 μ3 H3 u e3 r3 hu => ⟨k, hu, ?_⟩⟩
    cases k with
    | false =>
      simp only [e] at h2
      rw [if_neg Bool.false_ne_true]
      exact h2 G3 μ3 H3 e3 r3 _ rfl
    | true =>
      simp only [e] at h2
      rw [if_pos rfl]
      refine ⟨ρ, S2, G3, μ3, ((hE.mono e1).mono e2).mono e3, r3, (h2.ext e3).bind.imp fun q' S4 G4 μ4 H4 e4 r4 h4 w hw => ?_⟩
      cases e' : cmpop o2 q q' S4 with
      | none => simp only [e'] at h4; exact h4.elim
      | some k' =>
        refine ⟨q, q', S4, G4, μ4, (hy.ext e3).ext e4, hw, r4, .bl k', by show (cmpop o2 q q' S4).map PV.bl = _; rw [e']; rfl, fun G5 μ5 H5 u e5 r5 hu => ⟨k', hu, ?_⟩⟩
        cases k' with
        | false =>
          simp only [e'] at h4
          rw [if_neg Bool.false_ne_true]
          exact h4 G5 μ5 H5 e5 r5 _ rfl
        | true =>
          simp only [e'] at h4
          rw [if_pos rfl]
          refine ⟨ρ, S4, G5, μ5, ((((hE.mono e1).mono e2).mono e3).mono e4).mono e5, r5, (h4.ext e5).bind.imp fun q2 S6 G6 μ6 H6 e6 r6 h6 w2 hw2 => ?_⟩
          cases e'' : cmpop o3 q' q2 S6 with
          | none => rw [e''] at h6; exact h6.elim
          | some k'' =>
            rw [e''] at h6
            exact ⟨q', q2, S6, G6, μ6, (hw.ext e5).ext e6, hw2, r6, .bl k'', by show (cmpop o3 q' q2 S6).map PV.bl = _; rw [e'']; rfl, fun G7 μ7 H7 u e7 r7 hu => h6 G7 μ7 H7 e7 r7 u hu⟩
/-- what is told of a value of a reading: where it is always a bool -/
theorem s_tchain (o1 o2 : Cop) (hu : X.A.units + 64 < cLine) (ha : PE X a (TE' X z W fa)) (hb : PE X b (TE' X z W fb)) (hc : PE X c (TE' X z W fc)) (hm : lastMarks [copA o1, copA o2] [b, c] = false) :
    PT X (.Compare a [copA o1, copA o2] [b, c] pos) (TT' X z W fun ρ S => ((fa ρ S).bind fun x S => (fb ρ S).bind fun y S => match cmpop o1 x y S with
      | some true => (fc ρ S).bind fun z S => Res.of ((cmpop o2 y z S).map .bl) S
      | some false => .ok (.bl false) S
      | none => .bad).bind fun v S => Res.of (truth v S) S) := by
  refine PT.imp (pt_chain (op_cmp_ok (z := z) hu o1) (op_cmp_ok (z := z) hu o2) ha hb hc hm) fun σ H Q ⟨ρ, S, G, μ, hE, hS, h⟩ => ?_
  refine t_chain σ H _ ⟨ρ, S, G, μ, hE, hS, ?_⟩
  dsimp only at h ⊢
  generalize hr : ((fa ρ S).bind fun x S => (fb ρ S).bind fun y S => match cmpop o1 x y S with
      | some true => (fc ρ S).bind fun z S => Res.of ((cmpop o2 y z S).map PV.bl) S
      | some false => Res.ok (PV.bl false) S
      | none => Res.bad) = r at h ⊢
  have isBl : ∀ (v : PV) (S' : Store), r = .ok v S' → ∃ k, v = PV.bl k := fun v S' e => by
    rw [← hr] at e
    cases ea : fa ρ S with
    | bad => rw [ea] at e; cases e
    | exc _ _ => rw [ea] at e; cases e
    | ok x S1 =>
      rw [ea] at e
      simp only [Res.bind_ok] at e
      cases eb : fb ρ S1 with
      | bad => rw [eb] at e; cases e
      | exc _ _ => rw [eb] at e; cases e
      | ok y S2 =>
        rw [eb] at e
        simp only [Res.bind_ok] at e
        cases ec : cmpop o1 x y S2 with
        | none => simp only [ec] at e; cases e
        | some k =>
          cases k with
          | false => simp only [ec] at e; cases e; exact ⟨_, rfl⟩
          | true =>
            simp only [ec] at e
            cases ed : fc ρ S2 with
            | bad => rw [ed] at e; cases e
            | exc _ _ => rw [ed] at e; cases e
            | ok w S3 =>
              rw [ed] at e
              simp only [Res.bind_ok] at e
              cases ee : cmpop o2 y w S3 with
              | none => rw [ee] at e; cases e
              | some k => rw [ee] at e; cases e; exact ⟨_, rfl⟩
  cases r with
  | bad => exact h.elim
  | exc _ _ => exact h
  | ok v S1 =>
    obtain ⟨k, rfl⟩ := isBl v S1 rfl
    exact fun G' μ' H' e r v hv => ⟨k, hv, h G' μ' H' e r⟩

/-! ### not, and, or -/
variable {tA tB : Env → Store → Res Bool}
theorem s_tnot (ha : PT X a (TT' X z W tA)) : PT X (.UnaryOp .Not a pos) (TT' X z W fun ρ S => (tA ρ S).bind fun b S => .ok (!b) S) := by
  refine PT.imp (pt_not ha) fun σ H Q ⟨ρ, S, G, μ, hE, hS, h⟩ => ?_
  exact ⟨ρ, S, G, μ, hE, hS, h.bind.imp fun b S1 G1 μ1 H1 e1 r1 h1 => h1 G1 μ1 H1 (Ext.refl ..) r1⟩
/-- not a, as a value -/
theorem s_not (ha : PE X a (TE' X z W fa)) : PE X (.UnaryOp .Not a pos) (TE' X z W fun ρ S => (fa ρ S).bind fun v S => Res.of ((truth v S).map fun b => .bl (!b)) S) := by
  refine PE.imp (pe_notT ha) fun σ H Q ⟨ρ, S, G, μ, hE, hS, h⟩ => ?_
  refine ⟨ρ, S, G, μ, hE, hS, h.bind.imp fun p S1 G1 μ1 H1 e1 r1 h1 v hv => ?_⟩
  cases e : truth p S1 with
  | none => rw [e] at h1; exact h1.elim
  | some k =>
    rw [e] at h1
    exact ⟨k, truV_of r1 hv e, h1 G1 μ1 H1 (Ext.refl ..) r1 _ rfl⟩
theorem s_neg (ha : PE X a (TE' X z W fa)) : PE X (.UnaryOp .USub a pos) (TE' X z W fun ρ S => (fa ρ S).bind fun v S => Res.of (v.asInt.map fun i => .int (-i)) S) := by
  refine PE.imp (pe_un un_neg ha) fun σ H Q ⟨ρ, S, G, μ, hE, hS, h⟩ => ?_
  refine ⟨ρ, S, G, μ, hE, hS, h.bind.imp fun p S1 G1 μ1 H1 e1 r1 h1 v hv => ?_⟩
  cases p with
  | int i => cases hv; exact ⟨i, rfl, h1 G1 μ1 H1 (Ext.refl ..) r1 _ rfl⟩
  | _ => exact h1.elim
theorem s_one {op : PySem.BoolOp} (ha : PE X a (TE' X z W fa)) : PE X (.BoolOp op [a] pos) (TE' X z W fa) := pe_one ha
/-- a and .., a or .. of bools -/
theorem s_bool (isAnd : Bool) {rest : List Expr} (ha : PE X a (TE' X z W fa)) (hb : PE X (.BoolOp (if isAnd then .And else .Or) (b :: rest) pos) (TE' X z W fb)) :
    PE X (.BoolOp (if isAnd then .And else .Or) (a :: b :: rest) pos) (TE' X z W fun ρ S => (fa ρ S).bind fun v S => match v with
      | .bl k => if k == isAnd then fb ρ S else .ok (.bl k) S
      | _ => .bad) := by
  cases isAnd with
  | true =>
    refine PE.imp (pe_and ha hb) fun σ H Q ⟨ρ, S, G, μ, hE, hS, h⟩ => ?_
    refine ⟨ρ, S, G, μ, hE, hS, h.bind.imp fun p S1 G1 μ1 H1 e1 r1 h1 v hv => ?_⟩
    cases p with
    | bl k =>
      refine ⟨k, hv, ?_⟩
      cases k with
      | true => exact ⟨ρ, S1, G1, μ1, hE.mono e1, r1, h1⟩
      | false => exact h1 G1 μ1 H1 (Ext.refl ..) r1 _ rfl
    | _ => exact h1.elim
  | false =>
    refine PE.imp (pe_or ha hb) fun σ H Q ⟨ρ, S, G, μ, hE, hS, h⟩ => ?_
    refine ⟨ρ, S, G, μ, hE, hS, h.bind.imp fun p S1 G1 μ1 H1 e1 r1 h1 v hv => ?_⟩
    cases p with
    | bl k =>
      refine ⟨k, hv, ?_⟩
      cases k with
      | false => exact ⟨ρ, S1, G1, μ1, hE.mono e1, r1, h1⟩
      | true => exact h1 G1 μ1 H1 (Ext.refl ..) r1 _ rfl
    | _ => exact h1.elim
theorem s_tone (isAnd : Bool) (ha : PT X a (TT' X z W tA)) : PW X (.BoolOp (if isAnd then .And else .Or) [a] pos) (TT' X z W tA) := by
  cases isAnd with
  | true => exact pw_and1 ha
  | false => exact pw_or1 ha
theorem s_tbool (isAnd : Bool) {rest : List Expr} (ha : PT X a (TT' X z W tA)) (hb : PW X (.BoolOp (if isAnd then .And else .Or) (b :: rest) pos) (TT' X z W tB)) :
    PW X (.BoolOp (if isAnd then .And else .Or) (a :: b :: rest) pos) (TT' X z W fun ρ S => (tA ρ S).bind fun k S => if k == isAnd then tB ρ S else .ok k S) := by
  cases isAnd with
  | true =>
    refine PW.imp (pw_and ha hb) fun σ H Q ⟨ρ, S, G, μ, hE, hS, h⟩ => ?_
    refine ⟨ρ, S, G, μ, hE, hS, h.bind.imp fun k S1 G1 μ1 H1 e1 r1 h1 => ?_⟩
    cases k with
    | true => exact ⟨ρ, S1, G1, μ1, hE.mono e1, r1, h1⟩
    | false => exact h1 G1 μ1 H1 (Ext.refl ..) r1
  | false =>
    refine PW.imp (pw_or ha hb) fun σ H Q ⟨ρ, S, G, μ, hE, hS, h⟩ => ?_
    refine ⟨ρ, S, G, μ, hE, hS, h.bind.imp fun k S1 G1 μ1 H1 e1 r1 h1 => ?_⟩
    cases k with
    | false => exact ⟨ρ, S1, G1, μ1, hE.mono e1, r1, h1⟩
    | true => exact h1 G1 μ1 H1 (Ext.refl ..) r1
theorem s_ite (hc : PT X c (TT' X z W tA)) (ha : PE X a (TE' X z W fa)) (hb : PE X b (TE' X z W fb)) : PE X (.IfExp c a b pos) (TE' X z W fun ρ S => (tA ρ S).bind fun k S => if k then fa ρ S else fb ρ S) := by
  refine PE.imp (pe_ifExp hc ha hb) fun σ H Q ⟨ρ, S, G, μ, hE, hS, h⟩ => ?_
  refine ⟨ρ, S, G, μ, hE, hS, h.bind.imp fun k S1 G1 μ1 H1 e1 r1 h1 => ?_⟩
  cases k with
  | true => exact ⟨ρ, S1, G1, μ1, hE.mono e1, r1, h1⟩
  | false => exact ⟨ρ, S1, G1, μ1, hE.mono e1, r1, h1⟩

/-! ### subscripts, slices, displays -/
theorem s_idx (hu : X.A.units + 64 < cLine) (ha : PE X a (TE' X z W fa)) (hb : PE X b (TE' X z W fb)) (hs : PlainIx b) :
    PE X (.Subscript a b pos) (TE' X z W fun ρ S => (fa ρ S).bind fun p S => (fb ρ S).bind fun q S => Res.of (ixop p q S) S) := PE.imp (pe_ix (ix_ok hu) ha hb hs) t_rOp
abbrev TO' (X : Cx) (z : Kz) (W : WX) (f : Env → Store → Res (Option Int)) : TO := fun σ H Q =>
  ∃ ρ S G μ, RelE X.K z ρ σ G μ ∧ RelS X.K z S G μ H ∧ Post X.K X.mg z W σ G μ H (f ρ S) fun o S' G' μ' H' => Q o H'
theorem s_onone : PO X none (TO' X z W fun _ S => .ok none S) := ⟨fun pins s σ H Q I ⟨ρ, S, G, μ, hE, hS, h⟩ => po_none.run pins s σ H Q I (h G μ H (Ext.refl ..) hS)⟩
theorem s_osome (ha : PE X a (TE' X z W fa)) : PO X (some a) (TO' X z W fun ρ S => (fa ρ S).bind fun v S => Res.of (v.asInt.map some) S) := by
  refine ⟨fun pins s σ H Q I ⟨ρ, S, G, μ, hE, hS, h⟩ => (po_some ha).run pins s σ H Q I ?_⟩
  refine ⟨ρ, S, G, μ, hE, hS, h.bind.imp fun p S1 G1 μ1 H1 e1 r1 h1 v hv => ?_⟩
  cases p with
  | int i => cases hv; exact ⟨i, rfl, h1 G1 μ1 H1 (Ext.refl ..) r1⟩
  | _ => exact h1.elim
theorem slIx_eq (n d : Nat) (o : Option Int) : slIx n d o = HT.sIx n d o := by cases o <;> rfl
theorem cut_len {α : Type} (xs : List α) (lo hi : Option Int) : (cut xs lo hi).length ≤ xs.length := by
  unfold cut
  rw [List.length_take, List.length_drop]
  omega
theorem RepL.cut {K : PySem.W.Frag} {G : Hp} {μ : List Addr} {xs : List PV} {vs : List V} (h : RepL K z G μ xs vs) (lo hi : Option Int) : RepL K z G μ (CW.cut xs lo hi) (cutV vs lo hi) := by
  unfold CW.cut cutV
  rw [slIx_eq, slIx_eq, h.length]
  exact (h.drop _).take _
theorem cut_all {α : Type} {xs : List α} {lo hi : Option Int} (h : HT.sIx xs.length 0 lo = 0 ∧ HT.sIx xs.length xs.length hi = xs.length) : cut xs lo hi = xs := by
  unfold cut
  rw [slIx_eq, slIx_eq, h.1, h.2]
  simp
def rSl (K : PySem.W.Frag) (z : Kz) : V → Option Int → Option Int → Hp → VK → Prop := fun x lo hi H Q =>
  ∃ p S G μ, Rep K z G μ p x ∧ RelS K z S G μ H ∧ ∃ v, slop p lo hi S = some v ∧ ∀ G' μ' H' u, Ext G μ H G' μ' H' → RelS K z S G' μ' H' → Rep K z G' μ' v u → Q u H'
theorem sl_ok : SlR X (rSl X.K z) := by
  intro pins s σ H x v vl vu lo hi sl Q I rx hs pl pu ⟨p, S, G, μ, hp, r, w, e, k⟩
  have viaL : (getL S p).map (fun xs => PV.lst (CW.cut xs lo hi)) = some w → ∃ T id, typeLookup (.type T) "__getitem__" = pure (some (.builtin id)) ∧ s.TypeIs v T ∧ wpAny (model X.prog X.w) X.A (getItem v (.ref sl)) (EP X pins σ Q) X.xe s := fun e => by
    obtain ⟨xs, h1, rfl⟩ := Option.map_eq_some_iff.mp e
    obtain ⟨a, vs, rfl, h2, h3⟩ := getL_of r hp h1
    refine sl_list pins s σ H _ v vl vu lo hi sl Q I rx hs pl pu ⟨a, vs, rfl, .inl h2, fun p np => mk_lst r ?_ (h3.cut lo hi) k p np⟩
    exact Nat.le_trans (cutV_length vs lo hi) (by rw [← sizeLine_LINE]; exact (Inv.lstR I h2).1)
  cases p with
  | tup xs =>
    cases e
    obtain ⟨a, vs, rfl, h2, h3, h4⟩ := id hp
    have hl := h4.length
    refine sl_tupA pins s σ H _ v vl vu lo hi sl Q I rx hs pl pu ⟨a, vs, rfl, r.g.sqT h2, fun hw => ?_, fun _ p np => mk_tup r (Nat.le_trans (cutV_length vs lo hi) h3) (h4.cut lo hi) k p np⟩
    rw [← hl] at hw
    rw [cut_all hw] at k
    exact k G μ H _ (Ext.refl ..) r hp
  | _ => exact viaL e
theorem s_slice {lo hi : Option Expr} {fl fh : Env → Store → Res (Option Int)} {p2 : Pos} (ha : PE X a (TE' X z W fa)) (hl : PO X lo (TO' X z W fl)) (hh : PO X hi (TO' X z W fh)) :
    PE X (.Subscript a (.Slice lo hi none p2) pos) (TE' X z W fun ρ S => (fa ρ S).bind fun x S => (fl ρ S).bind fun l S => (fh ρ S).bind fun h S => Res.of (slop x l h S) S) := by
  refine PE.imp (pe_slice (sl_ok (z := z)) ha hl hh) fun σ H Q ⟨ρ, S, G, μ, hE, hS, h⟩ => ?_
  refine ⟨ρ, S, G, μ, hE, hS, h.bind.imp fun p S1 G1 μ1 H1 e1 r1 h1 v hv => ?_⟩
  refine ⟨ρ, S1, G1, μ1, hE.mono e1, r1, h1.bind.imp fun l S2 G2 μ2 H2 e2 r2 h2 => ?_⟩
  refine ⟨ρ, S2, G2, μ2, (hE.mono e1).mono e2, r2, h2.bind.imp fun u S3 G3 μ3 H3 e3 r3 h3 => ?_⟩
  refine ⟨p, S3, G3, μ3, (hv.ext e2).ext e3, r3, ?_⟩
  cases e : slop p l u S3 with
  | none => rw [e] at h3; exact h3.elim
  | some w =>
    rw [e] at h3
    exact ⟨w, rfl, fun G' μ' H' q e r hq => h3 G' μ' H' e r q hq⟩
variable {es : List Expr} {fs : Env → Store → Res (List PV)}
/-- what a list of arguments hands on is as long as it -/
def Len (fs : Env → Store → Res (List PV)) (n : Nat) : Prop := ∀ ρ S vs S', fs ρ S = .ok vs S' → vs.length = n
theorem s_tup {x1 : Nat} (hs : PA X es (TA' X z W fs)) {n : Nat} (hl : Len fs n) (hn : n ≤ LINE) : PE X (.Tuple es x1 pos) (TE' X z W fun ρ S => (fs ρ S).bind fun vs S => .ok (.tup vs) S) := by
  refine PE.imp (pe_tup hs) fun σ H Q ⟨ρ, S, G, μ, hE, hS, h⟩ => ?_
  refine ⟨ρ, S, G, μ, hE, hS, Post.imp' h.bind ?_⟩
  intro ps S1 er G1 μ1 H1 e1 r1 h1 vs hv
  have l1 := hv.length
  have l2 := hl ρ S ps S1 er
  refine ⟨by rw [sizeLine_LINE]; omega, fun p np => mk_tup r1 (by omega) hv (fun G' μ' H' u e r hu => h1 G' μ' H' e r u hu) p np⟩
end
end CW
end

section
set_option Elab.async false
set_option linter.all false
set_option maxRecDepth 100000
set_option maxHeartbeats 2000000
/-! Displays, built-in functions. -/
namespace CW
open PySem PySem.Spec PyProof.Rows L2

/-- a value just made is laid (mutable) or still, and asked for -/
def Laid (K : PySem.W.Frag) (z : Kz) (m : Bool) (v : PV) (S : Store) (G : Hp) (μ : List Addr) (H : Hp) (Q : VK) : Prop := match laid m v S with
  | .ok p S' => ∀ G' μ' H' u, Ext G μ H G' μ' H' → RelS K z S' G' μ' H' → Rep K z G' μ' p u → Q u H'
  | _ => False
theorem laid_noexc {m : Bool} {v : PV} {S S' : Store} {c : Exn} : laid m v S ≠ .exc c S' := by
  cases m <;> cases v <;> exact fun h => by cases h
theorem laid_of {K : PySem.W.Frag} {mg : Str → Option Value} {z : Kz} {W : WX} {σ : L2.St} {m : Bool} {v : PV} {S : Store} {G H : Hp} {μ : List Addr} {Q : VK}
    (h : Post K mg z W σ G μ H (laid m v S) fun p S' G' μ' H' => ∀ u, Rep K z G' μ' p u → Q u H') : Laid K z m v S G μ H Q := by
  unfold Laid
  cases e : laid m v S with
  | ok p S' => rw [e] at h; exact fun G' μ' H' u e r hu => h G' μ' H' e r u hu
  | exc c S' => exact absurd e laid_noexc
  | bad => rw [e] at h; exact h
section
variable {K : PySem.W.Frag} {z : Kz} {S : Store} {G H : Hp} {μ : List Addr} {m : Bool} {Q : VK}
theorem mk_laidL {xs : List PV} {vs : List V} (r : RelS K z S G μ H) (hl : vs.length ≤ LINE) (hx : RepL K z G μ xs vs) (h : Laid K z m (.lst xs) S G μ H Q) (p : Addr) (np : H p = none) : Q (.ref p) (upd H p (.lst vs)) := by
  cases m with
  | false => exact mk_lst r hl hx h p np
  | true =>
    obtain ⟨r', e'⟩ := r.grown np (.lst vs) (.lst xs) fun G' μ' H' s m g hh => ⟨g, vs, hh, hx.mono s m⟩
    exact h _ _ _ _ e' r' ⟨p, by rw [← r.len]; simp, rfl⟩
theorem mk_laidD {xs : List (PV × PV)} {vs : List (Key × V)} (r : RelS K z S G μ H) (hl : vs.length ≤ LINE) (hx : RepK K z G μ xs vs) (h : Laid K z m (.dct xs) S G μ H Q) (p : Addr) (np : H p = none) : Q (.ref p) (upd H p (.dK vs)) := by
  cases m with
  | false =>
    obtain ⟨r', e'⟩ := r.still np (.dK vs)
    exact h _ _ _ _ e' r' ⟨p, vs, rfl, .inl upd_same, hl, hx.mono e'.g e'.m⟩
  | true =>
    obtain ⟨r', e'⟩ := r.grown np (.dK vs) (.dct xs) fun G' μ' H' s m g hh => ⟨g, vs, hh, hx.mono s m⟩
    exact h _ _ _ _ e' r' ⟨p, by rw [← r.len]; simp, rfl⟩
/-- a value that is no new list or dict -/
theorem laid_plain {v : PV} {u : V} (r : RelS K z S G μ H) (hv : ∀ xs, v ≠ .lst xs) (hd : ∀ xs, v ≠ .dct xs) (h : Laid K z m v S G μ H Q) (hu : Rep K z G μ v u) : Q u H := by
  cases m with
  | false => exact h G μ H u (Ext.refl ..) r hu
  | true => cases v <;> first | exact h.elim | exact absurd rfl (hv _) | exact absurd rfl (hd _)
end

section
variable {X : Cx} {z : Kz} {W : WX} {pos : Pos} {es : List Expr} {fs : Env → Store → Res (List PV)}
theorem s_lst (m : Bool) (hs : PA X es (TA' X z W fs)) {n : Nat} (hl : Len fs n) (hn : n ≤ LINE) : PE X (.List es pos) (TE' X z W fun ρ S => (fs ρ S).bind fun vs S => laid m (.lst vs) S) := by
  refine PE.imp (pe_lst hs) fun σ H Q ⟨ρ, S, G, μ, hE, hS, h⟩ => ?_
  refine ⟨ρ, S, G, μ, hE, hS, Post.imp' h.bind ?_⟩
  intro ps S1 er G1 μ1 H1 e1 r1 h1 vs hv
  have l1 := hv.length
  have l2 := hl ρ S ps S1 er
  exact ⟨by rw [sizeLine_LINE]; omega, fun p np => mk_laidL r1 (by omega) hv (laid_of h1) p np⟩
/-- the reading of a built-in function -/
def rBi (K : PySem.W.Frag) (z : Kz) (m : Bool) (f : Bi) : List V → Hp → VK → Prop := fun xs H Q =>
  ∃ ps S G μ, RepL K z G μ ps xs ∧ RelS K z S G μ H ∧ ∃ v, bi f ps S = some v ∧ Laid K z m v S G μ H Q
theorem t_bi {t : List V → Hp → VK → Prop} {f : Bi} (m : Bool) (hr : ∀ xs H Q, rBi X.K z m f xs H Q → t xs H Q) (σ : L2.St) (H : Hp) (Q : VK)
    (h : TE' X z W (fun ρ S => (fs ρ S).bind fun vs S => (Res.of (bi f vs S) S).bind fun v S => laid m v S) σ H Q) : tCB t (TA' X z W fs) σ H Q := by
  obtain ⟨ρ, S, G, μ, hE, hS, h⟩ := h
  refine ⟨ρ, S, G, μ, hE, hS, h.bind.imp fun ps S1 G1 μ1 H1 e1 r1 h1 vs hv => hr _ _ _ ⟨ps, S1, G1, μ1, hv, r1, ?_⟩⟩
  cases e : bi f ps S1 with
  | none => rw [e] at h1; exact h1.elim
  | some v => rw [e] at h1; exact ⟨v, rfl, laid_of h1⟩

/-! ### lists of ints, bools, pairs -/
theorem allOf_ints {K : PySem.W.Frag} {G : Hp} {μ : List Addr} : ∀ {xs : List PV} {vs : List V} {ns : List Int}, RepL K z G μ xs vs → allOf PV.asInt xs = some ns → vs = ns.map V.int
  | [], vs, ns, h, e => by
    have h : vs = [] := h
    subst h
    cases e
    rfl
  | x :: xs, vs, ns, h, e => by
    obtain ⟨v, r, rfl, h1, h2⟩ := h
    obtain ⟨i, e1, e2⟩ := Option.bind_eq_some_iff.mp e
    obtain ⟨ms, e3, rfl⟩ := Option.map_eq_some_iff.mp e2
    have ih := allOf_ints h2 e3
    cases x with
    | int j => cases e1; cases h1; rw [ih]; rfl
    | _ => cases e1
theorem allOf_bls {K : PySem.W.Frag} {G : Hp} {μ : List Addr} : ∀ {xs : List PV} {vs : List V} {ns : List Bool}, RepL K z G μ xs vs → allOf PV.asBl xs = some ns → vs = ns.map V.bl
  | [], vs, ns, h, e => by
    have h : vs = [] := h
    subst h
    cases e
    rfl
  | x :: xs, vs, ns, h, e => by
    obtain ⟨v, r, rfl, h1, h2⟩ := h
    obtain ⟨i, e1, e2⟩ := Option.bind_eq_some_iff.mp e
    obtain ⟨ms, e3, rfl⟩ := Option.map_eq_some_iff.mp e2
    have ih := allOf_bls h2 e3
    cases x with
    | bl j => cases e1; cases h1; rw [ih]; rfl
    | _ => cases e1
theorem rep_ints {K : PySem.W.Frag} {G : Hp} {μ : List Addr} : ∀ ns : List Int, RepL K z G μ (ns.map .int) (ns.map V.int)
  | [] => rfl
  | n :: ns => ⟨_, _, rfl, rfl, rep_ints ns⟩
theorem insI_perm (x : Int) : ∀ l : List Int, (insI x l).Perm (x :: l)
  | [] => List.Perm.refl _
  | y :: r => by
    unfold insI
    split
    · exact List.Perm.refl _
    · exact ((insI_perm x r).cons y).trans (List.Perm.swap x y r)
theorem sortI_perm : ∀ l : List Int, (sortI l).Perm l
  | [] => List.Perm.refl _
  | x :: r => (insI_perm x _).trans ((sortI_perm r).cons x)
theorem insI_sorted (x : Int) : ∀ l : List Int, l.Pairwise (· ≤ ·) → (insI x l).Pairwise (· ≤ ·)
  | [], _ => by simp [insI]
  | y :: r, h => by
    obtain ⟨h1, h2⟩ := List.pairwise_cons.mp h
    unfold insI
    split
    · rename_i hx
      exact List.pairwise_cons.mpr ⟨fun z hz => by
        rcases List.mem_cons.mp hz with rfl | hz
        · exact hx
        · exact Int.le_trans hx (h1 z hz), h⟩
    · rename_i hx
      refine List.pairwise_cons.mpr ⟨fun z hz => ?_, insI_sorted x r h2⟩
      rcases List.mem_cons.mp ((insI_perm x r).mem_iff.mp hz) with rfl | hz
      · omega
      · exact h1 z hz
theorem sortI_sorted : ∀ l : List Int, (sortI l).Pairwise (· ≤ ·)
  | [] => List.Pairwise.nil
  | x :: r => insI_sorted x _ (sortI_sorted r)
theorem sorted_uniq : ∀ {l m : List Int}, l.Perm m → l.Pairwise (· ≤ ·) → m.Pairwise (· ≤ ·) → l = m
  | [], m, h, _, _ => (List.Perm.eq_nil h.symm).symm
  | x :: l, [], h, _, _ => absurd h.length_eq (by simp)
  | x :: l, y :: m, h, hl, hm => by
    obtain ⟨h1, h2⟩ := List.pairwise_cons.mp hl
    obtain ⟨h3, h4⟩ := List.pairwise_cons.mp hm
    have a : x ≤ y := by
      rcases List.mem_cons.mp (h.mem_iff.mpr List.mem_cons_self) with e | e
      · rw [e]; exact Int.le_refl _
      · exact h1 y e
    have b : y ≤ x := by
      rcases List.mem_cons.mp (h.mem_iff.mp List.mem_cons_self) with e | e
      · rw [e]; exact Int.le_refl _
      · exact h3 x e
    have e : x = y := Int.le_antisymm a b
    subst e
    rw [sorted_uniq h.cons_inv h2 h4]
theorem sortI_of {l ns : List Int} (h : l.Perm ns) (hs : l.Pairwise (· ≤ ·)) : l = sortI ns := sorted_uniq (h.trans (sortI_perm ns).symm) hs (sortI_sorted ns)
theorem insP_perm (x : Int × Int) : ∀ l : List (Int × Int), (insP x l).Perm (x :: l)
  | [] => List.Perm.refl _
  | y :: r => by
    unfold insP
    split
    · exact List.Perm.refl _
    · exact ((insP_perm x r).cons y).trans (List.Perm.swap x y r)
theorem sortP_perm : ∀ l : List (Int × Int), (sortP l).Perm l
  | [] => List.Perm.refl _
  | x :: r => (insP_perm x _).trans ((sortP_perm r).cons x)
def LeP (a b : Int × Int) : Prop := a.1 < b.1 ∨ (a.1 = b.1 ∧ a.2 ≤ b.2)
theorem leP_iff {a b : Int × Int} : leP a b = true ↔ LeP a b := by
  unfold leP LeP
  simp
theorem insP_sorted (x : Int × Int) : ∀ l : List (Int × Int), l.Pairwise LeP → (insP x l).Pairwise LeP
  | [], _ => by simp [insP]
  | y :: r, h => by
    obtain ⟨h1, h2⟩ := List.pairwise_cons.mp h
    unfold insP
    split
    · rename_i hx
      have hx := leP_iff.mp hx
      exact List.pairwise_cons.mpr ⟨fun z hz => by
        rcases List.mem_cons.mp hz with rfl | hz
        · exact hx
        · have := h1 z hz
          unfold LeP at *
          omega, h⟩
    · rename_i hx
      have hx : ¬ LeP x y := fun q => hx (leP_iff.mpr q)
      refine List.pairwise_cons.mpr ⟨fun z hz => ?_, insP_sorted x r h2⟩
      rcases List.mem_cons.mp ((insP_perm x r).mem_iff.mp hz) with rfl | hz
      · unfold LeP at *
        omega
      · exact h1 z hz
theorem sortP_sorted : ∀ l : List (Int × Int), (sortP l).Pairwise LeP
  | [] => List.Pairwise.nil
  | x :: r => insP_sorted x _ (sortP_sorted r)
theorem sortedP_uniq : ∀ {l m : List (Int × Int)}, l.Perm m → l.Pairwise LeP → m.Pairwise LeP → l = m
  | [], m, h, _, _ => (List.Perm.eq_nil h.symm).symm
  | x :: l, [], h, _, _ => absurd h.length_eq (by simp)
  | x :: l, y :: m, h, hl, hm => by
    obtain ⟨h1, h2⟩ := List.pairwise_cons.mp hl
    obtain ⟨h3, h4⟩ := List.pairwise_cons.mp hm
    have a : LeP x y := by
      rcases List.mem_cons.mp (h.mem_iff.mpr List.mem_cons_self) with e | e
      · rw [e]; exact .inr ⟨rfl, Int.le_refl _⟩
      · exact h1 y e
    have b : LeP y x := by
      rcases List.mem_cons.mp (h.mem_iff.mp List.mem_cons_self) with e | e
      · rw [e]; exact .inr ⟨rfl, Int.le_refl _⟩
      · exact h3 x e
    have e : x = y := by
      unfold LeP at a b
      apply Prod.ext <;> omega
    subst e
    rw [sortedP_uniq h.cons_inv h2 h4]
theorem sortP_of {l ns : List (Int × Int)} (h : l.Perm ns) (hs : l.Pairwise LeP) : l = sortP ns := sortedP_uniq (h.trans (sortP_perm ns).symm) hs (sortP_sorted ns)
/-- the pair that stands in a heap -/
def heapPair (h : Heap) : Value → Int × Int
  | .ref t => match h.get? t with
    | some ⟨_, _, .seq its _, _⟩ => match its.toList with
      | [.int x _, .int y _] => (x, y)
      | _ => (0, 0)
    | _ => (0, 0)
  | _ => (0, 0)
theorem pairs_of {pins : List (Addr × Obj)} {σ : L2.St} {G H : Hp} {μ : List Addr} {s : Shared} (I : Inv X pins σ H s) (g : Sub G H) : ∀ {xs : List PV} {vs : List V} {us : List Value} {ps : List (Int × Int)}, RepL X.K z G μ xs vs → Vals vs us → allOf PV.asPair xs = some ps →
    us.map (heapPair s.heap) = ps ∧ (∀ u ∈ us, Srt.IsPair s.heap u (heapPair s.heap u).1 (heapPair s.heap u).2 ∧ Rep X.K z G μ (PV.pair (heapPair s.heap u)) (backV u) ∧ ∃ a, u = .ref a)
  | [], vs, us, ps, h, r, e => by
    have h : vs = [] := h
    subst h
    cases r
    cases e
    exact ⟨rfl, fun u hu => absurd hu (by simp)⟩
  | x :: xs, vs, us, ps, h, r, e => by
    obtain ⟨v, t, rfl, h1, h2⟩ := h
    obtain ⟨p, e1, e2⟩ := Option.bind_eq_some_iff.mp e
    obtain ⟨ms, e3, rfl⟩ := Option.map_eq_some_iff.mp e2
    cases r with
    | cons r1 r2 =>
      rename_i u us'
      obtain ⟨i1, i2⟩ := pairs_of I g h2 r2 e3
      have hx : ∃ i j, x = .tup [.int i, .int j] ∧ p = (i, j) := by
        unfold PV.asPair at e1
        split at e1
        · cases e1; exact ⟨_, _, rfl, rfl⟩
        · cases e1
      obtain ⟨i, j, rfl, rfl⟩ := hx
      obtain ⟨a, ws, rfl, h3, _, h5⟩ := id h1
      obtain ⟨w1, t1, rfl, q1, h6⟩ := h5
      obtain ⟨w2, t2, rfl, q2, h7⟩ := h6
      have h7 : t2 = [] := h7
      subst h7
      cases q1
      cases q2
      cases r1
      obtain ⟨its, rv, ⟨o, ho, hc, n, hd⟩, _⟩ := I.tuple (g.sqT h3)
      obtain ⟨u1, u2, rfl, ri, rj⟩ := vals2 rv
      obtain ⟨k1, rfl⟩ := ri
      obtain ⟨k2, rfl⟩ := rj
      have hp : heapPair s.heap (.ref a) = (i, j) := by
        obtain ⟨oc, od, dt, osl⟩ := o
        have hd : dt = .seq #[.int i k1, .int j k2] n := hd
        subst hd
        simp only [heapPair, ho]
      refine ⟨by rw [List.map_cons, hp, i1], fun u hu => ?_⟩
      rcases List.mem_cons.mp hu with rfl | hu
      · rw [hp]
        exact ⟨⟨a, o, k1, k2, n, rfl, ho, hc, hd⟩, h1, a, rfl⟩
      · exact i2 u hu
theorem rep_pairs {K : PySem.W.Frag} {G : Hp} {μ : List Addr} {f : Value → Int × Int} : ∀ {us : List Value}, (∀ u ∈ us, Rep K z G μ (PV.pair (f u)) (backV u)) → RepL K z G μ ((us.map f).map PV.pair) (us.map backV)
  | [], _ => rfl
  | u :: us, h => ⟨_, _, rfl, h u List.mem_cons_self, rep_pairs fun w hw => h w (List.mem_cons_of_mem _ hw)⟩

def biV : Bi → Value
  | .len => .builtin "len" | .abs => .builtin "abs" | .int1 => .type "int" | .all => .builtin "all" | .any => .builtin "any" | .sum => .builtin "sum" | .list1 => .type "list" | .tuple1 => .type "tuple"
  | .dict1 => .type "dict" | .sorted1 => .builtin "sorted" | .bool1 => .type "bool"
theorem bi_one {f : Bi} {ps : List PV} {S : Store} {v : PV} (h : bi f ps S = some v) : ∃ p, ps = [p] := by
  cases ps with
  | nil => cases f <;> cases h
  | cons p r =>
    cases r with
    | nil => exact ⟨p, rfl⟩
    | cons q r => cases f <;> cases p <;> cases h
theorem repL1 {K : PySem.W.Frag} {G : Hp} {μ : List Addr} {p : PV} {xs : List V} (h : RepL K z G μ [p] xs) : ∃ x, xs = [x] ∧ Rep K z G μ p x := by
  obtain ⟨v, r, rfl, h1, h2⟩ := h
  have h2 : r = [] := h2
  subst h2
  exact ⟨v, rfl, h1⟩
theorem bi_len (m : Bool) : CallR X (.builtin "len") (rBi X.K z m .len) := by
  intro pins s σ H xs us Q I rus ⟨ps, S, G, μ, hp, r, v, e, k⟩
  obtain ⟨p, rfl⟩ := bi_one e
  obtain ⟨x, rfl, hx⟩ := repL1 hp
  have go : ((match getD S p with | some kvs => some (PV.int kvs.length) | none => (getSeq S p).map fun xs => PV.int xs.length) = some v) → wpAny (model X.prog X.w) X.A (call (.builtin "len") us) (EP X pins σ Q) X.xe s := fun e => by
    cases hd : getD S p with
    | some kvs =>
      simp only [hd] at e
      cases e
      obtain ⟨a, kv, rfl, h1, h2⟩ := getD_of r hx hd
      obtain ⟨u, rfl, ru⟩ := vals1 rus
      cases ru
      refine d_len I h1 fun t s' I' => ⟨.int kv.length, H, I', ⟨t, rfl⟩, ?_⟩
      rw [← h2.length]
      exact laid_plain r (by intro _ h; cases h) (by intro _ h; cases h) k rfl
    | none =>
      simp only [hd] at e
      obtain ⟨ys, h1, rfl⟩ := Option.map_eq_some_iff.mp e
      obtain ⟨a, vs, rfl, h2, h3⟩ := getSeq_of r hx h1
      refine call_len pins s σ H _ us Q I rus ⟨.ref a, vs.length, rfl, ?_, ?_⟩
      · rcases h2 with h2 | h2
        · exact .inl ⟨vs, h2, rfl⟩
        · exact .inr ⟨vs, h2, rfl⟩
      · rw [← h3.length]
        exact laid_plain r (by intro _ h; cases h) (by intro _ h; cases h) k rfl
  cases p with
  | str x0 =>
    cases hx
    simp only [bi] at e
    split at e
    · rename_i hl
      cases e
      exact call_len pins s σ H _ us Q I rus ⟨.str x0, x0.length, rfl, ⟨by rw [sizeLine_LINE]; exact of_decide_eq_true hl, rfl⟩, laid_plain r (by intro _ h; cases h) (by intro _ h; cases h) k rfl⟩
    · cases e
  | _ => exact go e
theorem bi_abs (m : Bool) : CallR X (.builtin "abs") (rBi X.K z m .abs) := by
  intro pins s σ H xs us Q I rus ⟨ps, S, G, μ, hp, r, v, e, k⟩
  obtain ⟨p, rfl⟩ := bi_one e
  obtain ⟨x, rfl, hx⟩ := repL1 hp
  cases p with
  | int i => cases hx; cases e; exact call_abs pins s σ H _ us Q I rus ⟨i, rfl, laid_plain r (by intro _ h; cases h) (by intro _ h; cases h) k rfl⟩
  | _ => cases e
theorem bi_int1 (m : Bool) : CallR X (.type "int") (rBi X.K z m .int1) := by
  intro pins s σ H xs us Q I rus ⟨ps, S, G, μ, hp, r, v, e, k⟩
  obtain ⟨p, rfl⟩ := bi_one e
  obtain ⟨x, rfl, hx⟩ := repL1 hp
  cases p with
  | int i => cases hx; cases e; exact call_int1 pins s σ H _ us Q I rus (.inl ⟨i, rfl, laid_plain r (by intro _ h; cases h) (by intro _ h; cases h) k rfl⟩)
  | _ => cases e
theorem bi_all (m : Bool) (hc : X.calm = true) : CallR X (.builtin "all") (rBi X.K z m .all) := by
  intro pins s σ H xs us Q I rus ⟨ps, S, G, μ, hp, r, v, e, k⟩
  obtain ⟨p, rfl⟩ := bi_one e
  obtain ⟨x, rfl, hx⟩ := repL1 hp
  obtain ⟨ys, h1, e⟩ := Option.bind_eq_some_iff.mp e
  obtain ⟨bs, h2, rfl⟩ := Option.map_eq_some_iff.mp e
  obtain ⟨a, vs, rfl, h3, h4⟩ := getL_of r hx h1
  have := allOf_bls h4 h2
  subst this
  exact cr_all hc pins s σ H _ us Q I rus ⟨a, bs, rfl, .inl h3, laid_plain r (by intro _ h; cases h) (by intro _ h; cases h) k rfl⟩
theorem bi_any (m : Bool) (hc : X.calm = true) : CallR X (.builtin "any") (rBi X.K z m .any) := by
  intro pins s σ H xs us Q I rus ⟨ps, S, G, μ, hp, r, v, e, k⟩
  obtain ⟨p, rfl⟩ := bi_one e
  obtain ⟨x, rfl, hx⟩ := repL1 hp
  obtain ⟨ys, h1, e⟩ := Option.bind_eq_some_iff.mp e
  obtain ⟨bs, h2, rfl⟩ := Option.map_eq_some_iff.mp e
  obtain ⟨a, vs, rfl, h3, h4⟩ := getL_of r hx h1
  have := allOf_bls h4 h2
  subst this
  exact cr_any hc pins s σ H _ us Q I rus ⟨a, bs, rfl, .inl h3, laid_plain r (by intro _ h; cases h) (by intro _ h; cases h) k rfl⟩
theorem bi_sum (m : Bool) (hc : X.calm = true) : CallR X (.builtin "sum") (rBi X.K z m .sum) := by
  intro pins s σ H xs us Q I rus ⟨ps, S, G, μ, hp, r, v, e, k⟩
  obtain ⟨p, rfl⟩ := bi_one e
  obtain ⟨x, rfl, hx⟩ := repL1 hp
  obtain ⟨ys, h1, e⟩ := Option.bind_eq_some_iff.mp e
  obtain ⟨bs, h2, rfl⟩ := Option.map_eq_some_iff.mp e
  obtain ⟨a, vs, rfl, h3, h4⟩ := getL_of r hx h1
  have := allOf_ints h4 h2
  subst this
  exact cr_sum hc pins s σ H _ us Q I rus ⟨a, bs, rfl, .inl h3, laid_plain r (by intro _ h; cases h) (by intro _ h; cases h) k rfl⟩
theorem bi_list1 (m : Bool) : CallR X (.type "list") (rBi X.K z m .list1) := by
  intro pins s σ H xs us Q I rus ⟨ps, S, G, μ, hp, r, v, e, k⟩
  obtain ⟨p, rfl⟩ := bi_one e
  obtain ⟨x, rfl, hx⟩ := repL1 hp
  have e : (getSeq S p).map (fun xs => PV.lst xs) = some v := by cases p <;> exact e
  obtain ⟨ys, h1, rfl⟩ := Option.map_eq_some_iff.mp e
  obtain ⟨a, vs, rfl, h3, h4⟩ := getSeq_of r hx h1
  have hl : vs.length ≤ LINE := by
    rw [← sizeLine_LINE]
    rcases h3 with h3 | h3
    · obtain ⟨_, _, _, h⟩ := I.list h3; exact h
    · obtain ⟨_, _, _, h⟩ := I.tuple h3; exact h
  exact call_list_of pins s σ H _ us Q I rus ⟨a, vs, rfl, h3, fun l nl => mk_laidL r hl h4 k l nl⟩
theorem bi_tuple1 (m : Bool) : CallR X (.type "tuple") (rBi X.K z m .tuple1) := by
  intro pins s σ H xs us Q I rus ⟨ps, S, G, μ, hp, r, v, e, k⟩
  obtain ⟨p, rfl⟩ := bi_one e
  obtain ⟨x, rfl, hx⟩ := repL1 hp
  obtain ⟨u, rfl, ru⟩ := vals1 rus
  have viaL : (getL S p).map (fun xs => PV.tup xs) = some v → wpAny (model X.prog X.w) X.A (call (.type "tuple") [u]) (EP X pins σ Q) X.xe s := fun e => by
    obtain ⟨ys, h1, rfl⟩ := Option.map_eq_some_iff.mp e
    obtain ⟨a, vs, rfl, h3, h4⟩ := getL_of r hx h1
    refine rl_tuple pins s σ H _ u Q I ru (.inl ⟨a, vs, rfl, .inl h3, fun q nq => ?_⟩)
    have hl : vs.length ≤ LINE := by
      rw [← sizeLine_LINE]
      exact (Inv.lstR I h3).1
    cases m with
    | true => exact k.elim
    | false => exact mk_tup r hl h4 k q nq
  cases p with
  | tup ys =>
    cases e
    obtain ⟨a, vs, rfl, h2, h3, h4⟩ := id hx
    refine rl_tuple pins s σ H _ u Q I ru (.inr ⟨a, vs, rfl, r.g.sqT h2, ?_⟩)
    exact laid_plain r (by intro _ h; cases h) (by intro _ h; cases h) k hx
  | _ => exact viaL e
theorem keys_ints {K : PySem.W.Frag} {G : Hp} {μ : List Addr} : ∀ {kvs : List (PV × PV)} {kv : List (Key × V)} {ns : List Int}, RepK K z G μ kvs kv → allOf PV.asInt (kvs.map (·.1)) = some ns → kv.map (·.1) = ns.map Sum.inl
  | [], kv, ns, h, e => by
    have h : kv = [] := h
    subst h
    cases e
    rfl
  | (k, x) :: r, kv, ns, h, e => by
    obtain ⟨q, w, t, rfl, rfl, _, h4⟩ := h
    obtain ⟨i, g1, g2⟩ := Option.bind_eq_some_iff.mp e
    obtain ⟨ms, g3, rfl⟩ := Option.map_eq_some_iff.mp g2
    have e' := keys_ints h4 g3
    cases q with
    | inl j =>
      cases g1
      rw [List.map_cons, List.map_cons, e']
    | inr y => cases g1
theorem bi_sorted1 (m : Bool) (hc : X.calm = true) : CallR X (.builtin "sorted") (rBi X.K z m .sorted1) := by
  intro pins s σ H xs us Q I rus ⟨ps, S, G, μ, hp, r, v, e, k⟩
  obtain ⟨p, rfl⟩ := bi_one e
  obtain ⟨x, rfl, hx⟩ := repL1 hp
  have viaD : ∀ kvs, getD S p = some kvs → ((allOf PV.asInt (kvs.map (·.1))).bind fun ns => if decide (ns.length < 64) then some (PV.lst ((sortI ns).map .int)) else none) = some v → wpAny (model X.prog X.w) X.A (call (.builtin "sorted") us) (EP X pins σ Q) X.xe s := fun kvs hd e => by
    obtain ⟨ns, h1, e⟩ := Option.bind_eq_some_iff.mp e
    split at e
    · rename_i hl
      cases e
      obtain ⟨a, kv, rfl, h2, h3⟩ := getD_of r hx hd
      have hk := keys_ints h3 h1
      refine call_sortedDI hc pins s σ H _ us Q I rus ⟨a, kv, ns, rfl, h2, hk, of_decide_eq_true hl, fun ys p hp hs np => ?_⟩
      rw [sortI_of hp hs]
      refine mk_laidL r ?_ (rep_ints _) k p np
      rw [List.length_map, (sortI_perm ns).length_eq]
      have := of_decide_eq_true hl
      unfold LINE
      omega
    · cases e
  unfold bi at e
  cases hd : getD S p with
  | some kvs =>
    simp only [hd, Option.map_some] at e
    exact viaD kvs hd e
  | none =>
    simp only [hd, Option.map_none] at e
    obtain ⟨ys, h1, e⟩ := Option.bind_eq_some_iff.mp e
    obtain ⟨a, vs, rfl, h3, h4⟩ := getL_of r hx h1
    have hl : vs.length ≤ LINE := by
      rw [← sizeLine_LINE]
      exact (Inv.lstR I h3).1
    cases hi : allOf PV.asInt ys with
    | some ns =>
      simp only [hi] at e
      cases e
      have := allOf_ints h4 hi
      subst this
      refine cr_sortedI pins s σ H _ us Q I rus ⟨a, ns, rfl, .inl h3, fun ns' p hp hs np => ?_⟩
      rw [sortI_of hp hs]
      refine mk_laidL r ?_ (rep_ints _) k p np
      rw [List.length_map, (sortI_perm ns).length_eq]
      rw [List.length_map] at hl
      exact hl
    | none =>
      simp only [hi] at e
      obtain ⟨ps, h5, rfl⟩ := Option.map_eq_some_iff.mp e
      obtain ⟨hz, its, n, rv, hlen, ho⟩ := Inv.lstR I h3
      obtain ⟨u, rfl, ru⟩ := vals1 rus
      cases ru
      obtain ⟨hmap, hall⟩ := pairs_of I r.g h4 rv h5
      refine SrtO.sorted_pairsO (k := heapPair s.heap) (vs := its) ⟨_, ho, rfl, _, rfl⟩ (by rw [← hlen]; exact hz) (fun v hv => (hall v hv).1) fun h' d out hs1 hs2 kp hd hn => ?_
      have hp : (out.map (heapPair s.heap)).Perm ps := by
        rw [← hmap]
        exact hs2.perm.map _
      have hso : (out.map (heapPair s.heap)).Pairwise LeP := by
        rw [List.pairwise_map]
        refine List.Pairwise.imp (fun {a b} h => ?_) hs1
        have := SrtO.lexB_no.mp h
        unfold LeP
        omega
      have hrep : RepL X.K z G μ ((sortP ps).map PV.pair) (out.map backV) := by
        rw [← sortP_of hp hso]
        exact rep_pairs fun u hu => (hall u (hs2.perm.mem_iff.mp hu)).2.1
      have h3' : ∀ u ∈ out, ∃ a, u = Value.ref a := fun u hu => (hall u (hs2.perm.mem_iff.mp hu)).2.2
      obtain ⟨n', hn'⟩ := hn
      have hl2 : (out.map backV).length ≤ LINE := by
        rw [List.length_map, hs2.perm.length_eq, ← hlen]
        exact hl
      exact ⟨.ref d, upd H d (.lst (out.map backV)), I.laid (t' := s.toks) kp hd ⟨by rw [sizeLine_LINE]; exact hl2, out, n', vals_back h3', hn'⟩, rfl, mk_laidL r hl2 hrep k d (I.hok.fresh hd)⟩
end
end CW
end

section
set_option Elab.async false
set_option linter.all false
set_option maxRecDepth 100000
set_option maxHeartbeats 2000000
/-! Methods, isinstance, list(range), dict displays. -/
namespace CW
open PySem PySem.Spec PyProof.Rows L2

/-! ### methods of lists -/
def rMt (K : PySem.W.Frag) (z : Kz) (f : Mt) : V → List V → Hp → VK → Prop := fun x xs H Q =>
  ∃ p ps S G μ, Rep K z G μ p x ∧ RepL K z G μ ps xs ∧ RelS K z S G μ H ∧ ∃ v S', meth f p ps S = some (v, S') ∧ ∀ G' μ' H' u, Ext G μ H G' μ' H' → RelS K z S' G' μ' H' → Rep K z G' μ' v u → Q u H'
section
variable {K : PySem.W.Frag} {z : Kz} {S : Store} {G H : Hp} {μ : List Addr}
theorem at_lst {l : Nat} {a : Addr} {xs : List PV} (r : RelS K z S G μ H) (h : μ[l]? = some a) (e : S[l]? = some (.lst xs)) : G a = none ∧ ∃ vs, H a = some (.lst vs) ∧ RepL K z G μ xs vs := r.at_ l _ a e h
/-- the list at l is written -/
theorem write_lst {l : Nat} {a : Addr} {xs ys : List PV} {ws : List V} (r : RelS K z S G μ H) (h : μ[l]? = some a) (e : S[l]? = some (.lst xs)) (hy : RepL K z G μ ys ws) :
    RelS K z (S.set l (.lst ys)) G μ (upd H a (.lst ws)) ∧ Ext G μ H G μ (upd H a (.lst ws)) := by
  obtain ⟨h1, vs, h2, h3⟩ := at_lst r h e
  exact r.write e h rfl rfl h1 (fun ps q => by rw [h2] at q; cases q) (fun q hq => by rw [h2] at hq; cases hq) fun H' hH => ⟨h1, ws, hH, hy⟩
theorem repL0 {xs : List V} (h : RepL K z G μ [] xs) : xs = [] := h
theorem repL2 {p q : PV} {xs : List V} (h : RepL K z G μ [p, q] xs) : ∃ x y, xs = [x, y] ∧ Rep K z G μ p x ∧ Rep K z G μ q y := by
  obtain ⟨v, r, rfl, h1, h2⟩ := h
  obtain ⟨y, rfl, h3⟩ := repL1 h2
  exact ⟨v, y, rfl, h1, h3⟩
end
section
variable {X : Cx} {z : Kz}
theorem mt_append_ok : MtR X "list.append" (rMt X.K z .append) := by
  intro pins s σ H x xs v us Q I rx rxs ⟨p, ps, S, G, μ, hp, hps, r, w, S', e, k⟩
  cases p with
  | loc l =>
    cases ps with
    | nil => cases e
    | cons q t =>
      cases t with
      | cons _ _ => cases e
      | nil =>
        cases e0 : S[l]? with
        | none => simp only [meth, e0] at e; cases e
        | some ob =>
          cases ob with
          | lst ys =>
            simp only [meth, e0] at e
            split at e
            · rename_i hl
              cases e
              obtain ⟨a, h1, rfl⟩ := hp
              obtain ⟨y, rfl, hy⟩ := repL1 hps
              obtain ⟨h2, vs, h3, h4⟩ := at_lst r h1 e0
              have hl := of_decide_eq_true hl
              obtain ⟨r', e'⟩ := write_lst r h1 e0 (h4.append (.one hy))
              exact mt_append pins s σ H _ _ v us Q I rx rxs ⟨a, vs, y, rfl, rfl, h3, by rw [sizeLine_LINE, ← h4.length]; exact hl, k _ _ _ _ e' r' rfl⟩
            · cases e
          | _ => simp only [meth, e0] at e; cases e
  | _ => cases e
theorem dropLast_rep {K : PySem.W.Frag} {G : Hp} {μ : List Addr} {xs : List PV} {vs : List V} (h : RepL K z G μ xs vs) : RepL K z G μ xs.dropLast vs.dropLast := by
  rw [List.dropLast_eq_take, List.dropLast_eq_take, h.length]
  exact h.take _
theorem mt_pop0_ok : MtR X "list.pop" (rMt X.K z .pop0) := by
  intro pins s σ H x xs v us Q I rx rxs ⟨p, ps, S, G, μ, hp, hps, r, w, S', e, k⟩
  cases p with
  | loc l =>
    cases ps with
    | cons q t => cases e
    | nil =>
      cases e0 : S[l]? with
      | none => simp only [meth, e0] at e; cases e
      | some ob =>
        cases ob with
        | lst ys =>
          simp only [meth, e0] at e
          obtain ⟨y, hy, e2⟩ := Option.map_eq_some_iff.mp e
          cases e2
          obtain ⟨a, h1, rfl⟩ := hp
          have := repL0 hps
          subst this
          obtain ⟨h2, vs, h3, h4⟩ := at_lst r h1 e0
          rw [List.getLast?_eq_getElem?] at hy
          obtain ⟨u, hu, hr⟩ := h4.get hy
          rw [h4.length] at hu
          obtain ⟨r', e'⟩ := write_lst r h1 e0 (dropLast_rep h4)
          exact mt_pop pins s σ H _ _ v us Q I rx rxs ⟨a, vs, u, rfl, rfl, h3, hu, k _ _ _ _ e' r' (hr.ext e')⟩
        | _ => simp only [meth, e0] at e; cases e
  | _ => cases e
theorem mt_pop1_ok : MtR X "list.pop" (rMt X.K z .pop1) := by
  intro pins s σ H x xs v us Q I rx rxs ⟨p, ps, S, G, μ, hp, hps, r, w, S', e, k⟩
  cases p with
  | loc l =>
    cases ps with
    | nil => cases e
    | cons q t =>
      cases t with
      | cons _ _ => cases q <;> cases e
      | nil =>
        cases q with
        | int i =>
          cases e0 : S[l]? with
          | none => simp only [meth, e0] at e; cases e
          | some ob =>
            cases ob with
            | lst ys =>
              simp only [meth, e0] at e
              obtain ⟨j, hj, e2⟩ := Option.bind_eq_some_iff.mp e
              obtain ⟨y, hy, e3⟩ := Option.map_eq_some_iff.mp e2
              cases e3
              obtain ⟨a, h1, rfl⟩ := hp
              obtain ⟨y', rfl, hy'⟩ := repL1 hps
              cases hy'
              obtain ⟨h2, vs, h3, h4⟩ := at_lst r h1 e0
              obtain ⟨u, hu, hr⟩ := h4.get hy
              obtain ⟨r', e'⟩ := write_lst r h1 e0 (h4.eraseIdx j)
              rw [h4.length, ixN_eq] at hj
              obtain ⟨q1, q2, q3, q4⟩ := ixN_seq hj
              have hz := (Inv.lstR I (.inl h3)).1
              have hs : sizeLine = 16777216 := sizeLine_eq
              exact mt_popAt pins s σ H _ _ v us Q I rx rxs ⟨a, vs, i, j, u, rfl, rfl, h3, by omega, by omega, q1, hu, k _ _ _ _ e' r' (hr.ext e')⟩
            | _ => simp only [meth, e0] at e; cases e
        | _ => cases e
  | _ => cases e
/-- how many of the values are equal -/
theorem countP_eqU {x : V} : ∀ {xs : List V} {us : List Value}, Vals xs us → xs.all flatV = true → us.countP (eqU x) = xs.countP fun y => eqV y x
  | _, _, .nil, _ => rfl
  | y :: xs, u :: us, .cons r t, f => by
    rw [List.all_cons, Bool.and_eq_true] at f
    rw [List.countP_cons, List.countP_cons, eqU_of r f.1, countP_eqU t f.2]
theorem countEq_of {K : PySem.W.Frag} {G : Hp} {μ : List Addr} {p : PV} {x : V} (h : Rep K z G μ p x) (f : p.flat = true) : ∀ {ps : List PV} {vs : List V}, RepL K z G μ ps vs → ps.all PV.flat = true → (vs.countP fun y => eqV y x) = countEq p ps
  | [], vs, h, _ => by
    have h : vs = [] := h
    subst h
    rfl
  | q :: ps, vs, h', f' => by
    obtain ⟨v, r, rfl, h1, h2⟩ := h'
    rw [List.all_cons, Bool.and_eq_true] at f'
    have ih := countEq_of h f h2 f'.2
    rw [List.countP_cons, ih, eqV_of h1 h f'.1 f]
    show countEq p ps + _ = (if q.eqv p = true then 1 else 0) + countEq p ps
    rw [Nat.add_comm]
theorem mt_count_ok : MtR X "list.count" (rMt X.K z .count) := by
  intro pins s σ H x xs v us Q I rx rxs ⟨p, ps, S, G, μ, hp, hps, r, w, S', e, k⟩
  cases ps with
  | nil => cases p <;> cases e
  | cons q t =>
    cases t with
    | cons _ _ => cases p <;> cases e
    | nil =>
      have e : ((getL S p).bind fun xs => if q.flat && xs.all PV.flat then some (PV.int (countEq q xs), S) else none) = some (w, S') := by cases p <;> exact e
      obtain ⟨ys, h1, e⟩ := Option.bind_eq_some_iff.mp e
      split at e
      · rename_i hf
        rw [Bool.and_eq_true] at hf
        cases e
        obtain ⟨a, vs, rfl, h3, h4⟩ := getL_of r hp h1
        obtain ⟨y, rfl, hy⟩ := repL1 hps
        cases rx
        obtain ⟨u, rfl, ru⟩ := vals1 rxs
        obtain ⟨z0, its, n, rv, hl, ho⟩ := Inv.lstR I h3
        have fy := flat_of hy hf.1
        have fs := flatL_of h4 hf.2
        refine call_meets PySem.F.slot_list_count ⟨_, ho, rfl⟩ PySem.F.entry_list_count (PySem.F.args_list_count_2 _ _)
          (SeqAt.list_countAt a its.toArray n none #[] u (eqU y)) ⟨ho, fun u' hu' => mem_eqAt ru fy rv fs u' (by simpa using hu'), ?_⟩
        refine ⟨.int (countEq q ys : Nat), H, I.tok _, ⟨s.toks, ?_⟩, k G μ H _ (Ext.refl ..) r rfl⟩
        show Value.int ((its.toArray.toList.countP (eqU y) : Nat) : Int) s.toks = _
        have : its.toArray.toList.countP (eqU y) = countEq q ys := by
          show its.countP (eqU y) = _
          rw [countP_eqU rv fs, countEq_of hy hf.1 h4 hf.2]
        rw [this]
      · cases e
theorem firstEq_of {K : PySem.W.Frag} {G : Hp} {μ : List Addr} {p : PV} {x : V} (h : Rep K z G μ p x) (f : p.flat = true) : ∀ {ps : List PV} {vs : List V} {j : Nat}, RepL K z G μ ps vs → ps.all PV.flat = true → firstEq p ps = some j →
    ∃ w, vs[j]? = some w ∧ eqV w x = true ∧ ∀ (m : Nat) (w' : V), m < j → vs[m]? = some w' → eqV w' x = false
  | [], vs, j, h, _, e => by cases e
  | q :: ps, vs, j, h', f', e => by
    obtain ⟨v, r, rfl, h1, h2⟩ := h'
    rw [List.all_cons, Bool.and_eq_true] at f'
    have ev := eqV_of h1 h f'.1 f
    unfold firstEq at e
    split at e
    · rename_i hq
      cases e
      exact ⟨v, rfl, by rw [ev]; exact hq, fun m w' hm _ => absurd hm (Nat.not_lt_zero _)⟩
    · rename_i hq
      obtain ⟨j', e2, rfl⟩ := Option.map_eq_some_iff.mp e
      obtain ⟨w, g1, g2, g3⟩ := firstEq_of h f h2 f'.2 e2
      refine ⟨w, by simpa using g1, g2, fun m w' hm hw => ?_⟩
      cases m with
      | zero =>
        cases hw
        rw [ev]
        simpa using hq
      | succ m => exact g3 m w' (by omega) (by simpa using hw)
theorem mt_index_ok : MtR X "list.index" (rMt X.K z .index) := by
  intro pins s σ H x xs v us Q I rx rxs ⟨p, ps, S, G, μ, hp, hps, r, w, S', e, k⟩
  cases ps with
  | nil => cases p <;> cases e
  | cons q t =>
    cases t with
    | cons _ _ => cases p <;> cases e
    | nil =>
      have e : ((getL S p).bind fun xs => if q.flat && xs.all PV.flat then (firstEq q xs).map fun (n : Nat) => (PV.int (n : Int), S) else none) = some (w, S') := by cases p <;> exact e
      obtain ⟨ys, h1, e⟩ := Option.bind_eq_some_iff.mp e
      split at e
      · rename_i hf
        rw [Bool.and_eq_true] at hf
        obtain ⟨j, hj, e2⟩ := Option.map_eq_some_iff.mp e
        cases e2
        obtain ⟨a, vs, rfl, h3, h4⟩ := getL_of r hp h1
        obtain ⟨y, rfl, hy⟩ := repL1 hps
        obtain ⟨w', g1, g2, g3⟩ := firstEq_of hy hf.1 h4 hf.2 hj
        exact mt_index pins s σ H _ _ v us Q I rx rxs ⟨a, vs, y, j, w', rfl, rfl, .inl h3, flat_of hy hf.1, flatL_of h4 hf.2, g1, g2, g3, k G μ H _ (Ext.refl ..) r rfl⟩
      · cases e
end

/-! ### a method call's text -/
def baseOk : Expr → Bool
  | .Call (.Name id _) [] [] _ => id != ("super" : Str)
  | _ => true
theorem base_of {o : Expr} (h : baseOk o = true) (attr : Str) (env : PySem.Env) (whole : Sem Value) : attributeBase o attr env whole = whole := by
  unfold attributeBase
  split
  · rename_i id p pos
    have h : (id != ("super" : Str)) = true := h
    rw [h]
    simp
  · rfl
def notStar : Expr → Bool
  | .Starred .. => false
  | _ => true
theorem star_cons {e : Expr} (h : notStar e = true) (es : List Expr) (env : PySem.Env) : starEach (e :: es) env = (false, eval e env) :: starEach es env := by
  cases e <;> first | rfl | cases h
theorem star_any : ∀ {es : List Expr} (pos : Pos) (env : PySem.Env), es.all notStar = true → (backTo pos (starEach es env)).any (·.1) = false
  | [], pos, env, _ => rfl
  | e :: es, pos, env, h => by
    rw [List.all_cons, Bool.and_eq_true] at h
    rw [star_cons h.1]
    have ih := star_any (es := es) pos env h.2
    unfold backTo at ih ⊢
    rw [List.map_cons, List.any_cons, ih]
    rfl
section
variable {X : Cx} {z : Kz} {W : WX} {o e : Expr} {es : List Expr} {fo fa : Env → Store → Res PV} {fs : Env → Store → Res (List PV)} {apos cpos : Pos}
theorem t_mt {f : Mt} {r : V → List V → Hp → VK → Prop} (hf : f ≠ .get1 ∧ f ≠ .get2) (hr : ∀ x xs H Q, rMt X.K z f x xs H Q → r x xs H Q) (σ : L2.St) (H : Hp) (Q : VK)
    (h : TE' X z W (fun ρ S => (fo ρ S).bind fun x S => if recvOk f x S then (fs ρ S).bind fun vs S => ofM (meth f x vs S) else .bad) σ H Q) : tBM X.K "list" r (TE' X z W fo) (TA' X z W fs) σ H Q := by
  obtain ⟨ρ, S, G, μ, hE, hS, h⟩ := h
  refine ⟨ρ, S, G, μ, hE, hS, h.bind.imp fun p S1 G1 μ1 H1 e1 r1 h1 x hx => ?_⟩
  split at h1
  · rename_i hk
    have hk : (getL S1 p).isSome = true := by
      cases f <;> first | exact hk | exact absurd rfl hf.1 | exact absurd rfl hf.2
    obtain ⟨ys, hys⟩ := Option.isSome_iff_exists.mp hk
    obtain ⟨a, vs, rfl, h2, h3⟩ := getL_of r1 hx hys
    refine ⟨.inl ⟨rfl, vs, .inl h2⟩, ρ, S1, G1, μ1, hE.mono e1, r1, h1.bind.imp fun ps S2 G2 μ2 H2 e2 r2 h4 xs hxs => ?_⟩
    refine hr _ _ _ _ ⟨p, ps, S2, G2, μ2, hx.ext e2, hxs, r2, ?_⟩
    cases e : meth f p ps S2 with
    | none => rw [e] at h4; exact h4.elim
    | some w =>
      obtain ⟨w, S3⟩ := w
      rw [e] at h4
      exact ⟨w, S3, rfl, fun G' μ' H' u e r hu => h4 G' μ' H' e r u hu⟩
  · exact h1.elim
variable (ho : PE X o (TE' X z W fo)) (hb : baseOk o = true) (hl : (apos.endLine == cpos.line) = true)
theorem few1 {pos : Pos} {e : Expr} (hs : notStar e = true) (env : PySem.Env) : ((backTo pos (starEach [e] env)).all (fun x => !x.1) && (backToKw pos (keywordEach [] env)).all (fun x => x.1.isSome)
      && decide (([e] : List Expr).length + ([] : List Keyword).length + (if ([] : List Keyword).isEmpty then 0 else 1) < 30)) = true := by
  rw [star_cons hs]
  rfl
include ho hb hl in
theorem s_append (ha : PE X e (TE' X z W fa)) (hs : notStar e = true) : PE X (.Call (.Attribute o "append" apos) [e] [] cpos)
    (TE' X z W fun ρ S => (fo ρ S).bind fun x S => if recvOk .append x S then ((fa ρ S).bind fun v S => (Res.ok [] S).bind fun vs S => .ok (v :: vs) S).bind fun vs S => ofM (meth .append x vs S) else .bad) :=
  PE.imp (pe_bm PySem.F.plainAttrs_list PySem.F.slot_list_append PySem.F.type_list_append mt_append_ok ho (s_cons ha s_nil (star_cons hs [] _)) (base_of hb _ _ _) (few1 hs _) hl (star_cons hs [] _) rfl)
    (t_mt (f := .append) ⟨(fun h => nomatch h), fun h => nomatch h⟩ fun _ _ _ _ h => h)
include ho hb hl in
theorem s_count (ha : PE X e (TE' X z W fa)) (hs : notStar e = true) : PE X (.Call (.Attribute o "count" apos) [e] [] cpos)
    (TE' X z W fun ρ S => (fo ρ S).bind fun x S => if recvOk .count x S then ((fa ρ S).bind fun v S => (Res.ok [] S).bind fun vs S => .ok (v :: vs) S).bind fun vs S => ofM (meth .count x vs S) else .bad) :=
  PE.imp (pe_bm PySem.F.plainAttrs_list PySem.F.slot_list_count PySem.F.type_list_count mt_count_ok ho (s_cons ha s_nil (star_cons hs [] _)) (base_of hb _ _ _) (few1 hs _) hl (star_cons hs [] _) rfl)
    (t_mt (f := .count) ⟨(fun h => nomatch h), fun h => nomatch h⟩ fun _ _ _ _ h => h)
include ho hb hl in
theorem s_index (ha : PE X e (TE' X z W fa)) (hs : notStar e = true) : PE X (.Call (.Attribute o "index" apos) [e] [] cpos)
    (TE' X z W fun ρ S => (fo ρ S).bind fun x S => if recvOk .index x S then ((fa ρ S).bind fun v S => (Res.ok [] S).bind fun vs S => .ok (v :: vs) S).bind fun vs S => ofM (meth .index x vs S) else .bad) :=
  PE.imp (pe_bm PySem.F.plainAttrs_list PySem.F.slot_list_index PySem.F.type_list_index mt_index_ok ho (s_cons ha s_nil (star_cons hs [] _)) (base_of hb _ _ _) (few1 hs _) hl (star_cons hs [] _) rfl)
    (t_mt (f := .index) ⟨(fun h => nomatch h), fun h => nomatch h⟩ fun _ _ _ _ h => h)
include ho hb hl in
theorem s_pop1 (ha : PE X e (TE' X z W fa)) (hs : notStar e = true) : PE X (.Call (.Attribute o "pop" apos) [e] [] cpos)
    (TE' X z W fun ρ S => (fo ρ S).bind fun x S => if recvOk .pop1 x S then ((fa ρ S).bind fun v S => (Res.ok [] S).bind fun vs S => .ok (v :: vs) S).bind fun vs S => ofM (meth .pop1 x vs S) else .bad) :=
  PE.imp (pe_bm PySem.F.plainAttrs_list PySem.F.slot_list_pop PySem.F.type_list_pop mt_pop1_ok ho (s_cons ha s_nil (star_cons hs [] _)) (base_of hb _ _ _) (few1 hs _) hl (star_cons hs [] _) rfl)
    (t_mt (f := .pop1) ⟨(fun h => nomatch h), fun h => nomatch h⟩ fun _ _ _ _ h => h)
include ho hb hl in
theorem s_pop0 : PE X (.Call (.Attribute o "pop" apos) [] [] cpos)
    (TE' X z W fun ρ S => (fo ρ S).bind fun x S => if recvOk .pop0 x S then (Res.ok [] S).bind fun vs S => ofM (meth .pop0 x vs S) else .bad) := by
  refine PE.imp (pe_bm0 PySem.F.plainAttrs_list PySem.F.slot_list_pop PySem.F.type_list_pop (mt_pop0_ok (z := z)) ho (base_of hb _ _ _) hl) fun σ H Q ⟨ρ, S, G, μ, hE, hS, h⟩ => ?_
  refine ⟨ρ, S, G, μ, hE, hS, h.bind.imp fun p S1 G1 μ1 H1 e1 r1 h1 x hx => ?_⟩
  split at h1
  · rename_i hk
    have hk : (getL S1 p).isSome = true := hk
    obtain ⟨ys, hys⟩ := Option.isSome_iff_exists.mp hk
    obtain ⟨a, vs, rfl, h2, h3⟩ := getL_of r1 hx hys
    refine ⟨.inl ⟨rfl, vs, .inl h2⟩, p, [], S1, G1, μ1, hx, rfl, r1, ?_⟩
    rw [Res.bind_ok] at h1
    cases e : meth .pop0 p [] S1 with
    | none => rw [e] at h1; exact h1.elim
    | some w =>
      obtain ⟨w, S3⟩ := w
      rw [e] at h1
      exact ⟨w, S3, rfl, fun G' μ' H' u e r hu => h1 G' μ' H' e r u hu⟩
  · exact h1.elim
/-- d.get(k), d.get(k, d) -/
theorem trees1 {pos : Pos} {e : Expr} (hs : notStar e = true) (env : PySem.Env) : backTo pos (starEach [e] env) = [(false, eval e env)] := by
  rw [star_cons hs]
  rfl
end
section
variable {X : Cx} {z : Kz} {W : WX} {o e f : Expr} {fo fa fb : Env → Store → Res PV} {apos cpos : Pos}
theorem get_of {K : PySem.W.Frag} {G H : Hp} {μ : List Addr} {kvs : List (PV × PV)} {kv : List (Key × V)} {a : Addr} {k d : PV} {x y : V} (h1 : Rd H a (.dK kv)) (h2 : RepK K z G μ kvs kv) (hk : dOk kvs k = true) (hx : Rep K z G μ k x) (hy : Rep K z G μ d y) :
    ∃ o, DGet H a x o ∧ Rep K z G μ ((dget kvs k).getD d) (o.getD y) := by
  obtain ⟨c, rfl⟩ := h2.key hk
  have := rep_pk hx
  subst this
  refine ⟨valV kv c, .inl ⟨kv, c, h1, rfl, rfl⟩, ?_⟩
  rcases h2.get c with ⟨p', v', g1, g2, g3⟩ | ⟨g1, g2⟩
  · rw [g1, g2]; exact g3
  · rw [g1, g2]; exact hy
theorem s_get2 (hu : X.A.units + 64 < cLine) (ho : PE X o (TE' X z W fo)) (ha : PE X e (TE' X z W fa)) (hf : PE X f (TE' X z W fb)) (hb : baseOk o = true) (hl : (apos.endLine == cpos.line) = true) (hs : notStar e = true) (hs2 : notStar f = true) :
    PE X (.Call (.Attribute o "get" apos) [e, f] [] cpos)
    (TE' X z W fun ρ S => (fo ρ S).bind fun x S => if recvOk .get2 x S then ((fa ρ S).bind fun v S => ((fb ρ S).bind fun w S => (Res.ok [] S).bind fun vs S => .ok (w :: vs) S).bind fun vs S => .ok (v :: vs) S).bind fun vs S => ofM (meth .get2 x vs S) else .bad) := by
  refine PE.imp (pe_dget2 (Nat.lt_of_le_of_lt (Nat.add_le_add_left (by decide : 1 ≤ 64) _) hu) ho ha hf ⟨base_of hb _ _ _, by rw [star_cons hs, star_cons hs2]; rfl, hl, by rw [star_cons hs, star_cons hs2]; rfl⟩) fun σ H Q ⟨ρ, S, G, μ, hE, hS, h⟩ => ?_
  refine ⟨ρ, S, G, μ, hE, hS, h.bind.imp fun p S1 G1 μ1 H1 e1 r1 h1 x hx => ?_⟩
  split at h1
  · rename_i hk
    obtain ⟨ys, hys⟩ := Option.isSome_iff_exists.mp (show (getD S1 p).isSome = true from hk)
    obtain ⟨a, kv, rfl, h2, h3⟩ := getD_of r1 hx hys
    rw [Res.bind_assoc] at h1
    refine ⟨a, rfl, .inl ⟨kv, h2⟩, ρ, S1, G1, μ1, hE.mono e1, r1, h1.bind.imp fun q S2 G2 μ2 H2 e2 r2 h4 y hy => ?_⟩
    rw [Res.bind_assoc, Res.bind_assoc] at h4
    refine ⟨ρ, S2, G2, μ2, (hE.mono e1).mono e2, r2, h4.bind.imp fun d S3 G3 μ3 H3 e3 r3 h5 w hw => ?_⟩
    simp only [Res.bind_ok] at h5
    cases e : meth .get2 p [q, d] S3 with
    | none => rw [e] at h5; exact h5.elim
    | some w' =>
      obtain ⟨w', S4⟩ := w'
      rw [e] at h5
      have e : ((getD S3 p).bind fun kvs => if dOk kvs q then some ((dget kvs q).getD d, S3) else none) = some (w', S4) := by cases p <;> exact e
      obtain ⟨kvs, g1, g2⟩ := Option.bind_eq_some_iff.mp e
      split at g2
      · rename_i hk
        cases g2
        obtain ⟨a', kv', ea, h6, h7⟩ := getD_of r3 ((hx.ext e2).ext e3) g1
        cases ea
        obtain ⟨oo, h8, h9⟩ := get_of h6 h7 hk (hy.ext e3) hw
        exact ⟨oo, h8, h5 G3 μ3 H3 (Ext.refl ..) r3 _ h9⟩
      · cases g2
  · exact h1.elim
theorem s_get1 (hu : X.A.units + 64 < cLine) (ho : PE X o (TE' X z W fo)) (ha : PE X e (TE' X z W fa)) (hb : baseOk o = true) (hl : (apos.endLine == cpos.line) = true) (hs : notStar e = true) :
    PE X (.Call (.Attribute o "get" apos) [e] [] cpos)
    (TE' X z W fun ρ S => (fo ρ S).bind fun x S => if recvOk .get1 x S then ((fa ρ S).bind fun v S => (Res.ok [] S).bind fun vs S => .ok (v :: vs) S).bind fun vs S => ofM (meth .get1 x vs S) else .bad) := by
  refine PE.imp (pe_dget1 (Nat.lt_of_le_of_lt (Nat.add_le_add_left (by decide : 1 ≤ 64) _) hu) ho ha ⟨base_of hb _ _ _, by rw [star_cons hs]; rfl, hl, by rw [star_cons hs]; rfl⟩) fun σ H Q ⟨ρ, S, G, μ, hE, hS, h⟩ => ?_
  refine ⟨ρ, S, G, μ, hE, hS, h.bind.imp fun p S1 G1 μ1 H1 e1 r1 h1 x hx => ?_⟩
  split at h1
  · rename_i hk
    obtain ⟨ys, hys⟩ := Option.isSome_iff_exists.mp (show (getD S1 p).isSome = true from hk)
    obtain ⟨a, kv, rfl, h2, h3⟩ := getD_of r1 hx hys
    rw [Res.bind_assoc] at h1
    refine ⟨a, rfl, .inl ⟨kv, h2⟩, ρ, S1, G1, μ1, hE.mono e1, r1, h1.bind.imp fun q S2 G2 μ2 H2 e2 r2 h4 y hy => ?_⟩
    simp only [Res.bind_ok] at h4
    cases e : meth .get1 p [q] S2 with
    | none => rw [e] at h4; exact h4.elim
    | some w' =>
      obtain ⟨w', S4⟩ := w'
      rw [e] at h4
      have e : ((getD S2 p).bind fun kvs => if dOk kvs q then some ((dget kvs q).getD .non, S2) else none) = some (w', S4) := by cases p <;> exact e
      obtain ⟨kvs, g1, g2⟩ := Option.bind_eq_some_iff.mp e
      split at g2
      · rename_i hk
        cases g2
        obtain ⟨a', kv', ea, h6, h7⟩ := getD_of r2 (hx.ext e2) g1
        cases ea
        obtain ⟨oo, h8, h9⟩ := get_of (d := .non) (y := V.non) h6 h7 hk hy rfl
        exact ⟨oo, h8, h4 G2 μ2 H2 (Ext.refl ..) r2 _ h9⟩
      · cases g2
  · exact h1.elim
end
end CW
end

section
set_option Elab.async false
set_option linter.all false
set_option maxRecDepth 100000
set_option maxHeartbeats 2000000
/-! isinstance, list(range), dict displays, calls of built-ins. -/
namespace CW
open PySem PySem.Spec PyProof.Rows L2

def btN : Bt → String
  | .bool => "bool" | .int => "int" | .str => "str" | .tuple => "tuple" | .list => "list" | .dict => "dict" | .verr => "ValueError"
def clName : Cl → Str
  | .bt n => Str.ofString (btN n)
  | .own x => x
/-- what the name of a class stands for -/
def ClVal (mg : Str → Option Value) : Cl → V → Value → Prop
  | .bt n, v, u => v = .ty (btN n) ∧ u = .type (btN n)
  | .own x, v, u => ∃ C, mg x = some (.ref C) ∧ v = .ref C ∧ u = .ref C
/-- the classes of the text: what isinstance and except answer -/
structure SubOk (K : PySem.W.Frag) (mg : Str → Option Value) (sub : Str → Cl → Option Bool) : Prop where
  kit : ∀ x c b v u, sub x c = some b → ClVal mg c v u → ∃ D, mg x = some (.ref D) ∧ PySem.W.kitOne K (.ref D) u = some b ∧ PySem.W.exmOne K (.ref D) u = some b ∧ ExcC K D
/-- the exception at hand is pinned -/
def XaOk (X : Cx) (z : Kz) : Prop := ∀ a x d, z.xa = some (a, x, d) → ∃ (oe : Obj) (D : Addr), (a, oe) ∈ X.pn ∧ Zc (.ref D) d oe ∧ (∃ vs, oe.data = .fields vs) ∧ X.mg x = some (.ref D)
theorem boot_bt : ∀ n : Bt, bootBuiltins (Str.ofString (btN n)) = some (.type (btN n))
  | .bool => by decide +kernel
  | .int => by decide +kernel
  | .str => by decide +kernel
  | .tuple => by decide +kernel
  | .list => by decide +kernel
  | .dict => by decide +kernel
  | .verr => by decide +kernel
theorem bt_name : ∀ n : Bt, Str.ofString (btN n) ≠ "__name__" ∧ (Str.ofString (btN n) == ("__debug__" : Str)) = false
  | .bool => by decide +kernel
  | .int => by decide +kernel
  | .str => by decide +kernel
  | .tuple => by decide +kernel
  | .list => by decide +kernel
  | .dict => by decide +kernel
  | .verr => by decide +kernel
/-- the kind of a plain value as a built-in type's name -/
def kindN : PV → String
  | .non => "NoneType" | .bl _ => "bool" | .int _ => "int" | .str _ => "str" | .tup _ => "tuple" | .lst _ => "list" | .dct _ => "dict"
  | _ => ""
theorem kit_tab : ∀ n : Bt, n ≠ .verr → kitB "NoneType" (btN n) = some false ∧ kitB "bool" (btN n) = some (n == .bool || n == .int) ∧ kitB "int" (btN n) = some (n == .int) ∧ kitB "str" (btN n) = some (n == .str) ∧ kitB "tuple" (btN n) = some (n == .tuple) ∧
    kitB "list" (btN n) = some (n == .list) ∧ kitB "dict" (btN n) = some (n == .dict)
  | .bool, _ => by decide +kernel
  | .int, _ => by decide +kernel
  | .str, _ => by decide +kernel
  | .tuple, _ => by decide +kernel
  | .list, _ => by decide +kernel
  | .dict, _ => by decide +kernel
  | .verr, h => absurd rfl h
section
variable {K : PySem.W.Frag} {mg : Str → Option Value} {sub : Str → Cl → Option Bool} {z : Kz} {S : Store} {G H : Hp} {μ : List Addr} {p : PV} {v : V}
/-- the type of what stands here, where it is no exception -/
theorem tyX_of (r : RelS K z S G μ H) (h : Rep K z G μ p v) (hk : kindN (deref S p) ≠ "") : TyX K H v (.type (kindN (deref S p))) := by
  cases p with
  | non => cases h; exact .base .non
  | bl b => cases h; exact .base (.bl b)
  | int b => cases h; exact .base (.int b)
  | str b => cases h; exact .base (.str b)
  | tup xs =>
    obtain ⟨a, vs, rfl, h2, _, _⟩ := h
    rcases h2 with (h2 | ⟨o, h2⟩) | ⟨o, its, n, h2, h3, _⟩
    · exact .base (.tup (r.g _ _ h2))
    · exact .fTuple (r.g _ _ h2)
    · exact .kTuple h2 h3
  | lst xs =>
    obtain ⟨a, vs, rfl, h2, _, _⟩ := h
    rcases h2 with h2 | ⟨o, h2⟩
    · exact .base (.lst (r.g _ _ h2))
    · exact .base (.frz (r.g _ _ h2))
  | dct xs =>
    obtain ⟨a, vs, rfl, h2, _, _⟩ := h
    rcases h2 with h2 | ⟨o, h2⟩
    · exact .base (.dK (r.g _ _ h2))
    · exact .fDict (r.g _ _ h2)
  | loc l =>
    obtain ⟨a, h1, rfl⟩ := h
    cases e0 : S[l]? with
    | none => simp only [deref, e0] at hk; exact absurd rfl hk
    | some ob =>
      cases ob with
      | lst xs =>
        obtain ⟨_, vs, h3, _⟩ := r.at_ l _ a e0 h1
        simp only [deref, e0]
        exact .base (.lst h3)
      | dct xs =>
        obtain ⟨_, vs, h3, _⟩ := r.at_ l _ a e0 h1
        simp only [deref, e0]
        exact .base (.dK h3)
      | _ => simp only [deref, e0] at hk; exact absurd rfl hk
  | _ => exact absurd rfl hk
theorem isinst_kind {c : Cl} {b : Bool} {w : V} {u : Value} (hk : kindN (deref S p) ≠ "") (e : isinst sub p S c = some b) (hc : ClVal mg c w u) : PySem.W.kitOne K (.type (kindN (deref S p))) u = some b := by
  unfold isinst at e
  generalize deref S p = q at e hk ⊢
  cases c with
  | own x => cases q <;> first | cases e | exact absurd rfl hk
  | bt n =>
    obtain ⟨_, rfl⟩ := hc
    by_cases hn : n = .verr
    · subst hn
      cases q <;> first | cases e | exact absurd rfl hk
    · obtain ⟨t1, t2, t3, t4, t5, t6, t7⟩ := kit_tab n hn
      have hn' : (n == Bt.verr) = false := by simpa using hn
      cases q with
      | non =>
        have : some false = some b := by cases n <;> first | exact e | exact absurd rfl hn
        rw [← this]
        exact kit_ty t1
      | bl y => simp only [hn', Bool.false_eq_true, if_false] at e; rw [← e]; exact kit_ty t2
      | int y => simp only [hn', Bool.false_eq_true, if_false] at e; rw [← e]; exact kit_ty t3
      | str y => simp only [hn', Bool.false_eq_true, if_false] at e; rw [← e]; exact kit_ty t4
      | tup y => simp only [hn', Bool.false_eq_true, if_false] at e; rw [← e]; exact kit_ty t5
      | lst y => simp only [hn', Bool.false_eq_true, if_false] at e; rw [← e]; exact kit_ty t6
      | dct y => simp only [hn', Bool.false_eq_true, if_false] at e; rw [← e]; exact kit_ty t7
      | _ => exact absurd rfl hk
/-- all of some classes -/
def ClVals (mg : Str → Option Value) : List Cl → List V → List Value → Prop
  | [], vs, us => vs = [] ∧ us = []
  | c :: cs, vs, us => ∃ v vr u ur, vs = v :: vr ∧ us = u :: ur ∧ ClVal mg c v u ∧ ClVals mg cs vr ur
theorem ClVal.clsV {c : Cl} {v : V} {u : Value} (h : ClVal mg c v u) : ClsV v u := by
  cases c with
  | bt n => obtain ⟨rfl, rfl⟩ := h; exact .ty _
  | own x => obtain ⟨C, _, rfl, rfl⟩ := h; exact .own C
theorem ClVals.all : ∀ {cs : List Cl} {vs : List V} {us : List Value}, ClVals mg cs vs us → Paired ClsV vs us
  | [], vs, us, h => by
    obtain ⟨rfl, rfl⟩ := h
    exact .nil
  | c :: cs, vs, us, h => by
    obtain ⟨v, vr, u, ur, rfl, rfl, h1, h2⟩ := h
    exact .cons h1.clsV (ClVals.all h2)
theorem isinstL_kind (hk : kindN (deref S p) ≠ "") : ∀ {cs : List Cl} {b : Bool} {vs : List V} {us : List Value}, isinstL sub p S cs = some b → ClVals mg cs vs us → PySem.W.kitAny K (.type (kindN (deref S p))) us = some b
  | [], b, vs, us, e, h => by
    obtain ⟨rfl, rfl⟩ := h
    exact e
  | c :: cs, b, vs, us, e, h => by
    obtain ⟨v, vr, u, ur, rfl, rfl, h1, h2⟩ := h
    unfold isinstL at e
    cases e1 : isinst sub p S c with
    | none => simp only [e1] at e; cases e
    | some b1 =>
      have k1 := isinst_kind (K := K) hk e1 h1
      unfold PySem.W.kitAny
      rw [k1]
      cases b1 with
      | true => simp only [e1] at e; exact e
      | false => simp only [e1] at e; exact isinstL_kind hk e h2
end

section
variable {X : Cx} {z : Kz} {W : WX} {sub : Str → Cl → Option Bool} {e : Expr} {fe : Env → Store → Res PV}
/-- the reading of isinstance by values: one class -/
def rIn1 (K : PySem.W.Frag) (mg : Str → Option Value) (z : Kz) (sub : Str → Cl → Option Bool) (c : Cl) : List V → Hp → VK → Prop := fun xs H Q =>
  ∃ p S G μ x v u b, xs = [x, v] ∧ Rep K z G μ p x ∧ RelS K z S G μ H ∧ ClVal mg c v u ∧ isinst sub p S c = some b ∧ Q (.bl b) H
theorem call_in1 (hs : SubOk X.K X.mg sub) (hx : XaOk X z) (c : Cl) : CallR X (.builtin "isinstance") (rIn1 X.K X.mg z sub c) := by
  rintro pins s σ H xs us Q I rus ⟨p, S, G, μ, x, v, u, b, rfl, hp, r, hc, e, q⟩
  by_cases hk : kindN (deref S p) = ""
  · -- an exception
    cases p with
    | exn y fs =>
      cases fs with
      | cons _ _ => cases e
      | nil =>
        have e : sub y c = some b := e
        obtain ⟨D, h1, h2, _, C⟩ := hs.kit y c b v u e hc
        obtain ⟨a, d, h3, rfl, h4⟩ := hp
        have h4 : d = none := h4
        subst h4
        obtain ⟨oe, D', h5, h6, ⟨vs, hv⟩, h7⟩ := hx a y none h3
        rw [h1] at h7
        cases h7
        obtain ⟨u1, u2, rfl, r1, r2⟩ := vals2 rus
        have e2 := hc.clsV.eq r2
        subst e2
        cases r1
        obtain ⟨hget, _⟩ := I.pin (a, oe) (List.mem_append_left _ h5)
        have J : PySem.W.InstAt s.heap a oe D none := by
          obtain ⟨oc, od, oda, osl⟩ := oe
          obtain ⟨k1, k2⟩ := h6
          dsimp only at k1 k2 hv
          subst k1 k2 hv
          exact ⟨hget, rfl, rfl, trivial⟩
        exact PySem.W.kia_one (PySem.W.handS_kitx_exc C.hg C.hk C.hs C.hd C.ha C.hn C.ht C.hm) I.kIn J h2 (fun z => nomatch z) fun tk => ⟨.bl b, H, I.kept (t' := tk) fun _ _ z => z, rfl, q⟩
    | loc l =>
      unfold isinst at e
      cases e0 : S[l]? with
      | none => simp only [deref, e0] at e; cases c <;> cases e
      | some ob =>
        cases ob with
        | lst xs => simp only [deref, e0] at hk; exact absurd (show "list" = "" from hk) (by decide)
        | dct xs => simp only [deref, e0] at hk; exact absurd (show "dict" = "" from hk) (by decide)
        | _ => simp only [deref, e0] at e; cases c <;> cases e
    | non => exact absurd (show "NoneType" = "" from hk) (by decide)
    | bl _ => exact absurd (show "bool" = "" from hk) (by decide)
    | int _ => exact absurd (show "int" = "" from hk) (by decide)
    | str _ => exact absurd (show "str" = "" from hk) (by decide)
    | tup _ => exact absurd (show "tuple" = "" from hk) (by decide)
    | lst _ => exact absurd (show "list" = "" from hk) (by decide)
    | dct _ => exact absurd (show "dict" = "" from hk) (by decide)
    | _ => cases c <;> cases e
  · exact call_isi pins s σ H _ us Q I rus ⟨x, v, _, u, b, rfl, hc.clsV, tyX_of r hp hk, isinst_kind hk e hc, q⟩
/-- a class as a name -/
theorem pe_cl {c : Cl} {pos : Pos} (hg : Gl X (clName c)) (hm : ∀ n, c = .bt n → X.mg (clName c) = none) (hd : (clName c == ("__debug__" : Str)) = false) {v : V} {u : Value} (hc : ClVal X.mg c v u) : PE X (.Name (clName c) pos) (tC v) := by
  cases c with
  | bt n =>
    obtain ⟨rfl, rfl⟩ := hc
    exact pe_bltn hg (hm n rfl) (boot_bt n) rfl (bt_name n).1 (bt_name n).2
  | own x =>
    obtain ⟨C, h, rfl, rfl⟩ := hc
    exact pe_glob hg h rfl hd
variable {p pc pos : Pos}
theorem s_isin1 (hs : SubOk X.K X.mg sub) (hx : XaOk X z) {c : Cl} (hg : Gl X "isinstance") (hm : X.mg "isinstance" = none) (hgc : Gl X (clName c)) (hmc : ∀ n, c = .bt n → X.mg (clName c) = none) (hdc : (clName c == ("__debug__" : Str)) = false) (hc : ∃ v u, ClVal X.mg c v u)
    (he : PE X e (TE' X z W fe)) (hst : notStar e = true) :
    PE X (.Call (.Name "isinstance" p) [e, .Name (clName c) pc] [] pos) (TE' X z W fun ρ S => (fe ρ S).bind fun x S => Res.of ((isinstL sub x S [c]).map .bl) S) := by
  obtain ⟨v, u, hc⟩ := hc
  refine PE.imp (pe_callB (call_in1 hs hx c) hg hm boot_isinstance (pa_cons he (pa_cons (pe_cl hgc hmc hdc hc) pa_nil rfl) (star_cons hst _ _)) (by decide) (by decide) (star_cons hst _ _) rfl) fun σ H Q ⟨ρ, S, G, μ, hE, hS, h⟩ => ?_
  refine ⟨ρ, S, G, μ, hE, hS, h.bind.imp fun q S1 G1 μ1 H1 e1 r1 h1 x hx => ?_⟩
  cases e2 : isinst sub q S1 c with
  | none => simp only [isinstL, e2] at h1; exact h1.elim
  | some b =>
    have e3 : isinstL sub q S1 [c] = some b := by
      simp only [isinstL, e2]
      cases b <;> rfl
    rw [e3] at h1
    exact ⟨q, S1, G1, μ1, x, v, u, b, rfl, hx, r1, hc, e2, h1 G1 μ1 H1 (Ext.refl ..) r1 _ rfl⟩
/-- the names of classes, evaluated -/
theorem pa_cls : ∀ {cs : List Cl} {es : List Expr} {vs : List V} {us : List Value}, ClVals X.mg cs vs us → (∀ c ∈ cs, Gl X (clName c) ∧ (∀ n, c = .bt n → X.mg (clName c) = none) ∧ (clName c == ("__debug__" : Str)) = false) →
    (∃ ps : List Pos, es = (cs.zip ps).map (fun q => .Name (clName q.1) q.2) ∧ ps.length = cs.length) → PA X es fun _ H Q => Q vs H
  | [], es, vs, us, h, _, ⟨ps, he, _⟩ => by
    obtain ⟨rfl, rfl⟩ := h
    rw [List.zip_nil_left] at he
    subst he
    exact pa_nil
  | c :: cs, es, vs, us, h, hh, ⟨ps, he, hl⟩ => by
    obtain ⟨v, vr, u, ur, rfl, rfl, h1, h2⟩ := h
    cases ps with
    | nil => simp at hl
    | cons q qs =>
      rw [List.zip_cons_cons, List.map_cons] at he
      subst he
      obtain ⟨a1, a2, a3⟩ := hh c List.mem_cons_self
      exact PA.imp (pa_cons (pe_cl a1 a2 a3 h1) (pa_cls h2 (fun c' hc' => hh c' (List.mem_cons_of_mem _ hc')) ⟨qs, rfl, by simpa using hl⟩) rfl) fun σ H Q h => h
theorem s_isinL {cs : List Cl} {es : List Expr} {k : Nat} {ptup : Pos} (hg : Gl X "isinstance") (hm : X.mg "isinstance" = none) (hh : ∀ c ∈ cs, Gl X (clName c) ∧ (∀ n, c = .bt n → X.mg (clName c) = none) ∧ (clName c == ("__debug__" : Str)) = false) (hc : ∃ vs us, ClVals X.mg cs vs us)
    (hes : ∃ ps : List Pos, es = (cs.zip ps).map (fun q => .Name (clName q.1) q.2) ∧ ps.length = cs.length) (hlen : cs.length ≤ LINE)
    (hkind : ∀ q S b, isinstL sub q S cs = some b → kindN (deref S q) ≠ "") (he : PE X e (TE' X z W fe)) (hst : notStar e = true) :
    PE X (.Call (.Name "isinstance" p) [e, .Tuple es k ptup] [] pos) (TE' X z W fun ρ S => (fe ρ S).bind fun x S => Res.of ((isinstL sub x S cs).map .bl) S) := by
  obtain ⟨vs, us, hc⟩ := hc
  refine PE.imp (pe_callB call_isiT hg hm boot_isinstance (pa_cons he (pa_cons (pe_tup (pa_cls hc hh hes)) pa_nil rfl) (star_cons hst _ _)) (by decide) (by decide) (star_cons hst _ _) rfl) fun σ H Q ⟨ρ, S, G, μ, hE, hS, h⟩ => ?_
  refine ⟨ρ, S, G, μ, hE, hS, h.bind.imp fun q S1 G1 μ1 H1 e1 r1 h1 x hx => ?_⟩
  cases e2 : isinstL sub q S1 cs with
  | none => rw [e2] at h1; exact h1.elim
  | some b =>
    rw [e2] at h1
    have hvl : vs.length = cs.length := by
      have : ∀ {cs : List Cl} {vs : List V} {us : List Value}, ClVals X.mg cs vs us → vs.length = cs.length := by
        intro cs
        induction cs with
        | nil =>
          intro vs us h
          obtain ⟨rfl, _⟩ := h
          rfl
        | cons c cs ih =>
          intro vs us h
          obtain ⟨v, vr, u, ur, rfl, rfl, _, h2⟩ := h
          simp only [List.length_cons, ih h2]
      exact this hc
    refine ⟨by rw [sizeLine_LINE, hvl]; exact hlen, fun t nt => ?_⟩
    obtain ⟨r2, e3⟩ := r1.still nt (.tup vs)
    have hk := hkind q S1 b e2
    exact ⟨x, t, vs, _, us, b, rfl, upd_same, hc.all, tyX_of r2 (hx.ext e3) hk, isinstL_kind hk e2 hc, h1 _ _ _ e3 r2 _ rfl⟩
end

/-! ### list(range(..)) -/
section
variable {X : Cx} {z : Kz} {W : WX} {a b : Expr} {fa fb : Env → Store → Res PV} {p p2 pos pos2 : Pos}
theorem rgV_rep {K : PySem.W.Frag} {G : Hp} {μ : List Addr} (a b : Int) : RepL K z G μ (rangeL a b) (rgV a b) := by
  unfold rangeL rgV
  generalize (b - a).toNat = n
  generalize List.range n = l
  induction l with
  | nil => rfl
  | cons i l ih => exact ⟨_, _, rfl, rfl, ih⟩
theorem rangeOk_of {a b : Int} (h : rangeOk a b = true) : RgOk a b ∧ (rgV a b).length ≤ LINE := by
  unfold rangeOk at h
  simp only [Bool.and_eq_true, decide_eq_true_eq] at h
  obtain ⟨h1, h2, h3, h4, h5⟩ := h
  unfold LINE at h5
  refine ⟨⟨h1, h2, h3, h4, by omega⟩, ?_⟩
  unfold rgV LINE
  rw [List.length_map, List.length_range]
  omega
theorem s_lrange1 (m : Bool) (hc : X.calm = true) (hg : Gl X "list") (hm : X.mg "list" = none) (hg2 : Gl X "range") (hm2 : X.mg "range" = none) (ha : PE X a (TE' X z W fa)) (hst : notStar a = true) :
    PE X (.Call (.Name "list" p) [.Call (.Name "range" p2) [a] [] pos2] [] pos) (TE' X z W fun ρ S => ((fa ρ S).bind fun v S => (Res.ok [] S).bind fun vs S => .ok (v :: vs) S).bind fun vs S => match rangeOf vs with
      | some (a, b) => laid m (.lst (rangeL a b)) S
      | none => .bad) := by
  refine PE.imp (pe_listRg hc hg hm (prg_1 hg2 hm2 ha (star_cons hst _ _)) rfl) fun σ H Q ⟨ρ, S, G, μ, hE, hS, h⟩ => ?_
  dsimp only at h
  rw [Res.bind_assoc] at h
  refine ⟨ρ, S, G, μ, hE, hS, h.bind.imp fun q S1 G1 μ1 H1 e1 r1 h1 x hx => ?_⟩
  simp only [Res.bind_ok] at h1
  cases q with
  | int n =>
    cases hx
    refine ⟨n, rfl, ?_⟩
    simp only [rangeOf] at h1
    cases hr : rangeOk 0 n with
    | false => simp only [hr, Bool.false_eq_true, if_false] at h1; exact h1.elim
    | true =>
      simp only [hr, if_true] at h1
      obtain ⟨g1, g2⟩ := rangeOk_of hr
      exact ⟨g1, fun t nt => mk_laidL r1 g2 (rgV_rep 0 n) (laid_of h1) t nt⟩
  | _ => exact h1.elim
theorem s_lrange2 (m : Bool) (hc : X.calm = true) (hg : Gl X "list") (hm : X.mg "list" = none) (hg2 : Gl X "range") (hm2 : X.mg "range" = none) (ha : PE X a (TE' X z W fa)) (hb : PE X b (TE' X z W fb)) (hst : notStar a = true) (hst2 : notStar b = true) :
    PE X (.Call (.Name "list" p) [.Call (.Name "range" p2) [a, b] [] pos2] [] pos) (TE' X z W fun ρ S => ((fa ρ S).bind fun v S => ((fb ρ S).bind fun w S => (Res.ok [] S).bind fun vs S => .ok (w :: vs) S).bind fun vs S => .ok (v :: vs) S).bind fun vs S => match rangeOf vs with
      | some (a, b) => laid m (.lst (rangeL a b)) S
      | none => .bad) := by
  refine PE.imp (pe_listRg hc hg hm (prg_2 hg2 hm2 ha hb (star_cons hst _ _) (star_cons hst2 _ _) (star_any _ _ (by rw [List.all_cons, hst2]; rfl))) rfl) fun σ H Q ⟨ρ, S, G, μ, hE, hS, h⟩ => ?_
  dsimp only at h
  rw [Res.bind_assoc] at h
  refine ⟨ρ, S, G, μ, hE, hS, h.bind.imp fun q S1 G1 μ1 H1 e1 r1 h1 x hx => ?_⟩
  rw [Res.bind_assoc, Res.bind_assoc] at h1
  refine ⟨ρ, S1, G1, μ1, hE.mono e1, r1, h1.bind.imp fun q2 S2 G2 μ2 H2 e2 r2 h2 y hy => ?_⟩
  simp only [Res.bind_ok] at h2
  cases q with
  | int n =>
    cases hx
    cases q2 with
    | int n2 =>
      cases hy
      refine ⟨n, n2, rfl, rfl, ?_⟩
      simp only [rangeOf] at h2
      cases hr : rangeOk n n2 with
      | false => simp only [hr, Bool.false_eq_true, if_false] at h2; exact h2.elim
      | true =>
        simp only [hr, if_true] at h2
        obtain ⟨g1, g2⟩ := rangeOk_of hr
        exact ⟨g1, fun t nt => mk_laidL r2 g2 (rgV_rep n n2) (laid_of h2) t nt⟩
    | _ => exact h2.elim
  | _ => cases q2 <;> exact h2.elim
end

/-! ### calls of built-ins -/
section
variable {X : Cx} {z : Kz} {W : WX} {e : Expr} {es : List Expr} {fs : Env → Store → Res (List PV)} {x : Str} {p pos : Pos}
theorem s_biF {f : Bi} {id : String} (m : Bool) (hc : CallR X (.builtin id) (rBi X.K z m f)) (hg : Gl X x) (hm : X.mg x = none) (hv : bootBuiltins x = some (.builtin id)) (hn : x ≠ "__name__") (hdb : (x == ("__debug__" : Str)) = false) (ha : PA X (e :: es) (TA' X z W fs)) (hst : notStar e = true) (hst2 : es.all notStar = true) :
    PE X (.Call (.Name x p) (e :: es) [] pos) (TE' X z W fun ρ S => (fs ρ S).bind fun vs S => (Res.of (bi f vs S) S).bind fun v S => laid m v S) :=
  PE.imp (pe_callB hc hg hm hv ha hn hdb (star_cons hst _ _) (star_any _ _ hst2)) (t_bi m fun _ _ _ h => h)
theorem s_biT {f : Bi} {id : String} (m : Bool) (hc : CallR X (.type id) (rBi X.K z m f)) (hg : Gl X x) (hm : X.mg x = none) (hv : bootBuiltins x = some (.type id)) (hn : x ≠ "__name__") (hdb : (x == ("__debug__" : Str)) = false) (ha : PA X (e :: es) (TA' X z W fs)) (hst : notStar e = true) (hst2 : es.all notStar = true) :
    PE X (.Call (.Name x p) (e :: es) [] pos) (TE' X z W fun ρ S => (fs ρ S).bind fun vs S => (Res.of (bi f vs S) S).bind fun v S => laid m v S) :=
  PE.imp (pe_callTy hc hg hm hv ha hn hdb (star_cons hst _ _) (star_any _ _ hst2)) (t_bi m fun _ _ _ h => h)
end

/-! ### dict displays -/
section
variable {X : Cx} {z : Kz} {W : WX} {pos : Pos} {ke ve : Expr} {fk fv : Env → Store → Res PV}
/-- pairs of a display: with the new dict standing empty at p -/
def TPx (K : PySem.W.Frag) (mg : Str → Option Value) (z : Kz) (W : WX) (f : Env → Store → Res (List (PV × PV))) : L2.St → Hp → (List (V × V) → Hp → Prop) → Prop := fun σ H Q =>
  ∃ ρ S G μ, RelE K z ρ σ G μ ∧ RelS K z S G μ H ∧ Post K mg z W σ G μ H (f ρ S) fun ps S' G' μ' H' => ∀ vs : List (V × V), Paired (fun (a : PV × PV) (b : V × V) => Rep K z G' μ' a.1 b.1 ∧ Rep K z G' μ' a.2 b.2) ps vs → Q vs H'
theorem t_pairs_nil (σ : L2.St) (H : Hp) (Q : List (V × V) → Hp → Prop) (h : TPx X.K X.mg z W (fun _ S => .ok [] S) σ H Q) : tPairs [] σ H Q := by
  obtain ⟨ρ, S, G, μ, hE, hS, h⟩ := h
  exact h G μ H (Ext.refl ..) hS [] .nil
theorem t_pairs_cons {trs : List (TE × TE)} {fr : Env → Store → Res (List (PV × PV))} (ih : ∀ (σ : L2.St) (H : Hp) (Q : List (V × V) → Hp → Prop), TPx X.K X.mg z W fr σ H Q → tPairs trs σ H Q)
    (σ : L2.St) (H : Hp) (Q : List (V × V) → Hp → Prop) (h : TPx X.K X.mg z W (fun ρ S => (fk ρ S).bind fun a S => (fv ρ S).bind fun b S => (fr ρ S).bind fun r S => .ok ((a, b) :: r) S) σ H Q) :
    tPairs ((TE' X z W fk, TE' X z W fv) :: trs) σ H Q := by
  obtain ⟨ρ, S, G, μ, hE, hS, h⟩ := h
  refine ⟨ρ, S, G, μ, hE, hS, h.bind.imp fun a S1 G1 μ1 H1 e1 r1 h1 x hx => ?_⟩
  refine ⟨ρ, S1, G1, μ1, hE.mono e1, r1, h1.bind.imp fun b S2 G2 μ2 H2 e2 r2 h2 y hy => ih σ H2 _ ?_⟩
  refine ⟨ρ, S2, G2, μ2, (hE.mono e1).mono e2, r2, h2.bind.imp fun r S3 G3 μ3 H3 e3 r3 h3 vs hvs => ?_⟩
  exact h3 G3 μ3 H3 (Ext.refl ..) r3 ((x, y) :: vs) (.cons ⟨(hx.ext e2).ext e3, hy.ext e3⟩ hvs)
theorem repK_merge {K : PySem.W.Frag} {G : Hp} {μ : List Addr} : ∀ {ps : List (PV × PV)} {kv : List (Key × V)} {acc : List (PV × PV)} {acv : List (Key × V)}, RepK K z G μ ps kv → RepK K z G μ acc acv → RepK K z G μ (mergeD acc ps) (mergeK acv kv)
  | [], kv, acc, acv, h, h' => by
    have h : kv = [] := h
    subst h
    exact h'
  | (k, x) :: r, kv, acc, acv, h, h' => by
    obtain ⟨q, v, t, rfl, rfl, h1, h2⟩ := h
    exact repK_merge (acc := dput acc (pk q) x) (acv := putK acv q v) h2 (h'.put q h1)
theorem pairs_keys {K : PySem.W.Frag} {G : Hp} {μ : List Addr} : ∀ {ps : List (PV × PV)} {vs : List (V × V)}, Paired (fun (a : PV × PV) (b : V × V) => Rep K z G μ a.1 b.1 ∧ Rep K z G μ a.2 b.2) ps vs → ps.all (fun p => isK1 p.1) = true →
    ∃ kv : List (Key × V), vs = kv.map (fun e => (kV e.1, e.2)) ∧ RepK K z G μ ps kv
  | _, _, .nil, _ => ⟨[], rfl, rfl⟩
  | (k, x) :: ps, (v, w) :: vs, .cons h t, f => by
    rw [List.all_cons, Bool.and_eq_true] at f
    obtain ⟨q, rfl⟩ := isK1_pk f.1
    obtain ⟨kv, h1, h2⟩ := pairs_keys t f.2
    have := rep_pk h.1
    subst h1
    refine ⟨(q, w) :: kv, ?_, q, w, kv, rfl, rfl, h.2, h2⟩
    rw [List.map_cons]
    show (v, w) :: _ = _
    rw [show v = kV q from this]
/-- the heap without p -/
def del (H : Hp) (p : Addr) : Hp := fun a => if a = p then none else H a
theorem del_ne {H : Hp} {p a : Addr} (h : a ≠ p) : del H p a = H a := if_neg h
theorem del_same {H : Hp} {p : Addr} : del H p p = none := if_pos rfl
theorem upd_del {H : Hp} {p : Addr} {o : HO} : upd (del H p) p o = upd H p o := by
  funext a
  by_cases h : a = p
  · subst h; rw [upd_same, upd_same]
  · rw [upd_ne h, upd_ne h, del_ne h]
theorem RelS.erase {K : PySem.W.Frag} {S : Store} {G H : Hp} {μ : List Addr} {p : Addr} (r : RelS K z S G μ H) (h : H p = some (.dK [])) (hg : G p = none) (hm : p ∉ μ) : RelS K z S G μ (del H p) := by
  refine ⟨fun a o e => ?_, r.len, fun l ob a e1 e2 => ?_, r.inj, fun l a e => ?_, r.gt, fun q hq => ?_, r.lam⟩
  · have ne : a ≠ p := fun w => by subst w; rw [hg] at e; cases e
    rw [del_ne ne]; exact r.g a o e
  · have ne : a ≠ p := fun q => hm (by rw [← q]; exact List.mem_of_getElem? e2)
    exact (r.at_ l ob a e1 e2).mono (Sub.refl G) (fun _ _ e => e) (del_ne ne) fun z => z
  · have ne : a ≠ p := fun q => hm (by rw [← q]; exact List.mem_of_getElem? e)
    rw [del_ne ne]; exact r.there l a e
  · obtain ⟨ps, h1, h2, h3⟩ := r.tabs q hq
    have n1 : q.1 ≠ p := fun w => by rw [w, h] at h1; cases h1
    refine ⟨ps, by rw [del_ne n1]; exact h1, h2, fun pos cv hc => ?_⟩
    obtain ⟨c, e, hc'⟩ := h3 pos cv hc
    have n2 : c ≠ p := fun w => by subst w; rw [h] at hc'; cases hc'
    exact ⟨c, e, by rw [del_ne n2]; exact hc'⟩
/-- a display that is not empty -/
theorem s_disp {keys : List (Option Expr)} {values : List Expr} {trs : List (TE × TE)} {f : Env → Store → Res (List (PV × PV))} (m : Bool) (h : PPs X pos keys values trs) (hall : keys.all (·.isSome) = true) (hl : keys.length = values.length) (h0 : keys ≠ []) (h15 : keys.length ≤ 15)
    (ht : ∀ (σ : L2.St) (H : Hp) (Q : List (V × V) → Hp → Prop), TPx X.K X.mg z W f σ H Q → tPairs trs σ H Q) (hf : ∀ ρ S ps S', f ρ S = .ok ps S' → ps.length ≤ 15) :
    PE X (.Dict keys values pos) (TE' X z W fun ρ S => (f ρ S).bind fun ps S => if ps.all (fun p => isK1 p.1) then laid m (.dct (mergeD [] ps)) S else .bad) := by
  refine PE.imp (pe_disp h hall hl h0 h15) fun σ H Q ⟨ρ, S, G, μ, hE, hS, hh⟩ => ?_
  intro p np
  obtain ⟨gp, mp⟩ := hS.fresh np
  -- the new dict stands beside
  have rS : RelS X.K z S G μ (upd H p (.dK [])) := by
    refine ⟨fun a o e => by rw [upd_ne (ne_of_none (hS.g a o e) np)]; exact hS.g a o e, hS.len, fun l ob a e1 e2 => ?_, hS.inj, fun l a e => ?_, hS.gt, tabs_upd hS.tabs np, hS.lam⟩
    · have ne : a ≠ p := fun q => mp (by rw [← q]; exact List.mem_of_getElem? e2)
      exact (hS.at_ l ob a e1 e2).mono (Sub.refl G) (fun _ _ e => e) (upd_ne ne) fun z => z
    · have ne : a ≠ p := fun q => mp (by rw [← q]; exact List.mem_of_getElem? e)
      rw [upd_ne ne]; exact hS.there l a e
  have eS : Ext G μ H G μ (upd H p (.dK [])) := ⟨Sub.refl G, fun _ _ e => e, fun a o e t g m => ⟨by rw [upd_ne (ne_of_none e np)]; exact e, g, m⟩⟩
  refine ht σ _ _ ⟨ρ, S, G, μ, hE, rS, ?_⟩
  dsimp only at hh
  cases er : f ρ S with
  | bad => rw [er] at hh; exact hh.elim
  | exc c S1 =>
    rw [er] at hh
    exact fun G2 μ2 H2 cls d e2 => hh G2 μ2 H2 cls d (eS.trans e2)
  | ok ps S1 =>
    simp only [er, Res.bind_ok] at hh
    intro G1 μ1 H1 e1 r1 vs hvs
    obtain ⟨k1, k2, k3⟩ := e1.f p (.dK []) upd_same ⟨(fun _ q => nomatch q), (fun _ q => nomatch q)⟩ gp mp
    refine ⟨k1, ?_⟩
    split at hh
    · rename_i hk
      obtain ⟨kv, rfl, hkv⟩ := pairs_keys hvs hk
      have hlen : kv.length ≤ 15 := by rw [← hkv.length]; exact hf ρ S ps S1 er
      refine ⟨kv, rfl, hlen, ?_⟩
      have hrep := repK_merge hkv (show RepK X.K z G1 μ1 [] [] from rfl)
      have hz : (mergeK [] kv).length ≤ LINE := by
        have := length_mergeK kv []
        simp only [List.length_nil, Nat.zero_add] at this
        unfold LINE
        omega
      have e2 : Ext G μ H G1 μ1 (del H1 p) := ⟨e1.g, e1.m, fun a o e t g m => by
        have ne : a ≠ p := ne_of_none e np
        rw [del_ne ne]
        exact e1.f a o (by rw [upd_ne ne]; exact e) t g m⟩
      rw [← upd_del]
      exact mk_laidD (r1.erase k1 k2 k3) hz hrep (laid_of (Post.ext hh e2)) p del_same
    · exact hh.elim
end
end CW
end

section
set_option Elab.async false
set_option linter.all false
set_option maxRecDepth 100000
set_option maxHeartbeats 2000000
/-! enumerate over a tuple. -/
namespace CW
open PySem PySem.Spec PyProof.Rows L2

theorem draws_tuple {prog : Program} {w : World} {A : Around} (hh : A.handled = none) (it l : Addr) (hne : l ≠ it) (items : Array Value) :
    Draws prog w A it [it, l] items.size (fun i v => items[i]? = some v) (fun i h => h.IsTupleIter it l i ∧ h.IsTuple l items) where
  live := fun _ _ st => let ⟨o, ho, _⟩ := st.1; ⟨o, ho⟩
  frame := fun _ _ _ st hk => ⟨st.1.at fun o e => hk it (by simp) o e, st.2.at fun o e => hk l (by simp) o e⟩
  item := fun i s Q E hi st hQ => by
    refine RZ.nextOf_tuple_item st.1 st.2 (x := items[i]) (by simp [hi]) fun h' hit' hs' => ?_
    exact hQ _ h' s.toks (by simp [hi]) ⟨hit', st.2.extBut hs'.extBut hne⟩ hs'
  done := fun s Q E st hE => RZ.nextOf_tuple_end hh st.1 st.2 (by simp) hE
theorem meets_enumerate_newT (l : Addr) (items : Array Value) :
    Meets (Builtin.«enumerate.__new__» ⟨[.type "enumerate", .ref l], []⟩) (fun _ R s => s.heap.IsTuple l items ∧
      R (.ok (.ret (.ref (s.heap.push { cls := .type "tuple_iterator", data := .fields #[.ref l, .int 0 0] }).objs.size)))
        { s with heap := (s.heap.push { cls := .type "tuple_iterator", data := .fields #[.ref l, .int 0 0] }).push { cls := .type "enumerate", data := .fields #[.none, .bool false, .ref s.heap.objs.size, rawInt 0, .none, .none] } }) :=
  .of_wp fun prog w A R s h => by
    obtain ⟨hp, g, d, tk, os⟩ := s; obtain ⟨hl, h⟩ := h
    have hsub := sub_enumerate
    have hL : Heap.IsTuple (Shared.heap ⟨hp, g, d, tk, os⟩) l items := hl
    obtain ⟨ol, hol, _⟩ := id hl
    wp_walk using PySem.AutoSeq1.wpAny_loadPart' hol
    refine wpAny_stack_any fun st => wpAny_pure ?_
    split
    · rename_i c _ _ _ _ _
      cases (c == Value.type "enumerate")
      · wp_walk using PySem.AutoSeq1.wpAny_loadPart' hol, wpAny_pyIter_tuple hL
        exact ⟨_, rfl, h⟩
      · wp_walk using PySem.AutoSeq1.wpAny_loadPart' hol, wpAny_pyIter_tuple hL
        exact ⟨_, rfl, h⟩
    · wp_walk using PySem.AutoSeq1.wpAny_loadPart' hol, wpAny_pyIter_tuple hL
      exact ⟨_, rfl, h⟩
theorem call_enumerate_tuple {prog : Program} {w : World} {A : Around} {E : Value → Shared → Prop} {s : Shared} {l : Addr} {items : Array Value} {Q : Value → Shared → Prop} (hL : s.heap.IsTuple l items)
    (h : ∀ h', IsEnum h' (s.heap.objs.size + 1) s.heap.objs.size 0 .none → h'.IsTupleIter s.heap.objs.size l 0 → h'.objs.size = s.heap.objs.size + 2 →
      (∀ b o, s.heap.get? b = some o → h'.get? b = some o) → Q (.ref (s.heap.objs.size + 1)) { s with heap := h' }) :
    wpAny (model prog w) A (call (.type "enumerate") [.ref l]) Q E s := by
  refine callType_new F.called_enumerate (by decide) (F.typeCall_enumerate_1 _) (F.newCall_enumerate_1 _) (fun obj => F.args_object_init_2 obj _) F.entry_enumerate_new
    (meets_enumerate_newT l items) ⟨hL, ?_⟩
  have hz : (s.heap.push { cls := .type "tuple_iterator", data := .fields #[.ref l, .int 0 0] }).objs.size = s.heap.objs.size + 1 := Heap.size_push ..
  show _ ∧ _
  rw [hz]
  have he : IsEnum ((s.heap.push { cls := .type "tuple_iterator", data := .fields #[.ref l, .int 0 0] }).push
      { cls := .type "enumerate", data := .fields #[.none, .bool false, .ref s.heap.objs.size, rawInt 0, .none, .none] }) (s.heap.objs.size + 1) s.heap.objs.size 0 .none := by
    have := Heap.get?_push_size (s.heap.push { cls := .type "tuple_iterator", data := .fields #[.ref l, .int 0 0] })
      (o := { cls := .type "enumerate", data := .fields #[.none, .bool false, .ref s.heap.objs.size, rawInt 0, .none, .none] }) rfl
    rw [hz] at this; exact this
  refine ⟨⟨_, he, rfl⟩, h _ he ⟨_, Heap.get?_push_of_some _ (Heap.get?_push_size _ rfl), rfl, rfl⟩ (by rw [Heap.size_push, hz]) fun b o x => Heap.get?_push_of_some _ (Heap.get?_push_of_some _ x)⟩
def IteT (K : PySem.W.Frag) (a : Addr) : It :=
  ⟨fun i H => ∃ (xs : List V) (x : V), SqT K H a xs ∧ xs[i]? = some x, fun i H v H' => ∃ T x, v = .ref T ∧ H T = none ∧ H' = upd H T (.tup [.int (i : Nat), x]) ∧ ∀ xs, SqT K H a xs → xs[i]? = some x, fun i H => ∃ xs : List V, SqT K H a xs ∧ xs.length ≤ i⟩
theorem turn_enumT {P : Program} {w : World} {K : PySem.W.Frag} {elts : List Expr} {kk : Nat} {tpos : Pos} (a e it : Addr) (hae : a ≠ e) (hai : a ≠ it) :
    Turn P w K (.Tuple elts kk tpos) (IteT K a) [e, it] e (fun i h => (∃ old, IsEnum h e it ((i : Nat) : Int) old) ∧ h.IsTupleIter it a i ∧ e ≠ it) where
  mem := by simp
  obj := fun i h st b hb => by
    obtain ⟨⟨old, he⟩, ⟨o, ho, hc, hd⟩, _⟩ := st
    have e' : b = e ∨ b = it := by simpa using hb
    rcases e' with z | z
    · rw [z]; exact ⟨_, he, fun v q => nomatch q⟩
    · rw [z]; exact ⟨o, ho, fun v q => by rw [hd] at q; cases q⟩
  keep := fun i h h' st k => let ⟨⟨old, he⟩, hi, hne⟩ := st; ⟨⟨old, k e (by simp) _ he⟩, hi.at fun o q => k it (by simp) o q, hne⟩
  item := by
    intro X hP hw hK hc i pins s σ H E I hf st hg
    subst hP hw hK
    obtain ⟨⟨old, he⟩, hit, hne⟩ := st
    obtain ⟨xs, x, hq, hx⟩ := hg
    obtain ⟨its, rv, p, hz⟩ := I.tuple hq
    obtain ⟨u, hu, ru⟩ := rv.get hx
    have hel : e < s.heap.objs.size := Heap.lt_size he
    have hil : it < s.heap.objs.size := by obtain ⟨_, q, _⟩ := hit; exact Heap.lt_size q
    have hlt : i < its.toArray.size := by
      have := (List.getElem?_eq_some_iff.mp hu).1
      simpa using this
    refine wpAny_pyNext_enum_itemD (draws_tuple (A := X.A.in1) (show X.A.in1.handled = none from I.ok.hd hc) it a hai its.toArray) he ⟨hit, p⟩ hlt hne (by simp [hne, Ne.symm hae]) fun v h' tk hv ho hst' hT hsz hk => ?_
    have ev : v = u := by
      have : its.toArray[i]? = some u := by simpa using hu
      rw [this] at hv; exact (Option.some.inj hv).symm
    subst ev
    refine ⟨_, rfl, wpAny_letOwnedTupleGo_enum (s := { s with heap := h', toks := tk + 1 }) ho fun h'' he' sb => ?_⟩
    have hT2 : h''.get? s.heap.objs.size = some { cls := .type "tuple", data := .seq #[.int i tk, v] } := (sb.2 _ (Nat.ne_of_gt hel)).trans hT
    have new : ObjOk X.prog X.w (upd H s.heap.objs.size (.tup [.int (i : Nat), x])) h'' s.heap.objs.size (.tup [.int (i : Nat), x]) :=
      ⟨by show 2 ≤ sizeLine; decide, [.int i tk, v], .cons ⟨_, rfl⟩ (.cons ru .nil), ⟨_, hT2, rfl, _, rfl⟩⟩
    have I1 : Inv X pins σ (upd H s.heap.objs.size (.tup [.int (i : Nat), x])) { s with heap := h'', toks := tk + 1 } :=
      I.turnedNew (ch := [e, it]) (fun b ob hb q => (sb.2 b (fun z => hb (by simp [z]))).trans (hk b ob (fun z => hb (by simp [z])) (fun z => hb (by simp [z])) q)) hf (Nat.le_refl _) new
    refine ⟨.ref s.heap.objs.size, _, I1, rfl, ⟨_, x, rfl, I.hok.fresh (Nat.le_refl _), rfl, fun ys hy => by rw [I.tuple_inj hy hq]; exact hx⟩, ⟨⟨v, ?_⟩, hst'.1.at fun o q => (sb.2 it (Ne.symm hne)).trans q, hne⟩, fun b hb => ?_⟩
    · have e1 : ((i + 1 : Nat) : Int) = (i : Int) + 1 := by omega
      rw [e1]; exact he'
    · have hb' : b < s.heap.objs.size := by
        have e' : b = e ∨ b = it := by simpa using hb
        rcases e' with z | z
        · rw [z]; exact hel
        · rw [z]; exact hil
      rw [upd_ne (Nat.ne_of_lt hb')]
      exact (hf b hb).1
  done := by
    intro X hP hw hK hc i pins s σ H E I hf st hg
    subst hP hw hK
    obtain ⟨⟨old, he⟩, hit, hne⟩ := st
    obtain ⟨xs, hq, hx⟩ := hg
    obtain ⟨its, rv, p, hz⟩ := I.tuple hq
    obtain ⟨f0, f1, f2, f3, f4, f5⟩ := hf it (by simp)
    have hl := rv.length
    have hT : s.TypeIs (.ref e) "enumerate" := ⟨_, he, rfl⟩
    unfold pyNext
    refine wpAny_bind (wpAny_attempt (wpAny_callSpecial?_slot (name := Str.ofString "__next__") hT F.slot_enumerate_next
      (wpAny_call_entry F.slot_enumerate_next hT F.entry_enumerate_next ?_ (F.args_enumerate_next_1 _))))
    show wpAny _ _ (field (.ref e) 2 >>= _) _ _ _
    refine wpAny_bind (wpAny_field he rfl (x := .ref it) rfl ?_)
    refine wpAny_bind (RZ.nextOf_tuple_end (I.ok.hd hc) hit p (by simp; omega) fun h' x eb hx' => ?_)
    obtain ⟨o, ho, hc'⟩ := hx'
    refine wpAny_bind (wpAny_isInstance (T := "StopIteration") (b := true) ⟨o, ho, hc'⟩ isSubtype_stop ?_)
    exact wpAny_pure ⟨rfl, I.turned (t' := s.toks) (fun b o hb q => eb b o hb q) f0 f1 f3 f4 f5⟩
  self := fun A i s Q E st h => let ⟨⟨_, he⟩, _⟩ := st; wpAny_pyIter_enum he h
/-- a list or a tuple -/
def iEnumA (K : PySem.W.Frag) (ta : TA) : TI := fun σ H R => ta σ H fun vs H1 => ∃ a xs, vs = [.ref a] ∧ ((SqL K H1 a xs ∧ R (Ite K a) H1) ∨ (SqT K H1 a xs ∧ R (IteT K a) H1))
theorem pi_enumA {X : Cx} {e : Expr} {ta : TA} {p pos tpos : Pos} {elts : List Expr} {kk : Nat} (hg : Gl X "enumerate") (hm : X.mg "enumerate" = none) (ha : PA X [e] ta) (hs : starEach [e] X.env = [(false, eval e X.env)]) :
    PI X (.Tuple elts kk tpos) (.Call (.Name "enumerate" p) [e] [] pos) (iEnumA X.K ta) := by
  refine ⟨fun pins s σ H R I h => ?_⟩
  refine Call_ (ld_blt I hg hm boot_enumerate (PyProof.Rows.callWith_type1 (thn (ha.run pos pins s σ H _ I h) fun us s1 ⟨vs, H1, I1, r1, q1⟩ => ?_) hs rfl))
  obtain ⟨a, xs, ex, q1⟩ := q1
  subst ex
  cases r1 with
  | cons r rr =>
    cases rr
    cases r
    have fr : ∀ b, b ∈ [s1.heap.objs.size + 1, s1.heap.objs.size] → FpOk X pins H1 b := fun b hb => by
      have e' : b = s1.heap.objs.size + 1 ∨ b = s1.heap.objs.size := by simpa using hb
      have hle : s1.heap.objs.size ≤ b := by
        rcases e' with z | z
        · rw [z]; exact Nat.le_add_right _ _
        · rw [z]; exact Nat.le_refl _
      exact I1.fpOk hle (I1.hok.fresh hle)
    rcases q1 with ⟨hq, q⟩ | ⟨hq, q⟩
    · obtain ⟨its, rv, p', hz⟩ := I1.list hq
      refine call_enumerate_list p'.isList fun h' he hit hsz hk => wpAny_pyIter_enum he ?_
      have I2 : Inv X pins σ H1 { s1 with heap := h' } := I1.kept (t' := s1.toks) hk
      exact ⟨s1.heap.objs.size + 1, [s1.heap.objs.size + 1, s1.heap.objs.size], _, _, H1, rfl, I2, turn_enum a (s1.heap.objs.size + 1) s1.heap.objs.size, ⟨⟨.none, he⟩, hit, Nat.succ_ne_self _⟩, fr, q⟩
    · obtain ⟨its, rv, p', hz⟩ := I1.tuple hq
      have hal : a < s1.heap.objs.size := by obtain ⟨_, q, _⟩ := id p'; exact Heap.lt_size q
      refine call_enumerate_tuple (show s1.heap.IsTuple a its.toArray from p') fun h' he hit hsz hk => wpAny_pyIter_enum he ?_
      have I2 : Inv X pins σ H1 { s1 with heap := h' } := I1.kept (t' := s1.toks) hk
      exact ⟨s1.heap.objs.size + 1, [s1.heap.objs.size + 1, s1.heap.objs.size], _, _, H1, rfl, I2, turn_enumT a (s1.heap.objs.size + 1) s1.heap.objs.size (Nat.ne_of_lt (Nat.lt_succ_of_lt hal)) (Nat.ne_of_lt hal), ⟨⟨.none, he⟩, hit, Nat.succ_ne_self _⟩, fr, q⟩
end CW
end

section
set_option Elab.async false
set_option linter.all false
set_option maxRecDepth 100000
set_option maxHeartbeats 2000000
/-! What loops and comprehensions walk; targets of names; comprehensions. -/
namespace CW
open PySem PySem.Spec PyProof.Rows L2

/-! ### an untracked object of ours beside -/
section
variable {K : PySem.W.Frag} {z : Kz} {S : Store} {G H : Hp} {μ : List Addr} {p : Addr} {o o' : HO}
theorem RelS.erase' (r : RelS K z S G μ H) (h : H p = some o) (hg : G p = none) (hm : p ∉ μ) (h1 : ∀ ps, o ≠ .tbl ps) (h2 : ∀ q, o ≠ LamX.CodeO p q) : RelS K z S G μ (del H p) := by
  refine ⟨fun a o e => ?_, r.len, fun l ob a e1 e2 => ?_, r.inj, fun l a e => ?_, r.gt, fun q hq => ?_, r.lam⟩
  · have ne : a ≠ p := fun w => by subst w; rw [hg] at e; cases e
    rw [del_ne ne]; exact r.g a o e
  · have ne : a ≠ p := fun q => hm (by rw [← q]; exact List.mem_of_getElem? e2)
    exact (r.at_ l ob a e1 e2).mono (Sub.refl G) (fun _ _ e => e) (del_ne ne) fun z => z
  · have ne : a ≠ p := fun q => hm (by rw [← q]; exact List.mem_of_getElem? e)
    rw [del_ne ne]; exact r.there l a e
  · obtain ⟨ps, h1', h2', h3⟩ := r.tabs q hq
    have n1 : q.1 ≠ p := fun w => by rw [w, h] at h1'; exact h1 _ (Option.some.inj h1')
    refine ⟨ps, by rw [del_ne n1]; exact h1', h2', fun pos cv hc => ?_⟩
    obtain ⟨c, e, hc'⟩ := h3 pos cv hc
    have n2 : c ≠ p := fun w => by subst w; rw [h] at hc'; exact h2 _ (Option.some.inj hc')
    exact ⟨c, e, by rw [del_ne n2]; exact hc'⟩
theorem RelS.beside (r : RelS K z S G μ H) (h : H p = none) (o : HO) : RelS K z S G μ (upd H p o) := by
  obtain ⟨gp, mp⟩ := r.fresh h
  refine ⟨fun a o e => by rw [upd_ne (ne_of_none (r.g a o e) h)]; exact r.g a o e, r.len, fun l ob a e1 e2 => ?_, r.inj, fun l a e => ?_, r.gt, tabs_upd r.tabs h, r.lam⟩
  · have ne : a ≠ p := fun q => mp (by rw [← q]; exact List.mem_of_getElem? e2)
    exact (r.at_ l ob a e1 e2).mono (Sub.refl G) (fun _ _ e => e) (upd_ne ne) fun z => z
  · have ne : a ≠ p := fun q => mp (by rw [← q]; exact List.mem_of_getElem? e)
    rw [upd_ne ne]; exact r.there l a e
theorem upd_self {H : Hp} {p : Addr} {o : HO} (h : H p = some o) : upd H p o = H := by
  funext a
  by_cases q : a = p
  · subst q; rw [upd_same, h]
  · rw [upd_ne q]
theorem ext_beside {G' : Hp} {μ' : List Addr} {H' : Hp} (e : Ext G μ H G' μ' H') (h : H p = none) (o : HO) : Ext G μ H G' μ' (upd H' p o) :=
  ⟨e.g, e.m, fun a u q t g m => by rw [upd_ne (ne_of_none q h)]; exact e.f a u q t g m⟩
theorem ext_del {G' : Hp} {μ' : List Addr} {H' : Hp} (e : Ext G μ H G' μ' H') (h : H p = none) : Ext G μ H G' μ' (del H' p) :=
  ⟨e.g, e.m, fun a u q t g m => by rw [del_ne (ne_of_none q h)]; exact e.f a u q t g m⟩
theorem ext_upd (np : H p = none) (o : HO) : Ext G μ H G μ (upd H p o) := ext_beside (Ext.refl ..) np o
end

/-! ### what is walked -/
/-- J yields ps, at every later heap -/
def Serves (K : PySem.W.Frag) (z : Kz) (G : Hp) (μ : List Addr) (ps : List PV) (J : It) : Prop := ps.length ≤ LINE ∧ ∀ (G' : Hp) (μ' : List Addr) (H' : Hp) (S' : Store), Sub G G' → (∀ (l : Nat) (a : Addr), μ[l]? = some a → μ'[l]? = some a) → RelS K z S' G' μ' H' →
  J.stop ps.length H' ∧ ∀ (i : Nat) (p : PV), ps[i]? = some p → J.go i H' ∧ ∀ x H'', J.yld i H' x H'' → ∃ G'', RelS K z S' G'' μ' H'' ∧ Ext G' μ' H' G'' μ' H'' ∧ Rep K z G'' μ' p x
def TIx (K : PySem.W.Frag) (mg : Str → Option Value) (z : Kz) (W : WX) (f : Env → Store → Res (List PV)) : TI := fun σ H R =>
  ∃ ρ S G μ, RelE K z ρ σ G μ ∧ RelS K z S G μ H ∧ Post K mg z W σ G μ H (f ρ S) fun ps S' G' μ' H' => ∀ J, Serves K z G' μ' ps J → R J H'
abbrev TI' (X : Cx) (z : Kz) (W : WX) (f : Env → Store → Res (List PV)) : TI := TIx X.K X.mg z W f
theorem PI.imp {X : Cx} {tg e : Expr} {t t' : TI} (h : PI X tg e t) (i : ∀ σ H R, t' σ H R → t σ H R) : PI X tg e t' := ⟨fun pins s σ H R I q => h.run pins s σ H R I (i σ H R q)⟩
section
variable {K : PySem.W.Frag} {z : Kz} {G H : Hp} {μ : List Addr}
theorem serves_lst {ps : List PV} {a : Addr} (h : Rep K z G μ (.lst ps) (.ref a)) : Serves K z G μ ps (Itl K a) := by
  obtain ⟨b, vs, h1, h2, h3, h4⟩ := h
  cases h1
  refine ⟨by rw [h4.length]; exact h3, fun G' μ' H' S' s m r => ?_⟩
  have rd : SqL K H' a vs := .inl (r.g.rd (s.rd h2))
  have h4' := h4.mono s m
  refine ⟨⟨vs, rd, by rw [h4.length]; exact Nat.le_refl _⟩, fun i p hp => ?_⟩
  obtain ⟨v, hv, hr⟩ := h4'.get hp
  refine ⟨⟨vs, v, rd, hv⟩, fun x H'' y => ?_⟩
  obtain ⟨rfl, y⟩ := y
  have := y vs rd
  rw [hv] at this
  cases this
  exact ⟨G', r, Ext.refl .., hr⟩
theorem serves_tup {ps : List PV} {a : Addr} (h : Rep K z G μ (.tup ps) (.ref a)) : Serves K z G μ ps (Itt K a) := by
  obtain ⟨b, vs, h1, h2, h3, h4⟩ := h
  cases h1
  refine ⟨by rw [h4.length]; exact h3, fun G' μ' H' S' s m r => ?_⟩
  have rd : SqT K H' a vs := r.g.sqT (s.sqT h2)
  have h4' := h4.mono s m
  refine ⟨⟨vs, rd, by rw [h4.length]; exact Nat.le_refl _⟩, fun i p hp => ?_⟩
  obtain ⟨v, hv, hr⟩ := h4'.get hp
  refine ⟨⟨vs, v, rd, hv⟩, fun x H'' y => ?_⟩
  obtain ⟨rfl, y⟩ := y
  have := y vs rd
  rw [hv] at this
  cases this
  exact ⟨G', r, Ext.refl .., hr⟩
theorem serves_str {x : Str} (hl : x.length ≤ LINE) : Serves K z G μ (x.cps.toList.map fun c => .str ⟨#[c]⟩) (Its x) := by
  have hs : (x.cps.toList.map fun c => PV.str ⟨#[c]⟩).length = x.cps.size := by simp
  refine ⟨by rw [hs]; exact hl, fun G' μ' H' S' s m r => ?_⟩
  refine ⟨by rw [hs]; exact Nat.le_refl _, fun i p hp => ?_⟩
  have hi : i < x.cps.size := by
    have := (List.getElem?_eq_some_iff.mp hp).1
    rw [hs] at this; exact this
  refine ⟨hi, fun v H'' y => ?_⟩
  obtain ⟨rfl, c, hc, rfl⟩ := y
  rw [List.getElem?_map] at hp
  have hc' : x.cps.toList[i]? = some c := by rw [Array.getElem?_toList]; exact hc
  rw [hc'] at hp
  cases hp
  exact ⟨G', r, Ext.refl .., rfl⟩
theorem serves_range {a b : Int} (h : rangeOk a b = true) : Serves K z G μ (rangeL a b) (Itr a (b - a).toNat) := by
  have hs : (rangeL a b).length = (b - a).toNat := by unfold rangeL; simp
  obtain ⟨_, h2⟩ := rangeOk_of h
  refine ⟨by rw [hs]; unfold rgV at h2; simpa using h2, fun G' μ' H' S' s m r => ?_⟩
  refine ⟨by rw [hs]; exact Nat.le_refl _, fun i p hp => ?_⟩
  have hi : i < (b - a).toNat := by
    have := (List.getElem?_eq_some_iff.mp hp).1
    rw [hs] at this; exact this
  refine ⟨hi, fun v H'' y => ?_⟩
  obtain ⟨rfl, rfl⟩ := y
  unfold rangeL at hp
  rw [List.getElem?_map, List.getElem?_range hi] at hp
  cases hp
  exact ⟨G', r, Ext.refl .., rfl⟩
theorem length_enumL : ∀ (n : Nat) (xs : List PV), (enumL n xs).length = xs.length
  | _, [] => rfl
  | n, x :: xs => by simp [enumL, length_enumL (n + 1) xs]
theorem get_enumL : ∀ {n i : Nat} {xs : List PV} {p : PV}, (enumL n xs)[i]? = some p → ∃ x, xs[i]? = some x ∧ p = .tup [.int ((n + i : Nat) : Int), x]
  | _, _, [], _, h => by simp [enumL] at h
  | n, 0, x :: xs, p, h => by simp [enumL] at h; exact ⟨x, rfl, by rw [← h]; simp⟩
  | n, i + 1, x :: xs, p, h => by
    obtain ⟨y, h1, h2⟩ := get_enumL (n := n + 1) (i := i) (xs := xs) (by simpa [enumL] using h)
    exact ⟨y, by simpa using h1, by rw [h2, show n + 1 + i = n + (i + 1) from by omega]⟩
/-- a new pair -/
theorem pair_new {S : Store} {T : Addr} {p q : PV} {x y : V} (r : RelS K z S G μ H) (hT : H T = none) (hp : Rep K z G μ p x) (hq : Rep K z G μ q y) : ∃ G'', RelS K z S G'' μ (upd H T (.tup [x, y])) ∧ Ext G μ H G'' μ (upd H T (.tup [x, y])) ∧ Rep K z G'' μ (.tup [p, q]) (.ref T) := by
  obtain ⟨r', e'⟩ := r.still hT (.tup [x, y])
  exact ⟨_, r', e', T, [x, y], rfl, .inl (.inl upd_same), show 2 ≤ LINE by decide, .cons (hp.ext e') (.one (hq.ext e'))⟩
theorem serves_enumL {ps : List PV} {a : Addr} (h : Rep K z G μ (.lst ps) (.ref a)) : Serves K z G μ (enumL 0 ps) (Ite K a) := by
  obtain ⟨b, vs, h1, h2, h3, h4⟩ := h
  cases h1
  refine ⟨by rw [length_enumL, h4.length]; exact h3, fun G' μ' H' S' s m r => ?_⟩
  have rd : SqL K H' a vs := .inl (r.g.rd (s.rd h2))
  have h4' := h4.mono s m
  refine ⟨⟨vs, rd, by rw [length_enumL, h4.length]; exact Nat.le_refl _⟩, fun i p hp => ?_⟩
  obtain ⟨q, hq, rfl⟩ := get_enumL hp
  obtain ⟨v, hv, hr⟩ := h4'.get hq
  refine ⟨⟨vs, v, rd, hv⟩, fun x H'' y => ?_⟩
  obtain ⟨T, x', rfl, hT, rfl, y⟩ := y
  have := y vs rd
  rw [hv] at this
  cases this
  exact pair_new r hT (by rw [Nat.zero_add]; rfl) hr
theorem serves_enumT {ps : List PV} {a : Addr} (h : Rep K z G μ (.tup ps) (.ref a)) : Serves K z G μ (enumL 0 ps) (IteT K a) := by
  obtain ⟨b, vs, h1, h2, h3, h4⟩ := h
  cases h1
  refine ⟨by rw [length_enumL, h4.length]; exact h3, fun G' μ' H' S' s m r => ?_⟩
  have rd : SqT K H' a vs := r.g.sqT (s.sqT h2)
  have h4' := h4.mono s m
  refine ⟨⟨vs, rd, by rw [length_enumL, h4.length]; exact Nat.le_refl _⟩, fun i p hp => ?_⟩
  obtain ⟨q, hq, rfl⟩ := get_enumL hp
  obtain ⟨v, hv, hr⟩ := h4'.get hq
  refine ⟨⟨vs, v, rd, hv⟩, fun x H'' y => ?_⟩
  obtain ⟨T, x', rfl, hT, rfl, y⟩ := y
  have := y vs rd
  rw [hv] at this
  cases this
  exact pair_new r hT (by rw [Nat.zero_add]; rfl) hr
theorem length_zipL : ∀ (xs ys : List PV), (zipL xs ys).length = min xs.length ys.length
  | [], ys => by simp [zipL]
  | x :: xs, [] => by simp [zipL]
  | x :: xs, y :: ys => by simp [zipL, length_zipL xs ys]
theorem get_zipL : ∀ {i : Nat} {xs ys : List PV} {p : PV}, (zipL xs ys)[i]? = some p → ∃ x y, xs[i]? = some x ∧ ys[i]? = some y ∧ p = .tup [x, y]
  | _, [], _, _, h => by simp [zipL] at h
  | _, _ :: _, [], _, h => by simp [zipL] at h
  | 0, x :: xs, y :: ys, p, h => by simp [zipL] at h; exact ⟨x, y, rfl, rfl, h.symm⟩
  | i + 1, x :: xs, y :: ys, p, h => by
    obtain ⟨a, b, h1, h2, h3⟩ := get_zipL (i := i) (xs := xs) (ys := ys) (by simpa [zipL] using h)
    exact ⟨a, b, by simpa using h1, by simpa using h2, h3⟩
theorem serves_zipL {ps qs : List PV} {a b : Addr} (h : Rep K z G μ (.lst ps) (.ref a)) (h' : Rep K z G μ (.lst qs) (.ref b)) : Serves K z G μ (zipL ps qs) (Itz K a b) := by
  obtain ⟨a', vs, h1, h2, h3, h4⟩ := h
  cases h1
  obtain ⟨b', ws, k1, k2, k3, k4⟩ := h'
  cases k1
  have l1 := h4.length
  have l2 := k4.length
  refine ⟨by rw [length_zipL]; omega, fun G' μ' H' S' s m r => ?_⟩
  have rd : SqL K H' a vs := .inl (r.g.rd (s.rd h2))
  have rd2 : SqL K H' b ws := .inl (r.g.rd (s.rd k2))
  have h4' := h4.mono s m
  have k4' := k4.mono s m
  refine ⟨⟨vs, ws, rd, rd2, by rw [length_zipL]; omega⟩, fun i p hp => ?_⟩
  obtain ⟨q, q2, hq, hq2, rfl⟩ := get_zipL hp
  obtain ⟨v, hv, hr⟩ := h4'.get hq
  obtain ⟨v2, hv2, hr2⟩ := k4'.get hq2
  refine ⟨⟨vs, ws, v, v2, rd, rd2, hv, hv2⟩, fun x H'' y => ?_⟩
  obtain ⟨T, x', y', rfl, hT, rfl, y1, y2⟩ := y
  have a1 := y1 vs rd
  have a2 := y2 ws rd2
  rw [hv] at a1
  rw [hv2] at a2
  cases a1
  cases a2
  exact pair_new r hT hr hr2
theorem serves_zipT {ps qs : List PV} {a b : Addr} (h : Rep K z G μ (.tup ps) (.ref a)) (h' : Rep K z G μ (.tup qs) (.ref b)) : Serves K z G μ (zipL ps qs) (RZ.ItzT K a b) := by
  obtain ⟨a', vs, h1, h2, h3, h4⟩ := h
  cases h1
  obtain ⟨b', ws, k1, k2, k3, k4⟩ := h'
  cases k1
  have l1 := h4.length
  have l2 := k4.length
  refine ⟨by rw [length_zipL]; omega, fun G' μ' H' S' s m r => ?_⟩
  have rd : SqT K H' a vs := r.g.sqT (s.sqT h2)
  have rd2 : SqT K H' b ws := r.g.sqT (s.sqT k2)
  have h4' := h4.mono s m
  have k4' := k4.mono s m
  refine ⟨⟨vs, ws, rd, rd2, by rw [length_zipL]; omega⟩, fun i p hp => ?_⟩
  obtain ⟨q, q2, hq, hq2, rfl⟩ := get_zipL hp
  obtain ⟨v, hv, hr⟩ := h4'.get hq
  obtain ⟨v2, hv2, hr2⟩ := k4'.get hq2
  refine ⟨⟨vs, ws, v, v2, rd, rd2, hv, hv2⟩, fun x H'' y => ?_⟩
  obtain ⟨T, x', y', rfl, hT, rfl, y1, y2⟩ := y
  have a1 := y1 vs rd
  have a2 := y2 ws rd2
  rw [hv] at a1
  rw [hv2] at a2
  cases a1
  cases a2
  exact pair_new r hT hr hr2
end
section
variable {X : Cx} {z : Kz} {W : WX} {tg e a b : Expr} {fe fa fb : Env → Store → Res PV} {p pos tpos : Pos} {elts : List Expr} {kk : Nat}
def iSeqA (K : PySem.W.Frag) (tl : TE) : TI := fun σ H R => tl σ H fun v H1 => (∃ a xs, v = .ref a ∧ SqL K H1 a xs ∧ R (Itl K a) H1) ∨ (∃ a xs, v = .ref a ∧ SqT K H1 a xs ∧ R (Itt K a) H1) ∨ ∃ x, v = .str x ∧ R (Its x) H1
theorem pi_seqA {l : Expr} {tl : TE} (hl : PE X l tl) : PI X tg l (iSeqA X.K tl) := by
  refine ⟨fun pins s σ H R I h => ?_⟩
  refine thn (hl.run pins s σ H _ I h) fun v s1 ⟨x, H1, I1, r1, q1⟩ => ?_
  have fr : ∀ b, b ∈ [s1.heap.objs.size] → FpOk X pins H1 b := fun b hb => by
    have e : b = s1.heap.objs.size := by simpa using hb
    subst e
    exact I1.fpOk (Nat.le_refl _) (I1.hok.fresh (Nat.le_refl _))
  rcases q1 with ⟨a, xs, e, hq, q⟩ | ⟨a, xs, e, hq, q⟩ | ⟨x, ex, q⟩
  · subst e
    cases r1
    obtain ⟨its, rv, p, hz⟩ := I1.list hq
    refine wpAny_pyIter_list p.isList ?_
    exact ⟨s1.heap.objs.size, [s1.heap.objs.size], _, _, H1, rfl, I1.kept (t' := s1.toks) fun b o e => Heap.get?_push_of_some _ e, turn_list a _, ⟨_, Heap.get?_push_size _ rfl, rfl, rfl⟩, fr, q⟩
  · subst e
    cases r1
    obtain ⟨its, rv, p, hz⟩ := I1.tuple hq
    refine wpAny_pyIter_tuple (show s1.heap.IsTuple a its.toArray from p) ?_
    exact ⟨s1.heap.objs.size, [s1.heap.objs.size], _, _, H1, rfl, I1.kept (t' := s1.toks) fun b o e => Heap.get?_push_of_some _ e, turn_tuple a _, ⟨_, Heap.get?_push_size _ rfl, rfl, rfl⟩, fr, q⟩
  · subst ex
    obtain ⟨t, rfl⟩ := r1
    cases ha : x.cps.all (· < 128)
    · exact wpAny_pyIter_wide ha (pi_one (tk := s1.toks) I1 _ (turn_str _ x t "str_iterator" (.inr rfl)) ⟨_, Heap.get?_push_size _ rfl, rfl, rfl⟩ q)
    · exact wpAny_pyIter_ascii ha (pi_one (tk := s1.toks) I1 _ (turn_str _ x t "str_ascii_iterator" (.inl rfl)) ⟨_, Heap.get?_push_size _ rfl, rfl, rfl⟩ q)
theorem si_seq (he : PE X e (TE' X z W fe)) : PI X tg e (TI' X z W fun ρ S => (fe ρ S).bind fun v S => Res.of (walkOf v) S) := by
  refine PI.imp (pi_seqA he) fun σ H R ⟨ρ, S, G, μ, hE, hS, h⟩ => ?_
  refine ⟨ρ, S, G, μ, hE, hS, h.bind.imp fun q S1 G1 μ1 H1 e1 r1 h1 x hx => ?_⟩
  cases q with
  | tup xs =>
    have hx' := hx
    obtain ⟨a, vs, rfl, h2, h3, h4⟩ := hx
    exact .inr (.inl ⟨a, vs, rfl, r1.g.sqT h2, h1 _ _ _ (Ext.refl ..) r1 _ (serves_tup hx')⟩)
  | lst xs =>
    have hx' := hx
    obtain ⟨a, vs, rfl, h2, h3, h4⟩ := hx
    exact .inl ⟨a, vs, rfl, .inl (r1.g.rd h2), h1 _ _ _ (Ext.refl ..) r1 _ (serves_lst hx')⟩
  | str y =>
    cases hx
    simp only [walkOf] at h1
    split at h1
    · rename_i hl
      exact .inr (.inr ⟨y, rfl, h1 _ _ _ (Ext.refl ..) r1 _ (serves_str (of_decide_eq_true hl))⟩)
    · exact h1.elim
  | _ => exact h1.elim
theorem si_range1 (hg : Gl X "range") (hm : X.mg "range" = none) (ha : PE X a (TE' X z W fa)) (hst : notStar a = true) : PI X tg (.Call (.Name "range" p) [a] [] pos) (TI' X z W fun ρ S => ((fa ρ S).bind fun v S => (Res.ok [] S).bind fun vs S => .ok (v :: vs) S).bind fun vs S => Res.of ((rangeOf vs).map fun p => rangeL p.1 p.2) S) := by
  refine PI.imp (pi_range1 hg hm (pa_cons ha pa_nil (star_cons hst _ _)) (star_cons hst _ _)) fun σ H R ⟨ρ, S, G, μ, hE, hS, h⟩ => ?_
  dsimp only at h
  rw [Res.bind_assoc] at h
  refine ⟨ρ, S, G, μ, hE, hS, h.bind.imp fun q S1 G1 μ1 H1 e1 r1 h1 x hx => ?_⟩
  simp only [Res.bind_ok] at h1
  cases q with
  | int n =>
    cases hx
    simp only [rangeOf] at h1
    cases hr : rangeOk 0 n with
    | false => simp only [hr, Bool.false_eq_true, if_false] at h1; exact h1.elim
    | true =>
      simp only [hr, if_true] at h1
      obtain ⟨g1, g2⟩ := rangeOk_of hr
      have hr' := hr
      unfold rangeOk at hr'
      simp only [Bool.and_eq_true, decide_eq_true_eq] at hr'
      have sv := h1 _ _ _ (Ext.refl ..) r1 _ (serves_range hr)
      rw [Int.sub_zero] at sv
      exact ⟨n, rfl, by omega, by omega, sv⟩
  | _ => exact h1.elim
theorem si_range2 (hg : Gl X "range") (hm : X.mg "range" = none) (ha : PE X a (TE' X z W fa)) (hb : PE X b (TE' X z W fb)) (hst : notStar a = true) (hst2 : notStar b = true) : PI X tg (.Call (.Name "range" p) [a, b] [] pos) (TI' X z W fun ρ S => ((fa ρ S).bind fun v S => ((fb ρ S).bind fun w S => (Res.ok [] S).bind fun vs S => .ok (w :: vs) S).bind fun vs S => .ok (v :: vs) S).bind fun vs S => Res.of ((rangeOf vs).map fun p => rangeL p.1 p.2) S) := by
  refine PI.imp (pi_range2 hg hm (pa_cons ha (pa_cons hb pa_nil (star_cons hst2 _ _)) (star_cons hst _ _)) (by rw [star_cons hst, star_cons hst2]; rfl) (star_cons hst2 _ _)) fun σ H R ⟨ρ, S, G, μ, hE, hS, h⟩ => ?_
  dsimp only at h
  rw [Res.bind_assoc] at h
  refine ⟨ρ, S, G, μ, hE, hS, h.bind.imp fun q S1 G1 μ1 H1 e1 r1 h1 x hx => ?_⟩
  rw [Res.bind_assoc, Res.bind_assoc] at h1
  refine ⟨ρ, S1, G1, μ1, hE.mono e1, r1, h1.bind.imp fun q2 S2 G2 μ2 H2 e2 r2 h2 y hy => ?_⟩
  simp only [Res.bind_ok] at h2
  cases q with
  | int n =>
    cases hx
    cases q2 with
    | int n2 =>
      cases hy
      simp only [rangeOf] at h2
      cases hr : rangeOk n n2 with
      | false => simp only [hr, Bool.false_eq_true, if_false] at h2; exact h2.elim
      | true =>
        simp only [hr, if_true] at h2
        have hr' := hr
        unfold rangeOk at hr'
        simp only [Bool.and_eq_true, decide_eq_true_eq] at hr'
        exact ⟨n, n2, rfl, ⟨by omega, by omega, by omega, by omega⟩, h2 _ _ _ (Ext.refl ..) r2 _ (serves_range hr)⟩
    | _ => exact h2.elim
  | _ => cases q2 <;> exact h2.elim
theorem si_enum (hg : Gl X "enumerate") (hm : X.mg "enumerate" = none) (he : PE X e (TE' X z W fe)) (hst : notStar e = true) : PI X (.Tuple elts kk tpos) (.Call (.Name "enumerate" p) [e] [] pos) (TI' X z W fun ρ S => (fe ρ S).bind fun v S => Res.of (enumOf v) S) := by
  refine PI.imp (pi_enumA hg hm (pa_cons he pa_nil (star_cons hst _ _)) (star_cons hst _ _)) fun σ H R ⟨ρ, S, G, μ, hE, hS, h⟩ => ?_
  refine ⟨ρ, S, G, μ, hE, hS, h.bind.imp fun q S1 G1 μ1 H1 e1 r1 h1 x hx => ?_⟩
  cases q with
  | tup xs =>
    have hx' := hx
    obtain ⟨a, vs, rfl, h2, h3, h4⟩ := hx
    exact ⟨a, vs, rfl, .inr ⟨r1.g.sqT h2, h1 _ _ _ (Ext.refl ..) r1 _ (serves_enumT hx')⟩⟩
  | lst xs =>
    have hx' := hx
    obtain ⟨a, vs, rfl, h2, h3, h4⟩ := hx
    exact ⟨a, vs, rfl, .inl ⟨.inl (r1.g.rd h2), h1 _ _ _ (Ext.refl ..) r1 _ (serves_enumL hx')⟩⟩
  | _ => exact h1.elim
theorem si_zip (hg : Gl X "zip") (hm : X.mg "zip" = none) (ha : PE X a (TE' X z W fa)) (hb : PE X b (TE' X z W fb)) (hst : notStar a = true) (hst2 : notStar b = true) : PI X (.Tuple elts kk tpos) (.Call (.Name "zip" p) [a, b] [] pos) (TI' X z W fun ρ S => (fa ρ S).bind fun x S => (fb ρ S).bind fun y S => Res.of (zipOf x y) S) := by
  refine PI.imp (RZ.pi_zipA hg hm (pa_cons ha (pa_cons hb pa_nil (star_cons hst2 _ _)) (star_cons hst _ _)) (star_cons hst _ _) (by rw [star_cons hst2]; rfl)) fun σ H R ⟨ρ, S, G, μ, hE, hS, h⟩ => ?_
  refine ⟨ρ, S, G, μ, hE, hS, h.bind.imp fun q S1 G1 μ1 H1 e1 r1 h1 x hx => ?_⟩
  refine ⟨ρ, S1, G1, μ1, hE.mono e1, r1, h1.bind.imp fun q2 S2 G2 μ2 H2 e2 r2 h2 y hy => ?_⟩
  cases q with
  | tup xs =>
    cases q2 with
    | tup ys =>
      have hx' := hx.ext e2
      have hy' := hy
      obtain ⟨a, vs, rfl, k2, k3, k4⟩ := hx
      obtain ⟨b, ws, rfl, l2, l3, l4⟩ := hy
      exact ⟨a, b, vs, ws, rfl, .inr ⟨r2.g.sqT (e2.g.sqT k2), r2.g.sqT l2, h2 _ _ _ (Ext.refl ..) r2 _ (serves_zipT hx' hy')⟩⟩
    | _ => exact h2.elim
  | lst xs =>
    cases q2 with
    | lst ys =>
      have hx' := hx.ext e2
      have hy' := hy
      obtain ⟨a, vs, rfl, k2, k3, k4⟩ := hx
      obtain ⟨b, ws, rfl, l2, l3, l4⟩ := hy
      exact ⟨a, b, vs, ws, rfl, .inl ⟨.inl (r2.g.rd (e2.g.rd k2)), .inl (r2.g.rd l2), h2 _ _ _ (Ext.refl ..) r2 _ (serves_zipL hx' hy')⟩⟩
    | _ => exact h2.elim
  | _ => exact h2.elim
end
end CW
end

section
set_option Elab.async false
set_option linter.all false
set_option maxRecDepth 100000
set_option maxHeartbeats 2000000
/-! Targets of names; comprehensions. -/
namespace CW
open PySem PySem.Spec PyProof.Rows L2

/-! ### slots forgotten -/
theorem wipe_get {σ : L2.St} {j : Nat} : ∀ {vs : List Nat}, (L2.wipe σ vs)[j]? = if j ∈ vs then (σ[j]?).map (fun _ => none) else σ[j]?
  | [] => by simp [L2.wipe]
  | v :: vs => by
    unfold L2.wipe
    by_cases hv : v = j
    · subst hv
      rw [List.getElem?_set]
      simp only [if_true, wipe_length, List.mem_cons, true_or]
      by_cases hl : v < σ.length
      · rw [if_pos hl, List.getElem?_eq_getElem hl]; rfl
      · rw [if_neg hl, List.getElem?_eq_none (by omega)]; rfl
    · rw [List.getElem?_set_ne hv, wipe_get]
      have : (j ∈ v :: vs) ↔ j ∈ vs := by simp [List.mem_cons, Ne.symm hv]
      simp only [this]
theorem wipe_set {σ : L2.St} {vs : List Nat} {i : Nat} {o : Option V} (h : i ∈ vs) : L2.wipe (σ.set i o) vs = L2.wipe σ vs := by
  apply List.ext_getElem?
  intro j
  rw [wipe_get, wipe_get]
  by_cases hj : j ∈ vs
  · rw [if_pos hj, if_pos hj]
    by_cases hi : i = j
    · subst hi
      rw [List.getElem?_set]
      simp only [if_true]
      by_cases hl : i < σ.length
      · rw [if_pos hl, List.getElem?_eq_getElem hl]; rfl
      · rw [if_neg hl, List.getElem?_eq_none (by omega)]
    · rw [List.getElem?_set_ne hi]
  · rw [if_neg hj, if_neg hj, List.getElem?_set_ne fun q => hj (by rw [← q]; exact h)]
section
variable {K : PySem.W.Frag} {z : Kz} {G : Hp} {μ : List Addr} {ρ : Env} {σ : L2.St}
theorem RelE.wipe (h : RelE K z ρ σ G μ) : ∀ vs : List Nat, RelE K z (wipe ρ vs) (L2.wipe σ vs) G μ
  | [] => h
  | v :: vs => by
    have ih := RelE.wipe h vs
    refine ⟨by show ((CW.wipe ρ vs).set v none).length = ((L2.wipe σ vs).set v none).length; rw [List.length_set, List.length_set, ih.1], fun i p hp => ?_⟩
    have hp : ((CW.wipe ρ vs).set v none)[i]? = some (some p) := hp
    show ∃ w, ((L2.wipe σ vs).set v none)[i]? = some (some w) ∧ _
    by_cases hi : v = i
    · subst hi
      rw [List.getElem?_set] at hp
      simp only [if_true] at hp
      split at hp <;> cases hp
    · rw [List.getElem?_set_ne hi] at hp ⊢
      exact ih.2 i p hp
theorem RelE.set {p : PV} {v : V} (h : RelE K z ρ σ G μ) (i : Nat) (hv : Rep K z G μ p v) : RelE K z (ρ.set i (some p)) (σ.set i (some v)) G μ := by
  refine ⟨by rw [List.length_set, List.length_set, h.1], fun j q hq => ?_⟩
  by_cases hi : i = j
  · subst hi
    rw [List.getElem?_set] at hq ⊢
    simp only [if_true] at hq ⊢
    split at hq
    · rename_i hl
      rw [h.1] at hl
      cases hq
      exact ⟨v, by rw [if_pos hl], hv⟩
    · cases hq
  · rw [List.getElem?_set_ne hi] at hq ⊢
    exact h.2 j q hq
theorem RelE.unset (h : RelE K z ρ σ G μ) (i : Nat) : RelE K z (ρ.set i none) (σ.set i none) G μ := by
  refine ⟨by rw [List.length_set, List.length_set, h.1], fun j q hq => ?_⟩
  by_cases hi : i = j
  · subst hi
    rw [List.getElem?_set] at hq
    simp only [if_true] at hq
    split at hq <;> cases hq
  · rw [List.getElem?_set_ne hi] at hq ⊢
    exact h.2 j q hq
end

/-! ### targets without objects -/
mutual
def T.inside (vs : List Nat) : T → Bool
  | .name i => vs.contains i
  | .tup ts => Ts.inside vs ts
  | .sub _ _ => false
def Ts.inside (vs : List Nat) : Ts → Bool
  | .nil => true
  | .cons t ts => t.inside vs && ts.inside vs
end
def TPb (K : PySem.W.Frag) (z : Kz) (t : T) : TG := fun v σ H Q => ∃ ρ S G μ p ρ', RelE K z ρ σ G μ ∧ RelS K z S G μ H ∧ Rep K z G μ p v ∧ bindP t p ρ = some ρ' ∧
  ∀ σ', RelE K z ρ' σ' G μ → (∀ vs, t.inside vs = true → L2.wipe σ' vs = L2.wipe σ vs) → Q σ' H
def TPbs (K : PySem.W.Frag) (z : Kz) (ts : Ts) : TGs := fun vs σ H Q => ∃ ρ S G μ ps ρ', RelE K z ρ σ G μ ∧ RelS K z S G μ H ∧ RepL K z G μ ps vs ∧ bindPs ts ps ρ = some ρ' ∧
  ∀ σ', RelE K z ρ' σ' G μ → (∀ vs, ts.inside vs = true → L2.wipe σ' vs = L2.wipe σ vs) → Q σ' H
theorem PG.imp {X : Cx} {tg : Expr} {t t' : TG} (h : PG X tg t) (i : ∀ v σ H Q, t' v σ H Q → t v σ H Q) : PG X tg t' := ⟨fun pins s σ H v u Q I r q => h.run pins s σ H v u Q I r (i v σ H Q q)⟩
theorem PGs.imp {X : Cx} {tg : List Expr} {t t' : TGs} (h : PGs X tg t) (i : ∀ v σ H Q, t' v σ H Q → t v σ H Q) : PGs X tg t' := ⟨fun pins s σ H v u Q I r q => h.run pins s σ H v u Q I r (i v σ H Q q)⟩
section
variable {X : Cx} {z : Kz} {pos : Pos}
theorem pb_name {i : Nat} {x : Str} (hN : X.N.Nodup) (hi : X.N[i]? = some x) (hx : Loc X.env.scope x) (hf : X.fn x = true ∨ X.env.scope.names.lookup x = some .local) : PG X (.Name x pos) (TPb X.K z (.name i)) := by
  refine PG.imp (pg_name hN hi hx hf) fun v σ H Q ⟨ρ, S, G, μ, p, ρ', hE, hS, hv, hb, h⟩ => ?_
  simp only [bindP, Option.some.injEq] at hb
  subst hb
  exact h _ (hE.set i hv) fun vs hi => wipe_set (by simpa [T.inside] using hi)
theorem pb_nil : PGs X [] (TPbs X.K z .nil) := by
  refine PGs.imp pgs_nil fun vs σ H Q ⟨ρ, S, G, μ, ps, ρ', hE, hS, hv, hb, h⟩ => ?_
  cases ps with
  | nil =>
    simp only [bindPs, Option.some.injEq] at hb
    subst hb
    exact ⟨hv, h _ hE fun _ _ => rfl⟩
  | cons _ _ => simp [bindPs] at hb
theorem pb_cons {e : Expr} {es : List Expr} {t : T} {ts : Ts} (h1 : PG X e (TPb X.K z t)) (h2 : PGs X es (TPbs X.K z ts)) (hs : (assignEach (e :: es) X.env).map (·.2) = assign e X.env :: (assignEach es X.env).map (·.2)) : PGs X (e :: es) (TPbs X.K z (.cons t ts)) := by
  refine PGs.imp (pgs_cons h1 h2 hs) fun vs σ H Q ⟨ρ, S, G, μ, ps, ρ', hE, hS, hv, hb, h⟩ => ?_
  cases ps with
  | nil => simp [bindPs] at hb
  | cons p ps =>
    obtain ⟨v, r, rfl, hv, hr⟩ := hv
    simp only [bindPs] at hb
    cases e1 : bindP t p ρ with
    | none => rw [e1] at hb; cases hb
    | some ρ1 =>
      rw [e1] at hb
      have hb : bindPs ts ps ρ1 = some ρ' := hb
      refine ⟨v, r, rfl, ρ, S, G, μ, p, ρ1, hE, hS, hv, e1, fun σ1 hE1 hw1 => ?_⟩
      refine ⟨ρ1, S, G, μ, ps, ρ', hE1, hS, hr, hb, fun σ2 hE2 hw2 => h σ2 hE2 fun ws hi => ?_⟩
      simp only [Ts.inside, Bool.and_eq_true] at hi
      rw [hw2 ws hi.2, hw1 ws hi.1]
theorem pb_tup {es : List Expr} {k : Nat} {ts : Ts} (hc : X.calm = true) (h : PGs X es (TPbs X.K z ts)) (hl : ∀ ps ρ ρ', bindPs ts ps ρ = some ρ' → ps.length = es.length) (hn : (assignEach es X.env).length = es.length) (hst : (assignEach es X.env).findIdx? (·.1) = none) :
    PG X (.Tuple es k pos) (TPb X.K z (.tup ts)) := by
  refine PG.imp (pg_tup hc h hn hst) fun v σ H Q ⟨ρ, S, G, μ, p, ρ', hE, hS, hv, hb, h⟩ => ?_
  cases p with
  | tup xs =>
    obtain ⟨a, vs, rfl, k2, k3, k4⟩ := hv
    simp only [bindP] at hb
    refine ⟨a, vs, rfl, hS.g.sqT k2, by rw [← k4.length]; exact hl _ _ _ hb, ρ, S, G, μ, xs, ρ', hE, hS, k4, hb, fun σ' a b => h σ' a fun ws hi => b ws (by simpa [T.inside] using hi)⟩
  | _ => simp [bindP] at hb
end

/-! ### the loop of a comprehension -/
def foldR {α : Type} (f : α → PV → Store → Option (α × Store)) : List PV → α → Store → Option (α × Store)
  | [], a, S => some (a, S)
  | x :: xs, a, S => (f a x S).bind fun q => foldR f xs q.1 q.2
/-- the new list (dict) D grows beside; behind the base -/
structure AccI (K : PySem.W.Frag) (z : Kz) {α : Type} (Ra : Hp → List Addr → α → HO → Prop) (D : Addr) (G1 : Hp) (μ1 : List Addr) (H1 : Hp) (acc : α) (S : Store) (G : Hp) (μ : List Addr) (H : Hp) : Prop where
  at_ : ∃ o, H D = some o ∧ Ra G μ acc o
  g : G D = none
  m : D ∉ μ
  r : RelS K z S G μ H
  e : Ext G1 μ1 H1 G μ H
theorem loop_gen {K : PySem.W.Frag} {z : Kz} {α : Type} {Ra : Hp → List Addr → α → HO → Prop} {D : Addr} {G1 : Hp} {μ1 : List Addr} {H1 : Hp} {J : It} {ps : List PV} {f : α → PV → Store → Option (α × Store)} {a0 aE : α} {S0 SE : Store} {H0 : Hp} {Done : Hp → Prop} {Step : V → Hp → (Hp → Prop) → Prop}
    (ht : ∀ G μ a o, Ra G μ a o → Plain D o) (hm : ∀ G μ G' μ' a o, Ra G μ a o → Sub G G' → (∀ (l : Nat) (b : Addr), μ[l]? = some b → μ'[l]? = some b) → Ra G' μ' a o)
    (sv : Serves K z G1 μ1 ps J) (h0 : ∃ G μ, AccI K z Ra D G1 μ1 H1 a0 S0 G μ H0) (hf : foldR f ps a0 S0 = some (aE, SE))
    (hstep : ∀ (i : Nat) p a S a' S' G μ H x, ps[i]? = some p → f a p S = some (a', S') → foldR f (ps.drop (i + 1)) a' S' = some (aE, SE) → AccI K z Ra D G1 μ1 H1 a S G μ H → Rep K z G μ p x → ∀ Nx : Hp → Prop, (∀ G' μ' H', AccI K z Ra D G1 μ1 H1 a' S' G' μ' H' → Nx H') → Step x H Nx)
    (hd : ∀ G μ H, AccI K z Ra D G1 μ1 H1 aE SE G μ H → Done H) :
    ∃ W : Nat → Nat → Hp → Prop, (∃ m, W 0 m H0) ∧ ∀ i m H, W i m H →
      (J.stop i H ∧ Done H) ∨ (J.go i H ∧ ∃ Nx : Hp → Prop, (∀ H', Nx H' → ∃ m', m' < m ∧ W (i + 1) m' H') ∧ ∀ x H', J.yld i H x H' → Step x H' Nx) := by
  refine ⟨fun i m H => m = ps.length - i ∧ i ≤ ps.length ∧ ∃ a S G μ, AccI K z Ra D G1 μ1 H1 a S G μ H ∧ foldR f (ps.drop i) a S = some (aE, SE), ?_, ?_⟩
  · obtain ⟨G, μ, h0⟩ := h0
    exact ⟨ps.length, rfl, Nat.zero_le _, a0, S0, G, μ, h0, hf⟩
  · rintro i m H ⟨rfl, hi, a, S, G, μ, A, hfi⟩
    obtain ⟨s1, s2⟩ := sv.2 G μ H S A.e.g A.e.m A.r
    by_cases hlt : i < ps.length
    · have hp : ps[i]? = some ps[i] := List.getElem?_eq_getElem hlt
      obtain ⟨go, yl⟩ := s2 i _ hp
      rw [List.drop_eq_getElem_cons hlt] at hfi
      simp only [foldR] at hfi
      cases e1 : f a ps[i] S with
      | none => rw [e1] at hfi; cases hfi
      | some q =>
        obtain ⟨a', S'⟩ := q
        rw [e1] at hfi
        have hfi : foldR f (ps.drop (i + 1)) a' S' = some (aE, SE) := hfi
        refine .inr ⟨go, fun H' => i + 1 ≤ ps.length ∧ ∃ G μ, AccI K z Ra D G1 μ1 H1 a' S' G μ H', fun H' ⟨k, G', μ', A'⟩ => ⟨ps.length - (i + 1), by omega, rfl, k, a', S', G', μ', A', hfi⟩, fun x H' y => ?_⟩
        obtain ⟨G2, r2, e2, hx⟩ := yl x H' y
        obtain ⟨o, ho, hra⟩ := A.at_
        obtain ⟨f1, f2, f3⟩ := e2.f D o ho (ht _ _ _ _ hra) A.g A.m
        exact hstep i _ a S a' S' G2 μ H' x hp e1 hfi ⟨⟨o, f1, hm _ _ _ _ _ _ hra e2.g e2.m⟩, f2, f3, r2, A.e.trans e2⟩ hx _ fun G' μ' H' A' => ⟨hlt, G', μ', A'⟩
    · have e : i = ps.length := by omega
      subst e
      rw [List.drop_length] at hfi
      simp only [foldR, Option.some.injEq, Prod.mk.injEq] at hfi
      obtain ⟨rfl, rfl⟩ := hfi
      exact .inl ⟨s1, hd _ _ _ A⟩
/-- the accumulator as a list, as a dict -/
def RaL (K : PySem.W.Frag) (z : Kz) : Hp → List Addr → List PV → HO → Prop := fun G μ a o => ∃ vs, o = .lst vs ∧ RepL K z G μ a vs
def RaD (K : PySem.W.Frag) (z : Kz) : Hp → List Addr → List (PV × PV) → HO → Prop := fun G μ a o => ∃ vs, o = .dK vs ∧ RepK K z G μ a vs
theorem RaL.plain {K : PySem.W.Frag} {z : Kz} {D : Addr} (G : Hp) (μ : List Addr) (a : List PV) (o : HO) (h : RaL K z G μ a o) : Plain D o := by
  obtain ⟨vs, rfl, _⟩ := h
  exact ⟨(fun _ z => nomatch z), (fun _ z => nomatch z)⟩
theorem RaD.plain {K : PySem.W.Frag} {z : Kz} {D : Addr} (G : Hp) (μ : List Addr) (a : List (PV × PV)) (o : HO) (h : RaD K z G μ a o) : Plain D o := by
  obtain ⟨vs, rfl, _⟩ := h
  exact ⟨(fun _ z => nomatch z), (fun _ z => nomatch z)⟩
theorem RaL.mono {K : PySem.W.Frag} {z : Kz} (G : Hp) (μ : List Addr) (G' : Hp) (μ' : List Addr) (a : List PV) (o : HO) (h : RaL K z G μ a o) (s : Sub G G') (m : ∀ (l : Nat) (b : Addr), μ[l]? = some b → μ'[l]? = some b) : RaL K z G' μ' a o := by
  obtain ⟨vs, rfl, h⟩ := h
  exact ⟨vs, rfl, h.mono s m⟩
theorem RaD.mono {K : PySem.W.Frag} {z : Kz} (G : Hp) (μ : List Addr) (G' : Hp) (μ' : List Addr) (a : List (PV × PV)) (o : HO) (h : RaD K z G μ a o) (s : Sub G G') (m : ∀ (l : Nat) (b : Addr), μ[l]? = some b → μ'[l]? = some b) : RaD K z G' μ' a o := by
  obtain ⟨vs, rfl, h⟩ := h
  exact ⟨vs, rfl, h.mono s m⟩
def fL (f : PV → Store → Res (List PV)) (acc : List PV) (x : PV) (S : Store) : Option (List PV × Store) := match f x S with
  | .ok a S' => some (acc ++ a, S')
  | _ => none
theorem compL_fold {f : PV → Store → Res (List PV)} : ∀ {ps : List PV} {S SE : Store} {b : List PV}, compL f ps S = .ok b SE → ∀ acc, foldR (fL f) ps acc S = some (acc ++ b, SE)
  | [], S, SE, b, h, acc => by
    simp only [compL, Res.ok.injEq] at h
    obtain ⟨rfl, rfl⟩ := h
    simp [foldR]
  | x :: xs, S, SE, b, h, acc => by
    simp only [compL] at h
    simp only [foldR, fL]
    cases e : f x S with
    | ok a S' =>
      simp only [e, Res.calm_ok, Res.bind_ok] at h
      cases e2 : compL f xs S' with
      | ok b' S2 =>
        simp only [e2, Res.bind_ok, Res.ok.injEq] at h
        obtain ⟨rfl, rfl⟩ := h
        show foldR (fL f) xs (acc ++ a) S' = _
        rw [compL_fold e2, List.append_assoc]
      | exc c S2 => rw [e2] at h; cases h
      | bad => rw [e2] at h; cases h
    | exc c S' => rw [e] at h; cases h
    | bad => rw [e] at h; cases h
theorem fold_len {f : PV → Store → Res (List PV)} : ∀ {ps : List PV} {S SE : Store} {a b : List PV}, foldR (fL f) ps a S = some (b, SE) → a.length ≤ b.length
  | [], S, SE, a, b, h => by
    simp only [foldR, Option.some.injEq, Prod.mk.injEq] at h
    rw [h.1]; exact Nat.le_refl _
  | x :: xs, S, SE, a, b, h => by
    simp only [foldR, fL] at h
    cases e : f x S with
    | ok a' S' =>
      rw [e] at h
      have := fold_len (f := f) (ps := xs) (a := a ++ a') (b := b) (SE := SE) (S := S') h
      rw [List.length_append] at this
      omega
    | exc c S' => rw [e] at h; cases h
    | bad => rw [e] at h; cases h
/-- each item gives one at most -/
theorem compL_len {f : PV → Store → Res (List PV)} (hf : ∀ x S a S', f x S = .ok a S' → a.length ≤ 1) : ∀ {ps : List PV} {S SE : Store} {b : List PV}, compL f ps S = .ok b SE → b.length ≤ ps.length
  | [], S, SE, b, h => by
    simp only [compL, Res.ok.injEq] at h
    obtain ⟨rfl, rfl⟩ := h
    exact Nat.le_refl _
  | x :: xs, S, SE, b, h => by
    simp only [compL] at h
    cases e : f x S with
    | ok a S' =>
      simp only [e, Res.calm_ok, Res.bind_ok] at h
      cases e2 : compL f xs S' with
      | ok b' S2 =>
        simp only [e2, Res.bind_ok, Res.ok.injEq] at h
        obtain ⟨rfl, rfl⟩ := h
        have h1 := hf x S a S' e
        have h2 := compL_len hf e2
        simp only [List.length_append, List.length_cons]
        omega
      | exc c S2 => rw [e2] at h; cases h
      | bad => rw [e2] at h; cases h
    | exc c S' => rw [e] at h; cases h
    | bad => rw [e] at h; cases h
theorem compL_noexc {f : PV → Store → Res (List PV)} : ∀ {ps : List PV} {S S' : Store} {c : Exn}, compL f ps S ≠ .exc c S'
  | [], S, S', c => fun h => by cases h
  | x :: xs, S, S', c => fun h => by
    simp only [compL] at h
    cases e : f x S with
    | ok a S1 =>
      simp only [e, Res.calm_ok, Res.bind_ok] at h
      cases e2 : compL f xs S1 with
      | ok b' S2 => simp only [e2, Res.bind_ok] at h; cases h
      | exc c' S2 => exact compL_noexc e2
      | bad => rw [e2] at h; cases h
    | exc c' S1 => rw [e] at h; cases h
    | bad => rw [e] at h; cases h
/-- tests of a clause -/
def noW : WX := fun _ _ _ _ => False
theorem pts_nil' {X : Cx} {z : Kz} {W : WX} : PTs X [] (TT' X z W fun _ S => .ok true S) := ⟨fun pins s σ H Q I ⟨ρ, S, G, μ, hE, hS, h⟩ => pts_nil.run pins s σ H Q I (h G μ H (Ext.refl ..) hS)⟩
theorem pts_one' {X : Cx} {z : Kz} {W : WX} {c : Expr} {f : Env → Store → Res Bool} (h : PT X c (TT' X z W f)) : PTs X [c] (TT' X z W fun ρ S => (f ρ S).bind fun b S => if b then .ok true S else .ok false S) := ⟨fun pins s σ H Q I ⟨ρ, S, G, μ, hE, hS, hh⟩ =>
  (pts_one h).run pins s σ H Q I ⟨ρ, S, G, μ, hE, hS, hh.bind.imp fun b S1 G1 μ1 H1 e1 r1 h1 => by
    cases b <;> exact h1 _ _ _ (Ext.refl ..) r1⟩⟩
/-- the accumulator led through a part of a block -/
theorem AccI.step {K : PySem.W.Frag} {z : Kz} {α : Type} {Ra : Hp → List Addr → α → HO → Prop} {D : Addr} {G1 G G' : Hp} {μ1 μ μ' : List Addr} {H1 H H' : Hp} {a : α} {S S' : Store} (ht : ∀ G μ a o, Ra G μ a o → Plain D o)
    (hm : ∀ G μ G' μ' a o, Ra G μ a o → Sub G G' → (∀ (l : Nat) (b : Addr), μ[l]? = some b → μ'[l]? = some b) → Ra G' μ' a o) (A : AccI K z Ra D G1 μ1 H1 a S G μ H) (e : Ext G μ H G' μ' H') (r : RelS K z S' G' μ' H') : AccI K z Ra D G1 μ1 H1 a S' G' μ' H' := by
  obtain ⟨o, ho, hra⟩ := A.at_
  obtain ⟨f1, f2, f3⟩ := e.f D o ho (ht _ _ _ _ hra) A.g A.m
  exact ⟨⟨o, f1, hm _ _ _ _ _ _ hra e.g e.m⟩, f2, f3, r, A.e.trans e⟩
/-- one item more -/
theorem AccI.put {K : PySem.W.Frag} {z : Kz} {α : Type} {Ra : Hp → List Addr → α → HO → Prop} {D : Addr} {G1 G : Hp} {μ1 μ : List Addr} {H1 H : Hp} {a a' : α} {S : Store} {o : HO} (ht : ∀ G μ a o, Ra G μ a o → Plain D o) (nD : H1 D = none) (A : AccI K z Ra D G1 μ1 H1 a S G μ H) (h : Ra G μ a' o) : AccI K z Ra D G1 μ1 H1 a' S G μ (upd H D o) := by
  obtain ⟨o1, ho, hra⟩ := A.at_
  have r' := (A.r.erase' ho A.g A.m (ht _ _ _ _ hra).1 (ht _ _ _ _ hra).2).beside del_same o
  rw [upd_del] at r'
  exact ⟨⟨o, upd_same, h⟩, A.g, A.m, r', ext_beside A.e nD o⟩
/-- where a result is there, Post is what is wanted of it -/
theorem Post.okd {α : Type} {K : PySem.W.Frag} {mg : Str → Option Value} {z : Kz} {W : WX} {σ : L2.St} {G H : Hp} {μ : List Addr} {r : Res α} {a : α} {S : Store} {P : α → Store → Hp → List Addr → Hp → Prop} (e : r = .ok a S) (h : ∀ G' μ' H', Ext G μ H G' μ' H' → RelS K z S G' μ' H' → P a S G' μ' H') : Post K mg z W σ G μ H r P := by
  subst e; exact h
section
variable {K : PySem.W.Frag} {mg : Str → Option Value} {z : Kz} {D : Addr} {G1 G : Hp} {μ1 μ : List Addr} {H1 H : Hp} {acc acc' : List PV} {S S' : Store} {σ : L2.St} {ρ : Env}
/-- the item of one clause's innermost block -/
theorem item_ok {fe : Env → Store → Res PV} {ft : Env → Store → Res Bool} {Nx : Hp → Prop} {f : Store → Res (List PV)} (hf : f = fun S => (ft ρ S).bind fun k S => if k then (fe ρ S).bind fun v S => .ok [v] S else .ok [] S) {a : List PV} (nD : H1 D = none)
    (hE : RelE K z ρ σ G μ) (A : AccI K z (RaL K z) D G1 μ1 H1 acc S G μ H) (ha : f S = .ok a S') (hl : (acc ++ a).length ≤ LINE) (hn : ∀ G' μ' H', AccI K z (RaL K z) D G1 μ1 H1 (acc ++ a) S' G' μ' H' → Nx H') :
    TTx K mg z noW ft σ H fun b H3 => if b = true then TEx K mg z noW fe σ H3 fun y H4 => ∃ acc, H4 D = some (.lst acc) ∧ acc.length < sizeLine ∧ Nx (upd H4 D (.lst (acc ++ [y]))) else Nx H3 := by
  subst hf
  dsimp only at ha
  cases e1 : ft ρ S with
  | exc c S1 => rw [e1] at ha; cases ha
  | bad => rw [e1] at ha; cases ha
  | ok k S1 =>
    simp only [e1, Res.bind_ok] at ha
    refine ⟨ρ, S, G, μ, hE, A.r, Post.okd e1 fun G2 μ2 H2 e2 r2 => ?_⟩
    have A2 := A.step RaL.plain RaL.mono e2 r2
    cases k with
    | false =>
      simp only [Bool.false_eq_true, if_false, Res.ok.injEq] at ha ⊢
      obtain ⟨rfl, rfl⟩ := ha
      rw [List.append_nil] at hn
      exact hn _ _ _ A2
    | true =>
      simp only [if_true] at ha ⊢
      cases e3 : fe ρ S1 with
      | exc c S2 => rw [e3] at ha; cases ha
      | bad => rw [e3] at ha; cases ha
      | ok v S2 =>
        simp only [e3, Res.bind_ok, Res.ok.injEq] at ha
        obtain ⟨rfl, rfl⟩ := ha
        refine ⟨ρ, S1, G2, μ2, hE.mono e2, r2, Post.okd e3 fun G4 μ4 H4 e4 r4 y hy => ?_⟩
        have A4 := A2.step RaL.plain RaL.mono e4 r4
        obtain ⟨o, ho, vs, rfl, hvs⟩ := A4.at_
        have hlen := hvs.length
        rw [List.length_append, List.length_singleton] at hl
        refine ⟨vs, ho, by rw [sizeLine_LINE]; omega, hn _ _ _ (A4.put RaL.plain nD ⟨_, rfl, hvs.append (.one hy)⟩)⟩
end
section
variable {X : Cx} {z : Kz} {W : WX} {elt tg iter : Expr} {ifs : List Expr} {scope : Scope} {own : List (Str × Nat)} {pos : Pos} {t : T} {fi : Env → Store → Res (List PV)} {ft : Env → Store → Res Bool} {fe : Env → Store → Res PV}
/-- what one clause's comprehension does -/
def compF (own : List Nat) (t : T) (ft : Env → Store → Res Bool) (fe : Env → Store → Res PV) (ρ : Env) : PV → Store → Res (List PV) := fun x S => match bindP t x (wipe ρ own) with
  | some ρ' => (ft ρ' S).bind fun k S => if k then (fe ρ' S).bind fun v S => .ok [v] S else .ok [] S
  | none => .bad
theorem t_comp (m : Bool) (hin : t.inside (own.map (·.2)) = true) (σ : L2.St) (H : Hp) (Q : VK)
    (h : TE' X z W (fun ρ S => (fi ρ S).bind fun xs S => (compL (compF (own.map (·.2)) t ft fe ρ) xs S).bind fun vs S => laid m (.lst vs) S) σ H Q) :
    tLc (TI' X z W fi) (TPb X.K z t) (TT' X z noW ft) (TE' X z noW fe) (own.map (·.2)) σ H Q := by
  obtain ⟨ρ, S, G, μ, hE, hS, h⟩ := h
  refine ⟨ρ, S, G, μ, hE, hS, h.bind.imp fun ps S1 G1 μ1 H1 e1 r1 h1 J sv => ?_⟩
  intro D nD
  cases ec : compL (compF (own.map (·.2)) t ft fe ρ) ps S1 with
  | exc c S2 => exact absurd ec compL_noexc
  | bad => rw [ec] at h1; exact h1.elim
  | ok b SE =>
    simp only [ec, Res.bind_ok] at h1
    have hb : b.length ≤ ps.length := compL_len (fun x S a S' e => by
      unfold compF at e
      cases e1 : bindP t x (wipe ρ (own.map (·.2))) with
      | none => simp only [e1] at e; cases e
      | some ρ' =>
        simp only [e1] at e
        cases e2 : ft ρ' S with
        | exc c S2 => rw [e2] at e; cases e
        | bad => rw [e2] at e; cases e
        | ok k S2 =>
          simp only [e2, Res.bind_ok] at e
          cases k with
          | false =>
            simp only [Bool.false_eq_true, if_false, Res.ok.injEq] at e
            rw [← e.1]; exact Nat.zero_le _
          | true =>
            simp only [if_true] at e
            cases e3 : fe ρ' S2 with
            | exc c S3 => rw [e3] at e; cases e
            | bad => rw [e3] at e; cases e
            | ok v S3 =>
              simp only [e3, Res.bind_ok, Res.ok.injEq] at e
              rw [← e.1]; exact Nat.le_refl _) ec
    have hbl : b.length ≤ LINE := Nat.le_trans hb sv.1
    refine loop_gen (Ra := RaL X.K z) (f := fL (compF (own.map (·.2)) t ft fe ρ)) (a0 := []) (aE := b) (S0 := S1) (SE := SE) (G1 := G1) (μ1 := μ1) (H1 := H1) (D := D) RaL.plain RaL.mono sv ⟨G1, μ1, ⟨⟨_, upd_same, [], rfl, rfl⟩, (r1.fresh nD).1, (r1.fresh nD).2, r1.beside nD _, ext_upd nD _⟩⟩
      (compL_fold ec []) ?_ ?_
    · intro i p a S a' S' G2 μ2 H2 x hp hf hr A hx Nx hn
      unfold fL at hf
      cases ef : compF (own.map (·.2)) t ft fe ρ p S with
      | exc c S2 => rw [ef] at hf; cases hf
      | bad => rw [ef] at hf; cases hf
      | ok b1 S2 =>
        simp only [ef, Option.some.injEq, Prod.mk.injEq] at hf
        obtain ⟨rfl, rfl⟩ := hf
        have hE2 : RelE X.K z ρ σ G2 μ2 := (hE.mono e1).mono A.e
        unfold compF at ef
        cases e2 : bindP t p (wipe ρ (own.map (·.2))) with
        | none => simp only [e2] at ef; cases ef
        | some ρ' =>
          simp only [e2] at ef
          refine ⟨wipe ρ (own.map (·.2)), S, G2, μ2, p, ρ', hE2.wipe _, A.r, hx, e2, fun σ' hE' hw => ⟨?_, ?_⟩⟩
          · rw [hw _ hin]
            have : L2.wipe (L2.wipe σ (own.map (·.2))) (own.map (·.2)) = L2.wipe σ (own.map (·.2)) := by
              apply List.ext_getElem?
              intro j
              rw [wipe_get, wipe_get]
              by_cases hj : j ∈ own.map (·.2)
              · simp only [if_pos hj, Option.map_map]; rfl
              · simp only [if_neg hj]
            exact this
          · exact item_ok (f := fun S => (ft ρ' S).bind fun k S => if k then (fe ρ' S).bind fun v S => .ok [v] S else .ok [] S) rfl nD hE' A ef (Nat.le_trans (fold_len hr) hbl) hn
    · intro G2 μ2 H2 A
      obtain ⟨o, ho, vs, rfl, hvs⟩ := A.at_
      have e3 := ext_del A.e nD
      have r3 := A.r.erase' ho A.g A.m (fun _ q => nomatch q) (fun _ q => nomatch q)
      have := mk_laidL r3 (by rw [← hvs.length]; exact hbl) hvs (laid_of (h1.ext e3)) D del_same
      rw [upd_del, upd_self ho] at this
      exact this
theorem s_comp (m : Bool) (hc : X.calm = true) (hN : X.N.Nodup) (hi : PI X tg iter (TI' X z W fi)) (ok : BlkOk X.N X.env.scope scope own) (hin : t.inside (own.map (·.2)) = true)
    (hg : ∀ (s : Shared) (H : Hp) (C : Addr) (cl : List (Str × Addr)) (fp : List Addr), PG (X.blk s H scope (compEnvC scope cl C X.env) fp) tg (TPb X.K z t)) (ht : ∀ (s : Shared) (H : Hp) (C : Addr) (cl : List (Str × Addr)) (fp : List Addr), PTs (X.blk s H scope (compEnvC scope cl C X.env) fp) ifs (TT' X z noW ft))
    (he : ∀ (s : Shared) (H : Hp) (C : Addr) (cl : List (Str × Addr)) (fp : List Addr), PE (X.blk s H scope (compEnvC scope cl C X.env) fp) elt (TE' X z noW fe)) (hs : ∀ x, foldedSetIterable iter X.env x = pure x) :
    PE X (.ListComp elt [⟨tg, iter, ifs, 0⟩] scope pos) (TE' X z W fun ρ S => (fi ρ S).bind fun xs S => (compL (compF (own.map (·.2)) t ft fe ρ) xs S).bind fun vs S => laid m (.lst vs) S) :=
  PE.imp (pe_lc hc hN hi ok hg ht he hs) (t_comp m hin)
end
end CW
end

section
set_option Elab.async false
set_option linter.all false
set_option maxRecDepth 100000
set_option maxHeartbeats 2000000
/-! Comprehensions of two clauses; of dicts; name = comprehension. -/
namespace CW
open PySem PySem.Spec PyProof.Rows L2

theorem wipe_wipe {σ : L2.St} {vs : List Nat} : L2.wipe (L2.wipe σ vs) vs = L2.wipe σ vs := by
  apply List.ext_getElem?
  intro j
  rw [wipe_get, wipe_get]
  by_cases hj : j ∈ vs
  · simp only [if_pos hj, Option.map_map]; rfl
  · simp only [if_neg hj]
section
variable {X : Cx} {z : Kz} {W : WX} {elt tg iter tg1 iter1 : Expr} {ifs ifs1 : List Expr} {scope : Scope} {own : List (Str × Nat)} {vs1 : List Nat} {pos : Pos} {t t1 : T} {fi fi1 : Env → Store → Res (List PV)} {ft ft1 : Env → Store → Res Bool} {fe : Env → Store → Res PV}
/-- what the first clause does -/
def compF2 (own : List Nat) (t : T) (ft : Env → Store → Res Bool) (fi1 : Env → Store → Res (List PV)) (vs1 : List Nat) (t1 : T) (ft1 : Env → Store → Res Bool) (fe : Env → Store → Res PV) (ρ : Env) : PV → Store → Res (List PV) := fun x S => match bindP t x (wipe ρ own) with
  | some ρ' => (ft ρ' S).bind fun k S => if k then (fi1 ρ' S).bind fun ys S => compL (compF vs1 t1 ft1 fe ρ') ys S else .ok [] S
  | none => .bad
theorem t_comp2 (m : Bool) (hin : t.inside (own.map (·.2)) = true) (hin1 : t1.inside vs1 = true) (σ : L2.St) (H : Hp) (Q : VK)
    (h : TE' X z W (fun ρ S => (fi ρ S).bind fun xs S => (compL (compF2 (own.map (·.2)) t ft fi1 vs1 t1 ft1 fe ρ) xs S).bind fun vs S => if decide (vs.length ≤ LINE) then laid m (.lst vs) S else .bad) σ H Q) :
    tLc2 (TI' X z W fi) (TPb X.K z t) (TT' X z noW ft) (TI' X z noW fi1) (TPb X.K z t1) (TT' X z noW ft1) (TE' X z noW fe) (own.map (·.2)) vs1 σ H Q := by
  obtain ⟨ρ, S, G, μ, hE, hS, h⟩ := h
  refine ⟨ρ, S, G, μ, hE, hS, h.bind.imp fun ps S1 G1 μ1 H1 e1 r1 h1 J sv => ?_⟩
  intro D nD
  cases ec : compL (compF2 (own.map (·.2)) t ft fi1 vs1 t1 ft1 fe ρ) ps S1 with
  | exc c S2 => exact absurd ec compL_noexc
  | bad => rw [ec] at h1; exact h1.elim
  | ok b SE =>
    simp only [ec, Res.bind_ok] at h1
    split at h1
    rotate_left
    · exact h1.elim
    rename_i hbl
    have hbl : b.length ≤ LINE := of_decide_eq_true hbl
    refine loop_gen (Ra := RaL X.K z) (f := fL (compF2 (own.map (·.2)) t ft fi1 vs1 t1 ft1 fe ρ)) (a0 := []) (aE := b) (S0 := S1) (SE := SE) (G1 := G1) (μ1 := μ1) (H1 := H1) (D := D) RaL.plain RaL.mono sv ⟨G1, μ1, ⟨⟨_, upd_same, [], rfl, rfl⟩, (r1.fresh nD).1, (r1.fresh nD).2, r1.beside nD _, ext_upd nD _⟩⟩
      (compL_fold ec []) ?_ ?_
    · intro i p a S a' S' G2 μ2 H2 x hp hf hr A hx Nx hn
      unfold fL at hf
      cases ef : compF2 (own.map (·.2)) t ft fi1 vs1 t1 ft1 fe ρ p S with
      | exc c S2 => rw [ef] at hf; cases hf
      | bad => rw [ef] at hf; cases hf
      | ok b1 S2 =>
        simp only [ef, Option.some.injEq, Prod.mk.injEq] at hf
        obtain ⟨rfl, rfl⟩ := hf
        have htot : (a ++ b1).length ≤ LINE := Nat.le_trans (fold_len hr) hbl
        have hE2 : RelE X.K z ρ σ G2 μ2 := (hE.mono e1).mono A.e
        unfold compF2 at ef
        cases e2 : bindP t p (wipe ρ (own.map (·.2))) with
        | none => simp only [e2] at ef; cases ef
        | some ρ' =>
          simp only [e2] at ef
          refine ⟨wipe ρ (own.map (·.2)), S, G2, μ2, p, ρ', hE2.wipe _, A.r, hx, e2, fun σ' hE' hw => ⟨by rw [hw _ hin, wipe_wipe], ?_⟩⟩
          cases e3 : ft ρ' S with
          | exc c S1 => rw [e3] at ef; cases ef
          | bad => rw [e3] at ef; cases ef
          | ok k S3 =>
            simp only [e3, Res.bind_ok] at ef
            refine ⟨ρ', S, G2, μ2, hE', A.r, Post.okd e3 fun G3 μ3 H3 e3' r3 => ?_⟩
            have A3 := A.step RaL.plain RaL.mono e3' r3
            cases k with
            | false =>
              simp only [Bool.false_eq_true, if_false, Res.ok.injEq] at ef ⊢
              obtain ⟨rfl, rfl⟩ := ef
              rw [List.append_nil] at hn
              exact hn _ _ _ A3
            | true =>
              simp only [if_true] at ef ⊢
              cases e4 : fi1 ρ' S3 with
              | exc c S1 => rw [e4] at ef; cases ef
              | bad => rw [e4] at ef; cases ef
              | ok ys S4 =>
                simp only [e4, Res.bind_ok] at ef
                refine ⟨ρ', S3, G3, μ3, hE'.mono e3', r3, Post.okd e4 fun G4 μ4 H4 e4' r4 J1 sv1 => ?_⟩
                have A4 := A3.step RaL.plain RaL.mono e4' r4
                obtain ⟨o4, ho4, vs4, ho4', hvs4⟩ := A4.at_
                subst ho4'
                have hd4 : RelS X.K z S4 G4 μ4 (del H4 D) := A4.r.erase' ho4 A4.g A4.m (fun _ q => nomatch q) (fun _ q => nomatch q)
                refine loop_gen (Ra := RaL X.K z) (f := fL (compF vs1 t1 ft1 fe ρ')) (a0 := a) (aE := a ++ b1) (S0 := S4) (SE := S2) (G1 := G4) (μ1 := μ4) (H1 := del H4 D) (D := D) RaL.plain RaL.mono sv1 ⟨G4, μ4, ⟨⟨_, ho4, vs4, rfl, hvs4⟩, A4.g, A4.m, r4, ?_⟩⟩
                  (compL_fold ef a) ?_ ?_
                · have := ext_upd (G := G4) (μ := μ4) (del_same (H := H4) (p := D)) (.lst vs4)
                  rwa [upd_del, upd_self ho4] at this
                · intro i p a2 Sx a2' Sx' G5 μ5 H5 x hp hf hr5 A5 hx5 Nx1 hn1
                  unfold fL at hf
                  cases ef5 : compF vs1 t1 ft1 fe ρ' p Sx with
                  | exc c S2 => rw [ef5] at hf; cases hf
                  | bad => rw [ef5] at hf; cases hf
                  | ok b5 S5 =>
                    simp only [ef5, Option.some.injEq, Prod.mk.injEq] at hf
                    obtain ⟨rfl, rfl⟩ := hf
                    have hE5 : RelE X.K z ρ' σ' G5 μ5 := ((hE'.mono e3').mono e4').mono A5.e
                    unfold compF at ef5
                    cases e6 : bindP t1 p (wipe ρ' vs1) with
                    | none => simp only [e6] at ef5; cases ef5
                    | some ρ6 =>
                      simp only [e6] at ef5
                      refine ⟨wipe ρ' vs1, Sx, G5, μ5, p, ρ6, hE5.wipe _, A5.r, hx5, e6, fun σ6 hE6 hw6 => ⟨by rw [hw6 _ hin1, wipe_wipe], ?_⟩⟩
                      exact item_ok (f := fun S => (ft1 ρ6 S).bind fun k S => if k then (fe ρ6 S).bind fun v S => .ok [v] S else .ok [] S) rfl del_same hE6 A5 ef5 (Nat.le_trans (fold_len hr5) htot) hn1
                · intro G5 μ5 H5 A5
                  refine hn G5 μ5 H5 ⟨A5.at_, A5.g, A5.m, A5.r, ?_⟩
                  exact (ext_del A4.e nD).trans A5.e
    · intro G2 μ2 H2 A
      obtain ⟨o, ho, vs, rfl, hvs⟩ := A.at_
      have e3 := ext_del A.e nD
      have r3 := A.r.erase' ho A.g A.m (fun _ q => nomatch q) (fun _ q => nomatch q)
      have := mk_laidL r3 (by rw [← hvs.length]; exact hbl) hvs (laid_of (h1.ext e3)) D del_same
      rw [upd_del, upd_self ho] at this
      exact this
end

/-! ### dicts -/
def fD (f : PV → Store → Res (Option (PV × PV))) (acc : List (PV × PV)) (x : PV) (S : Store) : Option (List (PV × PV) × Store) := match f x S with
  | .ok none S' => some (acc, S')
  | .ok (some (k, v)) S' => if isK1 k then some (dput acc k v, S') else none
  | _ => none
theorem dcompL_fold {f : PV → Store → Res (Option (PV × PV))} : ∀ {ps : List PV} {S SE : Store} {a b : List (PV × PV)}, dcompL f ps a S = .ok b SE → foldR (fD f) ps a S = some (b, SE)
  | [], S, SE, a, b, h => by
    simp only [dcompL, Res.ok.injEq] at h
    obtain ⟨rfl, rfl⟩ := h
    rfl
  | x :: xs, S, SE, a, b, h => by
    simp only [dcompL] at h
    simp only [foldR, fD]
    cases e : f x S with
    | ok o S' =>
      simp only [e, Res.calm_ok, Res.bind_ok] at h
      cases o with
      | none => exact dcompL_fold h
      | some q =>
        obtain ⟨k, v⟩ := q
        simp only at h ⊢
        split at h
        · rename_i hk
          rw [if_pos hk]
          exact dcompL_fold h
        · cases h
    | exc c S' => rw [e] at h; cases h
    | bad => rw [e] at h; cases h
theorem dcompL_noexc {f : PV → Store → Res (Option (PV × PV))} : ∀ {ps : List PV} {a : List (PV × PV)} {S S' : Store} {c : Exn}, dcompL f ps a S ≠ .exc c S'
  | [], a, S, S', c => fun h => by cases h
  | x :: xs, a, S, S', c => fun h => by
    simp only [dcompL] at h
    cases e : f x S with
    | ok o S1 =>
      simp only [e, Res.calm_ok, Res.bind_ok] at h
      cases o with
      | none => exact dcompL_noexc h
      | some q =>
        obtain ⟨k, v⟩ := q
        simp only at h
        split at h
        · exact dcompL_noexc h
        · cases h
    | exc c' S1 => rw [e] at h; cases h
    | bad => rw [e] at h; cases h
theorem dput_len (a : List (PV × PV)) (k v : PV) : (dput a k v).length ≤ a.length + 1 := by
  unfold dput
  split
  · rw [List.length_map]; omega
  · rw [List.length_append, List.length_singleton]; exact Nat.le_refl _
theorem foldD_len {f : PV → Store → Res (Option (PV × PV))} : ∀ {ps : List PV} {S SE : Store} {a b : List (PV × PV)}, foldR (fD f) ps a S = some (b, SE) → b.length ≤ a.length + ps.length
  | [], S, SE, a, b, h => by
    simp only [foldR, Option.some.injEq, Prod.mk.injEq] at h
    rw [h.1]; exact Nat.le_refl _
  | x :: xs, S, SE, a, b, h => by
    simp only [foldR, fD] at h
    cases e : f x S with
    | ok o S' =>
      rw [e] at h
      cases o with
      | none =>
        have := foldD_len (f := f) (ps := xs) (a := a) (b := b) (SE := SE) (S := S') h
        simp only [List.length_cons]; omega
      | some q =>
        obtain ⟨k, v⟩ := q
        simp only at h
        split at h
        · have := foldD_len (f := f) (ps := xs) (a := dput a k v) (b := b) (SE := SE) (S := S') h
          have := dput_len a k v
          simp only [List.length_cons]; omega
        · cases h
    | exc c S' => rw [e] at h; cases h
    | bad => rw [e] at h; cases h
section
variable {X : Cx} {z : Kz} {W : WX} {kx vx tg iter : Expr} {ifs : List Expr} {scope : Scope} {own : List (Str × Nat)} {pos : Pos} {t : T} {fi : Env → Store → Res (List PV)} {ft : Env → Store → Res Bool} {fk fv : Env → Store → Res PV}
def dcompF (own : List Nat) (t : T) (ft : Env → Store → Res Bool) (fk fv : Env → Store → Res PV) (ρ : Env) : PV → Store → Res (Option (PV × PV)) := fun x S => match bindP t x (wipe ρ own) with
  | some ρ' => (ft ρ' S).bind fun k S => if k then (fk ρ' S).bind fun kk S => (fv ρ' S).bind fun v S => .ok (some (kk, v)) S else .ok none S
  | none => .bad
theorem t_dcomp (m : Bool) (hin : t.inside (own.map (·.2)) = true) (σ : L2.St) (H : Hp) (Q : VK)
    (h : TE' X z W (fun ρ S => (fi ρ S).bind fun xs S => (dcompL (dcompF (own.map (·.2)) t ft fk fv ρ) xs [] S).bind fun kvs S => laid m (.dct kvs) S) σ H Q) :
    tDc (TI' X z W fi) (TPb X.K z t) (TT' X z noW ft) (TE' X z noW fk) (TE' X z noW fv) (own.map (·.2)) σ H Q := by
  obtain ⟨ρ, S, G, μ, hE, hS, h⟩ := h
  refine ⟨ρ, S, G, μ, hE, hS, h.bind.imp fun ps S1 G1 μ1 H1 e1 r1 h1 J sv => ?_⟩
  intro D nD
  cases ec : dcompL (dcompF (own.map (·.2)) t ft fk fv ρ) ps [] S1 with
  | exc c S2 => exact absurd ec dcompL_noexc
  | bad => rw [ec] at h1; exact h1.elim
  | ok b SE =>
    simp only [ec, Res.bind_ok] at h1
    have hfold := dcompL_fold ec
    have hbl : b.length ≤ LINE := by
      have := foldD_len hfold
      simp only [List.length_nil, Nat.zero_add] at this
      exact Nat.le_trans this sv.1
    -- the accumulator carries its length
    let Ra : Hp → List Addr → List (PV × PV) × Nat → HO → Prop := fun G μ a o => RaD X.K z G μ a.1 o
    have main : ∀ (ps : List PV) (a b : List (PV × PV)) (S SE : Store) (n : Nat), foldR (fD (dcompF (own.map (·.2)) t ft fk fv ρ)) ps a S = some (b, SE) →
        foldR (fun (a : List (PV × PV) × Nat) x S => (fD (dcompF (own.map (·.2)) t ft fk fv ρ) a.1 x S).map fun q => ((q.1, a.2 + 1), q.2)) ps (a, n) S = some ((b, n + ps.length), SE) := by
      intro ps
      induction ps with
      | nil =>
        intro a b S SE n h
        simp only [foldR, Option.some.injEq, Prod.mk.injEq] at h ⊢
        exact ⟨⟨h.1, rfl⟩, h.2⟩
      | cons x xs ih =>
        intro a b S SE n h
        simp only [foldR] at h ⊢
        cases e : fD (dcompF (own.map (·.2)) t ft fk fv ρ) a x S with
        | none => rw [e] at h; cases h
        | some q =>
          rw [e] at h
          have := ih q.1 b q.2 SE (n + 1) h
          simp only [Option.map_some, Option.bind_some]
          rw [this, List.length_cons, show n + 1 + xs.length = n + (xs.length + 1) from by omega]
    have hfold2 := main ps [] b S1 SE 0 hfold
    refine loop_gen (Ra := fun G μ (a : List (PV × PV) × Nat) o => RaD X.K z G μ a.1 o ∧ a.1.length ≤ a.2) (f := fun (a : List (PV × PV) × Nat) x S => (fD (dcompF (own.map (·.2)) t ft fk fv ρ) a.1 x S).map fun q => ((q.1, a.2 + 1), q.2)) (a0 := ([], 0)) (aE := (b, 0 + ps.length)) (S0 := S1) (SE := SE) (G1 := G1) (μ1 := μ1) (H1 := H1) (D := D)
      (fun G μ a o h => RaD.plain G μ a.1 o h.1) (fun G μ G' μ' a o h s m => ⟨RaD.mono G μ G' μ' a.1 o h.1 s m, h.2⟩) sv ⟨G1, μ1, ⟨⟨_, upd_same, ⟨[], rfl, rfl⟩, Nat.zero_le _⟩, (r1.fresh nD).1, (r1.fresh nD).2, r1.beside nD _, ext_upd nD _⟩⟩
      hfold2 ?_ ?_
    · intro i p a S a' S' G2 μ2 H2 x hp hf hr A hx Nx hn
      have hT : ∀ (G : Hp) (μ : List Addr) (a : List (PV × PV) × Nat) (o : HO), (RaD X.K z G μ a.1 o ∧ a.1.length ≤ a.2) → Plain D o := fun G μ a o h => RaD.plain G μ a.1 o h.1
      have hM : ∀ (G : Hp) (μ : List Addr) (G' : Hp) (μ' : List Addr) (a : List (PV × PV) × Nat) (o : HO), (RaD X.K z G μ a.1 o ∧ a.1.length ≤ a.2) → Sub G G' → (∀ (l : Nat) (b : Addr), μ[l]? = some b → μ'[l]? = some b) → (RaD X.K z G' μ' a.1 o ∧ a.1.length ≤ a.2) := fun G μ G' μ' a o h s m => ⟨RaD.mono G μ G' μ' a.1 o h.1 s m, h.2⟩
      -- how many turns are done
      have cnt : ∀ (f : List (PV × PV) × Nat → PV → Store → Option ((List (PV × PV) × Nat) × Store)) (hf : ∀ a x S q, f a x S = some q → q.1.2 = a.2 + 1) (ps : List PV) (a b : List (PV × PV) × Nat) (S SE : Store), foldR f ps a S = some (b, SE) → b.2 = a.2 + ps.length := by
        intro f hf ps
        induction ps with
        | nil =>
          intro a b S SE h
          simp only [foldR, Option.some.injEq, Prod.mk.injEq] at h
          rw [h.1]; rfl
        | cons x xs ih =>
          intro a b S SE h
          simp only [foldR] at h
          cases e : f a x S with
          | none => rw [e] at h; cases h
          | some q =>
            rw [e] at h
            have := ih q.1 b q.2 SE h
            rw [this, hf _ _ _ _ e, List.length_cons]
            omega
      have hcnt := cnt _ (fun a x S q h => by
        cases e : fD (dcompF (own.map (·.2)) t ft fk fv ρ) a.1 x S with
        | none => rw [e] at h; cases h
        | some q' => rw [e] at h; cases h; rfl) _ _ _ _ _ hr
      have hile : i < ps.length := (List.getElem?_eq_some_iff.mp hp).1
      rw [List.length_drop] at hcnt
      simp only at hcnt
      cases ef0 : fD (dcompF (own.map (·.2)) t ft fk fv ρ) a.1 p S with
      | none => rw [ef0] at hf; cases hf
      | some q0 =>
        rw [ef0] at hf
        simp only [Option.map_some, Option.some.injEq, Prod.mk.injEq] at hf
        obtain ⟨hf1, hf2⟩ := hf
        subst hf2
        subst hf1
        simp only at hcnt
        have ha2 : a.2 = i := by omega
        have hlt : a.2 < LINE := by have := sv.1; omega
        have hE2 : RelE X.K z ρ σ G2 μ2 := (hE.mono e1).mono A.e
        unfold fD at ef0
        cases ef : dcompF (own.map (·.2)) t ft fk fv ρ p S with
        | exc c S2 => rw [ef] at ef0; cases ef0
        | bad => rw [ef] at ef0; cases ef0
        | ok ob S2 =>
          rw [ef] at ef0
          unfold dcompF at ef
          cases e2 : bindP t p (wipe ρ (own.map (·.2))) with
          | none => simp only [e2] at ef; cases ef
          | some ρ' =>
            simp only [e2] at ef
            refine ⟨wipe ρ (own.map (·.2)), S, G2, μ2, p, ρ', hE2.wipe _, A.r, hx, e2, fun σ' hE' hw => ⟨by rw [hw _ hin, wipe_wipe], ?_⟩⟩
            cases e3 : ft ρ' S with
            | exc c S1 => rw [e3] at ef; cases ef
            | bad => rw [e3] at ef; cases ef
            | ok k S3 =>
              simp only [e3, Res.bind_ok] at ef
              refine ⟨ρ', S, G2, μ2, hE', A.r, Post.okd e3 fun G3 μ3 H3 e3' r3 => ?_⟩
              have A3 := A.step hT hM e3' r3
              cases k with
              | false =>
                simp only [Bool.false_eq_true, if_false, Res.ok.injEq] at ef ⊢
                obtain ⟨rfl, rfl⟩ := ef
                simp only [Option.some.injEq] at ef0
                subst ef0
                obtain ⟨o, h1, h2, h3⟩ := A3.at_
                exact hn _ _ _ ⟨⟨o, h1, h2, by simp only; omega⟩, A3.g, A3.m, A3.r, A3.e⟩
              | true =>
                simp only [if_true] at ef ⊢
                cases e4 : fk ρ' S3 with
                | exc c S1 => rw [e4] at ef; cases ef
                | bad => rw [e4] at ef; cases ef
                | ok kk S4 =>
                  simp only [e4, Res.bind_ok] at ef
                  refine ⟨ρ', S3, G3, μ3, hE'.mono e3', r3, Post.okd e4 fun G4 μ4 H4 e4' r4 y hy => ?_⟩
                  have A4 := A3.step hT hM e4' r4
                  cases e5 : fv ρ' S4 with
                  | exc c S1 => rw [e5] at ef; cases ef
                  | bad => rw [e5] at ef; cases ef
                  | ok v S5 =>
                    simp only [e5, Res.bind_ok, Res.ok.injEq] at ef
                    obtain ⟨rfl, rfl⟩ := ef
                    refine ⟨ρ', S4, G4, μ4, (hE'.mono e3').mono e4', r4, Post.okd e5 fun G5 μ5 H5 e5' r5 w hw => ?_⟩
                    have A5 := A4.step hT hM e5' r5
                    simp only at ef0
                    split at ef0
                    · rename_i hk1
                      simp only [Option.some.injEq] at ef0
                      subst ef0
                      obtain ⟨q, rfl⟩ := isK1_pk hk1
                      have hy' := rep_pk hy
                      obtain ⟨o, h1, ⟨kv, rfl, hkv⟩, h3⟩ := A5.at_
                      have hlen := hkv.length
                      have A6 := A5.put hT nD (a' := (dput a.1 (pk q) v, a.2 + 1)) (o := .dK (putK kv q w)) ⟨⟨_, rfl, hkv.put q hw⟩, by have := dput_len a.1 (pk q) v; simp only at h3 ⊢; omega⟩
                      exact ⟨kv, q, hy', h1, by rw [sizeLine_LINE]; have h3 : a.1.length ≤ a.2 := h3; omega, hn _ _ _ A6⟩
                    · cases ef0
    · intro G2 μ2 H2 A
      obtain ⟨o, ho, ⟨vs, rfl, hvs⟩, _⟩ := A.at_
      have e3 := ext_del A.e nD
      have r3 := A.r.erase' ho A.g A.m (fun _ q => nomatch q) (fun _ q => nomatch q)
      have := mk_laidD r3 (by rw [← hvs.length]; exact hbl) hvs (laid_of (h1.ext e3)) D del_same
      rw [upd_del, upd_self ho] at this
      exact this
end
/-- name = {k: v for ..} on one line, the name a local (as ps_setLc of the library) -/
theorem ps_setDc {X : Cx} {i : Nat} {y : Str} {py : Pos} {kx vx tg iter : Expr} {ifs : List Expr} {scope : Scope} {own : List (Str × Nat)} {pos spos : Pos} {wi : TI} {g : TG} {tt : TT} {tk tv : TE} (hc : X.calm = true) (hN : X.N.Nodup) (hy : X.N[i]? = some y) (hyl : X.env.scope.names.lookup y = some .local)
    (hsw : swapsWith (.DictComp kx vx [⟨tg, iter, ifs, 0⟩] scope pos) (some (.Name y py)) spos.line X.env = pure true) (hi : PI X tg iter wi) (ok : BlkOk X.N X.env.scope scope own)
    (hg : ∀ (s : Shared) (H : Hp) (C : Addr) (cl : List (Str × Addr)) (fp : List Addr), PG (X.blk s H scope (compEnvC scope cl C X.env) fp) tg g) (ht : ∀ (s : Shared) (H : Hp) (C : Addr) (cl : List (Str × Addr)) (fp : List Addr), PTs (X.blk s H scope (compEnvC scope cl C X.env) fp) ifs tt)
    (hk : ∀ (s : Shared) (H : Hp) (C : Addr) (cl : List (Str × Addr)) (fp : List Addr), PE (X.blk s H scope (compEnvC scope cl C X.env) fp) kx tk)
    (he : ∀ (s : Shared) (H : Hp) (C : Addr) (cl : List (Str × Addr)) (fp : List Addr), PE (X.blk s H scope (compEnvC scope cl C X.env) fp) vx tv) (hs : ∀ x, foldedSetIterable iter X.env x = pure x) :
    PS X (.Assign [.Name y py] (.DictComp kx vx [⟨tg, iter, ifs, 0⟩] scope pos) spos) (tAsg (tDc wi g tt tk tv (own.map (·.2))) (gName i)) := by
  refine ⟨fun pins s σ H D I h => ?_⟩
  rw [exec_Assign_Name_used _ _ _ _ hsw]
  refine wpAny_bind (wpAny_standAt (wpAny_bind ?_))
  show wpAny _ X.A (do let _ ← comprehension (.DictComp kx vx [⟨tg, iter, ifs, 0⟩] scope pos) scope X.env (firstIterPos [⟨tg, iter, ifs, 0⟩] pos) newDict false (eval iter X.env) (some (assign (.Name y py) X.env))) _ _ s
  have h : tDc wi g tt tk tv (own.map (·.2)) σ H (fun x H1 => gName i x σ H1 D.nx) := h
  refine wpAny_bind (thn (dc_core (Qf := fun _ s' => SP X pins D .next s') hc hN I hi ok hg ht hk he hs h fun L C s' m H' I' q hn f => ?_) fun _ s' hq => wpAny_pure (wpAny_pure hq))
  show wpAny _ _ (assign (.Name y py) X.env (.ref L)) _ _ _
  refine wpAny_assign_Name (store_ok2 (v := V.ref L) I' hN hy (.inl hyl) rfl (fun s2 I2 ⟨a, sb, ha⟩ => ?_) (.inr hyl))
  obtain ⟨f0, f1, f2, f3, f4, f5⟩ := f
  have haC : C ≠ a := by
    rcases ha with z | z
    · rw [z]; exact f1
    · exact fun e => f4 y a z e.symm
  refine ⟨m, hn.sameBut sb haC, fun h3 sb3 => ?_⟩
  exact ⟨_, H', I2.turned (t' := s2.toks) (fun b o hb e => (sb3.2 b hb).trans e) f0 f1 f3 f4 f5, q⟩
end CW
end

section
set_option Elab.async false
set_option linter.all false
set_option maxRecDepth 100000
set_option maxHeartbeats 2000000
/-! Statements. -/
namespace CW
open PySem PySem.Spec PyProof.Rows L2

/-! ### another closure, another exception at hand -/
section
variable {K : PySem.W.Frag} {z z' : Kz} {G : Hp} {μ : List Addr}
/-- c: the value bears neither; else what is at hand is the same or nothing -/
structure SwapOk (c : Bool) (z z' : Kz) : Prop where
  x : c = false → z.xa = none ∨ z.xa = z'.xa
  f : c = false → z.clo = none ∨ z.clo = z'.clo
mutual
theorem Rep.swap {c : Bool} {n : Nat} (w : SwapOk c z z') : ∀ (p : PV) (v : V), (c = true → p.under n = true) → Rep K z G μ p v → Rep K z' G μ p v
  | .non, v, _, h => h
  | .bl b, v, _, h => h
  | .int i, v, _, h => h
  | .str x, v, _, h => h
  | .ty n, v, _, h => h
  | .gl _, _, _, h => h.elim
  | .loc l, v, _, h => h
  | .clo, v, u, h => by
    cases c with
    | true => cases u rfl
    | false =>
      obtain ⟨f, h1, h2⟩ := h
      rcases w.f rfl with e | e
      · rw [e] at h1; cases h1
      · exact ⟨f, e ▸ h1, h2⟩
  | .tup xs, v, u, h => by
    obtain ⟨a, vs, h1, h2, h3, h4⟩ := h
    exact ⟨a, vs, h1, h2, h3, RepL.swap w xs vs (fun e => u e) h4⟩
  | .lst xs, v, u, h => by
    obtain ⟨a, vs, h1, h2, h3, h4⟩ := h
    exact ⟨a, vs, h1, h2, h3, RepL.swap w xs vs (fun e => u e) h4⟩
  | .dct kvs, v, u, h => by
    obtain ⟨a, kv, h1, h2, h3, h4⟩ := h
    exact ⟨a, kv, h1, h2, h3, RepK.swap w kvs kv (fun e => u e) h4⟩
  | .exn x fs, v, u, h => by
    cases c with
    | true => cases u rfl
    | false =>
      obtain ⟨a, d, h1, h2, h3⟩ := h
      rcases w.x rfl with e | e
      · rw [e] at h1; cases h1
      · exact ⟨a, d, e ▸ h1, h2, RepX.swap w fs d h3⟩
theorem RepL.swap {c : Bool} {n : Nat} (w : SwapOk c z z') : ∀ (xs : List PV) (vs : List V), (c = true → underL n xs = true) → RepL K z G μ xs vs → RepL K z' G μ xs vs
  | [], vs, _, h => h
  | x :: xs, vs, u, h => by
    obtain ⟨v, r, h1, h2, h3⟩ := h
    have u' : c = true → x.under n = true ∧ underL n xs = true := fun e => by
      have := u e
      simpa [underL] using this
    exact ⟨v, r, h1, Rep.swap w x v (fun e => (u' e).1) h2, RepL.swap w xs r (fun e => (u' e).2) h3⟩
theorem RepK.swap {c : Bool} {n : Nat} (w : SwapOk c z z') : ∀ (xs : List (PV × PV)) (vs : List (Key × V)), (c = true → underKv n xs = true) → RepK K z G μ xs vs → RepK K z' G μ xs vs
  | [], vs, _, h => h
  | (k, x) :: xs, vs, u, h => by
    obtain ⟨q, v, r, h1, h0, h2, h3⟩ := h
    have u' : c = true → x.under n = true ∧ underKv n xs = true := fun e => by
      have := u e
      simp only [underKv, Bool.and_eq_true] at this
      exact ⟨this.1.2, this.2⟩
    exact ⟨q, v, r, h1, h0, Rep.swap w x v (fun e => (u' e).1) h2, RepK.swap w xs r (fun e => (u' e).2) h3⟩
theorem RepX.swap (w : SwapOk false z z') : ∀ (fs : List (Str × PV)) (d : Option Addr), RepX K z G μ fs d → RepX K z' G μ fs d
  | [], d, h => h
  | (f, x) :: r, d, h => by
    obtain ⟨a, v, h1, h2, h3, h4⟩ := h
    exact ⟨a, v, h1, h2, h3, Rep.swap (n := 0) w x v (fun e => by cases e) h4⟩
end
theorem underS_get : ∀ {n : Nat} {S : Store} {l : Nat} {ob : Ob}, underS n S = true → S[l]? = some ob → ob.under n = true
  | n, [], _, _, _, e => by simp at e
  | n, o :: r, 0, ob, h, e => by
    simp at e; subst e
    simp only [underS, Bool.and_eq_true] at h; exact h.1
  | n, o :: r, l + 1, ob, h, e => by
    simp only [underS, Bool.and_eq_true] at h
    exact underS_get (l := l) h.2 (by simpa using e)
theorem RelS.swap {S : Store} {H : Hp} {c : Bool} (w : SwapOk c z z') (r : RelS K z S G μ H) (hu : c = true → underS S.length S = true) (ht : ∀ p ∈ z'.T, p ∈ z.T) (hl : ∀ l, z'.lam = some l → z.lam = some l) : RelS K z' S G μ H := by
  refine ⟨r.g, r.len, fun l ob a e1 e2 => ?_, r.inj, r.there, r.gt, fun p hp => r.tabs p (ht p hp), fun l e => r.lam l (hl l e)⟩
  have h := r.at_ l ob a e1 e2
  have hu' : c = true → ob.under S.length = true := fun e => underS_get (hu e) e1
  cases ob with
  | lst xs =>
    obtain ⟨h0, vs, h1, h2⟩ := h
    exact ⟨h0, vs, h1, RepL.swap w xs vs hu' h2⟩
  | dct kvs =>
    obtain ⟨h0, vs, h1, h2⟩ := h
    exact ⟨h0, vs, h1, RepK.swap w kvs vs hu' h2⟩
  | ins c fs => exact h.elim
  | dead => trivial
theorem RelE.swap {ρ : Env} {σ : L2.St} (w : SwapOk false z z') (h : RelE K z ρ σ G μ) : RelE K z' ρ σ G μ := ⟨h.1, fun i p hp => let ⟨v, h1, h2⟩ := h.2 i p hp; ⟨v, h1, Rep.swap (n := 0) w p v (fun e => by cases e) h2⟩⟩
theorem RelE.clean {ρ : Env} {σ : L2.St} {n : Nat} (w : SwapOk true z z') (h : RelE K z ρ σ G μ) : RelE K z' (clean n ρ) σ G μ := by
  refine ⟨by unfold CW.clean; rw [List.length_map]; exact h.1, fun i p hp => ?_⟩
  unfold CW.clean at hp
  rw [List.getElem?_map] at hp
  cases e : ρ[i]? with
  | none => rw [e] at hp; cases hp
  | some o =>
    rw [e] at hp
    cases o with
    | none => simp at hp
    | some q =>
      simp only [Option.map_some, Option.some.injEq, Option.bind_some] at hp
      split at hp
      · rename_i hq
        cases hp
        obtain ⟨v, h1, h2⟩ := h.2 i p e
        exact ⟨v, h1, Rep.swap w p v (fun _ => hq) h2⟩
      · cases hp
end

/-! ### readings of statements -/
section
variable {α β : Type} {K : PySem.W.Frag} {mg : Str → Option Value} {z : Kz} {W : WX} {σ : L2.St} {G G' H H' : Hp} {μ μ' : List Addr} {ρ : Env} {D D' : Ends}
def SPost (K : PySem.W.Frag) (mg : Str → Option Value) (z : Kz) (W : WX) (G : Hp) (μ : List Addr) (H : Hp) (r : SRes) (D : Ends) : Prop := match r with
  | .next ρ S => ∀ G' μ' H' σ', Ext G μ H G' μ' H' → RelS K z S G' μ' H' → RelE K z ρ σ' G' μ' → D.nx σ' H'
  | .ret v S => ∀ G' μ' H' u, Ext G μ H G' μ' H' → RelS K z S G' μ' H' → Rep K z G' μ' v u → D.rt u H'
  | .brk ρ S => ∀ G' μ' H' σ', Ext G μ H G' μ' H' → RelS K z S G' μ' H' → RelE K z ρ σ' G' μ' → D.bk σ' H'
  | .cont ρ S => ∀ G' μ' H' σ', Ext G μ H G' μ' H' → RelS K z S G' μ' H' → RelE K z ρ σ' G' μ' → D.ct σ' H'
  | .exc c ρ S => ∀ G' μ' H' σ' cls d, Ext G μ H G' μ' H' → RelS K z S G' μ' H' → RelE K z ρ σ' G' μ' → RepXn K mg z G' μ' c cls d → W cls d σ' H'
  | .bad => False
theorem SPost.ext {r : SRes} (h : SPost K mg z W G μ H r D) (e : Ext G μ H G' μ' H') : SPost K mg z W G' μ' H' r D := by
  cases r with
  | next ρ S => exact fun G2 μ2 H2 σ2 e2 => h G2 μ2 H2 σ2 (e.trans e2)
  | ret ρ S => exact fun G2 μ2 H2 σ2 e2 => h G2 μ2 H2 σ2 (e.trans e2)
  | brk ρ S => exact fun G2 μ2 H2 σ2 e2 => h G2 μ2 H2 σ2 (e.trans e2)
  | cont ρ S => exact fun G2 μ2 H2 σ2 e2 => h G2 μ2 H2 σ2 (e.trans e2)
  | exc c ρ S => exact fun G2 μ2 H2 σ2 cls d e2 => h G2 μ2 H2 σ2 cls d (e.trans e2)
  | bad => exact h
/-- an expression's part of a statement -/
theorem SPost.st {r : Res α} {k : α → Store → SRes} (h : SPost K mg z W G μ H (r.st ρ k) D) (hE : RelE K z ρ σ G μ) : Post K mg z W σ G μ H r fun a S' G' μ' H' => SPost K mg z W G' μ' H' (k a S') D := by
  cases r with
  | ok a S => exact fun G2 μ2 H2 e2 r2 => SPost.ext h e2
  | exc c S => exact fun G2 μ2 H2 cls d e2 r2 x2 => h G2 μ2 H2 σ cls d e2 r2 (hE.mono e2) x2
  | bad => exact h
def TSx (K : PySem.W.Frag) (mg : Str → Option Value) (z : Kz) (W : WX) (f : Env → Store → SRes) : TS := fun D σ H =>
  ∃ ρ S G μ, RelE K z ρ σ G μ ∧ RelS K z S G μ H ∧ SPost K mg z W G μ H (f ρ S) D
theorem SPost.andThen {r : SRes} {k : Env → Store → SRes} (h : SPost K mg z W G μ H (r.andThen k) D) : SPost K mg z W G μ H r { D with nx := fun σ' H' => TSx K mg z W k D σ' H' } := by
  cases r with
  | next ρ S => exact fun G2 μ2 H2 σ2 e2 r2 hE2 => ⟨ρ, S, G2, μ2, hE2, r2, SPost.ext h e2⟩
  | ret ρ S => exact h
  | brk ρ S => exact h
  | cont ρ S => exact h
  | exc c ρ S => exact h
  | bad => exact h
theorem SPost.imp {r : SRes} (h : SPost K mg z W G μ H r D) (h1 : ∀ σ H, D.nx σ H → D'.nx σ H) (h2 : ∀ v H, D.rt v H → D'.rt v H) (h3 : ∀ σ H, D.bk σ H → D'.bk σ H) (h4 : ∀ σ H, D.ct σ H → D'.ct σ H) : SPost K mg z W G μ H r D' := by
  cases r with
  | next ρ S => exact fun G2 μ2 H2 σ2 e2 r2 hE2 => h1 _ _ (h G2 μ2 H2 σ2 e2 r2 hE2)
  | ret ρ S => exact fun G2 μ2 H2 σ2 e2 r2 hE2 => h2 _ _ (h G2 μ2 H2 σ2 e2 r2 hE2)
  | brk ρ S => exact fun G2 μ2 H2 σ2 e2 r2 hE2 => h3 _ _ (h G2 μ2 H2 σ2 e2 r2 hE2)
  | cont ρ S => exact fun G2 μ2 H2 σ2 e2 r2 hE2 => h4 _ _ (h G2 μ2 H2 σ2 e2 r2 hE2)
  | exc c ρ S => exact h
  | bad => exact h
/-- a target's reading: no jump comes of it -/
def GPost (K : PySem.W.Frag) (mg : Str → Option Value) (z : Kz) (W : WX) (G : Hp) (μ : List Addr) (H : Hp) (r : SRes) (Q : L2.St → Hp → Prop) : Prop := match r with
  | .next ρ S => ∀ G' μ' H' σ', Ext G μ H G' μ' H' → RelS K z S G' μ' H' → RelE K z ρ σ' G' μ' → Q σ' H'
  | .exc c ρ S => ∀ G' μ' H' σ' cls d, Ext G μ H G' μ' H' → RelS K z S G' μ' H' → RelE K z ρ σ' G' μ' → RepXn K mg z G' μ' c cls d → W cls d σ' H'
  | _ => False
theorem GPost.ext {r : SRes} {Q : L2.St → Hp → Prop} (h : GPost K mg z W G μ H r Q) (e : Ext G μ H G' μ' H') : GPost K mg z W G' μ' H' r Q := by
  cases r with
  | next ρ S => exact fun G2 μ2 H2 σ2 e2 => h G2 μ2 H2 σ2 (e.trans e2)
  | exc c ρ S => exact fun G2 μ2 H2 σ2 cls d e2 => h G2 μ2 H2 σ2 cls d (e.trans e2)
  | _ => exact h
theorem GPost.imp {r : SRes} {Q Q' : L2.St → Hp → Prop} (h : GPost K mg z W G μ H r Q) (i : ∀ σ H, Q σ H → Q' σ H) : GPost K mg z W G μ H r Q' := by
  cases r with
  | next ρ S => exact fun G2 μ2 H2 σ2 e2 r2 hE2 => i _ _ (h G2 μ2 H2 σ2 e2 r2 hE2)
  | exc c ρ S => exact h
  | _ => exact h
theorem GPost.st {r : Res α} {k : α → Store → SRes} {Q : L2.St → Hp → Prop} (h : GPost K mg z W G μ H (r.st ρ k) Q) (hE : RelE K z ρ σ G μ) : Post K mg z W σ G μ H r fun a S' G' μ' H' => GPost K mg z W G' μ' H' (k a S') Q := by
  cases r with
  | ok a S => exact fun G2 μ2 H2 e2 r2 => GPost.ext h e2
  | exc c S => exact fun G2 μ2 H2 cls d e2 r2 x2 => h G2 μ2 H2 σ cls d e2 r2 (hE.mono e2) x2
  | bad => exact h
def noJump : SRes → Bool
  | .next _ _ | .exc _ _ _ | .bad => true
  | _ => false
theorem SPost.g {r : SRes} (h : SPost K mg z W G μ H r D) (j : noJump r = true) : GPost K mg z W G μ H r D.nx := by
  cases r with
  | next ρ S => exact h
  | exc c ρ S => exact h
  | bad => exact h
  | _ => cases j
def TGx (K : PySem.W.Frag) (mg : Str → Option Value) (z : Kz) (W : WX) (g : PV → Env → Store → SRes) : TG := fun v σ H Q =>
  ∃ ρ S G μ p, RelE K z ρ σ G μ ∧ RelS K z S G μ H ∧ Rep K z G μ p v ∧ GPost K mg z W G μ H (g p ρ S) Q
def TGsx (K : PySem.W.Frag) (mg : Str → Option Value) (z : Kz) (W : WX) (g : List PV → Env → Store → SRes) : TGs := fun vs σ H Q =>
  ∃ ρ S G μ ps, RelE K z ρ σ G μ ∧ RelS K z S G μ H ∧ RepL K z G μ ps vs ∧ GPost K mg z W G μ H (g ps ρ S) Q
end
section
variable {sx : Sx}
theorem st_noJump {α : Type} {r : Res α} {ρ : Env} {k : α → Store → SRes} (h : ∀ a S, noJump (k a S) = true) : noJump (r.st ρ k) = true := by
  cases r with
  | ok a S => exact h a S
  | exc c S => rfl
  | bad => rfl
mutual
theorem asgT_noJump : ∀ (t : T) (v : PV) (ρ : Env) (S : Store), noJump (asgT sx t v ρ S) = true
  | .name i, v, ρ, S => by simp [asgT, noJump]
  | .tup ts, v, ρ, S => by
    cases v with
    | tup vs => simp only [asgT]; exact asgTs_noJump ts vs ρ S
    | _ => simp [asgT, noJump]
  | .sub o i, v, ρ, S => by
    simp only [asgT]
    exact st_noJump fun a S => st_noJump fun b S => by
      cases setop a b v S <;> rfl
theorem asgTs_noJump : ∀ (ts : Ts) (vs : List PV) (ρ : Env) (S : Store), noJump (asgTs sx ts vs ρ S) = true
  | .nil, vs, ρ, S => by cases vs <;> simp [asgTs, noJump]
  | .cons t ts, vs, ρ, S => by
    cases vs with
    | nil => simp [asgTs, noJump]
    | cons v vs =>
      simp only [asgTs]
      have := asgT_noJump t v ρ S
      cases e : asgT sx t v ρ S with
      | next ρ' S' => exact asgTs_noJump ts vs ρ' S'
      | exc c ρ' S' => rfl
      | bad => rfl
      | _ => rw [e] at this; cases this
end
end

/-! ### targets -/
section
variable {X : Cx} {z : Kz} {W : WX} {pos : Pos} {sx : Sx}
abbrev TG' (X : Cx) (z : Kz) (W : WX) (g : PV → Env → Store → SRes) : TG := TGx X.K X.mg z W g
abbrev TGs' (X : Cx) (z : Kz) (W : WX) (g : List PV → Env → Store → SRes) : TGs := TGsx X.K X.mg z W g
abbrev TS' (X : Cx) (z : Kz) (W : WX) (f : Env → Store → SRes) : TS := TSx X.K X.mg z W f
theorem sg_name {i : Nat} {x : Str} (hN : X.N.Nodup) (hi : X.N[i]? = some x) (hx : Loc X.env.scope x) (hf : X.fn x = true ∨ X.env.scope.names.lookup x = some .local) : PG X (.Name x pos) (TG' X z W (asgT sx (.name i))) := by
  refine PG.imp (pg_name hN hi hx hf) fun v σ H Q ⟨ρ, S, G, μ, p, hE, hS, hv, h⟩ => ?_
  simp only [asgT] at h
  exact h G μ H _ (Ext.refl ..) hS (hE.set i hv)
theorem sg_nil : PGs X [] (TGs' X z W (asgTs sx .nil)) := by
  refine PGs.imp pgs_nil fun vs σ H Q ⟨ρ, S, G, μ, ps, hE, hS, hv, h⟩ => ?_
  cases ps with
  | nil =>
    simp only [asgTs] at h
    exact ⟨hv, h G μ H _ (Ext.refl ..) hS hE⟩
  | cons _ _ => simp only [asgTs] at h; exact h.elim
theorem sg_cons {e : Expr} {es : List Expr} {t : T} {ts : Ts} (h1 : PG X e (TG' X z W (asgT sx t))) (h2 : PGs X es (TGs' X z W (asgTs sx ts))) (hs : (assignEach (e :: es) X.env).map (·.2) = assign e X.env :: (assignEach es X.env).map (·.2)) : PGs X (e :: es) (TGs' X z W (asgTs sx (.cons t ts))) := by
  refine PGs.imp (pgs_cons h1 h2 hs) fun vs σ H Q ⟨ρ, S, G, μ, ps, hE, hS, hv, h⟩ => ?_
  cases ps with
  | nil => simp only [asgTs] at h; exact h.elim
  | cons p ps =>
    obtain ⟨v, r, rfl, hv, hr⟩ := hv
    simp only [asgTs] at h
    refine ⟨v, r, rfl, ρ, S, G, μ, p, hE, hS, hv, ?_⟩
    have j := asgT_noJump (sx := sx) t p ρ S
    cases e1 : asgT sx t p ρ S with
    | next ρ' S' =>
      rw [e1] at h
      exact fun G2 μ2 H2 σ2 e2 r2 hE2 => ⟨ρ', S', G2, μ2, ps, hE2, r2, hr.ext e2, GPost.ext h e2⟩
    | exc c ρ' S' => rw [e1] at h; exact h
    | bad => rw [e1] at h; exact h
    | _ => rw [e1] at j; cases j
theorem sg_tup {es : List Expr} {k : Nat} {ts : Ts} (hc : X.calm = true) (h : PGs X es (TGs' X z W (asgTs sx ts))) (hl : ∀ ps ρ S, asgTs sx ts ps ρ S ≠ .bad → (∀ c ρ' S', asgTs sx ts ps ρ S ≠ .exc c ρ' S') → ps.length = es.length) (hx : ∀ ps ρ S c ρ' S', asgTs sx ts ps ρ S ≠ .exc c ρ' S')
    (hn : (assignEach es X.env).length = es.length) (hst : (assignEach es X.env).findIdx? (·.1) = none) :
    PG X (.Tuple es k pos) (TG' X z W (asgT sx (.tup ts))) := by
  refine PG.imp (pg_tup hc h hn hst) fun v σ H Q ⟨ρ, S, G, μ, p, hE, hS, hv, h⟩ => ?_
  cases p with
  | tup xs =>
    obtain ⟨a, vs, rfl, k2, k3, k4⟩ := hv
    simp only [asgT] at h
    refine ⟨a, vs, rfl, hS.g.sqT k2, ?_, ρ, S, G, μ, xs, hE, hS, k4, h⟩
    rw [← k4.length]
    exact hl xs ρ S (fun e => by rw [e] at h; exact h) (hx xs ρ S)
  | _ => simp only [asgT] at h; exact h.elim
/-- o[i] = v -/
def rSetA (K : PySem.W.Frag) (z : Kz) : TSet := fun o i v H Q => ∃ S G μ p q r S', RelS K z S G μ H ∧ Rep K z G μ p o ∧ Rep K z G μ q i ∧ Rep K z G μ r v ∧ setop p q r S = some S' ∧ ∀ G' μ' H', Ext G μ H G' μ' H' → RelS K z S' G' μ' H' → Q H'
theorem set_any (hu : X.A.units + 1 < cLine) : PSet X (rSetA X.K z) := by
  intro pins s σ H o i v ov iv u Q I ro ri rv ⟨S, G, μ, p, q, r, S', hS, hp, hq, hr, e, h⟩
  cases p with
  | loc l =>
    obtain ⟨a, h1, rfl⟩ := hp
    cases e0 : S[l]? with
    | none => simp only [setop, e0] at e; cases e
    | some ob =>
      cases ob with
      | lst xs =>
        simp only [setop, e0] at e
        cases q with
        | int k =>
          cases hq
          obtain ⟨g0, vs, g1, g2⟩ := hS.at_ l _ a e0 h1
          cases e1 : ixN xs.length k with
          | none => simp only [e1] at e; cases e
          | some j =>
            simp only [e1, Option.map_some, Option.some.injEq] at e
            subst e
            obtain ⟨r2, e2⟩ := hS.write (o := .lst (vs.set j v)) (ob' := .lst (xs.set j r)) e0 h1 rfl rfl g0 (fun ps w => by rw [g1] at w; cases w) (fun q w => by rw [g1] at w; cases w) fun H' hh => ⟨g0, _, hh, g2.set j hr⟩
            exact set_list pins s σ H _ _ v ov iv u Q I ro ri rv ⟨a, vs, k, j, rfl, rfl, g1, by rw [← g2.length]; exact e1, h _ _ _ e2 r2⟩
        | _ => simp at e
      | dct kvs =>
        simp only [setop, e0] at e
        split at e
        · rename_i hk
          simp only [Bool.and_eq_true, Bool.or_eq_true, decide_eq_true_eq] at hk
          simp only [Option.some.injEq] at e
          subst e
          obtain ⟨g0, kv, g1, g2⟩ := hS.at_ l _ a e0 h1
          have k1 : isK1 q = true := by
            rcases hk.1 with k | k
            · unfold dOk at k
              simp only [Bool.or_eq_true, Bool.and_eq_true] at k
              rcases k with k | k
              · exact k.1
              · -- tuple keys stand in no dict of ours
                exfalso
                cases kvs with
                | nil => simp at k
                | cons kx r =>
                  obtain ⟨kk, x⟩ := kx
                  obtain ⟨q', v', t, _, rfl, _, _⟩ := g2
                  have := k.2
                  simp only [List.all_cons, Bool.and_eq_true] at this
                  cases q' <;> simp [pk, isKT] at this
            · exact k.2
          obtain ⟨kq, rfl⟩ := isK1_pk k1
          have hi := rep_pk hq
          subst hi
          obtain ⟨r2, e2⟩ := hS.write (o := .dK (putK kv kq v)) (ob' := .dct (dput kvs (pk kq) r)) e0 h1 rfl rfl g0 (fun ps w => by rw [g1] at w; cases w) (fun q w => by rw [g1] at w; cases w) fun H' hh => ⟨g0, _, hh, g2.put kq hr⟩
          exact set_dict hu pins s σ H _ _ v ov iv u Q I ro ri rv ⟨a, _, rfl, .inl ⟨kv, kq, g1, rfl, by rw [sizeLine_LINE, ← g2.length]; exact hk.2, rfl⟩, h _ _ _ e2 r2⟩
        · cases e
      | _ => simp only [setop, e0] at e; cases e
  | _ => cases e
theorem sg_sub {o i : Expr} {eo ei : E} (hu : X.A.units + 1 < cLine) (ho : PE X o (TE' X z W (den sx eo))) (hi : PE X i (TE' X z W (den sx ei)))
    (ha : ∀ v, assign (.Subscript o i pos) X.env v = (do
      let ov ← holding [v] (eval o X.env)
      let iv ← holding [v, ov] (eval i X.env)
      standAt pos
      holding [v, ov, iv] (setItem ov iv v)
      release [v, ov, iv] [])) : PG X (.Subscript o i pos) (TG' X z W (asgT sx (.sub eo ei))) := by
  refine PG.imp (pg_sub ho hi (set_any (z := z) hu) ha) fun v σ H Q ⟨ρ, S, G, μ, p, hE, hS, hv, h⟩ => ?_
  simp only [asgT] at h
  refine ⟨ρ, S, G, μ, hE, hS, (GPost.st h hE).imp fun a S1 G1 μ1 H1 e1 r1 h1 x hx => ?_⟩
  refine ⟨ρ, S1, G1, μ1, hE.mono e1, r1, (GPost.st h1 (hE.mono e1)).imp fun b S2 G2 μ2 H2 e2 r2 h2 y hy => ?_⟩
  cases e : setop a b p S2 with
  | none => rw [e] at h2; exact h2.elim
  | some S3 =>
    rw [e] at h2
    exact ⟨S2, G2, μ2, a, b, p, S3, r2, hx.ext e2, hy, (hv.ext e1).ext e2, e, fun G' μ' H' e3 r3 => h2 G' μ' H' σ e3 r3 (((hE.mono e1).mono e2).mono e3)⟩
end
end CW
end

section
set_option Elab.async false
set_option linter.all false
set_option maxRecDepth 100000
set_option maxHeartbeats 2000000
/-! Statements: the rules. -/
namespace CW
open PySem PySem.Spec PyProof.Rows L2

/-- an own exception class that is made without arguments -/
structure RaiseC (K : PySem.W.Frag) (mg : Str → Option Value) (x : Str) : Prop where
  ex : ∃ (C : Addr) (bmB : List Value) (B newId initId : String), PySem.ExcBaseFacts B newId initId bmB ∧ PySem.W.excIn K C bmB newId = true ∧ mg x = some (.ref C) ∧ PySem.W.keepIn K (.ref C) = true ∧ PySem.W.subIn K (.ref C) (.type "BaseException") = some true ∧ PySem.W.typeIn K (.ref C) = some (.type "type")
section
variable {X : Cx} {z : Kz} {W : WX} {pos : Pos} {sx : Sx} {e : Expr} {fe : Env → Store → Res PV}
theorem pmk_own0 {C : Addr} {bmB : List Value} {B newId initId : String} {x : Str} {p : Pos} (F : ExcBaseFacts B newId initId bmB) (q : PySem.W.excIn X.K C bmB newId = true) (gC : X.mg x = some (.ref C))
    (kC : PySem.W.keepIn X.K (.ref C) = true) (r : Raises X (.ref C)) (hg : Gl X x) (hdb : (x == ("__debug__" : Str)) = false) : PMk X (.Call (.Name x p) [] [] pos) (fun _ H Q => Q (.ref C) none H) := by
  intro pins s σ H Q I h
  refine wpAny_Call_Name_kw (ld_glob I hg gC ?_ hdb)
  refine PySem.W.callWith_K0 I.kIn kC ?_
  show wpAny _ _ (call (.ref C) []) _ _ _
  obtain ⟨bm, N, nm, qn, bs, hdct, sn, sub, ab, col, dd, k0, k1, k2, k3, k5, mN, hC, hN, hni, T⟩ := exc_obj I.kIn q
  exact wpAny_call_exc_subT F T hC hN hni (fun h' e hm => mk_of I hm r h (I.hok.gone hm.new)) (Nat.zero_le _)
theorem ss_raise0 {x : Str} {p p2 : Pos} (hc : X.calm = true) (tk : Takes X W) (R : RaiseC X.K X.mg x) (hg : Gl X x) (hdb : (x == ("__debug__" : Str)) = false) : PS X (.Raise (some (.Call (.Name x p) [] [] p2)) none pos) (TS' X z W fun ρ S => (Res.ok ([] : List PV) S).st ρ fun vs S => match vs with
      | [] => .exc ⟨x, []⟩ ρ S
      | _ => .bad) := by
  obtain ⟨C, bmB, B, newId, initId, F, q, gC, kC, sub, ty⟩ := R.ex
  refine PS.imp (ps_raise hc tk (pmk_own0 F q gC kC (raises_own sub ty) hg hdb)) fun D σ H ⟨ρ, S, G, μ, hE, hS, h⟩ => ?_
  exact h G μ H σ _ _ (Ext.refl ..) hS hE ⟨C, gC, rfl, rfl⟩
theorem ss_nil : PSs X [] (TS' X z W fun ρ S => .next ρ S) := PSs.imp pss_nil fun D σ H ⟨ρ, S, G, μ, hE, hS, h⟩ => h G μ H σ (Ext.refl ..) hS hE
theorem ss_cons {st : Stmt} {rest : List Stmt} {f g : Env → Store → SRes} (h1 : PS X st (TS' X z W f)) (h2 : PSs X rest (TS' X z W g)) : PSs X (st :: rest) (TS' X z W fun ρ S => (f ρ S).andThen g) :=
  PSs.imp (pss_cons h1 h2) fun D σ H ⟨ρ, S, G, μ, hE, hS, h⟩ => ⟨ρ, S, G, μ, hE, hS, SPost.andThen h⟩
theorem ss_pass : PS X (.Pass pos) (TS' X z W fun ρ S => .next ρ S) := PS.imp ps_pass fun D σ H ⟨ρ, S, G, μ, hE, hS, h⟩ => h G μ H σ (Ext.refl ..) hS hE
theorem ss_brk : PS X (.Break pos) (TS' X z W fun ρ S => .brk ρ S) := PS.imp ps_break fun D σ H ⟨ρ, S, G, μ, hE, hS, h⟩ => h G μ H σ (Ext.refl ..) hS hE
theorem ss_cont : PS X (.Continue pos) (TS' X z W fun ρ S => .cont ρ S) := PS.imp ps_continue fun D σ H ⟨ρ, S, G, μ, hE, hS, h⟩ => h G μ H σ (Ext.refl ..) hS hE
theorem ss_doc {x : Str} {j : Nat} {p : Pos} : PS X (.Expr (.Constant (.str x) j p) pos) (TS' X z W fun ρ S => .next ρ S) := PS.imp ps_doc fun D σ H ⟨ρ, S, G, μ, hE, hS, h⟩ => h G μ H σ (Ext.refl ..) hS hE
theorem ss_ret0 : PS X (.Return none pos) (TS' X z W fun _ S => .ret .non S) := PS.imp ps_retN fun D σ H ⟨ρ, S, G, μ, hE, hS, h⟩ => h G μ H .non (Ext.refl ..) hS rfl
theorem ss_ret (he : PE X e (TE' X z W fe)) : PS X (.Return (some e) pos) (TS' X z W fun ρ S => (fe ρ S).st ρ fun v S => .ret v S) :=
  PS.imp (ps_ret he) fun D σ H ⟨ρ, S, G, μ, hE, hS, h⟩ => ⟨ρ, S, G, μ, hE, hS, (SPost.st h hE).imp fun p S1 G1 μ1 H1 e1 r1 h1 v hv => h1 G1 μ1 H1 v (Ext.refl ..) r1 hv⟩
theorem ss_ex (he : PE X e (TE' X z W fe)) (hs : swapsWith e none pos.line X.env = pure false) : PS X (.Expr e pos) (TS' X z W fun ρ S => (fe ρ S).st ρ fun _ S => .next ρ S) :=
  PS.imp (ps_expr he hs) fun D σ H ⟨ρ, S, G, μ, hE, hS, h⟩ => ⟨ρ, S, G, μ, hE, hS, (SPost.st h hE).imp fun p S1 G1 μ1 H1 e1 r1 h1 v hv => h1 G1 μ1 H1 σ (Ext.refl ..) r1 (hE.mono e1)⟩
theorem ss_if {c : Expr} {a b : List Stmt} {fc : Env → Store → Res Bool} {fa fb : Env → Store → SRes} (hc : PT X c (TT' X z W fc)) (ha : PSs X a (TS' X z W fa)) (hb : PSs X b (TS' X z W fb)) :
    PS X (.If c a b pos) (TS' X z W fun ρ S => (fc ρ S).st ρ fun k S => if k then fa ρ S else fb ρ S) :=
  PS.imp (ps_if hc ha hb) fun D σ H ⟨ρ, S, G, μ, hE, hS, h⟩ => ⟨ρ, S, G, μ, hE, hS, (SPost.st h hE).imp fun k S1 G1 μ1 H1 e1 r1 h1 => by
    cases k with
    | true => exact ⟨ρ, S1, G1, μ1, hE.mono e1, r1, h1⟩
    | false => exact ⟨ρ, S1, G1, μ1, hE.mono e1, r1, h1⟩⟩
/-- target = e -/
theorem t_asg {t : T} (D : Ends) (σ : L2.St) (H : Hp) (h : TS' X z W (fun ρ S => (fe ρ S).st ρ fun v S => asgT sx t v ρ S) D σ H) : tAsg (TE' X z W fe) (TG' X z W (asgT sx t)) D σ H := by
  obtain ⟨ρ, S, G, μ, hE, hS, h⟩ := h
  exact ⟨ρ, S, G, μ, hE, hS, (SPost.st h hE).imp fun p S1 G1 μ1 H1 e1 r1 h1 v hv => ⟨ρ, S1, G1, μ1, p, hE.mono e1, r1, hv, h1.g (asgT_noJump t p ρ S1)⟩⟩
theorem ss_asg {tg : Expr} {t : T} (he : PE X e (TE' X z W fe)) (hg : PG X tg (TG' X z W (asgT sx t))) (hs : swapsWithSole [tg] e pos.line X.env = pure false) (hw : swappedStores [tg] e X.env = pure none)
    (h1 : (assignEach [tg] X.env).map (·.2) = [assign tg X.env]) : PS X (.Assign [tg] e pos) (TS' X z W fun ρ S => (fe ρ S).st ρ fun v S => asgT sx t v ρ S) := PS.imp (ps_asg he hg hs hw h1) t_asg
/-- name = e, by a reading of e that ours leads to (a comprehension whose stores are exchanged) -/
theorem ss_setC {i : Nat} {te : TE} {st : Stmt} (h : PS X st (tAsg te (gName i))) (ht : ∀ σ H Q, TE' X z W fe σ H Q → te σ H Q) : PS X st (TS' X z W fun ρ S => (fe ρ S).st ρ fun v S => asgT sx (.name i) v ρ S) := by
  refine PS.imp h fun D σ H ⟨ρ, S, G, μ, hE, hS, h⟩ => ?_
  refine ht _ _ _ ⟨ρ, S, G, μ, hE, hS, (SPost.st h hE).imp fun p S1 G1 μ1 H1 e1 r1 h1 v hv => ?_⟩
  simp only [asgT] at h1
  exact h1 G1 μ1 H1 _ (Ext.refl ..) r1 ((hE.mono e1).set i hv)
/-- a, b = x, y -/
theorem ss_par2 {i j : Nat} {x y : Str} {a b : Expr} {fs : Env → Store → Res (List PV)} {px py pt : Pos} {kt k2 pt2} (hc : X.calm = true) (hN : X.N.Nodup) (hi : X.N[i]? = some x) (hj : X.N[j]? = some y) (hij : i ≠ j)
    (hx : X.env.scope.names.lookup x = some .local) (hy : X.env.scope.names.lookup y = some .local) (ha : PA X [a, b] (TA' X z W fs)) (hl : Len fs 2)
    (hw : swappedStores [.Tuple [.Name x px, .Name y py] kt pt] (.Tuple [a, b] k2 pt2) X.env = pure (some [x, y])) :
    PS X (.Assign [.Tuple [.Name x px, .Name y py] kt pt] (.Tuple [a, b] k2 pt2) pos) (TS' X z W fun ρ S => (fs ρ S).st ρ fun vs S => .next (sets ρ [i, j] vs) S) := by
  refine PS.imp (ps_par hc hN hi hj hij hx hy ha hw rfl) fun D σ H ⟨ρ, S, G, μ, hE, hS, h⟩ => ?_
  refine ⟨ρ, S, G, μ, hE, hS, Post.imp' (SPost.st h hE) ?_⟩
  intro ps S1 er G1 μ1 H1 e1 r1 h1 vs hvs
  have l1 := hl ρ S ps S1 er
  match ps, l1 with
  | [p, q], _ =>
    obtain ⟨v, r, rfl, hv, hr⟩ := hvs
    obtain ⟨w, r2, rfl, hw', hr2⟩ := hr
    have hr2 : r2 = [] := hr2
    subst hr2
    exact ⟨v, w, rfl, h1 G1 μ1 H1 _ (Ext.refl ..) r1 (((hE.mono e1).set i hv).set j hw')⟩
theorem ss_par3 {i j l : Nat} {x y w : Str} {a b c : Expr} {fs : Env → Store → Res (List PV)} {px py pz pt : Pos} {kt k2 pt2} (hc : X.calm = true) (hN : X.N.Nodup) (hi : X.N[i]? = some x) (hj : X.N[j]? = some y) (hk : X.N[l]? = some w) (hij : i ≠ j) (hil : i ≠ l) (hjl : j ≠ l)
    (hx : X.env.scope.names.lookup x = some .local) (hy : X.env.scope.names.lookup y = some .local) (hz : X.env.scope.names.lookup w = some .local) (ha : PA X [a, b, c] (TA' X z W fs)) (hl : Len fs 3)
    (hw : swappedStores [.Tuple [.Name x px, .Name y py, .Name w pz] kt pt] (.Tuple [a, b, c] k2 pt2) X.env = pure (some [x, y, w])) :
    PS X (.Assign [.Tuple [.Name x px, .Name y py, .Name w pz] kt pt] (.Tuple [a, b, c] k2 pt2) pos) (TS' X z W fun ρ S => (fs ρ S).st ρ fun vs S => .next (sets ρ [i, j, l] vs) S) := by
  refine PS.imp (ps_par3 hc hN hi hj hk hij hil hjl hx hy hz ha hw rfl) fun D σ H ⟨ρ, S, G, μ, hE, hS, h⟩ => ?_
  refine ⟨ρ, S, G, μ, hE, hS, Post.imp' (SPost.st h hE) ?_⟩
  intro ps S1 er G1 μ1 H1 e1 r1 h1 vs hvs
  have l1 := hl ρ S ps S1 er
  match ps, l1 with
  | [p, q, r], _ =>
    obtain ⟨v, r, rfl, hv, hr⟩ := hvs
    obtain ⟨w, r2, rfl, hw', hr2⟩ := hr
    obtain ⟨u, r3, rfl, hu', hr3⟩ := hr2
    have hr3 : r3 = [] := hr3
    subst hr3
    exact ⟨v, w, u, rfl, h1 G1 μ1 H1 _ (Ext.refl ..) r1 ((((hE.mono e1).set i hv).set j hw').set l hu')⟩
theorem RelE.setv {K : PySem.W.Frag} {ρ : Env} {σ : L2.St} {G : Hp} {μ : List Addr} {i : Nat} {p : PV} {v : V} (h : RelE K z ρ σ G μ) (e : σ[i]? = some (some v)) (hv : Rep K z G μ p v) : RelE K z (ρ.set i (some p)) σ G μ := by
  refine ⟨by rw [List.length_set]; exact h.1, fun j q hq => ?_⟩
  by_cases hi : i = j
  · subst hi
    rw [List.getElem?_set] at hq
    simp only [if_true] at hq
    split at hq <;> cases hq
    exact ⟨v, e, hv⟩
  · rw [List.getElem?_set_ne hi] at hq
    exact h.2 j q hq
/-- an object is still from here on (no statement of the text) -/
theorem ss_frz {i : Nat} {rest : List Stmt} {g : Env → Store → SRes} (h : PSs X rest (TS' X z W g)) : PSs X rest (TS' X z W fun ρ S => (exec sx (.frz i) ρ S).andThen g) := by
  refine PSs.imp h fun D σ H ⟨ρ, S, G, μ, hE, hS, h⟩ => ?_
  simp only [exec] at h
  cases e : ρ[i]? with
  | none => simp only [e] at h; exact h.elim
  | some o =>
    cases o with
    | none => simp only [e] at h; exact h.elim
    | some p =>
      obtain ⟨v, hv, hr⟩ := hE.2 i p e
      cases p with
      | loc l =>
        simp only [e] at h
        obtain ⟨a, h1, rfl⟩ := hr
        cases e0 : S[l]? with
        | none => simp only [e0] at h; exact h.elim
        | some ob =>
          cases ob with
          | lst xs =>
            simp only [e0] at h
            split at h
            · rename_i hl
              obtain ⟨g0, vs, g1, g2⟩ := hS.at_ l _ a e0 h1
              obtain ⟨r2, e2⟩ := hS.freeze e0 h1 rfl g0 g1
              have h2 := SPost.ext h e2
              exact ⟨_, _, _, _, (hE.mono e2).setv (p := .lst xs) hv ⟨a, vs, rfl, .inl upd_same, by rw [← g2.length]; exact of_decide_eq_true hl, g2.ext e2⟩, r2, h2⟩
            · exact h.elim
          | dct xs =>
            simp only [e0] at h
            split at h
            · rename_i hl
              obtain ⟨g0, vs, g1, g2⟩ := hS.at_ l _ a e0 h1
              obtain ⟨r2, e2⟩ := hS.freeze e0 h1 rfl g0 g1
              have h2 := SPost.ext h e2
              exact ⟨_, _, _, _, (hE.mono e2).setv (p := .dct xs) hv ⟨a, vs, rfl, .inl upd_same, by rw [← g2.length]; exact of_decide_eq_true hl, g2.mono e2.g e2.m⟩, r2, h2⟩
            · exact h.elim
          | _ => simp only [e0] at h; exact h.elim
      | _ => simp only [e] at h; exact h.elim
/-! ### loops -/
theorem ss_for {tg iter : Expr} {body : List Stmt} {t : T} {fi : Env → Store → Res (List PV)} {fb : Env → Store → SRes} (hp : PassesOwn (model X.prog X.w) X.A X.env X.xe) (hc : X.calm = true) (hi : PI X tg iter (TI' X z W fi)) (hg : PG X tg (TG' X z W (asgT sx t))) (hb : PSs X body (TS' X z W fb))
    (hs : ∀ x, foldedSetIterable iter X.env x = pure x) : PS X (.For tg iter body [] pos) (TS' X z W fun ρ S => (fi ρ S).st ρ fun xs S => forL (asgT sx t) fb xs ρ S) := by
  refine PS.imp (ps_for hp hc hi hg hb hs) fun D σ H ⟨ρ, S, G, μ, hE, hS, h⟩ => ?_
  refine ⟨ρ, S, G, μ, hE, hS, (SPost.st h hE).imp fun ps S1 G1 μ1 H1 e1 r1 h1 J sv => ?_⟩
  refine ⟨fun i m σ H => m = ps.length - i ∧ i ≤ ps.length ∧ ∃ ρ S G μ, RelE X.K z ρ σ G μ ∧ RelS X.K z S G μ H ∧ Sub G1 G ∧ (∀ (l : Nat) (a : Addr), μ1[l]? = some a → μ[l]? = some a) ∧ SPost X.K X.mg z W G μ H (forL (asgT sx t) fb (ps.drop i) ρ S) D,
    ⟨ps.length, rfl, Nat.zero_le _, ρ, S1, G1, μ1, hE.mono e1, r1, Sub.refl _, fun _ _ e => e, h1⟩, ?_⟩
  rintro i m σ2 H2 ⟨rfl, hil, ρ2, S2, G2, μ2, hE2, r2, sb, mb, hh⟩
  obtain ⟨s1, s2⟩ := sv.2 G2 μ2 H2 S2 sb mb r2
  by_cases hlt : i < ps.length
  · have hpi : ps[i]? = some ps[i] := List.getElem?_eq_getElem hlt
    obtain ⟨go, yl⟩ := s2 i _ hpi
    rw [List.drop_eq_getElem_cons hlt] at hh
    simp only [forL] at hh
    refine .inr ⟨go, fun σ' H' => i + 1 ≤ ps.length ∧ ∃ ρ S G μ, RelE X.K z ρ σ' G μ ∧ RelS X.K z S G μ H' ∧ Sub G1 G ∧ (∀ (l : Nat) (a : Addr), μ1[l]? = some a → μ[l]? = some a) ∧ SPost X.K X.mg z W G μ H' (forL (asgT sx t) fb (ps.drop (i + 1)) ρ S) D,
      fun σ' H' ⟨k, ρ', S', G', μ', a1, a2, a3, a4, a5⟩ => ⟨ps.length - (i + 1), by omega, rfl, k, ρ', S', G', μ', a1, a2, a3, a4, a5⟩, fun x H' y => ?_⟩
    obtain ⟨G3, r3, e3, hx⟩ := yl x H' y
    refine ⟨ρ2, S2, G3, μ2, ps[i], hE2.mono e3, r3, hx, ?_⟩
    have hh := SPost.ext hh e3
    have j := asgT_noJump (sx := sx) t ps[i] ρ2 S2
    cases ea : asgT sx t ps[i] ρ2 S2 with
    | bad => rw [ea] at hh; exact hh
    | exc c ρ' S' => rw [ea] at hh; exact hh
    | next ρ' S' =>
      rw [ea] at hh
      simp only [SRes.andThen_next] at hh
      intro G4 μ4 H4 σ4 e4 r4 hE4
      refine ⟨ρ', S', G4, μ4, hE4, r4, ?_⟩
      have hh := SPost.ext hh e4
      cases eb : fb ρ' S' with
      | bad => rw [eb] at hh; exact hh
      | exc c ρ'' S'' => rw [eb] at hh; exact hh
      | ret v S'' => rw [eb] at hh; exact hh
      | brk ρ'' S'' =>
        simp only [eb] at hh
        exact fun G5 μ5 H5 σ5 e5 r5 hE5 => hh G5 μ5 H5 σ5 e5 r5 hE5
      | next ρ'' S'' =>
        simp only [eb] at hh
        exact fun G5 μ5 H5 σ5 e5 r5 hE5 => ⟨hlt, ρ'', S'', G5, μ5, hE5, r5, ((sb.trans e3.g).trans e4.g).trans e5.g, fun l a q => e5.m l a (e4.m l a (e3.m l a (mb l a q))), SPost.ext hh e5⟩
      | cont ρ'' S'' =>
        simp only [eb] at hh
        exact fun G5 μ5 H5 σ5 e5 r5 hE5 => ⟨hlt, ρ'', S'', G5, μ5, hE5, r5, ((sb.trans e3.g).trans e4.g).trans e5.g, fun l a q => e5.m l a (e4.m l a (e3.m l a (mb l a q))), SPost.ext hh e5⟩
    | _ => rw [ea] at j; cases j
  · have e : i = ps.length := by omega
    subst e
    rw [List.drop_length] at hh
    simp only [forL] at hh
    exact .inl ⟨s1, hh G2 μ2 H2 σ2 (Ext.refl ..) r2 hE2⟩
theorem ss_while {c : Expr} {body : List Stmt} {fc : Env → Store → Res Bool} {fb : Env → Store → SRes} {n : Nat} (hp : PassesOwn (model X.prog X.w) X.A X.env X.xe) (hc : PT X c (TT' X z W fc)) (hb : PSs X body (TS' X z W fb)) :
    PS X (.While c body [] pos) (TS' X z W fun ρ S => whlL fc fb n ρ S) := by
  refine PS.imp (ps_while hp hc hb) fun D σ H ⟨ρ, S, G, μ, hE, hS, h⟩ => ?_
  refine ⟨fun m σ H => TS' X z W (fun ρ S => whlL fc fb m ρ S) D σ H, ⟨n, ρ, S, G, μ, hE, hS, h⟩, ?_⟩
  rintro m σ2 H2 ⟨ρ2, S2, G2, μ2, hE2, r2, hh⟩
  cases m with
  | zero => exact hh.elim
  | succ m =>
    simp only [whlL] at hh
    refine ⟨ρ2, S2, G2, μ2, hE2, r2, (SPost.st hh hE2).imp fun b S3 G3 μ3 H3 e3 r3 h3 => ?_⟩
    cases b with
    | false =>
      simp only [Bool.false_eq_true, if_false] at h3 ⊢
      exact h3 G3 μ3 H3 σ2 (Ext.refl ..) r3 (hE2.mono e3)
    | true =>
      simp only [if_true] at h3 ⊢
      refine ⟨fun σ' H' => TS' X z W (fun ρ S => whlL fc fb m ρ S) D σ' H', fun σ' H' h => ⟨m, Nat.lt_succ_self m, h⟩, ρ2, S3, G3, μ3, hE2.mono e3, r3, ?_⟩
      cases eb : fb ρ2 S3 with
      | bad => rw [eb] at h3; exact h3
      | exc c ρ'' S'' => rw [eb] at h3; exact h3
      | ret v S'' => rw [eb] at h3; exact h3
      | brk ρ'' S'' =>
        simp only [eb] at h3
        exact fun G5 μ5 H5 σ5 e5 r5 hE5 => h3 G5 μ5 H5 σ5 e5 r5 hE5
      | next ρ'' S'' =>
        simp only [eb] at h3
        exact fun G5 μ5 H5 σ5 e5 r5 hE5 => ⟨ρ'', S'', G5, μ5, hE5, r5, SPost.ext h3 e5⟩
      | cont ρ'' S'' =>
        simp only [eb] at h3
        exact fun G5 μ5 H5 σ5 e5 r5 hE5 => ⟨ρ'', S'', G5, μ5, hE5, r5, SPost.ext h3 e5⟩
end
end CW
end

section
set_option Elab.async false
set_option linter.all false
set_option maxRecDepth 100000
set_option maxHeartbeats 2000000
/-! Calls of own defs; try; a def by its body. -/
namespace CW
open PySem PySem.Spec PyProof.Rows L2

/-! ### the store cut back -/
section
variable {K : PySem.W.Frag} {z : Kz} {G : Hp} {μ : List Addr} {n : Nat}
mutual
theorem Rep.take : ∀ (p : PV) (v : V), p.under n = true → Rep K z G μ p v → Rep K z G (μ.take n) p v
  | .non, v, _, h => h
  | .bl b, v, _, h => h
  | .int i, v, _, h => h
  | .str x, v, _, h => h
  | .ty n, v, _, h => h
  | .gl _, _, _, h => h.elim
  | .loc l, v, u, h => by
    obtain ⟨a, h1, h2⟩ := h
    have u : l < n := of_decide_eq_true u
    exact ⟨a, by rw [List.getElem?_take, if_pos u]; exact h1, h2⟩
  | .clo, v, u, h => by cases u
  | .tup xs, v, u, h => by
    obtain ⟨a, vs, h1, h2, h3, h4⟩ := h
    exact ⟨a, vs, h1, h2, h3, RepL.takeU xs vs u h4⟩
  | .lst xs, v, u, h => by
    obtain ⟨a, vs, h1, h2, h3, h4⟩ := h
    exact ⟨a, vs, h1, h2, h3, RepL.takeU xs vs u h4⟩
  | .dct kvs, v, u, h => by
    obtain ⟨a, kv, h1, h2, h3, h4⟩ := h
    exact ⟨a, kv, h1, h2, h3, RepK.takeU kvs kv u h4⟩
  | .exn x fs, v, u, h => by cases u
theorem RepL.takeU : ∀ (xs : List PV) (vs : List V), underL n xs = true → RepL K z G μ xs vs → RepL K z G (μ.take n) xs vs
  | [], vs, _, h => h
  | x :: xs, vs, u, h => by
    obtain ⟨v, r, h1, h2, h3⟩ := h
    simp only [underL, Bool.and_eq_true] at u
    exact ⟨v, r, h1, Rep.take x v u.1 h2, RepL.takeU xs r u.2 h3⟩
theorem RepK.takeU : ∀ (xs : List (PV × PV)) (vs : List (Key × V)), underKv n xs = true → RepK K z G μ xs vs → RepK K z G (μ.take n) xs vs
  | [], vs, _, h => h
  | (k, x) :: xs, vs, u, h => by
    obtain ⟨q, v, r, h1, h0, h2, h3⟩ := h
    simp only [underKv, Bool.and_eq_true] at u
    exact ⟨q, v, r, h1, h0, Rep.take x v u.1.2 h2, RepK.takeU xs r u.2 h3⟩
end
theorem RepX.takeU : ∀ (fs : List (Str × PV)) (d : Option Addr), underF n fs = true → RepX K z G μ fs d → RepX K z G (μ.take n) fs d
  | [], d, _, h => h
  | (f, x) :: r, d, u, h => by
    obtain ⟨a, v, h1, h2, h3, h4⟩ := h
    simp only [underF, Bool.and_eq_true] at u
    exact ⟨a, v, h1, h2, h3, Rep.take x v u.1 h4⟩
theorem RepX.swapU {z' : Kz} (w : SwapOk true z z') : ∀ (fs : List (Str × PV)) (d : Option Addr), underF n fs = true → RepX K z G μ fs d → RepX K z' G μ fs d
  | [], d, _, h => h
  | (f, x) :: r, d, u, h => by
    obtain ⟨a, v, h1, h2, h3, h4⟩ := h
    simp only [underF, Bool.and_eq_true] at u
    exact ⟨a, v, h1, h2, h3, Rep.swap w x v (fun _ => u.1) h4⟩
theorem swapT {z z' : Kz} : SwapOk true z z' := ⟨(fun e => by cases e), (fun e => by cases e)⟩
theorem RelS.takeU {S : Store} {H : Hp} {T : List (Addr × Str)} (r : RelS K z S G μ H) (hT : z.T = T) (hu : underS n (S.take n) = true) : RelS K { T := T } (S.take n) G (μ.take n) H := by
  have tk : ∀ {α : Type} {xs : List α} {l : Nat} {x : α}, (xs.take n)[l]? = some x → xs[l]? = some x := fun {α xs l x} e => by
    rw [List.getElem?_take] at e
    split at e
    · exact e
    · cases e
  refine ⟨r.g, by rw [List.length_take, List.length_take, r.len], fun l ob a e1 e2 => ?_, fun l l' a o1 o2 e1 e2 e3 e4 => r.inj l l' a o1 o2 (tk e1) (tk e2) (tk e3) (tk e4), fun l a e => r.there l a (tk e), r.gt, by rw [← hT]; exact r.tabs, fun l e => by cases e⟩
  have h := r.at_ l ob a (tk e1) (tk e2)
  have u := underS_get hu e1
  cases ob with
  | lst xs =>
    obtain ⟨h0, vs, h1, h2⟩ := h
    exact ⟨h0, vs, h1, RepL.swap swapT xs vs (fun _ => u) (RepL.takeU xs vs u h2)⟩
  | dct kvs =>
    obtain ⟨h0, vs, h1, h2⟩ := h
    exact ⟨h0, vs, h1, RepK.swap swapT kvs vs (fun _ => u) (RepK.takeU kvs vs u h2)⟩
  | ins c fs => exact h.elim
  | dead => trivial
theorem Ext.takeU {G' H H' : Hp} {μ' : List Addr} (e : Ext G μ H G' μ' H') (h : μ.length = n) : Ext G μ H G' (μ'.take n) H' :=
  ⟨e.g, fun l a q => by
    have hl : l < n := by rw [← h]; exact (List.getElem?_eq_some_iff.mp q).1
    rw [List.getElem?_take, if_pos hl]; exact e.m l a q, fun a o q t g m => let ⟨h1, h2, h3⟩ := e.f a o q t g m; ⟨h1, h2, fun w => h3 (List.mem_of_mem_take w)⟩⟩
end

/-! ### calls -/
/-- nothing at hand but the tables -/
abbrev z0 (T : List (Addr × Str)) : Kz := { T := T }
theorem swap0 {z : Kz} {T : List (Addr × Str)} : SwapOk false (z0 T) z := ⟨fun _ => .inl rfl, fun _ => .inl rfl⟩
def SpF (K : PySem.W.Frag) (mg : Str → Option Value) (T : List (Addr × Str)) (r : List PV → Store → Res PV) : Sp := fun vs H Q E =>
  ∃ ps S G μ, RelS K (z0 T) S G μ H ∧ RepL K (z0 T) G μ ps vs ∧ Post K mg (z0 T) (fun cls d _ H => E cls d H) [] G μ H (r ps S) fun v S' G' μ' H' => ∀ u, Rep K (z0 T) G' μ' v u → Q u H'
/-- back from what has nothing at hand -/
theorem RelS.up {K : PySem.W.Frag} {z : Kz} {T : List (Addr × Str)} {S S' : Store} {G H G' H' : Hp} {μ μ' : List Addr} (r : RelS K z S G μ H) (hT : z.T = T) (e : Ext G μ H G' μ' H') (r' : RelS K (z0 T) S' G' μ' H') : RelS K z S' G' μ' H' := by
  have q := RelS.swap (z' := { z with lam := none }) (c := false) ⟨fun _ => .inl rfl, fun _ => .inl rfl⟩ r' (fun e => by cases e) (fun p hp => by rw [← hT]; exact hp) (fun l e => by cases e)
  refine ⟨q.g, q.len, fun l ob a e1 e2 => ?_, q.inj, q.there, q.gt, q.tabs, fun l hl => (r.lam l hl).mono e.g e.m⟩
  have h := q.at_ l ob a e1 e2
  cases ob with
  | lst xs =>
    obtain ⟨h0, vs, h1, h2⟩ := h
    exact ⟨h0, vs, h1, RepL.swap (n := 0) (c := false) (z := { z with lam := none }) (z' := z) ⟨fun _ => .inr rfl, fun _ => .inr rfl⟩ xs vs (fun e => by cases e) h2⟩
  | dct kvs =>
    obtain ⟨h0, vs, h1, h2⟩ := h
    exact ⟨h0, vs, h1, RepK.swap (n := 0) (c := false) (z := { z with lam := none }) (z' := z) ⟨fun _ => .inr rfl, fun _ => .inr rfl⟩ kvs vs (fun e => by cases e) h2⟩
  | ins c fs => exact h.elim
  | dead => trivial
theorem sp_of {K : PySem.W.Frag} {mg : Str → Option Value} {z : Kz} {W : WX} {T : List (Addr × Str)} {sx : Sx} {f : Nat} {ps : List PV} {vs : List V} {S : Store} {G H : Hp} {μ : List Addr} {σ : L2.St} {Q : VK} (hx : z.xa = none) (hc : sx.clo.isNone = true → z.clo = none) (hT : z.T = T)
    (hS : RelS K z S G μ H) (hv : RepL K z G μ ps vs) (h : Post K mg z W σ G μ H (if sx.okC ps S then sx.call f ps S else .bad) fun p S' G' μ' H' => ∀ v, Rep K z G' μ' p v → Q v H') : SpF K mg T (sx.call f) vs H Q (WE W σ) := by
  split at h
  · rename_i ok
    have sw : ∃ c : Bool, SwapOk c z (z0 T) ∧ (c = true → underS S.length S = true) ∧ (c = true → underL S.length ps = true) := by
      unfold Sx.okC at ok
      cases hn : sx.clo.isNone with
      | true => exact ⟨false, ⟨fun _ => .inl hx, fun _ => .inl (hc hn)⟩, ⟨(fun e => by cases e), (fun e => by cases e)⟩⟩
      | false =>
        rw [hn] at ok
        simp only [Bool.false_or, Bool.and_eq_true] at ok
        exact ⟨true, ⟨(fun e => by cases e), (fun e => by cases e)⟩, ⟨fun _ => ok.2, fun _ => ok.1⟩⟩
    obtain ⟨c, w, u1, u2⟩ := sw
    refine ⟨ps, S, G, μ, RelS.swap w hS u1 (fun p hp => by rw [hT]; exact hp) (fun l e => by cases e), RepL.swap w ps vs u2 hv, ?_⟩
    cases e : sx.call f ps S with
    | bad => rw [e] at h; exact h
    | ok v S' =>
      rw [e] at h
      exact fun G' μ' H' e' r' u hu => h G' μ' H' e' (hS.up hT e' r') u (Rep.swap (n := 0) swap0 v u (fun e => by cases e) hu)
    | exc c S' =>
      rw [e] at h
      intro G' μ' H' cls d e' r' ⟨C, k1, k2, k3⟩
      exact h G' μ' H' cls d e' (hS.up hT e' r') ⟨C, k1, k2, RepX.swap swap0 c.fs d k3⟩
  · exact h.elim
section
variable {X : Cx} {z : Kz} {W : WX} {T : List (Addr × Str)} {sx : Sx} {f : Nat} {k : Nat} {a : Addr} {fd : FuncData} {ps : List Str} {x : Str} {p pos : Pos} {e : Expr} {es : List Expr} {fs : Env → Store → Res (List PV)}
theorem s_call (hx : z.xa = none) (hc : sx.clo.isNone = true → z.clo = none) (hT : z.T = T) (F : FnOk X.prog X.w X.K X.mg X.base (L2.CX X.prog X.w) k a fd ps (SpF X.K X.mg T (sx.call f))) (hr : Room k X.A) (hg : Gl X x) (hm : X.mg x = some (.ref a)) (hk : PySem.W.keepIn X.K (.ref a) = true) (hb : Binds X.K fd ps [])
    (tk : Takes X W) (ha : PA X (e :: es) (TA' X z W fs)) (hdb : (x == ("__debug__" : Str)) = false) (hst : notStar e = true) (hst2 : es.all notStar = true) :
    PE X (.Call (.Name x p) (e :: es) [] pos) (TE' X z W fun ρ S => (fs ρ S).bind fun vs S => if sx.okC vs S then sx.call f vs S else .bad) := by
  refine PE.imp (pe_callS F hr hg hm hk hb (E := WE W) (fun σ => passAt tk σ) ha hdb (star_cons hst _ _) (star_any _ _ hst2)) fun σ H Q ⟨ρ, S, G, μ, hE, hS, h⟩ => ?_
  exact ⟨ρ, S, G, μ, hE, hS, h.bind.imp fun ps S1 G1 μ1 H1 e1 r1 h1 vs hvs => sp_of hx hc hT r1 hvs h1⟩
theorem s_call0 (hx : z.xa = none) (hc : sx.clo.isNone = true → z.clo = none) (hT : z.T = T) (F : FnOk X.prog X.w X.K X.mg X.base (L2.CX X.prog X.w) k a fd ps (SpF X.K X.mg T (sx.call f))) (hr : Room k X.A) (hg : Gl X x) (hm : X.mg x = some (.ref a)) (hk : PySem.W.keepIn X.K (.ref a) = true) (hb : Binds X.K fd ps [])
    (tk : Takes X W) (hdb : (x == ("__debug__" : Str)) = false) :
    PE X (.Call (.Name x p) [] [] pos) (TE' X z W fun ρ S => (Res.ok [] S).bind fun vs S => if sx.okC vs S then sx.call f vs S else .bad) := by
  have main : PE X (.Call (.Name x p) [] [] pos) (fun σ H Q => SpF X.K X.mg T (sx.call f) [] H Q (WE W σ)) := by
    refine ⟨fun pins s σ H Q I h => ?_⟩
    refine wpAny_Call_Name_kw (ld_glob I hg hm ?_ hdb)
    exact PySem.W.callWith_K0 I.kIn hk (run_fnS (us := []) F hr hb (passAt tk σ) I .nil h)
  exact PE.imp main fun σ H Q ⟨ρ, S, G, μ, hE, hS, h⟩ => sp_of (ps := []) hx hc hT hS RepL.nil h
end

/-! ### try -/
section
variable {X : Cx} {z : Kz} {W : WX} {sub : Str → Cl → Option Bool} {c : Cl} {v : V} {u : Value} {n : Str} {i : Nat} {body suite : List Stmt} {b₀ : Stmt} {np pos pos' : Pos} {fb fh : Env → Store → SRes}
/-- with the exception at hand -/
abbrev Kz.hot (z : Kz) (a : Addr) (x : Str) (d : Option Addr) : Kz := { z with xa := some (a, x, d) }
def unsetV (i : Option Nat) (σ : L2.St) : L2.St := match i with
  | some i => σ.set i none
  | none => σ
def setV (i : Option Nat) (a : Addr) (σ : L2.St) : L2.St := match i with
  | some i => σ.set i (some (.ref a))
  | none => σ
/-- the suite's reading -/
def tsH (X : Cx) (z : Kz) (fh : Env → Store → SRes) : Addr → Value → Option Addr → TS := fun a cls d D σ H => ∃ x C, X.mg x = some (.ref C) ∧ cls = .ref C ∧ TSx X.K X.mg (z.hot a x d) noW fh D σ H
theorem leave_post {i : Option Nat} {a : Addr} {x : Str} {d : Option Addr} {D D' : Ends} {G H : Hp} {μ : List Addr} {r : SRes} (hz : z.xa = none) (h : SPost X.K X.mg z W G μ H (leaveH i r) D)
    (h1 : ∀ σ H, D.nx (unsetV i σ) H → D'.nx σ H) (h2 : ∀ v H, D.rt v H → D'.rt v H) (h3 : ∀ σ H, D.bk (unsetV i σ) H → D'.bk σ H) (h4 : ∀ σ H, D.ct (unsetV i σ) H → D'.ct σ H) :
    SPost X.K X.mg (z.hot a x d) noW G μ H r D' := by
  have sw : SwapOk true (z.hot a x d) z := ⟨(fun e => by cases e), (fun e => by cases e)⟩
  have un : ∀ {ρ : Env} {σ : L2.St} {G : Hp} {μ : List Addr} {n : Nat}, RelE X.K (z.hot a x d) ρ σ G μ → RelE X.K z (clean n (unset i ρ)) (unsetV i σ) G μ := fun {ρ σ G μ n} hE => by
    cases i with
    | none => exact hE.clean sw
    | some i => exact (hE.unset i).clean sw
  cases r with
  | bad => exact h
  | exc c ρ S => exact (show False from h).elim
  | next ρ S =>
    simp only [leaveH] at h
    split at h
    · rename_i hu
      exact fun G' μ' H' σ' e r hE => h1 _ _ (h G' μ' H' _ e (RelS.swap sw r (fun _ => hu) (fun p hp => hp) (fun l e => e)) (un hE))
    · exact h.elim
  | brk ρ S =>
    simp only [leaveH] at h
    split at h
    · rename_i hu
      exact fun G' μ' H' σ' e r hE => h3 _ _ (h G' μ' H' _ e (RelS.swap sw r (fun _ => hu) (fun p hp => hp) (fun l e => e)) (un hE))
    · exact h.elim
  | cont ρ S =>
    simp only [leaveH] at h
    split at h
    · rename_i hu
      exact fun G' μ' H' σ' e r hE => h4 _ _ (h G' μ' H' _ e (RelS.swap sw r (fun _ => hu) (fun p hp => hp) (fun l e => e)) (un hE))
    · exact h.elim
  | ret w S =>
    simp only [leaveH] at h
    split at h
    · rename_i hu
      simp only [Bool.and_eq_true] at hu
      exact fun G' μ' H' u e r hr => h2 _ _ (h G' μ' H' u e (RelS.swap sw r (fun _ => hu.2) (fun p hp => hp) (fun l e => e)) (Rep.swap sw w u (fun _ => hu.1) hr))
    · exact h.elim
/-- what a try does -/
def tryF (sub : Str → Cl → Option Bool) (c : Cl) (i : Option Nat) (fb fh : Env → Store → SRes) : Env → Store → SRes := fun ρ S => match fb ρ S with
  | .exc e ρ S => match sub e.x c with
    | some true => leaveH i (fh (match i with
      | some i => ρ.set i (some (.exn e.x e.fs))
      | none => ρ) S)
    | some false => .exc e ρ S
    | none => .bad
  | r => r
theorem t_try (i : Option Nat) (hz : z.xa = none) (hs : SubOk X.K X.mg sub) (hc : ClVal X.mg c v u) {D : Ends} {W' : WX} {σ : L2.St} {H : Hp} {Dh : Ends}
    (hD1 : ∀ σ H, D.nx (unsetV i σ) H → Dh.nx σ H) (hD2 : ∀ v H, D.rt v H → Dh.rt v H) (hD3 : ∀ σ H, D.bk (unsetV i σ) H → Dh.bk σ H) (hD4 : ∀ σ H, D.ct (unsetV i σ) H → Dh.ct σ H)
    (hW : ∀ cls d σ H, (∃ b, PySem.W.exmOne X.K cls u = some b ∧ (b = true → ∀ a, H a = none → tsH X z fh a cls d Dh (setV i a σ) H) ∧ (b = false → W cls d σ H)) → W' cls d σ H)
    (h : TS' X z W (tryF sub c i fb fh) D σ H) : TS' X z W' fb D σ H := by
  obtain ⟨ρ, S, G, μ, hE, hS, h⟩ := h
  refine ⟨ρ, S, G, μ, hE, hS, ?_⟩
  unfold tryF at h
  cases eb : fb ρ S with
  | bad => rw [eb] at h; exact h
  | next ρ' S' => rw [eb] at h; exact h
  | ret v' S' => rw [eb] at h; exact h
  | brk ρ' S' => rw [eb] at h; exact h
  | cont ρ' S' => rw [eb] at h; exact h
  | exc e ρ' S' =>
    simp only [eb] at h
    intro G' μ' H' σ' cls d e1 r1 hE1 ⟨C, k1, k2, k3⟩
    subst k2
    apply hW
    cases es : sub e.x c with
    | none => simp only [es] at h; exact h.elim
    | some b =>
      obtain ⟨D', m1, m2, m3, m4⟩ := hs.kit e.x c b v u es hc
      rw [k1] at m1
      cases m1
      refine ⟨b, m3, fun hb a na => ?_, fun hb => ?_⟩
      · subst hb
        simp only [es] at h
        refine ⟨e.x, C, k1, rfl, ?_⟩
        have sw : SwapOk false z (z.hot a e.x d) := ⟨fun _ => .inl hz, fun _ => .inr rfl⟩
        have hE2 := hE1.swap sw
        have r2 : RelS X.K (z.hot a e.x d) S' G' μ' H' := RelS.swap sw r1 (fun e => by cases e) (fun p hp => hp) (fun l e => e)
        have hx : Rep X.K (z.hot a e.x d) G' μ' (.exn e.x e.fs) (.ref a) := ⟨a, d, rfl, rfl, RepX.swap sw e.fs d k3⟩
        cases i with
        | none => exact ⟨ρ', S', G', μ', hE2, r2, leave_post hz (SPost.ext h e1) hD1 hD2 hD3 hD4⟩
        | some i => exact ⟨_, S', G', μ', hE2.set i hx, r2, leave_post hz (SPost.ext h e1) hD1 hD2 hD3 hD4⟩
      · subst hb
        simp only [es] at h
        exact h G' μ' H' σ' (.ref C) d e1 r1 hE1 ⟨C, k1, rfl, k3⟩
variable {x : Str}
theorem ss_try_as (hs : X.stack = X.env :: X.outer) (hf : X.env.frame = some X.env.locals) (hN : X.N.Nodup) (hi : X.N[i]? = some n) (hln : X.env.kindOf n = some .local) (hcn : Names X x u) (tk : Takes X W) (hz : z.xa = none) (hsub : SubOk X.K X.mg sub) (hc : ClVal X.mg c v u)
    (hb : ∀ (W : WX) (pn : List (Addr × Obj)) (xe : Value → Shared → Prop), Takes (X.tr pn xe) W → PassesOwn (model X.prog X.w) X.A X.env xe → PSs (X.tr pn xe) body (TSx X.K X.mg z W fb))
    (hsu : ∀ (a : Addr) (oe : Obj) (x : Str) (C : Addr) (d : Option Addr) (pn : List (Addr × Obj)), Zc (.ref C) d oe → (∃ vs, oe.data = .fields vs) → X.mg x = some (.ref C) → PSs (X.suite a ((a, oe) :: pn)) (b₀ :: suite) (TSx X.K X.mg (z.hot a x d) noW fh)) :
    PS X (.Try body [.ExceptHandler (some (.Name x np)) (some n) (b₀ :: suite) pos'] [] [] pos) (TS' X z W (tryF sub c (some i) fb fh)) := by
  refine PS.imp (ps_try_as (tb := fun W => TSx X.K X.mg z W fb) (ts := tsH X z fh) (i := i) hs hf hN hi hln hcn tk hb fun a oe cls d pn hzc hf => ⟨fun pins s σ H D I ⟨x, C, m1, m2, h⟩ => ?_⟩) fun D σ H h => ?_
  · subst m2
    exact (hsu a oe x C d pn hzc hf m1).run pins s σ H D I h
  · exact t_try (some i) hz hsub hc (Dh := { nx := fun σ' H' => D.nx (σ'.set i none) H', rt := D.rt, bk := fun σ' H' => D.bk (σ'.set i none) H', ct := fun σ' H' => D.ct (σ'.set i none) H' }) (fun _ _ h => h) (fun _ _ h => h) (fun _ _ h => h) (fun _ _ h => h) (fun cls d σ H h => h) h
theorem ss_try_only (hs : X.stack = X.env :: X.outer) (hf : X.env.frame = some X.env.locals) (hcn : Names X x u) (tk : Takes X W) (hz : z.xa = none) (hsub : SubOk X.K X.mg sub) (hc : ClVal X.mg c v u)
    (hb : ∀ (W : WX) (pn : List (Addr × Obj)) (xe : Value → Shared → Prop), Takes (X.tr pn xe) W → PassesOwn (model X.prog X.w) X.A X.env xe → PSs (X.tr pn xe) body (TSx X.K X.mg z W fb))
    (hsu : ∀ (a : Addr) (oe : Obj) (x : Str) (C : Addr) (d : Option Addr) (pn : List (Addr × Obj)), Zc (.ref C) d oe → (∃ vs, oe.data = .fields vs) → X.mg x = some (.ref C) → PSs (X.suite a ((a, oe) :: pn)) (b₀ :: suite) (TSx X.K X.mg (z.hot a x d) noW fh)) :
    PS X (.Try body [.ExceptHandler (some (.Name x np)) none (b₀ :: suite) pos'] [] [] pos) (TS' X z W (tryF sub c none fb fh)) := by
  refine PS.imp (ps_try_only (tb := fun W => TSx X.K X.mg z W fb) (ts := tsH X z fh) hs hf hcn tk hb fun a oe cls d pn hzc hf => ⟨fun pins s σ H D I ⟨x, C, m1, m2, h⟩ => ?_⟩) fun D σ H h => ?_
  · subst m2
    exact (hsu a oe x C d pn hzc hf m1).run pins s σ H D I h
  · exact t_try none hz hsub hc (Dh := D) (fun _ _ h => h) (fun _ _ h => h) (fun _ _ h => h) (fun _ _ h => h) (fun cls d σ H h => h) h
end

/-! ### a def -/
theorem relE_start {K : PySem.W.Frag} {z : Kz} {G : Hp} {μ : List Addr} {N : List Str} {ps : List PV} {vs : List V} (h : RepL K z G μ ps vs) : RelE K z (ps.map some ++ List.replicate (N.length - ps.length) none) (L2.start N vs) G μ := by
  have hl := h.length
  unfold L2.start
  refine ⟨by simp [hl], fun i p hp => ?_⟩
  by_cases hi : i < ps.length
  · rw [List.getElem?_append_left (by simpa using hi), List.getElem?_map] at hp
    cases e : ps[i]? with
    | none => rw [e] at hp; cases hp
    | some q =>
      rw [e] at hp
      cases hp
      obtain ⟨v, hv, hr⟩ := h.get e
      refine ⟨v, ?_, hr⟩
      rw [List.getElem?_append_left (by simpa using (hl ▸ hi)), List.getElem?_map, hv]
      rfl
  · rw [List.getElem?_append_right (by simpa using hi)] at hp
    rw [List.getElem?_replicate] at hp
    split at hp <;> cases hp
/-- the result of a body as the result of the call -/
theorem body_post {K : PySem.W.Frag} {mg : Str → Option Value} {T : List (Addr × Str)} {z : Kz} {W : WX} {S : Store} {G H : Hp} {μ : List Addr} {Q : VK} {r : SRes} {rr : Res PV} (hrr : rr = match r with
      | .next _ S' => back S.length .non S'
      | .ret v S' => back S.length v S'
      | .exc c _ S' => backX S.length c S'
      | _ => .bad) (hl : μ.length = S.length) (hT : z.T = T) (σ : L2.St) (hW : ∀ cls d σ' H, W cls d σ H → W cls d σ' H)
    (h : Post K mg (z0 T) W σ G μ H rr fun v S' G' μ' H' => ∀ u, Rep K (z0 T) G' μ' v u → Q u H') : SPost K mg z W G μ H r { nx := fun _ H' => Q .non H', rt := Q } := by
  subst hrr
  have ret : ∀ (v : PV) (S' : Store), Post K mg (z0 T) W σ G μ H (back S.length v S') (fun v S' G' μ' H' => ∀ u, Rep K (z0 T) G' μ' v u → Q u H') → ∀ G' μ' H' u, Ext G μ H G' μ' H' → RelS K z S' G' μ' H' → Rep K z G' μ' v u → Q u H' := by
    intro v S' h G' μ' H' u e r hu
    unfold back at h
    split at h
    · rename_i hk
      simp only [Bool.and_eq_true] at hk
      exact h G' (μ'.take S.length) H' (e.takeU hl) (r.takeU hT hk.2) u (Rep.swap swapT v u (fun _ => hk.1) (Rep.take v u hk.1 hu))
    · split at h
      · rename_i hk
        simp only [Bool.and_eq_true] at hk
        exact h G' μ' H' e (RelS.swap swapT r (fun _ => hk.2) (fun p hp => by rw [hT]; exact hp) (fun l e => by cases e)) u (Rep.swap swapT v u (fun _ => hk.1) hu)
      · exact h.elim
  cases r with
  | bad => exact h
  | brk ρ S' => exact h.elim
  | cont ρ S' => exact h.elim
  | next ρ S' => exact fun G' μ' H' σ' e r hE => ret .non S' h G' μ' H' .non e r rfl
  | ret v S' => exact fun G' μ' H' u e r hu => ret v S' h G' μ' H' u e r hu
  | exc c ρ S' =>
    intro G' μ' H' σ' cls d e r hE ⟨C, k1, k2, k3⟩
    apply hW
    simp only at h
    unfold backX at h
    split at h
    · rename_i hk
      simp only [Bool.and_eq_true] at hk
      exact h G' (μ'.take S.length) H' cls d (e.takeU hl) (r.takeU hT hk.2) ⟨C, k1, k2, RepX.swapU swapT c.fs d hk.1 (RepX.takeU c.fs d hk.1 k3)⟩
    · split at h
      · rename_i hk
        simp only [Bool.and_eq_true] at hk
        exact h G' μ' H' cls d e (RelS.swap swapT r (fun _ => hk.2) (fun p hp => by rw [hT]; exact hp) (fun l e => by cases e)) ⟨C, k1, k2, RepX.swapU swapT c.fs d hk.1 k3⟩
      · exact h.elim
/-- THE RULE for a def, by its body's reading -/
theorem def_ok {P : Program} {w : World} {K : PySem.W.Frag} {mg : Str → Option Value} {base : Heap} {T : List (Addr × Str)} {x qual : Str} {params : Arguments} {body : List Stmt} {scope : Scope} {f : Addr} {fd : FuncData} {dvs : List V} {kws : List (Str × V)} {N ps : List Str} {k : Nat} {sx : Sx} {d : Dfn}
    (F : FunD K x qual params body scope dvs kws f fd) (Sc : FnScope N ps scope) (hN : d.slots = N.length) (hp : d.par = ps.length)
    (hbody : ∀ (cdv : Value) (A : Around) (outer : List PySem.Env) (s : Shared) (H : Hp) (E : XK), Room k (A.deeper (envOfC qual scope s.heap.objs.size f cdv)) → PSs (cxOf (L2.CX P w) P w K mg base N qual scope f cdv A outer s H E) body (TSx K mg (z0 T) (fun cls d _ H => E cls d H) (execL sx d.body))) :
    FnOk P w K mg base (L2.CX P w) (k + 1) f fd ps (SpF K mg T (fun vs S => runD sx d vs S)) := by
  refine F.ok Sc (fun vs H Q E ⟨qs, S, G, μ, hS, hv, h⟩ => ?_) fun cdv A outer s H vs Q E hr ⟨qs, S, G, μ, hS, hv, h⟩ => ⟨_, hbody cdv A outer s H E hr, ?_⟩
  · unfold runD at h
    dsimp only at h
    split at h
    · rename_i hl
      rw [← hv.length, hl, hp]
    · exact h.elim
  · unfold runD at h
    dsimp only at h
    split at h
    · rename_i hl
      refine ⟨begin_ d qs, S, G, μ, ?_, hS, ?_⟩
      · unfold begin_
        rw [hN]
        exact relE_start hv
      · exact body_post (z := z0 T) (T := T) (S := S) rfl hS.len rfl [] (fun _ _ _ _ h => h) h
    · exact h.elim
end CW
end

section
set_option Elab.async false
set_option linter.all false
set_option maxRecDepth 100000
set_option maxHeartbeats 2000000
/-! A lambda handed to a def (after the library's LamX.pe_act, pe_lamcall; the wish about exceptions is told at the slots). -/
namespace CW
open PySem PySem.Spec PyProof.Rows L2 LamX

section
variable {X : Cx} {pins : List (Addr × Obj)} {σ : L2.St} {H HZ : Hp} {s s1 : Shared}
theorem pe_actS {CXg : CXT} {Eg : XK} {Ng : List Str} {qg : Str} {sg : Scope} {g f c' : Addr} {cdg pm ctv : Value} {params : Arguments} {body : Expr} {scope : Scope} {k i : Nat} {a : Str} {pn : List (Addr × Obj)} {xe : Value → Shared → Prop} {W : WX} {tb : XK → TE} {p1 p2 : Pos}
    (I : Inv X pins σ H s) (L : LamS X.env.scope scope) (hf : s.heap.get? f = some (PySem.W.kla_obj "<lambda>" (X.env.qual ++ "<lambda>") params body scope (cloFrom X.env.cells scope.names []) pm c' ctv)) (hfn : H f = none) (hfr : f ∉ frs X.stack)
    (hbind : bindArgs (PySem.W.kla_fn "<lambda>" (X.env.qual ++ "<lambda>") params body scope (cloFrom X.env.cells scope.names []) pm (.ref c') ctv) ⟨[], []⟩ = pure [])
    (tk : Takes ((cxOf CXg X.prog X.w X.K X.mg X.base Ng qg sg g cdg X.A X.stack s H Eg).tr pn xe) W) (hr : Room (k + 1) (X.A.deeper (envOfC qg sg s.heap.objs.size g cdg)))
    (hbody : ∀ (A : Around) (outer : List PySem.Env) (s : Shared) (H : Hp) (E : XK), Room k (A.deeper (lamEnv X scope s.heap.objs.size f c')) → PE (lamCx X A outer s H E scope f c') body (tb E))
    (hN : Ng[i]? = some a) (hv : Vis sg a) (hd : (a == ("__debug__" : Str)) = false) (hcd : (a == ("__classdict__" : Str)) = false) :
    PE ((cxOf CXg X.prog X.w X.K X.mg X.base Ng qg sg g cdg X.A X.stack s H Eg).tr pn xe) (.Call (.Name a p1) [] [] p2)
      (fun σZ HZ Q => σZ[i]? = some (some (.ref f)) ∧ HZ c' = some (CodeO c' (X.env.qual ++ "<lambda>")) ∧ tb (WE W σZ) σ HZ Q) := by
  refine ⟨fun pinsZ sZ σZ HZ Q IZ h => ?_⟩
  obtain ⟨hs, hc, ht⟩ := h
  refine wpAny_Call_Name_kw (thn ((pe_var (pos := p1) (i := i) hN hv hd hcd).run pinsZ sZ σZ HZ (fun v H1 => v = .ref f ∧ H1 = HZ) IZ ⟨.ref f, hs, rfl, rfl⟩) fun u s1 ⟨v, H1, I1, r1, q1⟩ => ?_)
  obtain ⟨ev, eH⟩ := q1
  subst ev
  rw [eH] at I1
  obtain rfl : u = Value.ref f := r1
  have of1 : s1.heap.get? f = some (PySem.W.kla_obj "<lambda>" (X.env.qual ++ "<lambda>") params body scope (cloFrom X.env.cells scope.names []) pm c' ctv) := I1.base.keep f _ hf hfn hfr (fun z => nomatch (show f ∈ ([] : List Addr) from z))
  refine PySem.W.callWith_F0 ⟨_, _, _, _, of1⟩ ?_
  have un : Un (frs X.stack) [] H HZ s.heap s1.heap := I1.base
  obtain ⟨⟨oc, vs, t, hoc, hdc, hvc⟩, _, _⟩ := I1.hok c' _ hc
  have rc : codeAny (model X.prog X.w) (X.A.deeper (envOfC qg sg s.heap.objs.size g cdg)) (.call (.ref f) ⟨[], []⟩) (CR (L2.CX X.prog X.w) (envOfC qg sg s.heap.objs.size g cdg :: X.stack) X.prog X.w HZ s1 Q (WE W σZ)) s1 := by
    refine PySem.W.kla_callFunE hr.depth of1 rfl L.co L.gen rfl ⟨c', oc, vs, t, rfl, hoc, hdc, hvc⟩ ?_
    rw [hbind]
    refine wpAny_pure (wpAny_newFunctionEnv (fun y hy => (L.own y hy).2) (fun y hy => absurd hy (by simp)) (fun h₁ hns hsb => ⟨I1.nolimit.fresh _ hsb, ?_⟩) L.kind)
    show codeAny _ _ (.expr body (lamEnv X scope s1.heap.objs.size f c')) _ _
    have kp : ∀ b o, s1.heap.get? b = some o → h₁.get? b = some o := fun b o e => hsb.extBut b o (Nat.ne_of_lt (Heap.lt_size e)) (Heap.get?_push_of_some _ e)
    have J : Inv (lamCx X (X.A.deeper (envOfC qg sg s.heap.objs.size g cdg)) (envOfC qg sg s.heap.objs.size g cdg :: X.stack) s1 HZ (WE W σZ) scope f c') [] σ HZ { s1 with heap := h₁, toks := s1.toks + ([] : List (Str × Value)).length } :=
      lam_start2 I L I1.env0 hr.hd un hns kp
    refine PySem.W.kla_codeExpr (wpAny_mono ((hbody _ _ s1 HZ (WE W σZ) (hr.deeper _)).run [] _ _ HZ Q J ht) (fun v s' hq => ?_) fun e s' hq => hq)
    obtain ⟨w', H', J', rv, q⟩ := hq
    exact ⟨w', H', J'.os, J'.bare, J'.base, J'.hok, rv, q⟩
  have hx := passAt tk σZ
  refine wpAny_call (codeAny_mono rc fun r s' hq => ?_)
  cases r with
  | error e => exact hx pinsZ HZ s1 e s' I1 hq
  | ok fl =>
    cases fl with
    | ret u => exact I1.after hq
    | next => exact False.elim hq
    | brk => exact False.elim hq
    | cont => exact False.elim hq
end
section
variable {X : Cx}
/-- the receiver's body, from what it got -/
def GivesS (X : Cx) (k : Nat) (T : List (Addr × Str)) (Ng : List Str) (x : Str) (sg : Scope) (g : Addr) (cdg : Value) (bg : List Stmt) (a : Str) (q : Str) (t : XK → TE) (TT : L2.St → Hp → VK → Prop) : Prop :=
  ∀ (f c' : Addr) (s : Shared) (H1 : Hp) (σ : L2.St) (Q : VK), Room (k + 1) (X.A.deeper (envOfC x sg s.heap.objs.size g cdg)) →
    (∀ (W : WX) (pn : List (Addr × Obj)) (xe : Value → Shared → Prop) (p1 p2 : Pos), Takes ((cxOf C8.CX0 X.prog X.w X.K X.mg X.base Ng x sg g cdg X.A X.stack s H1 C8.E0).tr pn xe) W →
      PE ((cxOf C8.CX0 X.prog X.w X.K X.mg X.base Ng x sg g cdg X.A X.stack s H1 C8.E0).tr pn xe) (.Call (.Name a p1) [] [] p2) (fun σZ HZ Q => σZ[0]? = some (some (.ref f)) ∧ HZ c' = some (CodeO c' q) ∧ t (WE W σZ) σ HZ Q)) →
    H1 c' = some (CodeO c' q) → Tabs T H1 → TT σ H1 Q →
    ∃ t', PSs (cxOf C8.CX0 X.prog X.w X.K X.mg X.base Ng x sg g cdg X.A X.stack s H1 C8.E0).nox bg t' ∧ t' { nx := fun _ H' => Q .non H', rt := Q } (L2.start Ng [.ref f]) H1
theorem pe_lamcallS {T : List (Addr × Str)} {TT : L2.St → Hp → VK → Prop} {x a : Str} {g c P : Addr} {k : Nat} {pg : Arguments} {bg : List Stmt} {sg : Scope} {dV kV doc pm cdv ct oc : Value} {an od : Option Addr} {osl : Array (Option Value)} {Ng : List Str}
    {params : Arguments} {body : Expr} {scope : Scope} {t : XK → TE} {p lpos pos : Pos} (hg : Gl X x) (hm : X.mg x = some (.ref g)) (hk : PySem.W.keepIn X.K (.ref g) = true)
    (lk : X.K.lookup g = some ⟨oc, od, .func (PySem.W.fnOf x x pg bg sg dV kV doc pm an cdv ct), osl⟩) (hcg : PySem.W.codeIn X.K cdv x = true) (hb : L2.Binds X.K (PySem.W.fnOf x x pg bg sg dV kV doc pm an cdv ct) [a] []) (Sg : FnScope Ng [a] sg) (hNg : Ng[0]? = some a) (hva : Vis sg a)
    (hG : GivesS X k T Ng x sg g cdv bg a (X.env.qual ++ "<lambda>") t TT)
    (TB : TabB X.base X.mg c P) (hcode : X.env.code = .ref c) (hmT : (P, X.env.qual ++ "<lambda>") ∈ T) (hu : ∀ p ∈ T, p.1 = P → p.2 = X.env.qual ++ "<lambda>") (hr : Room (k + 2) X.A) (L : LamS X.env.scope scope) (hdef : defaultsOf params X.env = ([], []))
    (hbind : ∀ (q : Str) (cl : List (Str × Addr)) (pm cv ctv : Value), bindArgs (PySem.W.kla_fn "<lambda>" q params body scope cl pm cv ctv) ⟨[], []⟩ = pure [])
    (hbody : ∀ (A : Around) (outer : List PySem.Env) (s : Shared) (H : Hp) (E : XK) (f c' : Addr), Room k (A.deeper (lamEnv X scope s.heap.objs.size f c')) → PE (lamCx X A outer s H E scope f c') body (t E))
    (hdb : (x == ("__debug__" : Str)) = false) (hd : (a == ("__debug__" : Str)) = false) (hcd : (a == ("__classdict__" : Str)) = false) :
    PE X (.Call (.Name x p) [.Lambda params body scope lpos] [] pos) (fun σ H Q => Tabs T H ∧ ∀ H1, ExtN H H1 → Tabs T H1 → TT σ H1 Q) := by
  refine ⟨fun pins s σ H Q I h => ?_⟩
  obtain ⟨hT, h⟩ := h
  refine wpAny_Call_Name_kw (ld_glob I hg hm ?_ hdb)
  refine PySem.W.callWith_K (h₀ := X.base) I.ok.mod.kin hk ?_ (by rfl) (by rfl)
  show wpAny _ _ (spliced ((false, eval (.Lambda params body scope lpos) X.env) :: backTo pos (starEach [] X.env))) _ _ s
  refine Calls.spliced_cons (lam_make2 I TB hcode hmT hu hT hdef (L.has I.ok) fun f c' pm' ctv H1 s' I1 eN T1 hf hfn hfr hco => ?_)
  refine Calls.spliced_nil ⟨I1.kIn, ?_⟩
  have rc : codeAny (model X.prog X.w) X.A (.call (.ref g) ⟨[.ref f], []⟩) (CR C8.CX0 X.stack X.prog X.w H1 s' Q C8.E0) s' := by
    refine run_ofS (N := Ng) (ps := [a]) (us := [.ref f]) (vs := [.ref f]) lk hcg Sg hr I1.env0 (hb s' [.ref f] I1.kIn rfl) (.cons rfl .nil) rfl fun hr' => ?_
    obtain ⟨t', ht', hq'⟩ := hG f c' s' H1 σ Q hr' (fun W pn xe p1 p2 tk => pe_actS (i := 0) I1 L hf hfn hfr (hbind _ _ _ _ _) tk hr' (fun A outer s H E hr2 => hbody A outer s H E f c' hr2) hNg hva hd hcd) hco T1 (h H1 eN T1)
    exact ⟨t', ht'.nox, hq'⟩
  refine wpAny_call (codeAny_mono rc fun r s2 hq => ?_)
  cases r with
  | error e => exact (show False from hq).elim
  | ok fl =>
    cases fl with
    | ret u => exact I1.after hq
    | next => exact False.elim hq
    | brk => exact False.elim hq
    | cont => exact False.elim hq
end

/-! ### our readings -/
theorem RelS.extN {K : PySem.W.Frag} {z : Kz} {S : Store} {G H H1 : Hp} {μ : List Addr} (r : RelS K z S G μ H) (e : ExtN H H1) (t : Tabs z.T H1) : RelS K z S G μ H1 ∧ Ext G μ H G μ H1 := by
  refine ⟨⟨fun a o h => e a o (r.g a o h) fun ps q => r.gt a ps (by rw [h, q]), r.len, fun l ob a e1 e2 => ?_, r.inj, fun l a q => ?_, r.gt, t, r.lam⟩, ⟨Sub.refl G, fun _ _ q => q, fun a o h t g m => ⟨e a o h t.1, g, m⟩⟩⟩
  · have h := r.at_ l ob a e1 e2
    obtain ⟨o, h1, h2⟩ := r.there l a e2
    exact h.mono (Sub.refl G) (fun _ _ e => e) (by rw [h1]; exact e a o h1 h2.1) fun z => z
  · obtain ⟨o, h1, h2⟩ := r.there l a q
    exact ⟨o, e a o h1 h2.1, h2⟩
/-- the receiver's state at its entry -/
theorem RelS.withLam {K : PySem.W.Frag} {T : List (Addr × Str)} {S : Store} {G H : Hp} {μ : List Addr} {ρ : Env} {σ : L2.St} {f c : Addr} {q : Str} (r : RelS K (z0 T) S G μ H) (hE : RelE K (z0 T) ρ σ G μ) (hc : H c = some (CodeO c q)) :
    RelS K { T := T, clo := some f, lam := some ⟨ρ, σ, c, q⟩ } S (upd G c (CodeO c q)) μ H ∧ Ext G μ H (upd G c (CodeO c q)) μ H := by
  have sb : Sub G (upd G c (CodeO c q)) := fun a o h => by
    by_cases e : a = c
    · subst e
      rw [upd_same]
      have := r.g _ _ h
      rw [hc] at this
      exact this
    · rw [upd_ne e]; exact h
  have nm : ∀ (l : Nat) (a : Addr), μ[l]? = some a → a ≠ c := fun l a e w => by
    subst w
    obtain ⟨o, h1, h2⟩ := r.there l a e
    rw [hc] at h1
    cases h1
    exact h2.2 q rfl
  refine ⟨⟨fun a o h => ?_, r.len, fun l ob a e1 e2 => ?_, r.inj, r.there, gt_upd r.gt fun ps => codeO_ne ps, r.tabs, fun l e => ?_⟩, ⟨sb, fun _ _ e => e, fun a o h t g m => ⟨h, ?_, m⟩⟩⟩
  · by_cases e : a = c
    · subst e; rw [upd_same] at h; cases h; exact hc
    · rw [upd_ne e] at h; exact r.g _ _ h
  · have h : RepO K (z0 T) (upd G c (CodeO c q)) μ H a ob := (r.at_ l ob a e1 e2).mono sb (fun _ _ e => e) rfl fun z => by rw [upd_ne (nm l a e2)]; exact z
    cases ob with
    | lst xs =>
      obtain ⟨h0, vs, h1, h2⟩ := h
      exact ⟨h0, vs, h1, RepL.swap (n := 0) (c := false) ⟨fun _ => .inl rfl, fun _ => .inl rfl⟩ xs vs (fun e => by cases e) h2⟩
    | dct kvs =>
      obtain ⟨h0, vs, h1, h2⟩ := h
      exact ⟨h0, vs, h1, RepK.swap (n := 0) (c := false) ⟨fun _ => .inl rfl, fun _ => .inl rfl⟩ kvs vs (fun e => by cases e) h2⟩
    | ins c fs => exact h.elim
    | dead => trivial
  · cases e
    exact ⟨(RelE.swap ⟨fun _ => .inl rfl, fun _ => .inl rfl⟩ hE).mono' sb fun _ _ e => e, upd_same⟩
  · have ne : a ≠ c := fun w => by
      subst w
      rw [hc] at h
      cases h
      exact t.2 q rfl
    rw [upd_ne ne]; exact g
section
variable {X : Cx} {z : Kz} {W : WX} {sx : Sx} {fd : Nat} {d : Dfn} {sxg : (Store → Res PV) → Sx} {eb : E}
/-- what the receiver does with the lambda's run -/
def TTx' (K : PySem.W.Frag) (mg : Str → Option Value) (T : List (Addr × Str)) (sxg : (Store → Res PV) → Sx) (d : Dfn) (fm : Env → Store → Res PV) : L2.St → Hp → VK → Prop := fun σ H Q =>
  ∃ ρ S G μ, RelE K (z0 T) ρ σ G μ ∧ RelS K (z0 T) S G μ H ∧ Post K mg (z0 T) noW [] G μ H (runD (sxg (fm ρ)) d [.clo] S) fun p S' G' μ' H' => ∀ v, Rep K (z0 T) G' μ' p v → Q v H'
theorem t_lam {T : List (Addr × Str)} {fm : Env → Store → Res PV} (hT : z.T = T) (hx : z.xa = none) (hz : z.clo = none) (hl : ∀ m S, sx.lam fd m S = runD (sxg m) d [.clo] S) (σ : L2.St) (H : Hp) (Q : VK)
    (h : TE' X z W (fun ρ S => if sx.okC [] S then (sx.lam fd (fm ρ) S).calm else .bad) σ H Q) : Tabs T H ∧ ∀ H1, ExtN H H1 → Tabs T H1 → TTx' X.K X.mg T sxg d fm σ H1 Q := by
  obtain ⟨ρ, S, G, μ, hE, hS, h⟩ := h
  dsimp only at h
  refine ⟨by rw [← hT]; exact hS.tabs, fun H1 eN t1 => ?_⟩
  split at h
  · obtain ⟨r1, e1⟩ := hS.extN eN (by rw [hT]; exact t1)
    have sw : SwapOk false z (z0 T) := ⟨fun _ => .inl hx, fun _ => .inl hz⟩
    refine ⟨ρ, S, G, μ, hE.swap sw, RelS.swap sw r1 (fun e => by cases e) (fun p hp => by rw [hT]; exact hp) (fun l e => by cases e), ?_⟩
    rw [hl] at h
    have h := h.ext e1
    cases er : runD (sxg (fm ρ)) d [.clo] S with
    | bad => rw [er] at h; exact h
    | exc c S' => rw [er] at h; exact h.elim
    | ok v S' =>
      rw [er] at h
      exact fun G' μ' H' e' r' u hu => h G' μ' H' e' (r1.up hT e' r') u (Rep.swap (n := 0) swap0 v u (fun e => by cases e) hu)
  · exact h.elim
/-- the receiver's body keeps that, by its reading with the lambda at hand -/
theorem gives_of {T : List (Addr × Str)} {k : Nat} {Ng : List Str} {x : Str} {sg : Scope} {g : Addr} {cdg : Value} {bg : List Stmt} {a q : Str} {fm : Env → Store → Res PV} {t : XK → TE} (hsl : d.slots = Ng.length) (hp : d.par = 1)
    (ht : t = fun E => TEx X.K X.mg (z0 T) (fun cls d _ H => E cls d H) fm)
    (hbody : ∀ (f c' : Addr) (s : Shared) (H1 : Hp) (σ : L2.St) (ρ : Env), Room (k + 1) (X.A.deeper (envOfC x sg s.heap.objs.size g cdg)) →
      (∀ (W : WX) (pn : List (Addr × Obj)) (xe : Value → Shared → Prop) (p1 p2 : Pos), Takes ((cxOf C8.CX0 X.prog X.w X.K X.mg X.base Ng x sg g cdg X.A X.stack s H1 C8.E0).tr pn xe) W →
        PE ((cxOf C8.CX0 X.prog X.w X.K X.mg X.base Ng x sg g cdg X.A X.stack s H1 C8.E0).tr pn xe) (.Call (.Name a p1) [] [] p2) (TEx X.K X.mg { T := T, clo := some f, lam := some ⟨ρ, σ, c', q⟩ } W fun (ρZ : CW.Env) (S : Store) => match ρZ[0]? with
          | some (some PV.clo) => if underS S.length S then fm ρ S else .bad
          | _ => .bad)) →
      PSs (cxOf C8.CX0 X.prog X.w X.K X.mg X.base Ng x sg g cdg X.A X.stack s H1 C8.E0).nox bg (TSx X.K X.mg { T := T, clo := some f, lam := some ⟨ρ, σ, c', q⟩ } noW (execL (sxg (fm ρ)) d.body))) :
    GivesS X k T Ng x sg g cdg bg a q t (TTx' X.K X.mg T sxg d fm) := by
  subst ht
  intro f c' s H1 σ Q hr act hco hT ⟨ρ, S, G, μ, hE, hS, h⟩
  obtain ⟨r1, e1⟩ := hS.withLam (f := f) hE hco
  refine ⟨_, hbody f c' s H1 σ ρ hr fun W pn xe p1 p2 tk => PE.imp (act W pn xe p1 p2 tk) fun σZ HZ QZ ⟨ρZ, SZ, GZ, μZ, hEZ, hSZ, hZ⟩ => ?_, begin_ d [.clo], S, _, μ, ?_, r1, ?_⟩
  · cases e0 : ρZ[0]? with
    | none => simp only [e0] at hZ; exact hZ.elim
    | some o =>
      cases o with
      | none => simp only [e0] at hZ; exact hZ.elim
      | some p =>
        cases p with
        | clo =>
          simp only [e0] at hZ
          split at hZ
          · rename_i hu
            obtain ⟨v, hv, f', k1, rfl⟩ := hEZ.2 0 .clo e0
            cases k1
            obtain ⟨l1, l2⟩ := hSZ.lam _ rfl
            refine ⟨hv, hSZ.g _ _ l2, ρ, SZ, GZ, μZ, RelE.swap ⟨fun _ => .inl rfl, fun _ => .inl rfl⟩ l1, RelS.swap swapT hSZ (fun _ => hu) (fun p hp => hp) (fun l e => by cases e), ?_⟩
            cases er : fm ρ SZ with
            | bad => rw [er] at hZ; exact hZ
            | ok v S' =>
              rw [er] at hZ
              exact fun G' μ' H' e' r' u hu => hZ G' μ' H' e' (hSZ.up rfl e' r') u (Rep.swap (n := 0) swap0 v u (fun e => by cases e) hu)
            | exc c S' =>
              rw [er] at hZ
              intro G' μ' H' cls d' e' r' ⟨C, k1, k2, k3⟩
              exact hZ G' μ' H' cls d' e' (hSZ.up rfl e' r') ⟨C, k1, k2, RepX.swap swap0 c.fs d' k3⟩
          · exact hZ.elim
        | _ => simp only [e0] at hZ; exact hZ.elim
  · unfold begin_
    rw [hsl]
    exact relE_start (RepL.one ⟨f, rfl, rfl⟩)
  · unfold runD at h
    split at h
    · exact SPost.imp (body_post (z := { T := T, clo := some f, lam := some ⟨ρ, σ, c', q⟩ }) (T := T) (S := S) rfl hS.len rfl [] (fun _ _ _ _ h => h) (h.ext e1)) (fun _ _ h => h) (fun _ _ h => h) (fun _ _ h => h) (fun _ _ h => h)
    · exact h.elim
end
end CW
end

section
set_option Elab.async false
set_option linter.all false
set_option maxRecDepth 100000
set_option maxHeartbeats 2000000
/-! What the matcher looks at: facts of the text's forms. -/
namespace CW
open PySem PySem.Spec PyProof.Rows L2

/-- a form whose test is the truth of its value -/
def plainTB : Expr → Bool
  | .UnaryOp .Not _ _ | .BoolOp _ _ _ | .IfExp _ _ _ _ | .Compare _ _ _ _ => false
  | _ => true
theorem plainT_of {a : Expr} (h : plainTB a = true) : PlainT a := by
  intro env whole
  cases a <;> first | rfl | (cases h; done) | skip
  rename_i op x pos
  cases op <;> first | rfl | cases h
def plainIxB : Expr → Bool
  | .Slice _ _ _ _ => false
  | _ => true
theorem plainIx_of {a : Expr} (h : plainIxB a = true) : PlainIx a := by
  intro o i
  cases a <;> first | rfl | cases h
def notSet : Expr → Bool
  | .Set _ _ _ => false
  | _ => true
theorem folded_of {a : Expr} (h : notSet a = true) (env : PySem.Env) (x : Value) : foldedSetIterable a env x = pure x := by
  cases a <;> first | rfl | cases h
theorem assignEach_cons {e : Expr} (h : notStar e = true) (es : List Expr) (env : PySem.Env) : assignEach (e :: es) env = (false, assign e env) :: assignEach es env := by
  cases e <;> first | rfl | cases h
theorem assignEach_len : ∀ {es : List Expr} (env : PySem.Env), es.all notStar = true → (assignEach es env).length = es.length ∧ (assignEach es env).findIdx? (·.1) = none
  | [], env, _ => ⟨rfl, rfl⟩
  | e :: es, env, h => by
    rw [List.all_cons, Bool.and_eq_true] at h
    obtain ⟨h1, h2⟩ := assignEach_len (es := es) env h.2
    rw [assignEach_cons h.1]
    refine ⟨by simp [h1], ?_⟩
    rw [List.findIdx?_cons, h2]
    rfl
/-- what may be assigned to: o[i] -/
theorem assign_sub {o i : Expr} {pos : Pos} (h : plainIxB i = true) (env : PySem.Env) (v : Value) : assign (.Subscript o i pos) env v = (do
      let ov ← holding [v] (eval o env)
      let iv ← holding [v, ov] (eval i env)
      standAt pos
      holding [v, ov, iv] (setItem ov iv v)
      release [v, ov, iv] []) := by
  cases i <;> first | rfl | cases h
/-! ### stores -/
def isComp : Expr → Bool
  | .ListComp _ _ _ _ | .SetComp _ _ _ _ | .DictComp _ _ _ _ _ | .GeneratorExp _ _ _ _ => true
  | _ => false
theorem swaps_no {e : Expr} (h : isComp e = false) (t : Option Expr) (l : Nat) (env : PySem.Env) : swapsWith e t l env = pure false := by
  cases e <;> first | rfl | cases h
theorem swapsSole_no {e tg : Expr} (h : isComp e = false) (l : Nat) (env : PySem.Env) : swapsWithSole [tg] e l env = pure false := swaps_no h _ _ _
def isTupT : Expr → Bool
  | .Tuple _ _ _ => true
  | _ => false
def isListT : Expr → Bool
  | .List _ _ => true
  | _ => false
theorem stores_no {tg e : Expr} (h : (isTupT tg || isListT tg) = false ∨ isTupT e = false) (env : PySem.Env) : swappedStores [tg] e env = pure none := by
  rcases h with h | h
  · cases tg <;> first | rfl | cases h
  · cases tg <;> cases e <;> first | rfl | cases h
theorem stores_many {ts vs : List Expr} {k k2 : Nat} {p p2 : Pos} (h : (ts.length == 2 || ts.length == 3) = false) (env : PySem.Env) : swappedStores [.Tuple ts k p] (.Tuple vs k2 p2) env = pure none := by
  unfold swappedStores
  simp only [h, Bool.not_false, Bool.true_or, if_true]
/-- not all are plain local names of one line -/
def swN (sc : Scope) (ts : List Expr) : Bool := decide ((ts.filterMap fun t => match t with
    | .Name id pos => if sc.names.lookup id == some .local && pos.line == (ts.head?.map (·.pos.line)).getD 0 then some id else none
    | _ => none).length ≠ ts.length)
theorem stores_cells {ts vs : List Expr} {k k2 : Nat} {p p2 : Pos} {env : PySem.Env} (h : swN env.scope ts = true) : swappedStores [.Tuple ts k p] (.Tuple vs k2 p2) env = pure none := by
  have h' : ((ts.filterMap fun t => match t with
    | .Name id pos => if env.kindOf id == some .local && pos.line == (ts.head?.map (·.pos.line)).getD 0 then some id else none
    | _ => none).length != ts.length) = true := by
    have := of_decide_eq_true h
    simpa [Env.kindOf] using this
  unfold swappedStores
  dsimp only
  split
  · rfl
  · split
    · rfl
    · rw [if_pos (by
        rw [Bool.or_eq_true]
        exact .inl h')]
/-- names, stored from the right -/
def nameAt : Expr → Option (Str × Nat)
  | .Name x p => some (x, p.line)
  | _ => none
theorem blockKind_of {env : PySem.Env} (h : env.scope.kind = .function) : env.blockKind = .function := by unfold Env.blockKind; rw [h]; rfl
theorem stores_two {x y : Str} {px py pt : Pos} {kt : Nat} {a b : Expr} {k2 : Nat} {pt2 : Pos} {env : PySem.Env} (hk : env.scope.kind = .function) (hx : env.scope.names.lookup x = some .local) (hy : env.scope.names.lookup y = some .local) (hl : (py.line == px.line) = true) (hne : (y == x) = false)
    (ha : notStar a = true) (hb : notStar b = true) (hf : (foldedForSure 8 a && foldedForSure 8 b) = false) (hc : (constantsAlone 8 a && constantsAlone 8 b) = false) :
    swappedStores [.Tuple [.Name x px, .Name y py] kt pt] (.Tuple [a, b] k2 pt2) env = pure (some [x, y]) := by
  have kx : env.kindOf x = some .local := hx
  have ky : env.kindOf y = some .local := hy
  have hb' := blockKind_of hk
  have e1 : Expr.pos (.Name x px) = px := rfl
  have hne' : ¬ (y = x) := by simpa using hne
  have hl' : py.line = px.line := by simpa using hl
  have na : ∀ e p, a ≠ .Starred e p := fun e p w => by subst w; cases ha
  have nb : ∀ e p, b ≠ .Starred e p := fun e p w => by subst w; cases hb
  unfold swappedStores
  simp [hb', kx, ky, hl', e1, hf, hc, Expr.pos]
  have ed : ([x, y] : List Str).eraseDups.length = 2 := by
    rw [List.eraseDups_cons, List.filter_cons, hne]
    simp [List.eraseDups_cons]
  intro h
  exact absurd ed h
theorem stores_three {x y w : Str} {px py pw pt : Pos} {kt : Nat} {a b c : Expr} {k2 : Nat} {pt2 : Pos} {env : PySem.Env} (hk : env.scope.kind = .function) (hx : env.scope.names.lookup x = some .local) (hy : env.scope.names.lookup y = some .local) (hw : env.scope.names.lookup w = some .local)
    (hl : (py.line == px.line) = true) (hl2 : (pw.line == px.line) = true) (hne : (y == x) = false) (hne2 : (w == x) = false) (hne3 : (w == y) = false)
    (ha : notStar a = true) (hb : notStar b = true) (hcs : notStar c = true) (hf : (foldedForSure 8 a && (foldedForSure 8 b && foldedForSure 8 c)) = false) (hc : (constantsAlone 8 a && (constantsAlone 8 b && constantsAlone 8 c)) = false) :
    swappedStores [.Tuple [.Name x px, .Name y py, .Name w pw] kt pt] (.Tuple [a, b, c] k2 pt2) env = pure (some [x, y, w]) := by
  have kx : env.kindOf x = some .local := hx
  have ky : env.kindOf y = some .local := hy
  have kw : env.kindOf w = some .local := hw
  have hb' := blockKind_of hk
  have hl' : py.line = px.line := by simpa using hl
  have hl2' : pw.line = px.line := by simpa using hl2
  have na : ∀ e p, a ≠ .Starred e p := fun e p w => by subst w; cases ha
  have nb : ∀ e p, b ≠ .Starred e p := fun e p w => by subst w; cases hb
  have nc : ∀ e p, c ≠ .Starred e p := fun e p w => by subst w; cases hcs
  unfold swappedStores
  simp [hb', kx, ky, kw, hl', hl2', hf, hc, Expr.pos]
  have ed : ([x, y, w] : List Str).eraseDups.length = 3 := by
    rw [List.eraseDups_cons, List.filter_cons, hne, List.filter_cons, hne2]
    simp only [Bool.not_false, if_true, List.filter_nil]
    rw [List.eraseDups_cons, List.filter_cons, hne3]
    simp [List.eraseDups_cons]
  intro h
  exact absurd ed h
/-! ### comprehensions that are assigned -/
def swB (sc scope : Scope) (y : Str) (py pos : Pos) : Bool := decide (sc.names.lookup y = some .local) && (py.line == pos.line) && !(scope.names.any fun (n, k) => n == y && (k == .local || k == .cell))
theorem swaps_lc {elt : Expr} {gs : List Comprehension} {scope : Scope} {pos py : Pos} {y : Str} {l : Nat} {env : PySem.Env} (hk : env.scope.kind = .function) :
    swapsWith (.ListComp elt gs scope pos) (some (.Name y py)) l env = pure (swB env.scope scope y py pos) := by
  have hb := blockKind_of hk
  unfold swapsWith swB
  simp only [hb, Expr.pos]
  rw [Bool.beq_eq_decide_eq (env.kindOf y)]
  rfl
theorem swaps_dc {kx vx : Expr} {gs : List Comprehension} {scope : Scope} {pos py : Pos} {y : Str} {l : Nat} {env : PySem.Env} (hk : env.scope.kind = .function) :
    swapsWith (.DictComp kx vx gs scope pos) (some (.Name y py)) l env = pure (swB env.scope scope y py pos) := by
  have hb := blockKind_of hk
  unfold swapsWith swB
  simp only [hb, Expr.pos]
  rw [Bool.beq_eq_decide_eq (env.kindOf y)]
  rfl
theorem swaps_other {e tg : Expr} (h : ∀ x p, tg ≠ .Name x p) (hc : ∀ a b c d, e ≠ .SetComp a b c d) (l : Nat) (env : PySem.Env) : swapsWith e (some tg) l env = pure false := by
  cases e <;> first | rfl | (cases tg <;> first | rfl | exact absurd rfl (h _ _)) | exact absurd rfl (hc _ _ _ _)
end CW
end

section
set_option Elab.async false
set_option linter.all false
set_option maxRecDepth 100000
set_option maxHeartbeats 2000000
/-! The matcher: the IR against the text's forms. -/
namespace CW
open PySem PySem.Spec PyProof.Rows L2

/-- the module's names: defs (by number), constants, own exceptions, names it does not bind, defs that take a lambda -/
structure Tab where
  fns : List Str
  consts : List (Str × PV)
  excs : List Str
  free : List Str
  recv : List Nat
/-- where we are: the def's names, the scope, what may be stored, within a block, within an except suite, may make a lambda, slot 0 is a lambda -/
structure Cf where
  N : List Str
  sc : Scope
  st : Str → Bool
  blk : Bool
  hot : Bool
  lamQ : Bool
  clo : Bool
def nameOk (x : Str) : Bool := !(x == ("__debug__" : Str)) && !(x == ("__classdict__" : Str))
def isGl (cf : Cf) (x : Str) : Bool := decide (cf.sc.names.lookup x = some .globalImplicit)
def isVis (sc : Scope) (x : Str) : Bool := decide (sc.names.lookup x = some .local) || (decide (sc.names.lookup x = some .cell) || decide (sc.names.lookup x = some .free))
def isLoc (sc : Scope) (x : Str) : Bool := decide (sc.names.lookup x = some .local) || decide (sc.names.lookup x = some .cell)
mutual
def PV.same : PV → PV → Bool
  | .non, .non => true
  | .bl a, .bl b => a == b
  | .int i, .int j => i == j
  | .str x, .str y => x == y
  | .tup xs, .tup ys => sameL xs ys
  | _, _ => false
def sameL : List PV → List PV → Bool
  | [], [] => true
  | x :: xs, y :: ys => x.same y && sameL xs ys
  | _, _ => false
end
mutual
theorem PV.same_eq : ∀ (p q : PV), p.same q = true → p = q
  | .non, q, h => by cases q <;> first | rfl | (simp [PV.same] at h)
  | .bl a, q, h => by cases q <;> simp [PV.same] at h; rw [h]
  | .int a, q, h => by cases q <;> simp [PV.same] at h; rw [h]
  | .str a, q, h => by cases q <;> simp [PV.same] at h; rw [h]
  | .tup xs, q, h => by
    cases q with
    | tup ys => rw [sameL_eq xs ys (by simpa [PV.same] using h)]
    | _ => simp [PV.same] at h
  | .lst _, q, h => by cases q <;> simp [PV.same] at h
  | .dct _, q, h => by cases q <;> simp [PV.same] at h
  | .loc _, q, h => by cases q <;> simp [PV.same] at h
  | .ty _, q, h => by cases q <;> simp [PV.same] at h
  | .gl _, q, h => by cases q <;> simp [PV.same] at h
  | .clo, q, h => by cases q <;> simp [PV.same] at h
  | .exn _ _, q, h => by cases q <;> simp [PV.same] at h
theorem sameL_eq : ∀ (p q : List PV), sameL p q = true → p = q
  | [], q, h => by cases q <;> first | rfl | (simp [sameL] at h)
  | x :: xs, q, h => by
    cases q with
    | nil => simp [sameL] at h
    | cons y ys =>
      simp only [sameL, Bool.and_eq_true] at h
      rw [PV.same_eq x y h.1, sameL_eq xs ys h.2]
end
def mConst : PV → Expr → Bool
  | .int i, .Constant (.int j) _ _ => i == j
  | .bl b, .Constant (.bool c) _ _ => b == c
  | .non, .Constant .none _ _ => true
  | .str x, .Constant (.str y) _ _ => x == y
  | _, _ => false
def mCls (tb : Tab) (cf : Cf) : Cl → Expr → Bool
  | c, .Name x _ => decide (clName c = x) && (isGl cf x && (!(x == ("__debug__" : Str)) && (match c with
    | .bt _ => tb.free.contains x
    | .own _ => tb.excs.contains x)))
  | _, _ => false
def mClss (tb : Tab) (cf : Cf) : List Cl → List Expr → Bool
  | [], [] => true
  | c :: cs, x :: xs => (match c with
    | .bt n => !(n == .verr)
    | .own _ => false) && (mCls tb cf c x && mClss tb cf cs xs)
  | _, _ => false
def biInfo : Bi → Option (Str × Bool)
  | .len => some ("len", false) | .abs => some ("abs", false) | .int1 => some ("int", false) | .all => some ("all", true) | .any => some ("any", true) | .sum => some ("sum", true)
  | .list1 => some ("list", false) | .tuple1 => some ("tuple", false) | .dict1 => none | .sorted1 => some ("sorted", true) | .bool1 => none
def mtInfo : Mt → Str × Nat
  | .append => ("append", 1) | .pop0 => ("pop", 0) | .pop1 => ("pop", 1) | .get1 => ("get", 1) | .get2 => ("get", 2) | .count => ("count", 1) | .index => ("index", 1) | .extend => ("extend", 99)
def Es.len : Es → Nat
  | .nil => 0
  | .cons _ es => es.len + 1
def ownP (N : List Str) (own : List Nat) : List (Str × Nat) := own.filterMap fun i => (N[i]?).map fun x => (x, i)
/-- within a comprehension's block -/
def Cf.blkOf (cf : Cf) (scope : Scope) : Cf := { cf with sc := relS scope cf.sc, st := fun x => (scope.names.lookup x == some .cell) || ((relS scope cf.sc).names.lookup x == some .local), blk := true, lamQ := false, clo := false }
/-- within a lambda's body -/
def Cf.lamOf (cf : Cf) (scope : Scope) : Cf := { N := cf.N, sc := scope, st := fun _ => false, blk := true, hot := false, lamQ := false, clo := false }
def noArgs (a : Arguments) : Bool := a.posonlyargs.isEmpty && (a.args.isEmpty && (a.vararg.isNone && (a.kwonlyargs.isEmpty && (a.kw_defaults.isEmpty && (a.kwarg.isNone && a.defaults.isEmpty)))))
def compOk (cf : Cf) (own : List Nat) (scope : Scope) : Bool := !cf.hot && (decide ((ownP cf.N own).map (·.2) = own) && blkC cf.N cf.sc scope (ownP cf.N own))
/-! ### targets of names -/
mutual
def mT (cf : Cf) : T → Expr → Bool
  | .name i, x => match x with
    | .Name y _ => decide (cf.N[i]? = some y) && (isLoc cf.sc y && cf.st y)
    | _ => false
  | .tup ts, x => match x with
    | .Tuple xs _ _ => mTs cf ts xs && (xs.all notStar && !cf.hot)
    | _ => false
  | .sub _ _, _ => false
def mTs (cf : Cf) : Ts → List Expr → Bool
  | .nil, xs => match xs with
    | [] => true
    | _ => false
  | .cons t ts, xs => match xs with
    | x :: xs => mT cf t x && mTs cf ts xs
    | _ => false
end
mutual
def mE (tb : Tab) (cf : Cf) : E → Expr → Bool
  | .const c, x => mConst c x
  | .var i, x => match x with
    | .Name y _ => decide (cf.N[i]? = some y) && (isVis cf.sc y && nameOk y)
    | _ => false
  | .glob g c, x => match x with
    | .Name y _ => decide (g = y) && (isGl cf y && (nameOk y && (match tb.consts.lookup y with
      | some d => d.same c
      | none => false)))
    | _ => false
  | .tup es, x => match x with
    | .Tuple xs _ _ => mEs tb cf es xs && (xs.all notStar && decide (xs.length ≤ 1000))
    | _ => false
  | .lst _ es, x => match x with
    | .List xs _ => mEs tb cf es xs && (xs.all notStar && decide (xs.length ≤ 1000))
    | _ => false
  | .dict _ kvs, x => match x with
    | .Dict ks vs _ => mKv tb cf kvs ks vs && decide (ks.length ≤ 15)
    | _ => false
  | .bin op a b, x => match x with
    | .BinOp l o r _ => decide (bopA op = o) && (mE tb cf a l && mE tb cf b r)
    | _ => false
  | .neg a, x => match x with
    | .UnaryOp o l _ => decide (o = .USub) && mE tb cf a l
    | _ => false
  | .not a, x => match x with
    | .UnaryOp o l _ => decide (o = .Not) && mE tb cf a l
    | _ => false
  | .bool k es, x => match x with
    | .BoolOp o xs _ => decide (o = if k then .And else .Or) && (mEs tb cf es xs && !xs.isEmpty)
    | _ => false
  | .cmp op a b, x => match x with
    | .Compare l [o] [r] _ => decide (copA op = o) && (mE tb cf a l && (mE tb cf b r && !(behindInMarks o r)))
    | _ => false
  | .chain o1 o2 a b c, x => match x with
    | .Compare l [p1, p2] [r1, r2] _ => decide (copA o1 = p1) && (decide (copA o2 = p2) && (mE tb cf a l && (mE tb cf b r1 && (mE tb cf c r2 && !(lastMarks [p1, p2] [r1, r2])))))
    | _ => false
  | .chain3 o1 o2 o3 a b c d, x => match x with
    | .Compare l [p1, p2, p3] [r1, r2, r3] _ => decide (copA o1 = p1) && (decide (copA o2 = p2) && (decide (copA o3 = p3) && (mE tb cf a l && (mE tb cf b r1 && (mE tb cf c r2 && (mE tb cf d r3 && !(lastMarks [p1, p2, p3] [r1, r2, r3])))))))
    | _ => false
  | .ite c a b, x => match x with
    | .IfExp t l r _ => mB tb cf c t && (mE tb cf a l && mE tb cf b r)
    | _ => false
  | .idx a b, x => match x with
    | .Subscript l r _ => mE tb cf a l && (mE tb cf b r && plainIxB r)
    | _ => false
  | .slice a lo hi, x => match x with
    | .Subscript l (.Slice p q none _) _ => mE tb cf a l && (mO tb cf lo p && mO tb cf hi q)
    | _ => false
  | .call f es, x => match x with
    | .Call (.Name y _) xs [] _ => decide (tb.fns[f]? = some y) && (isGl cf y && (nameOk y && (!cf.hot && (mEs tb cf es xs && xs.all notStar))))
    | _ => false
  | .callv i, x => match x with
    | .Call (.Name y _) [] [] _ => cf.clo && (decide (i = 0) && decide (cf.N[0]? = some y))
    | _ => false
  | .calllam f body, x => match x with
    | .Call (.Name y _) [.Lambda ps bd scope _] [] _ => cf.lamQ && (!cf.hot && (decide (tb.fns[f]? = some y) && (tb.recv.contains f && (isGl cf y && (nameOk y && (noArgs ps && (LamX.lamSB cf.sc scope && mE tb (cf.lamOf scope) body bd)))))))
    | _ => false
  | .bi _ f es, x => match x with
    | .Call (.Name y _) xs [] _ => (match biInfo f with
      | some (n, c) => decide (n = y) && (isGl cf y && (tb.free.contains y && ((!c || !cf.hot) && (mEs tb cf es xs && (xs.all notStar && decide (xs.length = 1))))))
      | none => false)
    | _ => false
  | .meth f o es, x => match x with
    | .Call (.Attribute l a p) xs [] q => decide ((mtInfo f).1 = a) && (decide ((mtInfo f).2 = xs.length) && (decide ((mtInfo f).2 ≤ 2) && (mE tb cf o l && (baseOk l && ((p.endLine == q.line) && (mEs tb cf es xs && xs.all notStar))))))
    | _ => false
  | .isin e cs, x => match x with
    | .Call (.Name y _) [l, c] [] _ => decide (y = ("isinstance" : Str)) && (isGl cf y && (tb.free.contains y && (mE tb cf e l && (notStar l && (match cs with
      | [k] => mCls tb cf k c
      | _ => match c with
        | .Tuple xs _ _ => mClss tb cf cs xs && (decide (1 ≤ cs.length) && decide (cs.length ≤ 1000))
        | _ => false)))))
    | _ => false
  | .lrange _ es, x => match x with
    | .Call (.Name y _) [.Call (.Name w _) xs [] _] [] _ => decide (y = ("list" : Str)) && (decide (w = ("range" : Str)) && (isGl cf y && (isGl cf w && (tb.free.contains y && (tb.free.contains w && (!cf.hot && (mEs tb cf es xs && (xs.all notStar && (decide (xs.length = 1) || decide (xs.length = 2))))))))))
    | _ => false
  | .comp _ own elt t i ifs, x => match x with
    | .ListComp ex [⟨tg, it, fs, z⟩] scope _ => decide (z = 0) && (compOk cf own scope && (t.inside own && (mT (cf.blkOf scope) t tg && (mI tb cf i tg it && (notSet it && (mFs tb (cf.blkOf scope) ifs fs && mE tb (cf.blkOf scope) elt ex))))))
    | _ => false
  | .comp2 _ own elt t i ifs own2 t2 i2 ifs2, x => match x with
    | .ListComp ex [⟨tg, it, fs, z⟩, ⟨tg2, it2, fs2, z2⟩] scope _ => decide (z = 0) && (decide (z2 = 0) && (compOk cf own scope && (t.inside own && (own2.all (own.contains ·) && (t2.inside own2 && (mT (cf.blkOf scope) t tg && (mI tb cf i tg it && (notSet it && (mFs tb (cf.blkOf scope) ifs fs &&
        (mT (cf.blkOf scope) t2 tg2 && (mI tb (cf.blkOf scope) i2 tg2 it2 && (notSet it2 && (mFs tb (cf.blkOf scope) ifs2 fs2 && mE tb (cf.blkOf scope) elt ex)))))))))))))
    | _ => false
  | .dcomp _ own ke ve t i ifs, x => match x with
    | .DictComp kx vx [⟨tg, it, fs, z⟩] scope _ => decide (z = 0) && (compOk cf own scope && (t.inside own && (mT (cf.blkOf scope) t tg && (mI tb cf i tg it && (notSet it && (mFs tb (cf.blkOf scope) ifs fs && (mE tb (cf.blkOf scope) ke kx && mE tb (cf.blkOf scope) ve vx)))))))
    | _ => false
  | .attr _ _, _ => false
def mEs (tb : Tab) (cf : Cf) : Es → List Expr → Bool
  | .nil, xs => match xs with
    | [] => true
    | _ => false
  | .cons e es, xs => match xs with
    | x :: xs => mE tb cf e x && mEs tb cf es xs
    | _ => false
def mKv (tb : Tab) (cf : Cf) : Kv → List (Option Expr) → List Expr → Bool
  | .nil, ks, vs => match ks, vs with
    | [], [] => true
    | _, _ => false
  | .cons k v r, ks, vs => match ks, vs with
    | some x :: ks, y :: vs => mE tb cf k x && (mE tb cf v y && mKv tb cf r ks vs)
    | _, _ => false
def mO (tb : Tab) (cf : Cf) : O → Option Expr → Bool
  | .none, x => match x with
    | none => true
    | _ => false
  | .some e, x => match x with
    | some x => mE tb cf e x
    | _ => false
/-- a test -/
def mB (tb : Tab) (cf : Cf) : B → Expr → Bool
  | .val e, x => plainTB x && mE tb cf e x
  | .cmp op a b, x => match x with
    | .Compare l [o] [r] _ => decide (copA op = o) && (mE tb cf a l && (mE tb cf b r && !(behindInMarks o r)))
    | _ => false
  | .chain o1 o2 a b c, x => match x with
    | .Compare l [p1, p2] [r1, r2] _ => decide (copA o1 = p1) && (decide (copA o2 = p2) && (mE tb cf a l && (mE tb cf b r1 && (mE tb cf c r2 && !(lastMarks [p1, p2] [r1, r2])))))
    | _ => false
  | .not b, x => match x with
    | .UnaryOp o l _ => decide (o = .Not) && mB tb cf b l
    | _ => false
  | .bool k bs, x => match x with
    | .BoolOp o xs _ => decide (o = if k then .And else .Or) && (mBs tb cf bs xs && !xs.isEmpty)
    | _ => false
def mBs (tb : Tab) (cf : Cf) : Bs → List Expr → Bool
  | .nil, xs => match xs with
    | [] => true
    | _ => false
  | .cons b bs, xs => match xs with
    | x :: xs => mB tb cf b x && mBs tb cf bs xs
    | _ => false
/-- a clause's tests: none or one -/
def mFs (tb : Tab) (cf : Cf) : Bs → List Expr → Bool
  | .nil, xs => match xs with
    | [] => true
    | _ => false
  | .cons b bs, xs => match bs, xs with
    | .nil, [x] => mB tb cf b x
    | _, _ => false
def mI (tb : Tab) (cf : Cf) : I → Expr → Expr → Bool
  | .seq e, _, x => mE tb cf e x
  | .range es, _, x => match x with
    | .Call (.Name y _) xs [] _ => decide (y = ("range" : Str)) && (isGl cf y && (tb.free.contains y && (mEs tb cf es xs && (xs.all notStar && (decide (xs.length = 1) || decide (xs.length = 2))))))
    | _ => false
  | .enum e, tg, x => match x with
    | .Call (.Name y _) [l] [] _ => isTupT tg && (decide (y = ("enumerate" : Str)) && (isGl cf y && (tb.free.contains y && (mE tb cf e l && notStar l))))
    | _ => false
  | .zip a b, tg, x => match x with
    | .Call (.Name y _) [l, r] [] _ => isTupT tg && (decide (y = ("zip" : Str)) && (isGl cf y && (tb.free.contains y && (mE tb cf a l && (mE tb cf b r && (notStar l && notStar r))))))
    | _ => false
  | .items _, _, _ => false
end
end CW
end

section
set_option Elab.async false
set_option linter.all false
set_option maxRecDepth 100000
set_option maxHeartbeats 4000000
/-! What stands around a text; the matcher is right: expressions. -/
namespace CW
open PySem PySem.Spec PyProof.Rows L2

/-- the module's facts -/
structure Facts (tb : Tab) (sub : Str → Cl → Option Bool) (K : PySem.W.Frag) (mg : Str → Option Value) : Prop where
  con : ∀ x p, tb.consts.lookup x = some p → ∃ u v, mg x = some u ∧ RelV v u ∧ ∀ z G μ, Rep K z G μ p v
  exc : ∀ x, tb.excs.contains x = true → RaiseC K mg x
  free : ∀ x, tb.free.contains x = true → mg x = none
  subOk : SubOk K mg sub
  bt : ∀ x n, n ≠ Bt.verr → sub x (.bt n) = none
/-- the defs, as they may be called with that room -/
def Lv (tb : Tab) (T : List (Addr × Str)) (call : Nat → List PV → Store → Res PV) (P : Program) (w : World) (K : PySem.W.Frag) (mg : Str → Option Value) (base : Heap) (k : Nat) : Prop :=
  ∀ (f : Nat) (x : Str), tb.fns[f]? = some x → ∃ (a : Addr) (fd : FuncData) (ps : List Str), mg x = some (.ref a) ∧ PySem.W.keepIn K (.ref a) = true ∧ Binds K fd ps [] ∧ FnOk P w K mg base (L2.CX P w) k a fd ps (SpF K mg T (call f))
/-- a def that takes a lambda -/
structure RecvD (tb : Tab) (T : List (Addr × Str)) (lam : Nat → (Store → Res PV) → Store → Res PV) (X : Cx) (k : Nat) (f : Nat) (x : Str) : Prop where
  ex : ∃ (g : Addr) (a : Str) (pg : Arguments) (bg : List Stmt) (sg : Scope) (dV kV doc pm cdv ct oc : Value) (an od : Option Addr) (osl : Array (Option Value)) (Ng : List Str) (d : Dfn) (sxg : (Store → Res PV) → Sx),
    X.mg x = some (.ref g) ∧ PySem.W.keepIn X.K (.ref g) = true ∧ X.K.lookup g = some ⟨oc, od, .func (PySem.W.fnOf x x pg bg sg dV kV doc pm an cdv ct), osl⟩ ∧ PySem.W.codeIn X.K cdv x = true ∧ L2.Binds X.K (PySem.W.fnOf x x pg bg sg dV kV doc pm an cdv ct) [a] [] ∧ FnScope Ng [a] sg ∧
    Ng[0]? = some a ∧ Vis sg a ∧ nameOk a = true ∧ (∀ m S, lam f m S = runD (sxg m) d [.clo] S) ∧
    ∀ (fm : Env → Store → Res PV) (q : Str), GivesS X k T Ng x sg g cdv bg a q (fun E => TEx X.K X.mg (z0 T) (fun cls d _ H => E cls d H) fm) (TTx' X.K X.mg T sxg d fm)
structure Fit (tb : Tab) (T : List (Addr × Str)) (k : Nat) (cf : Cf) (sx : Sx) (X : Cx) (z : Kz) (W : WX) : Prop where
  facts : Facts tb sx.sub X.K X.mg
  room : cf.hot = false → Room k X.A
  units : X.A.units + 64 < cLine
  calls : Lv tb T sx.call X.prog X.w X.K X.mg X.base k
  nd : X.N.Nodup
  N : X.N = cf.N
  sc : X.env.scope = cf.sc
  st : ∀ x, cf.st x = true → X.fn x = true ∨ X.env.scope.names.lookup x = some .local
  calm : cf.hot = false → X.calm = true
  tk : Takes X W
  zT : z.T = T
  zx : cf.hot = false → z.xa = none
  xa : XaOk X z
  zc : sx.clo.isNone = true → z.clo = none
  cv : cf.clo = true → ∀ (a : Str) (p1 p2 : Pos), cf.N[0]? = some a → PE X (.Call (.Name a p1) [] [] p2) (TE' X z W (den sx (.callv 0)))
  lam : cf.lamQ = true → sx.clo = none ∧ (∃ c P, LamX.TabB X.base X.mg c P ∧ X.env.code = .ref c ∧ (P, X.env.qual ++ "<lambda>") ∈ T ∧ ∀ p ∈ T, p.1 = P → p.2 = X.env.qual ++ "<lambda>") ∧
    ∃ j, k = j + 2 ∧ Lv tb T sx.call2 X.prog X.w X.K X.mg X.base j ∧ ∀ f x, tb.recv.contains f = true → tb.fns[f]? = some x → RecvD tb T sx.lam X j f x
section
variable {tb : Tab} {T : List (Addr × Str)} {k : Nat} {cf : Cf} {sx : Sx} {X : Cx} {z : Kz} {W : WX}
theorem Fit.gl (F : Fit tb T k cf sx X z W) {x : Str} (h : isGl cf x = true) : Gl X x := by
  unfold isGl at h
  have h := of_decide_eq_true h
  show X.env.scope.names.lookup x = _
  rw [F.sc]; exact h
theorem Fit.vis (F : Fit tb T k cf sx X z W) {x : Str} (h : isVis cf.sc x = true) : Vis X.env.scope x := by
  unfold isVis at h
  simp only [Bool.or_eq_true, decide_eq_true_eq] at h
  rw [F.sc]; exact h
theorem Fit.loc (F : Fit tb T k cf sx X z W) {x : Str} (h : isLoc cf.sc x = true) : Loc X.env.scope x := by
  unfold isLoc at h
  simp only [Bool.or_eq_true, decide_eq_true_eq] at h
  rw [F.sc]; exact h
theorem nameOk_of {x : Str} (h : nameOk x = true) : (x == ("__debug__" : Str)) = false ∧ (x == ("__classdict__" : Str)) = false := by
  unfold nameOk at h
  simpa only [Bool.and_eq_true, Bool.not_eq_true'] using h
theorem Fit.free (F : Fit tb T k cf sx X z W) {x : Str} (h : tb.free.contains x = true) : X.mg x = none := F.facts.free x h
theorem xa_none {X : Cx} {z : Kz} (h : z.xa = none) : XaOk X z := fun a x d e => by rw [h] at e; cases e
/-- within a block -/
theorem Fit.blk (F : Fit tb T k cf sx X z W) (hh : cf.hot = false) {scope : Scope} (s : Shared) (H : Hp) (C : Addr) (cl : List (Str × Addr)) (fp : List Addr) : Fit tb T k (cf.blkOf scope) sx (X.blk s H scope (compEnvC scope cl C X.env) fp) z noW where
  facts := F.facts
  room := fun _ => F.room hh
  units := F.units
  calls := F.calls
  nd := F.nd
  N := F.N
  sc := by
    show relS scope X.env.scope = relS scope cf.sc
    rw [F.sc]
  st := fun x h => by
    have h : ((scope.names.lookup x == some .cell) || ((relS scope cf.sc).names.lookup x == some .local)) = true := h
    rw [Bool.or_eq_true] at h
    rcases h with h | h
    · exact .inl h
    · refine .inr ?_
      show (relS scope X.env.scope).names.lookup x = _
      rw [F.sc]; exact eq_of_beq h
  calm := fun h => F.calm hh
  tk := LamX.takes0
  zT := F.zT
  zx := fun _ => F.zx hh
  xa := xa_none (F.zx hh)
  zc := F.zc
  cv := fun h => by cases h
  lam := fun h => by cases h
/-- within a lambda's body -/
theorem Fit.lamB (F : Fit tb T (k + 2) cf sx X z W) {scope : Scope} (c2 : Lv tb T sx.call2 X.prog X.w X.K X.mg X.base k) (A : Around) (outer : List PySem.Env) (s : Shared) (H : Hp) (E : XK) (f c' : Addr) (hr : Room k (A.deeper (LamX.lamEnv X scope s.heap.objs.size f c'))) :
    Fit tb T k (cf.lamOf scope) sx.down (LamX.lamCx X A outer s H E scope f c') (z0 T) (fun cls d _ H => E cls d H) where
  facts := F.facts
  room := fun _ => hr
  units := hr.units
  calls := c2
  nd := F.nd
  N := F.N
  sc := rfl
  st := fun x h => by cases h
  calm := fun _ => rfl
  tk := takes_of rfl rfl rfl rfl
  zT := rfl
  zx := fun _ => rfl
  xa := xa_none rfl
  zc := fun _ => rfl
  cv := fun h => by cases h
  lam := fun h => by cases h
end

/-! ### lists of parts -/
/-- each with its reading -/
def FaE (sx : Sx) (X : Cx) (z : Kz) (W : WX) : Es → List Expr → Prop
  | .nil, xs => xs = []
  | .cons e es, xs => ∃ x r, xs = x :: r ∧ PE X x (TE' X z W (den sx e)) ∧ FaE sx X z W es r
def FaB (sx : Sx) (X : Cx) (z : Kz) (W : WX) : Bs → List Expr → Prop
  | .nil, xs => xs = []
  | .cons e es, xs => ∃ x r, xs = x :: r ∧ PT X x (TT' X z W (denT sx e)) ∧ FaB sx X z W es r
section
variable {sx : Sx} {X : Cx} {z : Kz} {W : WX}
theorem FaE.len : ∀ {es : Es} {xs : List Expr}, FaE sx X z W es xs → es.len = xs.length
  | .nil, xs, h => by
    have h : xs = [] := h
    subst h; rfl
  | .cons e es, xs, h => by
    obtain ⟨x, r, rfl, _, h2⟩ := h
    simp only [Es.len, List.length_cons, FaE.len h2]
theorem FaE.pa : ∀ {es : Es} {xs : List Expr}, FaE sx X z W es xs → xs.all notStar = true → PA X xs (TA' X z W (denL sx es))
  | .nil, xs, h, _ => by
    have h : xs = [] := h
    subst h
    exact s_nil
  | .cons e es, xs, h, hs => by
    obtain ⟨x, r, rfl, h1, h2⟩ := h
    rw [List.all_cons, Bool.and_eq_true] at hs
    exact s_cons h1 (FaE.pa h2 hs.2) (star_cons hs.1 _ _)
theorem denL_len : ∀ (es : Es), Len (denL sx es) es.len
  | .nil, ρ, S, vs, S', h => by
    simp only [denL, Res.ok.injEq] at h
    rw [← h.1]; rfl
  | .cons e es, ρ, S, vs, S', h => by
    simp only [denL] at h
    cases e1 : den sx e ρ S with
    | ok v S1 =>
      simp only [e1, Res.bind_ok] at h
      cases e2 : denL sx es ρ S1 with
      | ok vs2 S2 =>
        simp only [e2, Res.bind_ok, Res.ok.injEq] at h
        rw [← h.1, List.length_cons, denL_len es ρ S1 vs2 S2 e2]; rfl
      | exc c S2 => rw [e2] at h; cases h
      | bad => rw [e2] at h; cases h
    | exc c S1 => rw [e1] at h; cases h
    | bad => rw [e1] at h; cases h
theorem FaE.bool (isAnd : Bool) {pos : Pos} : ∀ {es : Es} {xs : List Expr}, FaE sx X z W es xs → xs.isEmpty = false → PE X (.BoolOp (if isAnd then .And else .Or) xs pos) (TE' X z W (denB sx isAnd es))
  | .nil, xs, h, h0 => by
    have h : xs = [] := h
    subst h
    cases h0
  | .cons e .nil, xs, h, _ => by
    obtain ⟨x, r, rfl, h1, h2⟩ := h
    have h2 : r = [] := h2
    subst h2
    refine PE.imp (s_one h1) fun σ H Q ⟨ρ, S, G, μ, hE, hS, h⟩ => ⟨ρ, S, G, μ, hE, hS, ?_⟩
    simp only [denB] at h
    cases e1 : den sx e ρ S with
    | ok v S1 => rw [e1] at h; exact h
    | exc c S1 => rw [e1] at h; exact h
    | bad => rw [e1] at h; exact h
  | .cons e (.cons e2 es), xs, h, _ => by
    obtain ⟨x, r, rfl, h1, h2⟩ := h
    have ih := FaE.bool isAnd (pos := pos) h2 (by obtain ⟨y, t, rfl, _, _⟩ := h2; rfl)
    obtain ⟨y, t, rfl, _, _⟩ := h2
    exact s_bool isAnd h1 ih
theorem FaB.bool (isAnd : Bool) {pos : Pos} : ∀ {bs : Bs} {xs : List Expr}, FaB sx X z W bs xs → xs.isEmpty = false → PW X (.BoolOp (if isAnd then .And else .Or) xs pos) (TT' X z W (denTB sx isAnd bs))
  | .nil, xs, h, h0 => by
    have h : xs = [] := h
    subst h
    cases h0
  | .cons e .nil, xs, h, _ => by
    obtain ⟨x, r, rfl, h1, h2⟩ := h
    have h2 : r = [] := h2
    subst h2
    refine PW.imp (s_tone isAnd h1) fun σ H Q ⟨ρ, S, G, μ, hE, hS, h⟩ => ⟨ρ, S, G, μ, hE, hS, ?_⟩
    simp only [denTB] at h
    cases e1 : denT sx e ρ S with
    | ok v S1 => rw [e1] at h; exact h
    | exc c S1 => rw [e1] at h; exact h
    | bad => rw [e1] at h; exact h
  | .cons e (.cons e2 es), xs, h, _ => by
    obtain ⟨x, r, rfl, h1, h2⟩ := h
    have ih := FaB.bool isAnd (pos := pos) h2 (by obtain ⟨y, t, rfl, _, _⟩ := h2; rfl)
    obtain ⟨y, t, rfl, _, _⟩ := h2
    exact s_tbool isAnd h1 ih
end

/-! ### classes -/
section
variable {tb : Tab} {T : List (Addr × Str)} {k : Nat} {cf : Cf} {sx : Sx} {X : Cx} {z : Kz} {W : WX}
theorem mCls_ok (F : Fit tb T k cf sx X z W) {c : Cl} {x : Expr} (h : mCls tb cf c x = true) : ∃ p, x = .Name (clName c) p ∧ Gl X (clName c) ∧ (∀ n, c = .bt n → X.mg (clName c) = none) ∧ (clName c == ("__debug__" : Str)) = false ∧ ∃ v u, ClVal X.mg c v u := by
  cases x with
  | Name y p =>
    simp only [mCls, Bool.and_eq_true, decide_eq_true_eq, Bool.not_eq_true'] at h
    obtain ⟨rfl, h1, h2, h3⟩ := h
    refine ⟨p, rfl, F.gl h1, fun n e => ?_, h2, ?_⟩
    · subst e; exact F.free h3
    · cases c with
      | bt n => exact ⟨_, _, rfl, rfl⟩
      | own x =>
        obtain ⟨C, _, _, _, _, _, _, g, _⟩ := (F.facts.exc x h3).ex
        exact ⟨.ref C, .ref C, C, g, rfl, rfl⟩
  | _ => simp [mCls] at h
theorem mClss_ok (F : Fit tb T k cf sx X z W) : ∀ {cs : List Cl} {xs : List Expr}, mClss tb cf cs xs = true → (∀ c ∈ cs, (∃ n, c = .bt n ∧ n ≠ .verr) ∧ Gl X (clName c) ∧ (∀ n, c = .bt n → X.mg (clName c) = none) ∧ (clName c == ("__debug__" : Str)) = false) ∧ (∃ vs us, ClVals X.mg cs vs us) ∧
    ∃ ps : List Pos, xs = (cs.zip ps).map (fun q => .Name (clName q.1) q.2) ∧ ps.length = cs.length
  | [], [], _ => ⟨fun c hc => absurd hc (by simp), ⟨[], [], rfl, rfl⟩, [], rfl, rfl⟩
  | [], _ :: _, h => by simp [mClss] at h
  | _ :: _, [], h => by simp [mClss] at h
  | c :: cs, x :: xs, h => by
    simp only [mClss, Bool.and_eq_true] at h
    obtain ⟨h0, h1, h2⟩ := h
    obtain ⟨p, rfl, g1, g2, g3, v, u, g4⟩ := mCls_ok F h1
    obtain ⟨i1, ⟨vs, us, i2⟩, ps, i3, i4⟩ := mClss_ok F h2
    have hn : ∃ n, c = .bt n ∧ n ≠ .verr := by
      cases c with
      | bt n => exact ⟨n, rfl, by simpa using h0⟩
      | own x => cases h0
    refine ⟨fun c' hc' => ?_, ⟨v :: vs, u :: us, v, vs, u, us, rfl, rfl, g4, i2⟩, p :: ps, by simp [i3], by simp [i4]⟩
    rcases List.mem_cons.mp hc' with e | hc'
    · subst e; exact ⟨hn, g1, g2, g3⟩
    · exact i1 c' hc'
theorem kind_of_inst {sub : Str → Cl → Option Bool} (hb : ∀ x n, n ≠ Bt.verr → sub x (.bt n) = none) {cs : List Cl} (h0 : 1 ≤ cs.length) (hc : ∀ c ∈ cs, ∃ n, c = .bt n ∧ n ≠ Bt.verr) {q : PV} {S : Store} {b : Bool} (h : isinstL sub q S cs = some b) : kindN (deref S q) ≠ "" := by
  cases cs with
  | nil => simp at h0
  | cons c cs =>
    obtain ⟨n, rfl, hn⟩ := hc c List.mem_cons_self
    simp only [isinstL] at h
    cases e : isinst sub q S (.bt n) with
    | none => rw [e] at h; cases h
    | some b' =>
      unfold isinst at e
      generalize deref S q = r at e ⊢
      cases r with
      | exn x fs =>
        cases fs with
        | nil => have e : sub x (.bt n) = some b' := e; rw [hb x n hn] at e; cases e
        | cons _ _ => cases e
      | non => exact fun w => absurd (show "NoneType" = "" from w) (by decide)
      | bl _ => exact fun w => absurd (show "bool" = "" from w) (by decide)
      | int _ => exact fun w => absurd (show "int" = "" from w) (by decide)
      | str _ => exact fun w => absurd (show "str" = "" from w) (by decide)
      | tup _ => exact fun w => absurd (show "tuple" = "" from w) (by decide)
      | lst _ => exact fun w => absurd (show "list" = "" from w) (by decide)
      | dct _ => exact fun w => absurd (show "dict" = "" from w) (by decide)
      | _ => cases e
end
/-! ### targets of names -/
section
variable {tb : Tab} {T : List (Addr × Str)} {k : Nat} {cf : Cf} {sx : Sx} {X : Cx} {z : Kz} {W : WX}
theorem bindPs_len : ∀ {ts : Ts} {ps : List PV} {ρ ρ' : Env} {xs : List Expr}, mTs cf ts xs = true → bindPs ts ps ρ = some ρ' → ps.length = xs.length
  | .nil, ps, ρ, ρ', xs, h, e => by
    cases ps with
    | nil => cases xs with
      | nil => rfl
      | cons _ _ => simp [mTs] at h
    | cons _ _ => simp [bindPs] at e
  | .cons t ts, ps, ρ, ρ', xs, h, e => by
    cases ps with
    | nil => simp [bindPs] at e
    | cons p ps =>
      cases xs with
      | nil => simp [mTs] at h
      | cons x xs =>
        simp only [mTs, Bool.and_eq_true] at h
        simp only [bindPs] at e
        cases e1 : bindP t p ρ with
        | none => rw [e1] at e; cases e
        | some ρ1 =>
          rw [e1] at e
          simp only [List.length_cons, bindPs_len h.2 e]
mutual
theorem mT_ok (F : Fit tb T k cf sx X z W) (z' : Kz) : ∀ {t : CW.T} {x : Expr}, mT cf t x = true → PG X x (TPb X.K z' t)
  | .name i, x, h => by
    simp only [mT] at h
    split at h
    · simp only [Bool.and_eq_true, decide_eq_true_eq] at h
      exact pb_name F.nd (by rw [F.N]; exact h.1) (F.loc h.2.1) (F.st _ h.2.2)
    · cases h
  | .tup ts, x, h => by
    simp only [mT] at h
    split at h
    · simp only [Bool.and_eq_true, Bool.not_eq_true'] at h
      obtain ⟨h1, h2, h3⟩ := h
      obtain ⟨l1, l2⟩ := assignEach_len X.env h2
      exact pb_tup (F.calm h3) (mTs_ok F z' h1 h2) (fun ps ρ ρ' e => bindPs_len h1 e) l1 l2
    · cases h
  | .sub _ _, x, h => by simp [mT] at h
theorem mTs_ok (F : Fit tb T k cf sx X z W) (z' : Kz) : ∀ {ts : Ts} {xs : List Expr}, mTs cf ts xs = true → xs.all notStar = true → PGs X xs (TPbs X.K z' ts)
  | .nil, xs, h, _ => by
    cases xs with
    | nil => exact pb_nil
    | cons _ _ => simp [mTs] at h
  | .cons t ts, xs, h, hs => by
    cases xs with
    | nil => simp [mTs] at h
    | cons x xs =>
      simp only [mTs, Bool.and_eq_true] at h
      rw [List.all_cons, Bool.and_eq_true] at hs
      exact pb_cons (mT_ok F z' h.1) (mTs_ok F z' h.2 hs.2) (by rw [assignEach_cons hs.1]; rfl)
end
end
end CW
end

section
set_option Elab.async false
set_option linter.all false
set_option maxRecDepth 100000
set_option maxHeartbeats 4000000
/-! The matcher is right: expressions, tests, what is walked. -/
namespace CW
open PySem PySem.Spec PyProof.Rows L2

theorem ownP_snd {N : List Str} {own : List Nat} (h : (ownP N own).map (·.2) = own) : (ownP N own).map (·.2) = own := h
theorem compOk_of {tb : Tab} {T : List (Addr × Str)} {k : Nat} {cf : Cf} {sx : Sx} {X : Cx} {z : Kz} {W : WX} (F : Fit tb T k cf sx X z W) {own : List Nat} {scope : Scope} (h : compOk cf own scope = true) : cf.hot = false ∧ (ownP cf.N own).map (·.2) = own ∧ BlkOk X.N X.env.scope scope (ownP cf.N own) := by
  unfold compOk at h
  simp only [Bool.and_eq_true, Bool.not_eq_true', decide_eq_true_eq] at h
  refine ⟨h.1, h.2.1, ?_⟩
  rw [F.N, F.sc]
  exact blkOk_by h.2.2
theorem range_len {es : Es} {xs : List Expr} {sx : Sx} {X : Cx} {z : Kz} {W : WX} (h : FaE sx X z W es xs) (hl : xs.length = 1 ∨ xs.length = 2) : (∃ e x, es = .cons e .nil ∧ xs = [x] ∧ PE X x (TE' X z W (den sx e))) ∨ ∃ e x e2 x2, es = .cons e (.cons e2 .nil) ∧ xs = [x, x2] ∧ PE X x (TE' X z W (den sx e)) ∧ PE X x2 (TE' X z W (den sx e2)) := by
  cases es with
  | nil =>
    have h : xs = [] := h
    subst h
    simp at hl
  | cons e es =>
    obtain ⟨x, r, rfl, h1, h2⟩ := h
    cases es with
    | nil =>
      have h2 : r = [] := h2
      subst h2
      exact .inl ⟨e, x, rfl, rfl, h1⟩
    | cons e2 es =>
      obtain ⟨x2, r2, rfl, h3, h4⟩ := h2
      cases es with
      | nil =>
        have h4 : r2 = [] := h4
        subst h4
        exact .inr ⟨e, x, e2, x2, rfl, rfl, h1, h3⟩
      | cons e3 es =>
        obtain ⟨x3, r3, rfl, _, _⟩ := h4
        simp at hl
theorem one_len {es : Es} {xs : List Expr} {sx : Sx} {X : Cx} {z : Kz} {W : WX} (h : FaE sx X z W es xs) (hl : xs.length = 1) : ∃ e x, es = .cons e .nil ∧ xs = [x] ∧ PE X x (TE' X z W (den sx e)) := by
  rcases range_len h (.inl hl) with h | ⟨_, _, _, _, _, rfl, _⟩
  · exact h
  · simp at hl
theorem two_len {es : Es} {xs : List Expr} {sx : Sx} {X : Cx} {z : Kz} {W : WX} (h : FaE sx X z W es xs) (hl : xs.length = 2) : ∃ e x e2 x2, es = .cons e (.cons e2 .nil) ∧ xs = [x, x2] ∧ PE X x (TE' X z W (den sx e)) ∧ PE X x2 (TE' X z W (den sx e2)) := by
  rcases range_len h (.inr hl) with ⟨_, _, _, rfl, _⟩ | h
  · simp at hl
  · exact h
theorem noArgs_bind {ps : Arguments} (h : noArgs ps = true) : (∀ env, defaultsOf ps env = ([], [])) ∧ ∀ (q : Str) (cl : List (Str × Addr)) (body : Expr) (scope : Scope) (pm cv ctv : Value), bindArgs (PySem.W.kla_fn "<lambda>" q ps body scope cl pm cv ctv) ⟨[], []⟩ = pure [] := by
  obtain ⟨p1, p2, p3, p4, p5, p6, p7⟩ := ps
  unfold noArgs at h
  simp only [Bool.and_eq_true, List.isEmpty_iff, Option.isNone_iff_eq_none] at h
  obtain ⟨rfl, rfl, rfl, rfl, rfl, rfl, rfl⟩ := h
  exact ⟨fun env => rfl, fun q cl body scope pm cv ctv => rfl⟩
section
variable {tb : Tab} {Tt : List (Addr × Str)}
theorem bi_ok {X : Cx} {z : Kz} {W : WX} {cf : Cf} {sx : Sx} {k : Nat} (F : Fit tb Tt k cf sx X z W) (m : Bool) (f : Bi) {n : Str} {c : Bool} (hi : biInfo f = some (n, c)) {es : Es} {xs : List Expr} {p pos : Pos} (hg : Gl X n) (hm : X.mg n = none) (hc : (!c || !cf.hot) = true)
    (ha : FaE sx X z W es xs) (hs : xs.all notStar = true) (hl : xs.length = 1) : PE X (.Call (.Name n p) xs [] pos) (TE' X z W (den sx (.bi m f es))) := by
  obtain ⟨e, x, rfl, rfl, he⟩ := one_len ha hl
  have hp := ha.pa hs
  rw [List.all_cons, Bool.and_eq_true] at hs
  have calm : c = true → X.calm = true := fun e => F.calm (by rw [e] at hc; simpa using hc)
  cases f with
  | len => cases hi; exact s_biF m (bi_len m) hg hm boot_len (by decide) (by decide) hp hs.1 hs.2
  | abs => cases hi; exact s_biF m (bi_abs m) hg hm boot_abs (by decide) (by decide) hp hs.1 hs.2
  | int1 => cases hi; exact s_biT m (bi_int1 m) hg hm PyProof.Rows.boot_int (by decide) (by decide) hp hs.1 hs.2
  | all => cases hi; exact s_biF m (bi_all m (calm rfl)) hg hm boot_all (by decide) (by decide) hp hs.1 hs.2
  | any => cases hi; exact s_biF m (bi_any m (calm rfl)) hg hm boot_any (by decide) (by decide) hp hs.1 hs.2
  | sum => cases hi; exact s_biF m (bi_sum m (calm rfl)) hg hm boot_sum (by decide) (by decide) hp hs.1 hs.2
  | list1 => cases hi; exact s_biT m (bi_list1 m) hg hm PyProof.Rows.boot_list (by decide) (by decide) hp hs.1 hs.2
  | tuple1 => cases hi; exact s_biT m (bi_tuple1 m) hg hm PyProof.Rows.boot_tuple (by decide) (by decide) hp hs.1 hs.2
  | dict1 => cases hi
  | sorted1 => cases hi; exact s_biF m (bi_sorted1 m (calm rfl)) hg hm boot_sorted (by decide) (by decide) hp hs.1 hs.2
  | bool1 => cases hi
theorem mt_ok {X : Cx} {z : Kz} {W : WX} {cf : Cf} {sx : Sx} {k : Nat} (F : Fit tb Tt k cf sx X z W) (f : Mt) {o : E} {l : Expr} {es : Es} {xs : List Expr} {p q : Pos} (hl : (mtInfo f).2 = xs.length) (hl2 : (mtInfo f).2 ≤ 2) (ho : PE X l (TE' X z W (den sx o))) (hb : baseOk l = true) (hline : (p.endLine == q.line) = true)
    (ha : FaE sx X z W es xs) (hs : xs.all notStar = true) : PE X (.Call (.Attribute l (mtInfo f).1 p) xs [] q) (TE' X z W (den sx (.meth f o es))) := by
  have hu := F.units
  cases f with
  | append =>
    obtain ⟨e, x, rfl, rfl, he⟩ := one_len ha hl.symm
    exact s_append ho hb hline he (by simpa using hs)
  | pop1 =>
    obtain ⟨e, x, rfl, rfl, he⟩ := one_len ha hl.symm
    exact s_pop1 ho hb hline he (by simpa using hs)
  | count =>
    obtain ⟨e, x, rfl, rfl, he⟩ := one_len ha hl.symm
    exact s_count ho hb hline he (by simpa using hs)
  | index =>
    obtain ⟨e, x, rfl, rfl, he⟩ := one_len ha hl.symm
    exact s_index ho hb hline he (by simpa using hs)
  | get1 =>
    obtain ⟨e, x, rfl, rfl, he⟩ := one_len ha hl.symm
    exact s_get1 hu ho he hb hline (by simpa using hs)
  | get2 =>
    obtain ⟨e, x, e2, x2, rfl, rfl, he, he2⟩ := two_len ha hl.symm
    simp only [List.all_cons, List.all_nil, Bool.and_eq_true, and_true] at hs
    exact s_get2 hu ho he he2 hb hline hs.1 hs.2
  | pop0 =>
    have hx : xs = [] := List.length_eq_zero_iff.mp hl.symm
    subst hx
    cases es with
    | nil => exact s_pop0 ho hb hline
    | cons e es => obtain ⟨_, _, w, _⟩ := ha; cases w
  | extend => exact absurd hl2 (by decide)
theorem tof_eq (o : Option Bool) (S : Store) : ((Res.of (o.map PV.bl) S).bind fun v S => Res.of (truth v S) S) = Res.of o S := by
  cases o <;> rfl
theorem tcmp_eq {sx : Sx} {op : Cop} {a b : E} (ρ : Env) (S : Store) : (((den sx a ρ S).bind fun p S => (den sx b ρ S).bind fun q S => Res.of ((cmpop op p q S).map .bl) S).bind fun v S => Res.of (truth v S) S) = denT sx (.cmp op a b) ρ S := by
  simp only [denT, Res.bind_assoc, tof_eq]
theorem tchain_eq {sx : Sx} {o1 o2 : Cop} {a b c : E} (ρ : Env) (S : Store) : (((den sx a ρ S).bind fun x S => (den sx b ρ S).bind fun y S => match cmpop o1 x y S with
      | some true => (den sx c ρ S).bind fun z S => Res.of ((cmpop o2 y z S).map .bl) S
      | some false => .ok (.bl false) S
      | none => .bad).bind fun v S => Res.of (truth v S) S) = denT sx (.chain o1 o2 a b c) ρ S := by
  simp only [denT, Res.bind_assoc]
  congr 1
  funext x S1
  congr 1
  funext y S2
  cases cmpop o1 x y S2 with
  | none => rfl
  | some k => cases k with
    | false => rfl
    | true => simp only [Res.bind_assoc, tof_eq]
/-- a display's parts -/
def FaK (sx : Sx) (X : Cx) (z : Kz) (W : WX) : Kv → List (Option Expr) → List Expr → Prop
  | .nil, ks, vs => ks = [] ∧ vs = []
  | .cons k v r, ks, vs => ∃ x y ks' vs', ks = some x :: ks' ∧ vs = y :: vs' ∧ PE X x (TE' X z W (den sx k)) ∧ PE X y (TE' X z W (den sx v)) ∧ FaK sx X z W r ks' vs'
def trsOf (sx : Sx) (X : Cx) (z : Kz) (W : WX) : Kv → List (TE × TE)
  | .nil => []
  | .cons k v r => (TE' X z W (den sx k), TE' X z W (den sx v)) :: trsOf sx X z W r
theorem FaK.parts {sx : Sx} {X : Cx} {z : Kz} {W : WX} {pos : Pos} : ∀ {kv : Kv} {ks : List (Option Expr)} {vs : List Expr}, FaK sx X z W kv ks vs → PPs X pos ks vs (trsOf sx X z W kv) ∧ ks.all (·.isSome) = true ∧ ks.length = vs.length ∧ (∀ ρ S ps S', denKv sx kv ρ S = .ok ps S' → ps.length = ks.length) ∧
    ∀ (σ : L2.St) (H : Hp) (Q : List (V × V) → Hp → Prop), TPx X.K X.mg z W (denKv sx kv) σ H Q → tPairs (trsOf sx X z W kv) σ H Q
  | .nil, ks, vs, h => by
    obtain ⟨rfl, rfl⟩ := h
    refine ⟨pps_nil, rfl, rfl, fun ρ S ps S' e => ?_, fun σ H Q q => t_pairs_nil (X := X) σ H Q q⟩
    simp only [denKv, Res.ok.injEq] at e
    rw [← e.1]; rfl
  | .cons k v r, ks, vs, h => by
    obtain ⟨x, y, ks', vs', rfl, rfl, h1, h2, h3⟩ := h
    obtain ⟨i1, i2, i3, i4, i5⟩ := FaK.parts (pos := pos) h3
    refine ⟨pps_cons h1 h2 i1, by simp [i2], by simp [i3], fun ρ S ps S' e => ?_, fun σ H Q q => t_pairs_cons (X := X) i5 σ H Q q⟩
    simp only [denKv] at e
    cases e1 : den sx k ρ S with
    | exc c S1 => rw [e1] at e; cases e
    | bad => rw [e1] at e; cases e
    | ok a S1 =>
      simp only [e1, Res.bind_ok] at e
      cases e2 : den sx v ρ S1 with
      | exc c S1 => rw [e2] at e; cases e
      | bad => rw [e2] at e; cases e
      | ok b S2 =>
        simp only [e2, Res.bind_ok] at e
        cases e3 : denKv sx r ρ S2 with
        | exc c S1 => rw [e3] at e; cases e
        | bad => rw [e3] at e; cases e
        | ok t S3 =>
          simp only [e3, Res.bind_ok, Res.ok.injEq] at e
          rw [← e.1, List.length_cons, List.length_cons, i4 _ _ _ _ e3]
theorem disp_ok {sx : Sx} {X : Cx} {z : Kz} {W : WX} {pos : Pos} (m : Bool) {kv : Kv} {ks : List (Option Expr)} {vs : List Expr} (h : FaK sx X z W kv ks vs) (hl : ks.length ≤ 15) : PE X (.Dict ks vs pos) (TE' X z W (den sx (.dict m kv))) := by
  by_cases h0 : ks = []
  · subst h0
    cases kv with
    | cons k v r => obtain ⟨_, _, _, _, w, _⟩ := h; cases w
    | nil =>
      obtain ⟨_, rfl⟩ := h
      refine PE.imp pe_dnewK fun σ H Q ⟨ρ, S, G, μ, hE, hS, q⟩ p np => ?_
      exact mk_laidD (m := m) (xs := []) hS (Nat.zero_le _) rfl (laid_of q) p np
  · obtain ⟨i1, i2, i3, i4, i5⟩ := h.parts (pos := pos)
    exact s_disp m i1 i2 i3 h0 hl i5 fun ρ S ps S' e => by rw [i4 ρ S ps S' e]; exact hl
mutual
theorem mE_ok : ∀ (e : E) {x : Expr} {k : Nat} {cf : Cf} {sx : Sx} {X : Cx} {z : Kz} {W : WX}, Fit tb Tt k cf sx X z W → mE tb cf e x = true → PE X x (TE' X z W (den sx e))
  | .const c, x, k, cf, sx, X, z, W, F, h => by
    simp only [mE] at h
    unfold mConst at h
    split at h
    · rw [show _ = _ from eq_of_beq h]; exact s_int
    · rw [show _ = _ from eq_of_beq h]; exact s_bl
    · exact s_non
    · rw [show _ = _ from eq_of_beq h]; exact s_str
    · cases h
  | .var i, x, k, cf, sx, X, z, W, F, h => by
    simp only [mE] at h
    split at h
    · simp only [Bool.and_eq_true, decide_eq_true_eq] at h
      obtain ⟨n1, n2⟩ := nameOk_of h.2.2
      exact s_var (by rw [F.N]; exact h.1) (F.vis h.2.1) n1 n2
    · cases h
  | .glob g c, x, k, cf, sx, X, z, W, F, h => by
    simp only [mE] at h
    split at h
    · rename_i y p
      simp only [Bool.and_eq_true, decide_eq_true_eq] at h
      obtain ⟨rfl, h2, h3, h4⟩ := h
      split at h4
      · rename_i d hd
        have e := PV.same_eq _ _ h4
        subst e
        obtain ⟨u, v, m1, m2, m3⟩ := F.facts.con _ _ hd
        exact s_const (pe_glob (F.gl h2) m1 m2 (nameOk_of h3).1) fun G μ => m3 z G μ
      · cases h4
    · cases h
  | .tup es, x, k, cf, sx, X, z, W, F, h => by
    simp only [mE] at h
    split at h
    · simp only [Bool.and_eq_true, decide_eq_true_eq] at h
      have ha := mEs_ok es F h.1
      exact s_tup (ha.pa h.2.1) (denL_len es) (by rw [ha.len]; unfold LINE; omega)
    · cases h
  | .lst m es, x, k, cf, sx, X, z, W, F, h => by
    simp only [mE] at h
    split at h
    · simp only [Bool.and_eq_true, decide_eq_true_eq] at h
      have ha := mEs_ok es F h.1
      exact s_lst m (ha.pa h.2.1) (denL_len es) (by rw [ha.len]; unfold LINE; omega)
    · cases h
  | .dict m kvs, x, k, cf, sx, X, z, W, F, h => by
    simp only [mE] at h
    split at h
    · simp only [Bool.and_eq_true, decide_eq_true_eq] at h
      exact disp_ok m (mKv_ok kvs F h.1) h.2
    · cases h
  | .bin op a b, x, k, cf, sx, X, z, W, F, h => by
    simp only [mE] at h
    split at h
    · simp only [Bool.and_eq_true, decide_eq_true_eq] at h
      obtain ⟨rfl, h1, h2⟩ := h
      exact s_bin (op_bin_ok op) (mE_ok a F h1) (mE_ok b F h2)
    · cases h
  | .neg a, x, k, cf, sx, X, z, W, F, h => by
    simp only [mE] at h
    split at h
    · simp only [Bool.and_eq_true, decide_eq_true_eq] at h
      obtain ⟨rfl, h1⟩ := h
      exact s_neg (mE_ok a F h1)
    · cases h
  | .not a, x, k, cf, sx, X, z, W, F, h => by
    simp only [mE] at h
    split at h
    · simp only [Bool.and_eq_true, decide_eq_true_eq] at h
      obtain ⟨rfl, h1⟩ := h
      exact s_not (mE_ok a F h1)
    · cases h
  | .bool b es, x, k, cf, sx, X, z, W, F, h => by
    simp only [mE] at h
    split at h
    · simp only [Bool.and_eq_true, decide_eq_true_eq, Bool.not_eq_true'] at h
      obtain ⟨rfl, h1, h2⟩ := h
      exact (mEs_ok es F h1).bool b h2
    · cases h
  | .cmp op a b, x, k, cf, sx, X, z, W, F, h => by
    simp only [mE] at h
    split at h
    · simp only [Bool.and_eq_true, decide_eq_true_eq, Bool.not_eq_true'] at h
      obtain ⟨rfl, h1, h2, h3⟩ := h
      exact s_cmp (op_cmp_ok F.units op) (mE_ok a F h1) (mE_ok b F h2) h3
    · cases h
  | .chain o1 o2 a b c, x, k, cf, sx, X, z, W, F, h => by
    simp only [mE] at h
    split at h
    · simp only [Bool.and_eq_true, decide_eq_true_eq, Bool.not_eq_true'] at h
      obtain ⟨rfl, rfl, h1, h2, h3, h4⟩ := h
      exact s_chain o1 o2 F.units (mE_ok a F h1) (mE_ok b F h2) (mE_ok c F h3) h4
    · cases h
  | .chain3 o1 o2 o3 a b c d, x, k, cf, sx, X, z, W, F, h => by
    simp only [mE] at h
    split at h
    · simp only [Bool.and_eq_true, decide_eq_true_eq, Bool.not_eq_true'] at h
      obtain ⟨rfl, rfl, rfl, h1, h2, h3, h4, h5⟩ := h
      exact s_chain3 o1 o2 o3 F.units (mE_ok a F h1) (mE_ok b F h2) (mE_ok c F h3) (mE_ok d F h4) h5
    · cases h
  | .ite c a b, x, k, cf, sx, X, z, W, F, h => by
    simp only [mE] at h
    split at h
    · simp only [Bool.and_eq_true] at h
      exact s_ite (mB_ok c F h.1) (mE_ok a F h.2.1) (mE_ok b F h.2.2)
    · cases h
  | .idx a b, x, k, cf, sx, X, z, W, F, h => by
    simp only [mE] at h
    split at h
    · simp only [Bool.and_eq_true] at h
      exact s_idx F.units (mE_ok a F h.1) (mE_ok b F h.2.1) (plainIx_of h.2.2)
    · cases h
  | .slice a lo hi, x, k, cf, sx, X, z, W, F, h => by
    simp only [mE] at h
    split at h
    · simp only [Bool.and_eq_true] at h
      exact s_slice (mE_ok a F h.1) (mO_ok lo F h.2.1) (mO_ok hi F h.2.2)
    · cases h
  | .call f es, x, k, cf, sx, X, z, W, F, h => by
    simp only [mE] at h
    split at h
    · rename_i y p xs pos
      simp only [Bool.and_eq_true, decide_eq_true_eq, Bool.not_eq_true'] at h
      obtain ⟨h1, h2, h3, h4, h5, h6⟩ := h
      obtain ⟨a, fd, ps, c1, c2, c3, c4⟩ := F.calls f y h1
      have ha := mEs_ok es F h5
      cases xs with
      | nil =>
        cases es with
        | nil => exact s_call0 (sx := sx) (f := f) (F.zx h4) F.zc F.zT c4 (F.room h4) (F.gl h2) c1 c2 c3 F.tk (nameOk_of h3).1
        | cons e es => obtain ⟨_, _, w, _⟩ := ha; cases w
      | cons x xs =>
        have hp := ha.pa h6
        rw [List.all_cons, Bool.and_eq_true] at h6
        exact s_call (sx := sx) (f := f) (F.zx h4) F.zc F.zT c4 (F.room h4) (F.gl h2) c1 c2 c3 F.tk hp (nameOk_of h3).1 h6.1 h6.2
    · cases h
  | .callv i, x, k, cf, sx, X, z, W, F, h => by
    simp only [mE] at h
    split at h
    · simp only [Bool.and_eq_true, decide_eq_true_eq] at h
      obtain ⟨h1, rfl, h3⟩ := h
      exact F.cv h1 _ _ _ h3
    · cases h
  | .calllam f body, x, k, cf, sx, X, z, W, F, h => by
    simp only [mE] at h
    split at h
    · rename_i y p ps bd scope lp pos
      simp only [Bool.and_eq_true, decide_eq_true_eq, Bool.not_eq_true'] at h
      obtain ⟨h1, h2, h3, h4, h5, h6, h7, h8, h9⟩ := h
      obtain ⟨l0, ⟨c, P, l1, l2, l3, l4⟩, j, rfl, l5, l6⟩ := F.lam h1
      obtain ⟨g, a, pg, bg, sg, dV, kV, doc, pm, cdv, ct, oc, an, od, osl, Ng, d, sxg, r1, r2, r3, r4, r5, r6, r7, r8, r9, r10, r11⟩ := (l6 f y h4 h3).ex
      obtain ⟨b1, b2⟩ := noArgs_bind h7
      have L : LamX.LamS X.env.scope scope := by rw [F.sc]; exact LamX.lamS_by h8
      refine PE.imp (pe_lamcallS (t := fun E => TEx X.K X.mg (z0 Tt) (fun cls d _ H => E cls d H) (den sx.down body)) (F.gl h5) r1 r2 r3 r4 r5 r6 r7 r8 (r11 (den sx.down body) _) l1 l2 l3 l4 (F.room h2) L (b1 _) (fun q cl pm cv ctv => b2 q cl bd scope pm cv ctv)
        (fun A outer s H E f' c' hr => mE_ok body (F.lamB l5 A outer s H E f' c' hr) h9) (nameOk_of h6).1 (nameOk_of r9).1 (nameOk_of r9).2) fun σ H Q q => ?_
      exact t_lam F.zT (F.zx h2) (F.zc (by rw [l0]; rfl)) r10 σ H Q q
    · cases h
  | .bi m f es, x, k, cf, sx, X, z, W, F, h => by
    simp only [mE] at h
    split at h
    · rename_i y p xs pos
      split at h
      · rename_i n c hi
        simp only [Bool.and_eq_true, decide_eq_true_eq] at h
        obtain ⟨rfl, h1, h2, h3, h4, h5, h6⟩ := h
        exact bi_ok F m f hi (F.gl h1) (F.free h2) h3 (mEs_ok es F h4) h5 h6
      · cases h
    · cases h
  | .meth f o es, x, k, cf, sx, X, z, W, F, h => by
    simp only [mE] at h
    split at h
    · simp only [Bool.and_eq_true, decide_eq_true_eq] at h
      obtain ⟨rfl, h1, h0, h2, h3, h4, h5, h6⟩ := h
      exact mt_ok F f h1 h0 (mE_ok o F h2) h3 h4 (mEs_ok es F h5) h6
    · cases h
  | .isin e cs, x, k, cf, sx, X, z, W, F, h => by
    simp only [mE] at h
    split at h
    · rename_i y p l c pos
      simp only [Bool.and_eq_true, decide_eq_true_eq] at h
      obtain ⟨rfl, h1, h2, h3, h4, h5⟩ := h
      have he := mE_ok e F h3
      split at h5
      · rename_i k'
        obtain ⟨p2, rfl, g1, g2, g3, g4⟩ := mCls_ok F h5
        exact s_isin1 F.facts.subOk F.xa (F.gl h1) (F.free h2) g1 g2 g3 g4 he h4
      · split at h5
        · simp only [Bool.and_eq_true, decide_eq_true_eq] at h5
          obtain ⟨i1, i2, i3⟩ := mClss_ok F h5.1
          exact s_isinL (F.gl h1) (F.free h2) (fun c hc => (i1 c hc).2) i2 i3 (by unfold LINE; omega) (fun q S b hq => kind_of_inst F.facts.bt h5.2.1 (fun c hc => (i1 c hc).1) hq) he h4
        · cases h5
    · cases h
  | .lrange m es, x, k, cf, sx, X, z, W, F, h => by
    simp only [mE] at h
    split at h
    · simp only [Bool.and_eq_true, Bool.or_eq_true, decide_eq_true_eq, Bool.not_eq_true'] at h
      obtain ⟨rfl, rfl, h1, h2, h3, h4, h5, h6, h7, h8⟩ := h
      rcases range_len (mEs_ok es F h6) h8 with ⟨e, x, rfl, rfl, he⟩ | ⟨e, x, e2, x2, rfl, rfl, he, he2⟩
      · exact s_lrange1 m (F.calm h5) (F.gl h1) (F.free h3) (F.gl h2) (F.free h4) he (by simpa using h7)
      · simp only [List.all_cons, List.all_nil, Bool.and_eq_true, and_true] at h7
        exact s_lrange2 m (F.calm h5) (F.gl h1) (F.free h3) (F.gl h2) (F.free h4) he he2 h7.1 h7.2
    · cases h
  | .comp m own elt t i ifs, x, k, cf, sx, X, z, W, F, h => by
    simp only [mE] at h
    split at h
    · simp only [Bool.and_eq_true, decide_eq_true_eq] at h
      obtain ⟨rfl, h1, h2, h3, h4, h5, h6, h7⟩ := h
      obtain ⟨o1, o2, o3⟩ := compOk_of F h1
      refine PE.imp (pe_lc (own := ownP cf.N own) (wi := TI' X z W (denI sx i)) (g := TPb X.K z t) (tt := TT' X z noW (denT2 sx ifs)) (te := TE' X z noW (den sx elt)) (F.calm o1) F.nd (mI_ok i F h4) o3 (fun s H C cl fp => mT_ok (F.blk o1 s H C cl fp) z h3) (fun s H C cl fp => mFs_ok ifs (F.blk o1 s H C cl fp) h6) (fun s H C cl fp => mE_ok elt (F.blk o1 s H C cl fp) h7) (fun x => folded_of h5 X.env x)) fun σ H Q q => ?_
      refine t_comp (t := t) m (by rw [o2]; exact h2) σ H Q ?_
      rw [o2]
      exact q
    · cases h
  | .comp2 m own elt t i ifs own2 t2 i2 ifs2, x, k, cf, sx, X, z, W, F, h => by
    simp only [mE] at h
    split at h
    · simp only [Bool.and_eq_true, decide_eq_true_eq] at h
      obtain ⟨rfl, rfl, h1, h2, h2a, h2b, h3, h4, h5, h6, h7, h8, h9, h10, h11⟩ := h
      obtain ⟨o1, o2, o3⟩ := compOk_of F h1
      have hv : ∀ j ∈ own2, j ∈ (ownP cf.N own).map (·.2) := fun j hj => by
        rw [o2]
        have := List.all_eq_true.mp h2a j hj
        simpa using this
      refine PE.imp (pe_lc2 (own := ownP cf.N own) (vs1 := own2) (wi := TI' X z W (denI sx i)) (g := TPb X.K z t) (tt := TT' X z noW (denT2 sx ifs)) (wi1 := TI' X z noW (denI sx i2)) (g1 := TPb X.K z t2) (tt1 := TT' X z noW (denT2 sx ifs2)) (te := TE' X z noW (den sx elt)) (F.calm o1) F.nd (mI_ok i F h4) o3 hv (fun s H C cl fp => mT_ok (F.blk o1 s H C cl fp) z h3) (fun s H C cl fp => mFs_ok ifs (F.blk o1 s H C cl fp) h6) (fun s H C cl fp => mI_ok i2 (F.blk o1 s H C cl fp) h8)
        (fun s H C cl fp => mT_ok (F.blk o1 s H C cl fp) z h7) (fun s H C cl fp => mFs_ok ifs2 (F.blk o1 s H C cl fp) h10) (fun s H C cl fp => mE_ok elt (F.blk o1 s H C cl fp) h11) (fun x => folded_of h5 X.env x) (fun env x => folded_of h9 env x)) fun σ H Q q => ?_
      refine t_comp2 (t := t) (t1 := t2) m (by rw [o2]; exact h2) h2b σ H Q ?_
      rw [o2]
      exact q
    · cases h
  | .dcomp m own ke ve t i ifs, x, k, cf, sx, X, z, W, F, h => by
    simp only [mE] at h
    split at h
    · simp only [Bool.and_eq_true, decide_eq_true_eq] at h
      obtain ⟨rfl, h1, h2, h3, h4, h5, h6, h7, h8⟩ := h
      obtain ⟨o1, o2, o3⟩ := compOk_of F h1
      refine PE.imp (pe_dc (own := ownP cf.N own) (wi := TI' X z W (denI sx i)) (g := TPb X.K z t) (tt := TT' X z noW (denT2 sx ifs)) (tk := TE' X z noW (den sx ke)) (tv := TE' X z noW (den sx ve)) (F.calm o1) F.nd (mI_ok i F h4) o3 (fun s H C cl fp => mT_ok (F.blk o1 s H C cl fp) z h3) (fun s H C cl fp => mFs_ok ifs (F.blk o1 s H C cl fp) h6) (fun s H C cl fp => mE_ok ke (F.blk o1 s H C cl fp) h7) (fun s H C cl fp => mE_ok ve (F.blk o1 s H C cl fp) h8) (fun x => folded_of h5 X.env x)) fun σ H Q q => ?_
      refine t_dcomp (t := t) m (by rw [o2]; exact h2) σ H Q ?_
      rw [o2]
      exact q
    · cases h
  | .attr _ _, x, k, cf, sx, X, z, W, F, h => by simp [mE] at h
theorem mEs_ok : ∀ (es : Es) {xs : List Expr} {k : Nat} {cf : Cf} {sx : Sx} {X : Cx} {z : Kz} {W : WX}, Fit tb Tt k cf sx X z W → mEs tb cf es xs = true → FaE sx X z W es xs
  | .nil, xs, k, cf, sx, X, z, W, F, h => by
    cases xs with
    | nil => rfl
    | cons _ _ => simp [mEs] at h
  | .cons e es, xs, k, cf, sx, X, z, W, F, h => by
    cases xs with
    | nil => simp [mEs] at h
    | cons x xs =>
      simp only [mEs, Bool.and_eq_true] at h
      exact ⟨x, xs, rfl, mE_ok e F h.1, mEs_ok es F h.2⟩
theorem mKv_ok : ∀ (kv : Kv) {ks : List (Option Expr)} {vs : List Expr} {k : Nat} {cf : Cf} {sx : Sx} {X : Cx} {z : Kz} {W : WX}, Fit tb Tt k cf sx X z W → mKv tb cf kv ks vs = true → FaK sx X z W kv ks vs
  | .nil, ks, vs, k, cf, sx, X, z, W, F, h => by
    simp only [mKv] at h
    split at h
    · exact ⟨rfl, rfl⟩
    · cases h
  | .cons a b r, ks, vs, k, cf, sx, X, z, W, F, h => by
    simp only [mKv] at h
    split at h
    · simp only [Bool.and_eq_true] at h
      exact ⟨_, _, _, _, rfl, rfl, mE_ok a F h.1, mE_ok b F h.2.1, mKv_ok r F h.2.2⟩
    · cases h
theorem mO_ok : ∀ (o : O) {x : Option Expr} {k : Nat} {cf : Cf} {sx : Sx} {X : Cx} {z : Kz} {W : WX}, Fit tb Tt k cf sx X z W → mO tb cf o x = true → PO X x (TO' X z W (denO sx o))
  | .none, x, k, cf, sx, X, z, W, F, h => by
    cases x with
    | none => exact s_onone
    | some _ => simp [mO] at h
  | .some e, x, k, cf, sx, X, z, W, F, h => by
    cases x with
    | none => simp [mO] at h
    | some x => exact s_osome (mE_ok e F (by simpa [mO] using h))
theorem mB_ok : ∀ (b : B) {x : Expr} {k : Nat} {cf : Cf} {sx : Sx} {X : Cx} {z : Kz} {W : WX}, Fit tb Tt k cf sx X z W → mB tb cf b x = true → PT X x (TT' X z W (denT sx b))
  | .val e, x, k, cf, sx, X, z, W, F, h => by
    simp only [mB, Bool.and_eq_true] at h
    exact s_truth (mE_ok e F h.2) (plainT_of h.1)
  | .cmp op a b, x, k, cf, sx, X, z, W, F, h => by
    simp only [mB] at h
    split at h
    · simp only [Bool.and_eq_true, decide_eq_true_eq, Bool.not_eq_true'] at h
      obtain ⟨rfl, h1, h2, h3⟩ := h
      exact PT.imp (s_tcmp op F.units (mE_ok a F h1) (mE_ok b F h2) h3) fun σ H Q ⟨ρ, S, G, μ, hE, hS, q⟩ => ⟨ρ, S, G, μ, hE, hS, by
        dsimp only
        rw [tcmp_eq]
        exact q⟩
    · cases h
  | .chain o1 o2 a b c, x, k, cf, sx, X, z, W, F, h => by
    simp only [mB] at h
    split at h
    · simp only [Bool.and_eq_true, decide_eq_true_eq, Bool.not_eq_true'] at h
      obtain ⟨rfl, rfl, h1, h2, h3, h4⟩ := h
      exact PT.imp (s_tchain o1 o2 F.units (mE_ok a F h1) (mE_ok b F h2) (mE_ok c F h3) h4) fun σ H Q ⟨ρ, S, G, μ, hE, hS, q⟩ => ⟨ρ, S, G, μ, hE, hS, by
        exact (congrArg (fun r => Post X.K X.mg z W σ G μ H r fun b S' G' μ' H' => Q b H') (tchain_eq (sx := sx) (o1 := o1) (o2 := o2) (a := a) (b := b) (c := c) ρ S)).mpr q⟩
    · cases h
  | .not b, x, k, cf, sx, X, z, W, F, h => by
    simp only [mB] at h
    split at h
    · simp only [Bool.and_eq_true, decide_eq_true_eq] at h
      obtain ⟨rfl, h1⟩ := h
      exact s_tnot (mB_ok b F h1)
    · cases h
  | .bool b bs, x, k, cf, sx, X, z, W, F, h => by
    simp only [mB] at h
    split at h
    · simp only [Bool.and_eq_true, decide_eq_true_eq, Bool.not_eq_true'] at h
      obtain ⟨rfl, h1, h2⟩ := h
      exact ((mBs_ok bs F h1).bool b h2).pt
    · cases h
theorem mBs_ok : ∀ (bs : Bs) {xs : List Expr} {k : Nat} {cf : Cf} {sx : Sx} {X : Cx} {z : Kz} {W : WX}, Fit tb Tt k cf sx X z W → mBs tb cf bs xs = true → FaB sx X z W bs xs
  | .nil, xs, k, cf, sx, X, z, W, F, h => by
    cases xs with
    | nil => rfl
    | cons _ _ => simp [mBs] at h
  | .cons e es, xs, k, cf, sx, X, z, W, F, h => by
    cases xs with
    | nil => simp [mBs] at h
    | cons x xs =>
      simp only [mBs, Bool.and_eq_true] at h
      exact ⟨x, xs, rfl, mB_ok e F h.1, mBs_ok es F h.2⟩
theorem mFs_ok : ∀ (bs : Bs) {xs : List Expr} {k : Nat} {cf : Cf} {sx : Sx} {X : Cx} {z : Kz} {W : WX}, Fit tb Tt k cf sx X z W → mFs tb cf bs xs = true → PTs X xs (TT' X z W (denT2 sx bs))
  | .nil, xs, k, cf, sx, X, z, W, F, h => by
    cases xs with
    | nil => exact pts_nil'
    | cons _ _ => simp [mFs] at h
  | .cons b bs, xs, k, cf, sx, X, z, W, F, h => by
    simp only [mFs] at h
    split at h
    · exact pts_one' (mB_ok b F h)
    · cases h
theorem mI_ok : ∀ (i : I) {tg x : Expr} {k : Nat} {cf : Cf} {sx : Sx} {X : Cx} {z : Kz} {W : WX}, Fit tb Tt k cf sx X z W → mI tb cf i tg x = true → PI X tg x (TI' X z W (denI sx i))
  | .seq e, tg, x, k, cf, sx, X, z, W, F, h => si_seq (mE_ok e F (by simpa [mI] using h))
  | .range es, tg, x, k, cf, sx, X, z, W, F, h => by
    simp only [mI] at h
    split at h
    · simp only [Bool.and_eq_true, Bool.or_eq_true, decide_eq_true_eq] at h
      obtain ⟨rfl, h1, h2, h3, h4, h5⟩ := h
      rcases range_len (mEs_ok es F h3) h5 with ⟨e, x, rfl, rfl, he⟩ | ⟨e, x, e2, x2, rfl, rfl, he, he2⟩
      · exact si_range1 (F.gl h1) (F.free h2) he (by simpa using h4)
      · simp only [List.all_cons, List.all_nil, Bool.and_eq_true, and_true] at h4
        exact si_range2 (F.gl h1) (F.free h2) he he2 h4.1 h4.2
    · cases h
  | .enum e, tg, x, k, cf, sx, X, z, W, F, h => by
    simp only [mI] at h
    split at h
    · simp only [Bool.and_eq_true, decide_eq_true_eq] at h
      obtain ⟨h0, rfl, h1, h2, h3, h4⟩ := h
      cases tg with
      | Tuple elts kk tp => exact si_enum (F.gl h1) (F.free h2) (mE_ok e F h3) h4
      | _ => cases h0
    · cases h
  | .zip a b, tg, x, k, cf, sx, X, z, W, F, h => by
    simp only [mI] at h
    split at h
    · simp only [Bool.and_eq_true, decide_eq_true_eq] at h
      obtain ⟨h0, rfl, h1, h2, h3, h4, h5, h6⟩ := h
      cases tg with
      | Tuple elts kk tp => exact si_zip (F.gl h1) (F.free h2) (mE_ok a F h3) (mE_ok b F h4) h5 h6
      | _ => cases h0
    · cases h
  | .items _, tg, x, k, cf, sx, X, z, W, F, h => by simp [mI] at h
end
end
end CW
end

section
set_option Elab.async false
set_option linter.all false
set_option maxRecDepth 100000
set_option maxHeartbeats 4000000
/-! The matcher: statements. -/
namespace CW
open PySem PySem.Spec PyProof.Rows L2

/-! ### targets of an assignment -/
mutual
def mTg (tb : Tab) (cf : Cf) : T → Expr → Bool
  | .name i, x => match x with
    | .Name y _ => decide (cf.N[i]? = some y) && (isLoc cf.sc y && cf.st y)
    | _ => false
  | .tup ts, x => match x with
    | .Tuple xs _ _ => mTgs tb cf ts xs && (xs.all notStar && !cf.hot)
    | _ => false
  | .sub o i, x => match x with
    | .Subscript l r _ => mE tb cf o l && (mE tb cf i r && plainIxB r)
    | _ => false
/-- within a tuple: names and tuples of names -/
def mTgs (tb : Tab) (cf : Cf) : Ts → List Expr → Bool
  | .nil, xs => match xs with
    | [] => true
    | _ => false
  | .cons t ts, xs => match xs with
    | x :: xs => (match t with
      | .sub _ _ => false
      | _ => true) && (mTg tb cf t x && mTgs tb cf ts xs)
    | _ => false
end
def swapNo (cf : Cf) (tg e : Expr) : Bool := (match tg, e with
  | .Tuple ts _ _, .Tuple _ _ _ => !(ts.length == 2 || ts.length == 3) || swN cf.sc ts
  | .List _ _, _ => false
  | _, _ => true)
theorem swapNo_of {cf : Cf} {tg e : Expr} (h : swapNo cf tg e = true) {env : PySem.Env} (hs : env.scope = cf.sc) : swappedStores [tg] e env = pure none := by
  cases tg with
  | Tuple ts k p =>
    cases e with
    | Tuple vs k2 p2 =>
      have h : (!(ts.length == 2 || ts.length == 3) || swN cf.sc ts) = true := h
      rw [Bool.or_eq_true] at h
      rcases h with h | h
      · exact stores_many (by simpa using h) env
      · exact stores_cells (by rw [hs]; exact h)
    | _ => exact stores_no (.inr rfl) env
  | List ts p => simp [swapNo] at h
  | _ => exact stores_no (.inl rfl) env
/-- a comprehension's value stored under a name: with the stores exchanged? -/
def swapC (cf : Cf) (tg e : Expr) : Bool := match tg, e with
  | .Name y py, .ListComp _ _ scope pos => swB cf.sc scope y py pos
  | .Name y py, .DictComp _ _ _ scope pos => swB cf.sc scope y py pos
  | _, _ => false
def noSetGen : Expr → Bool
  | .SetComp _ _ _ _ | .GeneratorExp _ _ _ _ => false
  | _ => true
theorem swapC_of {cf : Cf} {tg e : Expr} (h : swapC cf tg e = false) (hn : noSetGen e = true) {env : PySem.Env} (hk : env.scope.kind = .function) (hs : env.scope = cf.sc) (l : Nat) : swapsWithSole [tg] e l env = pure false := by
  show swapsWith e (some tg) l env = _
  cases e with
  | ListComp a b c d =>
    cases tg with
    | Name y py => rw [swaps_lc hk, hs, show swB cf.sc c y py d = false from h]
    | _ => rfl
  | DictComp a a2 b c d =>
    cases tg with
    | Name y py => rw [swaps_dc hk, hs, show swB cf.sc c y py d = false from h]
    | _ => rfl
  | SetComp _ _ _ _ => cases hn
  | GeneratorExp _ _ _ _ => cases hn
  | _ => rfl
def isLocal (sc : Scope) (x : Str) : Bool := decide (sc.names.lookup x = some .local)
def cap (cf : Cf) : Cf := { cf with hot := true, lamQ := false, clo := false }
def mNm (cf : Cf) (i : Nat) : Expr → Option (Str × Pos)
  | .Name x p => if decide (cf.N[i]? = some x) && isLocal cf.sc x then some (x, p) else none
  | _ => none
mutual
def mS (tb : Tab) (cf : Cf) : S → Stmt → Bool
  | .asg t e, st => match st with
    | .Assign [tg] x _ => mE tb cf e x && (swapNo cf tg x && (noSetGen x && (notStar tg && (if swapC cf tg x then (match t, tg with
      | .name i, .Name y _ => decide (cf.N[i]? = some y)
      | _, _ => false) else mTg tb cf t tg))))
    | _ => false
  | .par is es, st => match st with
    | .Assign [.Tuple ts _ _] (.Tuple xs _ _) _ => !cf.hot && (mEs tb cf es xs && (xs.all notStar && (match is, ts, xs with
      | [i, j], [t1, t2], [a, b] => (match mNm cf i t1, mNm cf j t2 with
        | some (x, px), some (y, py) => (py.line == px.line) && (!(y == x) && (!(foldedForSure 8 a && foldedForSure 8 b) && !(constantsAlone 8 a && constantsAlone 8 b)))
        | _, _ => false)
      | [i, j, l], [t1, t2, t3], [a, b, c] => (match mNm cf i t1, mNm cf j t2, mNm cf l t3 with
        | some (x, px), some (y, py), some (w, pw) => (py.line == px.line) && ((pw.line == px.line) && (!(y == x) && (!(w == x) && (!(w == y) && (!(foldedForSure 8 a && (foldedForSure 8 b && foldedForSure 8 c)) && !(constantsAlone 8 a && (constantsAlone 8 b && constantsAlone 8 c)))))))
        | _, _, _ => false)
      | _, _, _ => false)))
    | _ => false
  | .aug _ _ _, _ => false
  | .ex e, st => match st with
    | .Expr x _ => mE tb cf e x && !(isComp x)
    | _ => false
  | .ret e, st => match st with
    | .Return (some x) _ => mE tb cf e x
    | _ => false
  | .ret0, st => match st with
    | .Return none _ => true
    | _ => false
  | .iff c a b, st => match st with
    | .If x xs ys _ => mB tb cf c x && (mSs tb cf a xs && mSs tb cf b ys)
    | _ => false
  | .whl c b, st => match st with
    | .While x xs [] _ => !cf.hot && (mB tb cf c x && mSs tb cf b xs)
    | _ => false
  | .for_ t i b, st => match st with
    | .For tg x xs [] _ => !cf.hot && (mTg tb cf t tg && (mI tb cf i tg x && (notSet x && mSs tb cf b xs)))
    | _ => false
  | .raise x es, st => match es, st with
    | .nil, .Raise (some (.Call (.Name y _) [] [] _)) none _ => !cf.hot && (decide (x = y) && (isGl cf y && (nameOk y && tb.excs.contains y)))
    | _, _ => false
  | .try_ b c i h, st => match st with
    | .Try xs [.ExceptHandler (some k) nm (y :: ys) _] [] [] _ => !cf.hot && (mCls tb cf c k && (mSs tb cf b xs && (mSs tb (cap cf) h (y :: ys) && (match i, nm with
      | some i, some n => decide (cf.N[i]? = some n) && isLocal cf.sc n
      | none, none => true
      | _, _ => false))))
    | _ => false
  | .pass, st => match st with
    | .Pass _ => true
    | .Expr (.Constant (.str _) _ _) _ => true
    | _ => false
  | .brk, st => match st with
    | .Break _ => true
    | _ => false
  | .cont, st => match st with
    | .Continue _ => true
    | _ => false
  | .frz _, _ => false
def mSs (tb : Tab) (cf : Cf) : Ss → List Stmt → Bool
  | .nil, xs => match xs with
    | [] => true
    | _ => false
  | .cons s ss, xs => match s with
    | .frz _ => !cf.hot && mSs tb cf ss xs
    | s => match xs with
      | x :: xs => mS tb cf s x && mSs tb cf ss xs
      | _ => false
end
end CW
end

section
set_option Elab.async false
set_option linter.all false
set_option maxRecDepth 100000
set_option maxHeartbeats 4000000
/-! The matcher is right: statements. -/
namespace CW
open PySem PySem.Spec PyProof.Rows L2

/-- around statements -/
structure FitS (tb : Tab) (T : List (Addr × Str)) (k : Nat) (cf : Cf) (sx : Sx) (X : Cx) (z : Kz) (W : WX) : Prop where
  fit : Fit tb T k cf sx X z W
  kind : X.env.scope.kind = .function
  body : cf.hot = false → X.stack = X.env :: X.outer ∧ X.env.frame = some X.env.locals ∧ PassesOwn (model X.prog X.w) X.A X.env X.xe
  cv : cf.clo = true → ∀ (W : WX) (pn : List (Addr × Obj)) (xe : Value → Shared → Prop), Takes (X.tr pn xe) W → ∀ (a : Str) (p1 p2 : Pos), cf.N[0]? = some a → PE (X.tr pn xe) (.Call (.Name a p1) [] [] p2) (TEx X.K X.mg z W (den sx (.callv 0)))
section
variable {tb : Tab} {T : List (Addr × Str)} {k : Nat} {cf : Cf} {sx : Sx} {X : Cx} {z : Kz} {W : WX}
/-- within a try's body -/
theorem FitS.tr (F : FitS tb T k cf sx X z W) (hh : cf.hot = false) (W' : WX) (pn : List (Addr × Obj)) (xe : Value → Shared → Prop) (tk : Takes (X.tr pn xe) W') (po : PassesOwn (model X.prog X.w) X.A X.env xe) : FitS tb T k cf sx (X.tr pn xe) z W' where
  fit := { facts := F.fit.facts, room := F.fit.room, units := F.fit.units, calls := F.fit.calls, nd := F.fit.nd, N := F.fit.N, sc := F.fit.sc, st := F.fit.st, calm := F.fit.calm, tk := tk, zT := F.fit.zT, zx := F.fit.zx, xa := xa_none (F.fit.zx hh), zc := F.fit.zc
           cv := fun hc a p1 p2 hn => F.cv hc W' pn xe tk a p1 p2 hn
           lam := fun h => by
            obtain ⟨l0, l1, j, e, l2, l3⟩ := F.fit.lam h
            exact ⟨l0, l1, j, e, l2, fun f x a b => ⟨(l3 f x a b).ex⟩⟩ }
  kind := F.kind
  body := fun h => ⟨(F.body h).1, (F.body h).2.1, po⟩
  cv := fun hc W2 pn2 xe2 tk2 a p1 p2 hn => F.cv hc W2 pn2 xe2 tk2 a p1 p2 hn
/-- within an except suite -/
theorem FitS.suite (F : FitS tb T k cf sx X z W) (a : Addr) (oe : Obj) (x : Str) (C : Addr) (d : Option Addr) (pn : List (Addr × Obj)) (hz : Zc (.ref C) d oe) (hf : ∃ vs, oe.data = .fields vs) (hm : X.mg x = some (.ref C)) : FitS tb T k (cap cf) sx (X.suite a ((a, oe) :: pn)) (z.hot a x d) noW where
  fit := { facts := F.fit.facts, room := (fun h => by cases h), units := F.fit.units, calls := F.fit.calls, nd := F.fit.nd, N := F.fit.N, sc := F.fit.sc, st := F.fit.st, calm := (fun h => by cases h), tk := LamX.takes0, zT := F.fit.zT, zx := (fun h => by cases h)
           xa := fun a' x' d' e => by
            cases e
            exact ⟨oe, C, List.mem_cons_self, hz, hf, hm⟩
           zc := F.fit.zc
           cv := (fun h => by cases h)
           lam := (fun h => by cases h) }
  kind := F.kind
  body := fun h => by cases h
  cv := fun h => by cases h
variable {k' : Nat}
mutual
theorem mTg_ok (F : FitS tb T k cf sx X z W) : ∀ (t : CW.T) {x : Expr}, mTg tb cf t x = true → PG X x (TG' X z W (asgT sx t))
  | .name i, x, h => by
    simp only [mTg] at h
    split at h
    · simp only [Bool.and_eq_true, decide_eq_true_eq] at h
      exact sg_name F.fit.nd (by rw [F.fit.N]; exact h.1) (F.fit.loc h.2.1) (F.fit.st _ h.2.2)
    · cases h
  | .tup ts, x, h => by
    simp only [mTg] at h
    split at h
    · rename_i xs kk p
      simp only [Bool.and_eq_true, Bool.not_eq_true'] at h
      obtain ⟨h1, h2, h3⟩ := h
      obtain ⟨l1, l2⟩ := assignEach_len X.env h2
      obtain ⟨m1, m2⟩ := mTgs_len ts h1
      exact sg_tup (F.fit.calm h3) (mTgs_ok F ts h1 h2) (fun ps ρ S hb hx => m1 ps ρ S hb) m2 l1 l2
    · cases h
  | .sub o i, x, h => by
    simp only [mTg] at h
    split at h
    · simp only [Bool.and_eq_true] at h
      exact sg_sub (Nat.lt_of_le_of_lt (by omega) F.fit.units) (mE_ok o F.fit h.1) (mE_ok i F.fit h.2.1) fun v => assign_sub h.2.2 X.env v
    · cases h
theorem mTgs_ok (F : FitS tb T k cf sx X z W) : ∀ (ts : Ts) {xs : List Expr}, mTgs tb cf ts xs = true → xs.all notStar = true → PGs X xs (TGs' X z W (asgTs sx ts))
  | .nil, xs, h, _ => by
    cases xs with
    | nil => exact sg_nil
    | cons _ _ => simp [mTgs] at h
  | .cons t ts, xs, h, hs => by
    cases xs with
    | nil => simp [mTgs] at h
    | cons x xs =>
      simp only [mTgs, Bool.and_eq_true] at h
      rw [List.all_cons, Bool.and_eq_true] at hs
      exact sg_cons (mTg_ok F t h.2.1) (mTgs_ok F ts h.2.2 hs.2) (by rw [assignEach_cons hs.1]; rfl)
/-- a tuple's targets: no exception; as many values -/
theorem mTg_calm : ∀ (t : CW.T) {x : Expr}, (∀ o i, t ≠ .sub o i) → mTg tb cf t x = true → ∀ (p : PV) (ρ : CW.Env) (S : Store) (c : Exn) (ρ' : CW.Env) (S' : Store), asgT sx t p ρ S ≠ .exc c ρ' S'
  | .name i, x, _, h => fun p ρ S c ρ' S' e => by simp only [asgT] at e; cases e
  | .tup ts, x, _, h => fun p ρ S c ρ' S' e => by
    simp only [mTg] at h
    split at h
    · simp only [Bool.and_eq_true] at h
      cases p with
      | tup vs => simp only [asgT] at e; exact (mTgs_len ts h.1).2 _ _ _ _ _ _ e
      | _ => simp only [asgT] at e; cases e
    · cases h
  | .sub o i, x, hn, h => absurd rfl (hn o i)
theorem mTgs_len : ∀ (ts : Ts) {xs : List Expr}, mTgs tb cf ts xs = true → (∀ (ps : List PV) (ρ : CW.Env) (S : Store), asgTs sx ts ps ρ S ≠ .bad → ps.length = xs.length) ∧ ∀ (ps : List PV) (ρ : CW.Env) (S : Store) (c : Exn) (ρ' : CW.Env) (S' : Store), asgTs sx ts ps ρ S ≠ .exc c ρ' S'
  | .nil, xs, h => by
    cases xs with
    | cons _ _ => simp [mTgs] at h
    | nil =>
      refine ⟨fun ps ρ S hb => ?_, fun ps ρ S c ρ' S' e => ?_⟩
      · cases ps with
        | nil => rfl
        | cons _ _ => simp [asgTs] at hb
      · cases ps <;> simp [asgTs] at e
  | .cons t ts, xs, h => by
    cases xs with
    | nil => simp [mTgs] at h
    | cons x xs =>
      simp only [mTgs, Bool.and_eq_true] at h
      have hn : ∀ o i, t ≠ .sub o i := fun o i e => by subst e; cases h.1
      obtain ⟨i1, i2⟩ := mTgs_len ts h.2.2
      have i3 := mTg_calm t hn h.2.1
      refine ⟨fun ps ρ S hb => ?_, fun ps ρ S c ρ' S' e => ?_⟩
      · cases ps with
        | nil => simp [asgTs] at hb
        | cons p ps =>
          simp only [asgTs] at hb
          have j := asgT_noJump (sx := sx) t p ρ S
          cases e1 : asgT sx t p ρ S with
          | next ρ1 S1 =>
            rw [e1] at hb
            rw [List.length_cons, List.length_cons, i1 ps ρ1 S1 hb]
          | exc c ρ1 S1 => exact absurd e1 (i3 _ _ _ _ _ _)
          | bad => rw [e1] at hb; exact absurd rfl hb
          | _ => rw [e1] at j; cases j
      · cases ps with
        | nil => simp [asgTs] at e
        | cons p ps =>
          simp only [asgTs] at e
          have j := asgT_noJump (sx := sx) t p ρ S
          cases e1 : asgT sx t p ρ S with
          | next ρ1 S1 => rw [e1] at e; exact i2 _ _ _ _ _ _ e
          | exc c ρ1 S1 => exact i3 _ _ _ _ _ _ e1
          | bad => rw [e1] at e; cases e
          | _ => rw [e1] at j; cases j
end
/-- name = a comprehension whose stores are exchanged -/
theorem setC_ok (F : FitS tb T k cf sx X z W) {e : E} {x : Expr} {i : Nat} {y : Str} {py pos : Pos} (h : mE tb cf e x = true) (hs : swapC cf (.Name y py) x = true) (hi : cf.N[i]? = some y) : PS X (.Assign [.Name y py] x pos) (TS' X z W fun ρ S => (den sx e ρ S).st ρ fun v S => asgT sx (.name i) v ρ S) := by
  have hn : X.N[i]? = some y := by rw [F.fit.N]; exact hi
  cases x with
  | ListComp ex gens scope lp =>
    have hs : swB cf.sc scope y py lp = true := hs
    have hyl : X.env.scope.names.lookup y = some .local := by
      unfold swB at hs
      simp only [Bool.and_eq_true, decide_eq_true_eq] at hs
      rw [F.fit.sc]; exact hs.1.1
    have hw : swapsWith (.ListComp ex gens scope lp) (some (.Name y py)) pos.line X.env = pure true := by rw [swaps_lc F.kind, F.fit.sc, hs]
    cases e with
    | comp m own elt t i' ifs =>
      simp only [mE] at h
      split at h
      · rename_i ex' tg it fs zz scope' lp' heq
        cases heq
        simp only [Bool.and_eq_true, decide_eq_true_eq] at h
        obtain ⟨rfl, h1, h2, h3, h4, h5, h6, h7⟩ := h
        obtain ⟨o1, o2, o3⟩ := compOk_of F.fit h1
        refine ss_setC (ps_setLc (own := ownP cf.N own) (wi := TI' X z W (denI sx i')) (g := TPb X.K z t) (tt := TT' X z noW (denT2 sx ifs)) (te := TE' X z noW (den sx elt)) (F.fit.calm o1) F.fit.nd hn hyl hw (mI_ok i' F.fit h4) o3 (fun s H C cl fp => mT_ok (F.fit.blk o1 s H C cl fp) z h3) (fun s H C cl fp => mFs_ok ifs (F.fit.blk o1 s H C cl fp) h6) (fun s H C cl fp => mE_ok elt (F.fit.blk o1 s H C cl fp) h7) (fun x => folded_of h5 X.env x)) fun σ H Q q => ?_
        refine t_comp (t := t) m (by rw [o2]; exact h2) σ H Q ?_
        rw [o2]
        exact q
      · cases h
    | comp2 m own elt t i' ifs own2 t2 i2 ifs2 =>
      simp only [mE] at h
      split at h
      · rename_i ex' tg it fs zz tg2 it2 fs2 zz2 scope' lp' heq
        cases heq
        simp only [Bool.and_eq_true, decide_eq_true_eq] at h
        obtain ⟨rfl, rfl, h1, h2, h2a, h2b, h3, h4, h5, h6, h7, h8, h9, h10, h11⟩ := h
        obtain ⟨o1, o2, o3⟩ := compOk_of F.fit h1
        have hv : ∀ j ∈ own2, j ∈ (ownP cf.N own).map (·.2) := fun j hj => by
          rw [o2]
          have := List.all_eq_true.mp h2a j hj
          simpa using this
        refine ss_setC (ps_setLc2 (own := ownP cf.N own) (vs1 := own2) (wi := TI' X z W (denI sx i')) (g := TPb X.K z t) (tt := TT' X z noW (denT2 sx ifs)) (wi1 := TI' X z noW (denI sx i2)) (g1 := TPb X.K z t2) (tt1 := TT' X z noW (denT2 sx ifs2)) (te := TE' X z noW (den sx elt)) (F.fit.calm o1) F.fit.nd hn hyl hw (mI_ok i' F.fit h4) o3 hv (fun s H C cl fp => mT_ok (F.fit.blk o1 s H C cl fp) z h3) (fun s H C cl fp => mFs_ok ifs (F.fit.blk o1 s H C cl fp) h6) (fun s H C cl fp => mI_ok i2 (F.fit.blk o1 s H C cl fp) h8)
          (fun s H C cl fp => mT_ok (F.fit.blk o1 s H C cl fp) z h7) (fun s H C cl fp => mFs_ok ifs2 (F.fit.blk o1 s H C cl fp) h10) (fun s H C cl fp => mE_ok elt (F.fit.blk o1 s H C cl fp) h11) (fun x => folded_of h5 X.env x) (fun env x => folded_of h9 env x)) fun σ H Q q => ?_
        refine t_comp2 (t := t) (t1 := t2) m (by rw [o2]; exact h2) h2b σ H Q ?_
        rw [o2]
        exact q
      · cases h
    | const c => simp only [mE] at h; cases c <;> cases h
    | _ => simp [mE] at h
  | DictComp kx vx gens scope lp =>
    have hs : swB cf.sc scope y py lp = true := hs
    have hyl : X.env.scope.names.lookup y = some .local := by
      unfold swB at hs
      simp only [Bool.and_eq_true, decide_eq_true_eq] at hs
      rw [F.fit.sc]; exact hs.1.1
    have hw : swapsWith (.DictComp kx vx gens scope lp) (some (.Name y py)) pos.line X.env = pure true := by rw [swaps_dc F.kind, F.fit.sc, hs]
    cases e with
    | dcomp m own ke ve t i' ifs =>
      simp only [mE] at h
      split at h
      · rename_i kx' vx' tg it fs zz scope' lp' heq
        cases heq
        simp only [Bool.and_eq_true, decide_eq_true_eq] at h
        obtain ⟨rfl, h1, h2, h3, h4, h5, h6, h7, h8⟩ := h
        obtain ⟨o1, o2, o3⟩ := compOk_of F.fit h1
        refine ss_setC (ps_setDc (own := ownP cf.N own) (wi := TI' X z W (denI sx i')) (g := TPb X.K z t) (tt := TT' X z noW (denT2 sx ifs)) (tk := TE' X z noW (den sx ke)) (tv := TE' X z noW (den sx ve)) (F.fit.calm o1) F.fit.nd hn hyl hw (mI_ok i' F.fit h4) o3 (fun s H C cl fp => mT_ok (F.fit.blk o1 s H C cl fp) z h3) (fun s H C cl fp => mFs_ok ifs (F.fit.blk o1 s H C cl fp) h6) (fun s H C cl fp => mE_ok ke (F.fit.blk o1 s H C cl fp) h7) (fun s H C cl fp => mE_ok ve (F.fit.blk o1 s H C cl fp) h8) (fun x => folded_of h5 X.env x)) fun σ H Q q => ?_
        refine t_dcomp (t := t) m (by rw [o2]; exact h2) σ H Q ?_
        rw [o2]
        exact q
      · cases h
    | const c => simp only [mE] at h; cases c <;> cases h
    | _ => simp [mE] at h
  | _ => cases hs
end
section
variable {tb : Tab} {T : List (Addr × Str)}
theorem mNm_of {cf : Cf} {i : Nat} {t : Expr} {x : Str} {p : Pos} (h : mNm cf i t = some (x, p)) : t = .Name x p ∧ cf.N[i]? = some x ∧ cf.sc.names.lookup x = some .local := by
  unfold mNm at h
  split at h
  · split at h
    · rename_i hc
      cases h
      simp only [Bool.and_eq_true, decide_eq_true_eq, isLocal] at hc
      exact ⟨rfl, hc⟩
    · cases h
  · cases h
mutual
theorem mS_ok : ∀ (s : S) {st : Stmt} {k : Nat} {cf : Cf} {sx : Sx} {X : Cx} {z : Kz} {W : WX}, FitS tb T k cf sx X z W → mS tb cf s st = true → PS X st (TS' X z W (exec sx s))
  | .asg t e, st, k, cf, sx, X, z, W, F, h => by
    simp only [mS] at h
    split at h
    · rename_i tg x p
      simp only [Bool.and_eq_true] at h
      obtain ⟨h1, h2, h3, h4, h5⟩ := h
      split at h5
      · rename_i hs
        split at h5
        · exact setC_ok F h1 hs (of_decide_eq_true h5)
        · cases h5
      · rename_i hs
        have hs : swapC cf tg x = false := by simpa using hs
        exact ss_asg (mE_ok e F.fit h1) (mTg_ok F t h5) (swapC_of hs h3 F.kind F.fit.sc p.line) (swapNo_of h2 F.fit.sc) (by rw [assignEach_cons h4]; rfl)
    · cases h
  | .par is es, st, k, cf, sx, X, z, W, F, h => by
    simp only [mS] at h
    split at h
    · rename_i ts kt pt xs k2 p2 p
      simp only [Bool.and_eq_true, Bool.not_eq_true'] at h
      obtain ⟨h1, h2, h3, h4⟩ := h
      have ha := mEs_ok es F.fit h2
      split at h4
      · rename_i i j t1 t2 a b
        split at h4
        · rename_i x px y py e1 e2
          obtain ⟨rfl, i1, i2⟩ := mNm_of e1
          obtain ⟨rfl, j1, j2⟩ := mNm_of e2
          simp only [Bool.and_eq_true, Bool.not_eq_true'] at h4
          obtain ⟨g1, g2, g3, g4⟩ := h4
          simp only [List.all_cons, List.all_nil, Bool.and_eq_true, and_true] at h3
          have hij : i ≠ j := fun e => by
            subst e
            rw [i1] at j1
            cases j1
            simp at g2
          have hl : Len (denL sx es) 2 := by
            have := denL_len (sx := sx) es
            rw [ha.len] at this
            exact this
          exact ss_par2 (F.fit.calm h1) F.fit.nd (by rw [F.fit.N]; exact i1) (by rw [F.fit.N]; exact j1) hij (by rw [F.fit.sc]; exact i2) (by rw [F.fit.sc]; exact j2) (ha.pa (by simp [h3])) hl
            (stores_two F.kind (by rw [F.fit.sc]; exact i2) (by rw [F.fit.sc]; exact j2) g1 g2 h3.1 h3.2 g3 g4)
        · cases h4
      · rename_i i j l t1 t2 t3 a b c
        split at h4
        · rename_i x px y py w pw e1 e2 e3
          obtain ⟨rfl, i1, i2⟩ := mNm_of e1
          obtain ⟨rfl, j1, j2⟩ := mNm_of e2
          obtain ⟨rfl, l1, l2⟩ := mNm_of e3
          simp only [Bool.and_eq_true, Bool.not_eq_true'] at h4
          obtain ⟨g1, g2, g3, g4, g5, g6, g7⟩ := h4
          simp only [List.all_cons, List.all_nil, Bool.and_eq_true, and_true] at h3
          have hij : i ≠ j := fun e => by subst e; rw [i1] at j1; cases j1; simp at g3
          have hil : i ≠ l := fun e => by subst e; rw [i1] at l1; cases l1; simp at g4
          have hjl : j ≠ l := fun e => by subst e; rw [j1] at l1; cases l1; simp at g5
          have hl : Len (denL sx es) 3 := by
            have := denL_len (sx := sx) es
            rw [ha.len] at this
            exact this
          exact ss_par3 (F.fit.calm h1) F.fit.nd (by rw [F.fit.N]; exact i1) (by rw [F.fit.N]; exact j1) (by rw [F.fit.N]; exact l1) hij hil hjl (by rw [F.fit.sc]; exact i2) (by rw [F.fit.sc]; exact j2) (by rw [F.fit.sc]; exact l2) (ha.pa (by simp [h3])) hl
            (stores_three F.kind (by rw [F.fit.sc]; exact i2) (by rw [F.fit.sc]; exact j2) (by rw [F.fit.sc]; exact l2) g1 g2 g3 g4 g5 h3.1 h3.2.1 h3.2.2 g6 g7)
        · cases h4
      · cases h4
    · cases h
  | .aug _ _ _, st, k, cf, sx, X, z, W, F, h => by simp [mS] at h
  | .ex e, st, k, cf, sx, X, z, W, F, h => by
    simp only [mS] at h
    split at h
    · simp only [Bool.and_eq_true, Bool.not_eq_true'] at h
      exact ss_ex (mE_ok e F.fit h.1) (swaps_no h.2 _ _ _)
    · cases h
  | .ret e, st, k, cf, sx, X, z, W, F, h => by
    simp only [mS] at h
    split at h
    · exact ss_ret (mE_ok e F.fit h)
    · cases h
  | .ret0, st, k, cf, sx, X, z, W, F, h => by
    simp only [mS] at h
    split at h
    · exact ss_ret0
    · cases h
  | .iff c a b, st, k, cf, sx, X, z, W, F, h => by
    simp only [mS] at h
    split at h
    · simp only [Bool.and_eq_true] at h
      exact ss_if (mB_ok c F.fit h.1) (mSs_ok a F h.2.1) (mSs_ok b F h.2.2)
    · cases h
  | .whl c b, st, k, cf, sx, X, z, W, F, h => by
    simp only [mS] at h
    split at h
    · simp only [Bool.and_eq_true, Bool.not_eq_true'] at h
      exact ss_while (F.body h.1).2.2 (mB_ok c F.fit h.2.1) (mSs_ok b F h.2.2)
    · cases h
  | .for_ t i b, st, k, cf, sx, X, z, W, F, h => by
    simp only [mS] at h
    split at h
    · simp only [Bool.and_eq_true, Bool.not_eq_true'] at h
      obtain ⟨h1, h2, h3, h4, h5⟩ := h
      exact ss_for (F.body h1).2.2 (F.fit.calm h1) (mI_ok i F.fit h3) (mTg_ok F t h2) (mSs_ok b F h5) (fun x => folded_of h4 X.env x)
    · cases h
  | .raise x es, st, k, cf, sx, X, z, W, F, h => by
    simp only [mS] at h
    split at h
    · simp only [Bool.and_eq_true, decide_eq_true_eq, Bool.not_eq_true'] at h
      obtain ⟨h1, rfl, h2, h3, h4⟩ := h
      exact ss_raise0 (F.fit.calm h1) F.fit.tk (F.fit.facts.exc _ h4) (F.fit.gl h2) (nameOk_of h3).1
    · cases h
  | .try_ b c i hd, st, k, cf, sx, X, z, W, F, h => by
    simp only [mS] at h
    split at h
    · rename_i xs kx nm y ys p1 p2
      simp only [Bool.and_eq_true, Bool.not_eq_true'] at h
      obtain ⟨h1, h2, h3, h4, h5⟩ := h
      obtain ⟨p, rfl, g1, g2, g3, v, u, g4⟩ := mCls_ok F.fit h2
      obtain ⟨b1, b2, b3⟩ := F.body h1
      have hnm : Names X (clName c) u := by
        refine ⟨g1, g3, ?_⟩
        cases c with
        | bt n =>
          obtain ⟨_, rfl⟩ := g4
          exact .inr ⟨g2 n rfl, boot_bt n, (bt_name n).1⟩
        | own x =>
          obtain ⟨C, m1, _, rfl⟩ := g4
          exact .inl m1
      have hb := fun (W' : WX) (pn : List (Addr × Obj)) (xe : Value → Shared → Prop) (tk : Takes (X.tr pn xe) W') (po : PassesOwn (model X.prog X.w) X.A X.env xe) => mSs_ok b (F.tr h1 W' pn xe tk po) h3
      have hs := fun (a : Addr) (oe : Obj) (x : Str) (C : Addr) (d : Option Addr) (pn : List (Addr × Obj)) (hz : Zc (.ref C) d oe) (hf : ∃ vs, oe.data = .fields vs) (hm : X.mg x = some (.ref C)) => mSs_ok hd (F.suite a oe x C d pn hz hf hm) h4
      split at h5
      · rename_i i n
        simp only [Bool.and_eq_true, decide_eq_true_eq, isLocal] at h5
        exact ss_try_as (fb := execL sx b) (fh := execL sx hd) b1 b2 F.fit.nd (by rw [F.fit.N]; exact h5.1) (show X.env.scope.names.lookup n = _ by rw [F.fit.sc]; exact h5.2) hnm F.fit.tk (F.fit.zx h1) F.fit.facts.subOk g4 hb hs
      · exact ss_try_only (fb := execL sx b) (fh := execL sx hd) b1 b2 hnm F.fit.tk (F.fit.zx h1) F.fit.facts.subOk g4 hb hs
      · cases h5
    · cases h
  | .pass, st, k, cf, sx, X, z, W, F, h => by
    simp only [mS] at h
    split at h
    · exact ss_pass
    · exact ss_doc
    · cases h
  | .brk, st, k, cf, sx, X, z, W, F, h => by
    simp only [mS] at h
    split at h
    · exact ss_brk
    · cases h
  | .cont, st, k, cf, sx, X, z, W, F, h => by
    simp only [mS] at h
    split at h
    · exact ss_cont
    · cases h
  | .frz _, st, k, cf, sx, X, z, W, F, h => by simp [mS] at h
theorem mSs_ok : ∀ (ss : Ss) {sts : List Stmt} {k : Nat} {cf : Cf} {sx : Sx} {X : Cx} {z : Kz} {W : WX}, FitS tb T k cf sx X z W → mSs tb cf ss sts = true → PSs X sts (TS' X z W (execL sx ss))
  | .nil, sts, k, cf, sx, X, z, W, F, h => by
    cases sts with
    | nil => exact ss_nil
    | cons _ _ => simp [mSs] at h
  | .cons s ss, sts, k, cf, sx, X, z, W, F, h => by
    by_cases hf : ∃ i, s = .frz i
    · obtain ⟨i, rfl⟩ := hf
      simp only [mSs, Bool.and_eq_true, Bool.not_eq_true'] at h
      exact ss_frz (mSs_ok ss F h.2)
    · cases sts with
      | nil =>
        exfalso
        cases s <;> first | (simp [mSs] at h; done) | exact hf ⟨_, rfl⟩
      | cons x xs =>
        have h : (mS tb cf s x && mSs tb cf ss xs) = true := by
          cases s <;> first | (simpa only [mSs] using h) | exact absurd ⟨_, rfl⟩ hf
        rw [Bool.and_eq_true] at h
        exact ss_cons (mS_ok s F h.1) (mSs_ok ss F h.2)
end
end
end CW
end

section
set_option Elab.async false
set_option linter.all false
set_option maxRecDepth 100000
set_option maxHeartbeats 4000000
/-! The defs of a text, by their bodies, at every depth. -/
namespace CW
open PySem PySem.Spec PyProof.Rows L2

/-- a def: its name, its statement, its names (parameters first), its parameters, what it does; makes lambdas; takes one -/
structure DefR where
  x : Str
  st : Stmt
  N : List Str
  ps : List Str
  d : Dfn
  lamQ : Bool
  clo : Bool
def DefR.cf (r : DefR) : Cf := { N := r.N, sc := defScope r.st, st := fun _ => true, blk := false, hot := false, lamQ := r.lamQ, clo := r.clo }
def scB (N ps : List Str) (sc : Scope) : Bool := decide (sc.kind = .function) && (!sc.isCoroutine && (!sc.isGenerator && (decide N.Nodup && (decide (N.take ps.length = ps) && (ps.all (fun x => isLoc sc x) && sc.names.all fun y => !decide (y.2 = .free))))))
theorem sc_of {N ps : List Str} {sc : Scope} (h : scB N ps sc = true) : FnScope N ps sc := by
  unfold scB at h
  simp only [Bool.and_eq_true, Bool.not_eq_true', decide_eq_true_eq, decide_eq_false_iff_not, List.all_eq_true] at h
  obtain ⟨h1, h2, h3, h4, h5, h6, h7⟩ := h
  exact ⟨h1, h2, h3, h4, h5, fun x hx => by
    have := h6 x hx
    unfold isLoc at this
    simpa only [Bool.or_eq_true, decide_eq_true_eq] using this, fun y hy => h7 y hy⟩
def okDef (tb : Tab) (r : DefR) : Bool := scB r.N r.ps (defScope r.st) && (decide (r.d.slots = r.N.length) && (decide (r.d.par = r.ps.length) && (mSs tb r.cf r.d.body (defBody r.st) && (!r.clo || (decide (r.ps.length = 1) && (r.ps.all nameOk && !r.lamQ))))))
/-- the defs, as the text's facts tell them -/
structure DefsOk (tb : Tab) (T : List (Addr × Str)) (P : Prog) (defs : List DefR) (K : PySem.W.Frag) (mg : Str → Option Value) (base : Heap) : Prop where
  facts : Facts tb P.sub K mg
  len : tb.fns = defs.map (·.x)
  dfn : P.defs = defs.map (·.d)
  ok : defs.all (okDef tb) = true
  rcv : ∀ f, tb.recv.contains f = true → ∀ r, defs[f]? = some r → r.clo = true
  fn : ∀ (f : Nat) (r : DefR), defs[f]? = some r → ∃ (a : Addr) (fd : FuncData), mg r.x = some (.ref a) ∧ FunD K r.x r.x (defArgs r.st) (defBody r.st) (defScope r.st) [] [] a fd ∧ Binds K fd r.ps []
  lam : ∀ (f : Nat) (r : DefR), defs[f]? = some r → r.lamQ = true → ∀ (a : Addr) (oc : Value) (od : Option Addr) (fd : FuncData) (osl : Array (Option Value)), mg r.x = some (.ref a) → K.lookup a = some ⟨oc, od, .func fd, osl⟩ →
    ∃ c P', LamX.TabB base mg c P' ∧ fd.code = .ref c ∧ (P', (r.x ++ ".<locals>.") ++ "<lambda>") ∈ T ∧ ∀ p ∈ T, p.1 = P' → p.2 = (r.x ++ ".<locals>.") ++ "<lambda>"
theorem fnOk_bad {P : Program} {w : World} {K : PySem.W.Frag} {mg : Str → Option Value} {base : Heap} {CX : CXT} {T : List (Addr × Str)} {k : Nat} {f : Addr} {fd : FuncData} {ps : List Str} {r : List PV → Store → Res PV} (h : ∀ vs S, r vs S = .bad) : FnOk P w K mg base CX k f fd ps (SpF K mg T r) where
  len := fun vs H Q E ⟨qs, S, G, μ, _, _, q⟩ => by rw [h] at q; exact q.elim
  run := fun A outer s H args us vs Q E _ _ _ _ ⟨qs, S, G, μ, _, _, q⟩ => by rw [h] at q; exact q.elim
/-- a def by its body's reading; its code object told -/
theorem def_ok2 {P : Program} {w : World} {K : PySem.W.Frag} {mg : Str → Option Value} {base : Heap} {T : List (Addr × Str)} {x qual : Str} {params : Arguments} {body : List Stmt} {scope : Scope} {f : Addr} {fd : FuncData} {dvs : List V} {kws : List (Str × V)} {N ps : List Str} {k : Nat} {sx : Sx} {d : Dfn}
    (F : FunD K x qual params body scope dvs kws f fd) (Sc : FnScope N ps scope) (hN : d.slots = N.length) (hp : d.par = ps.length)
    (hbody : ∀ (A : Around) (outer : List PySem.Env) (s : Shared) (H : Hp) (E : XK), Room k (A.deeper (envOfC qual scope s.heap.objs.size f fd.code)) → PSs (cxOf (L2.CX P w) P w K mg base N qual scope f fd.code A outer s H E) body (TSx K mg (z0 T) (fun cls d _ H => E cls d H) (execL sx d.body))) :
    FnOk P w K mg base (L2.CX P w) (k + 1) f fd ps (SpF K mg T (fun vs S => runD sx d vs S)) := by
  obtain ⟨oc, od, dV, kV, doc, pm, an, cdv, ct, osl, rfl, lk, hcd, _, _⟩ := F.ex
  refine fn_of lk hcd Sc (fun vs H Q E ⟨qs, S, G, μ, hS, hv, h⟩ => ?_) fun A outer s H vs Q E hr ⟨qs, S, G, μ, hS, hv, h⟩ => ⟨_, hbody A outer s H E hr, ?_⟩
  · unfold runD at h
    dsimp only at h
    split at h
    · rename_i hl
      rw [← hv.length, hl, hp]
    · exact h.elim
  · unfold runD at h
    dsimp only at h
    split at h
    · rename_i hl
      refine ⟨begin_ d qs, S, G, μ, ?_, hS, ?_⟩
      · unfold begin_
        rw [hN]
        exact relE_start hv
      · exact body_post (z := z0 T) (T := T) (S := S) rfl hS.len rfl [] (fun _ _ _ _ h => h) h
    · exact h.elim
theorem never_callv {X : Cx} {K : PySem.W.Frag} {mg : Str → Option Value} {z : Kz} {W : WX} {sx : Sx} {e : Expr} {i : Nat} (h : sx.clo = none) : PE X e (TEx K mg z W (den sx (.callv i))) := ⟨fun pins s σ H Q I ⟨ρ, S, G, μ, hE, hS, q⟩ => by
  simp only [den, h] at q
  cases e0 : ρ[i]? with
  | none => simp only [e0] at q; exact q.elim
  | some o =>
    cases o with
    | none => simp only [e0] at q; exact q.elim
    | some v => cases v <;> (simp only [e0] at q; exact q.elim)⟩
/-- two levels down -/
def o2 (P : Prog) (n : Nat) : Orc := (orc3 P n).2.2
theorem orc_step (P : Prog) (n : Nat) : orc P (n + 1) = stepO P (orc P n) (o2 P n) := rfl
theorem o2_two (P : Prog) (n : Nat) : o2 P (n + 2) = orc P n := rfl
section
variable {tb : Tab} {T : List (Addr × Str)} {P : Prog} {defs : List DefR} {K : PySem.W.Frag} {mg : Str → Option Value} {base : Heap} {prog : Program} {w : World}
theorem DefsOk.at_ (D : DefsOk tb T P defs K mg base) {f : Nat} {r : DefR} (h : defs[f]? = some r) : tb.fns[f]? = some r.x ∧ P.defs[f]? = some r.d ∧ FnScope r.N r.ps (defScope r.st) ∧ r.d.slots = r.N.length ∧ r.d.par = r.ps.length ∧ mSs tb r.cf r.d.body (defBody r.st) = true ∧ (r.clo = true → r.ps.length = 1 ∧ r.ps.all nameOk = true ∧ r.lamQ = false) := by
  have hm : r ∈ defs := List.mem_of_getElem? h
  have hk := List.all_eq_true.mp D.ok r hm
  unfold okDef at hk
  simp only [Bool.and_eq_true, decide_eq_true_eq, Bool.or_eq_true, Bool.not_eq_true'] at hk
  obtain ⟨h1, h2, h3, h4, h5⟩ := hk
  refine ⟨by rw [D.len, List.getElem?_map, h]; rfl, by rw [D.dfn, List.getElem?_map, h]; rfl, sc_of h1, h2, h3, h4, fun hc => ?_⟩
  rcases h5 with h5 | h5
  · rw [h5] at hc; cases hc
  · exact h5
/-- the claim at a depth -/
def Ok (tb : Tab) (T : List (Addr × Str)) (prog : Program) (w : World) (K : PySem.W.Frag) (mg : Str → Option Value) (base : Heap) (o : Orc) (k : Nat) : Prop := Lv tb T (fun f vs => o f vs none) prog w K mg base k
theorem ok_bad (D : DefsOk tb T P defs K mg base) (k : Nat) : Ok tb T prog w K mg base bad0 k := fun f x hx => by
  rw [D.len, List.getElem?_map] at hx
  cases e : defs[f]? with
  | none => rw [e] at hx; cases hx
  | some r =>
    rw [e] at hx
    cases hx
    obtain ⟨a, fd, h1, h2, h3⟩ := D.fn f r e
    exact ⟨a, fd, r.ps, h1, h2.kp, h3, fnOk_bad fun _ _ => rfl⟩
/-- the receivers at a depth -/
theorem recv_ok (D : DefsOk tb T P defs K mg base) {n : Nat} (ih : ∀ m, m < n → Ok tb T prog w K mg base (orc P m) (m + 2)) (X : Cx) (hP : X.prog = prog) (hw : X.w = w) (hK : X.K = K) (hmg : X.mg = mg) (hb : X.base = base) {f : Nat} {x : Str} (hr : tb.recv.contains f = true) (hx : tb.fns[f]? = some x) :
    RecvD tb T (fun f m => orc P n f [.clo] (some m)) X n f x := by
  subst hP hw hK hmg hb
  rw [D.len, List.getElem?_map] at hx
  cases e : defs[f]? with
  | none => rw [e] at hx; cases hx
  | some r =>
    rw [e] at hx
    cases hx
    obtain ⟨a, fd, h1, h2, h3⟩ := D.fn f r e
    obtain ⟨d1, d2, d3, d4, d5, d6, d7⟩ := D.at_ e
    have hc := D.rcv f hr r e
    obtain ⟨e1, e2, e3⟩ := d7 hc
    obtain ⟨oc, od, dV, kV, doc, pm, an, cdv, ct, osl, rfl, lk, hcd, _, _⟩ := h2.ex
    match hps : r.ps, e1 with
    | [p], _ =>
      have hN0 : r.N[0]? = some p := by
        have := d3.pre
        rw [hps] at this
        cases hN : r.N with
        | nil => rw [hN] at this; simp at this
        | cons y ys =>
          rw [hN] at this
          simp at this
          rw [this]; rfl
      have hpar := d3.par p (by rw [hps]; simp)
      have hvis : Vis (defScope r.st) p := hpar.elim .inl fun h => .inr (.inl h)
      have hok : nameOk p = true := by rw [hps] at e2; simpa using e2
      rw [hps] at h3 d3 d5
      cases n with
      | zero =>
        exact ⟨a, p, _, _, _, dV, kV, doc, pm, cdv, ct, oc, an, od, osl, r.N, { par := 0, slots := 0, body := .nil }, fun _ => sxOf P bad0 bad0 none, h1, h2.kp, lk, hcd, h3, d3, hN0, hvis, hok, fun m S => rfl, fun fm q f' c' s H1 σ Q _ _ _ _ ⟨ρ, S, G, μ, _, _, hh⟩ => hh.elim⟩
      | succ m =>
        refine ⟨a, p, _, _, _, dV, kV, doc, pm, cdv, ct, oc, an, od, osl, r.N, r.d, fun M => sxOf P (orc P m) (o2 P m) (some M), h1, h2.kp, lk, hcd, h3, d3, hN0, hvis, hok, fun M S => ?_, fun fm q => gives_of d4 d5 rfl fun f' c' s H1 σ ρ hroom act => ?_⟩
        · show orc P (m + 1) f [.clo] (some M) S = _
          rw [orc_step]
          show (match P.defs[f]? with | some d => _ | none => _) = _
          rw [d2]
        · have lv := ih m (Nat.lt_succ_self m)
          have F : FitS tb T (m + 2) r.cf (sxOf P (orc P m) (o2 P m) (some (fm ρ))) (cxOf C8.CX0 X.prog X.w X.K X.mg X.base r.N r.x (defScope r.st) a cdv X.A X.stack s H1 C8.E0).nox { T := T, clo := some f', lam := some ⟨ρ, σ, c', q⟩ } noW := by
            have cvf : ∀ (W : WX) (pn : List (Addr × Obj)) (xe : Value → Shared → Prop), Takes ((cxOf C8.CX0 X.prog X.w X.K X.mg X.base r.N r.x (defScope r.st) a cdv X.A X.stack s H1 C8.E0).tr pn xe) W → ∀ (a' : Str) (p1 p2 : Pos), r.N[0]? = some a' →
                PE ((cxOf C8.CX0 X.prog X.w X.K X.mg X.base r.N r.x (defScope r.st) a cdv X.A X.stack s H1 C8.E0).tr pn xe) (.Call (.Name a' p1) [] [] p2) (TEx X.K X.mg { T := T, clo := some f', lam := some ⟨ρ, σ, c', q⟩ } W (den (sxOf P (orc P m) (o2 P m) (some (fm ρ))) (.callv 0))) := fun W pn xe tk a' p1 p2 ha' => by
              rw [hN0] at ha'
              cases ha'
              exact PE.imp (act W pn xe p1 p2 tk) fun σ' H' Q' ⟨ρZ, S, G, μ, hE, hS, hh⟩ => ⟨ρZ, S, G, μ, hE, hS, by
                simp only [den, sxOf] at hh
                cases e0 : ρZ[0]? with
                | none => simp only [e0] at hh; exact hh.elim
                | some o =>
                  cases o with
                  | none => simp only [e0] at hh; exact hh.elim
                  | some v =>
                    cases v with
                    | clo => simp only [e0] at hh ⊢; exact hh
                    | _ => simp only [e0] at hh; exact hh.elim⟩
            exact {
              fit := {
                facts := D.facts, room := fun _ => hroom, units := hroom.units, calls := lv, nd := d3.nd, N := rfl, sc := rfl, st := fun _ _ => .inl rfl, calm := fun _ => rfl, tk := LamX.takes0, zT := rfl, zx := fun _ => rfl, xa := xa_none rfl
                zc := (fun h => by cases h)
                cv := fun _ a' p1 p2 ha' => cvf noW [] (fun _ _ => False) LamX.takes0 a' p1 p2 ha'
                lam := fun h => by
                  have h : r.lamQ = true := h
                  rw [e3] at h; cases h }
              kind := d3.kind
              body := fun _ => ⟨rfl, rfl, PassesOwn.never⟩
              cv := fun _ W pn xe tk a' p1 p2 ha' => cvf W pn xe tk a' p1 p2 ha' }
          exact mSs_ok r.d.body F d6
theorem step_ok (D : DefsOk tb T P defs K mg base) (n : Nat) (ih : ∀ m, m < n + 1 → Ok tb T prog w K mg base (orc P m) (m + 2)) {f : Nat} {r : DefR} (e : defs[f]? = some r) :
    ∃ (a : Addr) (fd : FuncData), mg r.x = some (.ref a) ∧ FunD K r.x r.x (defArgs r.st) (defBody r.st) (defScope r.st) [] [] a fd ∧ Binds K fd r.ps [] ∧ FnOk prog w K mg base (L2.CX prog w) (n + 1 + 2) a fd r.ps (SpF K mg T (fun (vs : List PV) (S : Store) => orc P (n + 1) f vs none S)) := by
  obtain ⟨a, fd, h1, h2, h3⟩ := D.fn f r e
  obtain ⟨d1, d2, d3, d4, d5, d6, d7⟩ := D.at_ e
  refine ⟨a, fd, h1, h2, h3, ?_⟩
  have hrun : (fun (vs : List PV) (S : Store) => orc P (n + 1) f vs none S) = fun vs S => runD (sxOf P (orc P n) (o2 P n) none) r.d vs S := by
    funext vs S
    rw [orc_step]
    show (match P.defs[f]? with | some d => _ | none => _) = _
    rw [d2]
  rw [hrun]
  refine def_ok2 (k := n + 2) h2 d3 d4 d5 fun A outer s H E hr => ?_
  have l2 : Ok tb T prog w K mg base (o2 P n) n := by
    match n, ih with
    | 0, _ => exact ok_bad D _
    | 1, _ => exact ok_bad D _
    | m + 2, ih => exact ih m (by omega)
  have F : FitS tb T (n + 2) r.cf (sxOf P (orc P n) (o2 P n) none) (cxOf (L2.CX prog w) prog w K mg base r.N r.x (defScope r.st) a fd.code A outer s H E) (z0 T) (fun cls d _ H => E cls d H) := {
    fit := {
      facts := D.facts, room := fun _ => hr, units := hr.units, calls := ih n (Nat.lt_succ_self n), nd := d3.nd, N := rfl, sc := rfl, st := fun _ _ => .inl rfl, calm := fun _ => rfl, tk := takes_of rfl rfl rfl rfl, zT := rfl, zx := fun _ => rfl, xa := xa_none rfl, zc := fun _ => rfl
      cv := fun _ a' p1 p2 _ => never_callv rfl
      lam := fun h => by
        obtain ⟨oc, od, dV, kV, doc, pm, an, cdv, ct, osl, efd, lk, hcd, _, _⟩ := h2.ex
        exact ⟨rfl, D.lam f r e h a oc od fd osl h1 lk, n, rfl, l2, fun f' x' hr' hx2 => recv_ok D (fun m hm => ih m (by omega)) (cxOf (L2.CX prog w) prog w K mg base r.N r.x (defScope r.st) a fd.code A outer s H E) rfl rfl rfl rfl rfl hr' hx2⟩ }
    kind := d3.kind
    body := fun _ => ⟨rfl, rfl, passes_of rfl⟩
    cv := fun _ W pn xe tk a' p1 p2 _ => never_callv rfl }
  exact mSs_ok r.d.body F d6
theorem all_ok (D : DefsOk tb T P defs K mg base) (n : Nat) : Ok tb T prog w K mg base (orc P n) (n + 2) := by
  induction n using Nat.strongRecOn with
  | ind n ih =>
    cases n with
    | zero => exact ok_bad D _
    | succ n =>
      intro f x hx
      rw [D.len, List.getElem?_map] at hx
      cases e : defs[f]? with
      | none => rw [e] at hx; cases hx
      | some r =>
        rw [e] at hx
        cases hx
        obtain ⟨a, fd, h1, h2, h3, h4⟩ := step_ok D n ih e
        exact ⟨a, fd, r.ps, h1, h2.kp, h3, h4⟩
end
end CW
end

section
set_option Elab.async false
set_option linter.all false
set_option maxRecDepth 100000
set_option maxHeartbeats 4000000
/-! The end of a law's row: the facts of its text off the run of its top. -/
namespace CW
open PySem PySem.Spec PyProof.Rows L2

/-! ### what is looked at in the module's objects -/
mutual
/-- the value as a constant of ours -/
def constB (K : PySem.W.Frag) : PV → Value → Bool
  | .non, u => match u with
    | .none => true
    | _ => false
  | .bl b, u => match u with
    | .bool c => b == c
    | _ => false
  | .int i, u => match u with
    | .int j _ => i == j
    | _ => false
  | .str x, u => match u with
    | .str y _ => x == y
    | _ => false
  | .tup ps, u => match u with
    | .ref a => (match K.lookup a with
      | some ⟨.type c, _, .seq its _, _⟩ => decide (c = "tuple") && (decide (its.size ≤ 1000) && constL K ps its.toList)
      | _ => false)
    | _ => false
  | _, _ => false
def constL (K : PySem.W.Frag) : List PV → List Value → Bool
  | [], us => us.isEmpty
  | p :: ps, us => match us with
    | u :: us => constB K p u && constL K ps us
    | [] => false
end
mutual
theorem constB_ok {K : PySem.W.Frag} : ∀ {p : PV} {u : Value}, constB K p u = true → ∃ v, RelV v u ∧ ∀ z G μ, Rep K z G μ p v
  | .non, u, h => by
    cases u <;> simp [constB] at h
    exact ⟨.non, rfl, fun _ _ _ => rfl⟩
  | .bl b, u, h => by
    cases u <;> simp [constB] at h
    subst h
    exact ⟨.bl b, rfl, fun _ _ _ => rfl⟩
  | .int i, u, h => by
    cases u <;> simp [constB] at h
    subst h
    exact ⟨.int i, ⟨_, rfl⟩, fun _ _ _ => rfl⟩
  | .str x, u, h => by
    cases u <;> simp [constB] at h
    subst h
    exact ⟨.str x, ⟨_, rfl⟩, fun _ _ _ => rfl⟩
  | .tup ps, u, h => by
    cases u with
    | ref a =>
      simp only [constB] at h
      split at h
      · rename_i c od its n sl hl
        simp only [Bool.and_eq_true, decide_eq_true_eq] at h
        obtain ⟨rfl, h1, h2⟩ := h
        obtain ⟨vs, g1, g2⟩ := constL_ok h2
        have hz : its.size ≤ sizeLine := by rw [sizeLine_LINE]; unfold LINE; omega
        refine ⟨.ref a, rfl, fun z G μ => ⟨a, vs, rfl, .inr ⟨_, its, n, hl, rfl, rfl, hz, g1⟩, ?_, g2 z G μ⟩⟩
        rw [g1.length, Array.length_toList]; unfold LINE; omega
      · cases h
    | _ => simp [constB] at h
  | .lst _, u, h => by simp [constB] at h
  | .dct _, u, h => by simp [constB] at h
  | .loc _, u, h => by simp [constB] at h
  | .ty _, u, h => by simp [constB] at h
  | .gl _, u, h => by simp [constB] at h
  | .clo, u, h => by simp [constB] at h
  | .exn _ _, u, h => by simp [constB] at h
theorem constL_ok {K : PySem.W.Frag} : ∀ {ps : List PV} {us : List Value}, constL K ps us = true → ∃ vs, Vals vs us ∧ ∀ z G μ, RepL K z G μ ps vs
  | [], us, h => by
    cases us with
    | nil => exact ⟨[], .nil, fun _ _ _ => rfl⟩
    | cons _ _ => simp [constL] at h
  | p :: ps, us, h => by
    cases us with
    | nil => simp [constL] at h
    | cons u us =>
      simp only [constL, Bool.and_eq_true] at h
      obtain ⟨v, h1, h2⟩ := constB_ok h.1
      obtain ⟨vs, h3, h4⟩ := constL_ok h.2
      exact ⟨v :: vs, .cons h1 h3, fun z G μ => .cons (h2 z G μ) (h4 z G μ)⟩
end
abbrev SubT : Type := List (Str × Cl × Bool)
def subOf (t : SubT) (x : Str) (c : Cl) : Option Bool := (t.find? fun q => decide (q.1 = x) && decide (q.2.1 = c)).map (·.2.2)
def clV (K : PySem.W.Frag) : Cl → Value
  | .bt n => .type (btN n)
  | .own x => .ref (He.ga K x)
def excB (K : PySem.W.Frag) (D : Addr) : Bool := decide (PySem.W.findIn K (.ref D) "__getattribute__" = some (some (.builtin "BaseException.__getattribute__"))) && (decide (PySem.W.findIn K (.ref D) "__getattr__" = some none) && (decide (PySem.W.subIn K (.ref D) (.type "BaseException") = some true) &&
  (PySem.W.hasDictIn K D && (decide (PySem.W.findIn K (.ref D) "__class__" = some (some (.builtin "object.__class__"))) && (decide (PySem.W.specialIn K (.builtin "object.__class__") "__get__" = some (some (.builtin "getset_descriptor.__get__"))) &&
    (decide (PySem.W.takesIn K (.builtin "object.__class__") = some true) && decide (PySem.W.mroIn K D (.type "object") = some true)))))))
theorem excB_ok {K : PySem.W.Frag} {D : Addr} (h : excB K D = true) : ExcC K D := by
  unfold excB at h
  simp only [Bool.and_eq_true, decide_eq_true_eq] at h
  obtain ⟨h1, h2, h3, h4, h5, h6, h7, h8⟩ := h
  exact ⟨h1, h2, h3, h4, h5, h6, h7, h8⟩
def lamsOf (defs : List DefR) : List He.Defn := (defs.filter (·.lamQ)).map fun r => (r.x, none)
def faOf (tb : Tab) (defs : List DefR) : List He.Fa := defs.map (fun r => .glo r.x) ++ (tb.excs.map .glo ++ (tb.excs.map .exc ++ tb.free.map .free))
def fnsOf (defs : List DefR) : List He.DefD := defs.map fun r => ⟨(r.x, none), r.x, r.x, defArgs r.st, defBody r.st, defScope r.st, [], []⟩
/-- what is told besides -/
def exB (tb : Tab) (t : SubT) (defs : List DefR) (K : PySem.W.Frag) : Bool := (tb.consts.all fun q => match PySem.W.nsIn K mainGlobals q.1 with
  | some (some u) => constB K q.2 u
  | _ => false) && ((t.all fun q => tb.excs.contains q.1 && ((match q.2.1 with
    | .own y => tb.excs.contains y
    | .bt n => n == .verr) && (decide (PySem.W.kitOne K (.ref (He.ga K q.1)) (clV K q.2.1) = some q.2.2) && decide (PySem.W.exmOne K (.ref (He.ga K q.1)) (clV K q.2.1) = some q.2.2)))) && ((tb.excs.all fun x => excB K (He.ga K x)) &&
  (decide ((lamsOf defs).map fun p => (He.cT K p).2).Nodup && (((lamsOf defs).all fun p => !(mainGlobals == (He.cT K p).2)) && K.all fun q => match q.2 with
    | ⟨.type c, none, .seq _ _, _⟩ => !(c == "list")
    | _ => true))))
def BindsN (r : DefR) : Prop := ∀ (kV doc pm : Value) (an : Option Addr) (cdv ct : Value) (us : List Value), us.length = r.ps.length → bindArgs (PySem.W.fnOf r.x r.x (defArgs r.st) (defBody r.st) (defScope r.st) .none kV doc pm an cdv ct) ⟨us, []⟩ = pure (r.ps.zip us)
def BindsAll : List DefR → Prop
  | [] => True
  | r :: rs => BindsN r ∧ BindsAll rs
theorem BindsAll.get : ∀ {rs : List DefR}, BindsAll rs → ∀ r ∈ rs, BindsN r
  | [], _, r, h => absurd h (by simp)
  | r :: rs, b, q, h => by
    rcases List.mem_cons.mp h with e | h
    · subst e; exact b.1
    · exact BindsAll.get b.2 q h
/-- what is known of the text without its run -/
structure Static (tb : Tab) (P : Prog) (t : SubT) (defs : List DefR) : Prop where
  len : tb.fns = defs.map (·.x)
  dfn : P.defs = defs.map (·.d)
  sub : P.sub = subOf t
  ok : defs.all (okDef tb) = true
  rcv : (tb.recv.all fun f => match defs[f]? with
    | some r => r.clo
    | none => true) = true
  binds : BindsAll defs
  inj : ((lamsOf defs).map (·.1)).Nodup
/-- the tables of the defs that make lambdas -/
def tabsOf (K : PySem.W.Frag) (defs : List DefR) : List (Addr × Str) := (lamsOf defs).map fun p => ((He.cT K p).2, (p.1 ++ ".<locals>.") ++ "<lambda>")
section
variable {tb : Tab} {P : Prog} {t : SubT} {defs : List DefR} {w : World} {h : Heap} {K : PySem.W.Frag} {mg : Str → Option Value}
theorem says_glo (X : K.In h) (G : h.Ns mainGlobals mg) (c : He.SaysX (faOf tb defs) (fnsOf defs) [] (lamsOf defs) (exB tb t defs) w h K) {x : Str} (hx : (∃ r ∈ defs, r.x = x) ∨ tb.excs.contains x = true) : mg x = some (.ref (He.ga K x)) := by
  refine He.glo_ok X G (c.t.d.facts (f := .glo x) ?_)
  unfold faOf
  rcases hx with ⟨r, hr, e⟩ | hx
  · exact List.mem_append_left _ (List.mem_map.mpr ⟨r, hr, by rw [e]⟩)
  · exact List.mem_append_right _ (List.mem_append_left _ (List.mem_map.mpr ⟨x, List.contains_iff_mem.mp hx, rfl⟩))
theorem lookup_find' {a : Addr} {o : Obj} {l : List (Addr × Obj)} (h : l.lookup a = some o) : (a, o) ∈ l := He.lookup_mem h
theorem lookup_find {α : Type} {x : Str} {p : α} : ∀ {l : List (Str × α)}, l.lookup x = some p → (x, p) ∈ l
  | [], h => by cases h
  | (b, u) :: r, h => by
    rw [List.lookup_cons] at h
    cases q : x == b with
    | true =>
      simp only [q] at h
      cases h
      rw [eq_of_beq q]
      exact List.mem_cons_self
    | false =>
      simp only [q] at h
      exact List.mem_cons_of_mem _ (lookup_find h)
theorem nodup_map_inj {α β : Type} {f : α → β} : ∀ {l : List α}, (l.map f).Nodup → ∀ {a b : α}, a ∈ l → b ∈ l → f a = f b → a = b
  | [], _, a, b, h, _, _ => absurd h (by simp)
  | x :: xs, n, a, b, h1, h2, e => by
    rw [List.map_cons, List.nodup_cons] at n
    rcases List.mem_cons.mp h1 with e1 | h1' <;> rcases List.mem_cons.mp h2 with e2 | h2'
    · rw [e1, e2]
    · subst e1; exact absurd (show f a ∈ xs.map f from List.mem_map.mpr ⟨b, h2', e.symm⟩) n.1
    · subst e2; exact absurd (show f b ∈ xs.map f from List.mem_map.mpr ⟨a, h1', e⟩) n.1
    · exact nodup_map_inj n.2 h1' h2' e
theorem defs_of (X : K.In h) (G : h.Ns mainGlobals mg) (c : He.SaysX (faOf tb defs) (fnsOf defs) [] (lamsOf defs) (exB tb t defs) w h K) (S : Static tb P t defs) (base : Heap)
    (TB : ∀ p ∈ (lamsOf defs).map (He.cT K), LamX.TabB base mg p.1 p.2) : DefsOk tb (tabsOf K defs) P defs K mg base := by
  have m := c.more
  unfold exB at m
  simp only [Bool.and_eq_true, decide_eq_true_eq] at m
  obtain ⟨m1, m2, m3, m4, m5, m6⟩ := m
  refine ⟨⟨fun x p e => ?_, fun x hx => ?_, fun x hx => ?_, ⟨fun x cl b v u e hc => ?_⟩, fun x n hn => ?_⟩, S.len, S.dfn, S.ok, fun f hf r hr => ?_, fun f r hr => ?_, fun f r hr hl a oc od fd osl ha hk => ?_⟩
  · have q := List.all_eq_true.mp m1 (x, p) (lookup_find e)
    simp only at q
    split at q
    · rename_i u hu
      obtain ⟨v, h1, h2⟩ := constB_ok q
      exact ⟨u, v, PySem.W.mg_of X G hu, h1, h2⟩
    · cases q
  · have hm := List.contains_iff_mem.mp hx
    obtain ⟨e1, e2, e3, e4⟩ := He.exc_ok (c.t.d.facts (f := .exc x) (by unfold faOf; exact List.mem_append_right _ (List.mem_append_right _ (List.mem_append_left _ (List.mem_map.mpr ⟨x, hm, rfl⟩)))))
    exact ⟨He.ga K x, _, _, _, _, PySem.F.excBase_ValueError, e1, says_glo X G c (.inr hx), e2, e3, e4⟩
  · have hm := List.contains_iff_mem.mp hx
    exact He.free_ok X G (c.t.d.facts (f := .free x) (by unfold faOf; exact List.mem_append_right _ (List.mem_append_right _ (List.mem_append_right _ (List.mem_map.mpr ⟨x, hm, rfl⟩)))))
  · rw [S.sub] at e
    unfold subOf at e
    obtain ⟨q, hq, rfl⟩ := Option.map_eq_some_iff.mp e
    have hm := List.mem_of_find?_eq_some hq
    have hp := List.find?_some hq
    simp only [Bool.and_eq_true, decide_eq_true_eq] at hp
    obtain ⟨rfl, rfl⟩ := hp
    have q2 := List.all_eq_true.mp m2 q hm
    simp only [Bool.and_eq_true, decide_eq_true_eq] at q2
    obtain ⟨g1, g2, g3, g4⟩ := q2
    have ev : clV K q.2.1 = u := by
      cases hcl : q.2.1 with
      | bt n =>
        rw [hcl] at hc
        obtain ⟨_, rfl⟩ := hc
        rfl
      | own y =>
        rw [hcl] at hc g2
        obtain ⟨C, k1, _, rfl⟩ := hc
        rw [says_glo X G c (.inr g2)] at k1
        cases k1
        rfl
    rw [ev] at g3 g4
    exact ⟨He.ga K q.1, says_glo X G c (.inr g1), g3, g4, excB_ok (List.all_eq_true.mp m3 _ (List.contains_iff_mem.mp g1))⟩
  · rw [S.sub]
    unfold subOf
    cases e : t.find? fun q => decide (q.1 = x) && decide (q.2.1 = .bt n) with
    | none => rfl
    | some q =>
      have hm := List.mem_of_find?_eq_some e
      have hp := List.find?_some e
      simp only [Bool.and_eq_true, decide_eq_true_eq] at hp
      have q2 := List.all_eq_true.mp m2 q hm
      simp only [Bool.and_eq_true] at q2
      have q3 := q2.2.1
      rw [hp.2] at q3
      exact absurd (eq_of_beq q3) hn
  · have q := List.all_eq_true.mp S.rcv f (List.contains_iff_mem.mp hf)
    rw [hr] at q
    exact q
  · have hm := List.mem_of_getElem? hr
    obtain ⟨fd, F⟩ := c.t.d.defs (d := ⟨(r.x, none), r.x, r.x, defArgs r.st, defBody r.st, defScope r.st, [], []⟩) (List.mem_map.mpr ⟨r, hm, rfl⟩)
    exact ⟨He.ga K r.x, fd, says_glo X G c (.inl ⟨r, hm, rfl⟩), F, FunD.bindsN (ps := r.ps) F (S.binds.get r hm)⟩
  · have hm := List.mem_of_getElem? hr
    obtain ⟨fd', F⟩ := c.t.d.defs (d := ⟨(r.x, none), r.x, r.x, defArgs r.st, defBody r.st, defScope r.st, [], []⟩) (List.mem_map.mpr ⟨r, hm, rfl⟩)
    have ha' : a = He.ga K r.x := by
      rw [says_glo X G c (.inl ⟨r, hm, rfl⟩)] at ha
      cases ha; rfl
    subst ha'
    obtain ⟨oc', od', dV, kV, doc, pm, an, cdv, ct, osl', rfl, lk, hcd, _, _⟩ := F.ex
    have lk : K.lookup (He.ga K r.x) = _ := lk
    rw [lk] at hk
    cases hk
    obtain ⟨c', ec⟩ := He.codeIn_ref hcd
    have hp : ((r.x, none) : He.Defn) ∈ lamsOf defs := List.mem_map.mpr ⟨r, List.mem_filter.mpr ⟨hm, hl⟩, rfl⟩
    have hcode : He.codeOf K (r.x, none) = c' := He.codeOf_eq (p := (r.x, none)) lk ec
    refine ⟨(He.cT K (r.x, none)).1, (He.cT K (r.x, none)).2, TB _ (List.mem_map.mpr ⟨_, hp, rfl⟩), ?_, List.mem_map.mpr ⟨_, hp, rfl⟩, fun p hp' e => ?_⟩
    · show cdv = .ref (He.codeOf K (r.x, none))
      rw [hcode]; exact ec
    · obtain ⟨p', hp2, rfl⟩ := List.mem_map.mp hp'
      have : p' = (r.x, none) := by
        have nd := m4
        have e : (He.cT K p').2 = (He.cT K (r.x, none)).2 := e
        exact nodup_map_inj nd hp2 hp e
      rw [this]
/-- the state at the law's entry -/
theorem entry_rel {H : Hp} {a : Addr} {xs : List V} {T : List (Addr × Str)} (hT : ∀ p ∈ T, H p.1 = some (.tbl #[])) (hS : Rd H a (.lst xs)) : RelS K (z0 T) [] (fun b => if b = a then H a else none) [] H := by
  refine ⟨fun b o e => ?_, rfl, fun l ob b e => by simp at e, fun l l' b o1 o2 e => by simp at e, fun l b e => by simp at e, fun b ps e => ?_, fun p hp => LamX.TabS.nil (hT p hp), fun l e => by cases e⟩
  · by_cases q : b = a
    · subst q; simpa using e
    · simp [q] at e
  · by_cases q : b = a
    · subst q
      simp at e
      rcases hS with z | ⟨o, z⟩ <;> rw [z] at e <;> cases e
    · simp [q] at e
theorem rd_of {H : Hp} {a : Addr} {xs : List V} (hl : (K.all fun q => match q.2 with
    | ⟨.type c, none, .seq _ _, _⟩ => !(c == "list")
    | _ => true) = true) (hS : SqL K H a xs) : Rd H a (.lst xs) := by
  rcases hS with h | ⟨o, its, n, h1, h2, h3, h4, _⟩
  · exact h
  · exfalso
    have q := List.all_eq_true.mp hl (a, o) (lookup_find' h1)
    obtain ⟨oc, od, dt, sl⟩ := o
    simp only at h2 h3 h4 q
    subst h2 h3 h4
    simp at q
theorem law_at {l : PySem.W.OpenLaw} {fa : Addr} {n lawIx : Nat} {r : DefR} (X : K.In h) (G : h.Ns mainGlobals mg) (c : He.SaysX (faOf tb defs) (fnsOf defs) [] (lamsOf defs) (exB tb t defs) w h K) (S : Static tb P t defs) (hr : defs[lawIx]? = some r) (hp : r.ps = [("script" : Str)]) (hfa : mg r.x = some (.ref fa))
    (hlaw : ∀ ns : List Int, ns.length ≤ 63 → (∀ z ∈ ns, Builtin.Int.intBits z ≤ 1048576) → ∃ S', callN P (n + 1) lawIx [.lst (ns.map .int)] [] = .ok (.bl true) S') : LamX.LawAtS l w K (L2.CX l.prog w) (n + 1 + 2) 63 "script" mg fa h := by
  have m := c.more
  unfold exB at m
  simp only [Bool.and_eq_true, decide_eq_true_eq] at m
  obtain ⟨m1, m2, m3, m4, m5, m6⟩ := m
  have hm := List.mem_of_getElem? hr
  obtain ⟨fd, F⟩ := c.t.d.defs (d := ⟨(r.x, none), r.x, r.x, defArgs r.st, defBody r.st, defScope r.st, [], []⟩) (List.mem_map.mpr ⟨r, hm, rfl⟩)
  have e := hfa.symm.trans (says_glo X G c (.inl ⟨r, hm, rfl⟩))
  cases e
  have hb := FunD.bindsA (ps := r.ps) F (S.binds.get r hm)
  have look : ∀ p ∈ (lamsOf defs).map (He.cT K), ∃ q ∈ lamsOf defs, He.cT K q = p := fun p hp => List.mem_map.mp hp
  refine ⟨fd, (lamsOf defs).map (He.cT K), SpF K mg (tabsOf K defs) (fun vs S => orc P (n + 1) lawIx vs none S), fun p hp => ?_, fun p hp => ?_, fun p hp => ?_, fun s u => ?_, fun H a ns hl hbits hT hS => ?_, fun base KX base_ns TB => ?_⟩
  · obtain ⟨q, hq, rfl⟩ := look p hp
    exact c.empty q hq
  · obtain ⟨q, hq, rfl⟩ := look p hp
    exact c.out q hq
  · obtain ⟨q, hq, rfl⟩ := look p hp
    exact PySem.W.codeHd_of_K X (c.hd q hq)
  · have := hb s [u] (by rw [hp]; rfl)
    rw [hp] at this
    exact this
  · have rd := rd_of m6 hS
    have hT' : ∀ p ∈ tabsOf K defs, H p.1 = some (.tbl #[]) := fun p hp => by
      obtain ⟨q, hq, rfl⟩ := List.mem_map.mp hp
      exact hT (He.cT K q) (List.mem_map.mpr ⟨q, hq, rfl⟩)
    obtain ⟨S', hs⟩ := hlaw ns hl hbits
    refine ⟨[.lst (ns.map .int)], [], (fun b => if b = a then H a else none), [], entry_rel hT' rd, RepL.one ⟨a, ns.map .int, rfl, ?_, ?_, ?_⟩, ?_⟩
    · rcases rd with z | ⟨o, z⟩
      · exact .inl (by simpa using z)
      · exact .inr ⟨o, by simpa using z⟩
    · rw [List.length_map]; unfold LINE; omega
    · have : ∀ ns : List Int, RepL K (z0 (tabsOf K defs)) (fun b => if b = a then H a else none) [] (ns.map .int) (ns.map .int) := by
        intro ns
        induction ns with
        | nil => rfl
        | cons i ns ih => exact .cons rfl ih
      exact this ns
    · have hs : orc P (n + 1) lawIx [.lst (ns.map .int)] none [] = .ok (.bl true) S' := hs
      show Post _ _ _ _ _ _ _ _ (orc P (n + 1) lawIx [.lst (ns.map .int)] none []) _
      rw [hs]
      exact fun G' μ' H' _ _ u hu => hu
  · have D := defs_of X G c S base TB
    obtain ⟨a', fd', k1, k2, k3, k4⟩ := step_ok (prog := l.prog) (w := w) D n (fun m _ => all_ok D m) hr
    rw [says_glo X G c (.inl ⟨r, hm, rfl⟩)] at k1
    cases k1
    obtain ⟨oc, od, dV, kV, doc, pm, an, cdv, ct, osl, rfl, lk, _⟩ := F.ex
    obtain ⟨oc', od', dV', kV', doc', pm', an', cdv', ct', osl', rfl, lk', _⟩ := k2.ex
    have lk : K.lookup (He.ga K r.x) = _ := lk
    have e := lk.symm.trans lk'
    injection e with e
    injection e with _ _ e _
    injection e with e
    rw [← e, hp] at k4
    exact k4
end
end CW
end

section
set_option Elab.async false
set_option linter.all false
set_option maxRecDepth 100000
/-! What the interpreter does, as equations to rewrite with. -/
namespace CW
open PySem
section
variable {sx : Sx} {ρ : Env} {S : Store} {a b c d e o : E} {x : Str} {i : Nat}
@[simp] theorem den_const {c : PV} : den sx (.const c) ρ S = .ok c S := rfl
theorem den_var : den sx (.var i) ρ S = match ρ[i]? with | some (some v) => .ok v S | _ => .bad := rfl
@[simp] theorem den_var0 {v : PV} {r : Env} : den sx (.var 0) (some v :: r) S = .ok v S := rfl
@[simp] theorem den_varS {v : Option PV} {r : Env} : den sx (.var (i + 1)) (v :: r) S = den sx (.var i) r S := rfl
@[simp] theorem den_glob {c : PV} : den sx (.glob x c) ρ S = .ok c S := rfl
@[simp] theorem den_tup {es : Es} : den sx (.tup es) ρ S = (denL sx es ρ S).bind fun vs S => .ok (.tup vs) S := rfl
@[simp] theorem den_lst {m : Bool} {es : Es} : den sx (.lst m es) ρ S = (denL sx es ρ S).bind fun vs S => laid m (.lst vs) S := rfl
@[simp] theorem den_dict {m : Bool} {es : Kv} : den sx (.dict m es) ρ S = (denKv sx es ρ S).bind fun ps S => if ps.all (fun p => isK1 p.1) then laid m (.dct (mergeD [] ps)) S else .bad := rfl
@[simp] theorem den_bin {op : Bop} : den sx (.bin op a b) ρ S = (den sx a ρ S).bind fun x S => (den sx b ρ S).bind fun y S => Res.of (binop op x y S) S := rfl
@[simp] theorem den_neg : den sx (.neg a) ρ S = (den sx a ρ S).bind fun x S => Res.of (x.asInt.map fun i => .int (-i)) S := rfl
@[simp] theorem den_not : den sx (.not a) ρ S = (den sx a ρ S).bind fun v S => Res.of ((truth v S).map fun b => .bl (!b)) S := rfl
@[simp] theorem den_bool {k : Bool} {es : Es} : den sx (.bool k es) ρ S = denB sx k es ρ S := rfl
@[simp] theorem den_cmp {op : Cop} : den sx (.cmp op a b) ρ S = (den sx a ρ S).bind fun x S => (den sx b ρ S).bind fun y S => Res.of ((cmpop op x y S).map .bl) S := rfl
theorem den_chain {o1 o2 : Cop} : den sx (.chain o1 o2 a b c) ρ S = (den sx a ρ S).bind fun x S => (den sx b ρ S).bind fun y S => match cmpop o1 x y S with
    | some true => (den sx c ρ S).bind fun z S => Res.of ((cmpop o2 y z S).map .bl) S
    | some false => .ok (.bl false) S
    | none => .bad := rfl
theorem den_chain3 {o1 o2 o3 : Cop} : den sx (.chain3 o1 o2 o3 a b c d) ρ S = (den sx a ρ S).bind fun x S => (den sx b ρ S).bind fun y S => match cmpop o1 x y S with
    | some true => (den sx c ρ S).bind fun z S => match cmpop o2 y z S with
      | some true => (den sx d ρ S).bind fun w S => Res.of ((cmpop o3 z w S).map .bl) S
      | some false => .ok (.bl false) S
      | none => .bad
    | some false => .ok (.bl false) S
    | none => .bad := rfl
@[simp] theorem den_ite {c : B} : den sx (.ite c a b) ρ S = (denT sx c ρ S).bind fun k S => if k then den sx a ρ S else den sx b ρ S := rfl
@[simp] theorem den_idx : den sx (.idx a b) ρ S = (den sx a ρ S).bind fun x S => (den sx b ρ S).bind fun y S => Res.of (ixop x y S) S := rfl
@[simp] theorem den_slice {lo hi : O} : den sx (.slice a lo hi) ρ S = (den sx a ρ S).bind fun x S => (denO sx lo ρ S).bind fun l S => (denO sx hi ρ S).bind fun h S => Res.of (slop x l h S) S := rfl
@[simp] theorem den_call {f : Nat} {es : Es} : den sx (.call f es) ρ S = (denL sx es ρ S).bind fun vs S => if sx.okC vs S then sx.call f vs S else .bad := rfl
@[simp] theorem den_callv : den sx (.callv i) ρ S = match ρ[i]?, sx.clo with
    | some (some .clo), some m => if underS S.length S then m S else .bad
    | _, _ => .bad := rfl
@[simp] theorem den_calllam {f : Nat} : den sx (.calllam f a) ρ S = if sx.okC [] S then (sx.lam f (den sx.down a ρ) S).calm else .bad := rfl
@[simp] theorem den_bi {m : Bool} {f : Bi} {es : Es} : den sx (.bi m f es) ρ S = (denL sx es ρ S).bind fun vs S => (Res.of (bi f vs S) S).bind fun v S => laid m v S := rfl
@[simp] theorem den_meth {f : Mt} {es : Es} : den sx (.meth f o es) ρ S = (den sx o ρ S).bind fun x S => if recvOk f x S then (denL sx es ρ S).bind fun vs S => ofM (meth f x vs S) else .bad := rfl
@[simp] theorem den_isin {cs : List Cl} : den sx (.isin a cs) ρ S = (den sx a ρ S).bind fun x S => Res.of ((isinstL sx.sub x S cs).map .bl) S := rfl
@[simp] theorem den_lrange {m : Bool} {es : Es} : den sx (.lrange m es) ρ S = (denL sx es ρ S).bind fun vs S => match rangeOf vs with
    | some (a, b) => laid m (.lst (rangeL a b)) S
    | none => .bad := rfl
theorem den_comp {m : Bool} {own : List Nat} {t : T} {it : I} {ifs : Bs} : den sx (.comp m own a t it ifs) ρ S = (denI sx it ρ S).bind fun xs S => (compL (compF own t (denT2 sx ifs) (den sx a) ρ) xs S).bind fun vs S => laid m (.lst vs) S := rfl
theorem den_comp2 {m : Bool} {own own2 : List Nat} {t t2 : T} {it it2 : I} {ifs ifs2 : Bs} : den sx (.comp2 m own a t it ifs own2 t2 it2 ifs2) ρ S = (denI sx it ρ S).bind fun xs S => (compL (compF2 own t (denT2 sx ifs) (denI sx it2) own2 t2 (denT2 sx ifs2) (den sx a) ρ) xs S).bind fun vs S => if decide (vs.length ≤ LINE) then laid m (.lst vs) S else .bad := rfl
theorem den_dcomp {m : Bool} {own : List Nat} {t : T} {it : I} {ifs : Bs} : den sx (.dcomp m own a b t it ifs) ρ S = (denI sx it ρ S).bind fun xs S => (dcompL (dcompF own t (denT2 sx ifs) (den sx a) (den sx b) ρ) xs [] S).bind fun kvs S => laid m (.dct kvs) S := rfl
@[simp] theorem denL_nil : denL sx .nil ρ S = .ok [] S := rfl
@[simp] theorem denL_cons {es : Es} : denL sx (.cons e es) ρ S = (den sx e ρ S).bind fun v S => (denL sx es ρ S).bind fun vs S => .ok (v :: vs) S := rfl
@[simp] theorem denKv_nil : denKv sx .nil ρ S = .ok [] S := rfl
@[simp] theorem denKv_cons {r : Kv} : denKv sx (.cons a b r) ρ S = (den sx a ρ S).bind fun a S => (den sx b ρ S).bind fun b S => (denKv sx r ρ S).bind fun r S => .ok ((a, b) :: r) S := rfl
@[simp] theorem denO_none : denO sx .none ρ S = .ok none S := rfl
@[simp] theorem denO_some : denO sx (.some e) ρ S = (den sx e ρ S).bind fun v S => Res.of (v.asInt.map some) S := rfl
@[simp] theorem denB_one {k : Bool} : denB sx k (.cons e .nil) ρ S = den sx e ρ S := by
  simp only [denB]
  cases den sx e ρ S <;> rfl
@[simp] theorem denB_cons {k : Bool} {es : Es} {e2 : E} : denB sx k (.cons e (.cons e2 es)) ρ S = (den sx e ρ S).bind fun v S => match v with
      | .bl b => if b == k then denB sx k (.cons e2 es) ρ S else .ok (.bl b) S
      | _ => .bad := rfl
@[simp] theorem denT_val : denT sx (.val e) ρ S = (den sx e ρ S).bind fun v S => Res.of (truth v S) S := rfl
@[simp] theorem denT_cmp {op : Cop} : denT sx (.cmp op a b) ρ S = (den sx a ρ S).bind fun x S => (den sx b ρ S).bind fun y S => Res.of (cmpop op x y S) S := rfl
theorem denT_chain {o1 o2 : Cop} : denT sx (.chain o1 o2 a b c) ρ S = (den sx a ρ S).bind fun x S => (den sx b ρ S).bind fun y S => match cmpop o1 x y S with
    | some true => (den sx c ρ S).bind fun z S => Res.of (cmpop o2 y z S) S
    | some false => .ok false S
    | none => .bad := rfl
@[simp] theorem denT_not {b : B} : denT sx (.not b) ρ S = (denT sx b ρ S).bind fun b S => .ok (!b) S := rfl
@[simp] theorem denT_bool {k : Bool} {bs : Bs} : denT sx (.bool k bs) ρ S = denTB sx k bs ρ S := rfl
@[simp] theorem denTB_one {k : Bool} {b : B} : denTB sx k (.cons b .nil) ρ S = denT sx b ρ S := by
  simp only [denTB]
  cases denT sx b ρ S <;> rfl
@[simp] theorem denTB_cons {k : Bool} {b b2 : B} {bs : Bs} : denTB sx k (.cons b (.cons b2 bs)) ρ S = (denT sx b ρ S).bind fun v S => if v == k then denTB sx k (.cons b2 bs) ρ S else .ok v S := rfl
@[simp] theorem denT2_nil : denT2 sx .nil ρ S = .ok true S := rfl
@[simp] theorem denT2_cons {b : B} {bs : Bs} : denT2 sx (.cons b bs) ρ S = (denT sx b ρ S).bind fun b S => if b then denT2 sx bs ρ S else .ok false S := rfl
@[simp] theorem denI_seq : denI sx (.seq e) ρ S = (den sx e ρ S).bind fun v S => Res.of (walkOf v) S := rfl
@[simp] theorem denI_range {es : Es} : denI sx (.range es) ρ S = (denL sx es ρ S).bind fun vs S => Res.of ((rangeOf vs).map fun p => rangeL p.1 p.2) S := rfl
@[simp] theorem denI_enum : denI sx (.enum e) ρ S = (den sx e ρ S).bind fun v S => Res.of (enumOf v) S := rfl
@[simp] theorem denI_zip : denI sx (.zip a b) ρ S = (den sx a ρ S).bind fun x S => (den sx b ρ S).bind fun y S => Res.of (zipOf x y) S := rfl
@[simp] theorem execL_nil : execL sx .nil ρ S = .next ρ S := rfl
@[simp] theorem execL_cons {s : CW.S} {ss : Ss} : execL sx (.cons s ss) ρ S = (exec sx s ρ S).andThen (execL sx ss) := rfl
@[simp] theorem exec_asg {t : T} : exec sx (.asg t e) ρ S = (den sx e ρ S).st ρ fun v S => asgT sx t v ρ S := rfl
@[simp] theorem exec_par {is : List Nat} {es : Es} : exec sx (.par is es) ρ S = (denL sx es ρ S).st ρ fun vs S => .next (sets ρ is vs) S := rfl
@[simp] theorem exec_ex : exec sx (.ex e) ρ S = (den sx e ρ S).st ρ fun _ S => .next ρ S := rfl
@[simp] theorem exec_ret : exec sx (.ret e) ρ S = (den sx e ρ S).st ρ fun v S => .ret v S := rfl
@[simp] theorem exec_ret0 : exec sx .ret0 ρ S = .ret .non S := rfl
@[simp] theorem exec_iff {c : B} {s1 s2 : Ss} : exec sx (.iff c s1 s2) ρ S = (denT sx c ρ S).st ρ fun k S => if k then execL sx s1 ρ S else execL sx s2 ρ S := rfl
@[simp] theorem exec_for {t : T} {it : I} {s1 : Ss} : exec sx (.for_ t it s1) ρ S = (denI sx it ρ S).st ρ fun xs S => forL (asgT sx t) (execL sx s1) xs ρ S := rfl
@[simp] theorem exec_raise : exec sx (.raise x .nil) ρ S = .exc ⟨x, []⟩ ρ S := rfl
@[simp] theorem exec_pass : exec sx .pass ρ S = .next ρ S := rfl
@[simp] theorem asgT_name {v : PV} : asgT sx (.name i) v ρ S = .next (ρ.set i (some v)) S := rfl
@[simp] theorem asgT_tup {ts : Ts} {vs : List PV} : asgT sx (.tup ts) (.tup vs) ρ S = asgTs sx ts vs ρ S := rfl
@[simp] theorem asgTs_nil : asgTs sx .nil [] ρ S = .next ρ S := rfl
@[simp] theorem asgTs_cons {t : T} {ts : Ts} {v : PV} {vs : List PV} : asgTs sx (.cons t ts) (v :: vs) ρ S = (asgT sx t v ρ S).andThen fun ρ S => asgTs sx ts vs ρ S := rfl
end
/-- the def's surroundings at a depth -/
def sxN (P : Prog) (n : Nat) : Sx := sxOf P (orc P n) (o2 P n) none
section
variable {P : Prog} {n f : Nat} {vs : List PV} {S : Store}
@[simp] theorem sxN_call : (sxN P n).call f vs S = callN P n f vs S := rfl
@[simp] theorem sxN_okC : (sxN P n).okC vs S = true := rfl
@[simp] theorem sxN_sub : (sxN P n).sub = P.sub := rfl
theorem callN_def {d : Dfn} (h : P.defs[f]? = some d) : callN P (n + 1) f vs S = runD (sxN P n) d vs S := by
  show (match P.defs[f]? with | some d => _ | none => _) = _
  rw [h]
  rfl
/-- a run that hands back a plain value and leaves the store -/
theorem back_same {v : PV} (h : v.under S.length = true) (w : underS S.length S = true) : back S.length v S = .ok v S := by
  unfold back
  rw [List.take_length, h, w]
  rfl
theorem runD_ret {sx : Sx} {d : Dfn} {v : PV} (hl : vs.length = d.par) (h : execL sx d.body (begin_ d vs) S = .ret v S) (u : v.under S.length = true) (w : underS S.length S = true) : runD sx d vs S = .ok v S := by
  unfold runD
  rw [if_pos hl, h]
  exact back_same u w
/-- the store is well formed -/
abbrev Wf (S : Store) : Prop := underS S.length S = true
end
end CW
end

section
set_option Elab.async false
set_option linter.all false
set_option maxRecDepth 100000
set_option maxHeartbeats 1000000
/-! The program's small judges, at any depth, by plain functions. -/
namespace CW
open PySem

/-! ### comprehensions without an effect -/
theorem compL_map {f : PV → Store → Res (List PV)} {S : Store} {g : PV → List PV} : ∀ {xs : List PV}, (∀ x ∈ xs, f x S = .ok (g x) S) → compL f xs S = .ok (xs.flatMap g) S
  | [], _ => rfl
  | x :: xs, h => by
    simp only [compL, h x List.mem_cons_self, Res.calm_ok, Res.bind_ok, compL_map fun y hy => h y (List.mem_cons_of_mem _ hy), List.flatMap_cons]
theorem allOf_bl {α : Type} (p : α → Bool) : ∀ xs : List α, allOf PV.asBl (xs.map fun x => .bl (p x)) = some (xs.map p)
  | [] => rfl
  | x :: xs => by simp only [List.map_cons, allOf, PV.asBl, Option.bind_some, allOf_bl p xs, Option.map_some]
theorem allOf_int {α : Type} (p : α → Int) : ∀ xs : List α, allOf PV.asInt (xs.map fun x => .int (p x)) = some (xs.map p)
  | [] => rfl
  | x :: xs => by simp only [List.map_cons, allOf, PV.asInt, Option.bind_some, allOf_int p xs, Option.map_some]
theorem flatMap_one {α β : Type} (f : α → β) (xs : List α) : xs.flatMap (fun x => [f x]) = xs.map f := by
  induction xs with
  | nil => rfl
  | cons x xs ih => simp [ih]
section
variable {sx : Sx} {ρ : Env} {S : Store} {elt it : E} {own : List Nat} {t : T} {i : I}
/-- [elt for t in i], the values v -/
theorem den_comp_map {m : Bool} {xs : List PV} {g : PV → PV} (hi : denI sx i ρ S = .ok xs S) (h : ∀ x ∈ xs, ∃ ρ', bindP t x (wipe ρ own) = some ρ' ∧ den sx elt ρ' S = .ok (g x) S) : den sx (.comp m own elt t i .nil) ρ S = laid m (.lst (xs.map g)) S := by
  rw [den_comp, hi, Res.bind_ok, compL_map (g := fun x => [g x]) fun x hx => ?_, Res.bind_ok, flatMap_one]
  obtain ⟨ρ', h1, h2⟩ := h x hx
  unfold compF
  rw [h1]
  simp only [denT2_nil, Res.bind_ok, if_true, h2]
@[simp] theorem bi_all_map {α : Type} {xs : List α} {p : α → Bool} : bi .all [.lst (xs.map fun x => .bl (p x))] S = some (.bl (xs.all p)) := by
  simp only [bi, getL, Option.bind_some, allOf_bl, Option.map_some]
  rw [List.all_map]; rfl
@[simp] theorem bi_any_map {α : Type} {xs : List α} {p : α → Bool} : bi .any [.lst (xs.map fun x => .bl (p x))] S = some (.bl (xs.any p)) := by
  simp only [bi, getL, Option.bind_some, allOf_bl, Option.map_some]
  rw [List.any_map]; rfl
@[simp] theorem bi_sum_map {α : Type} {xs : List α} {p : α → Int} : bi .sum [.lst (xs.map fun x => .int (p x))] S = some (.int (xs.map p).sum) := by
  simp only [bi, getL, Option.bind_some, allOf_int, Option.map_some]
theorem den_compb {xs : List PV} {p : PV → Bool} (hi : denI sx i ρ S = .ok xs S) (h : ∀ x ∈ xs, ∃ ρ', bindP t x (wipe ρ own) = some ρ' ∧ den sx elt ρ' S = .ok (.bl (p x)) S) : den sx (.comp false own elt t i .nil) ρ S = .ok (.lst (xs.map fun x => .bl (p x))) S := den_comp_map hi h
theorem den_compi {xs : List PV} {p : PV → Int} (hi : denI sx i ρ S = .ok xs S) (h : ∀ x ∈ xs, ∃ ρ', bindP t x (wipe ρ own) = some ρ' ∧ den sx elt ρ' S = .ok (.int (p x)) S) : den sx (.comp false own elt t i .nil) ρ S = .ok (.lst (xs.map fun x => .int (p x))) S := den_comp_map hi h
end
mutual
/-- a frozen value: no place of the store, nothing of one def alone -/
def PV.fz : PV → Bool
  | .non | .bl _ | .int _ | .str _ => true
  | .tup xs | .lst xs => fzL xs
  | _ => false
def fzL : List PV → Bool
  | [] => true
  | x :: xs => x.fz && fzL xs
end
theorem fzL_mem : ∀ {xs : List PV} {x : PV}, fzL xs = true → x ∈ xs → x.fz = true
  | [], _, _, h => absurd h (by simp)
  | y :: ys, x, h, hx => by
    simp only [fzL, Bool.and_eq_true] at h
    rcases List.mem_cons.mp hx with e | hx
    · subst e; exact h.1
    · exact fzL_mem h.2 hx
/-! ### is_integer -/
def fInt : PV → Bool
  | .int _ => true
  | _ => false
theorem fInt_iff {v : PV} : fInt v = true ↔ ∃ i, v = .int i := by
  cases v <;> simp [fInt]
def bIsInteger : Ss := (.cons (.ret (.bool true (.cons (.isin (.var 0) [(.bt .int)]) (.cons (.not (.isin (.var 0) [(.bt .bool)])) .nil)))) .nil)
section
variable {P : Prog} {f fi fw fp ff : Nat} {n : Nat} {S : Store}
theorem is_integer_ok (h : P.defs[f]? = some ⟨1, 1, bIsInteger⟩) {v : PV} (hv : v.fz = true) (w : Wf S) : callN P (n + 1) f [v] S = .ok (.bl (fInt v)) S := by
  rw [callN_def h]
  refine runD_ret rfl ?_ rfl w
  cases v <;> first | rfl | cases hv
/-! ### is_within -/
def bIsWithin (fi : Nat) : Ss := (.cons (.ret (.bool true (.cons (.call fi (.cons (.var 0) .nil)) (.cons (.chain .le .le (.var 1) (.var 0) (.var 2)) .nil)))) .nil)
def fWithin (v : PV) (lo hi : Int) : Bool := match v with
  | .int i => decide (lo ≤ i) && decide (i ≤ hi)
  | _ => false
theorem is_within_ok (h : P.defs[f]? = some ⟨3, 3, bIsWithin fi⟩) (hi : P.defs[fi]? = some ⟨1, 1, bIsInteger⟩) {v : PV} {lo hi' : Int} (hv : v.fz = true) (w : Wf S) : callN P (n + 2) f [v, .int lo, .int hi'] S = .ok (.bl (fWithin v lo hi')) S := by
  rw [callN_def h]
  refine runD_ret rfl ?_ rfl w
  show execL (sxN P (n + 1)) (bIsWithin fi) [some v, some (.int lo), some (.int hi')] S = _
  simp only [bIsWithin, execL_cons, execL_nil, exec_ret, den_bool, denB_cons, denB_one, den_call, denL_cons, denL_nil, den_var0, Res.bind_ok, sxN_okC, if_true, sxN_call, is_integer_ok hi hv w]
  cases v with
  | int i =>
    simp only [fInt, den_chain, den_var0, den_varS, Res.bind_ok, cmpop, fWithin]
    by_cases h1 : lo ≤ i
    · simp [h1, cmpop]
    · simp [h1]
  | _ => simp [fInt, fWithin]
end
/-! ### operators at given kinds -/
def absI (i : Int) : Int := if i < 0 then -i else i
section
variable {S : Store}
@[simp] theorem bi_len_tup {xs : List PV} : bi .len [.tup xs] S = some (.int xs.length) := rfl
@[simp] theorem bi_len_lst {xs : List PV} : bi .len [.lst xs] S = some (.int xs.length) := rfl
@[simp] theorem bi_abs_int {i : Int} : bi .abs [.int i] S = some (.int (absI i)) := rfl
@[simp] theorem laid_false {v : PV} : laid false v S = .ok v S := rfl
@[simp] theorem cmp_lt {i j : Int} : cmpop .lt (.int i) (.int j) S = some (decide (i < j)) := rfl
@[simp] theorem cmp_le {i j : Int} : cmpop .le (.int i) (.int j) S = some (decide (i ≤ j)) := rfl
@[simp] theorem cmp_gt {i j : Int} : cmpop .gt (.int i) (.int j) S = some (decide (j < i)) := rfl
@[simp] theorem cmp_ge {i j : Int} : cmpop .ge (.int i) (.int j) S = some (decide (j ≤ i)) := rfl
@[simp] theorem cmp_eq_int {i j : Int} : cmpop .eq (.int i) (.int j) S = some (i == j) := rfl
@[simp] theorem cmp_ne_int {i j : Int} : cmpop .ne (.int i) (.int j) S = some (!(i == j)) := rfl
@[simp] theorem truth_bl {b : Bool} : truth (.bl b) S = some b := rfl
@[simp] theorem add_int {i j : Int} : binop .add (.int i) (.int j) S = some (.int (i + j)) := rfl
@[simp] theorem sub_int {i j : Int} : binop .sub (.int i) (.int j) S = some (.int (i - j)) := rfl
@[simp] theorem ix_tup0 {x : PV} {xs : List PV} : ixop (.tup (x :: xs)) (.int 0) S = some x := by
  simp [ixop, getD, getSeq, ixN]
@[simp] theorem ix_tup1 {x y : PV} {xs : List PV} : ixop (.tup (x :: y :: xs)) (.int 1) S = some y := by
  have : (1 : Int) < (xs.length : Int) + 1 + 1 := by omega
  simp [ixop, getD, getSeq, ixN, this]
theorem isin_tup {sub : Str → Cl → Option Bool} {v : PV} (h : v.fz = true) : isinstL sub v S [.bt .tuple] = some (match v with | .tup _ => true | _ => false) := by
  cases v <;> first | rfl | cases h
end
/-! ### is_part -/
def fPart (v : PV) : Bool := match v with
  | .tup [a, .int k] => fWithin a 0 36 && (!(k == 0) && decide (absI k < 1000000000))
  | _ => false
def bIsPart (fi fw : Nat) : Ss := (.cons (.iff (.bool false (.cons (.not (.val (.isin (.var 0) [(.bt .tuple)]))) (.cons (.cmp .ne (.bi false .len (.cons (.var 0) .nil)) (.const (.int 2))) (.cons (.not (.val (.call fw (.cons (.idx (.var 0) (.const (.int 0))) (.cons (.const (.int 0)) (.cons (.glob "NEW" (.int 36)) .nil)))))) .nil)))) (.cons (.ret (.const (.bl false))) .nil) .nil) (.cons (.ret (.bool true (.cons (.call fi (.cons (.idx (.var 0) (.const (.int 1))) .nil)) (.cons (.cmp .ne (.idx (.var 0) (.const (.int 1))) (.const (.int 0))) (.cons (.cmp .lt (.bi false .abs (.cons (.idx (.var 0) (.const (.int 1))) .nil)) (.glob "MOST_TIMES" (.int 1000000000))) .nil))))) .nil))
section
variable {P : Prog} {f fi fw fp ff : Nat} {n : Nat} {S : Store}
theorem is_part_ok (h : P.defs[f]? = some ⟨1, 1, bIsPart fi fw⟩) (hi : P.defs[fi]? = some ⟨1, 1, bIsInteger⟩) (hw : P.defs[fw]? = some ⟨3, 3, bIsWithin fi⟩) {v : PV} (hv : v.fz = true) (w : Wf S) : callN P (n + 3) f [v] S = .ok (.bl (fPart v)) S := by
  rw [callN_def h]
  refine runD_ret rfl ?_ rfl w
  show execL (sxN P (n + 2)) (bIsPart fi fw) [some v] S = _
  have head : ∀ b : Bool, isinstL P.sub v S [.bt .tuple] = some b → b = false → execL (sxN P (n + 2)) (bIsPart fi fw) [some v] S = .ret (.bl false) S := fun b hb h0 => by
    subst h0
    simp [bIsPart, hb]
  cases v with
  | tup xs =>
    match xs, hv with
    | [a, b], hv =>
      have hab : a.fz = true ∧ b.fz = true := by simpa [PV.fz, fzL] using hv
      have hs : isinstL P.sub (.tup [a, b]) S [.bt .tuple] = some true := rfl
      simp only [bIsPart, execL_cons, exec_iff, denT_bool, denTB_cons, denTB_one, denT_not, denT_val, denT_cmp, den_isin, den_var0, Res.bind_ok, sxN_sub, hs, Option.map_some, Res.of_some, truth_bl, den_bi, denL_cons, denL_nil, den_const, bi_len_tup, laid_false, cmp_ne_int, den_call, den_idx, ix_tup0, ix_tup1, den_glob, sxN_okC, if_true, sxN_call,
        is_within_ok hw hi hab.1 w, List.length_cons, List.length_nil]
      cases h1 : fWithin a 0 36 with
      | false => cases b <;> simp [fPart, h1]
      | true =>
        simp [is_integer_ok (n := n + 1) hi hab.2 w]
        cases b with
        | int k =>
          by_cases hk : k = 0
          · simp [fInt, hk, fPart]
          · have hk' : (k == 0) = false := by simpa using hk
            simp [fInt, hk', fPart, h1]
        | _ => simp [fInt, fPart]
    | [], _ => simp [bIsPart, fPart, isinstL, isinst, deref]
    | [a], _ => simp [bIsPart, fPart, isinstL, isinst, deref]
    | a :: b :: c :: r, _ =>
      have : ((r.length : Int) + 1 + 1 + 1 == 2) = false := by
        rw [beq_eq_false_iff_ne]; omega
      simp [bIsPart, fPart, isinstL, isinst, deref, this]
  | _ => first | exact head false rfl rfl | cases hv
/-! ### is_form -/
def parts0 : List PV → List Int
  | .tup (.int v :: _) :: r => v :: parts0 r
  | _ => []
/-- ascending, by the first of each -/
def ascP : List PV → Bool
  | .tup (.int v :: r) :: .tup (.int w :: r') :: ps => decide (v < w) && ascP (.tup (.int w :: r') :: ps)
  | _ => true
def fForm (v : PV) : Bool := match v with
  | .tup [.int c, .tup ps] => decide (absI c < 1000000000000000) && (decide (ps.length ≤ 12) && (ps.all fPart && ascP ps))
  | _ => false
def bIsForm (fi fp : Nat) : Ss := (.cons (.iff (.bool false (.cons (.not (.val (.isin (.var 0) [(.bt .tuple)]))) (.cons (.cmp .ne (.bi false .len (.cons (.var 0) .nil)) (.const (.int 2))) (.cons (.not (.val (.call fi (.cons (.idx (.var 0) (.const (.int 0))) .nil)))) (.cons (.cmp .ge (.bi false .abs (.cons (.idx (.var 0) (.const (.int 0))) .nil)) (.glob "MOST_WHOLE" (.int 1000000000000000))) .nil))))) (.cons (.ret (.const (.bl false))) .nil) .nil) (.cons (.asg (.name 1) (.idx (.var 0) (.const (.int 1)))) (.cons (.iff (.bool false (.cons (.not (.val (.isin (.var 1) [(.bt .tuple)]))) (.cons (.cmp .gt (.bi false .len (.cons (.var 1) .nil)) (.glob "MOST_PARTS" (.int 12))) (.cons (.not (.val (.bi false .all (.cons (.comp false [3] (.call fp (.cons (.var 3) .nil)) (.name 3) (.seq (.var 1)) .nil) .nil)))) .nil)))) (.cons (.ret (.const (.bl false))) .nil) .nil) (.cons (.ret (.bi false .all (.cons (.comp false [2] (.cmp .lt (.idx (.idx (.var 1) (.var 2)) (.const (.int 0))) (.idx (.idx (.var 1) (.bin .add (.var 2) (.const (.int 1)))) (.const (.int 0)))) (.name 2) (.range (.cons (.bin .sub (.bi false .len (.cons (.var 1) .nil)) (.const (.int 1))) .nil)) .nil) .nil))) .nil))))
theorem fPart_shape {v : PV} (h : fPart v = true) : ∃ i k, v = .tup [.int i, .int k] ∧ 0 ≤ i ∧ i ≤ 36 ∧ k ≠ 0 ∧ absI k < 1000000000 := by
  unfold fPart at h
  split at h
  · rename_i a k
    simp only [Bool.and_eq_true, Bool.not_eq_true', decide_eq_true_eq, beq_eq_false_iff_ne, ne_eq] at h
    obtain ⟨h1, h2, h3⟩ := h
    cases a with
    | int i =>
      simp only [fWithin, Bool.and_eq_true, decide_eq_true_eq] at h1
      exact ⟨i, k, rfl, h1.1, h1.2, h2, h3⟩
    | _ => simp [fWithin] at h1
  · cases h
theorem ixN_nat {n j : Nat} (h : j < n) : ixN n (j : Int) = some j := by
  unfold ixN
  rw [if_pos (by omega), if_pos (by omega)]
  simp
theorem ix_tup_nat {xs : List PV} {j : Nat} {x : PV} (h : xs[j]? = some x) : ixop (.tup xs) (.int (j : Int)) S = some x := by
  have hl := (List.getElem?_eq_some_iff.mp h).1
  simp only [ixop, getD, getSeq, Option.bind_some, ixN_nat hl, h]
def fAsc (ps : List PV) (x : PV) : Bool := match x with
  | .int j => (match ps[j.toNat]?, ps[j.toNat + 1]? with
    | some (.tup (.int v :: _)), some (.tup (.int w :: _)) => decide (v < w)
    | _, _ => false)
  | _ => false
/-- ascending pairs, looked at by places -/
theorem asc_ix : ∀ {ps : List PV}, ps.all fPart = true → ((List.range (ps.length - 1)).all fun j => match ps[j]?, ps[j + 1]? with
    | some (.tup (.int v :: _)), some (.tup (.int w :: _)) => decide (v < w)
    | _, _ => false) = ascP ps
  | [], _ => rfl
  | [p], _ => by
    unfold ascP
    split
    · rename_i h; simp at h
    · rfl
  | p :: q :: ps, h => by
    simp only [List.all_cons, Bool.and_eq_true] at h
    obtain ⟨i, k, rfl, _⟩ := fPart_shape h.1
    obtain ⟨j, l, rfl, _⟩ := fPart_shape h.2.1
    have ih := asc_ix (ps := .tup [.int j, .int l] :: ps) (by simp only [List.all_cons, Bool.and_eq_true]; exact h.2)
    have hl : (PV.tup [.int i, .int k] :: PV.tup [.int j, .int l] :: ps).length - 1 = ((PV.tup [.int j, .int l] :: ps).length - 1) + 1 := by simp
    rw [hl, List.range_succ_eq_map, List.all_cons, List.all_map]
    show (decide (i < j) && _) = (decide (i < j) && ascP (.tup [.int j, .int l] :: ps))
    rw [← ih]
    rfl
theorem asc_all {ps : List PV} (hall : ps.all fPart = true) : (rangeL 0 ((ps.length : Int) - 1)).all (fAsc ps) = ascP ps := by
  rw [← asc_ix hall]
  unfold rangeL
  rw [List.all_map]
  have e : ((ps.length : Int) - 1 - 0).toNat = ps.length - 1 := by omega
  rw [e]
  congr 1
  funext j
  simp [fAsc]
theorem is_form_ok (h : P.defs[f]? = some ⟨1, 4, bIsForm fi fp⟩) (hi : P.defs[fi]? = some ⟨1, 1, bIsInteger⟩) (hw : P.defs[fw]? = some ⟨3, 3, bIsWithin fi⟩) (hp : P.defs[fp]? = some ⟨1, 1, bIsPart fi fw⟩) {v : PV} (hv : v.fz = true) (w : Wf S) : callN P (n + 4) f [v] S = .ok (.bl (fForm v)) S := by
  rw [callN_def h]
  refine runD_ret rfl ?_ rfl w
  show execL (sxN P (n + 3)) (bIsForm fi fp) [some v, none, none, none] S = _
  have head : ∀ b : Bool, isinstL P.sub v S [.bt .tuple] = some b → b = false → execL (sxN P (n + 3)) (bIsForm fi fp) [some v, none, none, none] S = .ret (.bl false) S := fun b hb h0 => by
    subst h0
    simp [bIsForm, hb]
  cases v with
  | tup xs =>
    match xs, hv with
    | [], _ => simp [bIsForm, fForm, isinstL, isinst, deref]
    | [a], _ => simp [bIsForm, fForm, isinstL, isinst, deref]
    | a :: b :: c :: r, _ =>
      have : ((r.length : Int) + 1 + 1 + 1 == 2) = false := by
        rw [beq_eq_false_iff_ne]; omega
      simp [bIsForm, fForm, isinstL, isinst, deref, this]
    | [a, b], hv =>
      have hab : a.fz = true ∧ b.fz = true := by simpa [PV.fz, fzL] using hv
      have hs : isinstL P.sub (.tup [a, b]) S [.bt .tuple] = some true := rfl
      have hia := is_integer_ok (n := n + 2) hi hab.1 w
      cases a with
      | int c =>
        have rest : ∀ b : PV, ¬ (1000000000000000 ≤ absI c) → isinstL P.sub b S [.bt .tuple] = some false → fForm (.tup [.int c, b]) = false → execL (sxN P (n + 3)) (bIsForm fi fp) [some (.tup [.int c, b]), none, none, none] S = .ret (.bl (fForm (.tup [.int c, b]))) S := fun b hc' hb hf => by
          have hs : isinstL P.sub (.tup [.int c, b]) S [.bt .tuple] = some true := rfl
          rw [hf]
          simp [bIsForm, hs, hia, fInt, hc', hb]
        by_cases hc : absI c < 1000000000000000
        · have hc' : ¬ (1000000000000000 ≤ absI c) := by omega
          cases b with
          | tup ps =>
            have hps : fzL ps = true := hab.2
            have hsb : isinstL P.sub (.tup ps) S [.bt .tuple] = some true := rfl
            by_cases hl : ps.length ≤ 12
            · have hl' : ¬ ((12 : Int) < (ps.length : Int)) := by omega
              have h1 : ∀ ρ : Env, ρ.length = 4 → ρ[1]? = some (some (.tup ps)) → den (sxN P (n + 3)) (.comp false [3] (.call fp (.cons (.var 3) .nil)) (.name 3) (.seq (.var 1)) .nil) ρ S = .ok (.lst (ps.map fun x => .bl (fPart x))) S := fun ρ hr h1 => by
                match ρ, hr, h1 with
                | [x0, x1, x2, x3], _, h1 =>
                  simp at h1
                  subst h1
                  exact den_compb (xs := ps) (by simp [walkOf]) fun x hx => ⟨_, rfl, by
                    simp [wipe, is_part_ok (n := n) hp hi hw (fzL_mem hps hx) w]⟩
              by_cases hall : ps.all fPart = true
              · have h2 := h1 [some (.tup [.int c, .tup ps]), some (.tup ps), none, none] rfl rfl
                have h3 : den (sxN P (n + 3)) (.comp false [2] (.cmp .lt (.idx (.idx (.var 1) (.var 2)) (.const (.int 0))) (.idx (.idx (.var 1) (.bin .add (.var 2) (.const (.int 1)))) (.const (.int 0)))) (.name 2) (.range (.cons (.bin .sub (.bi false .len (.cons (.var 1) .nil)) (.const (.int 1))) .nil)) .nil) [some (.tup [.int c, .tup ps]), some (.tup ps), none, none] S = .ok (.lst ((rangeL 0 ((ps.length : Int) - 1)).map fun x => .bl (fAsc ps x))) S := by
                  have hr : rangeOk 0 ((ps.length : Int) - 1) = true := by
                    unfold rangeOk LINE
                    simp only [Bool.and_eq_true, decide_eq_true_eq]
                    omega
                  refine den_compb (xs := rangeL 0 ((ps.length : Int) - 1)) (by simp [rangeOf, hr]) fun x hx => ?_
                  · unfold rangeL at hx
                    obtain ⟨j, hj, rfl⟩ := List.mem_map.mp hx
                    rw [List.mem_range] at hj
                    have hj1 : j + 1 < ps.length := by omega
                    have g1 : ps[j]? = some ps[j] := List.getElem?_eq_getElem (by omega)
                    have g2 : ps[j + 1]? = some ps[j + 1] := List.getElem?_eq_getElem hj1
                    obtain ⟨a1, b1, q1, _⟩ := fPart_shape (List.all_eq_true.mp hall _ (List.getElem_mem (by omega : j < ps.length)))
                    obtain ⟨a2, b2, q2, _⟩ := fPart_shape (List.all_eq_true.mp hall _ (List.getElem_mem hj1))
                    rw [q1] at g1
                    rw [q2] at g2
                    have i1 := ix_tup_nat (S := S) g1
                    have i2 := ix_tup_nat (S := S) g2
                    refine ⟨_, rfl, ?_⟩
                    have e : (0 : Int) + (j : Int) = (j : Int) := by omega
                    rw [e]
                    have e2 : ((j : Int) + 1) = ((j + 1 : Nat) : Int) := by omega
                    show den (sxN P (n + 3)) _ [some (.tup [.int c, .tup ps]), some (.tup ps), some (.int (j : Int)), none] S = _
                    simp only [den_cmp, den_idx, den_bin, den_varS, den_var0, Res.bind_ok, den_const, add_int, Res.of_some, e2, i1, i2, ix_tup0, cmp_lt, Option.map_some, Int.toNat_natCast, fAsc, g1, g2]
                simp [bIsForm, hs, hsb, hia, fInt, hc', hl', h2, hall, h3, asc_all hall, fForm, hc, hl]
              · have hall' : ps.all fPart = false := by simpa using hall
                have h2 := h1 [some (.tup [.int c, .tup ps]), some (.tup ps), none, none] rfl rfl
                simp [bIsForm, hs, hsb, hia, fInt, hc', hl', h2, hall', fForm]
            · have hl' : (12 : Int) < (ps.length : Int) := by omega
              simp [bIsForm, hs, hia, fInt, hc', hsb, hl', fForm, hl]
          | non => exact rest _ hc' rfl rfl
          | bl _ => exact rest _ hc' rfl rfl
          | int _ => exact rest _ hc' rfl rfl
          | str _ => exact rest _ hc' rfl rfl
          | lst _ => exact rest _ hc' rfl rfl
          | _ => exact absurd hab.2 (by simp [PV.fz])
        · have hc' : 1000000000000000 ≤ absI c := by omega
          have : fForm (.tup [.int c, b]) = false := by
            unfold fForm
            split
            · rename_i c' ps heq
              injection heq with heq
              simp only [List.cons.injEq, PV.int.injEq] at heq
              rw [← heq.1]
              simp [hc]
            · rfl
          rw [this]
          simp [bIsForm, hs, hia, fInt, hc']
      | _ => simp [bIsForm, hs, hia, fInt, fForm]
  | _ => first | exact head false rfl rfl | cases hv
end
end CW
end

section
set_option Elab.async false
set_option linter.all false
set_option maxRecDepth 100000
set_option maxHeartbeats 1000000
/-! The program's small judges, further. -/
namespace CW
open PySem
section
variable {P : Prog} {f fi fw fp ff fn fe fc fo : Nat} {n : Nat} {S : Store}
/-! ### raw_value -/
def bRawValue : Ss := (.cons (.ret (.bin .add (.idx (.var 0) (.const (.int 0))) (.bi false .sum (.cons (.comp false [2, 3] (.bin .mul (.var 3) (.idx (.var 1) (.var 2))) (.tup (.cons (.name 2) (.cons (.name 3) .nil))) (.seq (.idx (.var 0) (.const (.int 1)))) .nil) .nil)))) .nil)
def term (kvs : List (PV × PV)) (q : PV) : Int := match q with
  | .tup [.int v, .int k] => (match dget kvs (.int v) with
    | some (.int x) => k * x
    | _ => 0)
  | _ => 0
theorem ixop_D {vv : PV} {kvs : List (PV × PV)} {v : Int} {x : PV} (hD : getD S vv = some kvs) (hk : (kvs.all fun p => isK1 p.1) = true) (h1 : dget kvs (.int v) = some x) : ixop vv (.int v) S = some x := by
  have h2 : dOk kvs (.int v) = true := by
    unfold dOk
    rw [hk]; rfl
  unfold ixop
  rw [hD]
  show (if dOk kvs (.int v) = true then dget kvs (.int v) else none) = _
  rw [if_pos h2, h1]
theorem raw_value_ok (h : P.defs[f]? = some ⟨2, 4, bRawValue⟩) {c : Int} {ps : List PV} {vv : PV} {kvs : List (PV × PV)} (hD : getD S vv = some kvs) (hk : (kvs.all fun p => isK1 p.1) = true)
    (hp : ∀ q ∈ ps, ∃ v k x, q = .tup [.int v, .int k] ∧ dget kvs (.int v) = some (.int x) ∧ mulOk k x = true) (w : Wf S) : callN P (n + 1) f [.tup [.int c, .tup ps], vv] S = .ok (.int (c + (ps.map (term kvs)).sum)) S := by
  rw [callN_def h]
  refine runD_ret rfl ?_ rfl w
  show execL (sxN P n) bRawValue [some (.tup [.int c, .tup ps]), some vv, none, none] S = _
  have hc : den (sxN P n) (.comp false [2, 3] (.bin .mul (.var 3) (.idx (.var 1) (.var 2))) (.tup (.cons (.name 2) (.cons (.name 3) .nil))) (.seq (.idx (.var 0) (.const (.int 1)))) .nil) [some (.tup [.int c, .tup ps]), some vv, none, none] S = .ok (.lst (ps.map fun x => .int (term kvs x))) S := by
    refine den_compi (xs := ps) (by simp [walkOf]) fun q hq => ?_
    obtain ⟨v, k, x, rfl, h1, h2⟩ := hp q hq
    refine ⟨_, rfl, ?_⟩
    show den (sxN P n) _ [some (.tup [.int c, .tup ps]), some vv, some (.int v), some (.int k)] S = _
    have hx : ixop vv (.int v) S = some (.int x) := ixop_D hD hk h1
    simp [hx, binop, h2, term, h1]
  simp [bRawValue, hc]
/-! ### are_claims -/
def bAreClaims (ff : Nat) : Ss := (.cons (.ret (.bool true (.cons (.isin (.var 0) [(.bt .tuple)]) (.cons (.cmp .le (.bi false .len (.cons (.var 0) .nil)) (.var 1)) (.cons (.bi false .all (.cons (.comp false [2] (.call ff (.cons (.var 2) .nil)) (.name 2) (.seq (.var 0)) .nil) .nil)) .nil))))) .nil)
def fClaims (v : PV) (m : Int) : Bool := match v with
  | .tup xs => decide ((xs.length : Int) ≤ m) && xs.all fForm
  | _ => false
/-- the forms' part of a program -/
structure HasForms (P : Prog) (fi fw fp ff : Nat) : Prop where
  i : P.defs[fi]? = some ⟨1, 1, bIsInteger⟩
  w : P.defs[fw]? = some ⟨3, 3, bIsWithin fi⟩
  p : P.defs[fp]? = some ⟨1, 1, bIsPart fi fw⟩
  f : P.defs[ff]? = some ⟨1, 4, bIsForm fi fp⟩
theorem are_claims_ok (h : P.defs[f]? = some ⟨2, 3, bAreClaims ff⟩) (F : HasForms P fi fw fp ff) {v : PV} {m : Int} (hv : v.fz = true) (w : Wf S) : callN P (n + 5) f [v, .int m] S = .ok (.bl (fClaims v m)) S := by
  rw [callN_def h]
  refine runD_ret rfl ?_ rfl w
  show execL (sxN P (n + 4)) (bAreClaims ff) [some v, some (.int m), none] S = _
  have rest : isinstL P.sub v S [.bt .tuple] = some false → execL (sxN P (n + 4)) (bAreClaims ff) [some v, some (.int m), none] S = .ret (.bl false) S := fun hb => by
    simp [bAreClaims, hb]
  cases v with
  | tup xs =>
    have hs : isinstL P.sub (.tup xs) S [.bt .tuple] = some true := rfl
    have hc : den (sxN P (n + 4)) (.comp false [2] (.call ff (.cons (.var 2) .nil)) (.name 2) (.seq (.var 0)) .nil) [some (.tup xs), some (.int m), none] S = .ok (.lst (xs.map fun x => .bl (fForm x))) S :=
      den_compb (xs := xs) (by simp [walkOf]) fun x hx => ⟨_, rfl, by
        show den (sxN P (n + 4)) _ [some (.tup xs), some (.int m), some x] S = _
        simp [is_form_ok (n := n) F.f F.i F.w F.p (fzL_mem hv hx) w]⟩
    by_cases hl : (xs.length : Int) ≤ m
    · simp [bAreClaims, hs, hc, hl, fClaims]
    · simp [bAreClaims, hs, hl, fClaims]
  | _ => first | exact rest rfl | cases hv
theorem bi_all_lst {xs : List PV} : bi .all [.lst xs] S = (allOf PV.asBl xs).map fun bs => .bl (bs.all id) := rfl
/-! ### is_entry -/
def bIsEntry (fi : Nat) : Ss := (.cons (.iff (.cmp .is_ (.var 0) (.const .non)) (.cons (.ret (.const (.bl true))) .nil) .nil) (.cons (.iff (.bool false (.cons (.not (.val (.isin (.var 0) [(.bt .tuple)]))) (.cons (.cmp .ne (.bi false .len (.cons (.var 0) .nil)) (.const (.int 2))) (.cons (.not (.val (.bi false .all (.cons (.comp false [1] (.call fi (.cons (.var 1) .nil)) (.name 1) (.seq (.var 0)) .nil) .nil)))) .nil)))) (.cons (.ret (.const (.bl false))) .nil) .nil) (.cons (.ret (.chain3 .lt .le .lt (.neg (.glob "MOST_BOUND" (.int 1000000000))) (.idx (.var 0) (.const (.int 0))) (.idx (.var 0) (.const (.int 1))) (.glob "MOST_BOUND" (.int 1000000000)))) .nil)))
def fEntry (v : PV) : Bool := match v with
  | .non => true
  | .tup [.int a, .int b] => decide (-1000000000 < a) && (decide (a ≤ b) && decide (b < 1000000000))
  | _ => false
@[simp] theorem cmp_is_non {v : PV} : cmpop .is_ v .non S = some v.isNon := by cases v <;> rfl
@[simp] theorem cmp_isNot_non {v : PV} : cmpop .isNot v .non S = some (!v.isNon) := by cases v <;> rfl
theorem is_entry_ok (h : P.defs[f]? = some ⟨1, 2, bIsEntry fi⟩) (hi : P.defs[fi]? = some ⟨1, 1, bIsInteger⟩) {v : PV} (hv : v.fz = true) (w : Wf S) : callN P (n + 2) f [v] S = .ok (.bl (fEntry v)) S := by
  rw [callN_def h]
  refine runD_ret rfl ?_ rfl w
  show execL (sxN P (n + 1)) (bIsEntry fi) [some v, none] S = _
  have rest : v.isNon = false → isinstL P.sub v S [.bt .tuple] = some false → execL (sxN P (n + 1)) (bIsEntry fi) [some v, none] S = .ret (.bl false) S := fun h0 hb => by
    simp [bIsEntry, hb, h0]
  cases v with
  | non => simp [bIsEntry, PV.isNon, fEntry]
  | tup xs =>
    have hs : isinstL P.sub (.tup xs) S [.bt .tuple] = some true := rfl
    have hc : den (sxN P (n + 1)) (.comp false [1] (.call fi (.cons (.var 1) .nil)) (.name 1) (.seq (.var 0)) .nil) [some (.tup xs), none] S = .ok (.lst (xs.map fun x => .bl (fInt x))) S :=
      den_compb (xs := xs) (by simp [walkOf]) fun x hx => ⟨_, rfl, by
        show den (sxN P (n + 1)) _ [some (.tup xs), some x] S = _
        simp [is_integer_ok (n := n) hi (fzL_mem hv hx) w]⟩
    have ha : bi .all [.lst (xs.map fun x => .bl (fInt x))] S = some (.bl (xs.all fInt)) := bi_all_map
    match xs, hv, hc, ha with
    | [a, b], hv, hc, ha =>
      cases a with
      | int a =>
        cases b with
        | int b =>
          simp [bIsEntry, PV.isNon, hs, hc, bi_all_lst, allOf, PV.asBl, fInt, fEntry, den_chain3, PV.asInt]
          by_cases h1 : -1000000000 < a
          · by_cases h2 : a ≤ b
            · simp [h1, h2]
            · simp [h1, h2]
          · simp [h1]
        | _ => simp [bIsEntry, PV.isNon, hs, hc, bi_all_lst, allOf, PV.asBl, fInt, fEntry]
      | _ => simp [bIsEntry, PV.isNon, hs, hc, bi_all_lst, allOf, PV.asBl, fInt, fEntry]
    | [], _, hc, ha => simp [bIsEntry, PV.isNon, hs, hc, fEntry]
    | [a], _, hc, ha => simp [bIsEntry, PV.isNon, hs, hc, fEntry]
    | a :: b :: c :: r, _, hc, ha =>
      have : ((r.length : Int) + 1 + 1 + 1 == 2) = false := by
        rw [beq_eq_false_iff_ne]; omega
      simp [bIsEntry, PV.isNon, hs, hc, fEntry, this]
  | _ => first | exact rest rfl rfl | cases hv
end
end CW
end

section
set_option Elab.async false
set_option linter.all false
set_option maxRecDepth 100000
set_option maxHeartbeats 1000000
/-! Names, loops that look, is_promise. -/
namespace CW
open PySem
section
variable {P : Prog} {f fi fw fp ff fn fe fc fo : Nat} {n : Nat} {S : Store}
/-! ### loops that only look: on, or out with v -/
theorem forL_chk {bind : PV → Env → Store → SRes} {body : Env → Store → SRes} {R : Env → Prop} {p : PV → Bool} {o : SRes} (ho : ∀ ρ S, o ≠ .next ρ S ∧ o ≠ .cont ρ S ∧ o ≠ .brk ρ S) : ∀ {xs : List PV}, (∀ x ∈ xs, ∀ ρ, R ρ → ∃ ρ1, bind x ρ S = .next ρ1 S ∧ (p x = true → ∃ ρ2, body ρ1 S = .next ρ2 S ∧ R ρ2) ∧ (p x = false → body ρ1 S = o)) → ∀ {ρ}, R ρ → (xs.all p = true → ∃ ρ', forL bind body xs ρ S = .next ρ' S ∧ R ρ') ∧ (xs.all p = false → forL bind body xs ρ S = o)
  | [], _, ρ, hr => ⟨fun _ => ⟨ρ, rfl, hr⟩, fun h => absurd h (by simp)⟩
  | x :: xs, h, ρ, hr => by
    obtain ⟨ρ1, h1, ht, hf⟩ := h x List.mem_cons_self ρ hr
    simp only [forL, h1, SRes.andThen_next, List.all_cons]
    cases hp : p x with
    | true =>
      obtain ⟨ρ2, h2, hr2⟩ := ht hp
      have ih := forL_chk ho (xs := xs) (fun y hy => h y (List.mem_cons_of_mem _ hy)) hr2
      simp only [h2, Bool.true_and]
      exact ih
    | false =>
      refine ⟨fun h => absurd h (by simp), fun _ => ?_⟩
      rw [hf hp]
      cases o with
      | next ρ S => exact absurd rfl (ho ρ S).1
      | cont ρ S => exact absurd rfl (ho ρ S).2.1
      | brk ρ S => exact absurd rfl (ho ρ S).2.2
      | _ => rfl
/-! ### is_name -/
def bIsName : Ss := (.cons (.iff (.bool false (.cons (.not (.val (.isin (.var 0) [(.bt .str)]))) (.cons (.not (.chain .le .le (.const (.int 1)) (.bi false .len (.cons (.var 0) .nil)) (.glob "MOST_NAME" (.int 8)))) .nil))) (.cons (.ret (.const (.bl false))) .nil) .nil) (.cons (.ret (.bi false .all (.cons (.comp false [1] (.chain .le .le (.const (.str "a")) (.var 1) (.const (.str "z"))) (.name 1) (.seq (.var 0)) .nil) .nil))) .nil))
def fLow (v : PV) : Bool := match v with
  | .str x => !decide (x.cps.toList < [97]) && !decide ([122] < x.cps.toList)
  | _ => false
def fName (v : PV) : Bool := match v with
  | .str x => (decide (1 ≤ x.length) && decide (x.length ≤ 8)) && (x.cps.toList.map fun c => PV.str ⟨#[c]⟩).all fLow
  | _ => false
def shortS (v : PV) : Bool := match v with
  | .str x => decide (x.length ≤ LINE)
  | _ => true
theorem is_name_ok (h : P.defs[f]? = some ⟨1, 2, bIsName⟩) {v : PV} (hv : v.fz = true) (hs : shortS v = true) (w : Wf S) : callN P (n + 1) f [v] S = .ok (.bl (fName v)) S := by
  rw [callN_def h]
  refine runD_ret rfl ?_ rfl w
  show execL (sxN P n) bIsName [some v, none] S = _
  have rest : isinstL P.sub v S [.bt .str] = some false → execL (sxN P n) bIsName [some v, none] S = .ret (.bl false) S := fun hb => by
    simp [bIsName, hb]
  cases v with
  | str x =>
    have hl : x.length ≤ LINE := by simpa [shortS] using hs
    have hb : isinstL P.sub (.str x) S [.bt .str] = some true := rfl
    have hlen : bi .len [.str x] S = some (.int x.length) := by
      show (if decide (x.length ≤ LINE) = true then some (PV.int x.length) else none) = _
      rw [if_pos (by simpa using hl)]
    have hc : den (sxN P n) (.comp false [1] (.chain .le .le (.const (.str "a")) (.var 1) (.const (.str "z"))) (.name 1) (.seq (.var 0)) .nil) [some (.str x), none] S = .ok (.lst ((x.cps.toList.map fun c => PV.str ⟨#[c]⟩).map fun x => .bl (fLow x))) S := by
      refine den_compb (by simp [walkOf, hl]) fun q hq => ⟨_, rfl, ?_⟩
      obtain ⟨c, hc, rfl⟩ := List.mem_map.mp hq
      show den (sxN P n) _ [some (.str x), some (.str ⟨#[c]⟩)] S = _
      simp only [den_chain, den_const, den_varS, den_var0, Res.bind_ok]
      have e1 : cmpop .le (.str "a") (.str ⟨#[c]⟩) S = some (!decide ((⟨#[c]⟩ : Str).cps.toList < [97])) := rfl
      have e2 : cmpop .le (.str ⟨#[c]⟩) (.str "z") S = some (!decide ([122] < (⟨#[c]⟩ : Str).cps.toList)) := rfl
      rw [e1]
      cases hd : decide ((⟨#[c]⟩ : Str).cps.toList < [97]) with
      | true =>
        have : fLow (.str ⟨#[c]⟩) = false := by
          show (!decide ((⟨#[c]⟩ : Str).cps.toList < [97]) && _) = false
          rw [hd]; rfl
        rw [this]; rfl
      | false =>
        have : fLow (.str ⟨#[c]⟩) = !decide ([122] < (⟨#[c]⟩ : Str).cps.toList) := by
          show (!decide ((⟨#[c]⟩ : Str).cps.toList < [97]) && _) = _
          rw [hd]; rfl
        rw [this]
        simp only [Bool.not_false, e2, Option.map_some, Res.of_some]
    have hal := bi_all_map (S := S) (xs := x.cps.toList.map fun c => PV.str ⟨#[c]⟩) (p := fLow)
    by_cases h1 : 1 ≤ x.length
    · by_cases h8 : x.length ≤ 8
      · have i1 : (1 : Int) ≤ (x.length : Int) := by omega
        have i8 : (x.length : Int) ≤ 8 := by omega
        simp only [bIsName, execL_cons, execL_nil, exec_iff, exec_ret, denT_bool, denTB_cons, denTB_one, denT_not, denT_val, denT_chain, den_isin, den_var0, den_const, den_glob, den_bi, denL_cons, denL_nil, Res.bind_ok, sxN_sub, hb, hlen, laid_false, Option.map_some, Res.of_some, truth_bl, cmp_le, i1, i8, hc, hal, decide_true, Bool.not_true, Bool.not_false, if_true, SRes.andThen_next, SRes.andThen_ret, Res.st_ok, fName, h1, h8, Bool.true_and, beq_self_eq_true, reduceCtorEq, if_false, Bool.false_eq_true]
      · have i1 : (1 : Int) ≤ (x.length : Int) := by omega
        have i8 : ¬ (x.length : Int) ≤ 8 := by omega
        simp [bIsName, hb, hlen, denT_chain, i1, i8, fName, h8]
    · have i1 : ¬ (1 : Int) ≤ (x.length : Int) := by omega
      simp [bIsName, hb, hlen, denT_chain, i1, fName, h1]
  | _ => first | exact rest rfl | cases hv
/-! ### are_over -/
def bAreOver : Ss := (.cons (.for_ (.name 4) (.seq (.var 0)) (.cons (.for_ (.tup (.cons (.name 5) (.cons (.name 6) .nil))) (.seq (.idx (.var 4) (.const (.int 1)))) (.cons (.iff (.bool true (.cons (.not (.cmp .lt (.var 5) (.var 1))) (.cons (.not (.chain .le .lt (.const (.int 0)) (.bin .sub (.var 5) (.glob "FIRST_LENGTH" (.int 32))) (.var 2))) (.cons (.cmp .notIn (.var 5) (.var 3)) .nil)))) (.cons (.ret (.const (.bl false))) .nil) .nil) .nil)) .nil)) (.cons (.ret (.const (.bl true))) .nil))
def fOver1 (ins rows : Int) (more : List PV) (part : PV) : Bool := match part with
  | .tup (.int v :: _) => decide (v < ins) || ((decide (0 ≤ v - 32) && decide (v - 32 < rows)) || inSeq (.int v) more)
  | _ => false
def fOverF (ins rows : Int) (more : List PV) (form : PV) : Bool := match form with
  | .tup [_, .tup ps] => ps.all (fOver1 ins rows more)
  | _ => false
theorem fForm_shape {v : PV} (h : fForm v = true) : ∃ c ps, v = .tup [.int c, .tup ps] ∧ absI c < 1000000000000000 ∧ ps.length ≤ 12 ∧ ps.all fPart = true ∧ ascP ps = true := by
  unfold fForm at h
  split at h
  · rename_i c ps
    simp only [Bool.and_eq_true, decide_eq_true_eq] at h
    exact ⟨c, ps, rfl, h.1, h.2.1, h.2.2.1, h.2.2.2⟩
  · cases h
theorem inop_tup {a : PV} {xs : List PV} (ha : a.flat = true) (hx : xs.all PV.flat = true) : inop a (.tup xs) S = some (inSeq a xs) := by
  show (if (a.flat && xs.all PV.flat) = true then some (inSeq a xs) else none) = _
  rw [ha, hx]; rfl
theorem are_over_ok (h : P.defs[f]? = some ⟨4, 7, bAreOver⟩) {fs more : List PV} {ins rows : Int} (hf : fs.all fForm = true) (hm : more.all PV.flat = true) (w : Wf S) : callN P (n + 1) f [.tup fs, .int ins, .int rows, .tup more] S = .ok (.bl (fs.all (fOverF ins rows more))) S := by
  rw [callN_def h]
  refine runD_ret rfl ?_ rfl w
  show execL (sxN P n) bAreOver [some (.tup fs), some (.int ins), some (.int rows), some (.tup more), none, none, none] S = _
  have ho : ∀ ρ' S', SRes.ret (.bl false) S ≠ .next ρ' S' ∧ SRes.ret (.bl false) S ≠ .cont ρ' S' ∧ SRes.ret (.bl false) S ≠ .brk ρ' S' := fun _ _ => ⟨nofun, nofun, nofun⟩
  have key := forL_chk (S := S) (bind := asgT (sxN P n) (.name 4)) (body := execL (sxN P n) (.cons (.for_ (.tup (.cons (.name 5) (.cons (.name 6) .nil))) (.seq (.idx (.var 4) (.const (.int 1)))) (.cons (.iff (.bool true (.cons (.not (.cmp .lt (.var 5) (.var 1))) (.cons (.not (.chain .le .lt (.const (.int 0)) (.bin .sub (.var 5) (.glob "FIRST_LENGTH" (.int 32))) (.var 2))) (.cons (.cmp .notIn (.var 5) (.var 3)) .nil)))) (.cons (.ret (.const (.bl false))) .nil) .nil) .nil)) .nil)) (R := fun ρ => ∃ a b c, ρ = [some (.tup fs), some (.int ins), some (.int rows), some (.tup more), a, b, c]) (p := fOverF ins rows more) (o := .ret (.bl false) S) ho (xs := fs)
    (by
      intro x hx ρ hr
      obtain ⟨a, b, c, rfl⟩ := hr
      obtain ⟨k, ps, rfl, _, _, hps, _⟩ := fForm_shape (List.all_eq_true.mp hf x hx)
      refine ⟨_, rfl, ?_⟩
      have key2 := forL_chk (S := S) (bind := asgT (sxN P n) (.tup (.cons (.name 5) (.cons (.name 6) .nil)))) (body := execL (sxN P n) (.cons (.iff (.bool true (.cons (.not (.cmp .lt (.var 5) (.var 1))) (.cons (.not (.chain .le .lt (.const (.int 0)) (.bin .sub (.var 5) (.glob "FIRST_LENGTH" (.int 32))) (.var 2))) (.cons (.cmp .notIn (.var 5) (.var 3)) .nil)))) (.cons (.ret (.const (.bl false))) .nil) .nil) .nil)) (R := fun ρ => ∃ b c, ρ = [some (.tup fs), some (.int ins), some (.int rows), some (.tup more), some (.tup [.int k, .tup ps]), b, c]) (p := fOver1 ins rows more) (o := .ret (.bl false) S) ho (xs := ps)
        (by
          intro x hx ρ hr
          obtain ⟨b, c, rfl⟩ := hr
          obtain ⟨i, t, rfl, _⟩ := fPart_shape (List.all_eq_true.mp hps x hx)
          refine ⟨_, rfl, ?_⟩
          have hin := inop_tup (S := S) (a := .int i) rfl hm
          have hni : cmpop .notIn (.int i) (.tup more) S = some (!inSeq (.int i) more) := by
            show (inop (.int i) (.tup more) S).map not = _
            rw [hin]; rfl
          by_cases h1 : i < ins
          · simp [h1, fOver1]
          · by_cases h2 : 32 ≤ i
            · by_cases h3 : i - 32 < rows
              · simp [h1, h2, h3, fOver1, denT_chain]
              · cases h4 : inSeq (.int i) more <;> simp [h1, h2, h3, h4, fOver1, denT_chain, hni]
            · cases h4 : inSeq (.int i) more <;> simp [h1, h2, h4, fOver1, denT_chain, hni])
        (ρ := [some (.tup fs), some (.int ins), some (.int rows), some (.tup more), some (.tup [.int k, .tup ps]), b, c]) ⟨b, c, rfl⟩
      have e : ∀ ρ : Env, List.set [some (PV.tup fs), some (.int ins), some (.int rows), some (.tup more), a, b, c] 4 (some (.tup [.int k, .tup ps])) = [some (.tup fs), some (.int ins), some (.int rows), some (.tup more), some (.tup [.int k, .tup ps]), b, c] := fun _ => rfl
      constructor
      · intro hp
        obtain ⟨ρ', h1, b', c', rfl⟩ := key2.1 hp
        refine ⟨_, ?_, some (.tup [.int k, .tup ps]), b', c', rfl⟩
        simp only [execL_cons, execL_nil, exec_for, denI_seq, den_idx, den_const, den_varS, den_var0, List.set_cons_succ, List.set_cons_zero, Res.bind_ok, ix_tup1, Res.of_some, walkOf, Res.st_ok]
        rw [h1]; rfl
      · intro hp
        have h1 := key2.2 hp
        simp only [execL_cons, execL_nil, exec_for, denI_seq, den_idx, den_const, den_varS, den_var0, List.set_cons_succ, List.set_cons_zero, Res.bind_ok, ix_tup1, Res.of_some, walkOf, Res.st_ok]
        rw [h1]; rfl)
    (ρ := [some (.tup fs), some (.int ins), some (.int rows), some (.tup more), none, none, none]) ⟨_, _, _, rfl⟩
  simp only [bAreOver]
  rw [execL_cons, exec_for, denI_seq, den_var0, Res.bind_ok]
  show ((Res.of (some fs) S).st _ _).andThen _ = _
  rw [Res.of_some, Res.st_ok]
  cases hall : fs.all (fOverF ins rows more) with
  | true =>
    obtain ⟨ρ', h1, _⟩ := key.1 hall
    rw [h1]; rfl
  | false =>
    rw [key.2 hall]; rfl
end
end CW
end

section
set_option Elab.async false
set_option linter.all false
set_option maxRecDepth 100000
set_option maxHeartbeats 4000000
/-! is_promise. -/
namespace CW
open PySem
section
variable {P : Prog} {f fi fw fp ff fn fe fc fo : Nat} {n : Nat} {S : Store}
def bIsPromise (fw fc fn fe fo : Nat) : Ss := (.cons (.iff (.bool false (.cons (.not (.val (.isin (.var 0) [(.bt .tuple)]))) (.cons (.cmp .ne (.bi false .len (.cons (.var 0) .nil)) (.const (.int 6))) (.cons (.not (.val (.call fn (.cons (.idx (.var 0) (.const (.int 0))) .nil)))) (.cons (.not (.val (.call fw (.cons (.idx (.var 0) (.const (.int 1))) (.cons (.const (.int 0)) (.cons (.glob "MOST_INS" (.int 6)) .nil)))))) .nil))))) (.cons (.ret (.const (.bl false))) .nil) .nil) (.cons (.asg (.tup (.cons (.name 2) (.cons (.name 3) (.cons (.name 4) (.cons (.name 5) (.cons (.name 6) (.cons (.name 7) .nil))))))) (.var 0)) (.cons (.iff (.bool false (.cons (.not (.val (.isin (.var 4) [(.bt .tuple)]))) (.cons (.cmp .gt (.bi false .len (.cons (.var 4) .nil)) (.glob "MOST_ROWS" (.int 4))) (.cons (.not (.val (.bi false .all (.cons (.comp false [8] (.call fe (.cons (.var 8) .nil)) (.name 8) (.seq (.var 4)) .nil) .nil)))) .nil)))) (.cons (.ret (.const (.bl false))) .nil) .nil) (.cons (.iff (.bool false (.cons (.not (.val (.call fc (.cons (.var 5) (.cons (.glob "MOST_PROMISED" (.int 12)) .nil))))) (.cons (.not (.val (.call fc (.cons (.var 6) (.cons (.glob "MOST_PROMISED" (.int 12)) .nil))))) .nil))) (.cons (.ret (.const (.bl false))) .nil) .nil) (.cons (.iff (.bool false (.cons (.not (.val (.call fc (.cons (.var 7) (.cons (.glob "MOST_REACH" (.int 16)) .nil))))) (.cons (.cmp .eq (.bi false .len (.cons (.var 7) .nil)) (.const (.int 0))) .nil))) (.cons (.ret (.const (.bl false))) .nil) .nil) (.cons (.asg (.name 1) (.bi false .len (.cons (.var 4) .nil))) (.cons (.ret (.bool true (.cons (.call fo (.cons (.bin .add (.var 5) (.var 7)) (.cons (.var 3) (.cons (.var 1) (.cons (.tup .nil) .nil))))) (.cons (.call fo (.cons (.var 6) (.cons (.var 3) (.cons (.var 1) (.cons (.tup (.cons (.glob "OUT" (.int 31)) .nil)) .nil))))) .nil)))) .nil)))))))
def itemsOf : PV → List PV
  | .tup xs => xs
  | _ => []
def fRows4 (v : PV) : Bool := match v with
  | .tup es => decide (es.length ≤ 4) && es.all fEntry
  | _ => false
def intOf : PV → Int
  | .int i => i
  | _ => 0
def fPromise (v : PV) : Bool := match v with
  | .tup [a, b, c, d, e, g] => (fName a && fWithin b 0 6) && (fRows4 c && ((fClaims d 12 && fClaims e 12) && ((fClaims g 16 && !(itemsOf g).isEmpty) && ((itemsOf d ++ itemsOf g).all (fOverF (intOf b) (itemsOf c).length []) && (itemsOf e).all (fOverF (intOf b) (itemsOf c).length [.int 31])))))
  | _ => false
structure HasCode (P : Prog) (fi fw fp ff fc fn fe fo : Nat) : Prop where
  F : HasForms P fi fw fp ff
  c : P.defs[fc]? = some ⟨2, 3, bAreClaims ff⟩
  n : P.defs[fn]? = some ⟨1, 2, bIsName⟩
  e : P.defs[fe]? = some ⟨1, 2, bIsEntry fi⟩
  o : P.defs[fo]? = some ⟨4, 7, bAreOver⟩
@[simp] theorem ix_tup2 {x y z : PV} {xs : List PV} : ixop (.tup (x :: y :: z :: xs)) (.int 2) S = some z := ix_tup_nat (j := 2) rfl
@[simp] theorem ix_tup3 {x y z a : PV} {xs : List PV} : ixop (.tup (x :: y :: z :: a :: xs)) (.int 3) S = some a := ix_tup_nat (j := 3) rfl
@[simp] theorem ix_tup4 {x y z a b : PV} {xs : List PV} : ixop (.tup (x :: y :: z :: a :: b :: xs)) (.int 4) S = some b := ix_tup_nat (j := 4) rfl
@[simp] theorem ix_tup5 {x y z a b c : PV} {xs : List PV} : ixop (.tup (x :: y :: z :: a :: b :: c :: xs)) (.int 5) S = some c := ix_tup_nat (j := 5) rfl
theorem fClaims_tup {v : PV} {m : Int} (h : fClaims v m = true) : ∃ xs, v = .tup xs ∧ (xs.length : Int) ≤ m ∧ xs.all fForm = true := by
  unfold fClaims at h
  split at h
  · rename_i xs
    simp only [Bool.and_eq_true, decide_eq_true_eq] at h
    exact ⟨xs, rfl, h.1, h.2⟩
  · cases h
theorem add_tup {xs ys : List PV} (h : xs.length + ys.length ≤ 16777216) : binop .add (.tup xs) (.tup ys) S = some (.tup (xs ++ ys)) := by
  show (if decide (xs.length + ys.length ≤ LINE) = true then _ else _) = _
  rw [if_pos (decide_eq_true (by unfold LINE; exact h))]
theorem is_promise_ok (h : P.defs[f]? = some ⟨1, 9, bIsPromise fw fc fn fe fo⟩) (C : HasCode P fi fw fp ff fc fn fe fo) {v : PV} (hv : v.fz = true) (hsh : ∀ a ∈ itemsOf v, shortS a = true) (w : Wf S) : callN P (n + 6) f [v] S = .ok (.bl (fPromise v)) S := by
  rw [callN_def h]
  refine runD_ret rfl ?_ rfl w
  show execL (sxN P (n + 5)) (bIsPromise fw fc fn fe fo) [some v, none, none, none, none, none, none, none, none] S = _
  have rest : isinstL P.sub v S [.bt .tuple] = some false → execL (sxN P (n + 5)) (bIsPromise fw fc fn fe fo) [some v, none, none, none, none, none, none, none, none] S = .ret (.bl false) S := fun hb => by
    simp [bIsPromise, hb]
  cases v with
  | tup xs =>
    have hs : isinstL P.sub (.tup xs) S [.bt .tuple] = some true := rfl
    have short : xs.length ≠ 6 → execL (sxN P (n + 5)) (bIsPromise fw fc fn fe fo) [some (.tup xs), none, none, none, none, none, none, none, none] S = .ret (.bl false) S := fun hb => by
      have : ((xs.length : Int) == 6) = false := by
        rw [beq_eq_false_iff_ne]; omega
      simp [bIsPromise, hs, this]
    match xs, hv, hs, short, hsh with
    | [a, b, c, d, e, g], hv, hs, _, hsh =>
      have hz : a.fz = true ∧ b.fz = true ∧ c.fz = true ∧ d.fz = true ∧ e.fz = true ∧ g.fz = true := by simpa [PV.fz, fzL] using hv
      obtain ⟨za, zb, zc, zd, ze, zg⟩ := hz
      have ha := is_name_ok (n := n + 4) C.n za (hsh a (by simp [itemsOf])) w
      have hb := is_within_ok (n := n + 3) C.F.w C.F.i (lo := 0) (hi' := 6) zb w
      cases fa : fName a with
      | false => simp [bIsPromise, hs, ha, fa, fPromise]
      | true =>
      cases fb : fWithin b 0 6 with
      | false => simp [bIsPromise, hs, ha, fa, hb, fb, fPromise]
      | true =>
      have hib : ∃ i, b = .int i := by
        cases b with
        | int i => exact ⟨i, rfl⟩
        | _ => simp [fWithin] at fb
      obtain ⟨ib, rfl⟩ := hib
      have restc : isinstL P.sub c S [.bt .tuple] = some false → fRows4 c = false → execL (sxN P (n + 5)) (bIsPromise fw fc fn fe fo) [some (.tup [a, .int ib, c, d, e, g]), none, none, none, none, none, none, none, none] S = .ret (.bl (fPromise (.tup [a, .int ib, c, d, e, g]))) S := fun hb' hr => by
        have hs : isinstL P.sub (.tup [a, .int ib, c, d, e, g]) S [.bt .tuple] = some true := rfl
        simp [bIsPromise, hs, ha, fa, hb, fb, fPromise, hb', hr]
      cases c with
      | tup es =>
        have hsc : isinstL P.sub (.tup es) S [.bt .tuple] = some true := rfl
        have hes : ∀ ρ : Env, ρ.length = 9 → ρ[4]? = some (some (.tup es)) → den (sxN P (n + 5)) (.comp false [8] (.call fe (.cons (.var 8) .nil)) (.name 8) (.seq (.var 4)) .nil) ρ S = .ok (.lst (es.map fun x => .bl (fEntry x))) S := fun ρ hr h1 => by
          match ρ, hr, h1 with
          | [x0, x1, x2, x3, x4, x5, x6, x7, x8], _, h1 =>
            simp at h1
            subst h1
            exact den_compb (xs := es) (by simp [walkOf]) fun x hx => ⟨_, rfl, by
              simp [wipe, is_entry_ok (n := n + 3) C.e C.F.i (fzL_mem zc hx) w]⟩
        have hes' := hes [some (.tup [a, .int ib, .tup es, d, e, g]), none, some a, some (.int ib), some (.tup es), some d, some e, some g, none] rfl rfl
        by_cases hl : es.length ≤ 4
        · have hl' : ¬ (4 : Int) < (es.length : Int) := by omega
          cases he : es.all fEntry with
          | false => simp [bIsPromise, hs, ha, fa, hb, fb, fPromise, hsc, hl', hes', he, fRows4]
          | true =>
          have fr : fRows4 (.tup es) = true := by simp [fRows4, hl, he]
          have hd := are_claims_ok (n := n) C.c C.F (m := 12) zd w
          have he' := are_claims_ok (n := n) C.c C.F (m := 12) ze w
          have hg := are_claims_ok (n := n) C.c C.F (m := 16) zg w
          cases fd : fClaims d 12 with
          | false => simp [bIsPromise, hs, ha, fa, hb, fb, fPromise, hsc, hl', hes', he, fr, hd, fd]
          | true =>
          cases fE : fClaims e 12 with
          | false => simp [bIsPromise, hs, ha, fa, hb, fb, fPromise, hsc, hl', hes', he, fr, hd, fd, he', fE]
          | true =>
          cases fG : fClaims g 16 with
          | false => simp [bIsPromise, hs, ha, fa, hb, fb, fPromise, hsc, hl', hes', he, fr, hd, fd, he', fE, hg, fG]
          | true =>
          obtain ⟨ds, rfl, ld, ad⟩ := fClaims_tup fd
          obtain ⟨es2, rfl, le, ae⟩ := fClaims_tup fE
          obtain ⟨gs, rfl, lg, ag⟩ := fClaims_tup fG
          cases hge : gs with
          | nil =>
            subst hge
            simp [bIsPromise, hs, ha, fa, hb, fb, fPromise, hsc, hl', hes', he, fr, hd, fd, he', fE, hg, fG, itemsOf]
          | cons g0 gr =>
            have hne : ¬ ((gr.length : Int) + 1 = 0) := by omega
            have ho1 := are_over_ok (n := n + 4) C.o (fs := ds ++ gs) (more := []) (ins := ib) (rows := es.length) (by rw [List.all_append, ad, ag]; rfl) rfl w
            have ho2 := are_over_ok (n := n + 4) C.o (fs := es2) (more := [.int 31]) (ins := ib) (rows := es.length) ae rfl w
            have hadd := add_tup (S := S) (xs := ds) (ys := gs) (by omega)
            subst hge
            cases o1 : (ds ++ g0 :: gr).all (fOverF ib es.length []) with
            | false => simp [bIsPromise, hs, ha, fa, hb, fb, fPromise, hsc, hl', hes', he, fr, hd, fd, he', fE, hg, fG, itemsOf, intOf, hadd, ho1, hne, o1]
            | true => simp [bIsPromise, hs, ha, fa, hb, fb, fPromise, hsc, hl', hes', he, fr, hd, fd, he', fE, hg, fG, itemsOf, intOf, hadd, ho1, ho2, hne, o1]
        · have hl' : (4 : Int) < (es.length : Int) := by omega
          simp [bIsPromise, hs, ha, fa, hb, fb, fPromise, hsc, hl', hl, fRows4]
      | non => exact restc rfl rfl
      | bl _ => exact restc rfl rfl
      | int _ => exact restc rfl rfl
      | str _ => exact restc rfl rfl
      | lst _ => exact restc rfl rfl
      | _ => exact absurd zc (by simp [PV.fz])
    | [], _, _, short, _ => exact short (by simp)
    | [_], _, _, short, _ => exact short (by simp)
    | [_, _], _, _, short, _ => exact short (by simp)
    | [_, _, _], _, _, short, _ => exact short (by simp)
    | [_, _, _, _], _, _, short, _ => exact short (by simp)
    | [_, _, _, _, _], _, _, short, _ => exact short (by simp)
    | _ :: _ :: _ :: _ :: _ :: _ :: _ :: r, _, _, short, _ => exact short (by simp)
  | _ => first | exact rest rfl | cases hv
end
end CW
end

section
set_option Elab.async false
set_option linter.all false
set_option maxRecDepth 100000
set_option maxHeartbeats 1000000
/-! Behind a call; checks that raise; values_by. -/
namespace CW
open PySem
mutual
theorem PV.under_mono {n m : Nat} (h : n ≤ m) : ∀ (v : PV), v.under n = true → v.under m = true
  | .loc l, hv => by
    simp only [PV.under, decide_eq_true_eq] at *; omega
  | .tup xs, hv => underL_mono h xs hv
  | .lst xs, hv => underL_mono h xs hv
  | .dct kvs, hv => underKv_mono h kvs hv
  | .exn _ _, hv => by cases hv
  | .clo, hv => by cases hv
  | .non, _ => rfl
  | .bl _, _ => rfl
  | .int _, _ => rfl
  | .str _, _ => rfl
  | .ty _, _ => rfl
  | .gl _, _ => rfl
theorem underL_mono {n m : Nat} (h : n ≤ m) : ∀ (xs : List PV), underL n xs = true → underL m xs = true
  | [], _ => rfl
  | x :: xs, hv => by
    simp only [underL, Bool.and_eq_true] at *
    exact ⟨PV.under_mono h x hv.1, underL_mono h xs hv.2⟩
theorem underKv_mono {n m : Nat} (h : n ≤ m) : ∀ (xs : List (PV × PV)), underKv n xs = true → underKv m xs = true
  | [], _ => rfl
  | (a, b) :: xs, hv => by
    simp only [underKv, Bool.and_eq_true] at *
    exact ⟨⟨PV.under_mono h a hv.1.1, PV.under_mono h b hv.1.2⟩, underKv_mono h xs hv.2⟩
end
theorem underF_mono {n m : Nat} (h : n ≤ m) : ∀ (xs : List (Str × PV)), underF n xs = true → underF m xs = true
  | [], _ => rfl
  | (a, b) :: xs, hv => by
    simp only [underF, Bool.and_eq_true] at *
    exact ⟨PV.under_mono h b hv.1, underF_mono h xs hv.2⟩
theorem Ob.under_mono {n m : Nat} (h : n ≤ m) : ∀ (o : Ob), o.under n = true → o.under m = true
  | .lst xs, hv => underL_mono h xs hv
  | .dct xs, hv => underKv_mono h xs hv
  | .ins _ fs, hv => underF_mono h fs hv
  | .dead, _ => rfl
theorem underS_mono {n m : Nat} (h : n ≤ m) : ∀ (S : Store), underS n S = true → underS m S = true
  | [], _ => rfl
  | o :: S, hv => by
    simp only [underS, Bool.and_eq_true] at *
    exact ⟨o.under_mono h hv.1, underS_mono h S hv.2⟩
theorem underS_append {n : Nat} : ∀ (S T : Store), underS n (S ++ T) = (underS n S && underS n T)
  | [], T => by simp [underS]
  | o :: S, T => by simp [underS, underS_append S T, Bool.and_assoc]
mutual
theorem PV.fz_under {n : Nat} : ∀ (v : PV), v.fz = true → v.under n = true
  | .non, _ => rfl
  | .bl _, _ => rfl
  | .int _, _ => rfl
  | .str _, _ => rfl
  | .tup xs, h => fzL_under xs h
  | .lst xs, h => fzL_under xs h
  | .dct _, h => by cases h
  | .loc _, h => by cases h
  | .ty _, h => by cases h
  | .gl _, h => by cases h
  | .clo, h => by cases h
  | .exn _ _, h => by cases h
theorem fzL_under {n : Nat} : ∀ (xs : List PV), fzL xs = true → underL n xs = true
  | [], _ => rfl
  | x :: xs, h => by
    simp only [fzL, underL, Bool.and_eq_true] at *
    exact ⟨PV.fz_under x h.1, fzL_under xs h.2⟩
end
theorem fzL_all : ∀ {xs : List PV}, (∀ x ∈ xs, x.fz = true) → fzL xs = true
  | [], _ => rfl
  | x :: xs, h => by
    simp only [fzL, Bool.and_eq_true]
    exact ⟨h x List.mem_cons_self, fzL_all fun y hy => h y (List.mem_cons_of_mem _ hy)⟩
theorem fzL_append {xs ys : List PV} : fzL (xs ++ ys) = (fzL xs && fzL ys) := by
  induction xs with
  | nil => simp [fzL]
  | cons x xs ih => simp [fzL, ih, Bool.and_assoc]
section
variable {sx : Sx} {d : Dfn} {vs : List PV} {S S' : Store} {v : PV} {ρ' : Env} {x : Str}
/-- a run that hands back a plain value and drops what it made -/
theorem runD_drop (hl : vs.length = d.par) (h : execL sx d.body (begin_ d vs) S = .ret v S') (u : v.under S.length = true) (w : underS S.length (S'.take S.length) = true) : runD sx d vs S = .ok v (S'.take S.length) := by
  unfold runD
  rw [if_pos hl, h]
  show back _ _ _ = _
  unfold back
  rw [u, w]; rfl
/-- a run that hands back a thing it made -/
theorem runD_keep (hl : vs.length = d.par) (h : execL sx d.body (begin_ d vs) S = .ret v S') (u : v.under S.length = false) (u' : v.under S'.length = true) (w : Wf S') : runD sx d vs S = .ok v S' := by
  unfold runD
  rw [if_pos hl, h]
  show back _ _ _ = _
  unfold back
  rw [u, u', w]; rfl
theorem runD_exc (hl : vs.length = d.par) (h : execL sx d.body (begin_ d vs) S = .exc ⟨x, []⟩ ρ' S') (w : underS S.length (S'.take S.length) = true) : runD sx d vs S = .exc ⟨x, []⟩ (S'.take S.length) := by
  unfold runD
  rw [if_pos hl, h]
  show backX _ _ _ = _
  unfold backX
  rw [w]; rfl
theorem runD_next (hl : vs.length = d.par) (h : execL sx d.body (begin_ d vs) S = .next ρ' S) (w : Wf S) : runD sx d vs S = .ok .non S := by
  unfold runD
  rw [if_pos hl, h]
  exact back_same rfl w
theorem runD_excS (hl : vs.length = d.par) (h : execL sx d.body (begin_ d vs) S = .exc ⟨x, []⟩ ρ' S) (w : Wf S) : runD sx d vs S = .exc ⟨x, []⟩ S := by
  have := runD_exc hl h (by rw [List.take_length]; exact w)
  rw [List.take_length] at this
  exact this
end
theorem get_last {S : Store} {o : Ob} : (S ++ [o])[S.length]? = some o := by simp
theorem set_last {S : Store} {o o' : Ob} : (S ++ [o]).set S.length o' = S ++ [o'] := by simp
/-! ### dicts that count up -/
def kvI : Nat → List PV → List (PV × PV)
  | _, [] => []
  | b, x :: xs => (.int b, x) :: kvI (b + 1) xs
theorem keq_int {a b : Int} : PV.keq (.int a) (.int b) = (a == b) := by simp [PV.keq]
theorem kvI_any : ∀ {xs : List PV} {b : Nat} {k : Int}, (kvI b xs).any (fun p => p.1.keq (.int k)) = (decide ((b : Int) ≤ k) && decide (k < b + xs.length))
  | [], b, k => by
    simp only [kvI, List.any_nil, List.length_nil]
    by_cases h : (b : Int) ≤ k
    · have : ¬ k < (b : Int) + ((0 : Nat) : Int) := by omega
      simp [h, this]
    · simp [h]
  | x :: xs, b, k => by
    simp only [kvI, List.any_cons, keq_int, kvI_any, List.length_cons]
    rw [Bool.eq_iff_iff]
    simp only [Bool.or_eq_true, beq_iff_eq, Bool.and_eq_true, decide_eq_true_eq]
    omega
theorem dput_new {kvs : List (PV × PV)} {k v : PV} (h : kvs.any (fun p => p.1.keq k) = false) : dput kvs k v = kvs ++ [(k, v)] := by
  unfold dput
  rw [h]; rfl
theorem kvI_snoc : ∀ {xs : List PV} {b : Nat} {x : PV}, kvI b (xs ++ [x]) = kvI b xs ++ [(.int ((b + xs.length : Nat) : Int), x)]
  | [], b, x => rfl
  | y :: xs, b, x => by
    have e : b + 1 + xs.length = b + (xs.length + 1) := by omega
    simp only [List.cons_append, kvI, kvI_snoc, List.length_cons, e]
theorem kvI_k1 : ∀ {xs : List PV} {b : Nat}, (kvI b xs).all (fun p => isK1 p.1) = true
  | [], _ => rfl
  | x :: xs, b => by
    simp only [kvI, List.all_cons, kvI_k1, Bool.and_true]
    rfl
theorem kvI_len : ∀ {xs : List PV} {b : Nat}, (kvI b xs).length = xs.length
  | [], _ => rfl
  | x :: xs, b => by simp [kvI, kvI_len]
theorem dget_cons {p : PV × PV} {kvs : List (PV × PV)} {k : PV} : dget (p :: kvs) k = if p.1.keq k then some p.2 else dget kvs k := by
  unfold dget
  rw [List.find?_cons]
  cases h : p.1.keq k <;> rfl
theorem dget_kvI : ∀ {xs : List PV} {b : Nat} {k : Int} {r : List (PV × PV)}, dget (kvI b xs ++ r) (.int k) = if (b : Int) ≤ k ∧ k < b + xs.length then xs[(k - b).toNat]? else dget r (.int k)
  | [], b, k, r => by
    rw [if_neg (by simp only [List.length_nil]; omega)]
    rfl
  | x :: xs, b, k, r => by
    simp only [kvI, List.cons_append, dget_cons, keq_int, dget_kvI, List.length_cons]
    by_cases h : (b : Int) = k
    · subst h
      rw [if_pos (by simp), if_pos (by omega)]
      simp
    · rw [if_neg (by simpa using h)]
      by_cases h2 : ((b + 1 : Nat) : Int) ≤ k ∧ k < ((b + 1 : Nat) : Int) + xs.length
      · rw [if_pos h2, if_pos (by omega)]
        have : (k - b).toNat = (k - ((b + 1 : Nat) : Int)).toNat + 1 := by omega
        rw [this, List.getElem?_cons_succ]
      · rw [if_neg h2, if_neg (by omega)]
/-- {at: one for at, one in enumerate(xs)} -/
theorem dcompL_enum {f : PV → Store → Res (Option (PV × PV))} {S : Store} (hf : ∀ (i : Int) (x : PV), f (.tup [.int i, x]) S = .ok (some (.int i, x)) S) : ∀ {xs ys : List PV}, dcompL f (enumL ys.length xs) (kvI 0 ys) S = .ok (kvI 0 (ys ++ xs)) S
  | [], ys => by simp [enumL, dcompL]
  | x :: xs, ys => by
    have h0 : dput (kvI 0 ys) (.int (ys.length : Int)) x = kvI 0 (ys ++ [x]) := by
      rw [dput_new, kvI_snoc]
      · simp
      · rw [kvI_any]
        simp
    have ih := dcompL_enum hf (xs := xs) (ys := ys ++ [x])
    rw [List.length_append] at ih
    simp only [List.length_cons, List.length_nil] at ih
    simp only [enumL, dcompL, hf, Res.calm_ok, Res.bind_ok, isK1, if_true, h0]
    rw [Nat.zero_add] at ih
    rw [ih, List.append_assoc]
    rfl
end CW
end

section
set_option Elab.async false
set_option linter.all false
set_option maxRecDepth 100000
set_option maxHeartbeats 1000000
/-! The checks of told.py, values_by. -/
namespace CW
open PySem
section
variable {P : Prog} {f fi fw fp ff fn fe fc fo fP : Nat} {n : Nat} {S : Store}
/-! ### check_promise -/
def bChkP (fP : Nat) : Ss := (.cons (.iff (.not (.val (.call fP (.cons (.var 0) .nil)))) (.cons (.raise "NoPromise" .nil) .nil) .nil) .nil)
structure HasProm (P : Prog) (fi fw fp ff fc fn fe fo fP : Nat) : Prop where
  C : HasCode P fi fw fp ff fc fn fe fo
  p : P.defs[fP]? = some ⟨1, 9, bIsPromise fw fc fn fe fo⟩
theorem is_promise_ok' (C : HasProm P fi fw fp ff fc fn fe fo fP) {v : PV} (hv : v.fz = true) (hsh : ∀ a ∈ itemsOf v, shortS a = true) (w : Wf S) : callN P (n + 6) fP [v] S = .ok (.bl (fPromise v)) S := is_promise_ok C.p C.C hv hsh w
theorem check_promise_ok (h : P.defs[f]? = some ⟨1, 1, bChkP fP⟩) (C : HasProm P fi fw fp ff fc fn fe fo fP) {v : PV} (hv : v.fz = true) (hsh : ∀ a ∈ itemsOf v, shortS a = true) (w : Wf S) (hp : fPromise v = true) : callN P (n + 7) f [v] S = .ok .non S := by
  rw [callN_def h]
  refine runD_next (ρ' := [some v]) rfl ?_ w
  show execL (sxN P (n + 6)) (bChkP fP) [some v] S = _
  simp [bChkP, is_promise_ok' (n := n) C hv hsh w, hp]
theorem check_promise_no (h : P.defs[f]? = some ⟨1, 1, bChkP fP⟩) (C : HasProm P fi fw fp ff fc fn fe fo fP) {v : PV} (hv : v.fz = true) (hsh : ∀ a ∈ itemsOf v, shortS a = true) (w : Wf S) (hp : fPromise v = false) : callN P (n + 7) f [v] S = .exc ⟨"NoPromise", []⟩ S := by
  rw [callN_def h]
  refine runD_excS (ρ' := [some v]) rfl ?_ w
  show execL (sxN P (n + 6)) (bChkP fP) [some v] S = _
  simp [bChkP, is_promise_ok' (n := n) C hv hsh w, hp]
/-! ### check_ins -/
def bChkI (fi : Nat) : Ss := (.cons (.iff (.bool false (.cons (.not (.val (.isin (.var 1) [(.bt .tuple)]))) (.cons (.cmp .ne (.bi false .len (.cons (.var 1) .nil)) (.idx (.var 0) (.const (.int 1)))) (.cons (.not (.val (.bi false .all (.cons (.comp false [2] (.call fi (.cons (.var 2) .nil)) (.name 2) (.seq (.var 1)) .nil) .nil)))) .nil)))) (.cons (.raise "NoIns" .nil) .nil) .nil) .nil)
def fIns (i : Int) (v : PV) : Bool := match v with
  | .tup xs => ((xs.length : Int) == i) && xs.all fInt
  | _ => false
section
variable {a : PV} {i : Int} {r : List PV}
theorem chk_ins_body (hi : P.defs[fi]? = some ⟨1, 1, bIsInteger⟩) {v : PV} (hv : v.fz = true) (w : Wf S) : execL (sxN P (n + 1)) (bChkI fi) [some (.tup (a :: .int i :: r)), some v, none] S = if fIns i v then .next [some (.tup (a :: .int i :: r)), some v, none] S else .exc ⟨"NoIns", []⟩ [some (.tup (a :: .int i :: r)), some v, none] S := by
  have rest : isinstL P.sub v S [.bt .tuple] = some false → fIns i v = false → execL (sxN P (n + 1)) (bChkI fi) [some (.tup (a :: .int i :: r)), some v, none] S = if fIns i v then .next [some (.tup (a :: .int i :: r)), some v, none] S else .exc ⟨"NoIns", []⟩ [some (.tup (a :: .int i :: r)), some v, none] S := fun hb h0 => by
    simp [bChkI, hb, h0]
  cases v with
  | tup xs =>
    have hs : isinstL P.sub (.tup xs) S [.bt .tuple] = some true := rfl
    have hc : den (sxN P (n + 1)) (.comp false [2] (.call fi (.cons (.var 2) .nil)) (.name 2) (.seq (.var 1)) .nil) [some (.tup (a :: .int i :: r)), some (.tup xs), none] S = .ok (.lst (xs.map fun x => .bl (fInt x))) S :=
      den_compb (xs := xs) (by simp [walkOf]) fun x hx => ⟨_, rfl, by
        show den (sxN P (n + 1)) _ [some (.tup (a :: .int i :: r)), some (.tup xs), some x] S = _
        simp [is_integer_ok (n := n) hi (fzL_mem hv hx) w]⟩
    by_cases hl : (xs.length : Int) = i
    · cases hall : xs.all fInt <;> simp [bChkI, hs, hc, hl, hall, fIns]
    · simp [bChkI, hs, hl, fIns]
  | _ => first | exact rest rfl rfl | cases hv
theorem check_ins_ok (h : P.defs[f]? = some ⟨2, 3, bChkI fi⟩) (hi : P.defs[fi]? = some ⟨1, 1, bIsInteger⟩) {v : PV} (hv : v.fz = true) (w : Wf S) (hp : fIns i v = true) : callN P (n + 2) f [.tup (a :: .int i :: r), v] S = .ok .non S := by
  rw [callN_def h]
  refine runD_next (ρ' := [some (.tup (a :: .int i :: r)), some v, none]) rfl ?_ w
  exact (chk_ins_body hi hv w).trans (by rw [hp]; rfl)
theorem check_ins_no (h : P.defs[f]? = some ⟨2, 3, bChkI fi⟩) (hi : P.defs[fi]? = some ⟨1, 1, bIsInteger⟩) {v : PV} (hv : v.fz = true) (w : Wf S) (hp : fIns i v = false) : callN P (n + 2) f [.tup (a :: .int i :: r), v] S = .exc ⟨"NoIns", []⟩ S := by
  rw [callN_def h]
  refine runD_excS (ρ' := [some (.tup (a :: .int i :: r)), some v, none]) rfl ?_ w
  exact (chk_ins_body hi hv w).trans (by rw [hp]; rfl)
end
/-! ### check_lengths -/
def bChkL (fi : Nat) : Ss := (.cons (.iff (.bool false (.cons (.not (.val (.isin (.var 1) [(.bt .tuple)]))) (.cons (.cmp .ne (.bi false .len (.cons (.var 1) .nil)) (.bi false .len (.cons (.idx (.var 0) (.const (.int 2))) .nil))) .nil))) (.cons (.raise "NoLengths" .nil) .nil) .nil) (.cons (.iff (.not (.val (.bi false .all (.cons (.comp false [2] (.bool true (.cons (.call fi (.cons (.var 2) .nil)) (.cons (.cmp .ge (.var 2) (.const (.int 0))) .nil))) (.name 2) (.seq (.var 1)) .nil) .nil)))) (.cons (.raise "NoLengths" .nil) .nil) .nil) .nil))
def fNat (v : PV) : Bool := match v with
  | .int i => decide (0 ≤ i)
  | _ => false
def fLens (m : Nat) (v : PV) : Bool := match v with
  | .tup xs => decide (xs.length = m) && xs.all fNat
  | _ => false
section
variable {a b : PV} {es : List PV} {r : List PV}
theorem chk_lens_body (hi : P.defs[fi]? = some ⟨1, 1, bIsInteger⟩) {v : PV} (hv : v.fz = true) (w : Wf S) : execL (sxN P (n + 1)) (bChkL fi) [some (.tup (a :: b :: .tup es :: r)), some v, none] S = if fLens es.length v then .next [some (.tup (a :: b :: .tup es :: r)), some v, none] S else .exc ⟨"NoLengths", []⟩ [some (.tup (a :: b :: .tup es :: r)), some v, none] S := by
  have rest : isinstL P.sub v S [.bt .tuple] = some false → fLens es.length v = false → execL (sxN P (n + 1)) (bChkL fi) [some (.tup (a :: b :: .tup es :: r)), some v, none] S = if fLens es.length v then .next [some (.tup (a :: b :: .tup es :: r)), some v, none] S else .exc ⟨"NoLengths", []⟩ [some (.tup (a :: b :: .tup es :: r)), some v, none] S := fun hb h0 => by
    simp [bChkL, hb, h0]
  cases v with
  | tup xs =>
    have hs : isinstL P.sub (.tup xs) S [.bt .tuple] = some true := rfl
    have hc : den (sxN P (n + 1)) (.comp false [2] (.bool true (.cons (.call fi (.cons (.var 2) .nil)) (.cons (.cmp .ge (.var 2) (.const (.int 0))) .nil))) (.name 2) (.seq (.var 1)) .nil) [some (.tup (a :: b :: .tup es :: r)), some (.tup xs), none] S = .ok (.lst (xs.map fun x => .bl (fNat x))) S :=
      den_compb (xs := xs) (by simp [walkOf]) fun x hx => ⟨_, rfl, by
        show den (sxN P (n + 1)) _ [some (.tup (a :: b :: .tup es :: r)), some (.tup xs), some x] S = _
        have := is_integer_ok (n := n) hi (fzL_mem hv hx) w
        cases x <;> simp [this, fInt, fNat]⟩
    by_cases hl : xs.length = es.length
    · cases hall : xs.all fNat <;> simp [bChkL, hs, hc, hl, hall, fLens]
    · have hl' : ¬ (xs.length : Int) = (es.length : Int) := by omega
      simp [bChkL, hs, hl, hl', fLens]
  | _ => first | exact rest rfl rfl | cases hv
theorem check_lengths_ok (h : P.defs[f]? = some ⟨2, 3, bChkL fi⟩) (hi : P.defs[fi]? = some ⟨1, 1, bIsInteger⟩) {v : PV} (hv : v.fz = true) (w : Wf S) (hp : fLens es.length v = true) : callN P (n + 2) f [.tup (a :: b :: .tup es :: r), v] S = .ok .non S := by
  rw [callN_def h]
  refine runD_next (ρ' := [some (.tup (a :: b :: .tup es :: r)), some v, none]) rfl ?_ w
  exact (chk_lens_body hi hv w).trans (by rw [hp]; rfl)
theorem check_lengths_no (h : P.defs[f]? = some ⟨2, 3, bChkL fi⟩) (hi : P.defs[fi]? = some ⟨1, 1, bIsInteger⟩) {v : PV} (hv : v.fz = true) (w : Wf S) (hp : fLens es.length v = false) : callN P (n + 2) f [.tup (a :: b :: .tup es :: r), v] S = .exc ⟨"NoLengths", []⟩ S := by
  rw [callN_def h]
  refine runD_excS (ρ' := [some (.tup (a :: b :: .tup es :: r)), some v, none]) rfl ?_ w
  exact (chk_lens_body hi hv w).trans (by rw [hp]; rfl)
end
/-! ### are_rows -/
def bAreRows (fi : Nat) : Ss := (.cons (.iff (.bool false (.cons (.not (.val (.isin (.var 0) [(.bt .tuple)]))) (.cons (.cmp .ne (.bi false .len (.cons (.var 0) .nil)) (.var 1)) (.cons (.not (.val (.bi false .all (.cons (.comp false [2] (.isin (.var 2) [(.bt .tuple)]) (.name 2) (.seq (.var 0)) .nil) .nil)))) .nil)))) (.cons (.ret (.const (.bl false))) .nil) .nil) (.cons (.ret (.bi false .all (.cons (.comp false [2] (.bool true (.cons (.cmp .le (.bi false .len (.cons (.var 2) .nil)) (.glob "MOST_CELLS" (.int 200))) (.cons (.bi false .all (.cons (.comp false [3] (.call fi (.cons (.var 3) .nil)) (.name 3) (.seq (.var 2)) .nil) .nil)) .nil))) (.name 2) (.seq (.var 0)) .nil) .nil))) .nil))
def fTup (v : PV) : Bool := match v with
  | .tup _ => true
  | _ => false
def fRow (v : PV) : Bool := match v with
  | .tup xs => decide ((xs.length : Int) ≤ 200) && xs.all fInt
  | _ => false
def fRows (m : Int) (v : PV) : Bool := match v with
  | .tup xs => ((xs.length : Int) == m) && (xs.all fTup && xs.all fRow)
  | _ => false
theorem isin_tup' {sub : Str → Cl → Option Bool} {v : PV} (h : v.fz = true) : isinstL sub v S [.bt .tuple] = some (fTup v) := by
  cases v <;> first | rfl | cases h
theorem are_rows_ok (h : P.defs[f]? = some ⟨2, 4, bAreRows fi⟩) (hi : P.defs[fi]? = some ⟨1, 1, bIsInteger⟩) {v : PV} {m : Int} (hv : v.fz = true) (w : Wf S) : callN P (n + 2) f [v, .int m] S = .ok (.bl (fRows m v)) S := by
  rw [callN_def h]
  refine runD_ret rfl ?_ rfl w
  show execL (sxN P (n + 1)) (bAreRows fi) [some v, some (.int m), none, none] S = _
  have rest : isinstL P.sub v S [.bt .tuple] = some false → execL (sxN P (n + 1)) (bAreRows fi) [some v, some (.int m), none, none] S = .ret (.bl false) S := fun hb => by
    simp [bAreRows, hb]
  cases v with
  | tup xs =>
    have hs : isinstL P.sub (.tup xs) S [.bt .tuple] = some true := rfl
    have hc : den (sxN P (n + 1)) (.comp false [2] (.isin (.var 2) [(.bt .tuple)]) (.name 2) (.seq (.var 0)) .nil) [some (.tup xs), some (.int m), none, none] S = .ok (.lst (xs.map fun x => .bl (fTup x))) S :=
      den_compb (xs := xs) (by simp [walkOf]) fun x hx => ⟨_, rfl, by
        show den (sxN P (n + 1)) _ [some (.tup xs), some (.int m), some x, none] S = _
        simp [isin_tup' (S := S) (sub := P.sub) (fzL_mem hv hx)]⟩
    by_cases hl : (xs.length : Int) = m
    · cases hall : xs.all fTup with
      | false => simp [bAreRows, hs, hc, hl, hall, fRows]
      | true =>
        have hd : den (sxN P (n + 1)) (.comp false [2] (.bool true (.cons (.cmp .le (.bi false .len (.cons (.var 2) .nil)) (.glob "MOST_CELLS" (.int 200))) (.cons (.bi false .all (.cons (.comp false [3] (.call fi (.cons (.var 3) .nil)) (.name 3) (.seq (.var 2)) .nil) .nil)) .nil))) (.name 2) (.seq (.var 0)) .nil) [some (.tup xs), some (.int m), none, none] S = .ok (.lst (xs.map fun x => .bl (fRow x))) S :=
          den_compb (xs := xs) (by simp [walkOf]) fun x hx => ⟨_, rfl, by
            show den (sxN P (n + 1)) _ [some (.tup xs), some (.int m), some x, none] S = _
            have hx' := List.all_eq_true.mp hall x hx
            cases x with
            | tup ys =>
              have hys : fzL ys = true := fzL_mem hv hx
              have hc2 : den (sxN P (n + 1)) (.comp false [3] (.call fi (.cons (.var 3) .nil)) (.name 3) (.seq (.var 2)) .nil) [some (.tup xs), some (.int m), some (.tup ys), none] S = .ok (.lst (ys.map fun x => .bl (fInt x))) S :=
                den_compb (xs := ys) (by simp [walkOf]) fun y hy => ⟨_, rfl, by
                  show den (sxN P (n + 1)) _ [some (.tup xs), some (.int m), some (.tup ys), some y] S = _
                  simp [is_integer_ok (n := n) hi (fzL_mem hys hy) w]⟩
              by_cases h2 : (ys.length : Int) ≤ 200
              · simp [h2, hc2, fRow]
              · simp [h2, fRow]
            | _ => cases hx'⟩
        simp [bAreRows, hs, hc, hl, hall, fRows, hd]
    · simp [bAreRows, hs, hl, fRows]
  | _ => first | exact rest rfl | cases hv
/-! ### values_by -/
def bValues : Ss := (.cons (.asg (.name 2) (.dcomp true [5, 6] (.var 5) (.var 6) (.tup (.cons (.name 5) (.cons (.name 6) .nil))) (.enum (.var 0)) .nil)) (.cons (.for_ (.tup (.cons (.name 3) (.cons (.name 4) .nil))) (.enum (.var 1)) (.cons (.asg (.sub (.var 2) (.bin .add (.glob "FIRST_LENGTH" (.int 32)) (.var 3))) (.var 4)) .nil)) (.cons (.ret (.var 2)) .nil)))
def vals (xs ys : List PV) : List (PV × PV) := kvI 0 xs ++ kvI 32 ys
theorem underKv_kvI {m : Nat} : ∀ {xs : List PV} {b : Nat}, fzL xs = true → underKv m (kvI b xs) = true
  | [], _, _ => rfl
  | x :: xs, b, h => by
    simp only [fzL, Bool.and_eq_true] at h
    simp only [kvI, underKv, underKv_kvI h.2, PV.fz_under x h.1, Bool.and_true]
    rfl
theorem underKv_append {m : Nat} : ∀ {xs ys : List (PV × PV)}, underKv m (xs ++ ys) = (underKv m xs && underKv m ys)
  | [], ys => by simp [underKv]
  | (a, b) :: xs, ys => by simp [underKv, underKv_append, Bool.and_assoc]
theorem vals_k1 {xs ys : List PV} : (vals xs ys).all (fun p => isK1 p.1) = true := by
  unfold vals
  rw [List.all_append, kvI_k1, kvI_k1]; rfl
theorem wf_snoc {S : Store} {o : Ob} (w : Wf S) (h : o.under S.length = true) : Wf (S ++ [o]) := by
  unfold Wf
  rw [underS_append, List.length_append]
  simp only [List.length_cons, List.length_nil, underS, Bool.and_true, Bool.and_eq_true]
  exact ⟨underS_mono (Nat.le_succ _) S w, o.under_mono (Nat.le_succ _) h⟩
theorem asgT_sub {sx : Sx} {o i : E} {v : PV} {ρ : Env} : asgT sx (.sub o i) v ρ S = (den sx o ρ S).st ρ fun a S => (den sx i ρ S).st ρ fun b S => match setop a b v S with
    | some S' => .next ρ S'
    | none => .bad := rfl
theorem values_loop {sx : Sx} {S : Store} {xs : List PV} {x0 x1 : Option PV} (hx : xs.length ≤ 32) : ∀ {zs ys : List PV} {a b c d : Option PV}, xs.length + ys.length + zs.length < 1000 → ∃ a' b', forL (asgT sx (.tup (.cons (.name 3) (.cons (.name 4) .nil)))) (execL sx (.cons (.asg (.sub (.var 2) (.bin .add (.glob "FIRST_LENGTH" (.int 32)) (.var 3))) (.var 4)) .nil)) (enumL ys.length zs) [x0, x1, some (.loc S.length), a, b, c, d] (S ++ [.dct (vals xs ys)]) = .next [x0, x1, some (.loc S.length), a', b', c, d] (S ++ [.dct (vals xs (ys ++ zs))])
  | [], ys, a, b, c, d, _ => ⟨a, b, by simp [enumL, forL]⟩
  | z :: zs, ys, a, b, c, d, hl => by
    simp only [List.length_cons] at hl
    have hset : setop (.loc S.length) (.int (32 + (ys.length : Int))) z (S ++ [.dct (vals xs ys)]) = some (S ++ [.dct (vals xs (ys ++ [z]))]) := by
      have hk : dOk (vals xs ys) (.int (32 + (ys.length : Int))) = true := by
        unfold dOk
        rw [vals_k1]; rfl
      have hn : (vals xs ys).length < LINE := by
        unfold vals LINE
        rw [List.length_append, kvI_len, kvI_len]; omega
      unfold setop
      simp only [get_last, hk, Bool.true_or, hn, decide_true, Bool.and_self, if_true, set_last]
      congr 4
      unfold vals
      rw [dput_new, kvI_snoc, List.append_assoc]
      · congr 4
      · rw [List.any_append, kvI_any, kvI_any]
        rw [Bool.or_eq_false_iff]
        refine ⟨?_, ?_⟩
        · have : ¬ (32 + (ys.length : Int) < ((0 : Nat) : Int) + xs.length) := by omega
          simp only [this, decide_false, Bool.and_false]
        · have : ¬ (32 + (ys.length : Int) < ((32 : Nat) : Int) + ys.length) := by omega
          simp only [this, decide_false, Bool.and_false]
    obtain ⟨a', b', ih⟩ := values_loop (sx := sx) (S := S) (x0 := x0) (x1 := x1) hx (zs := zs) (ys := ys ++ [z]) (a := some (.int (ys.length : Int))) (b := some z) (c := c) (d := d) (by simp only [List.length_append, List.length_cons, List.length_nil]; omega)
    refine ⟨a', b', ?_⟩
    rw [List.append_assoc, List.length_append] at ih
    simp only [List.length_cons, List.length_nil, Nat.zero_add, List.cons_append, List.nil_append] at ih
    rw [← ih]
    simp only [enumL, forL, asgT_tup, asgTs_cons, asgTs_nil, asgT_name, SRes.andThen_next, List.set_cons_succ, List.set_cons_zero, execL_cons, execL_nil, exec_asg, den_varS, den_var0, Res.st_ok]
    simp only [asgT_sub, den_varS, den_var0, den_bin, den_glob, Res.bind_ok, add_int, Res.of_some, Res.st_ok, hset, SRes.andThen_next]
    rfl
theorem values_by_ok (h : P.defs[f]? = some ⟨2, 7, bValues⟩) {xs ys : List PV} {v : PV} (hv : v = .tup ys ∨ v = .lst ys) (hx : fzL xs = true) (hy : fzL ys = true) (lx : xs.length ≤ 32) (ly : ys.length ≤ 900) (w : Wf S) : callN P (n + 1) f [.tup xs, v] S = .ok (.loc S.length) (S ++ [.dct (vals xs ys)]) := by
  rw [callN_def h]
  have hd : den (sxN P n) (.dcomp true [5, 6] (.var 5) (.var 6) (.tup (.cons (.name 5) (.cons (.name 6) .nil))) (.enum (.var 0)) .nil) [some (.tup xs), some v, none, none, none, none, none] S = .ok (.loc S.length) (S ++ [.dct (vals xs [])]) := by
    rw [den_dcomp]
    have hf := dcompL_enum (S := S) (f := dcompF [5, 6] (.tup (.cons (.name 5) (.cons (.name 6) .nil))) (denT2 (sxN P n) .nil) (den (sxN P n) (.var 5)) (den (sxN P n) (.var 6)) [some (.tup xs), some v, none, none, none, none, none]) (fun i x => rfl) (xs := xs) (ys := [])
    simp only [denI_enum, den_var0, Res.bind_ok, enumOf, Res.of_some]
    rw [List.length_nil] at hf
    rw [show kvI 0 [] = [] from rfl] at hf
    rw [hf]
    show Res.ok (PV.loc S.length) (S ++ [Ob.dct (kvI 0 ([] ++ xs))]) = _
    unfold vals
    rw [List.nil_append]
    simp [kvI]
  obtain ⟨a', b', hl⟩ := values_loop (sx := sxN P n) (S := S) (x0 := some (.tup xs)) (x1 := some v) lx (zs := ys) (ys := []) (a := none) (b := none) (c := none) (d := none) (by simp only [List.length_nil]; omega)
  refine runD_keep (d := ⟨2, 7, bValues⟩) (vs := [.tup xs, v]) (S' := S ++ [.dct (vals xs ys)]) rfl ?_ ?_ ?_ ?_
  · show execL (sxN P n) bValues [some (.tup xs), some v, none, none, none, none, none] S = _
    have he : enumOf v = some (enumL 0 ys) := by rcases hv with rfl | rfl <;> rfl
    rw [List.nil_append, List.length_nil] at hl
    simp only [bValues, execL_cons, execL_nil, exec_asg, hd, Res.st_ok, asgT_name, SRes.andThen_next, exec_for, denI_enum, List.set_cons_succ, List.set_cons_zero, den_varS, den_var0, Res.bind_ok, he, Res.of_some]
    rw [hl]
    rfl
  · simp [PV.under]
  · simp [PV.under]
  · refine wf_snoc w ?_
    show underKv S.length (vals xs ys) = true
    unfold vals
    rw [underKv_append, underKv_kvI hx, underKv_kvI hy]; rfl
end
end CW
end

section
set_option Elab.async false
set_option linter.all false
set_option maxRecDepth 100000
set_option maxHeartbeats 1000000
/-! Values of forms within a promise; raw_steps, steps_told. -/
namespace CW
open PySem
theorem log2_le {n a : Nat} (h : n < 2 ^ a) : n.log2 ≤ a := by
  by_cases h0 : n = 0
  · subst h0; simp
  · exact Nat.le_of_lt ((Nat.log2_lt h0).mpr h)
theorem mulOk_of {i j : Int} (a b : Nat) (hi : i.natAbs < 2 ^ a) (hj : j.natAbs < 2 ^ b) (h : a + b < 1000000) : mulOk i j = true := by
  unfold mulOk
  rw [decide_eq_true_eq]
  have h1 := log2_le hi
  have h2 := log2_le hj
  omega
theorem absI_natAbs {i : Int} : absI i = (i.natAbs : Int) := by
  unfold absI
  split <;> omega
theorem natAbs_sum {B : Nat} : ∀ {xs : List Int}, (∀ x ∈ xs, x.natAbs ≤ B) → xs.sum.natAbs ≤ xs.length * B
  | [], _ => by simp
  | x :: xs, h => by
    have h1 := h x List.mem_cons_self
    have ih := natAbs_sum (xs := xs) fun y hy => h y (List.mem_cons_of_mem _ hy)
    have h2 := Int.natAbs_add_le x xs.sum
    simp only [List.sum_cons, List.length_cons]
    rw [Nat.add_mul, Nat.one_mul]
    omega
/-- each variable that is known has a value, a small one -/
structure Vals (kvs : List (PV × PV)) (i rows : Int) (more : List PV) : Prop where
  k1 : (kvs.all fun p => isK1 p.1) = true
  get : ∀ v : Int, 0 ≤ v → (v < i ∨ (32 ≤ v ∧ v < 32 + rows) ∨ inSeq (.int v) more = true) → ∃ x : Int, dget kvs (.int v) = some (.int x) ∧ x.natAbs < 2 ^ 64
def fVal (kvs : List (PV × PV)) (form : PV) : Int := match form with
  | .tup [.int c, .tup ps] => c + (ps.map (term kvs)).sum
  | _ => 0
section
variable {P : Prog} {f fi fw fp ff fn fe fc fo fP fv fs fd fI fL fR fV : Nat} {n : Nat} {S : Store} {kvs : List (PV × PV)} {i rows : Int} {more : List PV}
theorem term_ok {q : PV} (V : Vals kvs i rows more) (hp : fPart q = true) (ho : fOver1 i rows more q = true) : ∃ v k x, q = .tup [.int v, .int k] ∧ dget kvs (.int v) = some (.int x) ∧ mulOk k x = true ∧ (term kvs q).natAbs ≤ 2 ^ 94 := by
  obtain ⟨v, k, rfl, h0, _, _, hk⟩ := fPart_shape hp
  have hv : v < i ∨ (32 ≤ v ∧ v < 32 + rows) ∨ inSeq (.int v) more = true := by
    simp only [fOver1, Bool.or_eq_true, Bool.and_eq_true, decide_eq_true_eq] at ho
    rcases ho with h | h | h
    · exact .inl h
    · exact .inr (.inl ⟨by omega, by omega⟩)
    · exact .inr (.inr h)
  obtain ⟨x, hx, hb⟩ := V.get v h0 hv
  rw [absI_natAbs] at hk
  have hk' : k.natAbs < 2 ^ 30 := by omega
  refine ⟨v, k, x, rfl, hx, mulOk_of 30 64 hk' hb (by omega), ?_⟩
  have e : term kvs (.tup [.int v, .int k]) = k * x := by
    unfold term
    simp only [hx]
  rw [e, Int.natAbs_mul]
  have := Nat.mul_le_mul (Nat.le_of_lt hk') (Nat.le_of_lt hb)
  rw [← Nat.pow_add] at this
  exact this
theorem fVal_ok (h : P.defs[f]? = some ⟨2, 4, bRawValue⟩) (V : Vals kvs i rows more) {vv x : PV} (hD : getD S vv = some kvs) (hf : fForm x = true) (ho : fOverF i rows more x = true) (w : Wf S) : callN P (n + 1) f [x, vv] S = .ok (.int (fVal kvs x)) S := by
  obtain ⟨c, ps, rfl, hc, hl, hps, _⟩ := fForm_shape hf
  exact raw_value_ok h hD V.k1 (fun q hq => by
    obtain ⟨v, k, x, h1, h2, h3, _⟩ := term_ok V (List.all_eq_true.mp hps q hq) (List.all_eq_true.mp (show ps.all (fOver1 i rows more) = true from ho) q hq)
    exact ⟨v, k, x, h1, h2, h3⟩) w
theorem fVal_bound (V : Vals kvs i rows more) {x : PV} (hf : fForm x = true) (ho : fOverF i rows more x = true) : (fVal kvs x + 1).natAbs < 2 ^ 101 := by
  obtain ⟨c, ps, rfl, hc, hl, hps, _⟩ := fForm_shape hf
  rw [absI_natAbs] at hc
  have hs : (ps.map (term kvs)).sum.natAbs ≤ (ps.map (term kvs)).length * 2 ^ 94 := natAbs_sum fun y hy => by
    obtain ⟨q, hq, rfl⟩ := List.mem_map.mp hy
    obtain ⟨v, k, x, _, _, _, h4⟩ := term_ok V (List.all_eq_true.mp hps q hq) (List.all_eq_true.mp (show ps.all (fOver1 i rows more) = true from ho) q hq)
    exact h4
  rw [List.length_map] at hs
  have h2 : ps.length * 2 ^ 94 ≤ 12 * 2 ^ 94 := Nat.mul_le_mul_right _ hl
  show (c + (ps.map (term kvs)).sum + 1).natAbs < 2 ^ 101
  generalize (ps.map (term kvs)).sum = t at *
  omega
/-! ### promises that are -/
structure GoodP (a : PV) (i : Int) (es ds gs rs : List PV) : Prop where
  name : fName a = true
  lo : 0 ≤ i
  hi : i ≤ 6
  el : es.length ≤ 4
  ee : es.all fEntry = true
  dl : ds.length ≤ 12
  df : ds.all fForm = true
  gl : gs.length ≤ 12
  gf : gs.all fForm = true
  rl : rs.length ≤ 16
  rn : rs ≠ []
  rf : rs.all fForm = true
  d_o : ds.all (fOverF i es.length []) = true
  r_o : rs.all (fOverF i es.length []) = true
  g_o : gs.all (fOverF i es.length [.int 31]) = true
theorem GoodP.ok {a : PV} {es ds gs rs : List PV} (g : GoodP a i es ds gs rs) : fPromise (.tup [a, .int i, .tup es, .tup ds, .tup gs, .tup rs]) = true := by
  have h1 : (ds.length : Int) ≤ 12 := by have := g.dl; omega
  have h2 : (gs.length : Int) ≤ 12 := by have := g.gl; omega
  have h3 : (rs.length : Int) ≤ 16 := by have := g.rl; omega
  have h4 : rs.isEmpty = false := by
    have := g.rn
    cases rs with
    | nil => exact absurd rfl this
    | cons _ _ => rfl
  simp only [fPromise, fWithin, fRows4, fClaims, itemsOf, intOf, g.name, g.lo, g.hi, g.el, g.ee, h1, h2, h3, g.df, g.gf, g.rf, h4, List.all_append, g.d_o, g.r_o, g.g_o, decide_true, Bool.and_self, Bool.not_false]
theorem vals_ok {xs ys : List PV} (hx : ∀ x ∈ xs, ∃ k : Int, x = .int k ∧ k.natAbs < 2 ^ 64) (hy : ∀ x ∈ ys, ∃ k : Int, x = .int k ∧ k.natAbs < 2 ^ 64) (lx : (xs.length : Int) = i) (ly : (ys.length : Int) = rows) (hl : i ≤ 32) : Vals (vals xs ys) i rows [] where
  k1 := vals_k1
  get v h0 hv := by
    have e : vals xs ys = kvI 0 xs ++ (kvI 32 ys ++ []) := by unfold vals; rw [List.append_nil]
    rw [e, dget_kvI, dget_kvI]
    rcases hv with h | h | h
    · rw [if_pos ⟨by omega, by omega⟩]
      have hlt : (v - ((0 : Nat) : Int)).toNat < xs.length := by omega
      obtain ⟨k, hk, hb⟩ := hx _ (List.getElem_mem hlt)
      exact ⟨k, by rw [List.getElem?_eq_getElem hlt, hk], hb⟩
    · rw [if_neg (by omega), if_pos ⟨by omega, by omega⟩]
      have hlt : (v - ((32 : Nat) : Int)).toNat < ys.length := by omega
      obtain ⟨k, hk, hb⟩ := hy _ (List.getElem_mem hlt)
      exact ⟨k, by rw [List.getElem?_eq_getElem hlt, hk], hb⟩
    · cases h
/-! ### raw_steps -/
def bRawSteps (fv : Nat) : Ss := (.cons (.iff (.val (.bi false .any (.cons (.comp false [4] (.cmp .lt (.call fv (.cons (.var 4) (.cons (.var 1) .nil))) (.const (.int 0))) (.name 4) (.seq (.idx (.var 0) (.const (.int 3)))) .nil) .nil))) (.cons (.ret (.const .non)) .nil) .nil) (.cons (.asg (.name 2) (.const (.int 1))) (.cons (.for_ (.name 3) (.seq (.idx (.var 0) (.const (.int 5)))) (.cons (.asg (.name 2) (.bin .mul (.var 2) (.bin .add (.call fv (.cons (.var 3) (.cons (.var 1) .nil))) (.const (.int 1))))) .nil)) (.cons (.ret (.var 2)) .nil))))
def prodV (kvs : List (PV × PV)) (p : Int) (rs : List PV) : Int := rs.foldl (fun p x => p * (fVal kvs x + 1)) p
def fSteps (kvs : List (PV × PV)) (ds rs : List PV) : PV := if ds.any fun x => decide (fVal kvs x < 0) then .non else .int (prodV kvs 1 rs)
theorem prod_loop (h : P.defs[fv]? = some ⟨2, 4, bRawValue⟩) (V : Vals kvs i rows more) {vv : PV} {x0 x4 : Option PV} (hD : getD S vv = some kvs) (w : Wf S) : ∀ {rs : List PV} {acc : Int} {m : Nat} {a : Option PV}, rs.all fForm = true → rs.all (fOverF i rows more) = true → acc.natAbs < 2 ^ (101 * m) → m + rs.length ≤ 100 → ∃ a', forL (asgT (sxN P (n + 1)) (.name 3)) (execL (sxN P (n + 1)) (.cons (.asg (.name 2) (.bin .mul (.var 2) (.bin .add (.call fv (.cons (.var 3) (.cons (.var 1) .nil))) (.const (.int 1))))) .nil)) rs [x0, some vv, some (.int acc), a, x4] S = .next [x0, some vv, some (.int (prodV kvs acc rs)), a', x4] S
  | [], acc, m, a, _, _, _, _ => ⟨a, rfl⟩
  | x :: rs, acc, m, a, hf, ho, hb, hl => by
    simp only [List.all_cons, Bool.and_eq_true] at hf ho
    simp only [List.length_cons] at hl
    have hv := fVal_ok (n := n) h V hD hf.1 ho.1 w
    have hb2 := fVal_bound V hf.1 ho.1
    have hm := mulOk_of (101 * m) 101 hb hb2 (by omega)
    have hmul : binop .mul (.int acc) (.int (fVal kvs x + 1)) S = some (.int (acc * (fVal kvs x + 1))) := by
      show (if mulOk acc (fVal kvs x + 1) = true then _ else _) = _
      rw [if_pos hm]
    have hb3 : (acc * (fVal kvs x + 1)).natAbs < 2 ^ (101 * (m + 1)) := by
      rw [Int.natAbs_mul, Nat.mul_add, Nat.mul_one, Nat.pow_add]
      exact Nat.mul_lt_mul'' hb hb2
    obtain ⟨a', ih⟩ := prod_loop h V hD w (rs := rs) (acc := acc * (fVal kvs x + 1)) (m := m + 1) (a := some x) (x0 := x0) (x4 := x4) hf.2 ho.2 hb3 (by omega)
    refine ⟨a', ?_⟩
    show _ = SRes.next [x0, some vv, some (.int (prodV kvs (acc * (fVal kvs x + 1)) rs)), a', x4] S
    rw [← ih]
    simp only [forL, asgT_name, SRes.andThen_next, List.set_cons_succ, List.set_cons_zero, execL_cons, exec_asg, den_bin, den_varS, den_var0, Res.bind_ok, den_call, denL_cons, denL_nil, sxN_okC, if_true, sxN_call, hv, den_const, add_int, Res.of_some, hmul, Res.st_ok]
    rfl
theorem raw_steps_ok (h : P.defs[f]? = some ⟨2, 5, bRawSteps fv⟩) (hv : P.defs[fv]? = some ⟨2, 4, bRawValue⟩) {a : PV} {es ds gs rs : List PV} (g : GoodP a i es ds gs rs) (V : Vals kvs i es.length []) {vv : PV} (hD : getD S vv = some kvs) (w : Wf S) : callN P (n + 2) f [.tup [a, .int i, .tup es, .tup ds, .tup gs, .tup rs], vv] S = .ok (fSteps kvs ds rs) S := by
  rw [callN_def h]
  have u : (fSteps kvs ds rs).under S.length = true := by
    unfold fSteps
    split <;> rfl
  refine runD_ret rfl ?_ u w
  show execL (sxN P (n + 1)) (bRawSteps fv) [some (.tup [a, .int i, .tup es, .tup ds, .tup gs, .tup rs]), some vv, none, none, none] S = _
  have hc : den (sxN P (n + 1)) (.comp false [4] (.cmp .lt (.call fv (.cons (.var 4) (.cons (.var 1) .nil))) (.const (.int 0))) (.name 4) (.seq (.idx (.var 0) (.const (.int 3)))) .nil) [some (.tup [a, .int i, .tup es, .tup ds, .tup gs, .tup rs]), some vv, none, none, none] S = .ok (.lst (ds.map fun x => .bl (decide (fVal kvs x < 0)))) S :=
    den_compb (xs := ds) (by simp [walkOf]) fun x hx => ⟨_, rfl, by
      show den (sxN P (n + 1)) _ [some (.tup [a, .int i, .tup es, .tup ds, .tup gs, .tup rs]), some vv, none, none, some x] S = _
      simp [fVal_ok (n := n) hv V hD (List.all_eq_true.mp g.df x hx) (List.all_eq_true.mp g.d_o x hx) w]⟩
  cases hany : ds.any (fun x => decide (fVal kvs x < 0)) with
  | true => simp [bRawSteps, hc, hany, fSteps]
  | false =>
    obtain ⟨a', hl⟩ := prod_loop (n := n) hv V hD w (rs := rs) (acc := 1) (m := 1) (a := none) (x0 := some (.tup [a, .int i, .tup es, .tup ds, .tup gs, .tup rs])) (x4 := none) g.rf g.r_o (by decide) (by have := g.rl; omega)
    simp only [bRawSteps, execL_cons, exec_iff, denT_val, den_bi, denL_cons, denL_nil, hc, Res.bind_ok, bi_any_map, Res.of_some, laid_false, hany, truth_bl, Res.st_ok, Bool.false_eq_true, if_false, execL_nil, SRes.andThen_next, exec_asg, den_const, asgT_name, List.set_cons_succ, List.set_cons_zero, exec_for, denI_seq, den_idx, den_var0, ix_tup5, walkOf, fSteps]
    rw [hl]
    rfl
end
end CW
end

section
set_option Elab.async false
set_option linter.all false
set_option maxRecDepth 100000
set_option maxHeartbeats 1000000
/-! steps_told. -/
namespace CW
open PySem
theorem fPart_fz {v : PV} (h : fPart v = true) : v.fz = true := by
  obtain ⟨i, k, rfl, _⟩ := fPart_shape h
  rfl
theorem fForm_fz {v : PV} (h : fForm v = true) : v.fz = true := by
  obtain ⟨c, ps, rfl, _, _, hp, _⟩ := fForm_shape h
  have : fzL ps = true := fzL_all fun x hx => fPart_fz (List.all_eq_true.mp hp x hx)
  simp [PV.fz, fzL, this]
theorem fEntry_fz {v : PV} (h : fEntry v = true) : v.fz = true := by
  unfold fEntry at h
  split at h
  · rfl
  · rfl
  · cases h
theorem fName_fz {v : PV} (h : fName v = true) : v.fz = true ∧ shortS v = true := by
  cases v with
  | str x =>
    refine ⟨rfl, ?_⟩
    simp only [fName, Bool.and_eq_true, decide_eq_true_eq] at h
    simp only [shortS, decide_eq_true_eq]
    have : LINE = 16777216 := rfl
    omega
  | _ => simp [fName] at h
section
variable {P : Prog} {f fi fw fp ff fn fe fc fo fP fv fI fL fR fV fC fS fA : Nat} {n : Nat} {S : Store} {kvs : List (PV × PV)} {i rows : Int} {more : List PV} {a : PV} {es ds gs rs : List PV}
abbrev promV (a : PV) (i : Int) (es ds gs rs : List PV) : PV := .tup [a, .int i, .tup es, .tup ds, .tup gs, .tup rs]
theorem GoodP.fz (g : GoodP a i es ds gs rs) : (promV a i es ds gs rs).fz = true := by
  have h1 : fzL es = true := fzL_all fun x hx => fEntry_fz (List.all_eq_true.mp g.ee x hx)
  have h2 : fzL ds = true := fzL_all fun x hx => fForm_fz (List.all_eq_true.mp g.df x hx)
  have h3 : fzL gs = true := fzL_all fun x hx => fForm_fz (List.all_eq_true.mp g.gf x hx)
  have h4 : fzL rs = true := fzL_all fun x hx => fForm_fz (List.all_eq_true.mp g.rf x hx)
  simp [PV.fz, fzL, h1, h2, h3, h4, (fName_fz g.name).1]
theorem GoodP.short (g : GoodP a i es ds gs rs) : ∀ x ∈ itemsOf (promV a i es ds gs rs), shortS x = true := by
  intro x hx
  simp only [itemsOf, List.mem_cons, List.not_mem_nil, or_false] at hx
  rcases hx with rfl | rfl | rfl | rfl | rfl | rfl
  · exact (fName_fz g.name).2
  all_goals rfl
structure HasTold (P : Prog) (fi fw fp ff fc fn fe fo fP fv fC fI fL fR fV fS : Nat) : Prop where
  p : HasProm P fi fw fp ff fc fn fe fo fP
  v : P.defs[fv]? = some ⟨2, 4, bRawValue⟩
  cp : P.defs[fC]? = some ⟨1, 1, bChkP fP⟩
  ci : P.defs[fI]? = some ⟨2, 3, bChkI fi⟩
  cl : P.defs[fL]? = some ⟨2, 3, bChkL fi⟩
  ar : P.defs[fR]? = some ⟨2, 4, bAreRows fi⟩
  vb : P.defs[fV]? = some ⟨2, 7, bValues⟩
  rs : P.defs[fS]? = some ⟨2, 5, bRawSteps fv⟩
variable (T : HasTold P fi fw fp ff fc fn fe fo fP fv fC fI fL fR fV fS)
include T
theorem chkP_ok (g : GoodP a i es ds gs rs) (w : Wf S) : callN P (n + 7) fC [promV a i es ds gs rs] S = .ok .non S := check_promise_ok T.cp T.p g.fz g.short w g.ok
/-! ### steps_told -/
omit T in
def bStepsTold (fC fI fL fV fS : Nat) : Ss := (.cons (.ex (.call fC (.cons (.var 0) .nil))) (.cons (.ex (.call fI (.cons (.var 0) (.cons (.var 1) .nil)))) (.cons (.ex (.call fL (.cons (.var 0) (.cons (.var 2) .nil)))) (.cons (.ret (.call fS (.cons (.var 0) (.cons (.call fV (.cons (.var 1) (.cons (.var 2) .nil))) .nil)))) .nil))))
theorem steps_told_p (h : P.defs[f]? = some ⟨3, 3, bStepsTold fC fI fL fV fS⟩) {v b c : PV} (hv : v.fz = true) (hsh : ∀ x ∈ itemsOf v, shortS x = true) (hp : fPromise v = false) (w : Wf S) : callN P (n + 8) f [v, b, c] S = .exc ⟨"NoPromise", []⟩ S := by
  rw [callN_def h]
  refine runD_excS (ρ' := [some v, some b, some c]) rfl ?_ w
  show execL (sxN P (n + 7)) (bStepsTold fC fI fL fV fS) [some v, some b, some c] S = _
  simp [bStepsTold, check_promise_no (n := n) T.cp T.p hv hsh w hp]
theorem steps_told_i (h : P.defs[f]? = some ⟨3, 3, bStepsTold fC fI fL fV fS⟩) (g : GoodP a i es ds gs rs) {b c : PV} (hb : b.fz = true) (hp : fIns i b = false) (w : Wf S) : callN P (n + 8) f [promV a i es ds gs rs, b, c] S = .exc ⟨"NoIns", []⟩ S := by
  rw [callN_def h]
  refine runD_excS (ρ' := [some (promV a i es ds gs rs), some b, some c]) rfl ?_ w
  show execL (sxN P (n + 7)) (bStepsTold fC fI fL fV fS) [some (promV a i es ds gs rs), some b, some c] S = _
  simp [bStepsTold, chkP_ok (n := n) T g w, check_ins_no (n := n + 5) T.ci T.p.C.F.i hb w hp]
theorem steps_told_l (h : P.defs[f]? = some ⟨3, 3, bStepsTold fC fI fL fV fS⟩) (g : GoodP a i es ds gs rs) {b c : PV} (hb : b.fz = true) (hc : c.fz = true) (hp : fIns i b = true) (hq : fLens es.length c = false) (w : Wf S) : callN P (n + 8) f [promV a i es ds gs rs, b, c] S = .exc ⟨"NoLengths", []⟩ S := by
  rw [callN_def h]
  refine runD_excS (ρ' := [some (promV a i es ds gs rs), some b, some c]) rfl ?_ w
  show execL (sxN P (n + 7)) (bStepsTold fC fI fL fV fS) [some (promV a i es ds gs rs), some b, some c] S = _
  simp [bStepsTold, chkP_ok (n := n) T g w, check_ins_ok (n := n + 5) T.ci T.p.C.F.i hb w hp, check_lengths_no (n := n + 5) T.cl T.p.C.F.i hc w hq]
omit T in
/-- a small whole number -/
def SmI (x : PV) : Prop := ∃ k : Int, x = .int k ∧ k.natAbs < 2 ^ 64
omit T in
theorem SmI.fzL {xs : List PV} (h : ∀ x ∈ xs, SmI x) : fzL xs = true := fzL_all fun x hx => by
  obtain ⟨k, rfl, _⟩ := h x hx
  rfl
omit T in
theorem SmI.allInt {xs : List PV} (h : ∀ x ∈ xs, SmI x) : xs.all fInt = true := List.all_eq_true.mpr fun x hx => by
  obtain ⟨k, rfl, _⟩ := h x hx
  rfl
omit T in
theorem take_snoc {S : Store} {o : Ob} : (S ++ [o]).take S.length = S := by simp
omit T in
theorem fSteps_under {m : Nat} : (fSteps kvs ds rs).under m = true := by
  unfold fSteps
  split <;> rfl
theorem steps_told_ok (h : P.defs[f]? = some ⟨3, 3, bStepsTold fC fI fL fV fS⟩) (g : GoodP a i es ds gs rs) {xs ys : List PV} (hx : ∀ x ∈ xs, SmI x) (hy : ∀ y ∈ ys, SmI y) (hn : ys.all fNat = true) (lx : (xs.length : Int) = i) (ly : ys.length = es.length) (w : Wf S) : callN P (n + 8) f [promV a i es ds gs rs, .tup xs, .tup ys] S = .ok (fSteps (vals xs ys) ds rs) S := by
  rw [callN_def h]
  have hi6 := g.hi
  have hel := g.el
  have hv := values_by_ok (n := n + 6) T.vb (xs := xs) (ys := ys) (v := .tup ys) (.inl rfl) (SmI.fzL hx) (SmI.fzL hy) (by omega) (by omega) w
  have w' : Wf (S ++ [.dct (vals xs ys)]) := wf_snoc w (by
    show underKv S.length (vals xs ys) = true
    unfold vals
    rw [underKv_append, underKv_kvI (SmI.fzL hx), underKv_kvI (SmI.fzL hy)]; rfl)
  have V : Vals (vals xs ys) i es.length [] := vals_ok hx hy lx (by rw [ly]) (by omega)
  have hD : getD (S ++ [.dct (vals xs ys)]) (.loc S.length) = some (vals xs ys) := by
    unfold getD
    simp only [get_last]
  have hs := raw_steps_ok (n := n + 5) T.rs T.v g V hD w'
  have h1 : fIns i (.tup xs) = true := by
    simp only [fIns, lx, beq_self_eq_true, SmI.allInt hx, Bool.and_self]
  have h2 : fLens es.length (.tup ys) = true := by
    simp only [fLens, ly, decide_true, hn, Bool.and_self]
  have key := runD_drop (d := ⟨3, 3, bStepsTold fC fI fL fV fS⟩) (sx := sxN P (n + 7)) (vs := [promV a i es ds gs rs, .tup xs, .tup ys]) (S := S) (v := fSteps (vals xs ys) ds rs) (S' := S ++ [.dct (vals xs ys)]) rfl (by
    show execL (sxN P (n + 7)) (bStepsTold fC fI fL fV fS) [some (promV a i es ds gs rs), some (.tup xs), some (.tup ys)] S = _
    simp [bStepsTold, chkP_ok (n := n) T g w, check_ins_ok (n := n + 5) T.ci T.p.C.F.i (v := .tup xs) (SmI.fzL hx) w h1, check_lengths_ok (n := n + 5) T.cl T.p.C.F.i (v := .tup ys) (SmI.fzL hy) w h2, hv, hs]) fSteps_under (by rw [take_snoc]; exact w)
  rw [take_snoc] at key
  exact key
end
end CW
end

section
set_option Elab.async false
set_option linter.all false
set_option maxRecDepth 100000
set_option maxHeartbeats 1000000
/-! keeps_needs, keeps_gives, reach_of. -/
namespace CW
open PySem
section
variable {P : Prog} {f fi fw fp ff fn fe fc fo fP fv fI fL fR fV fC fS fK fk : Nat} {n : Nat} {S : Store} {kvs : List (PV × PV)} {i rows : Int} {more : List PV} {a : PV} {es ds gs rs : List PV}
/-! ### is_cell_in -/
def bIsCell : Ss := (.cons (.ret (.bool false (.cons (.cmp .is_ (.var 0) (.const .non)) (.cons (.chain .le .le (.idx (.var 0) (.const (.int 0))) (.var 1) (.idx (.var 0) (.const (.int 1)))) .nil)))) .nil)
def fCell (e c : PV) : Bool := match e, c with
  | .tup [.int a, .int b], .int c => decide (a ≤ c) && decide (c ≤ b)
  | .non, _ => true
  | _, _ => false
theorem is_cell_ok (h : P.defs[f]? = some ⟨2, 2, bIsCell⟩) {e : PV} {c : Int} (he : fEntry e = true) (w : Wf S) : callN P (n + 1) f [e, .int c] S = .ok (.bl (fCell e (.int c))) S := by
  rw [callN_def h]
  refine runD_ret rfl ?_ rfl w
  show execL (sxN P n) bIsCell [some e, some (.int c)] S = _
  unfold fEntry at he
  split at he
  · rfl
  · rename_i a b
    by_cases h1 : a ≤ c
    · simp [bIsCell, PV.isNon, den_chain, h1, fCell]
    · simp [bIsCell, PV.isNon, den_chain, h1, fCell]
  · cases he
/-! ### raw_keeps -/
def bRawKeeps (fV fv fk : Nat) : Ss := (.cons (.asg (.name 3) (.call fV (.cons (.var 1) (.cons (.comp false [4] (.bi false .len (.cons (.var 4) .nil)) (.name 4) (.seq (.var 2)) .nil) .nil)))) (.cons (.iff (.val (.bi false .any (.cons (.comp false [5] (.cmp .lt (.call fv (.cons (.var 5) (.cons (.var 3) .nil))) (.const (.int 0))) (.name 5) (.seq (.idx (.var 0) (.const (.int 3)))) .nil) .nil))) (.cons (.ret (.const (.bl false))) .nil) .nil) (.cons (.ret (.bi false .all (.cons (.comp2 false [7, 4, 6] (.call fk (.cons (.var 7) (.cons (.var 6) .nil))) (.tup (.cons (.name 7) (.cons (.name 4) .nil))) (.zip (.idx (.var 0) (.const (.int 2))) (.var 2)) .nil [6] (.name 6) (.seq (.var 4)) .nil) .nil))) .nil)))
/-- the lengths of rows -/
def lensOf (rws : List PV) : List PV := rws.map fun r => .int (itemsOf r).length
def cellsOf (q : PV) : List Bool := match q with
  | .tup [e, r] => (itemsOf r).map (fCell e)
  | _ => []
def inside (es rws : List PV) : Bool := (zipL es rws).all fun q => (cellsOf q).all id
theorem zipL_mem : ∀ {xs ys : List PV} {q : PV}, q ∈ zipL xs ys → ∃ x y, q = .tup [x, y] ∧ x ∈ xs ∧ y ∈ ys
  | [], _, _, h => by simp [zipL] at h
  | _ :: _, [], _, h => by simp [zipL] at h
  | x :: xs, y :: ys, q, h => by
    simp only [zipL, List.mem_cons] at h
    rcases h with rfl | h
    · exact ⟨x, y, rfl, List.mem_cons_self, List.mem_cons_self⟩
    · obtain ⟨a, b, h1, h2, h3⟩ := zipL_mem h
      exact ⟨a, b, h1, List.mem_cons_of_mem _ h2, List.mem_cons_of_mem _ h3⟩
theorem zipL_len : ∀ {xs ys : List PV}, (zipL xs ys).length ≤ xs.length
  | [], _ => by simp [zipL]
  | _ :: _, [] => by simp [zipL]
  | x :: xs, y :: ys => by simp only [zipL, List.length_cons]; have := zipL_len (xs := xs) (ys := ys); omega
def rowSm (r : PV) : Prop := ∃ cs, r = .tup cs ∧ cs.length ≤ 200 ∧ ∀ c ∈ cs, SmI c
theorem flatB_len {α β : Type} {g : α → List β} {B : Nat} : ∀ {xs : List α}, (∀ x ∈ xs, (g x).length ≤ B) → (xs.flatMap g).length ≤ xs.length * B
  | [], _ => by simp
  | x :: xs, h => by
    simp only [List.flatMap_cons, List.length_append, List.length_cons]
    have h1 := h x List.mem_cons_self
    have h2 := flatB_len (xs := xs) fun y hy => h y (List.mem_cons_of_mem _ hy)
    rw [Nat.add_mul, Nat.one_mul]
    omega
theorem allOf_flat {α : Type} {g : α → List Bool} {xs : List α} : allOf PV.asBl (xs.flatMap fun x => (g x).map .bl) = some (xs.flatMap g) := by
  have : (xs.flatMap fun x => (g x).map PV.bl) = (xs.flatMap g).map fun b => PV.bl b := by
    rw [List.map_flatMap]
  rw [this, allOf_bl, List.map_id']
theorem all_flat {α : Type} {g : α → List Bool} {xs : List α} : (xs.flatMap g).all id = xs.all fun x => (g x).all id := by
  induction xs with
  | nil => rfl
  | cons x xs ih => simp [ih]
theorem raw_keeps_ok (h : P.defs[f]? = some ⟨3, 8, bRawKeeps fV fv fk⟩) (hV : P.defs[fV]? = some ⟨2, 7, bValues⟩) (hv : P.defs[fv]? = some ⟨2, 4, bRawValue⟩) (hk : P.defs[fk]? = some ⟨2, 2, bIsCell⟩) (g : GoodP a i es ds gs rs) {xs rws : List PV} (hx : ∀ x ∈ xs, SmI x) (hr : ∀ r ∈ rws, rowSm r) (lx : (xs.length : Int) = i) (lr : rws.length = es.length) (w : Wf S) : callN P (n + 2) f [promV a i es ds gs rs, .tup xs, .tup rws] S = .ok (.bl (!(ds.any fun x => decide (fVal (vals xs (lensOf rws)) x < 0)) && inside es rws)) S := by
  rw [callN_def h]
  have hi6 := g.hi
  have hel := g.el
  have hy : ∀ y ∈ lensOf rws, SmI y := fun y hy => by
    obtain ⟨r, hr', rfl⟩ := List.mem_map.mp hy
    obtain ⟨cs, rfl, hl, _⟩ := hr r hr'
    exact ⟨_, rfl, by
      show (cs.length : Int).natAbs < _
      omega⟩
  have ll : (lensOf rws).length = es.length := by rw [← lr]; exact List.length_map _
  have hvb := values_by_ok (n := n) hV (xs := xs) (ys := lensOf rws) (v := .lst (lensOf rws)) (.inr rfl) (SmI.fzL hx) (SmI.fzL hy) (by omega) (by omega) w
  have w' : Wf (S ++ [.dct (vals xs (lensOf rws))]) := wf_snoc w (by
    show underKv S.length (vals xs (lensOf rws)) = true
    unfold vals
    rw [underKv_append, underKv_kvI (SmI.fzL hx), underKv_kvI (SmI.fzL hy)]; rfl)
  have V : Vals (vals xs (lensOf rws)) i es.length [] := vals_ok hx hy lx (by rw [ll]) (by omega)
  have hD : getD (S ++ [.dct (vals xs (lensOf rws))]) (.loc S.length) = some (vals xs (lensOf rws)) := by
    unfold getD
    simp only [get_last]
  have h1 : den (sxN P (n + 1)) (.comp false [4] (.bi false .len (.cons (.var 4) .nil)) (.name 4) (.seq (.var 2)) .nil) [some (promV a i es ds gs rs), some (.tup xs), some (.tup rws), none, none, none, none, none] S = .ok (.lst (lensOf rws)) S := by
    refine (den_comp_map (xs := rws) (g := fun r => .int (itemsOf r).length) (by simp [walkOf]) fun r hr' => ⟨_, rfl, ?_⟩).trans rfl
    obtain ⟨cs, rfl, hl, _⟩ := hr r hr'
    show den (sxN P (n + 1)) _ [some (promV a i es ds gs rs), some (.tup xs), some (.tup rws), none, some (.tup cs), none, none, none] S = _
    simp [itemsOf]
  generalize hS' : S ++ [.dct (vals xs (lensOf rws))] = S' at *
  have h2 : den (sxN P (n + 1)) (.comp false [5] (.cmp .lt (.call fv (.cons (.var 5) (.cons (.var 3) .nil))) (.const (.int 0))) (.name 5) (.seq (.idx (.var 0) (.const (.int 3)))) .nil) [some (promV a i es ds gs rs), some (.tup xs), some (.tup rws), some (.loc S.length), none, none, none, none] S' = .ok (.lst (ds.map fun x => .bl (decide (fVal (vals xs (lensOf rws)) x < 0)))) S' :=
    den_compb (xs := ds) (by simp [walkOf]) fun x hx => ⟨_, rfl, by
      show den (sxN P (n + 1)) _ [some (promV a i es ds gs rs), some (.tup xs), some (.tup rws), some (.loc S.length), none, some x, none, none] S' = _
      simp [fVal_ok (n := n) hv V hD (List.all_eq_true.mp g.df x hx) (List.all_eq_true.mp g.d_o x hx) w']⟩
  have h3 : den (sxN P (n + 1)) (.comp2 false [7, 4, 6] (.call fk (.cons (.var 7) (.cons (.var 6) .nil))) (.tup (.cons (.name 7) (.cons (.name 4) .nil))) (.zip (.idx (.var 0) (.const (.int 2))) (.var 2)) .nil [6] (.name 6) (.seq (.var 4)) .nil) [some (promV a i es ds gs rs), some (.tup xs), some (.tup rws), some (.loc S.length), none, none, none, none] S' = .ok (.lst ((zipL es rws).flatMap fun q => (cellsOf q).map .bl)) S' := by
    rw [den_comp2]
    have hz : denI (sxN P (n + 1)) (.zip (.idx (.var 0) (.const (.int 2))) (.var 2)) [some (promV a i es ds gs rs), some (.tup xs), some (.tup rws), some (.loc S.length), none, none, none, none] S' = .ok (zipL es rws) S' := by
      simp [zipOf]
    rw [hz, Res.bind_ok, compL_map (g := fun q => (cellsOf q).map .bl)]
    · rw [Res.bind_ok, if_pos]
      · rfl
      · rw [decide_eq_true_eq]
        have := flatB_len (B := 200) (g := fun q => (cellsOf q).map PV.bl) (xs := zipL es rws) (by
          intro q hq
          obtain ⟨e, r, rfl, h1, h2⟩ := zipL_mem hq
          obtain ⟨cs, rfl, hl, _⟩ := hr r h2
          simpa [cellsOf, itemsOf] using hl)
        have h5 := zipL_len (xs := es) (ys := rws)
        have : LINE = 16777216 := rfl
        omega
    · intro q hq
      obtain ⟨e, r, rfl, h1, h2⟩ := zipL_mem hq
      obtain ⟨cs, rfl, hl, hc⟩ := hr r h2
      show (denI (sxN P (n + 1)) (.seq (.var 4)) [some (promV a i es ds gs rs), some (.tup xs), some (.tup rws), some (.loc S.length), some (.tup cs), none, none, some e] S').bind (fun ys S9 => compL (compF [6] (.name 6) (denT2 (sxN P (n + 1)) .nil) (den (sxN P (n + 1)) (.call fk (.cons (.var 7) (.cons (.var 6) .nil)))) [some (promV a i es ds gs rs), some (.tup xs), some (.tup rws), some (.loc S.length), some (.tup cs), none, none, some e]) ys S9) = _
      simp only [denI_seq, den_varS, den_var0, Res.bind_ok, walkOf, Res.of_some, cellsOf, itemsOf]
      rw [compL_map (g := fun c => [.bl (fCell e c)]), flatMap_one, List.map_map]
      · rfl
      · intro c hc'
        obtain ⟨k, rfl, _⟩ := hc c hc'
        show (den (sxN P (n + 1)) (.call fk (.cons (.var 7) (.cons (.var 6) .nil))) [some (promV a i es ds gs rs), some (.tup xs), some (.tup rws), some (.loc S.length), some (.tup cs), none, some (.int k), some e] S').bind (fun v S => .ok [v] S) = _
        simp only [den_call, denL_cons, denL_nil, den_varS, den_var0, Res.bind_ok, sxN_okC, if_true, sxN_call, is_cell_ok (n := n) hk (List.all_eq_true.mp g.ee e h1) w']
  have h4 : bi .all [.lst ((zipL es rws).flatMap fun q => (cellsOf q).map .bl)] S' = some (.bl (inside es rws)) := by
    show ((allOf PV.asBl _).map fun bs => PV.bl (bs.all id)) = _
    rw [allOf_flat, Option.map_some, all_flat]
    rfl
  have key := runD_drop (d := ⟨3, 8, bRawKeeps fV fv fk⟩) (sx := sxN P (n + 1)) (vs := [promV a i es ds gs rs, .tup xs, .tup rws]) (S := S) (v := .bl (!(ds.any fun x => decide (fVal (vals xs (lensOf rws)) x < 0)) && inside es rws)) (S' := S') rfl (by
    show execL (sxN P (n + 1)) (bRawKeeps fV fv fk) [some (promV a i es ds gs rs), some (.tup xs), some (.tup rws), none, none, none, none, none] S = _
    cases hany : ds.any (fun x => decide (fVal (vals xs (lensOf rws)) x < 0)) with
    | true => simp [bRawKeeps, h1, hvb, h2, hany]
    | false => simp [bRawKeeps, h1, hvb, h2, hany, h3, h4]) rfl (by rw [← hS', take_snoc]; exact w)
  rw [← hS', take_snoc] at key
  exact key
end
end CW
end

section
set_option Elab.async false
set_option linter.all false
set_option maxRecDepth 100000
set_option maxHeartbeats 1000000
/-! keeps_needs, keeps_gives, reach_of. -/
namespace CW
open PySem
section
variable {P : Prog} {f fi fw fp ff fn fe fc fo fP fv fI fL fR fV fC fS fK fk : Nat} {n : Nat} {S : Store} {kvs : List (PV × PV)} {i rows : Int} {more : List PV} {a : PV} {es ds gs rs : List PV}
/-! ### keeps_needs -/
def bKeepsNeeds (fC fI fR fK : Nat) : Ss := (.cons (.ex (.call fC (.cons (.var 0) .nil))) (.cons (.ex (.call fI (.cons (.var 0) (.cons (.var 1) .nil)))) (.cons (.iff (.not (.val (.call fR (.cons (.var 2) (.cons (.bi false .len (.cons (.idx (.var 0) (.const (.int 2))) .nil)) .nil))))) (.cons (.raise "NoRows" .nil) .nil) .nil) (.cons (.ret (.call fK (.cons (.var 0) (.cons (.var 1) (.cons (.var 2) .nil))))) .nil))))
variable (T : HasTold P fi fw fp ff fc fn fe fo fP fv fC fI fL fR fV fS)
include T
theorem keeps_needs_p (h : P.defs[f]? = some ⟨3, 3, bKeepsNeeds fC fI fR fK⟩) {v b c : PV} (hv : v.fz = true) (hsh : ∀ x ∈ itemsOf v, shortS x = true) (hp : fPromise v = false) (w : Wf S) : callN P (n + 8) f [v, b, c] S = .exc ⟨"NoPromise", []⟩ S := by
  rw [callN_def h]
  refine runD_excS (ρ' := [some v, some b, some c]) rfl ?_ w
  show execL (sxN P (n + 7)) (bKeepsNeeds fC fI fR fK) [some v, some b, some c] S = _
  simp [bKeepsNeeds, check_promise_no (n := n) T.cp T.p hv hsh w hp]
theorem keeps_needs_i (h : P.defs[f]? = some ⟨3, 3, bKeepsNeeds fC fI fR fK⟩) (g : GoodP a i es ds gs rs) {b c : PV} (hb : b.fz = true) (hp : fIns i b = false) (w : Wf S) : callN P (n + 8) f [promV a i es ds gs rs, b, c] S = .exc ⟨"NoIns", []⟩ S := by
  rw [callN_def h]
  refine runD_excS (ρ' := [some (promV a i es ds gs rs), some b, some c]) rfl ?_ w
  show execL (sxN P (n + 7)) (bKeepsNeeds fC fI fR fK) [some (promV a i es ds gs rs), some b, some c] S = _
  simp [bKeepsNeeds, chkP_ok (n := n) T g w, check_ins_no (n := n + 5) T.ci T.p.C.F.i hb w hp]
theorem keeps_needs_r (h : P.defs[f]? = some ⟨3, 3, bKeepsNeeds fC fI fR fK⟩) (g : GoodP a i es ds gs rs) {b c : PV} (hb : b.fz = true) (hc : c.fz = true) (hp : fIns i b = true) (hq : fRows es.length c = false) (w : Wf S) : callN P (n + 8) f [promV a i es ds gs rs, b, c] S = .exc ⟨"NoRows", []⟩ S := by
  rw [callN_def h]
  refine runD_excS (ρ' := [some (promV a i es ds gs rs), some b, some c]) rfl ?_ w
  show execL (sxN P (n + 7)) (bKeepsNeeds fC fI fR fK) [some (promV a i es ds gs rs), some b, some c] S = _
  simp [bKeepsNeeds, chkP_ok (n := n) T g w, check_ins_ok (n := n + 5) T.ci T.p.C.F.i hb w hp, are_rows_ok (n := n + 5) T.ar T.p.C.F.i (m := es.length) hc w, hq]
omit T in
theorem rowSm.fz {r : PV} (h : rowSm r) : r.fz = true := by
  obtain ⟨cs, rfl, _, h⟩ := h
  exact SmI.fzL h
theorem keeps_needs_ok (h : P.defs[f]? = some ⟨3, 3, bKeepsNeeds fC fI fR fK⟩) (hK : P.defs[fK]? = some ⟨3, 8, bRawKeeps fV fv fk⟩) (hk : P.defs[fk]? = some ⟨2, 2, bIsCell⟩) (g : GoodP a i es ds gs rs) {xs rws : List PV} (hx : ∀ x ∈ xs, SmI x) (hr : ∀ r ∈ rws, rowSm r) (lx : (xs.length : Int) = i) (lr : rws.length = es.length) (w : Wf S) : callN P (n + 8) f [promV a i es ds gs rs, .tup xs, .tup rws] S = .ok (.bl (!(ds.any fun x => decide (fVal (vals xs (lensOf rws)) x < 0)) && inside es rws)) S := by
  rw [callN_def h]
  refine runD_ret rfl ?_ rfl w
  have h1 : fIns i (.tup xs) = true := by
    simp only [fIns, lx, beq_self_eq_true, SmI.allInt hx, Bool.and_self]
  have h2 : fRows es.length (.tup rws) = true := by
    have e1 : rws.all fTup = true := List.all_eq_true.mpr fun r hr' => by
      obtain ⟨cs, rfl, _⟩ := hr r hr'; rfl
    have e2 : rws.all fRow = true := List.all_eq_true.mpr fun r hr' => by
      obtain ⟨cs, rfl, hl, hc⟩ := hr r hr'
      have hl' : (cs.length : Int) ≤ 200 := by omega
      simp only [fRow, hl', decide_true, SmI.allInt hc, Bool.and_self]
    simp only [fRows, lr, beq_self_eq_true, e1, e2, Bool.and_self]
  show execL (sxN P (n + 7)) (bKeepsNeeds fC fI fR fK) [some (promV a i es ds gs rs), some (.tup xs), some (.tup rws)] S = _
  have hrz : (PV.tup rws).fz = true := fzL_all fun r hr' => (hr r hr').fz
  simp [bKeepsNeeds, chkP_ok (n := n) T g w, check_ins_ok (n := n + 5) T.ci T.p.C.F.i (v := .tup xs) (SmI.fzL hx) w h1, are_rows_ok (n := n + 5) T.ar T.p.C.F.i (m := es.length) hrz w, h2, raw_keeps_ok (n := n + 5) hK T.vb T.v hk g hx hr lx lr w]
/-! ### keeps_gives -/
omit T in
def bKeepsGives (fi fC fI fL fV fv : Nat) : Ss := (.cons (.ex (.call fC (.cons (.var 0) .nil))) (.cons (.ex (.call fI (.cons (.var 0) (.cons (.var 1) .nil)))) (.cons (.ex (.call fL (.cons (.var 0) (.cons (.var 2) .nil)))) (.cons (.iff (.not (.val (.call fi (.cons (.var 3) .nil)))) (.cons (.raise "NoInteger" .nil) .nil) .nil) (.cons (.asg (.name 4) (.call fV (.cons (.var 1) (.cons (.var 2) .nil)))) (.cons (.asg (.sub (.var 4) (.glob "OUT" (.int 31))) (.var 3)) (.cons (.ret (.bi false .all (.cons (.comp false [5] (.cmp .ge (.call fv (.cons (.var 5) (.cons (.var 4) .nil))) (.const (.int 0))) (.name 5) (.seq (.idx (.var 0) (.const (.int 4)))) .nil) .nil))) .nil)))))))
theorem keeps_gives_p (h : P.defs[f]? = some ⟨4, 6, bKeepsGives fi fC fI fL fV fv⟩) {v b c d : PV} (hv : v.fz = true) (hsh : ∀ x ∈ itemsOf v, shortS x = true) (hp : fPromise v = false) (w : Wf S) : callN P (n + 8) f [v, b, c, d] S = .exc ⟨"NoPromise", []⟩ S := by
  rw [callN_def h]
  refine runD_excS (ρ' := [some v, some b, some c, some d, none, none]) rfl ?_ w
  show execL (sxN P (n + 7)) (bKeepsGives fi fC fI fL fV fv) [some v, some b, some c, some d, none, none] S = _
  simp [bKeepsGives, check_promise_no (n := n) T.cp T.p hv hsh w hp]
theorem keeps_gives_l (h : P.defs[f]? = some ⟨4, 6, bKeepsGives fi fC fI fL fV fv⟩) (g : GoodP a i es ds gs rs) {b c d : PV} (hb : b.fz = true) (hc : c.fz = true) (hp : fIns i b = true) (hq : fLens es.length c = false) (w : Wf S) : callN P (n + 8) f [promV a i es ds gs rs, b, c, d] S = .exc ⟨"NoLengths", []⟩ S := by
  rw [callN_def h]
  refine runD_excS (ρ' := [some (promV a i es ds gs rs), some b, some c, some d, none, none]) rfl ?_ w
  show execL (sxN P (n + 7)) (bKeepsGives fi fC fI fL fV fv) [some (promV a i es ds gs rs), some b, some c, some d, none, none] S = _
  simp [bKeepsGives, chkP_ok (n := n) T g w, check_ins_ok (n := n + 5) T.ci T.p.C.F.i hb w hp, check_lengths_no (n := n + 5) T.cl T.p.C.F.i hc w hq]
theorem keeps_gives_n (h : P.defs[f]? = some ⟨4, 6, bKeepsGives fi fC fI fL fV fv⟩) (g : GoodP a i es ds gs rs) {b c d : PV} (hb : b.fz = true) (hc : c.fz = true) (hd : d.fz = true) (hp : fIns i b = true) (hq : fLens es.length c = true) (hi : fInt d = false) (w : Wf S) : callN P (n + 8) f [promV a i es ds gs rs, b, c, d] S = .exc ⟨"NoInteger", []⟩ S := by
  rw [callN_def h]
  refine runD_excS (ρ' := [some (promV a i es ds gs rs), some b, some c, some d, none, none]) rfl ?_ w
  show execL (sxN P (n + 7)) (bKeepsGives fi fC fI fL fV fv) [some (promV a i es ds gs rs), some b, some c, some d, none, none] S = _
  simp [bKeepsGives, chkP_ok (n := n) T g w, check_ins_ok (n := n + 5) T.ci T.p.C.F.i hb w hp, check_lengths_ok (n := n + 5) T.cl T.p.C.F.i hc w hq, is_integer_ok (n := n + 6) T.p.C.F.i hd w, hi]
omit T in
/-- the values with OUT beside -/
def valsO (xs ys : List PV) (o : Int) : List (PV × PV) := vals xs ys ++ [(.int 31, .int o)]
omit T in
theorem valsO_ok {xs ys : List PV} {o : Int} (hx : ∀ x ∈ xs, SmI x) (hy : ∀ x ∈ ys, SmI x) (lx : (xs.length : Int) = i) (ly : (ys.length : Int) = rows) (hl : i ≤ 31) (ho : o.natAbs < 2 ^ 64) : Vals (valsO xs ys o) i rows [.int 31] where
  k1 := by
    unfold valsO
    rw [List.all_append, vals_k1]; rfl
  get v h0 hv := by
    unfold valsO vals
    rw [List.append_assoc, dget_kvI, dget_kvI]
    rcases hv with h | h | h
    · rw [if_pos ⟨by omega, by omega⟩]
      have hlt : (v - ((0 : Nat) : Int)).toNat < xs.length := by omega
      obtain ⟨k, hk, hb⟩ := hx _ (List.getElem_mem hlt)
      exact ⟨k, by rw [List.getElem?_eq_getElem hlt, hk], hb⟩
    · rw [if_neg (by omega), if_pos ⟨by omega, by omega⟩]
      have hlt : (v - ((32 : Nat) : Int)).toNat < ys.length := by omega
      obtain ⟨k, hk, hb⟩ := hy _ (List.getElem_mem hlt)
      exact ⟨k, by rw [List.getElem?_eq_getElem hlt, hk], hb⟩
    · have e : v = 31 := by
        have h' : ((31 == v) || false) = true := h
        simp at h'
        exact h'.symm
      subst e
      by_cases h1 : ((0 : Nat) : Int) ≤ 31 ∧ (31 : Int) < ((0 : Nat) : Int) + xs.length
      · exfalso; omega
      · rw [if_neg h1, if_neg (by omega)]
        exact ⟨o, rfl, ho⟩
theorem keeps_gives_ok (h : P.defs[f]? = some ⟨4, 6, bKeepsGives fi fC fI fL fV fv⟩) (g : GoodP a i es ds gs rs) {xs ys : List PV} {o : Int} (hx : ∀ x ∈ xs, SmI x) (hy : ∀ y ∈ ys, SmI y) (hn : ys.all fNat = true) (lx : (xs.length : Int) = i) (ly : ys.length = es.length) (ho : o.natAbs < 2 ^ 64) (w : Wf S) : callN P (n + 8) f [promV a i es ds gs rs, .tup xs, .tup ys, .int o] S = .ok (.bl (gs.all fun x => decide (0 ≤ fVal (valsO xs ys o) x))) S := by
  rw [callN_def h]
  have hi6 := g.hi
  have hel := g.el
  have hv := values_by_ok (n := n + 6) T.vb (xs := xs) (ys := ys) (v := .tup ys) (.inl rfl) (SmI.fzL hx) (SmI.fzL hy) (by omega) (by omega) w
  have w' : Wf (S ++ [.dct (valsO xs ys o)]) := wf_snoc w (by
    show underKv S.length (valsO xs ys o) = true
    unfold valsO vals
    rw [underKv_append, underKv_append, underKv_kvI (SmI.fzL hx), underKv_kvI (SmI.fzL hy)]; rfl)
  have V : Vals (valsO xs ys o) i es.length [.int 31] := valsO_ok hx hy lx (by rw [ly]) (by omega) ho
  have hD : getD (S ++ [.dct (valsO xs ys o)]) (.loc S.length) = some (valsO xs ys o) := by
    unfold getD
    simp only [get_last]
  have h1 : fIns i (.tup xs) = true := by
    simp only [fIns, lx, beq_self_eq_true, SmI.allInt hx, Bool.and_self]
  have h2 : fLens es.length (.tup ys) = true := by
    simp only [fLens, ly, decide_true, hn, Bool.and_self]
  have hset : setop (.loc S.length) (.int 31) (.int o) (S ++ [.dct (vals xs ys)]) = some (S ++ [.dct (valsO xs ys o)]) := by
    have hk : dOk (vals xs ys) (.int 31) = true := by
      unfold dOk
      rw [vals_k1]; rfl
    have hn : (vals xs ys).length < LINE := by
      unfold vals LINE
      rw [List.length_append, kvI_len, kvI_len]; omega
    unfold setop
    simp only [get_last, hk, Bool.true_or, hn, decide_true, Bool.and_self, if_true, set_last]
    unfold valsO
    rw [dput_new]
    unfold vals
    rw [List.any_append, kvI_any, kvI_any, Bool.or_eq_false_iff]
    have e1 : ¬ ((31 : Int) < ((0 : Nat) : Int) + xs.length) := by omega
    have e2 : ¬ (((32 : Nat) : Int) ≤ 31) := by omega
    simp only [e1, e2, decide_false, Bool.and_false, Bool.false_and, and_self]
  have h3 : den (sxN P (n + 7)) (.comp false [5] (.cmp .ge (.call fv (.cons (.var 5) (.cons (.var 4) .nil))) (.const (.int 0))) (.name 5) (.seq (.idx (.var 0) (.const (.int 4)))) .nil) [some (promV a i es ds gs rs), some (.tup xs), some (.tup ys), some (.int o), some (.loc S.length), none] (S ++ [.dct (valsO xs ys o)]) = .ok (.lst (gs.map fun x => .bl (decide (0 ≤ fVal (valsO xs ys o) x)))) (S ++ [.dct (valsO xs ys o)]) :=
    den_compb (xs := gs) (by simp [walkOf]) fun x hx => ⟨_, rfl, by
      show den (sxN P (n + 7)) _ [some (promV a i es ds gs rs), some (.tup xs), some (.tup ys), some (.int o), some (.loc S.length), some x] _ = _
      simp [fVal_ok (n := n + 6) T.v V hD (List.all_eq_true.mp g.gf x hx) (List.all_eq_true.mp g.g_o x hx) w']⟩
  have key := runD_drop (d := ⟨4, 6, bKeepsGives fi fC fI fL fV fv⟩) (sx := sxN P (n + 7)) (vs := [promV a i es ds gs rs, .tup xs, .tup ys, .int o]) (S := S) (v := .bl (gs.all fun x => decide (0 ≤ fVal (valsO xs ys o) x))) (S' := S ++ [.dct (valsO xs ys o)]) rfl (by
    show execL (sxN P (n + 7)) (bKeepsGives fi fC fI fL fV fv) [some (promV a i es ds gs rs), some (.tup xs), some (.tup ys), some (.int o), none, none] S = _
    simp [bKeepsGives, chkP_ok (n := n) T g w, check_ins_ok (n := n + 5) T.ci T.p.C.F.i (v := .tup xs) (SmI.fzL hx) w h1, check_lengths_ok (n := n + 5) T.cl T.p.C.F.i (v := .tup ys) (SmI.fzL hy) w h2, is_integer_ok (n := n + 6) T.p.C.F.i (v := .int o) rfl w, fInt, hv, asgT_sub, hset, h3]) rfl (by rw [take_snoc]; exact w)
  rw [take_snoc] at key
  exact key
end
section
variable {P : Prog} {f fi fw fp ff fc fr : Nat} {n : Nat} {S : Store}
/-! ### raw_reach, reach_of -/
def bRawReach : Ss := (.cons (.ret (.ite (.val (.var 2)) (.bin .add (.bin .add (.var 0) (.var 1)) (.tup (.cons (.glob "STEP" (.tup [(.int 1), (.tup [])])) .nil))) (.var 0))) .nil)
def bReachOf (fc fr : Nat) : Ss := (.cons (.for_ (.name 3) (.seq (.tup (.cons (.var 0) (.cons (.var 1) .nil)))) (.cons (.iff (.not (.val (.call fc (.cons (.var 3) (.cons (.glob "MOST_CLAIMS" (.int 80)) .nil))))) (.cons (.raise "NoClaims" .nil) .nil) .nil) .nil)) (.cons (.iff (.not (.val (.isin (.var 2) [(.bt .bool)]))) (.cons (.raise "NoFlag" .nil) .nil) .nil) (.cons (.ret (.call fr (.cons (.var 0) (.cons (.var 1) (.cons (.var 2) .nil))))) .nil)))
theorem raw_reach_ok (h : P.defs[f]? = some ⟨3, 3, bRawReach⟩) {xs ys : List PV} {b : Bool} (hx : fzL xs = true) (hy : fzL ys = true) (lx : xs.length ≤ 80) (ly : ys.length ≤ 80) (w : Wf S) : callN P (n + 1) f [.tup xs, .tup ys, .bl b] S = .ok (.tup (if b then xs ++ ys ++ [.tup [.int 1, .tup []]] else xs)) S := by
  rw [callN_def h]
  refine runD_ret rfl ?_ ?_ w
  · show execL (sxN P n) bRawReach [some (.tup xs), some (.tup ys), some (.bl b)] S = _
    cases b with
    | false => simp [bRawReach]
    | true => simp [bRawReach, add_tup (S := S) (xs := xs) (ys := ys) (by omega), add_tup (S := S) (xs := xs ++ ys) (ys := [.tup [.int 1, .tup []]]) (by rw [List.length_append, List.length_cons, List.length_nil]; omega)]
  · refine PV.fz_under _ ?_
    cases b with
    | false => exact hx
    | true =>
      show fzL (xs ++ ys ++ [.tup [.int 1, .tup []]]) = true
      rw [fzL_append, fzL_append, hx, hy]; rfl
variable (F : HasForms P fi fw fp ff) (hc : P.defs[fc]? = some ⟨2, 3, bAreClaims ff⟩)
include F hc
theorem reach_loop_ok (h : P.defs[f]? = some ⟨3, 4, bReachOf fc fr⟩) {x y z : PV} (hx : x.fz = true) (hy : y.fz = true) (w : Wf S) :
    execL (sxN P (n + 5)) (bReachOf fc fr) [some x, some y, some z, none] S = if fClaims x 80 then (if fClaims y 80 then execL (sxN P (n + 5)) (.cons (.iff (.not (.val (.isin (.var 2) [(.bt .bool)]))) (.cons (.raise "NoFlag" .nil) .nil) .nil) (.cons (.ret (.call fr (.cons (.var 0) (.cons (.var 1) (.cons (.var 2) .nil))))) .nil)) [some x, some y, some z, some y] S else .exc ⟨"NoClaims", []⟩ [some x, some y, some z, some y] S) else .exc ⟨"NoClaims", []⟩ [some x, some y, some z, some x] S := by
  have c1 := are_claims_ok (n := n) hc F (m := 80) hx w
  have c2 := are_claims_ok (n := n) hc F (m := 80) hy w
  cases h1 : fClaims x 80 with
  | false => simp [bReachOf, walkOf, forL, c1, h1]
  | true =>
    cases h2 : fClaims y 80 with
    | false => simp [bReachOf, walkOf, forL, c1, h1, c2, h2]
    | true => simp [bReachOf, walkOf, forL, c1, h1, c2, h2]
theorem reach_of_c (h : P.defs[f]? = some ⟨3, 4, bReachOf fc fr⟩) {x y z : PV} (hx : x.fz = true) (hy : y.fz = true) (hn : fClaims x 80 = false ∨ fClaims y 80 = false) (w : Wf S) : callN P (n + 6) f [x, y, z] S = .exc ⟨"NoClaims", []⟩ S := by
  rw [callN_def h]
  have key := reach_loop_ok (n := n) (z := z) F hc h hx hy w
  rcases hn with h0 | h0
  · refine runD_excS (ρ' := [some x, some y, some z, some x]) rfl ?_ w
    refine key.trans ?_
    rw [h0]; rfl
  · cases h1 : fClaims x 80 with
    | false =>
      refine runD_excS (ρ' := [some x, some y, some z, some x]) rfl ?_ w
      refine key.trans ?_
      rw [h1]; rfl
    | true =>
      refine runD_excS (ρ' := [some x, some y, some z, some y]) rfl ?_ w
      refine key.trans ?_
      rw [h0, h1]; rfl
theorem reach_of_f (h : P.defs[f]? = some ⟨3, 4, bReachOf fc fr⟩) {x y z : PV} (hx : x.fz = true) (hy : y.fz = true) (h1 : fClaims x 80 = true) (h2 : fClaims y 80 = true) (hz : isinstL P.sub z S [.bt .bool] = some false) (w : Wf S) : callN P (n + 6) f [x, y, z] S = .exc ⟨"NoFlag", []⟩ S := by
  rw [callN_def h]
  refine runD_excS (ρ' := [some x, some y, some z, some y]) rfl ?_ w
  refine (reach_loop_ok (n := n) (z := z) F hc h hx hy w).trans ?_
  rw [h1, h2]
  simp [hz]
theorem reach_of_ok (h : P.defs[f]? = some ⟨3, 4, bReachOf fc fr⟩) (hr : P.defs[fr]? = some ⟨3, 3, bRawReach⟩) {xs ys : List PV} {b : Bool} (h1 : fClaims (.tup xs) 80 = true) (h2 : fClaims (.tup ys) 80 = true) (w : Wf S) : callN P (n + 6) f [.tup xs, .tup ys, .bl b] S = .ok (.tup (if b then xs ++ ys ++ [.tup [.int 1, .tup []]] else xs)) S := by
  rw [callN_def h]
  obtain ⟨xs', e, lx, fx⟩ := fClaims_tup h1
  injection e with e; subst e
  obtain ⟨ys', e, ly, fy⟩ := fClaims_tup h2
  injection e with e; subst e
  have hx : fzL xs = true := fzL_all fun x hx => fForm_fz (List.all_eq_true.mp fx x hx)
  have hy : fzL ys = true := fzL_all fun x hx => fForm_fz (List.all_eq_true.mp fy x hx)
  refine runD_ret rfl ?_ ?_ w
  · refine (reach_loop_ok (n := n) (z := .bl b) F hc h (x := .tup xs) (y := .tup ys) hx hy w).trans ?_
    rw [h1, h2]
    have hs : isinstL P.sub (.bl b) S [.bt .bool] = some true := rfl
    simp [hs, raw_reach_ok (n := n + 4) hr hx hy (by omega) (by omega) w]
  · refine PV.fz_under _ ?_
    cases b with
    | false => exact hx
    | true =>
      show fzL (xs ++ ys ++ [.tup [.int 1, .tup []]]) = true
      rw [fzL_append, fzL_append, hx, hy]; rfl
end
end CW
end

section
set_option Elab.async false
set_option linter.all false
set_option maxRecDepth 100000
set_option maxHeartbeats 1000000
/-! The law's hand and draws: the hand is the store's first thing. -/
namespace CW
open PySem
structure Hd where
  cells : List Int
  i : Int
  c : Int
  s : Int
  k : Int
def hv (h : Hd) : Ob := .lst [.lst (h.cells.map .int), .int h.i, .int h.c, .int h.s, .int h.k]
/-- a hand after b draws at most -/
structure HS (b : Nat) (h : Hd) : Prop where
  cells : ∀ x ∈ h.cells, 0 ≤ x ∧ x < 10 ^ 36
  i0 : 0 ≤ h.i
  c0 : 0 ≤ h.c
  c1 : h.c < 10 ^ 36
  s0 : 0 ≤ h.s
  s1 : h.s < 2 ^ 40
  k0 : 0 ≤ h.k
  k1 : h.k ≤ b
theorem HS.mono {b b' : Nat} {h : Hd} (H : HS b h) (hb : b ≤ b') : HS b' h := { H with k1 := by have := H.k1; omega }
theorem hv_under {n : Nat} {h : Hd} : (hv h).under n = true := by
  have : ∀ xs : List Int, underL n (xs.map .int) = true := fun xs => by
    induction xs with
    | nil => rfl
    | cons x xs ih => simp [underL, PV.under, ih]
  simp [hv, Ob.under, underL, PV.under, this]
theorem wf_hv {h h' : Hd} {R : Store} (w : Wf (hv h :: R)) : Wf (hv h' :: R) := by
  unfold Wf at *
  simp only [List.length_cons, underS, hv_under, Bool.true_and] at *
  exact w
section
variable {h : Hd} {R : Store} {v : Int}
@[simp] theorem ix_h0 : ixop (.loc 0) (.int 0) (hv h :: R) = some (.lst (h.cells.map .int)) := rfl
@[simp] theorem ix_h1 : ixop (.loc 0) (.int 1) (hv h :: R) = some (.int h.i) := rfl
@[simp] theorem ix_h2 : ixop (.loc 0) (.int 2) (hv h :: R) = some (.int h.c) := rfl
@[simp] theorem ix_h3 : ixop (.loc 0) (.int 3) (hv h :: R) = some (.int h.s) := rfl
@[simp] theorem ix_h4 : ixop (.loc 0) (.int 4) (hv h :: R) = some (.int h.k) := rfl
@[simp] theorem set_h1 : setop (.loc 0) (.int 1) (.int v) (hv h :: R) = some (hv { h with i := v } :: R) := rfl
@[simp] theorem set_h2 : setop (.loc 0) (.int 2) (.int v) (hv h :: R) = some (hv { h with c := v } :: R) := rfl
@[simp] theorem set_h3 : setop (.loc 0) (.int 3) (.int v) (hv h :: R) = some (hv { h with s := v } :: R) := rfl
@[simp] theorem set_h4 : setop (.loc 0) (.int 4) (.int v) (hv h :: R) = some (hv { h with k := v } :: R) := rfl
end
section
variable {S : Store}
theorem mul_of {i j : Int} (a b : Nat) (hi : i.natAbs < 2 ^ a) (hj : j.natAbs < 2 ^ b) (h : a + b < 1000000) : binop .mul (.int i) (.int j) S = some (.int (i * j)) := by
  show (if mulOk i j = true then _ else _) = _
  rw [if_pos (mulOk_of a b hi hj h)]
theorem mod_of {i j : Int} (hj : 0 < j) : binop .mod (.int i) (.int j) S = some (.int (i % j)) := by
  show (if (j != 0) = true then some (PV.int (i.fmod j)) else none) = _
  rw [if_pos (by simp; omega), Int.fmod_eq_emod_of_nonneg i (by omega)]
theorem div_of {i j : Int} (hj : 0 < j) (hl : j < 2 ^ 64) : binop .fdiv (.int i) (.int j) S = some (.int (i / j)) := by
  have hd : divOk j = true := by
    unfold divOk
    have : j.natAbs.log2 ≤ 64 := log2_le (by omega)
    simp only [Bool.and_eq_true, bne_iff_ne, ne_eq, decide_eq_true_eq]
    omega
  show (if divOk j = true then some (PV.int (i.fdiv j)) else none) = _
  rw [if_pos hd, Int.fdiv_eq_ediv_of_nonneg i (by omega)]
theorem pow_of {i : Int} {j : Nat} (hj : j ≤ 1000) (hi : i.natAbs < 2 ^ 63) : binop .pow (.int i) (.int (j : Int)) S = some (.int (i ^ j)) := by
  show (if (decide ((0 : Int) ≤ j) && (decide ((j : Int) ≤ 1000000) && decide (i.natAbs < 2 ^ 64))) = true then some (PV.int (i ^ (j : Int).toNat)) else none) = _
  rw [if_pos (by simp only [Bool.and_eq_true, decide_eq_true_eq]; omega), Int.toNat_natCast]
@[simp] theorem bi_int1' {i : Int} : bi .int1 [.int i] S = some (.int i) := rfl
theorem mod_rng (i : Int) {j : Int} (hj : 0 < j) : 0 ≤ i % j ∧ i % j < j := ⟨Int.emod_nonneg i (by omega), Int.emod_lt_of_pos i hj⟩
end
section
variable {sx : Sx} {d : Dfn} {vs : List PV} {S S' : Store} {v : PV}
theorem runD_same (hl : vs.length = d.par) (h : execL sx d.body (begin_ d vs) S = .ret v S') (hs : S'.length = S.length) (u : v.under S.length = true) (w : Wf S') : runD sx d vs S = .ok v S' := by
  have e : S'.take S.length = S' := by rw [← hs, List.take_length]
  have := runD_drop hl h u (by rw [e, ← hs]; exact w)
  rw [e] at this
  exact this
end
/-! ### _law_draw -/
def bDraw : Ss := (.cons (.iff (.bool true (.cons (.cmp .eq (.idx (.var 0) (.const (.int 2))) (.const (.int 0))) (.cons (.cmp .lt (.idx (.var 0) (.const (.int 1))) (.bi false .len (.cons (.idx (.var 0) (.const (.int 0))) .nil))) .nil))) (.cons (.asg (.name 3) (.idx (.idx (.var 0) (.const (.int 0))) (.idx (.var 0) (.const (.int 1))))) (.cons (.asg (.sub (.var 0) (.const (.int 1))) (.bin .add (.idx (.var 0) (.const (.int 1))) (.const (.int 1)))) (.cons (.asg (.sub (.var 0) (.const (.int 3))) (.bin .mod (.bi false .int1 (.cons (.bin .add (.bin .add (.bin .mul (.idx (.var 0) (.const (.int 3))) (.const (.int 69621))) (.bin .mul (.var 3) (.const (.int 48271)))) (.const (.int 17))) .nil)) (.const (.int 2147483629)))) (.cons (.iff (.cmp .ge (.var 3) (.bin .pow (.const (.int 10)) (.const (.int 18)))) (.cons (.asg (.sub (.var 0) (.const (.int 2))) (.var 3)) .nil) .nil) .nil)))) .nil) (.cons (.iff (.cmp .gt (.idx (.var 0) (.const (.int 2))) (.const (.int 0))) (.cons (.asg (.name 4) (.bin .mod (.bi false .int1 (.cons (.idx (.var 0) (.const (.int 2))) .nil)) (.var 1))) (.cons (.asg (.sub (.var 0) (.const (.int 2))) (.bin .fdiv (.idx (.var 0) (.const (.int 2))) (.var 1))) (.cons (.ret (.var 4)) .nil))) .nil) (.cons (.asg (.sub (.var 0) (.const (.int 4))) (.bin .add (.idx (.var 0) (.const (.int 4))) (.const (.int 1)))) (.cons (.asg (.name 2) (.bin .mod (.bi false .int1 (.cons (.bin .mul (.bi false .int1 (.cons (.bin .add (.idx (.var 0) (.const (.int 3))) (.bin .mul (.const (.int 7919)) (.idx (.var 0) (.const (.int 4))))) .nil)) (.const (.int 40692))) .nil)) (.const (.int 2147483647)))) (.cons (.asg (.name 2) (.bin .mod (.bi false .int1 (.cons (.bin .mul (.var 2) (.bin .add (.bin .fdiv (.var 2) (.const (.int 1009))) (.const (.int 69621)))) .nil)) (.const (.int 2147483647)))) (.cons (.asg (.name 2) (.bin .mod (.bi false .int1 (.cons (.bin .mul (.var 2) (.bin .add (.bin .fdiv (.var 2) (.const (.int 2003))) (.const (.int 40014)))) .nil)) (.const (.int 2147483563)))) (.cons (.ret (.bin .mod (.bi false .int1 (.cons (.bin .fdiv (.var 2) (.const (.int 16))) .nil)) (.var 1))) .nil)))))))
section
variable {P : Prog} {fd fa : Nat} {n : Nat} {R : Store} {h : Hd} {b : Nat}
theorem ix_cells {cs : List Int} {i : Int} {S : Store} (h0 : 0 ≤ i) (h1 : i < cs.length) : ∃ x, x ∈ cs ∧ ixop (.lst (cs.map .int)) (.int i) S = some (.int x) := by
  have hl : i.toNat < cs.length := by omega
  refine ⟨cs[i.toNat], List.getElem_mem hl, ?_⟩
  have : ixN (cs.map PV.int).length i = some i.toNat := by
    unfold ixN
    rw [if_pos h0, List.length_map, if_pos h1]
  simp only [ixop, getD, getSeq, getL, Option.bind_some, this]
  simp [hl]
theorem draw_ok (hd : P.defs[fd]? = some ⟨2, 5, bDraw⟩) (H : HS b h) (hb : b < 2 ^ 60) {m : Int} (h0 : 0 < m) (hm : m < 2 ^ 62) (w : Wf (hv h :: R)) : ∃ h' r, callN P (n + 1) fd [.loc 0, .int m] (hv h :: R) = .ok (.int r) (hv h' :: R) ∧ HS (b + 1) h' ∧ 0 ≤ r ∧ r < m := by
  rw [callN_def hd]
  suffices hs : ∃ h' r, execL (sxN P n) bDraw [some (.loc 0), some (.int m), none, none, none] (hv h :: R) = .ret (.int r) (hv h' :: R) ∧ HS (b + 1) h' ∧ 0 ≤ r ∧ r < m by
    obtain ⟨h', r, h1, h2⟩ := hs
    exact ⟨h', r, runD_same (d := ⟨2, 5, bDraw⟩) (vs := [.loc 0, .int m]) rfl h1 rfl rfl (wf_hv w), h2⟩
  -- the second half
  have half : ∀ (h : Hd) (x : Option PV), HS b h → ∃ h' r, execL (sxN P n) (.cons (.iff (.cmp .gt (.idx (.var 0) (.const (.int 2))) (.const (.int 0))) (.cons (.asg (.name 4) (.bin .mod (.bi false .int1 (.cons (.idx (.var 0) (.const (.int 2))) .nil)) (.var 1))) (.cons (.asg (.sub (.var 0) (.const (.int 2))) (.bin .fdiv (.idx (.var 0) (.const (.int 2))) (.var 1))) (.cons (.ret (.var 4)) .nil))) .nil) (.cons (.asg (.sub (.var 0) (.const (.int 4))) (.bin .add (.idx (.var 0) (.const (.int 4))) (.const (.int 1)))) (.cons (.asg (.name 2) (.bin .mod (.bi false .int1 (.cons (.bin .mul (.bi false .int1 (.cons (.bin .add (.idx (.var 0) (.const (.int 3))) (.bin .mul (.const (.int 7919)) (.idx (.var 0) (.const (.int 4))))) .nil)) (.const (.int 40692))) .nil)) (.const (.int 2147483647)))) (.cons (.asg (.name 2) (.bin .mod (.bi false .int1 (.cons (.bin .mul (.var 2) (.bin .add (.bin .fdiv (.var 2) (.const (.int 1009))) (.const (.int 69621)))) .nil)) (.const (.int 2147483647)))) (.cons (.asg (.name 2) (.bin .mod (.bi false .int1 (.cons (.bin .mul (.var 2) (.bin .add (.bin .fdiv (.var 2) (.const (.int 2003))) (.const (.int 40014)))) .nil)) (.const (.int 2147483563)))) (.cons (.ret (.bin .mod (.bi false .int1 (.cons (.bin .fdiv (.var 2) (.const (.int 16))) .nil)) (.var 1))) .nil)))))) [some (.loc 0), some (.int m), none, x, none] (hv h :: R) = .ret (.int r) (hv h' :: R) ∧ HS (b + 1) h' ∧ 0 ≤ r ∧ r < m := by
    intro h x H
    by_cases hc : 0 < h.c
    · refine ⟨{ h with c := h.c / m }, h.c % m, ?_, { H with c0 := Int.ediv_nonneg H.c0 (by omega), c1 := ?_, k1 := by have := H.k1; show h.k ≤ ((b + 1 : Nat) : Int); omega }, mod_rng h.c h0⟩
      · have e1 := mod_of (S := hv h :: R) (i := h.c) h0
        have e2 := div_of (S := hv h :: R) (i := h.c) h0 (by omega)
        simp [hc, e1, e2, asgT_sub]
      · have := Int.ediv_le_self m H.c0
        have := H.c1
        show h.c / m < _
        omega
    · have k0 := H.k0
      have k1 := H.k1
      have s0 := H.s0
      have s1 := H.s1
      have e1 := mul_of (S := hv { h with k := h.k + 1 } :: R) (i := 7919) (j := h.k + 1) 13 61 (by decide) (by omega) (by decide)
      have e2 := mul_of (S := hv { h with k := h.k + 1 } :: R) (i := h.s + 7919 * (h.k + 1)) (j := 40692) 80 16 (by omega) (by decide) (by decide)
      have r1 := mod_rng ((h.s + 7919 * (h.k + 1)) * 40692) (j := 2147483647) (by decide)
      generalize hg1 : (h.s + 7919 * (h.k + 1)) * 40692 % 2147483647 = n1 at r1
      have e3 := mul_of (S := hv { h with k := h.k + 1 } :: R) (i := n1) (j := n1 / 1009 + 69621) 40 40 (by omega) (by omega) (by decide)
      have r2 := mod_rng (n1 * (n1 / 1009 + 69621)) (j := 2147483647) (by decide)
      generalize hg2 : n1 * (n1 / 1009 + 69621) % 2147483647 = n2 at r2
      have e4 := mul_of (S := hv { h with k := h.k + 1 } :: R) (i := n2) (j := n2 / 2003 + 40014) 40 40 (by omega) (by omega) (by decide)
      refine ⟨{ h with k := h.k + 1 }, (n2 * (n2 / 2003 + 40014) % 2147483563) / 16 % m, ?_, { H with k0 := by show 0 ≤ h.k + 1; omega, k1 := by show h.k + 1 ≤ ((b + 1 : Nat) : Int); omega }, mod_rng _ h0⟩
      have m1 : ∀ (S : Store) (i : Int), binop .mod (.int i) (.int 2147483647) S = some (.int (i % 2147483647)) := fun _ _ => mod_of (by decide)
      have m2 : ∀ (S : Store) (i : Int), binop .mod (.int i) (.int 2147483563) S = some (.int (i % 2147483563)) := fun _ _ => mod_of (by decide)
      have m3 : ∀ (S : Store) (i : Int), binop .mod (.int i) (.int m) S = some (.int (i % m)) := fun _ _ => mod_of h0
      have d1 : ∀ (S : Store) (i : Int), binop .fdiv (.int i) (.int 1009) S = some (.int (i / 1009)) := fun _ _ => div_of (by decide) (by decide)
      have d2 : ∀ (S : Store) (i : Int), binop .fdiv (.int i) (.int 2003) S = some (.int (i / 2003)) := fun _ _ => div_of (by decide) (by decide)
      have d3 : ∀ (S : Store) (i : Int), binop .fdiv (.int i) (.int 16) S = some (.int (i / 16)) := fun _ _ => div_of (by decide) (by decide)
      simp [hc, asgT_sub, e1, e2, m1, hg1, d1, e3, hg2, d2, e4, m2, d3, m3]
  simp only [bDraw]
  rw [execL_cons]
  have first : ∃ h1 x, exec (sxN P n) (.iff (.bool true (.cons (.cmp .eq (.idx (.var 0) (.const (.int 2))) (.const (.int 0))) (.cons (.cmp .lt (.idx (.var 0) (.const (.int 1))) (.bi false .len (.cons (.idx (.var 0) (.const (.int 0))) .nil))) .nil))) (.cons (.asg (.name 3) (.idx (.idx (.var 0) (.const (.int 0))) (.idx (.var 0) (.const (.int 1))))) (.cons (.asg (.sub (.var 0) (.const (.int 1))) (.bin .add (.idx (.var 0) (.const (.int 1))) (.const (.int 1)))) (.cons (.asg (.sub (.var 0) (.const (.int 3))) (.bin .mod (.bi false .int1 (.cons (.bin .add (.bin .add (.bin .mul (.idx (.var 0) (.const (.int 3))) (.const (.int 69621))) (.bin .mul (.var 3) (.const (.int 48271)))) (.const (.int 17))) .nil)) (.const (.int 2147483629)))) (.cons (.iff (.cmp .ge (.var 3) (.bin .pow (.const (.int 10)) (.const (.int 18)))) (.cons (.asg (.sub (.var 0) (.const (.int 2))) (.var 3)) .nil) .nil) .nil)))) .nil) [some (.loc 0), some (.int m), none, none, none] (hv h :: R) = .next [some (.loc 0), some (.int m), none, x, none] (hv h1 :: R) ∧ HS b h1 := by
    by_cases hc : h.c = 0
    · by_cases hi : h.i < h.cells.length
      · obtain ⟨x, hx, hix⟩ := ix_cells (S := hv h :: R) H.i0 hi
        have hx2 := H.cells x hx
        have s0 := H.s0
        have s1 := H.s1
        have e1 := fun S => mul_of (S := S) (i := h.s) (j := 69621) 40 20 (by omega) (by decide) (by decide)
        have e2 := fun S => mul_of (S := S) (i := x) (j := 48271) 120 20 (by omega) (by decide) (by decide)
        have m1 : ∀ (S : Store) (i : Int), binop .mod (.int i) (.int 2147483629) S = some (.int (i % 2147483629)) := fun _ _ => mod_of (by decide)
        have p1 : ∀ (S : Store), binop .pow (.int 10) (.int 18) S = some (.int (10 ^ 18)) := fun S => pow_of (S := S) (i := 10) (j := 18) (by decide) (by decide)
        have r1 := mod_rng (h.s * 69621 + x * 48271 + 17) (j := 2147483629) (by decide)
        by_cases hx18 : 1000000000000000000 ≤ x
        · refine ⟨{ h with i := h.i + 1, s := (h.s * 69621 + x * 48271 + 17) % 2147483629, c := x }, some (.int x), ?_, { H with i0 := by have := H.i0; show 0 ≤ h.i + 1; omega, s0 := r1.1, s1 := Int.lt_trans r1.2 (by decide), c0 := hx2.1, c1 := hx2.2 }⟩
          simp [hc, hi, hix, asgT_sub, e1, e2, m1, p1, hx18]
        · refine ⟨{ h with i := h.i + 1, s := (h.s * 69621 + x * 48271 + 17) % 2147483629 }, some (.int x), ?_, { H with i0 := by have := H.i0; show 0 ≤ h.i + 1; omega, s0 := r1.1, s1 := Int.lt_trans r1.2 (by decide) }⟩
          simp [hc, hi, hix, asgT_sub, e1, e2, m1, p1, hx18]
      · exact ⟨h, none, by simp [hc, hi], H⟩
    · exact ⟨h, none, by simp [hc], H⟩
  obtain ⟨h1, x, e, H1⟩ := first
  rw [e, SRes.andThen_next]
  exact half h1 x H1
end
end CW
end

section
set_option Elab.async false
set_option linter.all false
set_option maxRecDepth 100000
set_option maxHeartbeats 1000000
/-! _law_any, _law_form, _law_claim. -/
namespace CW
open PySem
section
variable {P : Prog} {fd fa ff : Nat} {n : Nat} {R : Store} {h : Hd} {b : Nat}
/-! ### _law_any -/
def bAny (fd : Nat) : Ss := (.cons (.ret (.idx (.var 1) (.call fd (.cons (.var 0) (.cons (.bi false .len (.cons (.var 1) .nil)) .nil))))) .nil)
theorem ix_lst {xs : List PV} {i : Int} {S : Store} (h0 : 0 ≤ i) (h1 : i < xs.length) : ∃ x, x ∈ xs ∧ ixop (.lst xs) (.int i) S = some x := by
  have hl : i.toNat < xs.length := by omega
  refine ⟨xs[i.toNat], List.getElem_mem hl, ?_⟩
  have : ixN xs.length i = some i.toNat := by
    unfold ixN
    rw [if_pos h0, if_pos h1]
  simp only [ixop, getD, getSeq, getL, Option.bind_some, this]
  simp [hl]
theorem underL_mem {m : Nat} : ∀ {xs : List PV} {x : PV}, underL m xs = true → x ∈ xs → x.under m = true
  | [], _, _, h => absurd h (by simp)
  | y :: ys, x, h, hx => by
    simp only [underL, Bool.and_eq_true] at h
    rcases List.mem_cons.mp hx with e | hx
    · subst e; exact h.1
    · exact underL_mem h.2 hx
theorem any_ok (ha : P.defs[fa]? = some ⟨2, 2, bAny fd⟩) (hd : P.defs[fd]? = some ⟨2, 5, bDraw⟩) (H : HS b h) (hb : b < 2 ^ 60) {xs : List PV} (h0 : 0 < xs.length) (hm : xs.length < 2 ^ 60) (hu : underL (R.length + 1) xs = true) (w : Wf (hv h :: R)) : ∃ h' v, callN P (n + 2) fa [.loc 0, .lst xs] (hv h :: R) = .ok v (hv h' :: R) ∧ HS (b + 1) h' ∧ v ∈ xs := by
  rw [callN_def ha]
  obtain ⟨h', r, e, H', r0, r1⟩ := draw_ok (n := n) hd H hb (m := xs.length) (by omega) (by omega) w
  obtain ⟨v, hv', hi⟩ := ix_lst (S := hv h' :: R) r0 r1
  refine ⟨h', v, runD_same (d := ⟨2, 2, bAny fd⟩) (vs := [.loc 0, .lst xs]) rfl ?_ rfl (underL_mem hu hv') (wf_hv w), H', hv'⟩
  show execL (sxN P (n + 1)) (bAny fd) [some (.loc 0), some (.lst xs)] (hv h :: R) = _
  simp [bAny, e, hi]
end
end CW
end

section
set_option Elab.async false
set_option linter.all false
set_option maxRecDepth 100000
set_option maxHeartbeats 1000000
/-! Forms that the law makes: _law_form. -/
namespace CW
open PySem
/-! ### sorting -/
theorem sortI_strict {l : List Int} (h : l.Nodup) : (sortI l).Pairwise (· < ·) := by
  have h1 : (sortI l).Nodup := (sortI_perm l).nodup_iff.mpr h
  have h2 := sortI_sorted l
  have h3 : (sortI l).Pairwise fun a b => a ≠ b := h1
  exact (h2.and h3).imp fun ⟨a, b⟩ => by omega
/-! ### dicts of numbers -/
abbrev ikv (m : List (Int × Int)) : List (PV × PV) := m.map fun p => (.int p.1, .int p.2)
def iget (m : List (Int × Int)) (v : Int) : Option Int := (m.find? fun p => p.1 == v).map (·.2)
def iput (m : List (Int × Int)) (v x : Int) : List (Int × Int) := if m.any (fun p => p.1 == v) then m.map (fun p => if p.1 == v then (p.1, x) else p) else m ++ [(v, x)]
theorem dget_ikv {v : Int} : ∀ {m : List (Int × Int)}, dget (ikv m) (.int v) = (iget m v).map .int
  | [] => rfl
  | p :: m => by
    have ih := dget_ikv (v := v) (m := m)
    simp only [ikv, List.map_cons, dget_cons, keq_int] at *
    unfold iget at *
    rw [List.find?_cons]
    cases hp : p.1 == v with
    | true => simp
    | false => simpa using ih
theorem any_ikv {m : List (Int × Int)} {v : Int} : (ikv m).any (fun p => p.1.keq (.int v)) = m.any fun p => p.1 == v := by
  unfold ikv
  rw [List.any_map]
  congr 1
theorem dput_ikv {m : List (Int × Int)} {v x : Int} : dput (ikv m) (.int v) (.int x) = ikv (iput m v x) := by
  unfold dput iput
  rw [any_ikv]
  split
  · simp only [ikv, List.map_map]
    congr 1
    funext p
    simp only [Function.comp, keq_int]
    split <;> rfl
  · simp [ikv]
theorem iput_keys {m : List (Int × Int)} {v x : Int} : (iput m v x).map (·.1) = if m.any (fun p => p.1 == v) then m.map (·.1) else m.map (·.1) ++ [v] := by
  unfold iput
  split
  · rw [List.map_map]
    congr 1
    funext p
    simp only [Function.comp]
    split <;> rfl
  · simp
theorem iput_nodup {m : List (Int × Int)} {v x : Int} (h : (m.map (·.1)).Nodup) : ((iput m v x).map (·.1)).Nodup := by
  rw [iput_keys]
  split
  · exact h
  · rename_i hn
    rw [List.nodup_append]
    refine ⟨h, by simp, fun a ha b hb => ?_⟩
    rw [List.mem_singleton] at hb
    subst hb
    rintro rfl
    apply hn
    obtain ⟨p, hp, rfl⟩ := List.mem_map.mp ha
    exact List.any_eq_true.mpr ⟨p, hp, by simp⟩
theorem iput_mem {m : List (Int × Int)} {v x : Int} {q : Int × Int} (h : q ∈ iput m v x) : q = (v, x) ∨ q ∈ m := by
  unfold iput at h
  split at h
  · obtain ⟨p, hp, rfl⟩ := List.mem_map.mp h
    split
    · rename_i he
      simp at he
      left
      rw [he]
    · exact .inr hp
  · rcases List.mem_append.mp h with h | h
    · exact .inr h
    · left; simpa using h
theorem iput_len {m : List (Int × Int)} {v x : Int} : (iput m v x).length ≤ m.length + 1 := by
  unfold iput
  split
  · rw [List.length_map]; omega
  · rw [List.length_append]; simp
theorem iget_mem {m : List (Int × Int)} {v x : Int} (h : iget m v = some x) : (v, x) ∈ m := by
  unfold iget at h
  cases hf : m.find? fun p => p.1 == v with
  | none => rw [hf] at h; cases h
  | some p =>
    rw [hf] at h
    simp at h
    have h1 := List.find?_some hf
    have h2 := List.mem_of_find?_eq_some hf
    simp at h1
    rw [← h1, ← h]
    exact h2
theorem iget_some {m : List (Int × Int)} {v : Int} (h : v ∈ m.map (·.1)) : ∃ x, iget m v = some x := by
  obtain ⟨p, hp, rfl⟩ := List.mem_map.mp h
  unfold iget
  cases hf : m.find? fun q => q.1 == p.1 with
  | some q => exact ⟨q.2, rfl⟩
  | none =>
    exfalso
    have := List.find?_eq_none.mp hf p hp
    simp at this
theorem ikv_k1 {m : List (Int × Int)} : ((ikv m).all fun p => isK1 p.1) = true := by
  unfold ikv
  rw [List.all_map]
  exact List.all_eq_true.mpr fun _ _ => rfl
theorem ikv_under {m : List (Int × Int)} {n : Nat} : underKv n (ikv m) = true := by
  induction m with
  | nil => rfl
  | cons p m ih => simp [ikv, underKv, PV.under]; exact ih
end CW
end

section
set_option Elab.async false
set_option linter.all false
set_option maxRecDepth 100000
set_option maxHeartbeats 1000000
/-! _law_form. -/
namespace CW
open PySem
def bForm : Ss := (.cons (.asg (.name 2) (.dict true .nil)) (.cons (.for_ (.tup (.cons (.name 3) (.cons (.name 4) .nil))) (.seq (.var 1)) (.cons (.asg (.sub (.var 2) (.var 3)) (.bin .add (.meth .get2 (.var 2) (.cons (.var 3) (.cons (.const (.int 0)) .nil))) (.var 4))) .nil)) (.cons (.ret (.tup (.cons (.var 0) (.cons (.bi false .tuple1 (.cons (.comp false [3] (.tup (.cons (.var 3) (.cons (.idx (.var 2) (.var 3)) .nil))) (.name 3) (.seq (.bi false .sorted1 (.cons (.var 2) .nil))) (.cons (.cmp .ne (.idx (.var 2) (.var 3)) (.const (.int 0))) .nil)) .nil)) .nil)))) .nil)))
def gets (m : List (Int × Int)) (v : Int) : Int := (iget m v).getD 0
def fParts (m : List (Int × Int)) : List PV := ((sortI (m.map (·.1))).filter fun v => gets m v != 0).map fun v => .tup [.int v, .int (gets m v)]
structure KM (A : List Int) (t : Nat) (m : List (Int × Int)) : Prop where
  nd : (m.map (·.1)).Nodup
  len : m.length ≤ t
  key : ∀ p ∈ m, p.1 ∈ A
  val : ∀ p ∈ m, p.2.natAbs ≤ 3 * t
theorem KM.gets {A : List Int} {t : Nat} {m : List (Int × Int)} (K : KM A t m) (v : Int) : (gets m v).natAbs ≤ 3 * t := by
  unfold CW.gets
  cases h : iget m v with
  | none => simp
  | some x => exact K.val _ (iget_mem h)
theorem KM.put {A : List Int} {t : Nat} {m : List (Int × Int)} (K : KM A t m) {v k : Int} (hv : v ∈ A) (hk : k.natAbs ≤ 3) : KM A (t + 1) (iput m v (CW.gets m v + k)) where
  nd := iput_nodup K.nd
  len := by have := @iput_len m v (CW.gets m v + k); have := K.len; omega
  key := fun p hp => by
    rcases iput_mem hp with rfl | hp
    · exact hv
    · exact K.key p hp
  val := fun p hp => by
    rcases iput_mem hp with rfl | hp
    · have := K.gets v
      show (CW.gets m v + k).natAbs ≤ _
      omega
    · have := K.val p hp; omega
section
variable {P : Prog} {ff : Nat} {n : Nat} {S : Store} {sx : Sx}
theorem get2_dict {m : List (Int × Int)} {v : Int} {S : Store} : meth .get2 (.loc S.length) [.int v, .int 0] (S ++ [.dct (ikv m)]) = some (.int (gets m v), S ++ [.dct (ikv m)]) := by
  have hk : dOk (ikv m) (.int v) = true := by
    unfold dOk
    rw [ikv_k1]; rfl
  simp only [meth, getD, get_last, Option.bind_some, hk, if_true, dget_ikv]
  unfold gets
  cases iget m v <;> rfl
theorem put_dict {m : List (Int × Int)} {v x : Int} (h : m.length < 1000) : setop (.loc S.length) (.int v) (.int x) (S ++ [.dct (ikv m)]) = some (S ++ [.dct (ikv (iput m v x))]) := by
  have hk : dOk (ikv m) (.int v) = true := by
    unfold dOk
    rw [ikv_k1]; rfl
  have hn : (ikv m).length < LINE := by
    unfold LINE; rw [List.length_map]; omega
  simp only [setop, get_last, hk, Bool.true_or, hn, decide_true, Bool.and_self, if_true, set_last, dput_ikv]
theorem recv_dict {m : List (Int × Int)} : recvOk .get2 (.loc S.length) (S ++ [.dct (ikv m)]) = true := by
  simp [recvOk, getD]
theorem form_loop {A : List Int} {x0 x1 : Option PV} : ∀ {ps : List (Int × Int)} {m : List (Int × Int)} {t : Nat} {a b : Option PV}, KM A t m → (∀ p ∈ ps, p.1 ∈ A ∧ p.2.natAbs ≤ 3) → t + ps.length < 1000 → ∃ m' a' b', forL (asgT sx (.tup (.cons (.name 3) (.cons (.name 4) .nil)))) (execL sx (.cons (.asg (.sub (.var 2) (.var 3)) (.bin .add (.meth .get2 (.var 2) (.cons (.var 3) (.cons (.const (.int 0)) .nil))) (.var 4))) .nil)) (ps.map PV.pair) [x0, x1, some (.loc S.length), a, b] (S ++ [.dct (ikv m)]) = .next [x0, x1, some (.loc S.length), a', b'] (S ++ [.dct (ikv m')]) ∧ KM A (t + ps.length) m'
  | [], m, t, a, b, K, _, _ => ⟨m, a, b, rfl, K⟩
  | p :: ps, m, t, a, b, K, hp, hl => by
    simp only [List.length_cons] at hl
    have h1 := hp p (List.mem_cons_self ..)
    obtain ⟨m', a', b', e, K'⟩ := form_loop (x0 := x0) (x1 := x1) (ps := ps) (a := some (.int p.1)) (b := some (.int p.2)) (K.put h1.1 h1.2) (fun q hq => hp q (List.mem_cons_of_mem _ hq)) (by omega)
    refine ⟨m', a', b', ?_, by rw [List.length_cons]; have : t + (ps.length + 1) = t + 1 + ps.length := by omega
                               rw [this]; exact K'⟩
    rw [← e]
    have hlen := K.len
    simp only [List.map_cons, PV.pair, forL, asgT_tup, asgTs_cons, asgTs_nil, asgT_name, SRes.andThen_next, List.set_cons_succ, List.set_cons_zero, execL_cons, execL_nil, exec_asg, den_bin, den_meth, denL_cons, denL_nil, den_const, den_varS, den_var0, Res.bind_ok, recv_dict, if_true, get2_dict, ofM_some, add_int, Res.of_some, Res.st_ok, asgT_sub, put_dict (S := S) (m := m) (by omega)]
theorem asc_of {g : Int → Int} : ∀ {l : List Int}, l.Pairwise (· < ·) → ascP (l.map fun v => .tup [.int v, .int (g v)]) = true
  | [], _ => rfl
  | [a], _ => rfl
  | a :: b :: l, h => by
    rw [List.pairwise_cons] at h
    have ih := asc_of (g := g) h.2
    simp only [List.map_cons, ascP, Bool.and_eq_true, decide_eq_true_eq] at *
    exact ⟨h.1 b (List.mem_cons_self ..), ih⟩
theorem flatMap_if {α β : Type} {p : α → Bool} {f : α → β} : ∀ {xs : List α}, (xs.flatMap fun x => if p x then [f x] else []) = (xs.filter p).map f
  | [] => rfl
  | x :: xs => by
    rw [List.flatMap_cons, flatMap_if, List.filter_cons]
    split <;> simp
/-- a sum that the law makes -/
def GoodF (A : List Int) (x : PV) : Prop := ∃ c qs, x = .tup [.int c, .tup qs] ∧ -3 ≤ c ∧ c ≤ 5 ∧ qs.length ≤ 2 ∧ (∀ q ∈ qs, ∃ v k, q = .tup [.int v, .int k] ∧ v ∈ A ∧ k ≠ 0 ∧ k.natAbs ≤ 6) ∧ ascP qs = true
theorem ix_dict {m : List (Int × Int)} {v : Int} (h : v ∈ m.map (·.1)) : ixop (.loc S.length) (.int v) (S ++ [.dct (ikv m)]) = some (.int (gets m v)) := by
  have hk : dOk (ikv m) (.int v) = true := by
    unfold dOk
    rw [ikv_k1]; rfl
  obtain ⟨x, hx⟩ := iget_some h
  simp only [ixop, getD, get_last, hk, if_true, dget_ikv, gets, hx, Option.map_some, Option.getD_some]
theorem form_ok (h : P.defs[ff]? = some ⟨2, 5, bForm⟩) {A : List Int} {c : Int} {ps : List (Int × Int)} (hp : ∀ p ∈ ps, p.1 ∈ A ∧ p.2.natAbs ≤ 3) (hl : ps.length ≤ 2) (c0 : -3 ≤ c) (c1 : c ≤ 5) (w : Wf S) : ∃ x, callN P (n + 1) ff [.int c, .lst (ps.map PV.pair)] S = .ok x S ∧ GoodF A x := by
  rw [callN_def h]
  obtain ⟨m, a, b, e, K⟩ := form_loop (sx := sxN P n) (S := S) (A := A) (x0 := some (.int c)) (x1 := some (.lst (ps.map PV.pair))) (ps := ps) (m := []) (t := 0) (a := none) (b := none) ⟨List.nodup_nil, Nat.le_refl _, by simp, by simp⟩ hp (by omega)
  have klen := K.len
  rw [Nat.zero_add] at K klen
  refine ⟨.tup [.int c, .tup (fParts m)], ?_, c, fParts m, rfl, c0, c1, ?_, ?_, ?_⟩
  · have hs : bi .sorted1 [.loc S.length] (S ++ [.dct (ikv m)]) = some (.lst ((sortI (m.map (·.1))).map .int)) := by
      have e1 : allOf PV.asInt ((ikv m).map (·.1)) = some (m.map (·.1)) := by
        have := allOf_int (fun p : Int × Int => p.1) m
        rw [← this]
        unfold ikv
        rw [List.map_map]; rfl
      have e2 : (m.map (·.1)).length < 64 := by rw [List.length_map]; omega
      simp only [bi, getD, get_last, Option.map_some, e1, Option.bind_some, e2, decide_true, if_true]
    have hc : den (sxN P n) (.comp false [3] (.tup (.cons (.var 3) (.cons (.idx (.var 2) (.var 3)) .nil))) (.name 3) (.seq (.bi false .sorted1 (.cons (.var 2) .nil))) (.cons (.cmp .ne (.idx (.var 2) (.var 3)) (.const (.int 0))) .nil)) [some (.int c), some (.lst (ps.map PV.pair)), some (.loc S.length), a, b] (S ++ [.dct (ikv m)]) = .ok (.lst (fParts m)) (S ++ [.dct (ikv m)]) := by
      rw [den_comp]
      have hi : denI (sxN P n) (.seq (.bi false .sorted1 (.cons (.var 2) .nil))) [some (.int c), some (.lst (ps.map PV.pair)), some (.loc S.length), a, b] (S ++ [.dct (ikv m)]) = .ok ((sortI (m.map (·.1))).map .int) (S ++ [.dct (ikv m)]) := by
        simp [hs, walkOf]
      rw [hi, Res.bind_ok]
      rw [compL_map (g := fun x => if gets m (intOf x) != 0 then [.tup [x, .int (gets m (intOf x))]] else [])]
      · have : ((sortI (m.map (·.1))).map PV.int).flatMap (fun x => if gets m (intOf x) != 0 then [PV.tup [x, .int (gets m (intOf x))]] else []) = fParts m := by
          rw [List.flatMap_map]
          exact flatMap_if (p := fun v => gets m v != 0) (f := fun v => PV.tup [.int v, .int (gets m v)])
        rw [this]
        rfl
      · intro x hx
        obtain ⟨v, hv, rfl⟩ := List.mem_map.mp hx
        have hk : v ∈ m.map (·.1) := (sortI_perm _).mem_iff.mp hv
        have hix := ix_dict (S := S) hk
        unfold compF
        simp only [bindP, wipe, List.set_cons_succ, List.set_cons_zero, denT2_cons, denT2_nil, denT_cmp, den_idx, den_varS, den_var0, den_const, Res.bind_ok, hix, Res.of_some, cmp_ne_int, intOf, den_tup, denL_cons, denL_nil]
        by_cases h0 : gets m v = 0
        · simp [h0]
        · have : (gets m v == 0) = false := by simpa using h0
          simp [this, bne, hix]
    have hx : execL (sxN P n) bForm [some (.int c), some (.lst (ps.map PV.pair)), none, none, none] S = .ret (.tup [.int c, .tup (fParts m)]) (S ++ [.dct (ikv m)]) := by
      have e0 : (S ++ [.dct (ikv [])] : Store) = S ++ [.dct []] := rfl
      rw [e0] at e
      simp only [bForm, execL_cons, execL_nil, exec_asg, den_dict, denKv_nil, Res.bind_ok, List.all_nil, if_true, mergeD, laid, Res.st_ok, asgT_name, List.set_cons_succ, List.set_cons_zero, SRes.andThen_next, exec_for, denI_seq, den_varS, den_var0, walkOf, Res.of_some, e, exec_ret, den_tup, denL_cons, denL_nil, den_bi, hc]
      rfl
    have hu : underL S.length (fParts m) = true := by
      unfold fParts
      generalize (sortI (m.map (·.1))).filter _ = l
      induction l with
      | nil => rfl
      | cons v l ih => simpa [underL, PV.under] using ih
    have := runD_drop (d := ⟨2, 5, bForm⟩) (vs := [.int c, .lst (ps.map PV.pair)]) rfl hx (by simp [PV.under, underL, hu]) (by rw [take_snoc]; exact w)
    rw [take_snoc] at this
    exact this
  · unfold fParts
    rw [List.length_map]
    have h1 := List.length_filter_le (fun v => gets m v != 0) (sortI (m.map (·.1)))
    have h2 := (sortI_perm (m.map (·.1))).length_eq
    rw [List.length_map] at h2
    omega
  · intro q hq
    unfold fParts at hq
    obtain ⟨v, hv, rfl⟩ := List.mem_map.mp hq
    rw [List.mem_filter] at hv
    have hk : v ∈ m.map (·.1) := (sortI_perm _).mem_iff.mp hv.1
    obtain ⟨p, hp, rfl⟩ := List.mem_map.mp hk
    refine ⟨p.1, gets m p.1, rfl, K.key p hp, by simpa using hv.2, ?_⟩
    have := K.gets p.1
    omega
  · unfold fParts
    exact asc_of ((sortI_strict K.nd).filter _)
end
end CW
end

section
set_option Elab.async false
set_option linter.all false
set_option maxRecDepth 100000
set_option maxHeartbeats 1000000
/-! Loops that draw; _law_claim. -/
namespace CW
open PySem
theorem forL_inv {bind : PV → Env → Store → SRes} {body : Env → Store → SRes} {K : Nat} {I : Nat → Env → Store → Prop} : ∀ {xs : List PV} {k : Nat}, k + xs.length ≤ K → (∀ k x ρ S, x ∈ xs → k < K → I k ρ S → ∃ ρ1 S1 ρ' S', bind x ρ S = .next ρ1 S1 ∧ body ρ1 S1 = .next ρ' S' ∧ I (k + 1) ρ' S') → ∀ {ρ S}, I k ρ S → ∃ ρ' S', forL bind body xs ρ S = .next ρ' S' ∧ I (k + xs.length) ρ' S'
  | [], k, _, _, ρ, S, h => ⟨ρ, S, rfl, h⟩
  | x :: xs, k, hk, hf, ρ, S, h => by
    rw [List.length_cons] at hk
    obtain ⟨ρ1, S1, ρ2, S2, e1, e2, h2⟩ := hf k x ρ S (List.mem_cons_self ..) (by omega) h
    obtain ⟨ρ', S', e, h'⟩ := forL_inv (xs := xs) (by omega) (fun k y ρ S hy => hf k y ρ S (List.mem_cons_of_mem _ hy)) h2
    refine ⟨ρ', S', ?_, by rw [List.length_cons]; have : k + (xs.length + 1) = k + 1 + xs.length := by omega
                           rw [this]; exact h'⟩
    simp only [forL, e1, SRes.andThen_next, e2, e]
theorem compL_inv {f : PV → Store → Res (List PV)} {K : Nat} {I : Nat → Store → Prop} {Q : PV → Prop} : ∀ {xs : List PV} {k : Nat} {S : Store}, k + xs.length ≤ K → (∀ k x S, x ∈ xs → k < K → I k S → ∃ v S', f x S = .ok [v] S' ∧ Q v ∧ I (k + 1) S') → I k S → ∃ vs S', compL f xs S = .ok vs S' ∧ vs.length = xs.length ∧ (∀ v ∈ vs, Q v) ∧ I (k + xs.length) S'
  | [], k, S, _, _, h => ⟨[], S, rfl, rfl, by simp, h⟩
  | x :: xs, k, S, hk, hf, h => by
    rw [List.length_cons] at hk
    obtain ⟨v, S1, e1, q1, h1⟩ := hf k x S (List.mem_cons_self ..) (by omega) h
    obtain ⟨vs, S2, e2, l2, q2, h2⟩ := compL_inv (xs := xs) (by omega) (fun k y S hy => hf k y S (List.mem_cons_of_mem _ hy)) h1
    refine ⟨v :: vs, S2, ?_, by simp [l2], ?_, by rw [List.length_cons]; have : k + (xs.length + 1) = k + 1 + xs.length := by omega
                                                  rw [this]; exact h2⟩
    · simp only [compL, e1, Res.calm_ok, Res.bind_ok, e2, List.cons_append, List.nil_append]
    · intro u hu
      rcases List.mem_cons.mp hu with rfl | hu
      · exact q1
      · exact q2 u hu
/-- the hand, b draws at most, and what lies behind it -/
def At (R : Store) (b : Nat) (S : Store) : Prop := ∃ h, S = hv h :: R ∧ HS b h ∧ Wf S
theorem At.mono {R : Store} {b b' : Nat} {S : Store} (a : At R b S) (h : b ≤ b') : At R b' S := by
  obtain ⟨g, e, H, w⟩ := a
  exact ⟨g, e, H.mono h, w⟩
theorem At.wf {R : Store} {b : Nat} {S : Store} (a : At R b S) : Wf S := a.choose_spec.2.2
theorem At.len {R : Store} {b : Nat} {S : Store} (a : At R b S) : S.length = R.length + 1 := by
  obtain ⟨g, rfl, H, w⟩ := a
  rfl
theorem At.wf0 {R : Store} {b : Nat} {S : Store} (a : At R b S) : underS (R.length + 1) R = true := by
  obtain ⟨g, rfl, H, w⟩ := a
  unfold Wf at w
  simpa only [List.length_cons, underS, hv_under, Bool.true_and] using w
/-- one thing more behind -/
theorem At.more {R : Store} {b : Nat} {S : Store} (a : At R b S) {o : Ob} (ho : o.under (R.length + 1) = true) : At (R ++ [o]) b (S ++ [o]) := by
  obtain ⟨g, rfl, H, w⟩ := a
  exact ⟨g, rfl, H, wf_snoc w ho⟩
theorem At.set {R : Store} {o o' : Ob} {b : Nat} {S : Store} (a : At (R ++ [o]) b S) (ho : o'.under (R.length + 2) = true) : At (R ++ [o']) b (S.set (R.length + 1) o') := by
  have h0 := a.wf0
  obtain ⟨g, rfl, H, w⟩ := a
  refine ⟨g, by simp, H, ?_⟩
  rw [underS_append, Bool.and_eq_true] at h0
  unfold Wf
  have e : (hv g :: (R ++ [o])).set (R.length + 1) o' = hv g :: (R ++ [o']) := by simp
  rw [e]
  simp only [List.length_cons, List.length_append, List.length_nil, underS, hv_under, Bool.true_and, underS_append, Bool.and_true, Bool.and_eq_true] at *
  exact ⟨h0.1, ho⟩
theorem At.get {R : Store} {o : Ob} {b : Nat} {S : Store} (a : At (R ++ [o]) b S) : S[R.length + 1]? = some o := by
  obtain ⟨g, rfl, H, w⟩ := a
  simp
theorem At.drop {R : Store} {o : Ob} {b : Nat} {S : Store} (a : At (R ++ [o]) b S) (w : underS (R.length + 1) R = true) : At R b (S.take (R.length + 1)) := by
  obtain ⟨g, rfl, H, _⟩ := a
  refine ⟨g, by simp, H, ?_⟩
  unfold Wf
  simpa only [List.take_succ_cons, List.take_left, List.length_cons, underS, hv_under, Bool.true_and] using w
theorem At.take {R : Store} {b : Nat} {S : Store} (a : At R b S) : S.take (R.length + 1) = S := by
  rw [← a.len, List.take_length]
theorem fz_int {xs : List Int} : fzL (xs.map .int) = true := by
  induction xs with
  | nil => rfl
  | cons x xs ih => simpa [fzL, PV.fz] using ih
section
variable {P : Prog} {fd fa ff fc : Nat} {n : Nat} {R S : Store} {b : Nat}
structure HasHand (P : Prog) (fd fa : Nat) : Prop where
  d : P.defs[fd]? = some ⟨2, 5, bDraw⟩
  a : P.defs[fa]? = some ⟨2, 2, bAny fd⟩
theorem draw_at (D : HasHand P fd fa) (a : At R b S) (hb : b < 2 ^ 60) {m : Int} (h0 : 0 < m) (hm : m < 2 ^ 62) : ∃ S' r, callN P (n + 1) fd [.loc 0, .int m] S = .ok (.int r) S' ∧ At R (b + 1) S' ∧ 0 ≤ r ∧ r < m := by
  obtain ⟨g, rfl, H, w⟩ := a
  obtain ⟨h', r, e, H', r0, r1⟩ := draw_ok (n := n) D.d H hb h0 hm w
  exact ⟨_, r, e, ⟨h', rfl, H', wf_hv w⟩, r0, r1⟩
theorem any_at (D : HasHand P fd fa) (a : At R b S) (hb : b < 2 ^ 60) {xs : List PV} (h0 : 0 < xs.length) (hm : xs.length < 1000) (hu : underL (R.length + 1) xs = true) : ∃ S' v, callN P (n + 2) fa [.loc 0, .lst xs] S = .ok v S' ∧ At R (b + 1) S' ∧ v ∈ xs := by
  obtain ⟨g, rfl, H, w⟩ := a
  obtain ⟨h', v, e, H', hv'⟩ := any_ok (n := n) D.a D.d H hb h0 (by omega) hu w
  exact ⟨_, v, e, ⟨h', rfl, H', wf_hv w⟩, hv'⟩
theorem app_at {xs : List PV} (a : At (R ++ [.lst xs]) b S) (hl : xs.length < 1000) {v : PV} (hx : fzL xs = true) (hv : v.fz = true) : ∃ S', meth .append (.loc (R.length + 1)) [v] S = some (.non, S') ∧ recvOk .append (.loc (R.length + 1)) S = true ∧ At (R ++ [.lst (xs ++ [v])]) b S' := by
  refine ⟨S.set (R.length + 1) (.lst (xs ++ [v])), ?_, ?_, a.set ?_⟩
  · have : xs.length < LINE := by unfold LINE; omega
    simp only [meth, a.get, this, decide_true, if_true]
  · simp only [recvOk, getL, a.get, Option.isSome]
  · show underL _ (xs ++ [v]) = true
    exact fzL_under _ (by rw [fzL_append, hx]; simp [fzL, hv])
theorem eqv_nil_lst {A : List Int} : cmpop .ne (.lst (A.map .int)) (.lst []) S = some (!A.isEmpty) := by
  have h1 : ∀ A : List Int, plainL (A.map .int) = true := fun A => by
    induction A with
    | nil => rfl
    | cons x A ih => simpa [plainL, PV.plain] using ih
  have h2 : ∀ A : List Int, depthL (A.map .int) = 0 := fun A => by
    induction A with
    | nil => rfl
    | cons x A ih => simpa [depthL, PV.depth] using ih
  have h3 : eqOk (.lst (A.map .int)) = true := by
    simp [eqOk, PV.plain, PV.depth, h1, h2, DEEP]
  have h4 : eqOk (.lst []) = true := rfl
  show (eqop _ _ S).map not = _
  unfold eqop
  simp only [deref, h3, h4, Bool.and_self, if_true, Option.map_some]
  cases A <;> rfl
/-! ### _law_claim -/
def bClaim (fd fa ff : Nat) : Ss := (.cons (.asg (.name 2) (.lst true .nil)) (.cons (.iff (.cmp .ne (.var 1) (.lst false .nil)) (.cons (.for_ (.name 3) (.range (.cons (.call fd (.cons (.var 0) (.cons (.const (.int 3)) .nil))) .nil)) (.cons (.ex (.meth .append (.var 2) (.cons (.tup (.cons (.call fa (.cons (.var 0) (.cons (.var 1) .nil))) (.cons (.call fa (.cons (.var 0) (.cons (.lst false (.cons (.const (.int 1)) (.cons (.neg (.const (.int 1))) (.cons (.const (.int 2)) (.cons (.const (.int 3)) .nil))))) .nil))) .nil))) .nil))) .nil)) .nil) .nil) (.cons (.frz 2) (.cons (.ret (.call ff (.cons (.bin .sub (.call fd (.cons (.var 0) (.cons (.const (.int 9)) .nil))) (.const (.int 3))) (.cons (.var 2) .nil)))) .nil))))
theorem fz_pairs {ps : List (Int × Int)} : fzL (ps.map PV.pair) = true := by
  induction ps with
  | nil => rfl
  | cons x xs ih => simpa [fzL, PV.fz, PV.pair] using ih
theorem rangeL_len {a b : Int} : (rangeL a b).length = (b - a).toNat := by
  simp [rangeL]
theorem rangeOf1 {r : Int} (h0 : 0 ≤ r) (h1 : r < 1000) : rangeOf [.int r] = some (0, r) := by
  have : rangeOk 0 r = true := by
    simp only [rangeOk, Bool.and_eq_true, decide_eq_true_eq]
    have : (r - 0).toNat ≤ LINE := by unfold LINE; omega
    omega
  simp only [rangeOf, this, if_true]
theorem claim_ok (D : HasHand P fd fa) (hf : P.defs[ff]? = some ⟨2, 5, bForm⟩) (hc : P.defs[fc]? = some ⟨2, 4, bClaim fd fa ff⟩) (a : At R b S) (hb : b + 10 < 2 ^ 60) {A : List Int} (hA : A.length < 1000) : ∃ S' x, callN P (n + 3) fc [.loc 0, .lst (A.map .int)] S = .ok x S' ∧ At R (b + 6) S' ∧ GoodF A x := by
  rw [callN_def hc]
  have w0 := a.wf0
  have hl := a.len
  suffices hs : ∃ S' x, execL (sxN P (n + 2)) (bClaim fd fa ff) [some (.loc 0), some (.lst (A.map .int)), none, none] S = .ret x S' ∧ At (R ++ [.dead]) (b + 6) S' ∧ GoodF A x by
    obtain ⟨S', x, e, a', g⟩ := hs
    have gu : x.fz = true := by
      obtain ⟨c, qs, rfl, _, _, _, hq, _⟩ := g
      have : fzL qs = true := fzL_all fun q hq' => by
        obtain ⟨v, k, rfl, _⟩ := hq q hq'
        rfl
      simp [PV.fz, fzL, this]
    have a'' := a'.drop w0
    refine ⟨S'.take (R.length + 1), x, ?_, a'', g⟩
    have := runD_drop (d := ⟨2, 4, bClaim fd fa ff⟩) (vs := [.loc 0, .lst (A.map .int)]) (S := S) (S' := S') rfl e (PV.fz_under _ gu) (by rw [hl]; have := a''.wf; unfold Wf at this; rwa [a''.len] at this)
    rw [hl] at this
    exact this
  have a1 := a.more (o := .lst []) rfl
  -- behind the loop
  have rest : ∀ (x : Option PV) (ps : List (Int × Int)) (S1 : Store), At (R ++ [.lst (ps.map PV.pair)]) (b + 5) S1 → ps.length ≤ 2 → (∀ p ∈ ps, p.1 ∈ A ∧ p.2.natAbs ≤ 3) → ∃ S' y, execL (sxN P (n + 2)) (.cons (.frz 2) (.cons (.ret (.call ff (.cons (.bin .sub (.call fd (.cons (.var 0) (.cons (.const (.int 9)) .nil))) (.const (.int 3))) (.cons (.var 2) .nil)))) .nil)) [some (.loc 0), some (.lst (A.map .int)), some (.loc (R.length + 1)), x] S1 = .ret y S' ∧ At (R ++ [.dead]) (b + 6) S' ∧ GoodF A y := by
    intro x ps S1 a1 hl hp
    have a2 := a1.set (o' := .dead) rfl
    obtain ⟨S2, r, e2, a3, r0, r1⟩ := draw_at (n := n + 1) D a2 (by omega) (m := 9) (by decide) (by decide)
    obtain ⟨y, e3, g⟩ := form_ok (n := n + 1) hf (A := A) (c := r - 3) hp hl (by omega) (by omega) a3.wf
    refine ⟨S2, y, ?_, a3, g⟩
    have hL : ps.length ≤ LINE := by unfold LINE; omega
    have ef : exec (sxN P (n + 2)) (.frz 2) [some (.loc 0), some (.lst (A.map .int)), some (.loc (R.length + 1)), x] S1 = .next [some (.loc 0), some (.lst (A.map .int)), some (.lst (ps.map PV.pair)), x] (S1.set (R.length + 1) .dead) := by
      simp [exec, a1.get, hL]
    rw [execL_cons, ef]
    simp [e2, e3]
  cases A with
  | nil =>
    obtain ⟨S', y, e, h⟩ := rest none [] _ (a1.mono (by omega)) (by simp) (by simp)
    refine ⟨S', y, ?_, h⟩
    rw [← e]
    have hc0 := eqv_nil_lst (A := []) (S := S ++ [.lst []])
    simp only [List.map_nil, List.isEmpty_nil, Bool.not_true] at hc0
    simp only [bClaim, List.map_nil]
    rw [execL_cons]
    simp only [exec_asg, den_lst, denL_nil, Res.bind_ok, laid, Res.st_ok, asgT_name, List.set_cons_succ, List.set_cons_zero, SRes.andThen_next, hl]
    rw [execL_cons]
    simp [hc0]
  | cons z A =>
    obtain ⟨S2, r, e2, a2, r0, r1⟩ := draw_at (n := n + 1) D a1 (by omega) (m := 3) (by decide) (by decide)
    have loop := forL_inv (bind := asgT (sxN P (n + 2)) (.name 3)) (body := execL (sxN P (n + 2)) (.cons (.ex (.meth .append (.var 2) (.cons (.tup (.cons (.call fa (.cons (.var 0) (.cons (.var 1) .nil))) (.cons (.call fa (.cons (.var 0) (.cons (.lst false (.cons (.const (.int 1)) (.cons (.neg (.const (.int 1))) (.cons (.const (.int 2)) (.cons (.const (.int 3)) .nil))))) .nil))) .nil))) .nil))) .nil)) (xs := rangeL 0 r) (k := 0) (S := S2) (ρ := [some (.loc 0), some (.lst ((z :: A).map .int)), some (.loc (R.length + 1)), none])
      (K := 2) (I := fun k ρ S => ∃ x ps, ρ = [some (.loc 0), some (.lst ((z :: A).map .int)), some (.loc (R.length + 1)), x] ∧ At (R ++ [.lst (ps.map PV.pair)]) (b + 1 + 2 * k) S ∧ ps.length = k ∧ ∀ p ∈ ps, p.1 ∈ z :: A ∧ p.2.natAbs ≤ 3) (by rw [rangeL_len]; omega) ?_ ⟨none, [], rfl, a2, rfl, by simp⟩
    · obtain ⟨ρ', S3, e3, h3⟩ := loop
      rw [rangeL_len] at h3
      obtain ⟨x, ps, rfl, a3, hlp, hp⟩ := h3
      obtain ⟨S', y, e, h⟩ := rest x ps S3 (a3.mono (by omega)) (by omega) hp
      refine ⟨S', y, ?_, h⟩
      rw [← e]
      have hc0 := eqv_nil_lst (A := z :: A) (S := S ++ [.lst []])
      simp only [List.isEmpty_cons, Bool.not_false] at hc0
      have hr := rangeOf1 r0 (by omega)
      simp only [bClaim]
      rw [execL_cons]
      simp only [exec_asg, den_lst, denL_nil, Res.bind_ok, laid, Res.st_ok, asgT_name, List.set_cons_succ, List.set_cons_zero, SRes.andThen_next, hl]
      rw [execL_cons]
      simp only [exec_iff, denT_cmp, den_varS, den_var0, den_lst, denL_nil, Res.bind_ok, laid, hc0, Res.of_some, Res.st_ok, if_true, execL_cons, execL_nil, exec_for, denI_range, denL_cons, den_call, den_const, sxN_okC, sxN_call, e2, hr, Option.map_some, e3, SRes.andThen_next]
    · intro k x ρ S hx hk hI
      obtain ⟨x', ps, rfl, a3, hlp, hp⟩ := hI
      obtain ⟨S4, v, e4, a4, hv⟩ := any_at (n := n) D a3 (by omega) (xs := (z :: A).map .int) (by simp) (by rw [List.length_map]; omega) (fzL_under _ fz_int)
      obtain ⟨S5, u, e5, a5, hu⟩ := any_at (n := n) D a4 (by omega) (xs := [.int 1, .int (-1), .int 2, .int 3]) (by decide) (by decide) rfl
      obtain ⟨v, hvm, rfl⟩ := List.mem_map.mp hv
      have hu' : ∃ k : Int, u = .int k ∧ k.natAbs ≤ 3 := by
        simp only [List.mem_cons, List.not_mem_nil, or_false] at hu
        rcases hu with rfl | rfl | rfl | rfl <;> exact ⟨_, rfl, by decide⟩
      obtain ⟨u, rfl, hu'⟩ := hu'
      obtain ⟨S6, e6, e6', a6⟩ := app_at a5 (by rw [List.length_map]; omega) (v := PV.pair (v, u)) fz_pairs rfl
      obtain ⟨_, _, e7, _⟩ := app_at a3 (by rw [List.length_map]; omega) (v := PV.pair (v, u)) fz_pairs rfl
      refine ⟨_, _, [some (.loc 0), some (.lst ((z :: A).map .int)), some (.loc (R.length + 1)), some x], S6, rfl, ?_, ⟨some x, ps ++ [(v, u)], rfl, ?_, by simp [hlp], ?_⟩⟩
      · have e6'' : meth .append (.loc (R.length + 1)) [.tup [.int v, .int u]] S5 = some (.non, S6) := e6
        simp [List.map_cons] at e4
        simp [e7, e4, e5, e6'', PV.asInt]
      · rw [List.map_append]
        exact a6.mono (by omega)
      · intro p hp'
        rcases List.mem_append.mp hp' with h | h
        · exact hp p h
        · rw [List.mem_singleton] at h
          subst h
          exact ⟨hvm, hu'⟩
end
end CW
end

section
set_option Elab.async false
set_option linter.all false
set_option maxRecDepth 100000
set_option maxHeartbeats 1000000
/-! _law_worth. -/
namespace CW
open PySem
def bWorth : Ss := (.cons (.asg (.name 4) (.idx (.var 0) (.const (.int 0)))) (.cons (.for_ (.tup (.cons (.name 5) (.cons (.name 6) .nil))) (.seq (.idx (.var 0) (.const (.int 1)))) (.cons (.asg (.name 4) (.bin .add (.var 4) (.bin .mul (.var 6) (.ite (.cmp .eq (.var 5) (.const (.int 31))) (.var 3) (.ite (.cmp .lt (.var 5) (.const (.int 31))) (.idx (.var 1) (.var 5)) (.idx (.var 2) (.bin .sub (.var 5) (.const (.int 32))))))))) .nil)) (.cons (.ret (.var 4)) .nil)))
/-- how the law looks a variable up -/
def WorthAt (o : Int) (xs ys : List PV) (v z : Int) : Prop := (v = 31 ∧ o = z) ∨ (v < 31 ∧ ∀ S, ixop (.tup xs) (.int v) S = some (.int z)) ∨ (31 < v ∧ ∀ S, ixop (.tup ys) (.int (v - 32)) S = some (.int z))
section
variable {P : Prog} {fw : Nat} {n : Nat} {S : Store} {sx : Sx} {kvs : List (PV × PV)} {A : List Int} {xs ys : List PV} {o : Int}
theorem worth_loop {x0 : Option PV} (hA : ∀ v ∈ A, ∃ z : Int, dget kvs (.int v) = some (.int z) ∧ z.natAbs < 2 ^ 64 ∧ WorthAt o xs ys v z) : ∀ {ps : List PV} {acc : Int} {a b : Option PV}, (∀ q ∈ ps, ∃ v k : Int, q = .tup [.int v, .int k] ∧ v ∈ A ∧ k ≠ 0 ∧ k.natAbs ≤ 6) → ∃ a' b', forL (asgT sx (.tup (.cons (.name 5) (.cons (.name 6) .nil)))) (execL sx (.cons (.asg (.name 4) (.bin .add (.var 4) (.bin .mul (.var 6) (.ite (.cmp .eq (.var 5) (.const (.int 31))) (.var 3) (.ite (.cmp .lt (.var 5) (.const (.int 31))) (.idx (.var 1) (.var 5)) (.idx (.var 2) (.bin .sub (.var 5) (.const (.int 32))))))))) .nil)) ps [x0, some (.tup xs), some (.tup ys), some (.int o), some (.int acc), a, b] S = .next [x0, some (.tup xs), some (.tup ys), some (.int o), some (.int (acc + (ps.map (term kvs)).sum)), a', b'] S
  | [], acc, a, b, _ => ⟨a, b, by simp [forL]⟩
  | q :: ps, acc, a, b, hq => by
    obtain ⟨v, k, rfl, hv, hk0, hk⟩ := hq q (List.mem_cons_self ..)
    obtain ⟨z, hz, hzb, hw⟩ := hA v hv
    obtain ⟨a', b', ih⟩ := worth_loop (x0 := x0) hA (ps := ps) (acc := acc + k * z) (a := some (.int v)) (b := some (.int k)) (fun q h => hq q (List.mem_cons_of_mem _ h))
    refine ⟨a', b', ?_⟩
    have ht : term kvs (.tup [.int v, .int k]) = k * z := by
      unfold term
      simp only [hz]
    rw [List.map_cons, List.sum_cons, ht, ← Int.add_assoc, ← ih]
    have hm := mul_of (S := S) (i := k) (j := z) 8 64 (by omega) hzb (by decide)
    simp only [forL, asgT_tup, asgTs_cons, asgTs_nil, asgT_name, SRes.andThen_next, List.set_cons_succ, List.set_cons_zero, execL_cons, execL_nil, exec_asg, den_bin, den_varS, den_var0, Res.bind_ok, den_ite, denT_cmp, den_const, cmp_eq_int, cmp_lt, Res.of_some]
    rcases hw with ⟨rfl, rfl⟩ | ⟨h1, h2⟩ | ⟨h1, h2⟩
    · simp [hm]
    · have e1 : (v == 31) = false := by
        rw [beq_eq_false_iff_ne]; omega
      simp [e1, h1, h2, hm]
    · have e1 : (v == 31) = false := by
        rw [beq_eq_false_iff_ne]; omega
      have e2 : ¬ v < 31 := by omega
      simp [e1, e2, h2, hm]
theorem worth_ok (h : P.defs[fw]? = some ⟨4, 7, bWorth⟩) (hA : ∀ v ∈ A, ∃ z : Int, dget kvs (.int v) = some (.int z) ∧ z.natAbs < 2 ^ 64 ∧ WorthAt o xs ys v z) {x : PV} (g : GoodF A x) (w : Wf S) : callN P (n + 1) fw [x, .tup xs, .tup ys, .int o] S = .ok (.int (fVal kvs x)) S := by
  rw [callN_def h]
  refine runD_ret rfl ?_ rfl w
  obtain ⟨c, qs, rfl, _, _, _, hq, _⟩ := g
  obtain ⟨a, b, e⟩ := worth_loop (sx := sxN P n) (S := S) (x0 := some (.tup [.int c, .tup qs])) hA (acc := c) (a := none) (b := none) hq
  show execL (sxN P n) bWorth [some (.tup [.int c, .tup qs]), some (.tup xs), some (.tup ys), some (.int o), none, none, none] S = _
  simp [bWorth, walkOf, e, fVal]
end
/-! ### the variables of a promise -/
def vars (i : Int) (r : Nat) : List Int := (List.range (i - 0).toNat).map (fun (j : Nat) => 0 + (j : Int)) ++ (List.range ((r : Int) - 0).toNat).map fun (j : Nat) => 32 + (0 + (j : Int))
theorem vars_mem {i v : Int} {r : Nat} (h : v ∈ vars i r) : (0 ≤ v ∧ v < i) ∨ (32 ≤ v ∧ v < 32 + r) := by
  unfold vars at h
  rcases List.mem_append.mp h with h | h
  · obtain ⟨j, hj, rfl⟩ := List.mem_map.mp h
    rw [List.mem_range] at hj
    left; omega
  · obtain ⟨j, hj, rfl⟩ := List.mem_map.mp h
    rw [List.mem_range] at hj
    right; omega
theorem vars_len {i : Int} {r : Nat} (h : i ≤ 6) (hr : r ≤ 4) : (vars i r).length ≤ 10 := by
  unfold vars
  rw [List.length_append, List.length_map, List.length_map, List.length_range, List.length_range]
  omega
theorem ix_int {xs : List PV} {v : Int} {z : PV} (h0 : 0 ≤ v) (h : xs[v.toNat]? = some z) : ∀ S, ixop (.tup xs) (.int v) S = some z := fun S => by
  have e : ((v.toNat : Nat) : Int) = v := by omega
  rw [← e]
  exact ix_tup_nat h
theorem vals_at {i : Int} {r : Nat} {o : Int} {xs ys : List PV} (hx : ∀ x ∈ xs, SmI x) (hy : ∀ x ∈ ys, SmI x) (lx : (xs.length : Int) = i) (ly : ys.length = r) (hl : i ≤ 6) : ∀ v ∈ vars i r, ∃ z : Int, dget (vals xs ys) (.int v) = some (.int z) ∧ z.natAbs < 2 ^ 64 ∧ WorthAt o xs ys v z := fun v hv => by
  have e : vals xs ys = kvI 0 xs ++ (kvI 32 ys ++ []) := by unfold vals; rw [List.append_nil]
  rw [e, dget_kvI, dget_kvI]
  rcases vars_mem hv with h | h
  · rw [if_pos ⟨by omega, by omega⟩]
    have hlt : (v - ((0 : Nat) : Int)).toNat < xs.length := by omega
    obtain ⟨k, hk, hb⟩ := hx _ (List.getElem_mem hlt)
    have e1 : xs[(v - ((0 : Nat) : Int)).toNat]? = some (.int k) := by rw [List.getElem?_eq_getElem hlt, hk]
    refine ⟨k, e1, hb, .inr (.inl ⟨by omega, ix_int h.1 ?_⟩)⟩
    rw [← e1]; congr 1; omega
  · rw [if_neg (by omega), if_pos ⟨by omega, by omega⟩]
    have hlt : (v - ((32 : Nat) : Int)).toNat < ys.length := by omega
    obtain ⟨k, hk, hb⟩ := hy _ (List.getElem_mem hlt)
    have e1 : ys[(v - ((32 : Nat) : Int)).toNat]? = some (.int k) := by rw [List.getElem?_eq_getElem hlt, hk]
    exact ⟨k, e1, hb, .inr (.inr ⟨by omega, ix_int (by omega) e1⟩)⟩
theorem valsO_at {i : Int} {r : Nat} {o : Int} {xs ys : List PV} (hx : ∀ x ∈ xs, SmI x) (hy : ∀ x ∈ ys, SmI x) (lx : (xs.length : Int) = i) (ly : ys.length = r) (hl : i ≤ 6) (ho : o.natAbs < 2 ^ 64) : ∀ v ∈ vars i r ++ [31], ∃ z : Int, dget (valsO xs ys o) (.int v) = some (.int z) ∧ z.natAbs < 2 ^ 64 ∧ WorthAt o xs ys v z := fun v hv => by
  have e : valsO xs ys o = kvI 0 xs ++ (kvI 32 ys ++ [(.int 31, .int o)]) := by unfold valsO vals; rw [List.append_assoc]
  rw [e, dget_kvI, dget_kvI]
  have hv' : ((0 ≤ v ∧ v < i) ∨ (32 ≤ v ∧ v < 32 + r)) ∨ v = 31 := by
    rcases List.mem_append.mp hv with h | h
    · exact .inl (vars_mem h)
    · exact .inr (by simpa using h)
  rcases hv' with (h | h) | h
  · rw [if_pos ⟨by omega, by omega⟩]
    have hlt : (v - ((0 : Nat) : Int)).toNat < xs.length := by omega
    obtain ⟨k, hk, hb⟩ := hx _ (List.getElem_mem hlt)
    have e1 : xs[(v - ((0 : Nat) : Int)).toNat]? = some (.int k) := by rw [List.getElem?_eq_getElem hlt, hk]
    refine ⟨k, e1, hb, .inr (.inl ⟨by omega, ix_int h.1 ?_⟩)⟩
    rw [← e1]; congr 1; omega
  · rw [if_neg (by omega), if_pos ⟨by omega, by omega⟩]
    have hlt : (v - ((32 : Nat) : Int)).toNat < ys.length := by omega
    obtain ⟨k, hk, hb⟩ := hy _ (List.getElem_mem hlt)
    have e1 : ys[(v - ((32 : Nat) : Int)).toNat]? = some (.int k) := by rw [List.getElem?_eq_getElem hlt, hk]
    exact ⟨k, e1, hb, .inr (.inr ⟨by omega, ix_int (by omega) e1⟩)⟩
  · subst h
    rw [if_neg (by omega), if_neg (by omega)]
    exact ⟨o, rfl, ho, .inl ⟨rfl, rfl⟩⟩
theorem GoodF.form {A : List Int} (hA : ∀ v ∈ A, 0 ≤ v ∧ v ≤ 36) {x : PV} (g : GoodF A x) : fForm x = true := by
  obtain ⟨c, qs, rfl, c0, c1, hl, hq, ha⟩ := g
  have h1 : absI c < 1000000000000000 := by rw [absI_natAbs]; omega
  have h2 : qs.length ≤ 12 := by omega
  have h3 : qs.all fPart = true := List.all_eq_true.mpr fun q h => by
    obtain ⟨v, k, rfl, hv, hk0, hk⟩ := hq q h
    have := hA v hv
    have hk' : absI k < 1000000000 := by rw [absI_natAbs]; omega
    have h0 : (k == 0) = false := by simpa using hk0
    simp only [fPart, fWithin, h0, hk', this.1, this.2, decide_true, Bool.not_false, Bool.and_self]
  simp only [fForm, h1, h2, h3, ha, decide_true, Bool.and_self]
theorem GoodF.over {A more : _} {i : Int} {r : Nat} (hA : ∀ v ∈ A, ((0 ≤ v ∧ v < i) ∨ (32 ≤ v ∧ v < 32 + r)) ∨ inSeq (.int v) more = true) {x : PV} (g : GoodF A x) : fOverF i r more x = true := by
  obtain ⟨c, qs, rfl, c0, c1, hl, hq, ha⟩ := g
  refine List.all_eq_true.mpr fun q h => ?_
  obtain ⟨v, k, rfl, hv, hk0, hk⟩ := hq q h
  simp only [fOver1, Bool.or_eq_true, Bool.and_eq_true, decide_eq_true_eq]
  rcases hA v hv with (h | h) | h
  · exact .inl h.2
  · exact .inr (.inl ⟨by omega, by omega⟩)
  · exact .inr (.inr h)
end CW
end

section
set_option Elab.async false
set_option linter.all false
set_option maxRecDepth 100000
set_option maxHeartbeats 1000000
/-! _law_promised. -/
namespace CW
open PySem
section
variable {sx : Sx} {ρ : Env} {S S1 : Store} {elt : E} {R : Store} {b c : Nat}
/-- a comprehension whose items draw -/
theorem comp_eff {j : Nat} {it : I} {xs : List PV} {Q : PV → Prop} (hi : denI sx it ρ S = .ok xs S1) (a : At R b S1) (hs : ∀ k x S, x ∈ xs → k < xs.length → At R (b + c * k) S → ∃ v S', den sx elt (ρ.set j (some x)) S = .ok v S' ∧ Q v ∧ At R (b + c * (k + 1)) S') : ∃ vs S', den sx (.comp false [j] elt (.name j) it .nil) ρ S = .ok (.lst vs) S' ∧ vs.length = xs.length ∧ (∀ v ∈ vs, Q v) ∧ At R (b + c * xs.length) S' := by
  obtain ⟨vs, S', e, l, q, a'⟩ := compL_inv (f := compF [j] (.name j) (denT2 sx .nil) (den sx elt) ρ) (K := xs.length) (I := fun k S => At R (b + c * k) S) (Q := Q) (xs := xs) (k := 0) (S := S1) (by omega) (fun k x S hx hk hI => by
    obtain ⟨v, S', e, q, a'⟩ := hs k x S hx hk hI
    refine ⟨v, S', ?_, q, a'⟩
    unfold compF
    simp only [bindP, wipe, denT2_nil, Res.bind_ok, if_true]
    rw [List.set_set, e, Res.bind_ok]) a
  rw [Nat.zero_add] at a'
  refine ⟨vs, S', ?_, l, q, a'⟩
  rw [den_comp, hi, Res.bind_ok, e, Res.bind_ok, laid_false]
end
def EntD (e : PV) : Prop := e = .non ∨ ∃ a b : Int, e = .tup [.int a, .int b] ∧ 0 ≤ a ∧ a ≤ b ∧ b ≤ 20
structure PromD (i : Int) (es ds gs rs : List PV) : Prop where
  lo : 0 ≤ i
  hi : i ≤ 3
  el : es.length ≤ 2
  ee : ∀ e ∈ es, EntD e
  dl : ds.length ≤ 2
  df : ∀ x ∈ ds, GoodF (vars i es.length) x
  gl : gs.length ≤ 2
  gf : ∀ x ∈ gs, GoodF (vars i es.length ++ [31]) x
  rl : rs.length ≤ 4
  rn : rs ≠ []
  rf : ∀ x ∈ rs, GoodF (vars i es.length) x
theorem PromD.good {i : Int} {es ds gs rs : List PV} (p : PromD i es ds gs rs) : GoodP (.str "prom") i es ds gs rs where
  name := rfl
  lo := p.lo
  hi := by have := p.hi; omega
  el := by have := p.el; omega
  ee := List.all_eq_true.mpr fun e he => by
    rcases p.ee e he with rfl | ⟨a, b, rfl, h0, h1, h2⟩
    · rfl
    · simp only [fEntry, Bool.and_eq_true, decide_eq_true_eq]; omega
  dl := by have := p.dl; omega
  df := List.all_eq_true.mpr fun x hx => (p.df x hx).form fun v hv => by have := vars_mem hv; have := p.hi; have := p.el; omega
  gl := by have := p.gl; omega
  gf := List.all_eq_true.mpr fun x hx => (p.gf x hx).form fun v hv => by
    have := p.hi; have := p.el
    rcases List.mem_append.mp hv with hv | hv
    · have := vars_mem hv; omega
    · rw [List.mem_singleton] at hv; omega
  rl := by have := p.rl; omega
  rn := p.rn
  rf := List.all_eq_true.mpr fun x hx => (p.rf x hx).form fun v hv => by have := vars_mem hv; have := p.hi; have := p.el; omega
  d_o := List.all_eq_true.mpr fun x hx => (p.df x hx).over fun v hv => .inl (vars_mem hv)
  r_o := List.all_eq_true.mpr fun x hx => (p.rf x hx).over fun v hv => .inl (vars_mem hv)
  g_o := List.all_eq_true.mpr fun x hx => (p.gf x hx).over fun v hv => by
    rcases List.mem_append.mp hv with hv | hv
    · exact .inl (vars_mem hv)
    · rw [List.mem_singleton] at hv
      subst hv
      exact .inr rfl
def bPromised (fd fa fc : Nat) : Ss := (.cons (.par [6, 7] (.cons (.call fd (.cons (.var 0) (.cons (.const (.int 4)) .nil))) (.cons (.lst true .nil) .nil))) (.cons (.for_ (.name 1) (.range (.cons (.call fd (.cons (.var 0) (.cons (.const (.int 3)) .nil))) .nil)) (.cons (.asg (.name 8) (.call fd (.cons (.var 0) (.cons (.const (.int 5)) .nil)))) (.cons (.ex (.meth .append (.var 7) (.cons (.call fa (.cons (.var 0) (.cons (.lst false (.cons (.const .non) (.cons (.tup (.cons (.var 8) (.cons (.bin .add (.var 8) (.call fd (.cons (.var 0) (.cons (.const (.int 6)) .nil)))) .nil))) .nil))) .nil))) .nil))) .nil))) (.cons (.asg (.name 2) (.bin .add (.lrange false (.cons (.var 6) .nil)) (.comp false [1] (.bin .add (.const (.int 32)) (.var 1)) (.name 1) (.range (.cons (.bi false .len (.cons (.var 7) .nil)) .nil)) .nil))) (.cons (.asg (.name 3) (.bi false .tuple1 (.cons (.comp false [9] (.call fc (.cons (.var 0) (.cons (.var 2) .nil))) (.name 9) (.range (.cons (.call fd (.cons (.var 0) (.cons (.const (.int 3)) .nil))) .nil)) .nil) .nil))) (.cons (.asg (.name 4) (.bi false .tuple1 (.cons (.comp false [10] (.call fc (.cons (.var 0) (.cons (.bin .add (.var 2) (.lst false (.cons (.const (.int 31)) .nil))) .nil))) (.name 10) (.range (.cons (.call fd (.cons (.var 0) (.cons (.const (.int 3)) .nil))) .nil)) .nil) .nil))) (.cons (.asg (.name 5) (.bi false .tuple1 (.cons (.comp false [11] (.call fc (.cons (.var 0) (.cons (.var 2) .nil))) (.name 11) (.range (.cons (.bin .add (.const (.int 1)) (.call fd (.cons (.var 0) (.cons (.const (.int 4)) .nil)))) .nil)) .nil) .nil))) (.cons (.ret (.tup (.cons (.const (.str "prom")) (.cons (.var 6) (.cons (.bi false .tuple1 (.cons (.var 7) .nil)) (.cons (.var 3) (.cons (.var 4) (.cons (.var 5) .nil)))))))) .nil)))))))
section
variable {P : Prog} {fd fa ff fc fp : Nat} {n : Nat} {R S : Store} {b : Nat}
structure HasLawForms (P : Prog) (fd fa ff fc : Nat) : Prop where
  D : HasHand P fd fa
  f : P.defs[ff]? = some ⟨2, 5, bForm⟩
  c : P.defs[fc]? = some ⟨2, 4, bClaim fd fa ff⟩
theorem add_lst {xs ys : List PV} (h : xs.length + ys.length ≤ 16777216) : binop .add (.lst xs) (.lst ys) S = some (.lst (xs ++ ys)) := by
  show (if decide (xs.length + ys.length ≤ LINE) = true then some (PV.lst (xs ++ ys)) else none) = _
  rw [if_pos (decide_eq_true (show _ ≤ LINE from h))]
@[simp] theorem bi_tuple_lst {xs : List PV} : bi .tuple1 [.lst xs] S = some (.tup xs) := rfl
theorem vars_map {i : Int} {r : Nat} : rangeL 0 i ++ (rangeL 0 (r : Int)).map (fun x => PV.int (32 + intOf x)) = (vars i r).map .int := by
  unfold vars rangeL
  rw [List.map_append, List.map_map, List.map_map, List.map_map]
  rfl
theorem GoodF.fz {A : List Int} {x : PV} (g : GoodF A x) : x.fz = true := by
  obtain ⟨c, qs, rfl, _, _, _, hq, _⟩ := g
  have : fzL qs = true := fzL_all fun q hq' => by
    obtain ⟨v, k, rfl, _⟩ := hq q hq'
    rfl
  simp [PV.fz, PV.fz, fzL, this]
theorem EntD.fz {x : PV} (g : EntD x) : x.fz = true := by
  rcases g with rfl | ⟨a, b, rfl, _⟩ <;> rfl
/-- sums over some variables, as many as drawn -/
theorem claims_eff (L : HasLawForms P fd fa ff fc) {j : Nat} {ρ : Env} {S1 : Store} {e2 : E} {it : I} {r : Int} {A : List Int} (h0 : ∀ x S, den (sxN P (n + 3)) (.var 0) (ρ.set j (some x)) S = .ok (.loc 0) S) (h2 : ∀ x S, den (sxN P (n + 3)) e2 (ρ.set j (some x)) S = .ok (.lst (A.map .int)) S) (hi : denI (sxN P (n + 3)) it ρ S = .ok (rangeL 0 r) S1) (hA : A.length < 1000) (hr : r ≤ 4) (a : At R b S1) (hb : b + 100 < 2 ^ 60) : ∃ vs S', den (sxN P (n + 3)) (.comp false [j] (.call fc (.cons (.var 0) (.cons e2 .nil))) (.name j) it .nil) ρ S = .ok (.lst vs) S' ∧ vs.length = r.toNat ∧ (∀ v ∈ vs, GoodF A v) ∧ At R (b + 24) S' := by
  obtain ⟨vs, S', e, l, q, a'⟩ := comp_eff (sx := sxN P (n + 3)) (j := j) (elt := .call fc (.cons (.var 0) (.cons e2 .nil))) (c := 6) (Q := GoodF A) hi a (fun k x S hx hk a => by
    rw [rangeL_len] at hk
    obtain ⟨S', x, e, a', g⟩ := claim_ok (n := n) L.D L.f L.c a (by omega) hA
    refine ⟨x, S', ?_, g, a'⟩
    simp only [den_call, denL_cons, denL_nil, h0, h2, Res.bind_ok, sxN_okC, if_true, sxN_call, e])
  rw [rangeL_len] at l a'
  exact ⟨vs, S', e, by omega, q, a'.mono (by omega)⟩
theorem promised_ok (L : HasLawForms P fd fa ff fc) (hp : P.defs[fp]? = some ⟨1, 12, bPromised fd fa fc⟩) (a : At R b S) (hb : b + 1000 < 2 ^ 60) : ∃ S' i es ds gs rs, callN P (n + 4) fp [.loc 0] S = .ok (promV (.str "prom") i es ds gs rs) S' ∧ At R (b + 100) S' ∧ PromD i es ds gs rs := by
  rw [callN_def hp]
  have w0 := a.wf0
  have hl := a.len
  suffices hs : ∃ S' i es ds gs rs, execL (sxN P (n + 3)) (bPromised fd fa fc) [some (.loc 0), none, none, none, none, none, none, none, none, none, none, none] S = .ret (promV (.str "prom") i es ds gs rs) S' ∧ At (R ++ [.lst es]) (b + 100) S' ∧ PromD i es ds gs rs by
    obtain ⟨S', i, es, ds, gs, rs, e, a', g⟩ := hs
    have gu : (promV (.str "prom") i es ds gs rs).fz = true := g.good.fz
    have a'' := a'.drop w0
    refine ⟨S'.take (R.length + 1), i, es, ds, gs, rs, ?_, a'', g⟩
    have := runD_drop (d := ⟨1, 12, bPromised fd fa fc⟩) (vs := [.loc 0]) (S := S) (S' := S') rfl e (PV.fz_under _ gu) (by rw [hl]; have := a''.wf; unfold Wf at this; rwa [a''.len] at this)
    rw [hl] at this
    exact this
  obtain ⟨S1, i, e1, a1, i0, i1⟩ := draw_at (n := n + 2) L.D a (by omega) (m := 4) (by decide) (by decide)
  have hl1 := a1.len
  have a2 := a1.more (o := .lst []) rfl
  obtain ⟨S2, r, e2, a3, r0, r1⟩ := draw_at (n := n + 2) L.D a2 (by omega) (m := 3) (by decide) (by decide)
  have loop := forL_inv (bind := asgT (sxN P (n + 3)) (.name 1)) (body := execL (sxN P (n + 3)) (.cons (.asg (.name 8) (.call fd (.cons (.var 0) (.cons (.const (.int 5)) .nil)))) (.cons (.ex (.meth .append (.var 7) (.cons (.call fa (.cons (.var 0) (.cons (.lst false (.cons (.const .non) (.cons (.tup (.cons (.var 8) (.cons (.bin .add (.var 8) (.call fd (.cons (.var 0) (.cons (.const (.int 6)) .nil)))) .nil))) .nil))) .nil))) .nil))) .nil))) (xs := rangeL 0 r) (k := 0) (S := S2) (ρ := [some (.loc 0), none, none, none, none, none, some (.int i), some (.loc (R.length + 1)), none, none, none, none])
      (K := 2) (I := fun k ρ S => ∃ x1 x8 es, ρ = [some (.loc 0), x1, none, none, none, none, some (.int i), some (.loc (R.length + 1)), x8, none, none, none] ∧ At (R ++ [.lst es]) (b + 2 + 3 * k) S ∧ es.length = k ∧ ∀ e ∈ es, EntD e) (by rw [rangeL_len]; omega) ?_ ⟨none, none, [], rfl, a3, rfl, by simp⟩
  · obtain ⟨ρ', S3, e3, x1, x8, es, rfl, a4, hle, he⟩ := loop
    rw [rangeL_len] at hle a4
    have hes : es.length ≤ 2 := by omega
    have hA : (vars i es.length).length ≤ 10 := vars_len (by omega) (by omega)
    -- the variables
    have hv : den (sxN P (n + 3)) (.bin .add (.lrange false (.cons (.var 6) .nil)) (.comp false [1] (.bin .add (.const (.int 32)) (.var 1)) (.name 1) (.range (.cons (.bi false .len (.cons (.var 7) .nil)) .nil)) .nil)) [some (.loc 0), x1, none, none, none, none, some (.int i), some (.loc (R.length + 1)), x8, none, none, none] S3 = .ok (.lst ((vars i es.length).map .int)) S3 := by
      obtain ⟨m, hm⟩ : ∃ m : Int, m = es.length := ⟨_, rfl⟩
      have hlen : bi .len [.loc (R.length + 1)] S3 = some (.int m) := by
        simp only [bi, getD, getSeq, getL, a4.get, Option.map_some, hm]
      have hc : den (sxN P (n + 3)) (.comp false [1] (.bin .add (.const (.int 32)) (.var 1)) (.name 1) (.range (.cons (.bi false .len (.cons (.var 7) .nil)) .nil)) .nil) [some (.loc 0), x1, none, none, none, none, some (.int i), some (.loc (R.length + 1)), x8, none, none, none] S3 = .ok (.lst ((rangeL 0 m).map fun x => .int (32 + intOf x))) S3 := by
        refine den_comp_map (xs := rangeL 0 m) ?_ fun x hx => ⟨_, rfl, ?_⟩
        · have := rangeOf1 (r := m) (by omega) (by omega)
          simp [hlen, this]
        · obtain ⟨j, hj, rfl⟩ := List.mem_map.mp hx
          simp [wipe, intOf]
      have hr := rangeOf1 i0 (by omega)
      have hadd := add_lst (S := S3) (xs := rangeL 0 i) (ys := (rangeL 0 m).map fun x => .int (32 + intOf x)) (by rw [List.length_map, rangeL_len, rangeL_len]; omega)
      have hcat : rangeL 0 i ++ (rangeL 0 m).map (fun x => PV.int (32 + intOf x)) = (vars i es.length).map .int := by rw [hm]; exact vars_map
      rw [hcat] at hadd
      simp only [den_bin, den_lrange, denL_cons, denL_nil, den_varS, den_var0, Res.bind_ok, hr, laid_false, hc, hadd, Res.of_some]
    -- needs
    obtain ⟨S4, dr, e4, a5, dr0, dr1⟩ := draw_at (n := n + 2) L.D a4 (by omega) (m := 3) (by decide) (by decide)
    obtain ⟨ds, S5, e5, hdl, hd, a6⟩ := claims_eff (n := n) L (j := 9) (ρ := [some (.loc 0), x1, some (.lst ((vars i es.length).map .int)), none, none, none, some (.int i), some (.loc (R.length + 1)), x8, none, none, none]) (S := S3) (S1 := S4) (e2 := .var 2) (it := .range (.cons (.call fd (.cons (.var 0) (.cons (.const (.int 3)) .nil))) .nil)) (r := dr) (A := vars i es.length) (fun _ _ => rfl) (fun _ _ => rfl) (by simp [e4, rangeOf1 dr0 (by omega)]) (by omega) (by omega) a5 (by omega)
    -- gives
    obtain ⟨S6, gr, e6, a7, gr0, gr1⟩ := draw_at (n := n + 2) L.D a6 (by omega) (m := 3) (by decide) (by decide)
    obtain ⟨gs, S7, e7, hgl, hg, a8⟩ := claims_eff (n := n) L (j := 10) (ρ := [some (.loc 0), x1, some (.lst ((vars i es.length).map .int)), some (.tup ds), none, none, some (.int i), some (.loc (R.length + 1)), x8, none, none, none]) (S := S5) (S1 := S6) (e2 := .bin .add (.var 2) (.lst false (.cons (.const (.int 31)) .nil))) (it := .range (.cons (.call fd (.cons (.var 0) (.cons (.const (.int 3)) .nil))) .nil)) (r := gr) (A := vars i es.length ++ [31]) (fun _ _ => rfl) (fun x S => by
      have := add_lst (S := S) (xs := (vars i es.length).map .int) (ys := [.int 31]) (by rw [List.length_map]; simp; omega)
      simp [this]) (by simp [e6, rangeOf1 gr0 (by omega)]) (by rw [List.length_append]; simp; omega) (by omega) a7 (by omega)
    -- reach
    obtain ⟨S8, rr, e8, a9, rr0, rr1⟩ := draw_at (n := n + 2) L.D a8 (by omega) (m := 4) (by decide) (by decide)
    obtain ⟨rs, S9, e9, hrl, hr, a10⟩ := claims_eff (n := n) L (j := 11) (ρ := [some (.loc 0), x1, some (.lst ((vars i es.length).map .int)), some (.tup ds), some (.tup gs), none, some (.int i), some (.loc (R.length + 1)), x8, none, none, none]) (S := S7) (S1 := S8) (e2 := .var 2) (it := .range (.cons (.bin .add (.const (.int 1)) (.call fd (.cons (.var 0) (.cons (.const (.int 4)) .nil)))) .nil)) (r := 1 + rr) (A := vars i es.length) (fun _ _ => rfl) (fun _ _ => rfl) (by simp [e8, rangeOf1 (r := 1 + rr) (by omega) (by omega)]) (by omega) (by omega) a9 (by omega)
    refine ⟨S9, i, es, ds, gs, rs, ?_, a10.mono (by omega), ⟨i0, by omega, hes, he, by omega, hd, by omega, hg, by omega, ?_, hr⟩⟩
    · have hr' := rangeOf1 r0 (by omega)
      have ht : bi .tuple1 [.loc (R.length + 1)] S9 = some (.tup es) := by
        simp only [bi, getL, a10.get, Option.map_some]
      simp only [bPromised]
      simp only [execL_cons, exec_par, denL_cons, denL_nil, den_call, den_var0, den_const, Res.bind_ok, sxN_okC, if_true, sxN_call, e1, den_lst, laid, Res.st_ok, sets, List.set_cons_succ, List.set_cons_zero, SRes.andThen_next, hl1, exec_for, denI_range, e2, hr', Option.map_some, Res.of_some, e3]
      simp only [execL_cons, exec_asg, hv, Res.st_ok, asgT_name, List.set_cons_succ, List.set_cons_zero, SRes.andThen_next, den_bi, denL_cons, denL_nil, e5, Res.bind_ok, bi_tuple_lst, Res.of_some, laid_false, Res.st_ok, asgT_name, List.set_cons_succ, List.set_cons_zero, SRes.andThen_next, e7, e9]
      simp [ht]
    · intro h
      rw [h] at hrl
      simp at hrl
      omega
  · intro k x ρ S hx hk hI
    obtain ⟨x1, x8, es, rfl, a4, hle, he⟩ := hI
    obtain ⟨S4, lo, e4, a5, l0, l1⟩ := draw_at (n := n + 2) L.D a4 (by omega) (m := 5) (by decide) (by decide)
    obtain ⟨S5, d, e5, a6, d0, d1⟩ := draw_at (n := n + 2) L.D a5 (by omega) (m := 6) (by decide) (by decide)
    obtain ⟨S6, v, e6, a7, hv⟩ := any_at (n := n + 1) L.D a6 (by omega) (xs := [.non, .tup [.int lo, .int (lo + d)]]) (by simp) (by simp only [List.length_cons, List.length_nil]; omega) rfl
    have hv' : EntD v := by
      simp only [List.mem_cons, List.not_mem_nil, or_false] at hv
      rcases hv with rfl | rfl
      · exact .inl rfl
      · exact .inr ⟨_, _, rfl, l0, by omega, by omega⟩
    have hz : fzL es = true := fzL_all fun e h => (he e h).fz
    obtain ⟨S7, e7, _, a8⟩ := app_at a7 (by omega) (v := v) hz hv'.fz
    obtain ⟨_, _, e8, _⟩ := app_at a5 (by omega) (v := v) hz hv'.fz
    refine ⟨_, _, [some (.loc 0), some x, none, none, none, none, some (.int i), some (.loc (R.length + 1)), some (.int lo), none, none, none], S7, rfl, ?_, ⟨some x, some (.int lo), es ++ [v], rfl, a8.mono (by omega), by simp [hle], ?_⟩⟩
    · simp [e4, e8, e5, e6, e7]
    · intro e h
      rcases List.mem_append.mp h with h | h
      · exact he e h
      · rw [List.mem_singleton] at h
        subst h
        exact hv'
end
end CW
end

section
set_option Elab.async false
set_option linter.all false
set_option maxRecDepth 100000
set_option maxHeartbeats 1000000
/-! _law_hand, _law_said. -/
namespace CW
open PySem
section
variable {P : Prog} {fh fS : Nat} {n : Nat} {R S : Store} {b : Nat}
def bHand : Ss := (.cons (.asg (.name 1) (.comp false [2] (.bin .mod (.bi false .int1 (.cons (.bi false .abs (.cons (.bi false .int1 (.cons (.var 2) .nil)) .nil)) .nil)) (.bin .pow (.const (.int 10)) (.const (.int 36)))) (.name 2) (.seq (.slice (.var 0) .none (.some (.const (.int 63))))) .nil)) (.cons (.ret (.lst true (.cons (.var 1) (.cons (.const (.int 0)) (.cons (.const (.int 0)) (.cons (.bin .add (.const (.int 593)) (.bin .mul (.const (.int 449)) (.bi false .len (.cons (.var 1) .nil)))) (.cons (.const (.int 0)) .nil))))))) .nil))
theorem cut63 {α : Type} {xs : List α} (h : xs.length ≤ 63) : cut xs none (some 63) = xs := by
  unfold cut slIx
  simp only [List.drop_zero, Nat.sub_zero]
  rw [if_neg (by decide)]
  have : min (63 : Int).toNat xs.length = xs.length := by
    show min 63 xs.length = _
    omega
  rw [this, List.take_length]
theorem hand_ok (hh : P.defs[fh]? = some ⟨1, 3, bHand⟩) {ns : List Int} (hl : ns.length ≤ 63) : ∃ S', callN P (n + 1) fh [.lst (ns.map .int)] [] = .ok (.loc 0) S' ∧ At [] 0 S' := by
  rw [callN_def hh]
  obtain ⟨m, hm⟩ : ∃ m : Int, m = ns.length := ⟨_, rfl⟩
  refine ⟨[hv ⟨ns.map fun z => absI z % 10 ^ 36, 0, 0, 593 + 449 * m, 0⟩], ?_, ⟨ns.map fun z => absI z % 10 ^ 36, 0, 0, 593 + 449 * m, 0⟩, rfl, ⟨?_, Int.le_refl 0, Int.le_refl 0, (by decide : (0 : Int) < 10 ^ 36), ?_, ?_, Int.le_refl 0, Int.le_refl 0⟩, by simp only [Wf, underS, hv_under, Bool.and_true]⟩
  · refine runD_keep (d := ⟨1, 3, bHand⟩) (S := []) rfl ?_ rfl rfl (by simp only [Wf, underS, hv_under, Bool.and_true])
    show execL (sxN P n) bHand [some (.lst (ns.map .int)), none, none] [] = _
    have hc : den (sxN P n) (.comp false [2] (.bin .mod (.bi false .int1 (.cons (.bi false .abs (.cons (.bi false .int1 (.cons (.var 2) .nil)) .nil)) .nil)) (.bin .pow (.const (.int 10)) (.const (.int 36)))) (.name 2) (.seq (.slice (.var 0) .none (.some (.const (.int 63))))) .nil) [some (.lst (ns.map .int)), none, none] [] = .ok (.lst ((ns.map PV.int).map fun x => .int (absI (intOf x) % 10 ^ 36))) [] := by
      refine den_comp_map (xs := ns.map .int) ?_ fun x hx => ⟨_, rfl, ?_⟩
      · have hs : slop (.lst (ns.map .int)) none (some 63) [] = some (.lst (ns.map .int)) := by
          simp only [slop, getL, Option.map_some]
          rw [cut63 (by rw [List.length_map]; exact hl)]
        simp [hs, PV.asInt, walkOf]
      · obtain ⟨z, hz, rfl⟩ := List.mem_map.mp hx
        have p1 : binop .pow (.int 10) (.int 36) ([] : Store) = some (.int (10 ^ 36)) := pow_of (i := 10) (j := 36) (by decide) (by decide)
        have m1 : binop .mod (.int (absI z)) (.int (10 ^ 36)) ([] : Store) = some (.int (absI z % 10 ^ 36)) := mod_of (by decide)
        show den (sxN P n) _ [some (.lst (ns.map .int)), none, some (.int z)] [] = _
        simp only [den_bin, den_bi, denL_cons, denL_nil, den_varS, den_var0, Res.bind_ok, bi_int1', Res.of_some, laid_false, bi_abs_int, den_const, p1, m1, intOf]
    have hmul : binop .mul (.int 449) (.int m) ([] : Store) = some (.int (449 * m)) := mul_of 10 10 (by decide) (by omega) (by decide)
    have hlen : bi .len [.lst ((ns.map PV.int).map fun x => .int (absI (intOf x) % 10 ^ 36))] ([] : Store) = some (.int m) := by
      rw [bi_len_lst, List.length_map, List.length_map, hm]
    have hmap : (ns.map PV.int).map (fun x => PV.int (absI (intOf x) % 10 ^ 36)) = (ns.map fun z => absI z % 10 ^ 36).map .int := by
      rw [List.map_map, List.map_map]; rfl
    simp only [bHand, execL_cons, execL_nil, exec_asg, hc, Res.st_ok, asgT_name, List.set_cons_succ, List.set_cons_zero, SRes.andThen_next, exec_ret, den_lst, denL_cons, denL_nil, den_varS, den_var0, den_const, den_bin, den_bi, Res.bind_ok, hlen, hmul, Res.of_some, laid_false, add_int]
    rw [hmap]
    rfl
  · intro x hx
    obtain ⟨z, hz, rfl⟩ := List.mem_map.mp hx
    exact mod_rng (absI z) (by decide)
  · show 0 ≤ 593 + 449 * m
    omega
  · show 593 + 449 * m < 2 ^ 40
    omega
/-! ### what is raised -/
def bSaid : Ss := (.cons (.try_ (.cons (.ex (.callv 0)) .nil) (.own "WarrantError") (some 1) (.cons (.asg (.name 2) (.lst false (.cons (.isin (.var 1) [(.own "NoClaims")]) (.cons (.isin (.var 1) [(.own "NoFlag")]) (.cons (.isin (.var 1) [(.own "NoIns")]) .nil))))) (.cons (.asg (.name 2) (.bin .add (.var 2) (.lst false (.cons (.isin (.var 1) [(.own "NoInteger")]) (.cons (.isin (.var 1) [(.own "NoLengths")]) (.cons (.isin (.var 1) [(.own "NoPromise")]) .nil)))))) (.cons (.asg (.name 2) (.bin .add (.var 2) (.lst false (.cons (.isin (.var 1) [(.own "NoRows")]) .nil)))) (.cons (.iff (.bool false (.cons (.cmp .ne (.meth .count (.var 2) (.cons (.const (.bl true)) .nil)) (.const (.int 1))) (.cons (.not (.val (.isin (.var 1) [(.bt .verr)]))) .nil))) (.cons (.ret (.const (.str "odd"))) .nil) .nil) (.cons (.ret (.idx (.lst false (.cons (.const (.str "claims")) (.cons (.const (.str "flag")) (.cons (.const (.str "ins")) (.cons (.const (.str "integer")) (.cons (.const (.str "lengths")) (.cons (.const (.str "promise")) (.cons (.const (.str "rows")) .nil)))))))) (.meth .index (.var 2) (.cons (.const (.bl true)) .nil)))) .nil)))))) (.cons (.ret (.const (.str "let"))) .nil))
structure SubX (P : Prog) (X : Str) (b1 b2 b3 b4 b5 b6 b7 : Bool) : Prop where
  w : P.sub X (.own "WarrantError") = some true
  v : P.sub X (.bt .verr) = some true
  h1 : P.sub X (.own "NoClaims") = some b1
  h2 : P.sub X (.own "NoFlag") = some b2
  h3 : P.sub X (.own "NoIns") = some b3
  h4 : P.sub X (.own "NoInteger") = some b4
  h5 : P.sub X (.own "NoLengths") = some b5
  h6 : P.sub X (.own "NoPromise") = some b6
  h7 : P.sub X (.own "NoRows") = some b7
theorem isin_exn {sub : Str → Cl → Option Bool} {X : Str} {c : Cl} {b : Bool} (h : sub X c = some b) : isinstL sub (.exn X []) S [c] = some b := by
  have : isinst sub (.exn X []) S c = some b := by
    unfold isinst
    simp only [deref]
    exact h
  simp only [isinstL, this]
  cases b <;> rfl
theorem index_lst {xs : List PV} {j : Nat} (hx : xs.all PV.flat = true) (h : firstEq (.bl true) xs = some j) : meth .index (.lst xs) [.bl true] S = some (.int j, S) := by
  show (if ((PV.bl true).flat && xs.all PV.flat) = true then (firstEq (.bl true) xs).map fun (n : Nat) => (PV.int (n : Int), S) else none) = _
  rw [hx, h]; rfl
theorem count_lst {xs : List PV} (hx : xs.all PV.flat = true) : meth .count (.lst xs) [.bl true] S = some (.int (countEq (.bl true) xs), S) := by
  show (if ((PV.bl true).flat && xs.all PV.flat) = true then some (PV.int (countEq (.bl true) xs), S) else none) = _
  rw [hx]; rfl
theorem said_ok (hS : P.defs[fS]? = some ⟨1, 3, bSaid⟩) {X : Str} {b1 b2 b3 b4 b5 b6 b7 : Bool} {word : Str} {j : Nat} (H : SubX P X b1 b2 b3 b4 b5 b6 b7) (hc : countEq (.bl true) [.bl b1, .bl b2, .bl b3, .bl b4, .bl b5, .bl b6, .bl b7] = 1) (hj : firstEq (.bl true) [.bl b1, .bl b2, .bl b3, .bl b4, .bl b5, .bl b6, .bl b7] = some j)
    (hw : ∀ S, ixop (.lst [.str "claims", .str "flag", .str "ins", .str "integer", .str "lengths", .str "promise", .str "rows"]) (.int j) S = some (.str word)) {ρ : Env} {S S' : Store} {body : E} (hm : den (sxN P (n + 1)).down body ρ S = .exc ⟨X, []⟩ S') (w : Wf S) (w' : Wf S') (hl : S'.length = S.length) : den (sxN P (n + 1)) (.calllam fS body) ρ S = .ok (.str word) S' := by
  have hlam : ∀ m S, (sxN P (n + 1)).lam fS m S = runD (sxOf P (orc P n) (CW.o2 P n) (some m)) ⟨1, 3, bSaid⟩ [.clo] S := fun m S => by
    show (match P.defs[fS]? with | some d => _ | none => _) = _
    rw [hS]; rfl
  rw [den_calllam, if_pos (show (sxN P (n + 1)).okC [] S = true from rfl), hlam]
  suffices h : runD (sxOf P (orc P n) (CW.o2 P n) (some (den (sxN P (n + 1)).down body ρ))) ⟨1, 3, bSaid⟩ [.clo] S = .ok (.str word) S' by rw [h]; rfl
  refine runD_same rfl ?_ hl rfl w'
  show execL (sxOf P (orc P n) (CW.o2 P n) (some (den (sxN P (n + 1)).down body ρ))) bSaid [some .clo, none, none] S = _
  generalize hsx : sxOf P (orc P n) (CW.o2 P n) (some (den (sxN P (n + 1)).down body ρ)) = sx
  have hsub : sx.sub = P.sub := by rw [← hsx]; rfl
  have hcv : den sx (.callv 0) [some .clo, none, none] S = .exc ⟨X, []⟩ S' := by
    rw [← hsx]
    show (if underS S.length S then den (sxN P (n + 1)).down body ρ S else .bad) = _
    rw [if_pos w, hm]
  have hbody : execL sx (.cons (.ex (.callv 0)) .nil) [some .clo, none, none] S = .exc ⟨X, []⟩ [some .clo, none, none] S' := by
    rw [execL_cons, exec_ex, hcv]; rfl
  have e1 := fun S => isin_exn (S := S) H.h1
  have e2 := fun S => isin_exn (S := S) H.h2
  have e3 := fun S => isin_exn (S := S) H.h3
  have e4 := fun S => isin_exn (S := S) H.h4
  have e5 := fun S => isin_exn (S := S) H.h5
  have e6 := fun S => isin_exn (S := S) H.h6
  have e7 := fun S => isin_exn (S := S) H.h7
  have e8 := fun S => isin_exn (S := S) H.v
  have a1 := add_lst (S := S') (xs := [.bl b1, .bl b2, .bl b3]) (ys := [.bl b4, .bl b5, .bl b6]) (by simp)
  have a2 := add_lst (S := S') (xs := [.bl b1, .bl b2, .bl b3, .bl b4, .bl b5, .bl b6]) (ys := [.bl b7]) (by simp)
  simp only [List.cons_append, List.nil_append] at a1 a2
  have cnt := count_lst (S := S') (xs := [.bl b1, .bl b2, .bl b3, .bl b4, .bl b5, .bl b6, .bl b7]) rfl
  have idx := index_lst (S := S') (xs := [.bl b1, .bl b2, .bl b3, .bl b4, .bl b5, .bl b6, .bl b7]) rfl hj
  rw [hc] at cnt
  have rc : recvOk .count (.lst [.bl b1, .bl b2, .bl b3, .bl b4, .bl b5, .bl b6, .bl b7]) S' = true := rfl
  have ri : recvOk .index (.lst [.bl b1, .bl b2, .bl b3, .bl b4, .bl b5, .bl b6, .bl b7]) S' = true := rfl
  have hh : execL sx (.cons (.asg (.name 2) (.lst false (.cons (.isin (.var 1) [(.own "NoClaims")]) (.cons (.isin (.var 1) [(.own "NoFlag")]) (.cons (.isin (.var 1) [(.own "NoIns")]) .nil))))) (.cons (.asg (.name 2) (.bin .add (.var 2) (.lst false (.cons (.isin (.var 1) [(.own "NoInteger")]) (.cons (.isin (.var 1) [(.own "NoLengths")]) (.cons (.isin (.var 1) [(.own "NoPromise")]) .nil)))))) (.cons (.asg (.name 2) (.bin .add (.var 2) (.lst false (.cons (.isin (.var 1) [(.own "NoRows")]) .nil)))) (.cons (.iff (.bool false (.cons (.cmp .ne (.meth .count (.var 2) (.cons (.const (.bl true)) .nil)) (.const (.int 1))) (.cons (.not (.val (.isin (.var 1) [(.bt .verr)]))) .nil))) (.cons (.ret (.const (.str "odd"))) .nil) .nil) (.cons (.ret (.idx (.lst false (.cons (.const (.str "claims")) (.cons (.const (.str "flag")) (.cons (.const (.str "ins")) (.cons (.const (.str "integer")) (.cons (.const (.str "lengths")) (.cons (.const (.str "promise")) (.cons (.const (.str "rows")) .nil)))))))) (.meth .index (.var 2) (.cons (.const (.bl true)) .nil)))) .nil))))) [some .clo, some (.exn X []), none] S' = .ret (.str word) S' := by
    simp only [execL_cons, execL_nil, exec_asg, exec_iff, exec_ret, den_lst, denL_cons, denL_nil, den_isin, den_varS, den_var0, Res.bind_ok, hsub, e1, e2, e3, e4, e5, e6, e7, e8, Option.map_some, Res.of_some, laid_false, Res.st_ok, asgT_name, List.set_cons_succ, List.set_cons_zero, SRes.andThen_next, den_bin, a1, a2, denT_bool, denTB_cons, denTB_one, denT_cmp, denT_not, denT_val, den_meth, den_const, rc, ri, if_true, cnt, idx, ofM_some, cmp_ne_int, truth_bl, den_idx, hw]
    simp [ri, idx, hw]
  have ht : exec sx (.try_ (.cons (.ex (.callv 0)) .nil) (.own "WarrantError") (some 1) (.cons (.asg (.name 2) (.lst false (.cons (.isin (.var 1) [(.own "NoClaims")]) (.cons (.isin (.var 1) [(.own "NoFlag")]) (.cons (.isin (.var 1) [(.own "NoIns")]) .nil))))) (.cons (.asg (.name 2) (.bin .add (.var 2) (.lst false (.cons (.isin (.var 1) [(.own "NoInteger")]) (.cons (.isin (.var 1) [(.own "NoLengths")]) (.cons (.isin (.var 1) [(.own "NoPromise")]) .nil)))))) (.cons (.asg (.name 2) (.bin .add (.var 2) (.lst false (.cons (.isin (.var 1) [(.own "NoRows")]) .nil)))) (.cons (.iff (.bool false (.cons (.cmp .ne (.meth .count (.var 2) (.cons (.const (.bl true)) .nil)) (.const (.int 1))) (.cons (.not (.val (.isin (.var 1) [(.bt .verr)]))) .nil))) (.cons (.ret (.const (.str "odd"))) .nil) .nil) (.cons (.ret (.idx (.lst false (.cons (.const (.str "claims")) (.cons (.const (.str "flag")) (.cons (.const (.str "ins")) (.cons (.const (.str "integer")) (.cons (.const (.str "lengths")) (.cons (.const (.str "promise")) (.cons (.const (.str "rows")) .nil)))))))) (.meth .index (.var 2) (.cons (.const (.bl true)) .nil)))) .nil)))))) [some .clo, none, none] S = .ret (.str word) S' := by
    have hs : sx.sub X (.own "WarrantError") = some true := by rw [hsub]; exact H.w
    simp only [exec, hbody, hs]
    show leaveH (some 1) (execL sx _ [some .clo, some (.exn X []), none] S') = _
    rw [hh]
    show (if _ then _ else _) = _
    rw [if_pos]
    show ((PV.str word).under S'.length && underS S'.length S') = true
    rw [show underS S'.length S' = true from w']; rfl
  unfold bSaid
  rw [execL_cons, ht, SRes.andThen_ret]
end
end CW
end

section
set_option Elab.async false
set_option linter.all false
set_option maxRecDepth 100000
set_option maxHeartbeats 1000000
/-! k14: what is refused. -/
namespace CW
open PySem
structure K14P (P : Prog) : Prop where
  T : HasTold P 0 1 2 3 5 6 7 8 9 4 11 12 13 14 15 16
  st : P.defs[17]? = some ⟨3, 3, bStepsTold 11 12 13 15 16⟩
  kn : P.defs[20]? = some ⟨3, 3, bKeepsNeeds 11 12 14 19⟩
  rk : P.defs[19]? = some ⟨3, 8, bRawKeeps 15 4 18⟩
  ic : P.defs[18]? = some ⟨2, 2, bIsCell⟩
  kg : P.defs[21]? = some ⟨4, 6, bKeepsGives 0 11 12 13 15 4⟩
  ro : P.defs[22]? = some ⟨3, 4, bReachOf 5 10⟩
  rr : P.defs[10]? = some ⟨3, 3, bRawReach⟩
  L : HasLawForms P 24 25 26 29
  ha : P.defs[23]? = some ⟨1, 3, bHand⟩
  sa : P.defs[27]? = some ⟨1, 3, bSaid⟩
  pr : P.defs[28]? = some ⟨1, 12, bPromised 24 25 29⟩
  wo : P.defs[30]? = some ⟨4, 7, bWorth⟩
  sc : SubX P "NoClaims" true false false false false false false
  sf : SubX P "NoFlag" false true false false false false false
  si : SubX P "NoIns" false false true false false false false
  sn : SubX P "NoInteger" false false false true false false false
  sl : SubX P "NoLengths" false false false false true false false
  sp : SubX P "NoPromise" false false false false false true false
  sr : SubX P "NoRows" false false false false false false true
section
variable {P : Prog} {n : Nat} {R S S' : Store} {b b' : Nat} {ρ : Env} {body : E}
@[simp] theorem down_call {f : Nat} {vs : List PV} : (sxN P (n + 2)).down.call f vs S = callN P n f vs S := rfl
@[simp] theorem down_okC {vs : List PV} : (sxN P (n + 2)).down.okC vs S = true := rfl
theorem said_c (K : K14P P) (hm : den (sxN P (n + 1)).down body ρ S = .exc ⟨"NoClaims", []⟩ S') (a : At R b S) (a' : At R b' S') : den (sxN P (n + 1)) (.calllam 27 body) ρ S = .ok (.str "claims") S' := said_ok (j := 0) K.sa K.sc rfl rfl (fun _ => rfl) hm a.wf a'.wf (by rw [a.len, a'.len])
theorem said_f (K : K14P P) (hm : den (sxN P (n + 1)).down body ρ S = .exc ⟨"NoFlag", []⟩ S') (a : At R b S) (a' : At R b' S') : den (sxN P (n + 1)) (.calllam 27 body) ρ S = .ok (.str "flag") S' := said_ok (j := 1) K.sa K.sf rfl rfl (fun _ => rfl) hm a.wf a'.wf (by rw [a.len, a'.len])
theorem said_i (K : K14P P) (hm : den (sxN P (n + 1)).down body ρ S = .exc ⟨"NoIns", []⟩ S') (a : At R b S) (a' : At R b' S') : den (sxN P (n + 1)) (.calllam 27 body) ρ S = .ok (.str "ins") S' := said_ok (j := 2) K.sa K.si rfl rfl (fun _ => rfl) hm a.wf a'.wf (by rw [a.len, a'.len])
theorem said_n (K : K14P P) (hm : den (sxN P (n + 1)).down body ρ S = .exc ⟨"NoInteger", []⟩ S') (a : At R b S) (a' : At R b' S') : den (sxN P (n + 1)) (.calllam 27 body) ρ S = .ok (.str "integer") S' := said_ok (j := 3) K.sa K.sn rfl rfl (fun _ => rfl) hm a.wf a'.wf (by rw [a.len, a'.len])
theorem said_l (K : K14P P) (hm : den (sxN P (n + 1)).down body ρ S = .exc ⟨"NoLengths", []⟩ S') (a : At R b S) (a' : At R b' S') : den (sxN P (n + 1)) (.calllam 27 body) ρ S = .ok (.str "lengths") S' := said_ok (j := 4) K.sa K.sl rfl rfl (fun _ => rfl) hm a.wf a'.wf (by rw [a.len, a'.len])
theorem said_p (K : K14P P) (hm : den (sxN P (n + 1)).down body ρ S = .exc ⟨"NoPromise", []⟩ S') (a : At R b S) (a' : At R b' S') : den (sxN P (n + 1)) (.calllam 27 body) ρ S = .ok (.str "promise") S' := said_ok (j := 5) K.sa K.sp rfl rfl (fun _ => rfl) hm a.wf a'.wf (by rw [a.len, a'.len])
theorem said_r (K : K14P P) (hm : den (sxN P (n + 1)).down body ρ S = .exc ⟨"NoRows", []⟩ S') (a : At R b S) (a' : At R b' S') : den (sxN P (n + 1)) (.calllam 27 body) ρ S = .ok (.str "rows") S' := said_ok (j := 6) K.sa K.sr rfl rfl (fun _ => rfl) hm a.wf a'.wf (by rw [a.len, a'.len])
/-- a word more -/
theorem app_step {sx : Sx} {e : E} {v : PV} {ws : List PV} (h10 : ∀ S, den sx (.var 10) ρ S = .ok (.loc (R.length + 1)) S) (a : At (R ++ [.lst ws]) b S) (he : den sx e ρ S = .ok v S') (a' : At (R ++ [.lst ws]) b' S') (hl : ws.length < 1000) (hz : fzL ws = true) (hv : v.fz = true) : ∃ S'', exec sx (.ex (.meth .append (.var 10) (.cons e .nil))) ρ S = .next ρ S'' ∧ At (R ++ [.lst (ws ++ [v])]) b' S'' := by
  obtain ⟨_, _, r, _⟩ := app_at a hl hz hv
  obtain ⟨S'', e1, _, a1⟩ := app_at a' hl hz hv
  refine ⟨S'', ?_, a1⟩
  simp only [exec_ex, den_meth, h10, Res.bind_ok, r, if_true, denL_cons, denL_nil, he, e1, ofM_some, Res.st_ok]
def BadP (v : PV) : Prop := v.fz = true ∧ (∀ x ∈ itemsOf v, shortS x = true) ∧ fPromise v = false
def badL (i : Int) (es ds gs rs : List PV) : List PV := [.non, .str "?", .tup [], .tup [.str "prom", .int i, .tup es, .tup ds, .tup gs], .lst [.str "prom", .int i, .tup es, .tup ds, .tup gs, .tup rs], .tup [.str "Prom", .int i, .tup es, .tup ds, .tup gs, .tup rs], .tup [.str "prom", .int i, .tup es, .tup ds, .tup gs, .tup []], .tup [.str "prom", .int i, .tup es, .tup ds, .tup gs, .tup rs, .int 0]]
theorem bad_ok {i : Int} {es ds gs rs : List PV} (D : PromD i es ds gs rs) {v : PV} (h : v ∈ badL i es ds gs rs) : BadP v := by
  have hz := D.good.fz
  simp only [PV.fz, fzL, Bool.and_true, Bool.and_eq_true] at hz
  obtain ⟨_, _, z1, z2, z3, z4⟩ := hz
  simp only [badL, List.mem_cons, List.not_mem_nil, or_false] at h
  have sh : shortS (.str "prom") = true := by decide
  have sH : shortS (.str "Prom") = true := by decide
  have hN : fName (.str "Prom") = false := by decide
  rcases h with rfl | rfl | rfl | rfl | rfl | rfl | rfl | rfl
  · exact ⟨rfl, by simp [itemsOf], rfl⟩
  · exact ⟨rfl, by simp [itemsOf], rfl⟩
  · exact ⟨rfl, by simp [itemsOf], rfl⟩
  · refine ⟨by simp [PV.fz, fzL, z1, z2, z3], ?_, rfl⟩
    simp only [itemsOf, List.mem_cons, List.not_mem_nil, or_false]
    rintro x (rfl | rfl | rfl | rfl | rfl) <;> first | exact sh | rfl
  · exact ⟨by simp [PV.fz, fzL, z1, z2, z3, z4], by simp [itemsOf], rfl⟩
  · refine ⟨by simp [PV.fz, fzL, z1, z2, z3, z4], ?_, by simp only [fPromise, hN, Bool.false_and]⟩
    simp only [itemsOf, List.mem_cons, List.not_mem_nil, or_false]
    rintro x (rfl | rfl | rfl | rfl | rfl | rfl) <;> first | exact sH | rfl
  · refine ⟨by simp [PV.fz, fzL, z1, z2, z3], ?_, by simp [fPromise, itemsOf]⟩
    simp only [itemsOf, List.mem_cons, List.not_mem_nil, or_false]
    rintro x (rfl | rfl | rfl | rfl | rfl | rfl) <;> first | exact sh | rfl
  · refine ⟨by simp [PV.fz, fzL, z1, z2, z3, z4], ?_, rfl⟩
    simp only [itemsOf, List.mem_cons, List.not_mem_nil, or_false]
    rintro x (rfl | rfl | rfl | rfl | rfl | rfl | rfl) <;> first | exact sh | rfl
def noneL (xs : List PV) : List PV := [.non, .str "?", .lst xs, .tup (xs ++ [.int 0]), .tup (xs ++ [.str "?"]), .int 0]
theorem none_ok {i : Int} {xs : List PV} (hx : fzL xs = true) (lx : (xs.length : Int) = i) {v : PV} (h : v ∈ noneL xs) : v.fz = true ∧ fIns i v = false := by
  simp only [noneL, List.mem_cons, List.not_mem_nil, or_false] at h
  have hne : (((xs.length : Int) + 1) == i) = false := by
    rw [beq_eq_false_iff_ne]; omega
  rcases h with rfl | rfl | rfl | rfl | rfl | rfl
  all_goals first | exact ⟨rfl, rfl⟩ | exact ⟨by simp [PV.fz, fzL, hx, fzL_append], by simp [fIns, hne]⟩
def oddL (xs : List PV) : List PV := [.non, .str "?", .lst xs, .tup (xs ++ [.int 0]), .tup (xs ++ [.int (-1)]), .int 0]
theorem odd_ok {m : Nat} {xs : List PV} (hx : fzL xs = true) (lx : xs.length = m) {v : PV} (h : v ∈ oddL xs) : v.fz = true ∧ fLens m v = false := by
  simp only [oddL, List.mem_cons, List.not_mem_nil, or_false] at h
  rcases h with rfl | rfl | rfl | rfl | rfl | rfl
  all_goals first | exact ⟨rfl, rfl⟩ | exact ⟨by simp [PV.fz, fzL, hx, fzL_append], by simp [fLens]; try omega⟩
def farL (xs : List PV) : List PV := [.non, .str "?", .lst xs, .tup (xs ++ [.tup []]), .tup (xs ++ [.tup [.bl true]]), .int 0]
theorem far_ok {m : Nat} {xs : List PV} (hx : fzL xs = true) (lx : xs.length = m) {v : PV} (h : v ∈ farL xs) : v.fz = true ∧ fRows m v = false := by
  simp only [farL, List.mem_cons, List.not_mem_nil, or_false] at h
  have hne : (((xs.length : Int) + 1) == (m : Int)) = false := by
    rw [beq_eq_false_iff_ne]; omega
  rcases h with rfl | rfl | rfl | rfl | rfl | rfl
  all_goals first | exact ⟨rfl, rfl⟩ | exact ⟨by simp [PV.fz, fzL, hx, fzL_append], by simp [fRows, hne]⟩
def clL : List PV := [.non, .str "?", .lst [.tup [.int 0, .tup []]], .tup [.tup [.int 0, .tup [.tup [.int 40, .int 1]]]], .tup [.tup [.int 0]], .tup [.int 1], .tup [.tup [.bl true, .tup []]]]
theorem cl_ok {v : PV} (h : v ∈ clL) : v.fz = true ∧ fClaims v 80 = false := by
  simp only [clL, List.mem_cons, List.not_mem_nil, or_false] at h
  rcases h with rfl | rfl | rfl | rfl | rfl | rfl | rfl
  all_goals exact ⟨rfl, by decide⟩
end
end CW
end

section
set_option Elab.async false
set_option linter.all false
set_option maxRecDepth 100000
set_option maxHeartbeats 1000000
/-! k14: _law_refused_right. -/
namespace CW
open PySem
def eBad : E := (.lst false (.cons (.const .non) (.cons (.const (.str "?")) (.cons (.tup .nil) (.cons (.slice (.var 1) .none (.some (.const (.int 5)))) (.cons (.bi false .list1 (.cons (.var 1) .nil)) (.cons (.bin .add (.tup (.cons (.const (.str "Prom")) .nil)) (.slice (.var 1) (.some (.const (.int 1))) .none)) (.cons (.bin .add (.slice (.var 1) .none (.some (.const (.int 5)))) (.tup (.cons (.tup .nil) .nil))) (.cons (.bin .add (.var 1) (.tup (.cons (.const (.int 0)) .nil))) .nil)))))))))
def eNone : E := (.lst false (.cons (.const .non) (.cons (.const (.str "?")) (.cons (.bi false .list1 (.cons (.var 2) .nil)) (.cons (.bin .add (.var 2) (.tup (.cons (.const (.int 0)) .nil))) (.cons (.bin .add (.var 2) (.tup (.cons (.const (.str "?")) .nil))) (.cons (.const (.int 0)) .nil)))))))
def eOdd : E := (.lst false (.cons (.const .non) (.cons (.const (.str "?")) (.cons (.bi false .list1 (.cons (.var 4) .nil)) (.cons (.bin .add (.var 4) (.tup (.cons (.const (.int 0)) .nil))) (.cons (.bin .add (.var 4) (.tup (.cons (.neg (.const (.int 1))) .nil))) (.cons (.const (.int 0)) .nil)))))))
def eFar : E := (.lst false (.cons (.const .non) (.cons (.const (.str "?")) (.cons (.bi false .list1 (.cons (.var 3) .nil)) (.cons (.bin .add (.var 3) (.tup (.cons (.tup .nil) .nil))) (.cons (.bin .add (.var 3) (.tup (.cons (.tup (.cons (.const (.bl true)) .nil)) .nil))) (.cons (.const (.int 0)) .nil)))))))
def eCl : E := (.lst false (.cons (.const .non) (.cons (.const (.str "?")) (.cons (.lst false (.cons (.tup (.cons (.const (.int 0)) (.cons (.tup .nil) .nil))) .nil)) (.cons (.tup (.cons (.tup (.cons (.const (.int 0)) (.cons (.tup (.cons (.tup (.cons (.const (.int 40)) (.cons (.const (.int 1)) .nil))) .nil)) .nil))) .nil)) (.cons (.tup (.cons (.tup (.cons (.const (.int 0)) .nil)) .nil)) (.cons (.tup (.cons (.const (.int 1)) .nil)) (.cons (.tup (.cons (.tup (.cons (.const (.bl true)) (.cons (.tup .nil) .nil))) .nil)) .nil))))))))
def eInt : E := (.lst false (.cons (.const .non) (.cons (.const (.bl true)) (.cons (.const (.str "?")) (.cons (.tup (.cons (.const (.int 1)) .nil)) .nil)))))
def eFlag : E := (.lst false (.cons (.const (.int 0)) (.cons (.const (.int 1)) (.cons (.const .non) (.cons (.const (.str "?")) .nil)))))
def eDue : E := (.lst false (.cons (.const (.str "promise")) (.cons (.const (.str "ins")) (.cons (.const (.str "lengths")) (.cons (.const (.str "promise")) (.cons (.const (.str "ins")) (.cons (.const (.str "rows")) (.cons (.const (.str "promise")) (.cons (.const (.str "lengths")) (.cons (.const (.str "integer")) .nil))))))))))
def eDue2 : E := (.lst false (.cons (.const (.str "claims")) (.cons (.const (.str "claims")) (.cons (.const (.str "flag")) .nil))))
def eB1 : E := (.call 17 (.cons (.var 5) (.cons (.var 6) (.cons (.var 7) .nil))))
def eB2 : E := (.call 17 (.cons (.var 1) (.cons (.var 6) (.cons (.var 7) .nil))))
def eB3 : E := (.call 17 (.cons (.var 1) (.cons (.var 2) (.cons (.var 7) .nil))))
def eB4 : E := (.call 20 (.cons (.var 5) (.cons (.var 6) (.cons (.var 8) .nil))))
def eB5 : E := (.call 20 (.cons (.var 1) (.cons (.var 6) (.cons (.var 8) .nil))))
def eB6 : E := (.call 20 (.cons (.var 1) (.cons (.var 2) (.cons (.var 8) .nil))))
def eB7 : E := (.call 21 (.cons (.var 5) (.cons (.var 6) (.cons (.var 7) (.cons (.const .non) .nil)))))
def eB8 : E := (.call 21 (.cons (.var 1) (.cons (.var 2) (.cons (.var 7) (.cons (.const .non) .nil)))))
def eB9 : E := (.call 21 (.cons (.var 1) (.cons (.var 2) (.cons (.var 4) (.cons (.call 25 (.cons (.var 0) (.cons eInt .nil))) .nil)))))
def eB10 : E := (.call 22 (.cons (.var 9) (.cons (.var 9) (.cons (.const (.int 0)) .nil))))
def eB11 : E := (.call 22 (.cons (.tup .nil) (.cons (.var 9) (.cons (.const (.int 0)) .nil))))
def eB12 : E := (.call 22 (.cons (.tup .nil) (.cons (.tup .nil) (.cons (.call 25 (.cons (.var 0) (.cons eFlag .nil))) .nil))))
def bRefused : Ss := (.cons (.asg (.name 5) eBad) (.cons (.asg (.name 5) (.call 25 (.cons (.var 0) (.cons (.var 5) .nil)))) (.cons (.asg (.name 6) (.call 25 (.cons (.var 0) (.cons eNone .nil)))) (.cons (.asg (.name 7) (.call 25 (.cons (.var 0) (.cons eOdd .nil)))) (.cons (.asg (.name 8) (.call 25 (.cons (.var 0) (.cons eFar .nil)))) (.cons (.asg (.name 9) (.call 25 (.cons (.var 0) (.cons eCl .nil)))) (.cons (.asg (.name 10) (.lst true (.cons (.calllam 27 eB1) .nil))) (.cons (.ex (.meth .append (.var 10) (.cons (.calllam 27 eB2) .nil))) (.cons (.ex (.meth .append (.var 10) (.cons (.calllam 27 eB3) .nil))) (.cons (.ex (.meth .append (.var 10) (.cons (.calllam 27 eB4) .nil))) (.cons (.ex (.meth .append (.var 10) (.cons (.calllam 27 eB5) .nil))) (.cons (.ex (.meth .append (.var 10) (.cons (.calllam 27 eB6) .nil))) (.cons (.ex (.meth .append (.var 10) (.cons (.calllam 27 eB7) .nil))) (.cons (.ex (.meth .append (.var 10) (.cons (.calllam 27 eB8) .nil))) (.cons (.ex (.meth .append (.var 10) (.cons (.calllam 27 eB9) .nil))) (.cons (.ex (.meth .append (.var 10) (.cons (.calllam 27 eB10) .nil))) (.cons (.ex (.meth .append (.var 10) (.cons (.calllam 27 eB11) .nil))) (.cons (.ex (.meth .append (.var 10) (.cons (.calllam 27 eB12) .nil))) (.cons (.asg (.name 11) eDue) (.cons (.ret (.cmp .eq (.var 10) (.bin .add (.var 11) eDue2))) .nil))))))))))))))))))))
section
variable {P : Prog} {n : Nat} {R S S' : Store} {b b' : Nat} {ρ : Env}
@[simp] theorem slop_tup {xs : List PV} {lo hi : Option Int} : slop (.tup xs) lo hi S = some (.tup (cut xs lo hi)) := rfl
@[simp] theorem bi_list_tup {xs : List PV} : bi .list1 [.tup xs] S = some (.lst xs) := rfl
theorem lens_sm {rws : List PV} (hr : ∀ r ∈ rws, rowSm r) : (∀ y ∈ lensOf rws, SmI y) ∧ (lensOf rws).all fNat = true ∧ (lensOf rws).length = rws.length := by
  refine ⟨fun y hy => ?_, List.all_eq_true.mpr fun y hy => ?_, by simp [lensOf]⟩
  · obtain ⟨r, h, rfl⟩ := List.mem_map.mp hy
    obtain ⟨cs, rfl, hl, _⟩ := hr r h
    exact ⟨_, rfl, by simp only [itemsOf]; omega⟩
  · obtain ⟨r, h, rfl⟩ := List.mem_map.mp hy
    obtain ⟨cs, rfl, hl, _⟩ := hr r h
    simp [fNat]
theorem any_e (K : K14P P) {ρ : Env} {e : E} {xs : List PV} (h0 : ∀ S, den (sxN P (n + 2)) (.var 0) ρ S = .ok (.loc 0) S) (he : ∀ S, den (sxN P (n + 2)) e ρ S = .ok (.lst xs) S) (a : At R b S) (hb : b < 2 ^ 60) (hn : 0 < xs.length) (hm : xs.length < 1000) (hz : fzL xs = true) : ∃ S' v, den (sxN P (n + 2)) (.call 25 (.cons (.var 0) (.cons e .nil))) ρ S = .ok v S' ∧ At R (b + 1) S' ∧ v ∈ xs := by
  obtain ⟨S', v, e1, a1, hv⟩ := any_at (n := n) K.L.D a hb hn hm (fzL_under _ hz)
  exact ⟨S', v, by simp only [den_call, denL_cons, denL_nil, h0, he, Res.bind_ok, sxN_okC, if_true, sxN_call, e1], a1, hv⟩
theorem any_d (K : K14P P) {ρ : Env} {e : E} {xs : List PV} (h0 : ∀ S, den (sxN P (n + 4)).down (.var 0) ρ S = .ok (.loc 0) S) (he : ∀ S, den (sxN P (n + 4)).down e ρ S = .ok (.lst xs) S) (a : At R b S) (hb : b < 2 ^ 60) (hn : 0 < xs.length) (hm : xs.length < 1000) (hz : fzL xs = true) : ∃ S' v, den (sxN P (n + 4)).down (.call 25 (.cons (.var 0) (.cons e .nil))) ρ S = .ok v S' ∧ At R (b + 1) S' ∧ v ∈ xs := by
  obtain ⟨S', v, e1, a1, hv⟩ := any_at (n := n) K.L.D a hb hn hm (fzL_under _ hz)
  exact ⟨S', v, by simp only [den_call, denL_cons, denL_nil, h0, he, Res.bind_ok, down_okC, if_true, down_call, e1], a1, hv⟩
theorem refused_ok (K : K14P P) (hr : P.defs[31]? = some ⟨5, 12, bRefused⟩) {i : Int} {es ds gs rs xs rws : List PV} (D : PromD i es ds gs rs) (hx : ∀ x ∈ xs, SmI x) (hrw : ∀ r ∈ rws, rowSm r) (lx : (xs.length : Int) = i) (lr : rws.length = es.length) (a : At R b S) (hb : b + 1000 < 2 ^ 60) : ∃ S', callN P (n + 11) 31 [.loc 0, promV (.str "prom") i es ds gs rs, .tup xs, .tup rws, .tup (lensOf rws)] S = .ok (.bl true) S' ∧ At R (b + 10) S' := by
  rw [callN_def hr]
  have w0 := a.wf0
  have hl := a.len
  have hlx : xs.length ≤ 3 := by have := D.hi; omega
  have hlr : rws.length ≤ 2 := by have := D.el; omega
  obtain ⟨ly1, ly2, ly3⟩ := lens_sm hrw
  have zx := SmI.fzL hx
  have zr : fzL rws = true := fzL_all fun r h => (hrw r h).fz
  have zl := SmI.fzL ly1
  have zp := D.good.fz
  have zp' := zp
  simp only [PV.fz, fzL, Bool.and_true, Bool.and_eq_true] at zp'
  obtain ⟨_, _, z1, z2, z3, z4⟩ := zp'
  suffices hs : ∃ S' ws, execL (sxN P (n + 10)) bRefused [some (.loc 0), some (promV (.str "prom") i es ds gs rs), some (.tup xs), some (.tup rws), some (.tup (lensOf rws)), none, none, none, none, none, none, none] S = .ret (.bl true) S' ∧ At (R ++ [.lst ws]) (b + 10) S' by
    obtain ⟨S', ws, e, a'⟩ := hs
    have a'' := a'.drop w0
    refine ⟨S'.take (R.length + 1), ?_, a''⟩
    have := runD_drop (d := ⟨5, 12, bRefused⟩) (vs := [.loc 0, promV (.str "prom") i es ds gs rs, .tup xs, .tup rws, .tup (lensOf rws)]) (S := S) (S' := S') rfl e rfl (by rw [hl]; have := a''.wf; unfold Wf at this; rwa [a''.len] at this)
    rw [hl] at this
    exact this
  have c1 : cut [PV.str "prom", .int i, .tup es, .tup ds, .tup gs, .tup rs] none (some 5) = [.str "prom", .int i, .tup es, .tup ds, .tup gs] := rfl
  have c2 : cut [PV.str "prom", .int i, .tup es, .tup ds, .tup gs, .tup rs] (some 1) none = [.int i, .tup es, .tup ds, .tup gs, .tup rs] := rfl
  have hbl : ∀ S, den (sxN P (n + 10)) eBad [some (.loc 0), some (promV (.str "prom") i es ds gs rs), some (.tup xs), some (.tup rws), some (.tup (lensOf rws)), none, none, none, none, none, none, none] S = .ok (.lst (badL i es ds gs rs)) S := fun S => by
    have t1 := add_tup (S := S) (xs := [.str "Prom"]) (ys := [.int i, .tup es, .tup ds, .tup gs, .tup rs]) (by simp)
    have t2 := add_tup (S := S) (xs := [.str "prom", .int i, .tup es, .tup ds, .tup gs]) (ys := [.tup []]) (by simp)
    have t3 := add_tup (S := S) (xs := [.str "prom", .int i, .tup es, .tup ds, .tup gs, .tup rs]) (ys := [.int 0]) (by simp)
    simp only [List.cons_append, List.nil_append] at t1 t2 t3
    simp [eBad, badL, PV.asInt, c1, c2, t1, t2, t3]
  have hnone : ∀ bad S, den (sxN P (n + 10)) eNone [some (.loc 0), some (promV (.str "prom") i es ds gs rs), some (.tup xs), some (.tup rws), some (.tup (lensOf rws)), some bad, none, none, none, none, none, none] S = .ok (.lst (noneL xs)) S := fun bad S => by
    have t1 := add_tup (S := S) (xs := xs) (ys := [.int 0]) (by simp; omega)
    have t2 := add_tup (S := S) (xs := xs) (ys := [.str "?"]) (by simp; omega)
    simp [eNone, noneL, PV.asInt, t1, t2]
  have hodd : ∀ bad non S, den (sxN P (n + 10)) eOdd [some (.loc 0), some (promV (.str "prom") i es ds gs rs), some (.tup xs), some (.tup rws), some (.tup (lensOf rws)), some bad, some non, none, none, none, none, none] S = .ok (.lst (oddL (lensOf rws))) S := fun bad non S => by
    have t1 := add_tup (S := S) (xs := (lensOf rws)) (ys := [.int 0]) (by simp; omega)
    have t2 := add_tup (S := S) (xs := (lensOf rws)) (ys := [.int (-1)]) (by simp; omega)
    simp [eOdd, oddL, PV.asInt, t1, t2]
  have hfar : ∀ bad non odd S, den (sxN P (n + 10)) eFar [some (.loc 0), some (promV (.str "prom") i es ds gs rs), some (.tup xs), some (.tup rws), some (.tup (lensOf rws)), some bad, some non, some odd, none, none, none, none] S = .ok (.lst (farL rws)) S := fun bad non odd S => by
    have t1 := add_tup (S := S) (xs := rws) (ys := [.tup []]) (by simp; omega)
    have t2 := add_tup (S := S) (xs := rws) (ys := [.tup [.bl true]]) (by simp; omega)
    simp [eFar, farL, PV.asInt, t1, t2]
  have hcl : ∀ bad non odd far S, den (sxN P (n + 10)) eCl [some (.loc 0), some (promV (.str "prom") i es ds gs rs), some (.tup xs), some (.tup rws), some (.tup (lensOf rws)), some bad, some non, some odd, some far, none, none, none] S = .ok (.lst clL) S := fun bad non odd far S => by
    simp [eCl, clL]
  obtain ⟨S1, bad, e1, a1, m1⟩ := any_e (n := n + 8) K (ρ := [some (.loc 0), some (promV (.str "prom") i es ds gs rs), some (.tup xs), some (.tup rws), some (.tup (lensOf rws)), some (.lst (badL i es ds gs rs)), none, none, none, none, none, none]) (e := .var 5) (xs := badL i es ds gs rs) (fun _ => rfl) (fun _ => rfl) a (by omega) (by simp [badL]) (by simp [badL]) (by simp [badL, fzL, PV.fz, z1, z2, z3, z4])
  obtain ⟨bz, bs, bp⟩ := bad_ok D m1
  obtain ⟨S2, non, e2, a2, m2⟩ := any_e (n := n + 8) K (e := eNone) (xs := noneL xs) (fun _ => rfl) (hnone bad) a1 (by omega) (by simp [noneL]) (by simp [noneL]) (by simp [noneL, fzL, PV.fz, fzL_append, zx])
  obtain ⟨nz, np⟩ := none_ok zx lx m2
  obtain ⟨S3, odd, e3, a3, m3⟩ := any_e (n := n + 8) K (e := eOdd) (xs := oddL (lensOf rws)) (fun _ => rfl) (hodd bad non) a2 (by omega) (by simp [oddL]) (by simp [oddL]) (by simp [oddL, fzL, PV.fz, fzL_append, zl])
  obtain ⟨oz, op⟩ := odd_ok zl (ly3.trans lr) m3
  obtain ⟨S4, far, e4, a4, m4⟩ := any_e (n := n + 8) K (e := eFar) (xs := farL rws) (fun _ => rfl) (hfar bad non odd) a3 (by omega) (by simp [farL]) (by simp [farL]) (by simp [farL, fzL, PV.fz, fzL_append, zr])
  obtain ⟨fz', fp⟩ := far_ok zr lr m4
  obtain ⟨S5, cl, e5, a5, m5⟩ := any_e (n := n + 8) K (e := eCl) (xs := clL) (fun _ => rfl) (hcl bad non odd far) a4 (by omega) (by simp [clL]) (by simp [clL]) rfl
  obtain ⟨cz, cp⟩ := cl_ok m5
  have pins : fIns i (.tup xs) = true := by
    have : ((xs.length : Int) == i) = true := by rw [beq_iff_eq]; exact lx
    simp only [fIns, this, SmI.allInt hx, Bool.and_self]
  have plen : fLens es.length (.tup (lensOf rws)) = true := by
    simp [fLens, ly3.trans lr, ly2]
  have q1 : ∀ {R' : Store} {b' : Nat} {S : Store}, At R' b' S → den (sxN P (n + 10)).down eB1 [some (.loc 0), some (promV (.str "prom") i es ds gs rs), some (.tup xs), some (.tup rws), some (.tup (lensOf rws)), some bad, some non, some odd, some far, some cl, none, none] S = .exc ⟨"NoPromise", []⟩ S := fun AK => by
    have h := steps_told_p (n := n) K.T K.st (b := non) (c := odd) bz bs bp AK.wf
    simp [eB1, h]
  have q2 : ∀ {R' : Store} {b' : Nat} {S : Store}, At R' b' S → den (sxN P (n + 10)).down eB2 [some (.loc 0), some (promV (.str "prom") i es ds gs rs), some (.tup xs), some (.tup rws), some (.tup (lensOf rws)), some bad, some non, some odd, some far, some cl, some (.loc (R.length + 1)), none] S = .exc ⟨"NoIns", []⟩ S := fun AK => by
    have h := steps_told_i (n := n) K.T K.st D.good (b := non) (c := odd) nz np AK.wf
    simp [eB2, h]
  have q3 : ∀ {R' : Store} {b' : Nat} {S : Store}, At R' b' S → den (sxN P (n + 10)).down eB3 [some (.loc 0), some (promV (.str "prom") i es ds gs rs), some (.tup xs), some (.tup rws), some (.tup (lensOf rws)), some bad, some non, some odd, some far, some cl, some (.loc (R.length + 1)), none] S = .exc ⟨"NoLengths", []⟩ S := fun AK => by
    have h := steps_told_l (n := n) K.T K.st D.good (b := .tup xs) (c := odd) (by simp [PV.fz, zx]) oz pins op AK.wf
    simp [eB3, h]
  have q4 : ∀ {R' : Store} {b' : Nat} {S : Store}, At R' b' S → den (sxN P (n + 10)).down eB4 [some (.loc 0), some (promV (.str "prom") i es ds gs rs), some (.tup xs), some (.tup rws), some (.tup (lensOf rws)), some bad, some non, some odd, some far, some cl, some (.loc (R.length + 1)), none] S = .exc ⟨"NoPromise", []⟩ S := fun AK => by
    have h := keeps_needs_p (n := n) K.T K.kn (b := non) (c := far) bz bs bp AK.wf
    simp [eB4, h]
  have q5 : ∀ {R' : Store} {b' : Nat} {S : Store}, At R' b' S → den (sxN P (n + 10)).down eB5 [some (.loc 0), some (promV (.str "prom") i es ds gs rs), some (.tup xs), some (.tup rws), some (.tup (lensOf rws)), some bad, some non, some odd, some far, some cl, some (.loc (R.length + 1)), none] S = .exc ⟨"NoIns", []⟩ S := fun AK => by
    have h := keeps_needs_i (n := n) K.T K.kn D.good (b := non) (c := far) nz np AK.wf
    simp [eB5, h]
  have q6 : ∀ {R' : Store} {b' : Nat} {S : Store}, At R' b' S → den (sxN P (n + 10)).down eB6 [some (.loc 0), some (promV (.str "prom") i es ds gs rs), some (.tup xs), some (.tup rws), some (.tup (lensOf rws)), some bad, some non, some odd, some far, some cl, some (.loc (R.length + 1)), none] S = .exc ⟨"NoRows", []⟩ S := fun AK => by
    have h := keeps_needs_r (n := n) K.T K.kn D.good (b := .tup xs) (c := far) (by simp [PV.fz, zx]) fz' pins fp AK.wf
    simp [eB6, h]
  have q7 : ∀ {R' : Store} {b' : Nat} {S : Store}, At R' b' S → den (sxN P (n + 10)).down eB7 [some (.loc 0), some (promV (.str "prom") i es ds gs rs), some (.tup xs), some (.tup rws), some (.tup (lensOf rws)), some bad, some non, some odd, some far, some cl, some (.loc (R.length + 1)), none] S = .exc ⟨"NoPromise", []⟩ S := fun AK => by
    have h := keeps_gives_p (n := n) K.T K.kg (b := non) (c := odd) (d := .non) bz bs bp AK.wf
    simp [eB7, h]
  have q8 : ∀ {R' : Store} {b' : Nat} {S : Store}, At R' b' S → den (sxN P (n + 10)).down eB8 [some (.loc 0), some (promV (.str "prom") i es ds gs rs), some (.tup xs), some (.tup rws), some (.tup (lensOf rws)), some bad, some non, some odd, some far, some cl, some (.loc (R.length + 1)), none] S = .exc ⟨"NoLengths", []⟩ S := fun AK => by
    have h := keeps_gives_l (n := n) K.T K.kg D.good (b := .tup xs) (c := odd) (d := .non) (by simp [PV.fz, zx]) oz pins op AK.wf
    simp [eB8, h]
  have q9 : ∀ {R' : Store} {b' : Nat} {S : Store}, At R' b' S → b' < 2 ^ 60 → ∃ S', den (sxN P (n + 10)).down eB9 [some (.loc 0), some (promV (.str "prom") i es ds gs rs), some (.tup xs), some (.tup rws), some (.tup (lensOf rws)), some bad, some non, some odd, some far, some cl, some (.loc (R.length + 1)), none] S = .exc ⟨"NoInteger", []⟩ S' ∧ At R' (b' + 1) S' := fun AK hb' => by
    obtain ⟨S', v, e, a', m⟩ := any_d (n := n + 6) K (ρ := [some (.loc 0), some (promV (.str "prom") i es ds gs rs), some (.tup xs), some (.tup rws), some (.tup (lensOf rws)), some bad, some non, some odd, some far, some cl, some (.loc (R.length + 1)), none]) (e := eInt) (xs := [.non, .bl true, .str "?", .tup [.int 1]]) (fun _ => rfl) (fun _ => rfl) AK hb' (by simp) (by simp) rfl
    have hv : v.fz = true ∧ fInt v = false := by
      simp only [List.mem_cons, List.not_mem_nil, or_false] at m
      rcases m with rfl | rfl | rfl | rfl <;> exact ⟨rfl, rfl⟩
    have h := keeps_gives_n (n := n) K.T K.kg D.good (b := .tup xs) (c := .tup (lensOf rws)) (d := v) (by simp [PV.fz, zx]) (by simp [PV.fz, zl]) hv.1 pins plen hv.2 a'.wf
    refine ⟨S', ?_, a'⟩
    simp only [eB9, den_call, denL_cons, denL_nil, den_varS, den_var0, Res.bind_ok, down_okC, if_true, down_call]
    simp only [den_call, denL_cons, denL_nil, den_varS, den_var0, Res.bind_ok, down_okC, if_true, down_call] at e
    simp only [e, Res.bind_ok, if_true]
    exact h
  have q10 : ∀ {R' : Store} {b' : Nat} {S : Store}, At R' b' S → den (sxN P (n + 10)).down eB10 [some (.loc 0), some (promV (.str "prom") i es ds gs rs), some (.tup xs), some (.tup rws), some (.tup (lensOf rws)), some bad, some non, some odd, some far, some cl, some (.loc (R.length + 1)), none] S = .exc ⟨"NoClaims", []⟩ S := fun AK => by
    have h := reach_of_c (n := n + 2) (z := .int 0) K.T.p.C.F K.T.p.C.c K.ro (x := cl) (y := cl) cz cz (.inl cp) AK.wf
    simp [eB10, h]
  have q11 : ∀ {R' : Store} {b' : Nat} {S : Store}, At R' b' S → den (sxN P (n + 10)).down eB11 [some (.loc 0), some (promV (.str "prom") i es ds gs rs), some (.tup xs), some (.tup rws), some (.tup (lensOf rws)), some bad, some non, some odd, some far, some cl, some (.loc (R.length + 1)), none] S = .exc ⟨"NoClaims", []⟩ S := fun AK => by
    have h := reach_of_c (n := n + 2) (z := .int 0) K.T.p.C.F K.T.p.C.c K.ro (x := .tup []) (y := cl) rfl cz (.inr cp) AK.wf
    simp [eB11, h]
  have q12 : ∀ {R' : Store} {b' : Nat} {S : Store}, At R' b' S → b' < 2 ^ 60 → ∃ S', den (sxN P (n + 10)).down eB12 [some (.loc 0), some (promV (.str "prom") i es ds gs rs), some (.tup xs), some (.tup rws), some (.tup (lensOf rws)), some bad, some non, some odd, some far, some cl, some (.loc (R.length + 1)), none] S = .exc ⟨"NoFlag", []⟩ S' ∧ At R' (b' + 1) S' := fun AK hb' => by
    obtain ⟨S', v, e, a', m⟩ := any_d (n := n + 6) K (ρ := [some (.loc 0), some (promV (.str "prom") i es ds gs rs), some (.tup xs), some (.tup rws), some (.tup (lensOf rws)), some bad, some non, some odd, some far, some cl, some (.loc (R.length + 1)), none]) (e := eFlag) (xs := [.int 0, .int 1, .non, .str "?"]) (fun _ => rfl) (fun _ => rfl) AK hb' (by simp) (by simp) rfl
    have hv : isinstL P.sub v S' [.bt .bool] = some false := by
      simp only [List.mem_cons, List.not_mem_nil, or_false] at m
      rcases m with rfl | rfl | rfl | rfl <;> rfl
    have h := reach_of_f (n := n + 2) K.T.p.C.F K.T.p.C.c K.ro (x := .tup []) (y := .tup []) (z := v) rfl rfl rfl rfl hv a'.wf
    refine ⟨S', ?_, a'⟩
    simp only [eB12, den_call, den_tup, denL_cons, denL_nil, den_varS, den_var0, Res.bind_ok, down_okC, if_true, down_call]
    simp only [den_call, denL_cons, denL_nil, den_varS, den_var0, Res.bind_ok, down_okC, if_true, down_call] at e
    simp only [e, Res.bind_ok, if_true]
    exact h
  have t1 := said_p (n := n + 9) K (q1 a5) a5 a5
  have b1 := a5.more (o := .lst [.str "promise"]) rfl
  have hl5 := a5.len
  have t2 := said_i (n := n + 9) K (q2 b1) b1 b1
  obtain ⟨U2, u2, b2⟩ := app_step (ρ := [some (.loc 0), some (promV (.str "prom") i es ds gs rs), some (.tup xs), some (.tup rws), some (.tup (lensOf rws)), some bad, some non, some odd, some far, some cl, some (.loc (R.length + 1)), none]) (ws := [.str "promise"]) (fun _ => rfl) b1 t2 b1 (by simp) rfl rfl
  simp only [List.cons_append, List.nil_append] at b2
  have t3 := said_l (n := n + 9) K (q3 b2) b2 b2
  obtain ⟨U3, u3, b3⟩ := app_step (ρ := [some (.loc 0), some (promV (.str "prom") i es ds gs rs), some (.tup xs), some (.tup rws), some (.tup (lensOf rws)), some bad, some non, some odd, some far, some cl, some (.loc (R.length + 1)), none]) (ws := [.str "promise", .str "ins"]) (fun _ => rfl) b2 t3 b2 (by simp) rfl rfl
  simp only [List.cons_append, List.nil_append] at b3
  have t4 := said_p (n := n + 9) K (q4 b3) b3 b3
  obtain ⟨U4, u4, b4⟩ := app_step (ρ := [some (.loc 0), some (promV (.str "prom") i es ds gs rs), some (.tup xs), some (.tup rws), some (.tup (lensOf rws)), some bad, some non, some odd, some far, some cl, some (.loc (R.length + 1)), none]) (ws := [.str "promise", .str "ins", .str "lengths"]) (fun _ => rfl) b3 t4 b3 (by simp) rfl rfl
  simp only [List.cons_append, List.nil_append] at b4
  have t5 := said_i (n := n + 9) K (q5 b4) b4 b4
  obtain ⟨U5, u5, b5⟩ := app_step (ρ := [some (.loc 0), some (promV (.str "prom") i es ds gs rs), some (.tup xs), some (.tup rws), some (.tup (lensOf rws)), some bad, some non, some odd, some far, some cl, some (.loc (R.length + 1)), none]) (ws := [.str "promise", .str "ins", .str "lengths", .str "promise"]) (fun _ => rfl) b4 t5 b4 (by simp) rfl rfl
  simp only [List.cons_append, List.nil_append] at b5
  have t6 := said_r (n := n + 9) K (q6 b5) b5 b5
  obtain ⟨U6, u6, b6⟩ := app_step (ρ := [some (.loc 0), some (promV (.str "prom") i es ds gs rs), some (.tup xs), some (.tup rws), some (.tup (lensOf rws)), some bad, some non, some odd, some far, some cl, some (.loc (R.length + 1)), none]) (ws := [.str "promise", .str "ins", .str "lengths", .str "promise", .str "ins"]) (fun _ => rfl) b5 t6 b5 (by simp) rfl rfl
  simp only [List.cons_append, List.nil_append] at b6
  have t7 := said_p (n := n + 9) K (q7 b6) b6 b6
  obtain ⟨U7, u7, b7⟩ := app_step (ρ := [some (.loc 0), some (promV (.str "prom") i es ds gs rs), some (.tup xs), some (.tup rws), some (.tup (lensOf rws)), some bad, some non, some odd, some far, some cl, some (.loc (R.length + 1)), none]) (ws := [.str "promise", .str "ins", .str "lengths", .str "promise", .str "ins", .str "rows"]) (fun _ => rfl) b6 t7 b6 (by simp) rfl rfl
  simp only [List.cons_append, List.nil_append] at b7
  have t8 := said_l (n := n + 9) K (q8 b7) b7 b7
  obtain ⟨U8, u8, b8⟩ := app_step (ρ := [some (.loc 0), some (promV (.str "prom") i es ds gs rs), some (.tup xs), some (.tup rws), some (.tup (lensOf rws)), some bad, some non, some odd, some far, some cl, some (.loc (R.length + 1)), none]) (ws := [.str "promise", .str "ins", .str "lengths", .str "promise", .str "ins", .str "rows", .str "promise"]) (fun _ => rfl) b7 t8 b7 (by simp) rfl rfl
  simp only [List.cons_append, List.nil_append] at b8
  obtain ⟨T9, r9, d9⟩ := q9 b8 (by omega)
  have t9 := said_n (n := n + 9) K r9 b8 d9
  obtain ⟨U9, u9, b9⟩ := app_step (ρ := [some (.loc 0), some (promV (.str "prom") i es ds gs rs), some (.tup xs), some (.tup rws), some (.tup (lensOf rws)), some bad, some non, some odd, some far, some cl, some (.loc (R.length + 1)), none]) (ws := [.str "promise", .str "ins", .str "lengths", .str "promise", .str "ins", .str "rows", .str "promise", .str "lengths"]) (fun _ => rfl) b8 t9 d9 (by simp) rfl rfl
  simp only [List.cons_append, List.nil_append] at b9
  have t10 := said_c (n := n + 9) K (q10 b9) b9 b9
  obtain ⟨U10, u10, b10⟩ := app_step (ρ := [some (.loc 0), some (promV (.str "prom") i es ds gs rs), some (.tup xs), some (.tup rws), some (.tup (lensOf rws)), some bad, some non, some odd, some far, some cl, some (.loc (R.length + 1)), none]) (ws := [.str "promise", .str "ins", .str "lengths", .str "promise", .str "ins", .str "rows", .str "promise", .str "lengths", .str "integer"]) (fun _ => rfl) b9 t10 b9 (by simp) rfl rfl
  simp only [List.cons_append, List.nil_append] at b10
  have t11 := said_c (n := n + 9) K (q11 b10) b10 b10
  obtain ⟨U11, u11, b11⟩ := app_step (ρ := [some (.loc 0), some (promV (.str "prom") i es ds gs rs), some (.tup xs), some (.tup rws), some (.tup (lensOf rws)), some bad, some non, some odd, some far, some cl, some (.loc (R.length + 1)), none]) (ws := [.str "promise", .str "ins", .str "lengths", .str "promise", .str "ins", .str "rows", .str "promise", .str "lengths", .str "integer", .str "claims"]) (fun _ => rfl) b10 t11 b10 (by simp) rfl rfl
  simp only [List.cons_append, List.nil_append] at b11
  obtain ⟨T12, r12, d12⟩ := q12 b11 (by omega)
  have t12 := said_f (n := n + 9) K r12 b11 d12
  obtain ⟨U12, u12, b12⟩ := app_step (ρ := [some (.loc 0), some (promV (.str "prom") i es ds gs rs), some (.tup xs), some (.tup rws), some (.tup (lensOf rws)), some bad, some non, some odd, some far, some cl, some (.loc (R.length + 1)), none]) (ws := [.str "promise", .str "ins", .str "lengths", .str "promise", .str "ins", .str "rows", .str "promise", .str "lengths", .str "integer", .str "claims", .str "claims"]) (fun _ => rfl) b11 t12 d12 (by simp) rfl rfl
  simp only [List.cons_append, List.nil_append] at b12
  refine ⟨U12, [.str "promise", .str "ins", .str "lengths", .str "promise", .str "ins", .str "rows", .str "promise", .str "lengths", .str "integer", .str "claims", .str "claims", .str "flag"], ?_, b12.mono (by omega)⟩
  have hcmp : cmpop .eq (.loc (R.length + 1)) (.lst [.str "promise", .str "ins", .str "lengths", .str "promise", .str "ins", .str "rows", .str "promise", .str "lengths", .str "integer", .str "claims", .str "claims", .str "flag"]) U12 = some true := by
    show eqop _ _ _ = _
    have hd : deref U12 (.loc (R.length + 1)) = .lst [.str "promise", .str "ins", .str "lengths", .str "promise", .str "ins", .str "rows", .str "promise", .str "lengths", .str "integer", .str "claims", .str "claims", .str "flag"] := by
      simp only [deref, b12.get]
    unfold eqop
    rw [hd]
    show (if (eqOk _ && eqOk (.lst _)) = true then some (PV.eqv (.lst _) (.lst _)) else none) = _
    decide +kernel
  have hadd := add_lst (S := U12) (xs := [.str "promise", .str "ins", .str "lengths", .str "promise", .str "ins", .str "rows", .str "promise", .str "lengths", .str "integer"]) (ys := [.str "claims", .str "claims", .str "flag"]) (by simp)
  simp only [List.cons_append, List.nil_append] at hadd
  unfold bRefused
  rw [execL_cons, exec_asg, hbl, Res.st_ok, asgT_name, SRes.andThen_next]
  simp only [List.set_cons_succ, List.set_cons_zero]
  rw [execL_cons, exec_asg, e1, Res.st_ok, asgT_name, SRes.andThen_next]
  simp only [List.set_cons_succ, List.set_cons_zero]
  rw [execL_cons, exec_asg, e2, Res.st_ok, asgT_name, SRes.andThen_next]
  simp only [List.set_cons_succ, List.set_cons_zero]
  rw [execL_cons, exec_asg, e3, Res.st_ok, asgT_name, SRes.andThen_next]
  simp only [List.set_cons_succ, List.set_cons_zero]
  rw [execL_cons, exec_asg, e4, Res.st_ok, asgT_name, SRes.andThen_next]
  simp only [List.set_cons_succ, List.set_cons_zero]
  rw [execL_cons, exec_asg, e5, Res.st_ok, asgT_name, SRes.andThen_next]
  simp only [List.set_cons_succ, List.set_cons_zero]
  rw [execL_cons, exec_asg, den_lst, denL_cons, t1, Res.bind_ok, denL_nil, Res.bind_ok, Res.bind_ok]
  simp only [laid, Res.st_ok, asgT_name, SRes.andThen_next, List.set_cons_succ, List.set_cons_zero, hl5]
  rw [execL_cons, u2, SRes.andThen_next, execL_cons, u3, SRes.andThen_next, execL_cons, u4, SRes.andThen_next, execL_cons, u5, SRes.andThen_next, execL_cons, u6, SRes.andThen_next, execL_cons, u7, SRes.andThen_next, execL_cons, u8, SRes.andThen_next, execL_cons, u9, SRes.andThen_next, execL_cons, u10, SRes.andThen_next, execL_cons, u11, SRes.andThen_next, execL_cons, u12, SRes.andThen_next]
  simp [eDue, eDue2, hadd, hcmp]
end
end CW
end

section
set_option Elab.async false
set_option linter.all false
set_option maxRecDepth 100000
set_option maxHeartbeats 1000000
/-! k14: the law, turn by turn. -/
namespace CW
open PySem
def tS1 : CW.S := (.asg (.name 3) (.call 28 (.cons (.var 1) .nil)))
def tS2 : CW.S := (.asg (.name 4) (.bi false .tuple1 (.cons (.comp false [17] (.bin .sub (.call 24 (.cons (.var 1) (.cons (.const (.int 12)) .nil))) (.const (.int 3))) (.name 17) (.range (.cons (.idx (.var 3) (.const (.int 1))) .nil)) .nil) .nil)))
def tS3 : CW.S := (.asg (.name 5) (.bi false .tuple1 (.cons (.comp false [14] (.bi false .tuple1 (.cons (.comp false [20] (.call 24 (.cons (.var 1) (.cons (.const (.int 9)) .nil))) (.name 20) (.range (.cons (.call 24 (.cons (.var 1) (.cons (.const (.int 4)) .nil))) .nil)) .nil) .nil)) (.name 14) (.seq (.idx (.var 3) (.const (.int 2)))) .nil) .nil)))
def tS4 : CW.S := (.asg (.tup (.cons (.name 11) (.cons (.name 12) .nil))) (.tup (.cons (.bi false .tuple1 (.cons (.comp false [14] (.bi false .len (.cons (.var 14) .nil)) (.name 14) (.seq (.var 5)) .nil) .nil)) (.cons (.bin .sub (.call 24 (.cons (.var 1) (.cons (.const (.int 21)) .nil))) (.const (.int 10))) .nil))))
def tS5 : CW.S := (.asg (.name 6) (.bi false .all (.cons (.comp false [18] (.cmp .ge (.call 30 (.cons (.var 18) (.cons (.var 4) (.cons (.var 11) (.cons (.const (.int 0)) .nil))))) (.const (.int 0))) (.name 18) (.seq (.idx (.var 3) (.const (.int 3)))) .nil) .nil)))
def tS6 : CW.S := (.asg (.name 7) (.const (.int 1)))
def tS7 : CW.S := (.for_ (.name 8) (.seq (.idx (.var 3) (.const (.int 5)))) (.cons (.asg (.name 7) (.bin .mul (.var 7) (.bin .add (.call 30 (.cons (.var 8) (.cons (.var 4) (.cons (.var 11) (.cons (.const (.int 0)) .nil))))) (.const (.int 1))))) .nil))
def tS8 : CW.S := (.iff (.bool false (.cons (.cmp .isNot (.call 9 (.cons (.var 3) .nil)) (.const (.bl true))) (.cons (.cmp .ne (.call 17 (.cons (.var 3) (.cons (.var 4) (.cons (.var 11) .nil)))) (.ite (.val (.var 6)) (.var 7) (.const .non))) .nil))) (.cons (.ret (.const (.bl false))) .nil) .nil)
def tS9 : CW.S := (.asg (.name 9) (.const (.bl true)))
def tS10 : CW.S := (.for_ (.tup (.cons (.name 13) (.cons (.name 14) .nil))) (.zip (.idx (.var 3) (.const (.int 2))) (.var 5)) (.cons (.iff (.bool true (.cons (.cmp .isNot (.var 13) (.const .non)) (.cons (.not (.val (.bi false .all (.cons (.comp false [20] (.chain .le .le (.idx (.var 13) (.const (.int 0))) (.var 20) (.idx (.var 13) (.const (.int 1)))) (.name 20) (.seq (.var 14)) .nil) .nil)))) .nil))) (.cons (.asg (.name 9) (.const (.bl false))) .nil) .nil) .nil))
def tS11 : CW.S := (.iff (.cmp .ne (.call 20 (.cons (.var 3) (.cons (.var 4) (.cons (.var 5) .nil)))) (.bool true (.cons (.var 6) (.cons (.var 9) .nil)))) (.cons (.ret (.const (.bl false))) .nil) .nil)
def tS12 : CW.S := (.asg (.name 10) (.bi false .all (.cons (.comp false [19] (.cmp .ge (.call 30 (.cons (.var 19) (.cons (.var 4) (.cons (.var 11) (.cons (.var 12) .nil))))) (.const (.int 0))) (.name 19) (.seq (.idx (.var 3) (.const (.int 4)))) .nil) .nil)))
def tS13 : CW.S := (.iff (.cmp .ne (.call 21 (.cons (.var 3) (.cons (.var 4) (.cons (.var 11) (.cons (.var 12) .nil))))) (.var 10)) (.cons (.ret (.const (.bl false))) .nil) .nil)
def tS14 : CW.S := (.par [15, 16] (.cons (.idx (.var 3) (.const (.int 5))) (.cons (.idx (.var 3) (.const (.int 3))) .nil)))
def tS15 : CW.S := (.iff (.cmp .ne (.call 22 (.cons (.var 15) (.cons (.var 16) (.cons (.const (.bl false)) .nil)))) (.var 15)) (.cons (.ret (.const (.bl false))) .nil) .nil)
def tS16 : CW.S := (.iff (.cmp .ne (.call 22 (.cons (.var 15) (.cons (.var 16) (.cons (.const (.bl true)) .nil)))) (.bin .add (.bin .add (.var 15) (.var 16)) (.tup (.cons (.tup (.cons (.const (.int 1)) (.cons (.tup .nil) .nil))) .nil)))) (.cons (.ret (.const (.bl false))) .nil) .nil)
def tS17 : CW.S := (.iff (.not (.val (.call 31 (.cons (.var 1) (.cons (.var 3) (.cons (.var 4) (.cons (.var 5) (.cons (.var 11) .nil)))))))) (.cons (.ret (.const (.bl false))) .nil) .nil)
def bTurn : Ss := (.cons tS1 (.cons tS2 (.cons tS3 (.cons tS4 (.cons tS5 (.cons tS6 (.cons tS7 (.cons tS8 (.cons tS9 (.cons tS10 (.cons tS11 (.cons tS12 (.cons tS13 (.cons tS14 (.cons tS15 (.cons tS16 (.cons tS17 .nil)))))))))))))))))
def bLast : Ss := (.cons (.asg (.name 3) (.tup (.cons (.const (.str "count")) (.cons (.const (.int 1)) (.cons (.tup .nil) (.cons (.tup (.cons (.tup (.cons (.const (.int 0)) (.cons (.tup (.cons (.tup (.cons (.const (.int 0)) (.cons (.const (.int 1)) .nil))) .nil)) .nil))) .nil)) (.cons (.tup .nil) (.cons (.tup (.cons (.tup (.cons (.const (.int 1)) (.cons (.tup (.cons (.tup (.cons (.const (.int 0)) (.cons (.const (.int 1)) .nil))) .nil)) .nil))) (.cons (.tup (.cons (.const (.int 3)) (.cons (.tup .nil) .nil))) .nil))) .nil)))))))) (.cons (.ret (.bool true (.cons (.cmp .eq (.call 17 (.cons (.var 3) (.cons (.tup (.cons (.const (.int 5)) .nil)) (.cons (.tup .nil) .nil)))) (.const (.int 28))) (.cons (.cmp .is_ (.call 17 (.cons (.var 3) (.cons (.tup (.cons (.neg (.const (.int 1))) .nil)) (.cons (.tup .nil) .nil)))) (.const .non)) .nil)))) .nil))
def bLaw : Ss := (.cons (.asg (.name 1) (.call 23 (.cons (.var 0) .nil))) (.cons (.for_ (.name 2) (.range (.cons (.const (.int 8)) .nil)) bTurn) bLast))
structure TurnF (i : Int) (es ds gs rs xs rws : List PV) (o : Int) : Prop where
  D : PromD i es ds gs rs
  hx : ∀ x ∈ xs, SmI x
  hr : ∀ r ∈ rws, rowSm r
  lx : (xs.length : Int) = i
  lr : rws.length = es.length
  ho : o.natAbs < 2 ^ 64
section
variable {P : Prog} {n : Nat} {R S S' : Store} {b b' : Nat} {i : Int} {es ds gs rs xs rws : List PV} {o : Int} {s0 v2 v3 v4 v5 v6 v7 v8 v9 v10 v11 v12 v13 v14 v15 v16 v17 v18 v19 v20 : Option PV}
theorem t123 (K : K14P P) (a : At R b S) (hb : b + 2000 < 2 ^ 60) : ∃ S' i es ds gs rs xs rws o, (∀ rest, execL (sxN P (n + 11)) (.cons tS1 (.cons tS2 (.cons tS3 (.cons tS4 rest)))) [s0, some (.loc 0), v2, v3, v4, v5, v6, v7, v8, v9, v10, v11, v12, v13, v14, v15, v16, v17, v18, v19, v20] S = execL (sxN P (n + 11)) rest [s0, some (.loc 0), v2, some (promV (.str "prom") i es ds gs rs), some (.tup xs), some (.tup rws), v6, v7, v8, v9, v10, some (.tup (lensOf rws)), some (.int o), v13, v14, v15, v16, v17, v18, v19, v20] S') ∧ At R (b + 150) S' ∧ TurnF i es ds gs rs xs rws o := by
  obtain ⟨S1, i, es, ds, gs, rs, e1, a1, D⟩ := promised_ok (n := n + 7) K.L K.pr a (by omega)
  have i0 := D.lo
  have i1 := D.hi
  have el := D.el
  have hri := rangeOf1 i0 (by omega)
  obtain ⟨xs, S2, e2, lx, qx, a2⟩ := comp_eff (sx := (sxN P (n + 11))) (j := 17) (elt := (.bin .sub (.call 24 (.cons (.var 1) (.cons (.const (.int 12)) .nil))) (.const (.int 3)))) (it := (.range (.cons (.idx (.var 3) (.const (.int 1))) .nil))) (ρ := [s0, some (.loc 0), v2, some (promV (.str "prom") i es ds gs rs), v4, v5, v6, v7, v8, v9, v10, v11, v12, v13, v14, v15, v16, v17, v18, v19, v20]) (S := S1) (S1 := S1) (c := 1) (Q := SmI) (xs := rangeL 0 i) (by simp [hri]) a1 (fun k x S hx hk a => by
    rw [rangeL_len] at hk
    obtain ⟨S', r, e, a', r0, r1⟩ := draw_at (n := n + 10) K.L.D a (by omega) (m := 12) (by decide) (by decide)
    refine ⟨.int (r - 3), S', ?_, ⟨_, rfl, by omega⟩, a'.mono (by omega)⟩
    simp only [List.set_cons_succ, List.set_cons_zero, den_bin, den_call, denL_cons, denL_nil, den_varS, den_var0, den_const, Res.bind_ok, sxN_okC, if_true, sxN_call, e, sub_int, Res.of_some])
  rw [rangeL_len] at lx a2
  obtain ⟨rws, S3, e3, lr, qr, a3⟩ := comp_eff (sx := (sxN P (n + 11))) (j := 14) (elt := (.bi false .tuple1 (.cons (.comp false [20] (.call 24 (.cons (.var 1) (.cons (.const (.int 9)) .nil))) (.name 20) (.range (.cons (.call 24 (.cons (.var 1) (.cons (.const (.int 4)) .nil))) .nil)) .nil) .nil))) (it := (.seq (.idx (.var 3) (.const (.int 2))))) (ρ := [s0, some (.loc 0), v2, some (promV (.str "prom") i es ds gs rs), some (.tup xs), v5, v6, v7, v8, v9, v10, v11, v12, v13, v14, v15, v16, v17, v18, v19, v20]) (S := S2) (S1 := S2) (c := 5) (Q := rowSm) (xs := es) (by simp [walkOf]) a2 (fun k x S hx hk a => by
    obtain ⟨T1, r, e, a', r0, r1⟩ := draw_at (n := n + 10) K.L.D a (by omega) (m := 4) (by decide) (by decide)
    have hrr := rangeOf1 r0 (by omega)
    obtain ⟨cs, T2, f2, lc, qc, a''⟩ := comp_eff (sx := (sxN P (n + 11))) (j := 20) (elt := (.call 24 (.cons (.var 1) (.cons (.const (.int 9)) .nil)))) (it := (.range (.cons (.call 24 (.cons (.var 1) (.cons (.const (.int 4)) .nil))) .nil))) (ρ := [s0, some (.loc 0), v2, some (promV (.str "prom") i es ds gs rs), some (.tup xs), v5, v6, v7, v8, v9, v10, v11, v12, v13, some x, v15, v16, v17, v18, v19, v20]) (S := S) (S1 := T1) (c := 1) (Q := SmI) (xs := rangeL 0 r) (by simp [e, hrr]) a' (fun k y S hy hk a => by
      rw [rangeL_len] at hk
      obtain ⟨S', r, e, a', r0, r1⟩ := draw_at (n := n + 10) K.L.D a (by omega) (m := 9) (by decide) (by decide)
      refine ⟨.int r, S', ?_, ⟨_, rfl, by omega⟩, a'.mono (by omega)⟩
      simp only [List.set_cons_succ, List.set_cons_zero, den_call, denL_cons, denL_nil, den_varS, den_var0, den_const, Res.bind_ok, sxN_okC, if_true, sxN_call, e])
    rw [rangeL_len] at lc a''
    refine ⟨.tup cs, T2, ?_, ⟨cs, rfl, by omega, qc⟩, a''.mono (by omega)⟩
    simp only [List.set_cons_succ, List.set_cons_zero, den_bi, denL_cons, denL_nil, f2, Res.bind_ok, bi_tuple_lst, Res.of_some, laid_false])
  obtain ⟨S4, o, e4, a4, o0, o1⟩ := draw_at (n := n + 10) K.L.D a3 (by omega) (m := 21) (by decide) (by decide)
  have hlen : den (sxN P (n + 11)) (.comp false [14] (.bi false .len (.cons (.var 14) .nil)) (.name 14) (.seq (.var 5)) .nil) [s0, some (.loc 0), v2, some (promV (.str "prom") i es ds gs rs), some (.tup xs), some (.tup rws), v6, v7, v8, v9, v10, v11, v12, v13, v14, v15, v16, v17, v18, v19, v20] S3 = .ok (.lst (lensOf rws)) S3 := by
    refine den_comp_map (xs := rws) (by simp [walkOf]) fun x hx => ⟨_, rfl, ?_⟩
    obtain ⟨cs, rfl, _⟩ := qr x hx
    simp only [wipe, List.set_cons_succ, List.set_cons_zero, den_bi, denL_cons, denL_nil, den_varS, den_var0, Res.bind_ok, bi_len_tup, Res.of_some, laid_false, itemsOf]
  refine ⟨S4, i, es, ds, gs, rs, xs, rws, o - 10, fun rest => ?_, a4.mono (by omega), ⟨D, qx, qr, by omega, lr, by omega⟩⟩
  simp only [tS1, tS2, tS3, tS4, exec_asg, den_call, denL_cons, denL_nil, den_varS, den_var0, Res.bind_ok, sxN_okC, if_true, sxN_call, e1, Res.st_ok, asgT_name, List.set_cons_succ, List.set_cons_zero, SRes.andThen_next, execL_cons, execL_nil, den_bi, e2, bi_tuple_lst, Res.of_some, laid_false, e3, den_tup, hlen, den_bin, den_const, e4, sub_int, asgT_tup, asgTs_cons, asgTs_nil]
theorem w0_ok (K : K14P P) (F : TurnF i es ds gs rs xs rws o) (w : Wf S) {x : PV} (g : GoodF (vars i es.length) x) : callN P (n + 11) 30 [x, .tup xs, .tup (lensOf rws), .int 0] S = .ok (.int (fVal (vals xs (lensOf rws)) x)) S := by
  obtain ⟨l1, l2, l3⟩ := lens_sm F.hr
  have := F.D.hi
  exact worth_ok (n := n + 10) K.wo (vals_at F.hx l1 F.lx (l3.trans F.lr) (by omega)) g w
theorem wO_ok (K : K14P P) (F : TurnF i es ds gs rs xs rws o) (w : Wf S) {x : PV} (g : GoodF (vars i es.length ++ [31]) x) : callN P (n + 11) 30 [x, .tup xs, .tup (lensOf rws), .int o] S = .ok (.int (fVal (valsO xs (lensOf rws) o) x)) S := by
  obtain ⟨l1, l2, l3⟩ := lens_sm F.hr
  have := F.D.hi
  exact worth_ok (n := n + 10) K.wo (valsO_at F.hx l1 F.lx (l3.trans F.lr) (by omega) F.ho) g w
theorem t5 (K : K14P P) (F : TurnF i es ds gs rs xs rws o) (w : Wf S) : exec (sxN P (n + 11)) tS5 [s0, some (.loc 0), v2, some (promV (.str "prom") i es ds gs rs), some (.tup xs), some (.tup rws), v6, v7, v8, v9, v10, some (.tup (lensOf rws)), some (.int o), v13, v14, v15, v16, v17, v18, v19, v20] S = .next [s0, some (.loc 0), v2, some (promV (.str "prom") i es ds gs rs), some (.tup xs), some (.tup rws), some (.bl (ds.all fun x => decide (0 ≤ fVal (vals xs (lensOf rws)) x))), v7, v8, v9, v10, some (.tup (lensOf rws)), some (.int o), v13, v14, v15, v16, v17, v18, v19, v20] S := by
  have hc : den (sxN P (n + 11)) (.comp false [18] (.cmp .ge (.call 30 (.cons (.var 18) (.cons (.var 4) (.cons (.var 11) (.cons (.const (.int 0)) .nil))))) (.const (.int 0))) (.name 18) (.seq (.idx (.var 3) (.const (.int 3)))) .nil) [s0, some (.loc 0), v2, some (promV (.str "prom") i es ds gs rs), some (.tup xs), some (.tup rws), v6, v7, v8, v9, v10, some (.tup (lensOf rws)), some (.int o), v13, v14, v15, v16, v17, v18, v19, v20] S = .ok (.lst (ds.map fun x => .bl (decide (0 ≤ fVal (vals xs (lensOf rws)) x)))) S := by
    refine den_compb (xs := ds) (p := fun x => decide (0 ≤ fVal (vals xs (lensOf rws)) x)) (by simp [walkOf]) fun x hx => ⟨_, rfl, ?_⟩
    have h := w0_ok (n := n) K F w (F.D.df x hx)
    simp only [wipe, List.set_cons_succ, List.set_cons_zero, den_cmp, den_call, denL_cons, denL_nil, den_varS, den_var0, den_const, Res.bind_ok, sxN_okC, if_true, sxN_call, h, cmp_ge, Option.map_some, Res.of_some]
  simp only [tS5, exec_asg, den_bi, denL_cons, denL_nil, hc, Res.bind_ok, bi_all_map, Res.of_some, laid_false, Res.st_ok, asgT_name, List.set_cons_succ, List.set_cons_zero]
theorem prod_loop' (K : K14P P) (F : TurnF i es ds gs rs xs rws o) (w : Wf S) : ∀ {qs : List PV} {acc : Int} {m : Nat} {v8 : Option PV}, (∀ x ∈ qs, GoodF (vars i es.length) x) → acc.natAbs < 2 ^ (101 * m) → m + qs.length ≤ 100 → ∃ a', forL (asgT (sxN P (n + 11)) (.name 8)) (execL (sxN P (n + 11)) (.cons (.asg (.name 7) (.bin .mul (.var 7) (.bin .add (.call 30 (.cons (.var 8) (.cons (.var 4) (.cons (.var 11) (.cons (.const (.int 0)) .nil))))) (.const (.int 1))))) .nil)) qs [s0, some (.loc 0), v2, some (promV (.str "prom") i es ds gs rs), some (.tup xs), some (.tup rws), some (.bl (ds.all fun x => decide (0 ≤ fVal (vals xs (lensOf rws)) x))), some (.int acc), v8, v9, v10, some (.tup (lensOf rws)), some (.int o), v13, v14, v15, v16, v17, v18, v19, v20] S = .next [s0, some (.loc 0), v2, some (promV (.str "prom") i es ds gs rs), some (.tup xs), some (.tup rws), some (.bl (ds.all fun x => decide (0 ≤ fVal (vals xs (lensOf rws)) x))), some (.int (prodV (vals xs (lensOf rws)) acc qs)), a', v9, v10, some (.tup (lensOf rws)), some (.int o), v13, v14, v15, v16, v17, v18, v19, v20] S
  | [], acc, m, v8, _, _, _ => ⟨v8, rfl⟩
  | x :: qs, acc, m, v8, hf, hb, hl => by
    simp only [List.length_cons] at hl
    obtain ⟨l1, l2, l3⟩ := lens_sm F.hr
    have hi := F.D.hi
    have hel := F.D.el
    have gx := hf x (List.mem_cons_self ..)
    have V : Vals (vals xs (lensOf rws)) i es.length [] := vals_ok F.hx l1 F.lx (by rw [l3, F.lr]) (by omega)
    have hb2 := fVal_bound V (x := x) (gx.form fun v hv => by have := vars_mem hv; omega) (gx.over fun v hv => .inl (vars_mem hv))
    have hmul := mul_of (S := S) (101 * m) 101 hb hb2 (by omega)
    have hb3 : (acc * (fVal (vals xs (lensOf rws)) x + 1)).natAbs < 2 ^ (101 * (m + 1)) := by
      rw [Int.natAbs_mul, Nat.mul_add, Nat.mul_one, Nat.pow_add]
      exact Nat.mul_lt_mul'' hb hb2
    have h := w0_ok (n := n) K F w gx
    obtain ⟨a', ih⟩ := prod_loop' K F w (qs := qs) (acc := acc * (fVal (vals xs (lensOf rws)) x + 1)) (m := m + 1) (v8 := some x) (fun y hy => hf y (List.mem_cons_of_mem _ hy)) hb3 (by omega)
    refine ⟨a', ?_⟩
    show _ = SRes.next [s0, some (.loc 0), v2, some (promV (.str "prom") i es ds gs rs), some (.tup xs), some (.tup rws), some (.bl (ds.all fun x => decide (0 ≤ fVal (vals xs (lensOf rws)) x))), some (.int (prodV (vals xs (lensOf rws)) (acc * (fVal (vals xs (lensOf rws)) x + 1)) qs)), a', v9, v10, some (.tup (lensOf rws)), some (.int o), v13, v14, v15, v16, v17, v18, v19, v20] S
    rw [← ih]
    simp only [forL, asgT_name, SRes.andThen_next, List.set_cons_succ, List.set_cons_zero, execL_cons, execL_nil, exec_asg, den_bin, den_varS, den_var0, Res.bind_ok, den_call, denL_cons, denL_nil, sxN_okC, if_true, sxN_call, h, den_const, add_int, Res.of_some, hmul, Res.st_ok]
theorem t67 (K : K14P P) (F : TurnF i es ds gs rs xs rws o) (w : Wf S) : ∃ a', ∀ rest, execL (sxN P (n + 11)) (.cons tS6 (.cons tS7 rest)) [s0, some (.loc 0), v2, some (promV (.str "prom") i es ds gs rs), some (.tup xs), some (.tup rws), some (.bl (ds.all fun x => decide (0 ≤ fVal (vals xs (lensOf rws)) x))), v7, v8, v9, v10, some (.tup (lensOf rws)), some (.int o), v13, v14, v15, v16, v17, v18, v19, v20] S = execL (sxN P (n + 11)) rest [s0, some (.loc 0), v2, some (promV (.str "prom") i es ds gs rs), some (.tup xs), some (.tup rws), some (.bl (ds.all fun x => decide (0 ≤ fVal (vals xs (lensOf rws)) x))), some (.int (prodV (vals xs (lensOf rws)) 1 rs)), a', v9, v10, some (.tup (lensOf rws)), some (.int o), v13, v14, v15, v16, v17, v18, v19, v20] S := by
  have hl := F.D.rl
  obtain ⟨a', e⟩ := prod_loop' (n := n) (s0 := s0) (v2 := v2) (v9 := v9) (v10 := v10) (v13 := v13) (v14 := v14) (v15 := v15) (v16 := v16) (v17 := v17) (v18 := v18) (v19 := v19) (v20 := v20) K F w (qs := rs) (acc := 1) (m := 1) (v8 := v8) F.D.rf (by decide) (by omega)
  refine ⟨a', fun rest => ?_⟩
  simp only [tS6, tS7, exec_asg, den_const, Res.st_ok, asgT_name, List.set_cons_succ, List.set_cons_zero, SRes.andThen_next, execL_cons, execL_nil, exec_for, denI_seq, den_idx, den_varS, den_var0, Res.bind_ok, ix_tup5, Res.of_some, walkOf, e]
theorem any_neg {f : PV → Int} {l : List PV} : (l.any fun x => decide (f x < 0)) = !(l.all fun x => decide (0 ≤ f x)) := by
  induction l with
  | nil => rfl
  | cons x l ih =>
    rw [List.any_cons, List.all_cons, ih, Bool.not_and]
    congr 1
    by_cases h : f x < 0
    · have : ¬ 0 ≤ f x := by omega
      simp [h]
    · have : 0 ≤ f x := by omega
      simp [h, this]
@[simp] theorem cmp_isNot_tt : cmpop .isNot (.bl true) (.bl true) S = some false := rfl
theorem ne_int {k : Int} : cmpop .ne (.int k) (.int k) S = some false := by simp
theorem ne_non : cmpop .ne .non .non S = some false := rfl
theorem ne_bl {c : Bool} : cmpop .ne (.bl c) (.bl c) S = some false := by cases c <;> rfl
theorem t8 (K : K14P P) (F : TurnF i es ds gs rs xs rws o) (w : Wf S) : exec (sxN P (n + 11)) tS8 [s0, some (.loc 0), v2, some (promV (.str "prom") i es ds gs rs), some (.tup xs), some (.tup rws), some (.bl (ds.all fun x => decide (0 ≤ fVal (vals xs (lensOf rws)) x))), some (.int (prodV (vals xs (lensOf rws)) 1 rs)), v8, v9, v10, some (.tup (lensOf rws)), some (.int o), v13, v14, v15, v16, v17, v18, v19, v20] S = .next [s0, some (.loc 0), v2, some (promV (.str "prom") i es ds gs rs), some (.tup xs), some (.tup rws), some (.bl (ds.all fun x => decide (0 ≤ fVal (vals xs (lensOf rws)) x))), some (.int (prodV (vals xs (lensOf rws)) 1 rs)), v8, v9, v10, some (.tup (lensOf rws)), some (.int o), v13, v14, v15, v16, v17, v18, v19, v20] S := by
  obtain ⟨l1, l2, l3⟩ := lens_sm F.hr
  have e1 := is_promise_ok' (n := n + 5) K.T.p F.D.good.fz F.D.good.short w
  rw [F.D.good.ok] at e1
  have e2 := steps_told_ok (n := n + 3) K.T K.st F.D.good F.hx l1 l2 F.lx (l3.trans F.lr) w
  unfold fSteps at e2
  rw [any_neg] at e2
  cases hg : ds.all fun x => decide (0 ≤ fVal (vals xs (lensOf rws)) x) with
  | true =>
    rw [hg] at e2
    simp only [Bool.not_true, Bool.false_eq_true, if_false] at e2
    simp [tS8, e1, e2]
  | false =>
    rw [hg] at e2
    simp only [Bool.not_false, if_true] at e2
    simp [tS8, e1, e2, ne_non]
theorem cells_ok {e : PV} {cs : List PV} (he : EntD e) (hc : ∀ c ∈ cs, SmI c) {sx : Sx} {ρ : Env} (h13 : ∀ x S, den sx (.var 13) (wipe ρ [20] |>.set 20 (some x)) S = .ok e S) (h20 : ∀ x S, den sx (.var 20) (wipe ρ [20] |>.set 20 (some x)) S = .ok x S) (h14 : den sx (.var 14) ρ S = .ok (.tup cs) S) (hn : e ≠ .non) : den sx (.bi false .all (.cons (.comp false [20] (.chain .le .le (.idx (.var 13) (.const (.int 0))) (.var 20) (.idx (.var 13) (.const (.int 1)))) (.name 20) (.seq (.var 14)) .nil) .nil)) ρ S = .ok (.bl ((cs.map (fCell e)).all id)) S := by
  have h : den sx (.comp false [20] (.chain .le .le (.idx (.var 13) (.const (.int 0))) (.var 20) (.idx (.var 13) (.const (.int 1)))) (.name 20) (.seq (.var 14)) .nil) ρ S = .ok (.lst (cs.map fun x => .bl (fCell e x))) S := by
    refine den_compb (xs := cs) (p := fCell e) (by simp [walkOf, h14]) fun x hx => ⟨_, rfl, ?_⟩
    obtain ⟨k, rfl, _⟩ := hc x hx
    rcases he with rfl | ⟨a, b, rfl, _⟩
    · exact absurd rfl hn
    · by_cases hk : a ≤ k
      · simp only [den_chain, den_idx, h13, h20, den_const, Res.bind_ok, ix_tup0, ix_tup1, Res.of_some, cmp_le, hk, decide_true, Option.map_some, fCell, Bool.true_and]
      · simp only [den_chain, den_idx, h13, h20, den_const, Res.bind_ok, ix_tup0, ix_tup1, Res.of_some, cmp_le, hk, decide_false, Option.map_some, fCell, Bool.false_and]
  simp only [den_bi, denL_cons, denL_nil, h, Res.bind_ok, bi_all_map, Res.of_some, laid_false, List.all_map]
  rfl
theorem inside_loop {g p7 : PV} {sx : Sx} : ∀ {es rws : List PV} {acc : Bool} {v13 v14 : Option PV}, (∀ e ∈ es, EntD e) → (∀ r ∈ rws, rowSm r) → ∃ c d, forL (asgT sx (.tup (.cons (.name 13) (.cons (.name 14) .nil)))) (execL sx (.cons (.iff (.bool true (.cons (.cmp .isNot (.var 13) (.const .non)) (.cons (.not (.val (.bi false .all (.cons (.comp false [20] (.chain .le .le (.idx (.var 13) (.const (.int 0))) (.var 20) (.idx (.var 13) (.const (.int 1)))) (.name 20) (.seq (.var 14)) .nil) .nil)))) .nil))) (.cons (.asg (.name 9) (.const (.bl false))) .nil) .nil) .nil)) (zipL es rws) [s0, some (.loc 0), v2, some g, v4, some p7, v6, v7, v8, some (.bl acc), v10, v11, v12, v13, v14, v15, v16, v17, v18, v19, v20] S = .next [s0, some (.loc 0), v2, some g, v4, some p7, v6, v7, v8, some (.bl (acc && inside es rws)), v10, v11, v12, c, d, v15, v16, v17, v18, v19, v20] S
  | [], rws, acc, v13, v14, _, _ => ⟨v13, v14, by simp [zipL, forL, inside]⟩
  | e :: es, [], acc, v13, v14, _, _ => ⟨v13, v14, by simp [zipL, forL, inside]⟩
  | e :: es, r :: rws, acc, v13, v14, he, hr => by
    obtain ⟨cs, rfl, _, hc⟩ := hr r (List.mem_cons_self ..)
    have he1 := he e (List.mem_cons_self ..)
    obtain ⟨c, d, ih⟩ := inside_loop (sx := sx) (g := g) (p7 := p7) (es := es) (rws := rws) (acc := acc && (cs.map (fCell e)).all id) (v13 := some e) (v14 := some (.tup cs)) (fun x hx => he x (List.mem_cons_of_mem _ hx)) (fun x hx => hr x (List.mem_cons_of_mem _ hx))
    refine ⟨c, d, ?_⟩
    have hin : inside (e :: es) (.tup cs :: rws) = ((cs.map (fCell e)).all id && inside es rws) := by
      simp only [inside, zipL, List.all_cons, cellsOf, itemsOf]
    rw [hin, ← Bool.and_assoc, ← ih]
    simp only [zipL, forL, asgT_tup, asgTs_cons, asgTs_nil, asgT_name, SRes.andThen_next, List.set_cons_succ, List.set_cons_zero, execL_cons, execL_nil, exec_iff, denT_bool, denTB_cons, denTB_one, denT_cmp, den_varS, den_var0, den_const, Res.bind_ok, cmp_isNot_non, Res.of_some]
    by_cases hn : e = .non
    · subst hn
      have : (cs.map (fCell .non)).all id = true := by
        rw [List.all_map]
        exact List.all_eq_true.mpr fun x hx => by
          obtain ⟨k, rfl, _⟩ := hc x hx
          rfl
      rw [this, Bool.and_true]
      simp [PV.isNon]
    · have hnn : e.isNon = false := by
        rcases he1 with rfl | ⟨a, b, rfl, _⟩
        · exact absurd rfl hn
        · rfl
      have hcell := cells_ok (S := S) (sx := sx) (ρ := [s0, some (.loc 0), v2, some g, v4, some p7, v6, v7, v8, some (.bl acc), v10, v11, v12, some e, some (.tup cs), v15, v16, v17, v18, v19, v20]) he1 hc (fun _ _ => rfl) (fun _ _ => rfl) rfl hn
      simp only [hnn, Bool.not_false, beq_self_eq_true, if_true, denT_not, denT_val, hcell, Res.bind_ok, truth_bl, Res.of_some]
      cases (cs.map (fCell e)).all id <;> simp
theorem t910 (F : TurnF i es ds gs rs xs rws o) : ∃ c d, ∀ rest, execL (sxN P (n + 11)) (.cons tS9 (.cons tS10 rest)) [s0, some (.loc 0), v2, some (promV (.str "prom") i es ds gs rs), some (.tup xs), some (.tup rws), some (.bl (ds.all fun x => decide (0 ≤ fVal (vals xs (lensOf rws)) x))), some (.int (prodV (vals xs (lensOf rws)) 1 rs)), v8, v9, v10, some (.tup (lensOf rws)), some (.int o), v13, v14, v15, v16, v17, v18, v19, v20] S = execL (sxN P (n + 11)) rest [s0, some (.loc 0), v2, some (promV (.str "prom") i es ds gs rs), some (.tup xs), some (.tup rws), some (.bl (ds.all fun x => decide (0 ≤ fVal (vals xs (lensOf rws)) x))), some (.int (prodV (vals xs (lensOf rws)) 1 rs)), v8, some (.bl (inside es rws)), v10, some (.tup (lensOf rws)), some (.int o), c, d, v15, v16, v17, v18, v19, v20] S := by
  obtain ⟨c, d, e⟩ := inside_loop (S := S) (sx := (sxN P (n + 11))) (s0 := s0) (g := promV (.str "prom") i es ds gs rs) (p7 := .tup rws) (v4 := some (.tup xs)) (v6 := some (.bl (ds.all fun x => decide (0 ≤ fVal (vals xs (lensOf rws)) x)))) (v7 := some (.int (prodV (vals xs (lensOf rws)) 1 rs))) (v11 := some (.tup (lensOf rws))) (v12 := some (.int o)) (v2 := v2) (v8 := v8) (v10 := v10) (v15 := v15) (v16 := v16) (v17 := v17) (v18 := v18) (v19 := v19) (v20 := v20) (es := es) (rws := rws) (acc := true) (v13 := v13) (v14 := v14) F.D.ee F.hr
  refine ⟨c, d, fun rest => ?_⟩
  rw [Bool.true_and] at e
  simp only [tS9, tS10, exec_asg, den_const, Res.st_ok, asgT_name, List.set_cons_succ, List.set_cons_zero, SRes.andThen_next, execL_cons, execL_nil, exec_for, denI_zip, den_idx, den_varS, den_var0, Res.bind_ok, ix_tup2, Res.of_some, zipOf, e]
theorem t11 (K : K14P P) (F : TurnF i es ds gs rs xs rws o) (w : Wf S) : exec (sxN P (n + 11)) tS11 [s0, some (.loc 0), v2, some (promV (.str "prom") i es ds gs rs), some (.tup xs), some (.tup rws), some (.bl (ds.all fun x => decide (0 ≤ fVal (vals xs (lensOf rws)) x))), some (.int (prodV (vals xs (lensOf rws)) 1 rs)), v8, some (.bl (inside es rws)), v10, some (.tup (lensOf rws)), some (.int o), v13, v14, v15, v16, v17, v18, v19, v20] S = .next [s0, some (.loc 0), v2, some (promV (.str "prom") i es ds gs rs), some (.tup xs), some (.tup rws), some (.bl (ds.all fun x => decide (0 ≤ fVal (vals xs (lensOf rws)) x))), some (.int (prodV (vals xs (lensOf rws)) 1 rs)), v8, some (.bl (inside es rws)), v10, some (.tup (lensOf rws)), some (.int o), v13, v14, v15, v16, v17, v18, v19, v20] S := by
  have e := keeps_needs_ok (n := n + 3) K.T K.kn K.rk K.ic F.D.good F.hx F.hr F.lx F.lr w
  rw [any_neg, Bool.not_not] at e
  generalize (ds.all fun x => decide (0 ≤ fVal (vals xs (lensOf rws)) x)) = g0 at e ⊢
  generalize inside es rws = g1 at e ⊢
  cases g0 <;> cases g1 <;> simp [tS11, e, ne_bl]
theorem t12 (K : K14P P) (F : TurnF i es ds gs rs xs rws o) (w : Wf S) : exec (sxN P (n + 11)) tS12 [s0, some (.loc 0), v2, some (promV (.str "prom") i es ds gs rs), some (.tup xs), some (.tup rws), some (.bl (ds.all fun x => decide (0 ≤ fVal (vals xs (lensOf rws)) x))), some (.int (prodV (vals xs (lensOf rws)) 1 rs)), v8, some (.bl (inside es rws)), v10, some (.tup (lensOf rws)), some (.int o), v13, v14, v15, v16, v17, v18, v19, v20] S = .next [s0, some (.loc 0), v2, some (promV (.str "prom") i es ds gs rs), some (.tup xs), some (.tup rws), some (.bl (ds.all fun x => decide (0 ≤ fVal (vals xs (lensOf rws)) x))), some (.int (prodV (vals xs (lensOf rws)) 1 rs)), v8, some (.bl (inside es rws)), some (.bl (gs.all fun x => decide (0 ≤ fVal (valsO xs (lensOf rws) o) x))), some (.tup (lensOf rws)), some (.int o), v13, v14, v15, v16, v17, v18, v19, v20] S := by
  have hc : den (sxN P (n + 11)) (.comp false [19] (.cmp .ge (.call 30 (.cons (.var 19) (.cons (.var 4) (.cons (.var 11) (.cons (.var 12) .nil))))) (.const (.int 0))) (.name 19) (.seq (.idx (.var 3) (.const (.int 4)))) .nil) [s0, some (.loc 0), v2, some (promV (.str "prom") i es ds gs rs), some (.tup xs), some (.tup rws), some (.bl (ds.all fun x => decide (0 ≤ fVal (vals xs (lensOf rws)) x))), some (.int (prodV (vals xs (lensOf rws)) 1 rs)), v8, some (.bl (inside es rws)), v10, some (.tup (lensOf rws)), some (.int o), v13, v14, v15, v16, v17, v18, v19, v20] S = .ok (.lst (gs.map fun x => .bl (decide (0 ≤ fVal (valsO xs (lensOf rws) o) x)))) S := by
    refine den_compb (xs := gs) (p := fun x => decide (0 ≤ fVal (valsO xs (lensOf rws) o) x)) (by simp [walkOf]) fun x hx => ⟨_, rfl, ?_⟩
    have h := wO_ok (n := n) K F w (F.D.gf x hx)
    simp only [wipe, List.set_cons_succ, List.set_cons_zero, den_cmp, den_call, denL_cons, denL_nil, den_varS, den_var0, den_const, Res.bind_ok, sxN_okC, if_true, sxN_call, h, cmp_ge, Option.map_some, Res.of_some]
  simp only [tS12, exec_asg, den_bi, denL_cons, denL_nil, hc, Res.bind_ok, bi_all_map, Res.of_some, laid_false, Res.st_ok, asgT_name, List.set_cons_succ, List.set_cons_zero]
theorem t13 (K : K14P P) (F : TurnF i es ds gs rs xs rws o) (w : Wf S) : exec (sxN P (n + 11)) tS13 [s0, some (.loc 0), v2, some (promV (.str "prom") i es ds gs rs), some (.tup xs), some (.tup rws), some (.bl (ds.all fun x => decide (0 ≤ fVal (vals xs (lensOf rws)) x))), some (.int (prodV (vals xs (lensOf rws)) 1 rs)), v8, some (.bl (inside es rws)), some (.bl (gs.all fun x => decide (0 ≤ fVal (valsO xs (lensOf rws) o) x))), some (.tup (lensOf rws)), some (.int o), v13, v14, v15, v16, v17, v18, v19, v20] S = .next [s0, some (.loc 0), v2, some (promV (.str "prom") i es ds gs rs), some (.tup xs), some (.tup rws), some (.bl (ds.all fun x => decide (0 ≤ fVal (vals xs (lensOf rws)) x))), some (.int (prodV (vals xs (lensOf rws)) 1 rs)), v8, some (.bl (inside es rws)), some (.bl (gs.all fun x => decide (0 ≤ fVal (valsO xs (lensOf rws) o) x))), some (.tup (lensOf rws)), some (.int o), v13, v14, v15, v16, v17, v18, v19, v20] S := by
  obtain ⟨l1, l2, l3⟩ := lens_sm F.hr
  have e := keeps_gives_ok (n := n + 3) K.T K.kg F.D.good F.hx l1 l2 F.lx (l3.trans F.lr) F.ho w
  simp [tS13, e, ne_bl]
theorem t14 : exec (sxN P (n + 11)) tS14 [s0, some (.loc 0), v2, some (promV (.str "prom") i es ds gs rs), some (.tup xs), some (.tup rws), some (.bl (ds.all fun x => decide (0 ≤ fVal (vals xs (lensOf rws)) x))), some (.int (prodV (vals xs (lensOf rws)) 1 rs)), v8, some (.bl (inside es rws)), some (.bl (gs.all fun x => decide (0 ≤ fVal (valsO xs (lensOf rws) o) x))), some (.tup (lensOf rws)), some (.int o), v13, v14, v15, v16, v17, v18, v19, v20] S = .next [s0, some (.loc 0), v2, some (promV (.str "prom") i es ds gs rs), some (.tup xs), some (.tup rws), some (.bl (ds.all fun x => decide (0 ≤ fVal (vals xs (lensOf rws)) x))), some (.int (prodV (vals xs (lensOf rws)) 1 rs)), v8, some (.bl (inside es rws)), some (.bl (gs.all fun x => decide (0 ≤ fVal (valsO xs (lensOf rws) o) x))), some (.tup (lensOf rws)), some (.int o), v13, v14, some (.tup rs), some (.tup ds), v17, v18, v19, v20] S := by
  simp [tS14, sets]
mutual
theorem eqv_self : ∀ (v : PV), v.plain = true → v.eqv v = true
  | .non, _ => rfl
  | .bl a, _ => by cases a <;> rfl
  | .int i, _ => by simp [PV.eqv]
  | .str x, _ => by simp [PV.eqv]
  | .lst xs, h => by simp only [PV.eqv]; exact eqvL_self xs h
  | .tup xs, h => by simp only [PV.eqv]; exact eqvL_self xs h
  | .dct _, h => by cases h
  | .loc _, h => by cases h
  | .ty _, h => by cases h
  | .gl _, h => by cases h
  | .clo, h => by cases h
  | .exn _ _, h => by cases h
theorem eqvL_self : ∀ (xs : List PV), plainL xs = true → eqvL xs xs = true
  | [], _ => rfl
  | x :: xs, h => by
    simp only [plainL, Bool.and_eq_true] at h
    simp only [eqvL, eqv_self x h.1, eqvL_self xs h.2, Bool.and_self]
end
theorem plainL_all : ∀ {xs : List PV}, (∀ x ∈ xs, x.plain = true) → plainL xs = true
  | [], _ => rfl
  | x :: xs, h => by
    simp only [plainL, h x (List.mem_cons_self ..), plainL_all fun y hy => h y (List.mem_cons_of_mem _ hy), Bool.and_self]
theorem depthL_all {m : Nat} : ∀ {xs : List PV}, (∀ x ∈ xs, x.depth ≤ m) → depthL xs ≤ m
  | [], _ => Nat.zero_le _
  | x :: xs, h => by
    have h1 := h x (List.mem_cons_self ..)
    have h2 := depthL_all (m := m) (xs := xs) fun y hy => h y (List.mem_cons_of_mem _ hy)
    simp only [depthL]
    omega
theorem GoodF.plain {A : List Int} {x : PV} (g : GoodF A x) : x.plain = true ∧ x.depth ≤ 3 := by
  obtain ⟨c, qs, rfl, _, _, _, hq, _⟩ := g
  have h1 : plainL qs = true := plainL_all fun q h => by
    obtain ⟨v, k, rfl, _⟩ := hq q h
    rfl
  have h2 : depthL qs ≤ 1 := depthL_all fun q h => by
    obtain ⟨v, k, rfl, _⟩ := hq q h
    exact Nat.le_refl 1
  refine ⟨by simp only [PV.plain, plainL, h1, Bool.and_self], ?_⟩
  simp only [PV.depth, depthL]
  omega
theorem ne_self {xs : List PV} (h : ∀ x ∈ xs, x.plain = true ∧ x.depth ≤ 3) : cmpop .ne (.tup xs) (.tup xs) S = some false := by
  have h1 : plainL xs = true := plainL_all fun x hx => (h x hx).1
  have h2 : depthL xs ≤ 3 := depthL_all fun x hx => (h x hx).2
  have h3 : eqOk (.tup xs) = true := by
    have h4 : depthL xs + 1 ≤ DEEP := by unfold DEEP; omega
    simp only [eqOk, PV.plain, PV.depth, h1, h4, decide_true, Bool.and_self]
  show (eqop _ _ S).map not = _
  unfold eqop
  simp only [deref, h3, Bool.and_self, if_true, eqv_self _ (show (PV.tup xs).plain = true from h1), Option.map_some, Bool.not_true]
theorem PromD.cl (D : PromD i es ds gs rs) : fClaims (.tup rs) 80 = true ∧ fClaims (.tup ds) 80 = true := by
  have h1 := D.rl
  have h2 := D.dl
  have h3 : (rs.length : Int) ≤ 80 := by omega
  have h4 : (ds.length : Int) ≤ 80 := by omega
  exact ⟨by simp only [fClaims, h3, decide_true, D.good.rf, Bool.and_self], by simp only [fClaims, h4, decide_true, D.good.df, Bool.and_self]⟩
theorem t15 (K : K14P P) (F : TurnF i es ds gs rs xs rws o) (w : Wf S) : exec (sxN P (n + 11)) tS15 [s0, some (.loc 0), v2, some (promV (.str "prom") i es ds gs rs), some (.tup xs), some (.tup rws), some (.bl (ds.all fun x => decide (0 ≤ fVal (vals xs (lensOf rws)) x))), some (.int (prodV (vals xs (lensOf rws)) 1 rs)), v8, some (.bl (inside es rws)), some (.bl (gs.all fun x => decide (0 ≤ fVal (valsO xs (lensOf rws) o) x))), some (.tup (lensOf rws)), some (.int o), v13, v14, some (.tup rs), some (.tup ds), v17, v18, v19, v20] S = .next [s0, some (.loc 0), v2, some (promV (.str "prom") i es ds gs rs), some (.tup xs), some (.tup rws), some (.bl (ds.all fun x => decide (0 ≤ fVal (vals xs (lensOf rws)) x))), some (.int (prodV (vals xs (lensOf rws)) 1 rs)), v8, some (.bl (inside es rws)), some (.bl (gs.all fun x => decide (0 ≤ fVal (valsO xs (lensOf rws) o) x))), some (.tup (lensOf rws)), some (.int o), v13, v14, some (.tup rs), some (.tup ds), v17, v18, v19, v20] S := by
  have e := reach_of_ok (n := n + 5) (b := false) K.T.p.C.F K.T.p.C.c K.ro K.rr F.D.cl.1 F.D.cl.2 w
  simp only [Bool.false_eq_true, if_false] at e
  have hn := ne_self (S := S) (xs := rs) fun x hx => (F.D.rf x hx).plain
  simp [tS15, e, hn]
theorem t16 (K : K14P P) (F : TurnF i es ds gs rs xs rws o) (w : Wf S) : exec (sxN P (n + 11)) tS16 [s0, some (.loc 0), v2, some (promV (.str "prom") i es ds gs rs), some (.tup xs), some (.tup rws), some (.bl (ds.all fun x => decide (0 ≤ fVal (vals xs (lensOf rws)) x))), some (.int (prodV (vals xs (lensOf rws)) 1 rs)), v8, some (.bl (inside es rws)), some (.bl (gs.all fun x => decide (0 ≤ fVal (valsO xs (lensOf rws) o) x))), some (.tup (lensOf rws)), some (.int o), v13, v14, some (.tup rs), some (.tup ds), v17, v18, v19, v20] S = .next [s0, some (.loc 0), v2, some (promV (.str "prom") i es ds gs rs), some (.tup xs), some (.tup rws), some (.bl (ds.all fun x => decide (0 ≤ fVal (vals xs (lensOf rws)) x))), some (.int (prodV (vals xs (lensOf rws)) 1 rs)), v8, some (.bl (inside es rws)), some (.bl (gs.all fun x => decide (0 ≤ fVal (valsO xs (lensOf rws) o) x))), some (.tup (lensOf rws)), some (.int o), v13, v14, some (.tup rs), some (.tup ds), v17, v18, v19, v20] S := by
  have e := reach_of_ok (n := n + 5) (b := true) K.T.p.C.F K.T.p.C.c K.ro K.rr F.D.cl.1 F.D.cl.2 w
  simp only [if_true] at e
  have h1 := F.D.rl
  have h2 := F.D.dl
  have s1 := add_tup (S := S) (xs := rs) (ys := ds) (by omega)
  have s2 := add_tup (S := S) (xs := rs ++ ds) (ys := [.tup [.int 1, .tup []]]) (by rw [List.length_append]; simp; omega)
  have hn := ne_self (S := S) (xs := rs ++ ds ++ [.tup [.int 1, .tup []]]) fun x hx => by
    rcases List.mem_append.mp hx with hx | hx
    · rcases List.mem_append.mp hx with hx | hx
      · exact (F.D.rf x hx).plain
      · exact (F.D.df x hx).plain
    · rw [List.mem_singleton] at hx
      subst hx
      exact ⟨rfl, by decide⟩
  simp only [List.append_assoc] at e s2 hn
  simp [tS16, e, s1, s2, hn]
theorem t17 (K : K14P P) (hr : P.defs[31]? = some ⟨5, 12, bRefused⟩) (F : TurnF i es ds gs rs xs rws o) (a : At R b S) (hb : b + 1000 < 2 ^ 60) : ∃ S', exec (sxN P (n + 11)) tS17 [s0, some (.loc 0), v2, some (promV (.str "prom") i es ds gs rs), some (.tup xs), some (.tup rws), some (.bl (ds.all fun x => decide (0 ≤ fVal (vals xs (lensOf rws)) x))), some (.int (prodV (vals xs (lensOf rws)) 1 rs)), v8, some (.bl (inside es rws)), some (.bl (gs.all fun x => decide (0 ≤ fVal (valsO xs (lensOf rws) o) x))), some (.tup (lensOf rws)), some (.int o), v13, v14, some (.tup rs), some (.tup ds), v17, v18, v19, v20] S = .next [s0, some (.loc 0), v2, some (promV (.str "prom") i es ds gs rs), some (.tup xs), some (.tup rws), some (.bl (ds.all fun x => decide (0 ≤ fVal (vals xs (lensOf rws)) x))), some (.int (prodV (vals xs (lensOf rws)) 1 rs)), v8, some (.bl (inside es rws)), some (.bl (gs.all fun x => decide (0 ≤ fVal (valsO xs (lensOf rws) o) x))), some (.tup (lensOf rws)), some (.int o), v13, v14, some (.tup rs), some (.tup ds), v17, v18, v19, v20] S' ∧ At R (b + 10) S' := by
  obtain ⟨S', e, a'⟩ := refused_ok (n := n) K hr F.D F.hx F.hr F.lx F.lr a hb
  refine ⟨S', ?_, a'⟩
  simp [tS17, e]
theorem turn_ok (K : K14P P) (hr : P.defs[31]? = some ⟨5, 12, bRefused⟩) (a : At R b S) (hb : b + 4000 < 2 ^ 60) : ∃ S' u3 u4 u5 u6 u7 u8 u9 u10 u11 u12 u13 u14 u15 u16 u17 u18 u19 u20, execL (sxN P (n + 11)) bTurn [s0, some (.loc 0), v2, v3, v4, v5, v6, v7, v8, v9, v10, v11, v12, v13, v14, v15, v16, v17, v18, v19, v20] S = .next [s0, some (.loc 0), v2, u3, u4, u5, u6, u7, u8, u9, u10, u11, u12, u13, u14, u15, u16, u17, u18, u19, u20] S' ∧ At R (b + 200) S' := by
  obtain ⟨S1, i, es, ds, gs, rs, xs, rws, o, e1, a1, F⟩ := t123 (n := n) (s0 := s0) (v2 := v2) (v3 := v3) (v4 := v4) (v5 := v5) (v6 := v6) (v7 := v7) (v8 := v8) (v9 := v9) (v10 := v10) (v11 := v11) (v12 := v12) (v13 := v13) (v14 := v14) (v15 := v15) (v16 := v16) (v17 := v17) (v18 := v18) (v19 := v19) (v20 := v20) K a (by omega)
  have w := a1.wf
  obtain ⟨p8, e6⟩ := t67 (n := n) (s0 := s0) (v2 := v2) (v8 := v8) (v9 := v9) (v10 := v10) (v13 := v13) (v14 := v14) (v15 := v15) (v16 := v16) (v17 := v17) (v18 := v18) (v19 := v19) (v20 := v20) K F w
  obtain ⟨c, d, e9⟩ := t910 (P := P) (n := n) (S := S1) (s0 := s0) (v2 := v2) (v8 := p8) (v9 := v9) (v10 := v10) (v13 := v13) (v14 := v14) (v15 := v15) (v16 := v16) (v17 := v17) (v18 := v18) (v19 := v19) (v20 := v20) F
  obtain ⟨S2, e17, a2⟩ := t17 (n := n) (s0 := s0) (v2 := v2) (v8 := p8) (v13 := c) (v14 := d) (v17 := v17) (v18 := v18) (v19 := v19) (v20 := v20) K hr F a1 (by omega)
  refine ⟨S2, some (promV (.str "prom") i es ds gs rs), some (.tup xs), some (.tup rws), some (.bl (ds.all fun x => decide (0 ≤ fVal (vals xs (lensOf rws)) x))), some (.int (prodV (vals xs (lensOf rws)) 1 rs)), p8, some (.bl (inside es rws)), some (.bl (gs.all fun x => decide (0 ≤ fVal (valsO xs (lensOf rws) o) x))), some (.tup (lensOf rws)), some (.int o), c, d, some (.tup rs), some (.tup ds), v17, v18, v19, v20, ?_, a2.mono (by omega)⟩
  unfold bTurn
  rw [e1, execL_cons, t5 K F w, SRes.andThen_next, e6, execL_cons, t8 K F w, SRes.andThen_next, e9, execL_cons, t11 K F w, SRes.andThen_next, execL_cons, t12 K F w, SRes.andThen_next, execL_cons, t13 K F w, SRes.andThen_next, execL_cons, t14, SRes.andThen_next, execL_cons, t15 K F w, SRes.andThen_next, execL_cons, t16 K F w, SRes.andThen_next, execL_cons, e17, SRes.andThen_next, execL_nil]
end
end CW
end

section
set_option Elab.async false
set_option linter.all false
set_option maxRecDepth 100000
set_option maxHeartbeats 1000000
/-! k14: the law. -/
namespace CW
open PySem
section
variable {P : Prog} {n : Nat} {S : Store} {b : Nat}
def cP : PV := .tup [.str "count", .int 1, .tup [], .tup [.tup [.int 0, .tup [.tup [.int 0, .int 1]]]], .tup [], .tup [.tup [.int 1, .tup [.tup [.int 0, .int 1]]], .tup [.int 3, .tup []]]]
theorem count_good : GoodP (.str "count") 1 [] [.tup [.int 0, .tup [.tup [.int 0, .int 1]]]] [] [.tup [.int 1, .tup [.tup [.int 0, .int 1]]], .tup [.int 3, .tup []]] where
  name := by decide
  lo := by decide
  hi := by decide
  el := by decide
  ee := by decide
  dl := by decide
  df := by decide
  gl := by decide
  gf := by decide
  rl := by decide
  rn := by simp
  rf := by decide
  d_o := by decide
  r_o := by decide
  g_o := by decide
theorem last_ok (K : K14P P) (w : Wf S) {s0 v2 v3 v4 v5 v6 v7 v8 v9 v10 v11 v12 v13 v14 v15 v16 v17 v18 v19 v20 : Option PV} : execL (sxN P (n + 11)) bLast [s0, some (.loc 0), v2, v3, v4, v5, v6, v7, v8, v9, v10, v11, v12, v13, v14, v15, v16, v17, v18, v19, v20] S = .ret (.bl true) S := by
  have h5 : ∀ x ∈ [PV.int 5], SmI x := by
    intro x hx
    rw [List.mem_singleton] at hx
    exact ⟨5, hx, by decide⟩
  have h1 : ∀ x ∈ [PV.int (-1)], SmI x := by
    intro x hx
    rw [List.mem_singleton] at hx
    exact ⟨-1, hx, by decide⟩
  have e1 := steps_told_ok (n := n + 3) K.T K.st count_good (xs := [.int 5]) (ys := []) h5 (by simp) rfl rfl rfl w
  have e2 := steps_told_ok (n := n + 3) K.T K.st count_good (xs := [.int (-1)]) (ys := []) h1 (by simp) rfl rfl rfl w
  have f1 : fSteps (vals [.int 5] []) [.tup [.int 0, .tup [.tup [.int 0, .int 1]]]] [.tup [.int 1, .tup [.tup [.int 0, .int 1]]], .tup [.int 3, .tup []]] = .int 28 := rfl
  have f2 : fSteps (vals [.int (-1)] []) [.tup [.int 0, .tup [.tup [.int 0, .int 1]]]] [.tup [.int 1, .tup [.tup [.int 0, .int 1]]], .tup [.int 3, .tup []]] = .non := rfl
  rw [f1] at e1
  rw [f2] at e2
  simp [bLast, e1, e2, PV.asInt, PV.isNon]
theorem law_ok (K : K14P P) (hr : P.defs[31]? = some ⟨5, 12, bRefused⟩) (hl : P.defs[32]? = some ⟨1, 21, bLaw⟩) {ns : List Int} (hn : ns.length ≤ 63) : callN P (n + 12) 32 [.lst (ns.map .int)] [] = .ok (.bl true) [] := by
  rw [callN_def hl]
  obtain ⟨S0, e0, a0⟩ := hand_ok (n := n + 10) K.ha hn
  have loop := forL_inv (bind := asgT (sxN P (n + 11)) (.name 2)) (body := execL (sxN P (n + 11)) bTurn) (xs := rangeL 0 8) (k := 0) (S := S0) (ρ := [some (.lst (ns.map .int)), some (.loc 0), none, none, none, none, none, none, none, none, none, none, none, none, none, none, none, none, none, none, none])
      (K := 8) (I := fun k ρ S => ∃ v2 v3 v4 v5 v6 v7 v8 v9 v10 v11 v12 v13 v14 v15 v16 v17 v18 v19 v20, ρ = [some (.lst (ns.map .int)), some (.loc 0), v2, v3, v4, v5, v6, v7, v8, v9, v10, v11, v12, v13, v14, v15, v16, v17, v18, v19, v20] ∧ At [] (200 * k) S) (by rw [rangeL_len]; decide) ?_ ⟨none, none, none, none, none, none, none, none, none, none, none, none, none, none, none, none, none, none, none, rfl, a0⟩
  · obtain ⟨ρ', S1, e1, v2, v3, v4, v5, v6, v7, v8, v9, v10, v11, v12, v13, v14, v15, v16, v17, v18, v19, v20, rfl, a1⟩ := loop
    have e2 := last_ok (n := n) K a1.wf (s0 := some (.lst (ns.map .int))) (v2 := v2) (v3 := v3) (v4 := v4) (v5 := v5) (v6 := v6) (v7 := v7) (v8 := v8) (v9 := v9) (v10 := v10) (v11 := v11) (v12 := v12) (v13 := v13) (v14 := v14) (v15 := v15) (v16 := v16) (v17 := v17) (v18 := v18) (v19 := v19) (v20 := v20)
    refine runD_drop (d := ⟨1, 21, bLaw⟩) (S := []) (S' := S1) rfl ?_ rfl rfl
    show execL (sxN P (n + 11)) bLaw [some (.lst (ns.map .int)), none, none, none, none, none, none, none, none, none, none, none, none, none, none, none, none, none, none, none, none] [] = _
    have h8 : rangeOf [.int 8] = some (0, 8) := by decide
    simp only [bLaw, execL_cons, exec_asg, den_call, denL_cons, denL_nil, den_varS, den_var0, Res.bind_ok, sxN_okC, if_true, sxN_call, e0, Res.st_ok, asgT_name, List.set_cons_succ, List.set_cons_zero, SRes.andThen_next, exec_for, denI_range, den_const, h8, Option.map_some, Res.of_some, e1, e2]
  · rintro k x ρ S hx hk ⟨v2, v3, v4, v5, v6, v7, v8, v9, v10, v11, v12, v13, v14, v15, v16, v17, v18, v19, v20, rfl, a⟩
    obtain ⟨S', u3, u4, u5, u6, u7, u8, u9, u10, u11, u12, u13, u14, u15, u16, u17, u18, u19, u20, e, a'⟩ := turn_ok (n := n) K hr a (by omega) (s0 := some (.lst (ns.map .int))) (v2 := some x) (v3 := v3) (v4 := v4) (v5 := v5) (v6 := v6) (v7 := v7) (v8 := v8) (v9 := v9) (v10 := v10) (v11 := v11) (v12 := v12) (v13 := v13) (v14 := v14) (v15 := v15) (v16 := v16) (v17 := v17) (v18 := v18) (v19 := v19) (v20 := v20)
    exact ⟨_, _, _, S', rfl, e, _, _, _, _, _, _, _, _, _, _, _, _, _, _, _, _, _, _, _, rfl, a'.mono (by omega)⟩
end
end CW
end

section
set_option Elab.async false
set_option linter.all false
set_option maxRecDepth 100000
set_option maxHeartbeats 0
/-! K14: the IR, the statics. -/
namespace CW.K14
open PySem PySem.Spec PyProof.Rows L2
abbrev pw : PySem.Program := PySem.Challenge.pw_codewarrant_k14_whole_steps_needs_and_gi
def top (i : Nat) : PySem.Stmt := pw.main.body.getD i (.Pass ⟨0, 0, 0, 0⟩)
/-- is_integer -/
def b0 : Ss := (.cons (.ret (.bool true (.cons (.isin (.var 0) [(.bt .int)]) (.cons (.not (.isin (.var 0) [(.bt .bool)])) .nil)))) .nil)
def d0 : Dfn := ⟨1, 1, b0⟩
def r0 : DefR := ⟨"is_integer", top 16, ["thing"], ["thing"], d0, false, false⟩
/-- is_within -/
def b1 : Ss := (.cons (.ret (.bool true (.cons (.call 0 (.cons (.var 0) .nil)) (.cons (.chain .le .le (.var 1) (.var 0) (.var 2)) .nil)))) .nil)
def d1 : Dfn := ⟨3, 3, b1⟩
def r1 : DefR := ⟨"is_within", top 17, ["thing", "low", "high"], ["thing", "low", "high"], d1, false, false⟩
/-- is_part -/
def b2 : Ss := (.cons (.iff (.bool false (.cons (.not (.val (.isin (.var 0) [(.bt .tuple)]))) (.cons (.cmp .ne (.bi false .len (.cons (.var 0) .nil)) (.const (.int 2))) (.cons (.not (.val (.call 1 (.cons (.idx (.var 0) (.const (.int 0))) (.cons (.const (.int 0)) (.cons (.glob "NEW" (.int 36)) .nil)))))) .nil)))) (.cons (.ret (.const (.bl false))) .nil) .nil) (.cons (.ret (.bool true (.cons (.call 0 (.cons (.idx (.var 0) (.const (.int 1))) .nil)) (.cons (.cmp .ne (.idx (.var 0) (.const (.int 1))) (.const (.int 0))) (.cons (.cmp .lt (.bi false .abs (.cons (.idx (.var 0) (.const (.int 1))) .nil)) (.glob "MOST_TIMES" (.int 1000000000))) .nil))))) .nil))
def d2 : Dfn := ⟨1, 1, b2⟩
def r2 : DefR := ⟨"is_part", top 18, ["thing"], ["thing"], d2, false, false⟩
/-- is_form -/
def b3 : Ss := (.cons (.iff (.bool false (.cons (.not (.val (.isin (.var 0) [(.bt .tuple)]))) (.cons (.cmp .ne (.bi false .len (.cons (.var 0) .nil)) (.const (.int 2))) (.cons (.not (.val (.call 0 (.cons (.idx (.var 0) (.const (.int 0))) .nil)))) (.cons (.cmp .ge (.bi false .abs (.cons (.idx (.var 0) (.const (.int 0))) .nil)) (.glob "MOST_WHOLE" (.int 1000000000000000))) .nil))))) (.cons (.ret (.const (.bl false))) .nil) .nil) (.cons (.asg (.name 1) (.idx (.var 0) (.const (.int 1)))) (.cons (.iff (.bool false (.cons (.not (.val (.isin (.var 1) [(.bt .tuple)]))) (.cons (.cmp .gt (.bi false .len (.cons (.var 1) .nil)) (.glob "MOST_PARTS" (.int 12))) (.cons (.not (.val (.bi false .all (.cons (.comp false [3] (.call 2 (.cons (.var 3) .nil)) (.name 3) (.seq (.var 1)) .nil) .nil)))) .nil)))) (.cons (.ret (.const (.bl false))) .nil) .nil) (.cons (.ret (.bi false .all (.cons (.comp false [2] (.cmp .lt (.idx (.idx (.var 1) (.var 2)) (.const (.int 0))) (.idx (.idx (.var 1) (.bin .add (.var 2) (.const (.int 1)))) (.const (.int 0)))) (.name 2) (.range (.cons (.bin .sub (.bi false .len (.cons (.var 1) .nil)) (.const (.int 1))) .nil)) .nil) .nil))) .nil))))
def d3 : Dfn := ⟨1, 4, b3⟩
def r3 : DefR := ⟨"is_form", top 19, ["thing", "parts", "at", "part"], ["thing"], d3, false, false⟩
/-- raw_value -/
def b4 : Ss := (.cons (.ret (.bin .add (.idx (.var 0) (.const (.int 0))) (.bi false .sum (.cons (.comp false [2, 3] (.bin .mul (.var 3) (.idx (.var 1) (.var 2))) (.tup (.cons (.name 2) (.cons (.name 3) .nil))) (.seq (.idx (.var 0) (.const (.int 1)))) .nil) .nil)))) .nil)
def d4 : Dfn := ⟨2, 4, b4⟩
def r4 : DefR := ⟨"raw_value", top 20, ["form", "values", "variable", "count"], ["form", "values"], d4, false, false⟩
/-- are_claims -/
def b5 : Ss := (.cons (.ret (.bool true (.cons (.isin (.var 0) [(.bt .tuple)]) (.cons (.cmp .le (.bi false .len (.cons (.var 0) .nil)) (.var 1)) (.cons (.bi false .all (.cons (.comp false [2] (.call 3 (.cons (.var 2) .nil)) (.name 2) (.seq (.var 0)) .nil) .nil)) .nil))))) .nil)
def d5 : Dfn := ⟨2, 3, b5⟩
def r5 : DefR := ⟨"are_claims", top 22, ["thing", "most", "one"], ["thing", "most"], d5, false, false⟩
/-- is_name -/
def b6 : Ss := (.cons (.iff (.bool false (.cons (.not (.val (.isin (.var 0) [(.bt .str)]))) (.cons (.not (.chain .le .le (.const (.int 1)) (.bi false .len (.cons (.var 0) .nil)) (.glob "MOST_NAME" (.int 8)))) .nil))) (.cons (.ret (.const (.bl false))) .nil) .nil) (.cons (.ret (.bi false .all (.cons (.comp false [1] (.chain .le .le (.const (.str "a")) (.var 1) (.const (.str "z"))) (.name 1) (.seq (.var 0)) .nil) .nil))) .nil))
def d6 : Dfn := ⟨1, 2, b6⟩
def r6 : DefR := ⟨"is_name", top 31, ["thing", "sign"], ["thing"], d6, false, false⟩
/-- is_entry -/
def b7 : Ss := (.cons (.iff (.cmp .is_ (.var 0) (.const .non)) (.cons (.ret (.const (.bl true))) .nil) .nil) (.cons (.iff (.bool false (.cons (.not (.val (.isin (.var 0) [(.bt .tuple)]))) (.cons (.cmp .ne (.bi false .len (.cons (.var 0) .nil)) (.const (.int 2))) (.cons (.not (.val (.bi false .all (.cons (.comp false [1] (.call 0 (.cons (.var 1) .nil)) (.name 1) (.seq (.var 0)) .nil) .nil)))) .nil)))) (.cons (.ret (.const (.bl false))) .nil) .nil) (.cons (.ret (.chain3 .lt .le .lt (.neg (.glob "MOST_BOUND" (.int 1000000000))) (.idx (.var 0) (.const (.int 0))) (.idx (.var 0) (.const (.int 1))) (.glob "MOST_BOUND" (.int 1000000000)))) .nil)))
def d7 : Dfn := ⟨1, 2, b7⟩
def r7 : DefR := ⟨"is_entry", top 32, ["thing", "one"], ["thing"], d7, false, false⟩
/-- are_over -/
def b8 : Ss := (.cons (.for_ (.name 4) (.seq (.var 0)) (.cons (.for_ (.tup (.cons (.name 5) (.cons (.name 6) .nil))) (.seq (.idx (.var 4) (.const (.int 1)))) (.cons (.iff (.bool true (.cons (.not (.cmp .lt (.var 5) (.var 1))) (.cons (.not (.chain .le .lt (.const (.int 0)) (.bin .sub (.var 5) (.glob "FIRST_LENGTH" (.int 32))) (.var 2))) (.cons (.cmp .notIn (.var 5) (.var 3)) .nil)))) (.cons (.ret (.const (.bl false))) .nil) .nil) .nil)) .nil)) (.cons (.ret (.const (.bl true))) .nil))
def d8 : Dfn := ⟨4, 7, b8⟩
def r8 : DefR := ⟨"are_over", top 33, ["forms", "ins", "rows", "more", "form", "variable", "count"], ["forms", "ins", "rows", "more"], d8, false, false⟩
/-- is_promise -/
def b9 : Ss := (.cons (.iff (.bool false (.cons (.not (.val (.isin (.var 0) [(.bt .tuple)]))) (.cons (.cmp .ne (.bi false .len (.cons (.var 0) .nil)) (.const (.int 6))) (.cons (.not (.val (.call 6 (.cons (.idx (.var 0) (.const (.int 0))) .nil)))) (.cons (.not (.val (.call 1 (.cons (.idx (.var 0) (.const (.int 1))) (.cons (.const (.int 0)) (.cons (.glob "MOST_INS" (.int 6)) .nil)))))) .nil))))) (.cons (.ret (.const (.bl false))) .nil) .nil) (.cons (.asg (.tup (.cons (.name 2) (.cons (.name 3) (.cons (.name 4) (.cons (.name 5) (.cons (.name 6) (.cons (.name 7) .nil))))))) (.var 0)) (.cons (.iff (.bool false (.cons (.not (.val (.isin (.var 4) [(.bt .tuple)]))) (.cons (.cmp .gt (.bi false .len (.cons (.var 4) .nil)) (.glob "MOST_ROWS" (.int 4))) (.cons (.not (.val (.bi false .all (.cons (.comp false [8] (.call 7 (.cons (.var 8) .nil)) (.name 8) (.seq (.var 4)) .nil) .nil)))) .nil)))) (.cons (.ret (.const (.bl false))) .nil) .nil) (.cons (.iff (.bool false (.cons (.not (.val (.call 5 (.cons (.var 5) (.cons (.glob "MOST_PROMISED" (.int 12)) .nil))))) (.cons (.not (.val (.call 5 (.cons (.var 6) (.cons (.glob "MOST_PROMISED" (.int 12)) .nil))))) .nil))) (.cons (.ret (.const (.bl false))) .nil) .nil) (.cons (.iff (.bool false (.cons (.not (.val (.call 5 (.cons (.var 7) (.cons (.glob "MOST_REACH" (.int 16)) .nil))))) (.cons (.cmp .eq (.bi false .len (.cons (.var 7) .nil)) (.const (.int 0))) .nil))) (.cons (.ret (.const (.bl false))) .nil) .nil) (.cons (.asg (.name 1) (.bi false .len (.cons (.var 4) .nil))) (.cons (.ret (.bool true (.cons (.call 8 (.cons (.bin .add (.var 5) (.var 7)) (.cons (.var 3) (.cons (.var 1) (.cons (.tup .nil) .nil))))) (.cons (.call 8 (.cons (.var 6) (.cons (.var 3) (.cons (.var 1) (.cons (.tup (.cons (.glob "OUT" (.int 31)) .nil)) .nil))))) .nil)))) .nil)))))))
def d9 : Dfn := ⟨1, 9, b9⟩
def r9 : DefR := ⟨"is_promise", top 34, ["thing", "many", "name", "ins", "rows", "needs", "gives", "reach", "entry"], ["thing"], d9, false, false⟩
/-- raw_reach -/
def b10 : Ss := (.cons (.ret (.ite (.val (.var 2)) (.bin .add (.bin .add (.var 0) (.var 1)) (.tup (.cons (.glob "STEP" (.tup [(.int 1), (.tup [])])) .nil))) (.var 0))) .nil)
def d10 : Dfn := ⟨3, 3, b10⟩
def r10 : DefR := ⟨"raw_reach", top 35, ["tops", "under", "has_call"], ["tops", "under", "has_call"], d10, false, false⟩
/-- check_promise -/
def b11 : Ss := (.cons (.iff (.not (.val (.call 9 (.cons (.var 0) .nil)))) (.cons (.raise "NoPromise" .nil) .nil) .nil) .nil)
def d11 : Dfn := ⟨1, 1, b11⟩
def r11 : DefR := ⟨"check_promise", top 39, ["thing"], ["thing"], d11, false, false⟩
/-- check_ins -/
def b12 : Ss := (.cons (.iff (.bool false (.cons (.not (.val (.isin (.var 1) [(.bt .tuple)]))) (.cons (.cmp .ne (.bi false .len (.cons (.var 1) .nil)) (.idx (.var 0) (.const (.int 1)))) (.cons (.not (.val (.bi false .all (.cons (.comp false [2] (.call 0 (.cons (.var 2) .nil)) (.name 2) (.seq (.var 1)) .nil) .nil)))) .nil)))) (.cons (.raise "NoIns" .nil) .nil) .nil) .nil)
def d12 : Dfn := ⟨2, 3, b12⟩
def r12 : DefR := ⟨"check_ins", top 40, ["promise", "ins", "one"], ["promise", "ins"], d12, false, false⟩
/-- check_lengths -/
def b13 : Ss := (.cons (.iff (.bool false (.cons (.not (.val (.isin (.var 1) [(.bt .tuple)]))) (.cons (.cmp .ne (.bi false .len (.cons (.var 1) .nil)) (.bi false .len (.cons (.idx (.var 0) (.const (.int 2))) .nil))) .nil))) (.cons (.raise "NoLengths" .nil) .nil) .nil) (.cons (.iff (.not (.val (.bi false .all (.cons (.comp false [2] (.bool true (.cons (.call 0 (.cons (.var 2) .nil)) (.cons (.cmp .ge (.var 2) (.const (.int 0))) .nil))) (.name 2) (.seq (.var 1)) .nil) .nil)))) (.cons (.raise "NoLengths" .nil) .nil) .nil) .nil))
def d13 : Dfn := ⟨2, 3, b13⟩
def r13 : DefR := ⟨"check_lengths", top 41, ["promise", "lengths", "one"], ["promise", "lengths"], d13, false, false⟩
/-- are_rows -/
def b14 : Ss := (.cons (.iff (.bool false (.cons (.not (.val (.isin (.var 0) [(.bt .tuple)]))) (.cons (.cmp .ne (.bi false .len (.cons (.var 0) .nil)) (.var 1)) (.cons (.not (.val (.bi false .all (.cons (.comp false [2] (.isin (.var 2) [(.bt .tuple)]) (.name 2) (.seq (.var 0)) .nil) .nil)))) .nil)))) (.cons (.ret (.const (.bl false))) .nil) .nil) (.cons (.ret (.bi false .all (.cons (.comp false [2] (.bool true (.cons (.cmp .le (.bi false .len (.cons (.var 2) .nil)) (.glob "MOST_CELLS" (.int 200))) (.cons (.bi false .all (.cons (.comp false [3] (.call 0 (.cons (.var 3) .nil)) (.name 3) (.seq (.var 2)) .nil) .nil)) .nil))) (.name 2) (.seq (.var 0)) .nil) .nil))) .nil))
def d14 : Dfn := ⟨2, 4, b14⟩
def r14 : DefR := ⟨"are_rows", top 42, ["thing", "many", "row", "cell"], ["thing", "many"], d14, false, false⟩
/-- values_by -/
def b15 : Ss := (.cons (.asg (.name 2) (.dcomp true [5, 6] (.var 5) (.var 6) (.tup (.cons (.name 5) (.cons (.name 6) .nil))) (.enum (.var 0)) .nil)) (.cons (.for_ (.tup (.cons (.name 3) (.cons (.name 4) .nil))) (.enum (.var 1)) (.cons (.asg (.sub (.var 2) (.bin .add (.glob "FIRST_LENGTH" (.int 32)) (.var 3))) (.var 4)) .nil)) (.cons (.ret (.var 2)) .nil)))
def d15 : Dfn := ⟨2, 7, b15⟩
def r15 : DefR := ⟨"values_by", top 43, ["ins", "lengths", "found", "j", "length", "at", "one"], ["ins", "lengths"], d15, false, false⟩
/-- raw_steps -/
def b16 : Ss := (.cons (.iff (.val (.bi false .any (.cons (.comp false [4] (.cmp .lt (.call 4 (.cons (.var 4) (.cons (.var 1) .nil))) (.const (.int 0))) (.name 4) (.seq (.idx (.var 0) (.const (.int 3)))) .nil) .nil))) (.cons (.ret (.const .non)) .nil) .nil) (.cons (.asg (.name 2) (.const (.int 1))) (.cons (.for_ (.name 3) (.seq (.idx (.var 0) (.const (.int 5)))) (.cons (.asg (.name 2) (.bin .mul (.var 2) (.bin .add (.call 4 (.cons (.var 3) (.cons (.var 1) .nil))) (.const (.int 1))))) .nil)) (.cons (.ret (.var 2)) .nil))))
def d16 : Dfn := ⟨2, 5, b16⟩
def r16 : DefR := ⟨"raw_steps", top 44, ["promise", "values", "found", "form", "claim"], ["promise", "values"], d16, false, false⟩
/-- steps_told -/
def b17 : Ss := (.cons (.ex (.call 11 (.cons (.var 0) .nil))) (.cons (.ex (.call 12 (.cons (.var 0) (.cons (.var 1) .nil)))) (.cons (.ex (.call 13 (.cons (.var 0) (.cons (.var 2) .nil)))) (.cons (.ret (.call 16 (.cons (.var 0) (.cons (.call 15 (.cons (.var 1) (.cons (.var 2) .nil))) .nil)))) .nil))))
def d17 : Dfn := ⟨3, 3, b17⟩
def r17 : DefR := ⟨"steps_told", top 45, ["promise", "ins", "lengths"], ["promise", "ins", "lengths"], d17, false, false⟩
/-- is_cell_in -/
def b18 : Ss := (.cons (.ret (.bool false (.cons (.cmp .is_ (.var 0) (.const .non)) (.cons (.chain .le .le (.idx (.var 0) (.const (.int 0))) (.var 1) (.idx (.var 0) (.const (.int 1)))) .nil)))) .nil)
def d18 : Dfn := ⟨2, 2, b18⟩
def r18 : DefR := ⟨"is_cell_in", top 46, ["entry", "cell"], ["entry", "cell"], d18, false, false⟩
/-- raw_keeps -/
def b19 : Ss := (.cons (.asg (.name 3) (.call 15 (.cons (.var 1) (.cons (.comp false [4] (.bi false .len (.cons (.var 4) .nil)) (.name 4) (.seq (.var 2)) .nil) .nil)))) (.cons (.iff (.val (.bi false .any (.cons (.comp false [5] (.cmp .lt (.call 4 (.cons (.var 5) (.cons (.var 3) .nil))) (.const (.int 0))) (.name 5) (.seq (.idx (.var 0) (.const (.int 3)))) .nil) .nil))) (.cons (.ret (.const (.bl false))) .nil) .nil) (.cons (.ret (.bi false .all (.cons (.comp2 false [7, 4, 6] (.call 18 (.cons (.var 7) (.cons (.var 6) .nil))) (.tup (.cons (.name 7) (.cons (.name 4) .nil))) (.zip (.idx (.var 0) (.const (.int 2))) (.var 2)) .nil [6] (.name 6) (.seq (.var 4)) .nil) .nil))) .nil)))
def d19 : Dfn := ⟨3, 8, b19⟩
def r19 : DefR := ⟨"raw_keeps", top 47, ["promise", "ins", "rows", "values", "row", "claim", "cell", "entry"], ["promise", "ins", "rows"], d19, false, false⟩
/-- keeps_needs -/
def b20 : Ss := (.cons (.ex (.call 11 (.cons (.var 0) .nil))) (.cons (.ex (.call 12 (.cons (.var 0) (.cons (.var 1) .nil)))) (.cons (.iff (.not (.val (.call 14 (.cons (.var 2) (.cons (.bi false .len (.cons (.idx (.var 0) (.const (.int 2))) .nil)) .nil))))) (.cons (.raise "NoRows" .nil) .nil) .nil) (.cons (.ret (.call 19 (.cons (.var 0) (.cons (.var 1) (.cons (.var 2) .nil))))) .nil))))
def d20 : Dfn := ⟨3, 3, b20⟩
def r20 : DefR := ⟨"keeps_needs", top 48, ["promise", "ins", "rows"], ["promise", "ins", "rows"], d20, false, false⟩
/-- keeps_gives -/
def b21 : Ss := (.cons (.ex (.call 11 (.cons (.var 0) .nil))) (.cons (.ex (.call 12 (.cons (.var 0) (.cons (.var 1) .nil)))) (.cons (.ex (.call 13 (.cons (.var 0) (.cons (.var 2) .nil)))) (.cons (.iff (.not (.val (.call 0 (.cons (.var 3) .nil)))) (.cons (.raise "NoInteger" .nil) .nil) .nil) (.cons (.asg (.name 4) (.call 15 (.cons (.var 1) (.cons (.var 2) .nil)))) (.cons (.asg (.sub (.var 4) (.glob "OUT" (.int 31))) (.var 3)) (.cons (.ret (.bi false .all (.cons (.comp false [5] (.cmp .ge (.call 4 (.cons (.var 5) (.cons (.var 4) .nil))) (.const (.int 0))) (.name 5) (.seq (.idx (.var 0) (.const (.int 4)))) .nil) .nil))) .nil)))))))
def d21 : Dfn := ⟨4, 6, b21⟩
def r21 : DefR := ⟨"keeps_gives", top 49, ["promise", "ins", "lengths", "out", "values", "claim"], ["promise", "ins", "lengths", "out"], d21, false, false⟩
/-- reach_of -/
def b22 : Ss := (.cons (.for_ (.name 3) (.seq (.tup (.cons (.var 0) (.cons (.var 1) .nil)))) (.cons (.iff (.not (.val (.call 5 (.cons (.var 3) (.cons (.glob "MOST_CLAIMS" (.int 80)) .nil))))) (.cons (.raise "NoClaims" .nil) .nil) .nil) .nil)) (.cons (.iff (.not (.val (.isin (.var 2) [(.bt .bool)]))) (.cons (.raise "NoFlag" .nil) .nil) .nil) (.cons (.ret (.call 10 (.cons (.var 0) (.cons (.var 1) (.cons (.var 2) .nil))))) .nil)))
def d22 : Dfn := ⟨3, 4, b22⟩
def r22 : DefR := ⟨"reach_of", top 50, ["tops", "under", "has_call", "forms"], ["tops", "under", "has_call"], d22, false, false⟩
/-- _law_hand -/
def b23 : Ss := (.cons (.asg (.name 1) (.comp false [2] (.bin .mod (.bi false .int1 (.cons (.bi false .abs (.cons (.bi false .int1 (.cons (.var 2) .nil)) .nil)) .nil)) (.bin .pow (.const (.int 10)) (.const (.int 36)))) (.name 2) (.seq (.slice (.var 0) .none (.some (.const (.int 63))))) .nil)) (.cons (.ret (.lst true (.cons (.var 1) (.cons (.const (.int 0)) (.cons (.const (.int 0)) (.cons (.bin .add (.const (.int 593)) (.bin .mul (.const (.int 449)) (.bi false .len (.cons (.var 1) .nil)))) (.cons (.const (.int 0)) .nil))))))) .nil))
def d23 : Dfn := ⟨1, 3, b23⟩
def r23 : DefR := ⟨"_law_hand", top 52, ["script", "cells", "cell"], ["script"], d23, false, false⟩
/-- _law_draw -/
def b24 : Ss := (.cons (.iff (.bool true (.cons (.cmp .eq (.idx (.var 0) (.const (.int 2))) (.const (.int 0))) (.cons (.cmp .lt (.idx (.var 0) (.const (.int 1))) (.bi false .len (.cons (.idx (.var 0) (.const (.int 0))) .nil))) .nil))) (.cons (.asg (.name 3) (.idx (.idx (.var 0) (.const (.int 0))) (.idx (.var 0) (.const (.int 1))))) (.cons (.asg (.sub (.var 0) (.const (.int 1))) (.bin .add (.idx (.var 0) (.const (.int 1))) (.const (.int 1)))) (.cons (.asg (.sub (.var 0) (.const (.int 3))) (.bin .mod (.bi false .int1 (.cons (.bin .add (.bin .add (.bin .mul (.idx (.var 0) (.const (.int 3))) (.const (.int 69621))) (.bin .mul (.var 3) (.const (.int 48271)))) (.const (.int 17))) .nil)) (.const (.int 2147483629)))) (.cons (.iff (.cmp .ge (.var 3) (.bin .pow (.const (.int 10)) (.const (.int 18)))) (.cons (.asg (.sub (.var 0) (.const (.int 2))) (.var 3)) .nil) .nil) .nil)))) .nil) (.cons (.iff (.cmp .gt (.idx (.var 0) (.const (.int 2))) (.const (.int 0))) (.cons (.asg (.name 4) (.bin .mod (.bi false .int1 (.cons (.idx (.var 0) (.const (.int 2))) .nil)) (.var 1))) (.cons (.asg (.sub (.var 0) (.const (.int 2))) (.bin .fdiv (.idx (.var 0) (.const (.int 2))) (.var 1))) (.cons (.ret (.var 4)) .nil))) .nil) (.cons (.asg (.sub (.var 0) (.const (.int 4))) (.bin .add (.idx (.var 0) (.const (.int 4))) (.const (.int 1)))) (.cons (.asg (.name 2) (.bin .mod (.bi false .int1 (.cons (.bin .mul (.bi false .int1 (.cons (.bin .add (.idx (.var 0) (.const (.int 3))) (.bin .mul (.const (.int 7919)) (.idx (.var 0) (.const (.int 4))))) .nil)) (.const (.int 40692))) .nil)) (.const (.int 2147483647)))) (.cons (.asg (.name 2) (.bin .mod (.bi false .int1 (.cons (.bin .mul (.var 2) (.bin .add (.bin .fdiv (.var 2) (.const (.int 1009))) (.const (.int 69621)))) .nil)) (.const (.int 2147483647)))) (.cons (.asg (.name 2) (.bin .mod (.bi false .int1 (.cons (.bin .mul (.var 2) (.bin .add (.bin .fdiv (.var 2) (.const (.int 2003))) (.const (.int 40014)))) .nil)) (.const (.int 2147483563)))) (.cons (.ret (.bin .mod (.bi false .int1 (.cons (.bin .fdiv (.var 2) (.const (.int 16))) .nil)) (.var 1))) .nil)))))))
def d24 : Dfn := ⟨2, 5, b24⟩
def r24 : DefR := ⟨"_law_draw", top 53, ["hand", "many", "number", "cell", "digit"], ["hand", "many"], d24, false, false⟩
/-- _law_any -/
def b25 : Ss := (.cons (.ret (.idx (.var 1) (.call 24 (.cons (.var 0) (.cons (.bi false .len (.cons (.var 1) .nil)) .nil))))) .nil)
def d25 : Dfn := ⟨2, 2, b25⟩
def r25 : DefR := ⟨"_law_any", top 54, ["hand", "some"], ["hand", "some"], d25, false, false⟩
/-- _law_form -/
def b26 : Ss := (.cons (.asg (.name 2) (.dict true .nil)) (.cons (.for_ (.tup (.cons (.name 3) (.cons (.name 4) .nil))) (.seq (.var 1)) (.cons (.asg (.sub (.var 2) (.var 3)) (.bin .add (.meth .get2 (.var 2) (.cons (.var 3) (.cons (.const (.int 0)) .nil))) (.var 4))) .nil)) (.cons (.ret (.tup (.cons (.var 0) (.cons (.bi false .tuple1 (.cons (.comp false [3] (.tup (.cons (.var 3) (.cons (.idx (.var 2) (.var 3)) .nil))) (.name 3) (.seq (.bi false .sorted1 (.cons (.var 2) .nil))) (.cons (.cmp .ne (.idx (.var 2) (.var 3)) (.const (.int 0))) .nil)) .nil)) .nil)))) .nil)))
def d26 : Dfn := ⟨2, 5, b26⟩
def r26 : DefR := ⟨"_law_form", top 55, ["c", "pairs", "known", "variable", "k"], ["c", "pairs"], d26, false, false⟩
/-- _law_said -/
def b27 : Ss := (.cons (.try_ (.cons (.ex (.callv 0)) .nil) (.own "WarrantError") (some 1) (.cons (.asg (.name 2) (.lst false (.cons (.isin (.var 1) [(.own "NoClaims")]) (.cons (.isin (.var 1) [(.own "NoFlag")]) (.cons (.isin (.var 1) [(.own "NoIns")]) .nil))))) (.cons (.asg (.name 2) (.bin .add (.var 2) (.lst false (.cons (.isin (.var 1) [(.own "NoInteger")]) (.cons (.isin (.var 1) [(.own "NoLengths")]) (.cons (.isin (.var 1) [(.own "NoPromise")]) .nil)))))) (.cons (.asg (.name 2) (.bin .add (.var 2) (.lst false (.cons (.isin (.var 1) [(.own "NoRows")]) .nil)))) (.cons (.iff (.bool false (.cons (.cmp .ne (.meth .count (.var 2) (.cons (.const (.bl true)) .nil)) (.const (.int 1))) (.cons (.not (.val (.isin (.var 1) [(.bt .verr)]))) .nil))) (.cons (.ret (.const (.str "odd"))) .nil) .nil) (.cons (.ret (.idx (.lst false (.cons (.const (.str "claims")) (.cons (.const (.str "flag")) (.cons (.const (.str "ins")) (.cons (.const (.str "integer")) (.cons (.const (.str "lengths")) (.cons (.const (.str "promise")) (.cons (.const (.str "rows")) .nil)))))))) (.meth .index (.var 2) (.cons (.const (.bl true)) .nil)))) .nil)))))) (.cons (.ret (.const (.str "let"))) .nil))
def d27 : Dfn := ⟨1, 3, b27⟩
def r27 : DefR := ⟨"_law_said", top 56, ["call", "error", "some"], ["call"], d27, false, true⟩
/-- _law_promised -/
def b28 : Ss := (.cons (.par [6, 7] (.cons (.call 24 (.cons (.var 0) (.cons (.const (.int 4)) .nil))) (.cons (.lst true .nil) .nil))) (.cons (.for_ (.name 1) (.range (.cons (.call 24 (.cons (.var 0) (.cons (.const (.int 3)) .nil))) .nil)) (.cons (.asg (.name 8) (.call 24 (.cons (.var 0) (.cons (.const (.int 5)) .nil)))) (.cons (.ex (.meth .append (.var 7) (.cons (.call 25 (.cons (.var 0) (.cons (.lst false (.cons (.const .non) (.cons (.tup (.cons (.var 8) (.cons (.bin .add (.var 8) (.call 24 (.cons (.var 0) (.cons (.const (.int 6)) .nil)))) .nil))) .nil))) .nil))) .nil))) .nil))) (.cons (.asg (.name 2) (.bin .add (.lrange false (.cons (.var 6) .nil)) (.comp false [1] (.bin .add (.const (.int 32)) (.var 1)) (.name 1) (.range (.cons (.bi false .len (.cons (.var 7) .nil)) .nil)) .nil))) (.cons (.asg (.name 3) (.bi false .tuple1 (.cons (.comp false [9] (.call 29 (.cons (.var 0) (.cons (.var 2) .nil))) (.name 9) (.range (.cons (.call 24 (.cons (.var 0) (.cons (.const (.int 3)) .nil))) .nil)) .nil) .nil))) (.cons (.asg (.name 4) (.bi false .tuple1 (.cons (.comp false [10] (.call 29 (.cons (.var 0) (.cons (.bin .add (.var 2) (.lst false (.cons (.const (.int 31)) .nil))) .nil))) (.name 10) (.range (.cons (.call 24 (.cons (.var 0) (.cons (.const (.int 3)) .nil))) .nil)) .nil) .nil))) (.cons (.asg (.name 5) (.bi false .tuple1 (.cons (.comp false [11] (.call 29 (.cons (.var 0) (.cons (.var 2) .nil))) (.name 11) (.range (.cons (.bin .add (.const (.int 1)) (.call 24 (.cons (.var 0) (.cons (.const (.int 4)) .nil)))) .nil)) .nil) .nil))) (.cons (.ret (.tup (.cons (.const (.str "prom")) (.cons (.var 6) (.cons (.bi false .tuple1 (.cons (.var 7) .nil)) (.cons (.var 3) (.cons (.var 4) (.cons (.var 5) .nil)))))))) .nil)))))))
def d28 : Dfn := ⟨1, 12, b28⟩
def r28 : DefR := ⟨"_law_promised", top 57, ["hand", "row", "variables", "needs", "gives", "reach", "ins", "entries", "low", "need", "give", "form"], ["hand"], d28, false, false⟩
/-- _law_claim -/
def b29 : Ss := (.cons (.asg (.name 2) (.lst true .nil)) (.cons (.iff (.cmp .ne (.var 1) (.lst false .nil)) (.cons (.for_ (.name 3) (.range (.cons (.call 24 (.cons (.var 0) (.cons (.const (.int 3)) .nil))) .nil)) (.cons (.ex (.meth .append (.var 2) (.cons (.tup (.cons (.call 25 (.cons (.var 0) (.cons (.var 1) .nil))) (.cons (.call 25 (.cons (.var 0) (.cons (.lst false (.cons (.const (.int 1)) (.cons (.neg (.const (.int 1))) (.cons (.const (.int 2)) (.cons (.const (.int 3)) .nil))))) .nil))) .nil))) .nil))) .nil)) .nil) .nil) (.cons (.frz 2) (.cons (.ret (.call 26 (.cons (.bin .sub (.call 24 (.cons (.var 0) (.cons (.const (.int 9)) .nil))) (.const (.int 3))) (.cons (.var 2) .nil)))) .nil))))
def d29 : Dfn := ⟨2, 4, b29⟩
def r29 : DefR := ⟨"_law_claim", top 58, ["hand", "variables", "pairs_here", "part"], ["hand", "variables"], d29, false, false⟩
/-- _law_worth -/
def b30 : Ss := (.cons (.asg (.name 4) (.idx (.var 0) (.const (.int 0)))) (.cons (.for_ (.tup (.cons (.name 5) (.cons (.name 6) .nil))) (.seq (.idx (.var 0) (.const (.int 1)))) (.cons (.asg (.name 4) (.bin .add (.var 4) (.bin .mul (.var 6) (.ite (.cmp .eq (.var 5) (.const (.int 31))) (.var 3) (.ite (.cmp .lt (.var 5) (.const (.int 31))) (.idx (.var 1) (.var 5)) (.idx (.var 2) (.bin .sub (.var 5) (.const (.int 32))))))))) .nil)) (.cons (.ret (.var 4)) .nil)))
def d30 : Dfn := ⟨4, 7, b30⟩
def r30 : DefR := ⟨"_law_worth", top 59, ["form", "ins", "lengths", "out", "found", "variable", "k"], ["form", "ins", "lengths", "out"], d30, false, false⟩
/-- _law_refused_right -/
def b31 : Ss := (.cons (.asg (.name 5) (.lst false (.cons (.const .non) (.cons (.const (.str "?")) (.cons (.tup .nil) (.cons (.slice (.var 1) .none (.some (.const (.int 5)))) (.cons (.bi false .list1 (.cons (.var 1) .nil)) (.cons (.bin .add (.tup (.cons (.const (.str "Prom")) .nil)) (.slice (.var 1) (.some (.const (.int 1))) .none)) (.cons (.bin .add (.slice (.var 1) .none (.some (.const (.int 5)))) (.tup (.cons (.tup .nil) .nil))) (.cons (.bin .add (.var 1) (.tup (.cons (.const (.int 0)) .nil))) .nil)))))))))) (.cons (.asg (.name 5) (.call 25 (.cons (.var 0) (.cons (.var 5) .nil)))) (.cons (.asg (.name 6) (.call 25 (.cons (.var 0) (.cons (.lst false (.cons (.const .non) (.cons (.const (.str "?")) (.cons (.bi false .list1 (.cons (.var 2) .nil)) (.cons (.bin .add (.var 2) (.tup (.cons (.const (.int 0)) .nil))) (.cons (.bin .add (.var 2) (.tup (.cons (.const (.str "?")) .nil))) (.cons (.const (.int 0)) .nil))))))) .nil)))) (.cons (.asg (.name 7) (.call 25 (.cons (.var 0) (.cons (.lst false (.cons (.const .non) (.cons (.const (.str "?")) (.cons (.bi false .list1 (.cons (.var 4) .nil)) (.cons (.bin .add (.var 4) (.tup (.cons (.const (.int 0)) .nil))) (.cons (.bin .add (.var 4) (.tup (.cons (.neg (.const (.int 1))) .nil))) (.cons (.const (.int 0)) .nil))))))) .nil)))) (.cons (.asg (.name 8) (.call 25 (.cons (.var 0) (.cons (.lst false (.cons (.const .non) (.cons (.const (.str "?")) (.cons (.bi false .list1 (.cons (.var 3) .nil)) (.cons (.bin .add (.var 3) (.tup (.cons (.tup .nil) .nil))) (.cons (.bin .add (.var 3) (.tup (.cons (.tup (.cons (.const (.bl true)) .nil)) .nil))) (.cons (.const (.int 0)) .nil))))))) .nil)))) (.cons (.asg (.name 9) (.call 25 (.cons (.var 0) (.cons (.lst false (.cons (.const .non) (.cons (.const (.str "?")) (.cons (.lst false (.cons (.tup (.cons (.const (.int 0)) (.cons (.tup .nil) .nil))) .nil)) (.cons (.tup (.cons (.tup (.cons (.const (.int 0)) (.cons (.tup (.cons (.tup (.cons (.const (.int 40)) (.cons (.const (.int 1)) .nil))) .nil)) .nil))) .nil)) (.cons (.tup (.cons (.tup (.cons (.const (.int 0)) .nil)) .nil)) (.cons (.tup (.cons (.const (.int 1)) .nil)) (.cons (.tup (.cons (.tup (.cons (.const (.bl true)) (.cons (.tup .nil) .nil))) .nil)) .nil)))))))) .nil)))) (.cons (.asg (.name 10) (.lst true (.cons (.calllam 27 (.call 17 (.cons (.var 5) (.cons (.var 6) (.cons (.var 7) .nil))))) .nil))) (.cons (.ex (.meth .append (.var 10) (.cons (.calllam 27 (.call 17 (.cons (.var 1) (.cons (.var 6) (.cons (.var 7) .nil))))) .nil))) (.cons (.ex (.meth .append (.var 10) (.cons (.calllam 27 (.call 17 (.cons (.var 1) (.cons (.var 2) (.cons (.var 7) .nil))))) .nil))) (.cons (.ex (.meth .append (.var 10) (.cons (.calllam 27 (.call 20 (.cons (.var 5) (.cons (.var 6) (.cons (.var 8) .nil))))) .nil))) (.cons (.ex (.meth .append (.var 10) (.cons (.calllam 27 (.call 20 (.cons (.var 1) (.cons (.var 6) (.cons (.var 8) .nil))))) .nil))) (.cons (.ex (.meth .append (.var 10) (.cons (.calllam 27 (.call 20 (.cons (.var 1) (.cons (.var 2) (.cons (.var 8) .nil))))) .nil))) (.cons (.ex (.meth .append (.var 10) (.cons (.calllam 27 (.call 21 (.cons (.var 5) (.cons (.var 6) (.cons (.var 7) (.cons (.const .non) .nil)))))) .nil))) (.cons (.ex (.meth .append (.var 10) (.cons (.calllam 27 (.call 21 (.cons (.var 1) (.cons (.var 2) (.cons (.var 7) (.cons (.const .non) .nil)))))) .nil))) (.cons (.ex (.meth .append (.var 10) (.cons (.calllam 27 (.call 21 (.cons (.var 1) (.cons (.var 2) (.cons (.var 4) (.cons (.call 25 (.cons (.var 0) (.cons (.lst false (.cons (.const .non) (.cons (.const (.bl true)) (.cons (.const (.str "?")) (.cons (.tup (.cons (.const (.int 1)) .nil)) .nil))))) .nil))) .nil)))))) .nil))) (.cons (.ex (.meth .append (.var 10) (.cons (.calllam 27 (.call 22 (.cons (.var 9) (.cons (.var 9) (.cons (.const (.int 0)) .nil))))) .nil))) (.cons (.ex (.meth .append (.var 10) (.cons (.calllam 27 (.call 22 (.cons (.tup .nil) (.cons (.var 9) (.cons (.const (.int 0)) .nil))))) .nil))) (.cons (.ex (.meth .append (.var 10) (.cons (.calllam 27 (.call 22 (.cons (.tup .nil) (.cons (.tup .nil) (.cons (.call 25 (.cons (.var 0) (.cons (.lst false (.cons (.const (.int 0)) (.cons (.const (.int 1)) (.cons (.const .non) (.cons (.const (.str "?")) .nil))))) .nil))) .nil))))) .nil))) (.cons (.asg (.name 11) (.lst false (.cons (.const (.str "promise")) (.cons (.const (.str "ins")) (.cons (.const (.str "lengths")) (.cons (.const (.str "promise")) (.cons (.const (.str "ins")) (.cons (.const (.str "rows")) (.cons (.const (.str "promise")) (.cons (.const (.str "lengths")) (.cons (.const (.str "integer")) .nil))))))))))) (.cons (.ret (.cmp .eq (.var 10) (.bin .add (.var 11) (.lst false (.cons (.const (.str "claims")) (.cons (.const (.str "claims")) (.cons (.const (.str "flag")) .nil))))))) .nil))))))))))))))))))))
def d31 : Dfn := ⟨5, 12, b31⟩
def r31 : DefR := ⟨"_law_refused_right", top 60, ["hand", "promise", "ins", "rows", "lengths", "bad", "none", "odd", "far", "claims", "said", "due"], ["hand", "promise", "ins", "rows", "lengths"], d31, true, false⟩
/-- law -/
def b32 : Ss := (.cons (.asg (.name 1) (.call 23 (.cons (.var 0) .nil))) (.cons (.for_ (.name 2) (.range (.cons (.const (.int 8)) .nil)) (.cons (.asg (.name 3) (.call 28 (.cons (.var 1) .nil))) (.cons (.asg (.name 4) (.bi false .tuple1 (.cons (.comp false [17] (.bin .sub (.call 24 (.cons (.var 1) (.cons (.const (.int 12)) .nil))) (.const (.int 3))) (.name 17) (.range (.cons (.idx (.var 3) (.const (.int 1))) .nil)) .nil) .nil))) (.cons (.asg (.name 5) (.bi false .tuple1 (.cons (.comp false [14] (.bi false .tuple1 (.cons (.comp false [20] (.call 24 (.cons (.var 1) (.cons (.const (.int 9)) .nil))) (.name 20) (.range (.cons (.call 24 (.cons (.var 1) (.cons (.const (.int 4)) .nil))) .nil)) .nil) .nil)) (.name 14) (.seq (.idx (.var 3) (.const (.int 2)))) .nil) .nil))) (.cons (.asg (.tup (.cons (.name 11) (.cons (.name 12) .nil))) (.tup (.cons (.bi false .tuple1 (.cons (.comp false [14] (.bi false .len (.cons (.var 14) .nil)) (.name 14) (.seq (.var 5)) .nil) .nil)) (.cons (.bin .sub (.call 24 (.cons (.var 1) (.cons (.const (.int 21)) .nil))) (.const (.int 10))) .nil)))) (.cons (.asg (.name 6) (.bi false .all (.cons (.comp false [18] (.cmp .ge (.call 30 (.cons (.var 18) (.cons (.var 4) (.cons (.var 11) (.cons (.const (.int 0)) .nil))))) (.const (.int 0))) (.name 18) (.seq (.idx (.var 3) (.const (.int 3)))) .nil) .nil))) (.cons (.asg (.name 7) (.const (.int 1))) (.cons (.for_ (.name 8) (.seq (.idx (.var 3) (.const (.int 5)))) (.cons (.asg (.name 7) (.bin .mul (.var 7) (.bin .add (.call 30 (.cons (.var 8) (.cons (.var 4) (.cons (.var 11) (.cons (.const (.int 0)) .nil))))) (.const (.int 1))))) .nil)) (.cons (.iff (.bool false (.cons (.cmp .isNot (.call 9 (.cons (.var 3) .nil)) (.const (.bl true))) (.cons (.cmp .ne (.call 17 (.cons (.var 3) (.cons (.var 4) (.cons (.var 11) .nil)))) (.ite (.val (.var 6)) (.var 7) (.const .non))) .nil))) (.cons (.ret (.const (.bl false))) .nil) .nil) (.cons (.asg (.name 9) (.const (.bl true))) (.cons (.for_ (.tup (.cons (.name 13) (.cons (.name 14) .nil))) (.zip (.idx (.var 3) (.const (.int 2))) (.var 5)) (.cons (.iff (.bool true (.cons (.cmp .isNot (.var 13) (.const .non)) (.cons (.not (.val (.bi false .all (.cons (.comp false [20] (.chain .le .le (.idx (.var 13) (.const (.int 0))) (.var 20) (.idx (.var 13) (.const (.int 1)))) (.name 20) (.seq (.var 14)) .nil) .nil)))) .nil))) (.cons (.asg (.name 9) (.const (.bl false))) .nil) .nil) .nil)) (.cons (.iff (.cmp .ne (.call 20 (.cons (.var 3) (.cons (.var 4) (.cons (.var 5) .nil)))) (.bool true (.cons (.var 6) (.cons (.var 9) .nil)))) (.cons (.ret (.const (.bl false))) .nil) .nil) (.cons (.asg (.name 10) (.bi false .all (.cons (.comp false [19] (.cmp .ge (.call 30 (.cons (.var 19) (.cons (.var 4) (.cons (.var 11) (.cons (.var 12) .nil))))) (.const (.int 0))) (.name 19) (.seq (.idx (.var 3) (.const (.int 4)))) .nil) .nil))) (.cons (.iff (.cmp .ne (.call 21 (.cons (.var 3) (.cons (.var 4) (.cons (.var 11) (.cons (.var 12) .nil))))) (.var 10)) (.cons (.ret (.const (.bl false))) .nil) .nil) (.cons (.par [15, 16] (.cons (.idx (.var 3) (.const (.int 5))) (.cons (.idx (.var 3) (.const (.int 3))) .nil))) (.cons (.iff (.cmp .ne (.call 22 (.cons (.var 15) (.cons (.var 16) (.cons (.const (.bl false)) .nil)))) (.var 15)) (.cons (.ret (.const (.bl false))) .nil) .nil) (.cons (.iff (.cmp .ne (.call 22 (.cons (.var 15) (.cons (.var 16) (.cons (.const (.bl true)) .nil)))) (.bin .add (.bin .add (.var 15) (.var 16)) (.tup (.cons (.tup (.cons (.const (.int 1)) (.cons (.tup .nil) .nil))) .nil)))) (.cons (.ret (.const (.bl false))) .nil) .nil) (.cons (.iff (.not (.val (.call 31 (.cons (.var 1) (.cons (.var 3) (.cons (.var 4) (.cons (.var 5) (.cons (.var 11) .nil)))))))) (.cons (.ret (.const (.bl false))) .nil) .nil) .nil)))))))))))))))))) (.cons (.asg (.name 3) (.tup (.cons (.const (.str "count")) (.cons (.const (.int 1)) (.cons (.tup .nil) (.cons (.tup (.cons (.tup (.cons (.const (.int 0)) (.cons (.tup (.cons (.tup (.cons (.const (.int 0)) (.cons (.const (.int 1)) .nil))) .nil)) .nil))) .nil)) (.cons (.tup .nil) (.cons (.tup (.cons (.tup (.cons (.const (.int 1)) (.cons (.tup (.cons (.tup (.cons (.const (.int 0)) (.cons (.const (.int 1)) .nil))) .nil)) .nil))) (.cons (.tup (.cons (.const (.int 3)) (.cons (.tup .nil) .nil))) .nil))) .nil)))))))) (.cons (.ret (.bool true (.cons (.cmp .eq (.call 17 (.cons (.var 3) (.cons (.tup (.cons (.const (.int 5)) .nil)) (.cons (.tup .nil) .nil)))) (.const (.int 28))) (.cons (.cmp .is_ (.call 17 (.cons (.var 3) (.cons (.tup (.cons (.neg (.const (.int 1))) .nil)) (.cons (.tup .nil) .nil)))) (.const .non)) .nil)))) .nil))))
def d32 : Dfn := ⟨1, 21, b32⟩
def r32 : DefR := ⟨"law", top 61, ["script", "hand", "turn_no", "promise", "ins", "rows", "good", "product", "form", "inside", "due", "lengths", "out", "entry", "row", "tops", "under", "one", "need", "give", "cell"], ["script"], d32, false, false⟩
def defs : List DefR := [r0, r1, r2, r3, r4, r5, r6, r7, r8, r9, r10, r11, r12, r13, r14, r15, r16, r17, r18, r19, r20, r21, r22, r23, r24, r25, r26, r27, r28, r29, r30, r31, r32]
def q3 (x : PySem.Str) (c : Cl) (b : Bool) : PySem.Str × Cl × Bool := (x, c, b)
def q2 (x : PySem.Str) (p : PV) : PySem.Str × PV := (x, p)
def subT : SubT := [q3 "WarrantError" (.own "NoClaims") false, q3 "WarrantError" (.own "NoFlag") false, q3 "WarrantError" (.own "NoIns") false, q3 "WarrantError" (.own "NoInteger") false, q3 "WarrantError" (.own "NoLengths") false, q3 "WarrantError" (.own "NoPromise") false, q3 "WarrantError" (.own "NoRows") false, q3 "WarrantError" (.bt .verr) true, q3 "WarrantError" (.own "WarrantError") true, q3 "NoInteger" (.own "NoClaims") false, q3 "NoInteger" (.own "NoFlag") false, q3 "NoInteger" (.own "NoIns") false, q3 "NoInteger" (.own "NoInteger") true, q3 "NoInteger" (.own "NoLengths") false, q3 "NoInteger" (.own "NoPromise") false, q3 "NoInteger" (.own "NoRows") false, q3 "NoInteger" (.bt .verr) true, q3 "NoInteger" (.own "WarrantError") true, q3 "NoClaims" (.own "NoClaims") true, q3 "NoClaims" (.own "NoFlag") false, q3 "NoClaims" (.own "NoIns") false, q3 "NoClaims" (.own "NoInteger") false, q3 "NoClaims" (.own "NoLengths") false, q3 "NoClaims" (.own "NoPromise") false, q3 "NoClaims" (.own "NoRows") false, q3 "NoClaims" (.bt .verr) true, q3 "NoClaims" (.own "WarrantError") true, q3 "NoPromise" (.own "NoClaims") false, q3 "NoPromise" (.own "NoFlag") false, q3 "NoPromise" (.own "NoIns") false, q3 "NoPromise" (.own "NoInteger") false, q3 "NoPromise" (.own "NoLengths") false, q3 "NoPromise" (.own "NoPromise") true, q3 "NoPromise" (.own "NoRows") false, q3 "NoPromise" (.bt .verr) true, q3 "NoPromise" (.own "WarrantError") true, q3 "NoIns" (.own "NoClaims") false, q3 "NoIns" (.own "NoFlag") false, q3 "NoIns" (.own "NoIns") true, q3 "NoIns" (.own "NoInteger") false, q3 "NoIns" (.own "NoLengths") false, q3 "NoIns" (.own "NoPromise") false, q3 "NoIns" (.own "NoRows") false, q3 "NoIns" (.bt .verr) true, q3 "NoIns" (.own "WarrantError") true, q3 "NoLengths" (.own "NoClaims") false, q3 "NoLengths" (.own "NoFlag") false, q3 "NoLengths" (.own "NoIns") false, q3 "NoLengths" (.own "NoInteger") false, q3 "NoLengths" (.own "NoLengths") true, q3 "NoLengths" (.own "NoPromise") false, q3 "NoLengths" (.own "NoRows") false, q3 "NoLengths" (.bt .verr) true, q3 "NoLengths" (.own "WarrantError") true, q3 "NoRows" (.own "NoClaims") false, q3 "NoRows" (.own "NoFlag") false, q3 "NoRows" (.own "NoIns") false, q3 "NoRows" (.own "NoInteger") false, q3 "NoRows" (.own "NoLengths") false, q3 "NoRows" (.own "NoPromise") false, q3 "NoRows" (.own "NoRows") true, q3 "NoRows" (.bt .verr) true, q3 "NoRows" (.own "WarrantError") true, q3 "NoFlag" (.own "NoClaims") false, q3 "NoFlag" (.own "NoFlag") true, q3 "NoFlag" (.own "NoIns") false, q3 "NoFlag" (.own "NoInteger") false, q3 "NoFlag" (.own "NoLengths") false, q3 "NoFlag" (.own "NoPromise") false, q3 "NoFlag" (.own "NoRows") false, q3 "NoFlag" (.bt .verr) true, q3 "NoFlag" (.own "WarrantError") true]
def tb : Tab := ⟨defs.map (·.x), [q2 "FIRST_LENGTH" (.int 32), q2 "MOST_BOUND" (.int 1000000000), q2 "MOST_CELLS" (.int 200), q2 "MOST_CLAIMS" (.int 80), q2 "MOST_INS" (.int 6), q2 "MOST_NAME" (.int 8), q2 "MOST_PARTS" (.int 12), q2 "MOST_PROMISED" (.int 12), q2 "MOST_REACH" (.int 16), q2 "MOST_ROWS" (.int 4), q2 "MOST_TIMES" (.int 1000000000), q2 "MOST_WHOLE" (.int 1000000000000000), q2 "NEW" (.int 36), q2 "OUT" (.int 31), q2 "STEP" (.tup [(.int 1), (.tup [])])], ["WarrantError", "NoInteger", "NoClaims", "NoPromise", "NoIns", "NoLengths", "NoRows", "NoFlag"], ["ValueError", "abs", "all", "any", "bool", "enumerate", "int", "isinstance", "len", "list", "range", "sorted", "str", "sum", "tuple", "zip"], [27]⟩
def P : Prog := ⟨defs.map (·.d), subOf subT, 1000⟩
def loose : List PySem.Str := (["WarrantError", "NoInteger", "NoClaims", "NoPromise", "NoIns", "NoLengths", "NoRows", "NoFlag", "OUT", "FIRST_LENGTH", "NEW", "MOST_PARTS", "MOST_WHOLE", "MOST_TIMES", "is_integer", "is_within", "is_part", "is_form", "raw_value", "are_claims", "MOST_NAME", "MOST_INS", "MOST_ROWS", "MOST_PROMISED", "MOST_REACH", "MOST_BOUND", "STEP", "is_name", "is_entry", "are_over"] : List PySem.Str) ++ (["is_promise", "raw_reach", "MOST_CELLS", "MOST_CLAIMS", "check_promise", "check_ins", "check_lengths", "are_rows", "values_by", "raw_steps", "steps_told", "is_cell_in", "raw_keeps", "keeps_needs", "keeps_gives", "reach_of", "_law_hand", "_law_draw", "_law_any", "_law_form", "_law_said", "_law_promised", "_law_claim", "_law_worth", "_law_refused_right"] : List PySem.Str)
def lawAt : Nat := 61
def lawIx : Nat := 32
theorem bn0 : BindsN r0 := fun _ _ _ _ _ _ us hl => match us, hl with | [_], _ => rfl
theorem bn1 : BindsN r1 := fun _ _ _ _ _ _ us hl => match us, hl with | [_, _, _], _ => rfl
theorem bn2 : BindsN r2 := fun _ _ _ _ _ _ us hl => match us, hl with | [_], _ => rfl
theorem bn3 : BindsN r3 := fun _ _ _ _ _ _ us hl => match us, hl with | [_], _ => rfl
theorem bn4 : BindsN r4 := fun _ _ _ _ _ _ us hl => match us, hl with | [_, _], _ => rfl
theorem bn5 : BindsN r5 := fun _ _ _ _ _ _ us hl => match us, hl with | [_, _], _ => rfl
theorem bn6 : BindsN r6 := fun _ _ _ _ _ _ us hl => match us, hl with | [_], _ => rfl
theorem bn7 : BindsN r7 := fun _ _ _ _ _ _ us hl => match us, hl with | [_], _ => rfl
theorem bn8 : BindsN r8 := fun _ _ _ _ _ _ us hl => match us, hl with | [_, _, _, _], _ => rfl
theorem bn9 : BindsN r9 := fun _ _ _ _ _ _ us hl => match us, hl with | [_], _ => rfl
theorem bn10 : BindsN r10 := fun _ _ _ _ _ _ us hl => match us, hl with | [_, _, _], _ => rfl
theorem bn11 : BindsN r11 := fun _ _ _ _ _ _ us hl => match us, hl with | [_], _ => rfl
theorem bn12 : BindsN r12 := fun _ _ _ _ _ _ us hl => match us, hl with | [_, _], _ => rfl
theorem bn13 : BindsN r13 := fun _ _ _ _ _ _ us hl => match us, hl with | [_, _], _ => rfl
theorem bn14 : BindsN r14 := fun _ _ _ _ _ _ us hl => match us, hl with | [_, _], _ => rfl
theorem bn15 : BindsN r15 := fun _ _ _ _ _ _ us hl => match us, hl with | [_, _], _ => rfl
theorem bn16 : BindsN r16 := fun _ _ _ _ _ _ us hl => match us, hl with | [_, _], _ => rfl
theorem bn17 : BindsN r17 := fun _ _ _ _ _ _ us hl => match us, hl with | [_, _, _], _ => rfl
theorem bn18 : BindsN r18 := fun _ _ _ _ _ _ us hl => match us, hl with | [_, _], _ => rfl
theorem bn19 : BindsN r19 := fun _ _ _ _ _ _ us hl => match us, hl with | [_, _, _], _ => rfl
theorem bn20 : BindsN r20 := fun _ _ _ _ _ _ us hl => match us, hl with | [_, _, _], _ => rfl
theorem bn21 : BindsN r21 := fun _ _ _ _ _ _ us hl => match us, hl with | [_, _, _, _], _ => rfl
theorem bn22 : BindsN r22 := fun _ _ _ _ _ _ us hl => match us, hl with | [_, _, _], _ => rfl
theorem bn23 : BindsN r23 := fun _ _ _ _ _ _ us hl => match us, hl with | [_], _ => rfl
theorem bn24 : BindsN r24 := fun _ _ _ _ _ _ us hl => match us, hl with | [_, _], _ => rfl
theorem bn25 : BindsN r25 := fun _ _ _ _ _ _ us hl => match us, hl with | [_, _], _ => rfl
theorem bn26 : BindsN r26 := fun _ _ _ _ _ _ us hl => match us, hl with | [_, _], _ => rfl
theorem bn27 : BindsN r27 := fun _ _ _ _ _ _ us hl => match us, hl with | [_], _ => rfl
theorem bn28 : BindsN r28 := fun _ _ _ _ _ _ us hl => match us, hl with | [_], _ => rfl
theorem bn29 : BindsN r29 := fun _ _ _ _ _ _ us hl => match us, hl with | [_, _], _ => rfl
theorem bn30 : BindsN r30 := fun _ _ _ _ _ _ us hl => match us, hl with | [_, _, _, _], _ => rfl
theorem bn31 : BindsN r31 := fun _ _ _ _ _ _ us hl => match us, hl with | [_, _, _, _, _], _ => rfl
theorem bn32 : BindsN r32 := fun _ _ _ _ _ _ us hl => match us, hl with | [_], _ => rfl
theorem st_ok : defs.all (okDef tb) = true := by decide +kernel
theorem static : Static tb P subT defs := ⟨rfl, rfl, rfl, st_ok, by decide +kernel, ⟨bn0, bn1, bn2, bn3, bn4, bn5, bn6, bn7, bn8, bn9, bn10, bn11, bn12, bn13, bn14, bn15, bn16, bn17, bn18, bn19, bn20, bn21, bn22, bn23, bn24, bn25, bn26, bn27, bn28, bn29, bn30, bn31, bn32, trivial⟩, by decide +kernel⟩
end CW.K14
end

section
set_option Elab.async false
set_option linter.all false
set_option maxRecDepth 100000
set_option maxHeartbeats 0
/-! k14: the head. -/
namespace CW.K14
open PySem PySem.Spec PyProof.Rows L2
abbrev R : PySem.W.OpenRow := PySem.W.OpenLaw.row PySem.Challenge.rw_codewarrant_k14_whole_steps_needs_and_gi
abbrev hk : PySem.W.Hook := He.hookX 4 (faOf tb defs) (fnsOf defs) [] (lamsOf defs) (exB tb subT defs)
def ob (s : PySem.W.SharedT) : He.AlX := He.obsX 4 (faOf tb defs) (fnsOf defs) [] (lamsOf defs) (exB tb subT defs) (HandSHeadRun.getT s)
theorem ob_eq (s : PySem.W.SharedT) : ob s = hk.obs s.abs := He.obsX_eq (HandSHeadRun.getT_eq s)
theorem run (w : World) : HandSHeadRun.RunEq R (PySem.W.view R.prog [61]) hk ob 3000 loose w := by
  intro os
  kernel_rfl
end CW.K14
end

section
set_option Elab.async false
set_option linter.all false
set_option maxRecDepth 100000
set_option maxHeartbeats 0
namespace CW.K14
open PySem PySem.Spec PyProof.Rows L2
theorem told : HasTold P 0 1 2 3 5 6 7 8 9 4 11 12 13 14 15 16 := ⟨⟨⟨⟨rfl, rfl, rfl, rfl⟩, rfl, rfl, rfl, rfl⟩, rfl⟩, rfl, rfl, rfl, rfl, rfl, rfl, rfl⟩
theorem k14p : K14P P where
  T := told
  st := rfl
  kn := rfl
  rk := rfl
  ic := rfl
  kg := rfl
  ro := rfl
  rr := rfl
  L := ⟨⟨rfl, rfl⟩, rfl, rfl⟩
  ha := rfl
  sa := rfl
  pr := rfl
  wo := rfl
  sc := by constructor <;> decide +kernel
  sf := by constructor <;> decide +kernel
  si := by constructor <;> decide +kernel
  sn := by constructor <;> decide +kernel
  sl := by constructor <;> decide +kernel
  sp := by constructor <;> decide +kernel
  sr := by constructor <;> decide +kernel
theorem law_true (ns : List Int) (hl : ns.length ≤ 63) (hb : ∀ z ∈ ns, Builtin.Int.intBits z ≤ 1048576) : ∃ S', callN P 41 lawIx [.lst (ns.map .int)] [] = .ok (.bl true) S' := ⟨[], law_ok (n := 29) k14p rfl rfl hl⟩
end CW.K14
open PySem PySem.W PySem.Calls PyProof.Rows
theorem PySem.Challenge.cw_codewarrant_k14_whole_steps_needs_and_gi_holds : PySem.Challenge.rw_codewarrant_k14_whole_steps_needs_and_gi.Holds := by
  w_on; o_law
  refine HandSHeadRun.head_any (r := CW.K14.R) (q := view CW.K14.R.prog [61]) (H := CW.K14.hk) (ob := CW.K14.ob) (M := 3000) (loose := CW.K14.loose) (d := HandSHeadRun.topDef CW.K14.R.prog 61) (kwd := []) CW.K14.ob_eq
    (by kernel_rfl) (fun s => by kernel_rfl) CW.K14.run (by kernel_rfl) (by kernel_rfl) (by kernel_rfl) (by rfl) (by first | assumption | decide +kernel) (by decide +kernel) ⟨rfl, rfl, rfl, rfl, rfl, by decide +kernel⟩ ?hw ?hc
  case hw => w_witness2
  case hc =>
    refine LamX.walk_ofTsE (l := PySem.Challenge.rw_codewarrant_k14_whole_steps_needs_and_gi) (n := 63) (k := 43) (x := "script") (CX := fun w => L2.CX (PySem.Challenge.rw_codewarrant_k14_whole_steps_needs_and_gi).prog w) rfl (by decide) (by kernel_rfl) ⟨rfl, by decide, by decide⟩ ?F (fun w H s e s' ⟨_, _, _, _, _, _, _, _, _, _, _, _, z⟩ => z)
    intro w mg fa h Y G hmg0
    obtain ⟨K, KX, c⟩ := Y
    have hmg : mg ("law" : PySem.Str) = some (.ref fa) := by
      have e : (HandSHeadRun.topDef CW.K14.R.prog 61).name = ("law" : PySem.Str) := by kernel_rfl
      rw [← e]
      exact hmg0
    exact ⟨K, KX, CW.law_at (r := CW.K14.r32) (n := 40) (lawIx := CW.K14.lawIx) KX G c CW.K14.static rfl rfl hmg CW.K14.law_true⟩
end
