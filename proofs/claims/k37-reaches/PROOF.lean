import PyProof.Rows.All
import Wide.All
import OpenK.AllK
import Wide.FinOn
import PyProof.EqAt
import PyProof.EqKinds
import PyProof.TupleCall
import HandS.ForMost
import HandS.Exc
import HandS.TryOnly
import HandS.TryMany
import HandS.ExcOwn
import HandS.Lambda
import HandS.Deep
import HandS.IsInst
import HandS.TupAny
import HandS.TupMul
import HandS.TupLe
import HandS.Conv
import HandS.Wide
import HandS.Zip
import HandS.Walk
import HandS.Style
import HandS.WordsExc
import HandS.Replace
import HandS.ReplaceLit
import KE.DataMinMax
import KE.DataFind
import KE.DataCmp
import KE.SortData
import KE.GoesMore
import HandS.EndTab
import KE.KNestM
import HandS.Codes
import PySem.Challenge.RW_eightworlds_k37_whole_reaches_of_trees
set_option Elab.async false
set_option linter.all false
set_option maxRecDepth 100000
namespace Mi
open PySem

abbrev D := PyData
abbrev loc (k : Nat) : D := .dict [(.int k, .none)]
abbrev Store := List (List D)
structure Ex where
  cls : Nat
  lim : Int
inductive R (α : Type) where
  | ok (a : α) (S : Store)
  | exc (c : Ex) (S : Store)
  | stuck
def R.bind {α β : Type} (x : R α) (k : α → Store → R β) : R β :=
  match x with
  | .ok a S => k a S
  | .exc c S => .exc c S
  | .stuck => .stuck
/-- no exception passes -/
def R.calm {α : Type} (x : R α) : R α :=
  match x with
  | .ok a S => .ok a S
  | .exc _ _ => .stuck
  | .stuck => .stuck
def lift {α : Type} (o : Option α) (S : Store) : R α := match o with | some a => .ok a S | none => .stuck

def BIG : Nat := 1000000
inductive Bop where | add | sub | mul | fdiv | mod | pow
  deriving DecidableEq
inductive Cop where | eq | ne | lt | le | gt | ge | isin | notin | is_ | isnot
  deriving DecidableEq
inductive Ty where | int | bool | str | tuple | list
  deriving DecidableEq

def binD : Bop → D → D → Option D
  | .add, .int a, .int b => some (.int (a + b))
  | .add, .str a, .str b => if a.length + b.length ≤ BIG then some (.str (a ++ b)) else none
  | .add, .tuple a, .tuple b => if a.length + b.length ≤ BIG then some (.tuple (a ++ b)) else none
  | .add, .list a, .list b => if a.length + b.length ≤ BIG then some (.list (a ++ b)) else none
  | .sub, .int a, .int b => some (.int (a - b))
  | .mul, .int a, .int b => if a.natAbs.log2 + b.natAbs.log2 < 1000000 then some (.int (a * b)) else none
  | .mul, .list a, .int b => if 0 ≤ b ∧ b ≤ 1000 ∧ a.length ≤ 1000 then some (.list (List.replicate b.toNat a).flatten) else none
  | .mul, .tuple a, .int b => if a ≠ [] ∧ 2 ≤ b ∧ b ≤ 1000 ∧ a.length ≤ 1000 then some (.tuple (List.replicate b.toNat a).flatten) else none
  | .fdiv, .int a, .int b => if 0 < b ∧ b.natAbs.log2 < 9000 then some (.int (a / b)) else none
  | .mod, .int a, .int b => if 0 < b then some (.int (a % b)) else none
  | .pow, .int a, .int b => if 0 ≤ b ∧ b ≤ 1000000 ∧ a.natAbs < 2 ^ 64 then some (.int (a ^ b.toNat)) else none
  | _, _, _ => none
def okEq (a b : D) : Bool := a.canLay0 && b.canLay0 && decide (min a.depth b.depth ≤ 64)
def eqD (a b : D) : Option Bool := if okEq a b then some (PyData.eqv a b) else none
def okLt (a b : D) : Bool := a.canLay0 && b.canLay0 && PySem.W.alike a b && (match a with | .none => false | _ => true) && decide (min a.depth b.depth ≤ 64)
def ltD : D → D → Option Bool
  | .int a, .int b => some (decide (a < b))
  | a, b => if okLt a b then some (PySem.W.dataLt a b) else none
def inD (x : D) : D → Option Bool
  | .str z => match x with
    | .str y => (match y.cps.toList with
      | [c] => some (decide (c ∈ z.cps.toList))
      | _ => none)
    | _ => none
  | .list ds => if x.canLay0 && PyData.canLayAll0 ds && decide (min (PyData.depthAll ds) x.depth ≤ 64) then some (ds.any fun z => PyData.eqv z x) else none
  | .tuple ds => if x.canLay0 && PyData.canLayAll0 ds && decide (min (PyData.depthAll ds) x.depth ≤ 64) then some (ds.any fun z => PyData.eqv z x) else none
  | _ => none
def isD : D → D → Option Bool
  | .none, .none => some true
  | _, .none => some false
  | .bool a, .bool b => some (decide (a = b))
  | _, _ => none
def cmpD : Cop → D → D → Option Bool
  | .eq, a, b => eqD a b
  | .ne, a, b => (eqD a b).map (!·)
  | .lt, a, b => ltD a b
  | .gt, a, b => ltD b a
  | .le, a, b => (ltD b a).map (!·)
  | .ge, a, b => (ltD a b).map (!·)
  | .isin, a, b => inD a b
  | .notin, a, b => (inD a b).map (!·)
  | .is_, a, b => isD a b
  | .isnot, a, b => (isD a b).map (!·)

def ixAt {α : Type} (xs : List α) (i : Int) : Option α := L2.atI xs i
def idxD (S : Store) : D → D → Option D
  | .list xs, .int i => L2.atI xs i
  | .tuple xs, .int i => L2.atI xs i
  | .str z, .int i => (L2.atI z.cps.toList i).map fun c => .str ⟨#[c]⟩
  | .dict [(.int k, .none)], .int i => (S[k.toNat]?).bind fun xs => if 0 ≤ k then L2.atI xs i else none
  | _, _ => none
def cutL (xs : List D) (lo hi : Option Int) : List D := (xs.drop (HT.sIx xs.length 0 lo)).take (HT.sIx xs.length xs.length hi - HT.sIx xs.length 0 lo)
def sliceD (lo hi : Option Int) : D → Option D
  | .list xs => some (.list (cutL xs lo hi))
  | .tuple xs => some (.tuple (cutL xs lo hi))
  | .str z => some (.str (L2.cutS z lo hi))
  | _ => none
def revD : D → Option D
  | .list xs => some (.list xs.reverse)
  | .tuple xs => some (.tuple xs.reverse)
  | .str z => some (.str ⟨z.cps.reverse⟩)
  | _ => none
def partD : D → Option Int
  | .int i => some i
  | _ => none
def intsD : List D → Option (List Int)
  | [] => some []
  | .int i :: r => (intsD r).map (i :: ·)
  | _ => none
def boolsD : List D → Option (List Bool)
  | [] => some []
  | .bool i :: r => (boolsD r).map (i :: ·)
  | _ => none
def strsD : List D → Option (List Str)
  | [] => some []
  | .str i :: r => (strsD r).map (i :: ·)
  | _ => none
def lenD : D → Option Int
  | .list xs => some xs.length
  | .tuple xs => some xs.length
  | .str z => some z.length
  | _ => none

inductive Bi where | len | abs | min | max | sum | all | any | tuple | list | sorted | int | str
  deriving DecidableEq
def itemsD : D → Option (List D)
  | .list xs => some xs
  | .tuple xs => some xs
  | _ => none
def minI : List Int → Option Int
  | [] => none
  | x :: xs => some (xs.foldl min x)
def maxI : List Int → Option Int
  | [] => none
  | x :: xs => some (xs.foldl max x)
def biD : Bi → List D → Option D
  | .len, [a] => (lenD a).map .int
  | .abs, [.int i] => some (.int (if i < 0 then -i else i))
  | .min, [a] => ((itemsD a).bind fun xs => (intsD xs).bind minI).map .int
  | .max, [a] => ((itemsD a).bind fun xs => (intsD xs).bind maxI).map .int
  | .min, [.int i, .int j] => some (.int (if j < i then j else i))
  | .max, [.int i, .int j] => some (.int (if j > i then j else i))
  | .sum, [.list xs] => (intsD xs).map fun ns => .int ns.sum
  | .all, [.list xs] => (boolsD xs).map fun bs => .bool (bs.all id)
  | .any, [.list xs] => (boolsD xs).map fun bs => .bool (bs.any id)
  | .tuple, [.list xs] => some (.tuple xs)
  | .tuple, [.tuple xs] => some (.tuple xs)
  | .list, [.list xs] => some (.list xs)
  | .list, [.tuple xs] => some (.list xs)
  | .int, [.int i] => some (.int i)
  | .int, [.bool b] => some (.int (if b then 1 else 0))
  | _, _ => none
inductive Me where | count | index2 | join | replace
  deriving DecidableEq
def meD : Me → D → List D → Option D
  | .count, .str a, [.str b] => some (.int (Txt.count a b))
  | .join, .str a, [.list xs] => (strsD xs).bind fun ys => if (ys.map (·.length)).sum + ys.length * a.length ≤ BIG then some (.str (Txt.join a ys)) else none
  | _, _, _ => none
def instD (t : Ty) : D → Bool
  | .int _ => t = .int
  | .bool _ => t = .int || t = .bool
  | .str _ => t = .str
  | .tuple _ => t = .tuple
  | .list _ => t = .list
  | .dict _ => t = .list
  | .none => false

mutual
inductive E where
  | var (i : Nat)
  | lit (d : D)
  | con (x : Str) (i : Int)
  | bin (o : Bop) (a b : E)
  | neg (a : E)
  | cmp (o : Cop) (a b : E)
  | chain (o o' : Cop) (a b c : E)
  | and (a b : E)
  | or (a b : E)
  | not (a : E)
  | ite (c : B) (a b : E)
  | tup (as : A)
  | lst (as : A)
  | nloc (as : A)
  | idx (a i : E)
  | idxv (i : Nat) (e : E)
  | lenv (i : Nat)
  | slice (a : E) (lo hi : O)
  | rev (a : E)
  | call (f : Nat) (as : A)
  | bi (f : Bi) (as : A)
  | lrng (a : I)
  | me (m : Me) (a : E) (as : A)
  | inst (t : Ty) (a : E)
  | comp (own : List (Str × Nat)) (tg : Tg) (it : I) (c : O2) (e : E)
  | word (e : E)
inductive A where
  | nil
  | cons (e : E) (as : A)
inductive B where
  | val (e : E)
  | cmp (o : Cop) (a b : E)
  | chain (o o' : Cop) (a b c : E)
  | and (a b : B)
  | or (a b : B)
  | not (a : B)
inductive O where
  | no
  | yes (e : E)
inductive O2 where
  | no
  | yes (e : B)
inductive I where
  | val (e : E)
  | rng1 (a : E)
  | rng2 (a b : E)
  | enum (e : E)
  | zip (a b : E)
inductive Tg where
  | name (i : Nat)
  | tup (is : List Nat)
end

inductive Sl where
  | no
  | val (d : D)
  | own (ds : List D)
abbrev Env := List Sl
abbrev CallF := Nat → List D → Store → R D

def getV (env : Env) (i : Nat) : Option D := match env[i]? with | some (.val d) => some d | _ => none
def getO (env : Env) (i : Nat) : Option D := match env[i]? with | some (.val d) => some d | some (.own ds) => some (.list ds) | _ => none
/-- a store to a slot that owns no list -/
def setNames : List Nat → List D → Env → Option Env
  | [], [], env => some env
  | i :: is, d :: ds, env => if i < env.length then setNames is ds (env.set i (.val d)) else none
  | _, _, _ => none
def setG : Tg → D → Env → Option Env
  | .name i, d, env => setNames [i] [d] env
  | .tup is, .tuple ds, env => setNames is ds env
  | _, _, _ => none
def wipeE : List Nat → Env → Option Env
  | [], env => some env
  | i :: is, env => (wipeE is env).bind fun e => match e[i]? with | some (.own _) => none | some _ => some (e.set i .no) | none => none
def pairUp (a b : List D) : List D := List.zipWith (fun x y => .tuple [x, y]) a b
def rngD (a b : Int) : List D := (List.range (b - a).toNat).map fun k => .int (a + (k : Nat))
def enumD : Nat → List D → List D
  | _, [] => []
  | k, x :: xs => .tuple [.int (k : Nat), x] :: enumD (k + 1) xs
def signsD (z : Str) : List D := z.cps.toList.map fun c => .str ⟨#[c]⟩
def iterD : D → Option (List D)
  | .list xs => some xs
  | .tuple xs => some xs
  | .str z => some (signsD z)
  | _ => none
def compL (f : D → Store → R (Option D)) : List D → List D → Store → R D
  | [], acc, S => .ok (.list acc) S
  | x :: xs, acc, S => (f x S).bind fun o S1 => match o with
    | some y => if acc.length < BIG then compL f xs (acc ++ [y]) S1 else .stuck
    | none => compL f xs acc S1
def asB (d : D) (S : Store) : R Bool := match d with | .bool b => .ok b S | _ => .stuck
/-- the word of an exception, by its class -/
abbrev WordF := Ex → Option Str

mutual
def evE (wf : WordF) (cf : Nat → CallF) : E → Env → Store → R D
  | .var i, env, S => lift (getV env i) S
  | .lit d, _, S => .ok d S
  | .con _ i, _, S => .ok (.int i) S
  | .bin o a b, env, S => (evE wf cf a env S).bind fun x S1 => (evE wf cf b env S1).bind fun y S2 => lift (binD o x y) S2
  | .neg a, env, S => (evE wf cf a env S).bind fun x S1 => match x with | .int i => .ok (.int (-i)) S1 | _ => .stuck
  | .cmp o a b, env, S => (evE wf cf a env S).bind fun x S1 => (evE wf cf b env S1).bind fun y S2 => (lift (cmpD o x y) S2).bind fun c S3 => .ok (.bool c) S3
  | .chain o o' a b c, env, S => (evE wf cf a env S).bind fun x S1 => (evE wf cf b env S1).bind fun y S2 => (lift (cmpD o x y) S2).bind fun c1 S3 =>
      if c1 then (evE wf cf c env S3).bind fun z S4 => (lift (cmpD o' y z) S4).bind fun c2 S5 => .ok (.bool c2) S5 else .ok (.bool false) S3
  | .and a b, env, S => (evE wf cf a env S).bind fun x S1 => (asB x S1).bind fun c S1 => if c then evE wf cf b env S1 else .ok (.bool false) S1
  | .or a b, env, S => (evE wf cf a env S).bind fun x S1 => (asB x S1).bind fun c S1 => if c then .ok (.bool true) S1 else evE wf cf b env S1
  | .not a, env, S => (evE wf cf a env S).bind fun x S1 => (asB x S1).bind fun c S1 => .ok (.bool (!c)) S1
  | .ite c a b, env, S => (evB wf cf c env S).bind fun c1 S1 => if c1 then evE wf cf a env S1 else evE wf cf b env S1
  | .tup as, env, S => (evA wf cf as env S).bind fun xs S1 => if xs.length ≤ BIG then .ok (.tuple xs) S1 else .stuck
  | .lst as, env, S => (evA wf cf as env S).bind fun xs S1 => if xs.length ≤ BIG then .ok (.list xs) S1 else .stuck
  | .nloc as, env, S => (evA wf cf as env S).bind fun xs S1 => if xs.length ≤ BIG then .ok (loc S1.length) (S1 ++ [xs]) else .stuck
  | .idx a i, env, S => (evE wf cf a env S).bind fun x S1 => (evE wf cf i env S1).bind fun y S2 => lift (idxD S2 x y) S2
  | .idxv v i, env, S => (lift (getO env v) S).bind fun x S1 => (evE wf cf i env S1).bind fun y S2 => lift (idxD S2 x y) S2
  | .lenv v, env, S => (lift (getO env v) S).bind fun x S1 => (lift (lenD x) S1).bind fun n S2 => .ok (.int n) S2
  | .slice a lo hi, env, S => (evE wf cf a env S).bind fun x S1 => (evO wf cf lo env S1).bind fun l S2 => (evO wf cf hi env S2).bind fun h S3 => lift (sliceD l h x) S3
  | .rev a, env, S => (evE wf cf a env S).bind fun x S1 => lift (revD x) S1
  | .call f as, env, S => (evA wf cf as env S).bind fun xs S1 => cf 0 f xs S1
  | .bi f as, env, S => (evA wf cf as env S).bind fun xs S1 => lift (biD f xs) S1
  | .lrng it, env, S => (evI wf cf it env S).bind fun xs S1 => if xs.length ≤ BIG then .ok (.list xs) S1 else .stuck
  | .me m a as, env, S => (evE wf cf a env S).bind fun x S1 => (evA wf cf as env S1).bind fun xs S2 => lift (meD m x xs) S2
  | .inst t a, env, S => (evE wf cf a env S).bind fun x S1 => .ok (.bool (instD t x)) S1
  | .comp own tg it c e, env, S => (evI wf cf it env S).bind fun xs S1 => (lift (wipeE (own.map (·.2)) env) S1).bind fun env0 S1 =>
      compL (fun x S => (lift (setG tg x env0) S).bind fun env1 S => (evO2 wf cf c env1 S).calm.bind fun b S => if b then (evE wf cf e env1 S).calm.bind fun y S => .ok (some y) S else .ok none S) xs [] S1
  | .word e, env, S => match evE wf (fun j => cf (j + 2)) e env S with
    | .ok _ S1 => .ok (.str (Str.ofString "")) S1
    | .exc c S1 => (lift (wf c) S1).bind fun w S2 => .ok (.str w) S2
    | .stuck => .stuck
def evA (wf : WordF) (cf : Nat → CallF) : A → Env → Store → R (List D)
  | .nil, _, S => .ok [] S
  | .cons e as, env, S => (evE wf cf e env S).bind fun x S1 => (evA wf cf as env S1).bind fun xs S2 => .ok (x :: xs) S2
def evB (wf : WordF) (cf : Nat → CallF) : B → Env → Store → R Bool
  | .val e, env, S => (evE wf cf e env S).bind fun x S1 => asB x S1
  | .cmp o a b, env, S => (evE wf cf a env S).bind fun x S1 => (evE wf cf b env S1).bind fun y S2 => lift (cmpD o x y) S2
  | .chain o o' a b c, env, S => (evE wf cf a env S).bind fun x S1 => (evE wf cf b env S1).bind fun y S2 => (lift (cmpD o x y) S2).bind fun c1 S3 =>
      if c1 then (evE wf cf c env S3).bind fun z S4 => lift (cmpD o' y z) S4 else .ok false S3
  | .and a b, env, S => (evB wf cf a env S).bind fun c S1 => if c then evB wf cf b env S1 else .ok false S1
  | .or a b, env, S => (evB wf cf a env S).bind fun c S1 => if c then .ok true S1 else evB wf cf b env S1
  | .not a, env, S => (evB wf cf a env S).bind fun c S1 => .ok (!c) S1
def evO (wf : WordF) (cf : Nat → CallF) : O → Env → Store → R (Option Int)
  | .no, _, S => .ok none S
  | .yes e, env, S => (evE wf cf e env S).bind fun x S1 => (lift (partD x) S1).bind fun i S2 => .ok (some i) S2
def evO2 (wf : WordF) (cf : Nat → CallF) : O2 → Env → Store → R Bool
  | .no, _, S => .ok true S
  | .yes e, env, S => evB wf cf e env S
def evI (wf : WordF) (cf : Nat → CallF) : I → Env → Store → R (List D)
  | .val e, env, S => (evE wf cf e env S).bind fun x S1 => lift (iterD x) S1
  | .rng1 a, env, S => (evE wf cf a env S).bind fun x S1 => match x with
    | .int n => if -BIG ≤ n ∧ n ≤ BIG then .ok (rngD 0 n) S1 else .stuck
    | _ => .stuck
  | .rng2 a b, env, S => (evE wf cf a env S).bind fun x S1 => (evE wf cf b env S1).bind fun y S2 => match x, y with
    | .int m, .int n => if (-BIG ≤ m ∧ m ≤ BIG) ∧ (-BIG ≤ n ∧ n ≤ BIG) then .ok (rngD m n) S2 else .stuck
    | _, _ => .stuck
  | .enum e, env, S => (evE wf cf e env S).bind fun x S1 => (lift (itemsD x) S1).bind fun xs S2 => .ok (enumD 0 xs) S2
  | .zip a b, env, S => (evE wf cf a env S).bind fun x S1 => (evE wf cf b env S1).bind fun y S2 => match x, y with
    | .list xs, .list ys => .ok (pairUp xs ys) S2
    | .tuple xs, .tuple ys => .ok (pairUp xs ys) S2
    | _, _ => .stuck
end

inductive Fl where
  | nx (env : Env)
  | ret (d : D)
  | brk (env : Env)
  | ct (env : Env)
inductive S where
  | done
  | pass (k : S)
  | set (i : Nat) (e : E) (k : S)
  | own (i : Nat) (e : E) (k : S)
  | frz (i : Nat) (k : S)
  | par (i j : Nat) (a b : E) (k : S)
  | unp (is : List Nat) (e : E) (k : S)
  | app (i : Nat) (e : E) (k : S)
  | setix (i : Nat) (ix e : E) (k : S)
  | ex (e : E) (k : S)
  | ret (e : E)
  | retn
  | brk
  | cont
  | raise (c : Nat) (x : Str)
  | ifs (c : B) (a b : S) (k : S)
  | for_ (tg : Tg) (it : I) (body : S) (k : S)
  | while_ (fuel : Nat) (c : B) (body : S) (k : S)

def forL (f : D → Env → Store → R Fl) : List D → Env → Store → R Fl
  | [], env, S => .ok (.nx env) S
  | x :: xs, env, S => (f x env S).bind fun r S1 => match r with
    | .nx env1 => forL f xs env1 S1
    | .ct env1 => forL f xs env1 S1
    | .brk env1 => .ok (.nx env1) S1
    | .ret d => .ok (.ret d) S1
def whileL (c : Env → Store → R Bool) (f : Env → Store → R Fl) : Nat → Env → Store → R Fl
  | 0, _, _ => .stuck
  | n + 1, env, S => (c env S).bind fun b S1 => if b then (f env S1).bind fun r S2 => match r with
      | .nx env1 => whileL c f n env1 S2
      | .ct env1 => whileL c f n env1 S2
      | .brk env1 => .ok (.nx env1) S2
      | .ret d => .ok (.ret d) S2
    else .ok (.nx env) S1
def setAtL (xs : List D) (i : Int) (d : D) : Option (List D) := (L2.ixN xs.length i).map fun j => xs.set j d
def setIxD (env : Env) (S : Store) (i : Nat) (ix d : D) : Option (Env × Store) :=
  match env[i]?, ix with
  | some (.own ds), .int k => (setAtL ds k d).map fun ds' => (env.set i (.own ds'), S)
  | some (.val (.dict [(.int l, .none)])), .int k => if 0 ≤ l then (S[l.toNat]?).bind fun ds => (setAtL ds k d).map fun ds' => (env, S.set l.toNat ds') else none
  | _, _ => none
def appD (env : Env) (i : Nat) (d : D) : Option Env :=
  match env[i]? with
  | some (.own ds) => if ds.length < BIG then some (env.set i (.own (ds ++ [d]))) else none
  | _ => none
def ownD (env : Env) (i : Nat) (d : D) : Option Env :=
  match d with
  | .list ds => if i < env.length then some (env.set i (.own ds)) else none
  | _ => none
def ownAt (env : Env) (i : Nat) : Option (List D) := match env[i]? with | some (.own ds) => some ds | _ => none
def frzD (env : Env) (i : Nat) : Option Env :=
  match env[i]? with
  | some (.own ds) => some (env.set i (.val (.list ds)))
  | _ => none
def evS (wf : WordF) (cf : Nat → CallF) : S → Env → Store → R Fl
  | .done, env, S => .ok (.nx env) S
  | .pass k, env, S => evS wf cf k env S
  | .set i e k, env, S => (evE wf cf e env S).bind fun d S1 => (lift (setNames [i] [d] env) S1).bind fun env1 S1 => evS wf cf k env1 S1
  | .own i e k, env, S => (evE wf cf e env S).bind fun d S1 => (lift (ownD env i d) S1).bind fun env1 S1 => evS wf cf k env1 S1
  | .frz i k, env, S => (lift (frzD env i) S).bind fun env1 S1 => evS wf cf k env1 S1
  | .par i j a b k, env, S => (evE wf cf a env S).bind fun x S1 => (evE wf cf b env S1).bind fun y S2 => (lift (setNames [i, j] [x, y] env) S2).bind fun env1 S2 => evS wf cf k env1 S2
  | .unp is e k, env, S => (evE wf cf e env S).bind fun d S1 => (lift (setG (.tup is) d env) S1).bind fun env1 S1 => evS wf cf k env1 S1
  | .app i e k, env, S => (lift (ownAt env i) S).bind fun _ S0 => (evE wf cf e env S0).bind fun d S1 => (lift (appD env i d) S1).bind fun env1 S1 => evS wf cf k env1 S1
  | .setix i ix e k, env, S => (evE wf cf e env S).bind fun d S1 => (lift (getO env i) S1).bind fun _ S1 => (evE wf cf ix env S1).bind fun j S2 => (lift (setIxD env S2 i j d) S2).bind fun p _ => evS wf cf k p.1 p.2
  | .ex e k, env, S => (evE wf cf e env S).bind fun _ S1 => evS wf cf k env S1
  | .ret e, env, S => (evE wf cf e env S).bind fun d S1 => .ok (.ret d) S1
  | .retn, _, S => .ok (.ret .none) S
  | .brk, env, S => .ok (.brk env) S
  | .cont, env, S => .ok (.ct env) S
  | .raise c _, _, S => .exc ⟨c, 0⟩ S
  | .ifs c a b k, env, S => (evB wf cf c env S).bind fun t S1 => (if t then evS wf cf a env S1 else evS wf cf b env S1).bind fun r S2 => match r with
    | .nx env1 => evS wf cf k env1 S2
    | .ret d => .ok (.ret d) S2
    | .brk env1 => .ok (.brk env1) S2
    | .ct env1 => .ok (.ct env1) S2
  | .for_ tg it body k, env, S => (evI wf cf it env S).bind fun xs S1 => (forL (fun x env S => (lift (setG tg x env) S).bind fun env1 S => (evS wf cf body env1 S).calm) xs env S1).bind fun r S2 => match r with
    | .nx env1 => evS wf cf k env1 S2
    | .ret d => .ok (.ret d) S2
    | _ => .stuck
  | .while_ n c body k, env, S => (whileL (fun env S => (evB wf cf c env S).calm) (fun env S => (evS wf cf body env S).calm) n env S).bind fun r S2 => match r with
    | .nx env1 => evS wf cf k env1 S2
    | .ret d => .ok (.ret d) S2
    | _ => .stuck

structure Df where
  name : Str
  N : List Str
  np : Nat
  body : S
def startE (n np : Nat) (args : List D) : Env := args.map .val ++ List.replicate (n - np) .no
def runDf (wf : WordF) (cf : Nat → CallF) (d : Df) (args : List D) (S : Store) : R D :=
  if args.length = d.np then
    (evS wf cf d.body (startE d.N.length d.np args) S).bind fun r S1 => match r with
    | .ret v => .ok v S1
    | .nx _ => .ok .none S1
    | _ => .stuck
  else .stuck
def callT (wf : WordF) (P : List Df) : Nat → Nat → CallF
  | 0, _ => fun _ _ _ => .stuck
  | n + 1, 0 => fun f args S => match P[f]? with
    | some d => runDf wf (callT wf P n) d args S
    | none => .stuck
  | n + 1, j + 1 => callT wf P n j
end Mi

set_option Elab.async false
set_option linter.all false
set_option maxRecDepth 100000
set_option maxHeartbeats 1000000
namespace Mi
open PySem PySem.Spec PyProof.Rows L2

/-! ### data in the heap -/
mutual
inductive Rep (H : Hp) (B : Addr → Prop) (L : List Addr) : D → V → Prop
  | non : Rep H B L .none .non
  | bl (b : Bool) : Rep H B L (.bool b) (.bl b)
  | int (i : Int) : Rep H B L (.int i) (.int i)
  | str (x : Str) : x.length ≤ sizeLine → Rep H B L (.str x) (.str x)
  | lst {a : Addr} {vs : List V} {ds : List D} : Rd H a (.lst vs) → ¬ B a → Reps H B L ds vs → Rep H B L (.list ds) (.ref a)
  | tup {a : Addr} {o : Obj} {vs : List V} {ds : List D} : H a = some (.frz o (.tup vs)) → o.dict = none → ¬ B a → Reps H B L ds vs → Rep H B L (.tuple ds) (.ref a)
  | loc {k : Nat} {a : Addr} : L[k]? = some a → Rep H B L (loc k) (.ref a)
inductive Reps (H : Hp) (B : Addr → Prop) (L : List Addr) : List D → List V → Prop
  | nil : Reps H B L [] []
  | cons {d : D} {v : V} {ds : List D} {vs : List V} : Rep H B L d v → Reps H B L ds vs → Reps H B L (d :: ds) (v :: vs)
end
section
variable {H H' : Hp} {B B' : Addr → Prop} {L L' : List Addr}
theorem Reps.length : ∀ {ds : List D} {vs : List V}, Reps H B L ds vs → ds.length = vs.length
  | _, _, .nil => rfl
  | _, _, .cons _ t => congrArg (· + 1) (Reps.length t)
theorem Reps.get : ∀ {ds : List D} {vs : List V} {i : Nat} {d : D}, Reps H B L ds vs → ds[i]? = some d → ∃ v, vs[i]? = some v ∧ Rep H B L d v
  | _, _, _, _, .nil, e => by simp at e
  | _, _, 0, _, .cons r _, e => by simp at e; subst e; exact ⟨_, rfl, r⟩
  | _, _, i + 1, d, .cons _ t, e => by
    obtain ⟨v, h1, h2⟩ := Reps.get (i := i) (d := d) t (by simpa using e)
    exact ⟨v, by simpa using h1, h2⟩
theorem Reps.get' {ds : List D} {vs : List V} {i : Nat} {v : V} (r : Reps H B L ds vs) (e : vs[i]? = some v) : ∃ d, ds[i]? = some d ∧ Rep H B L d v := by
  have hi : i < vs.length := by
    rcases Nat.lt_or_ge i vs.length with h | h
    · exact h
    · rw [List.getElem?_eq_none h] at e; cases e
  have hd : i < ds.length := by rw [r.length]; exact hi
  obtain ⟨v', h1, h2⟩ := r.get (i := i) (d := ds[i]) (by simp [hd])
  rw [e] at h1; cases h1
  exact ⟨_, by simp [hd], h2⟩
theorem Reps.append : ∀ {ds es : List D} {vs ws : List V}, Reps H B L ds vs → Reps H B L es ws → Reps H B L (ds ++ es) (vs ++ ws)
  | _, _, _, _, .nil, s => s
  | _, _, _, _, .cons r t, s => .cons r (Reps.append t s)
theorem Reps.drop : ∀ {ds : List D} {vs : List V} (n : Nat), Reps H B L ds vs → Reps H B L (ds.drop n) (vs.drop n)
  | _, _, 0, r => r
  | _, _, _ + 1, .nil => .nil
  | _, _, n + 1, .cons _ t => Reps.drop n t
theorem Reps.take : ∀ {ds : List D} {vs : List V} (n : Nat), Reps H B L ds vs → Reps H B L (ds.take n) (vs.take n)
  | _, _, 0, _ => .nil
  | _, _, _ + 1, .nil => .nil
  | _, _, n + 1, .cons r t => .cons r (Reps.take n t)
theorem Reps.set {d : D} {v : V} (r : Rep H B L d v) : ∀ {ds : List D} {vs : List V} (i : Nat), Reps H B L ds vs → Reps H B L (ds.set i d) (vs.set i v)
  | _, _, _, .nil => .nil
  | _, _, 0, .cons _ t => .cons r t
  | _, _, i + 1, .cons q t => .cons q (Reps.set r i t)
theorem Reps.reverse {ds : List D} {vs : List V} (r : Reps H B L ds vs) : Reps H B L ds.reverse vs.reverse := by
  induction ds generalizing vs with
  | nil => cases r; exact .nil
  | cons d ds ih =>
    cases r with
    | cons q t =>
      rw [List.reverse_cons, List.reverse_cons]
      exact (ih t).append (.cons q .nil)
theorem Reps.flat {ds : List D} {vs : List V} (r : Reps H B L ds vs) : ∀ n : Nat, Reps H B L (List.replicate n ds).flatten (List.replicate n vs).flatten
  | 0 => .nil
  | n + 1 => by
    rw [List.replicate_succ, List.replicate_succ, List.flatten_cons, List.flatten_cons]
    exact r.append (Reps.flat r n)
/-- what keeps data: the objects that aren't bad stay, the bad ones become fewer -/
structure Kp (H : Hp) (B : Addr → Prop) (L : List Addr) (H' : Hp) (B' : Addr → Prop) (L' : List Addr) : Prop where
  keep : ∀ a o, H a = some o → ¬ B a → (∀ ps, o ≠ .tbl ps) → H' a = some o
  bad : ∀ a o, H a = some o → (∀ ps, o ≠ .tbl ps) → B' a → B a
  lp : ∀ (k : Nat) (a : Addr), L[k]? = some a → L'[k]? = some a
mutual
theorem Rep.kp (k : Kp H B L H' B' L') : ∀ {d : D} {v : V}, Rep H B L d v → Rep H' B' L' d v
  | _, _, .non => .non
  | _, _, .bl b => .bl b
  | _, _, .int i => .int i
  | _, _, .str x h => .str x h
  | _, _, .lst (a := a) h n r => by
    rcases h with h | ⟨o, h⟩
    · exact .lst (.inl (k.keep _ _ h n (fun ps q => by cases q))) (fun q => n (k.bad _ _ h (fun ps q => by cases q) q)) (Reps.kp k r)
    · exact .lst (.inr ⟨o, k.keep _ _ h n (fun ps q => by cases q)⟩) (fun q => n (k.bad _ _ h (fun ps q => by cases q) q)) (Reps.kp k r)
  | _, _, .tup h hd n r => .tup (k.keep _ _ h n (fun ps q => by cases q)) hd (fun q => n (k.bad _ _ h (fun ps q => by cases q) q)) (Reps.kp k r)
  | _, _, .loc e => .loc (k.lp _ _ e)
theorem Reps.kp (k : Kp H B L H' B' L') : ∀ {ds : List D} {vs : List V}, Reps H B L ds vs → Reps H' B' L' ds vs
  | _, _, .nil => .nil
  | _, _, .cons r t => .cons (Rep.kp k r) (Reps.kp k t)
end
end

/-! ### the store and the world -/
abbrev Bad (G : Addr → Prop) (L : List Addr) : Addr → Prop := fun a => G a ∨ a ∈ L
abbrev Tb := List (Addr × Str)
structure WS (T : Tb) (G : Addr → Prop) (L : List Addr) (H : Hp) (S : Store) : Prop where
  sto : ∀ (k : Nat) ds, S[k]? = some ds → ∃ a vs, L[k]? = some a ∧ H a = some (.lst vs) ∧ Reps H (Bad G L) L ds vs
  len : L.length = S.length
  nd : L.Nodup
  dis : ∀ a ∈ L, ¬ G a
  gt : ∀ a, G a → ∃ vs, H a = some (.lst vs)
  tab : LamX.Tabs T H
structure Ext (L : List Addr) (H : Hp) (L' : List Addr) (H' : Hp) : Prop where
  keep : ∀ a o, H a = some o → a ∉ L → (∀ ps, o ≠ .tbl ps) → H' a = some o
  more : ∃ M, L' = L ++ M ∧ ∀ a ∈ M, ∀ o, H a = some o → ∃ ps, o = .tbl ps
section
variable {T : Tb} {G G' : Addr → Prop} {L L' L1 L2 : List Addr} {H H' H1 H2 : Hp} {S S' : Store}
theorem Ext.refl : Ext L H L H := ⟨fun _ _ h _ _ => h, [], by simp, by simp⟩
theorem WS.trk (w : WS T G L H S) {a : Addr} (h : a ∈ L) : ∃ vs, H a = some (.lst vs) := by
  obtain ⟨k, hk, e⟩ := List.getElem_of_mem h
  have hs : k < S.length := by rw [← w.len]; exact hk
  obtain ⟨a', vs, e1, e2, _⟩ := w.sto k S[k] (by simp [hs])
  have e3 : L[k]? = some a := by rw [List.getElem?_eq_getElem hk, e]
  rw [e3] at e1; cases e1
  exact ⟨vs, e2⟩
theorem Ext.trans (w1 : WS T G L1 H1 S') (a : Ext L H L1 H1) (b : Ext L1 H1 L2 H2) : Ext L H L2 H2 := by
  obtain ⟨M, rfl, hM⟩ := a.more
  obtain ⟨N, rfl, hN⟩ := b.more
  have up : ∀ c, c ∈ M → c ∉ L → ∀ o, H c = some o → ∃ ps, o = .tbl ps := fun c hc _ => hM c hc
  have key : ∀ c ∈ N, ∀ o, H c = some o → ∃ ps, o = .tbl ps := fun c hc o e => by
    by_cases ht : ∃ ps, o = .tbl ps
    · exact ht
    · exfalso
      by_cases hl : c ∈ L
      · obtain ⟨vs, q⟩ := w1.trk (a := c) (List.mem_append_left _ hl)
        obtain ⟨ps, z⟩ := hN c hc _ q
        cases z
      · have q := a.keep c o e hl (fun ps q => ht ⟨ps, q⟩)
        exact ht (hN c hc _ q)
  refine ⟨fun c o h n nt => b.keep c o (a.keep c o h n nt) ?_ nt, M ++ N, by simp, fun c hc => ?_⟩
  · intro hc
    rcases List.mem_append.mp hc with hc | hc
    · exact n hc
    · obtain ⟨ps, z⟩ := hM c hc o h
      exact nt ps z
  · rcases List.mem_append.mp hc with hc | hc
    · exact hM c hc
    · exact key c hc
theorem Ext.kp (e : Ext L H L' H') : Kp H (Bad G L) L H' (Bad G L') L' := by
  obtain ⟨M, rfl, hM⟩ := e.more
  refine ⟨fun a o h n nt => e.keep a o h (fun q => n (.inr q)) nt, fun a o h nt q => ?_, fun k a h => ?_⟩
  · rcases q with q | q
    · exact .inl q
    · rcases List.mem_append.mp q with q | q
      · exact .inr q
      · obtain ⟨ps, z⟩ := hM a q o h
        exact absurd z (nt ps)
  · exact (List.getElem?_append_left (List.getElem?_eq_some_iff.mp h).1).trans h
/-- a new object, no cell of the store -/
theorem Ext.new {p : Addr} {o : HO} (h : H p = none) : Ext L H L (upd H p o) :=
  ⟨fun a u e _ _ => by rw [upd_ne (ne_of_none e h)]; exact e, [], by simp, by simp⟩
theorem Ext.same (e : ∀ a o, H a = some o → H' a = some o) : Ext L H L H' := ⟨fun a o h _ _ => e a o h, [], by simp, by simp⟩
theorem WS.ext (w : WS T G L H S) (e : ∀ a o, H a = some o → (∀ ps, o ≠ .tbl ps) → H' a = some o) (t : LamX.Tabs T H') : WS T G L H' S :=
  ⟨fun k ds h => by
    obtain ⟨a, vs, h1, h2, h3⟩ := w.sto k ds h
    exact ⟨a, vs, h1, e _ _ h2 (fun ps q => by cases q), h3.kp ⟨fun a o h _ nt => e a o h nt, fun _ _ _ _ q => q, fun _ _ q => q⟩⟩,
    w.len, w.nd, w.dis, fun a h => by obtain ⟨vs, q⟩ := w.gt a h; exact ⟨vs, e _ _ q (fun ps q => by cases q)⟩, t⟩
theorem WS.new {p : Addr} {o : HO} (w : WS T G L H S) (h : H p = none) : WS T G L (upd H p o) S :=
  w.ext (fun a u e _ => by rw [upd_ne (ne_of_none e h)]; exact e) (w.tab.ext fun a u e => by rw [upd_ne (ne_of_none e h)]; exact e)
theorem WS.fresh (w : WS T G L H S) {p : Addr} (h : H p = none) : ¬ Bad G L p := by
  rintro (q | q)
  · obtain ⟨vs, e⟩ := w.gt p q
    rw [h] at e; cases e
  · obtain ⟨vs, e⟩ := w.trk q
    rw [h] at e; cases e
/-- a new cell of the store -/
theorem WS.cell {p : Addr} {vs : List V} {ds : List D} (w : WS T G L H S) (h : H p = none) (r : Reps H (Bad G L) L ds vs) : Ext L H (L ++ [p]) (upd H p (.lst vs)) ∧ WS T G (L ++ [p]) (upd H p (.lst vs)) (S ++ [ds]) := by
  have e : Ext L H (L ++ [p]) (upd H p (.lst vs)) :=
    ⟨fun a u e _ _ => by rw [upd_ne (ne_of_none e h)]; exact e, [p], rfl, fun a ha o q => by
      have : a = p := by simpa using ha
      subst this
      rw [h] at q; cases q⟩
  have nb := w.fresh h
  refine ⟨e, fun k es q => ?_, by simp [w.len], ?_, fun a ha => ?_, fun a ha => ?_, w.tab.ext fun a u e => by rw [upd_ne (ne_of_none e h)]; exact e⟩
  · rcases Nat.lt_or_ge k S.length with hk | hk
    · rw [List.getElem?_append_left hk] at q
      obtain ⟨a, ws, h1, h2, h3⟩ := w.sto k es q
      refine ⟨a, ws, ?_, by rw [upd_ne (ne_of_none h2 h)]; exact h2, h3.kp e.kp⟩
      rw [List.getElem?_append_left (by rw [w.len]; exact hk)]
      exact h1
    · have hk2 : k = S.length := by
        have := (List.getElem?_eq_some_iff.mp q).1
        simp at this
        omega
      subst hk2
      rw [List.getElem?_append_right (Nat.le_refl _)] at q
      simp at q
      subst q
      refine ⟨p, vs, ?_, upd_same, r.kp e.kp⟩
      rw [← w.len, List.getElem?_append_right (Nat.le_refl _)]
      simp
  · rw [List.nodup_append]
    refine ⟨w.nd, by simp, fun a ha b hb => ?_⟩
    have : b = p := by simpa using hb
    subst this
    rintro rfl
    exact nb (.inr ha)
  · rcases List.mem_append.mp ha with q | q
    · exact w.dis a q
    · have : a = p := by simpa using q
      subst this
      exact fun z => nb (.inl z)
  · obtain ⟨ws, q⟩ := w.gt a ha
    exact ⟨ws, by rw [upd_ne (ne_of_none q h)]; exact q⟩
/-- a cell of the store is written -/
theorem WS.put {k : Nat} {a : Addr} {vs : List V} {ds : List D} (w : WS T G L H S) (hk : L[k]? = some a) (r : Reps H (Bad G L) L ds vs) : Ext L H L (upd H a (.lst vs)) ∧ WS T G L (upd H a (.lst vs)) (S.set k ds) := by
  have hm : a ∈ L := List.mem_of_getElem? hk
  have e : Ext L H L (upd H a (.lst vs)) := ⟨fun b u q n _ => by rw [upd_ne (fun z => n (by rw [z]; exact hm))]; exact q, [], by simp, by simp⟩
  have kp : Kp H (Bad G L) L (upd H a (.lst vs)) (Bad G L) L := e.kp
  refine ⟨e, fun j es q => ?_, by simp [w.len], w.nd, w.dis, fun b hb => ?_, fun p hp => ?_⟩
  · by_cases hj : k = j
    · subst hj
      have hl : k < S.length := by rw [← w.len]; exact (List.getElem?_eq_some_iff.mp hk).1
      rw [List.getElem?_set_self hl] at q
      cases q
      exact ⟨a, vs, hk, upd_same, r.kp kp⟩
    · rw [List.getElem?_set_ne hj] at q
      obtain ⟨b, ws, h1, h2, h3⟩ := w.sto j es q
      refine ⟨b, ws, h1, ?_, h3.kp kp⟩
      have hb : b ≠ a := fun z => by
        subst z
        obtain ⟨p1, q1⟩ := List.getElem?_eq_some_iff.mp hk
        obtain ⟨p2, q2⟩ := List.getElem?_eq_some_iff.mp h1
        exact hj ((List.getElem_inj w.nd).mp (q1.trans q2.symm))
      rw [upd_ne hb]; exact h2
  · obtain ⟨ws, q⟩ := w.gt b hb
    have : b ≠ a := fun z => w.dis a hm (z ▸ hb)
    exact ⟨ws, by rw [upd_ne this]; exact q⟩
  · obtain ⟨ws, q⟩ := w.trk hm
    have np : p.1 ≠ a := fun z => by
      obtain ⟨ps, h1, _⟩ := w.tab p hp
      rw [z, q] at h1; cases h1
    obtain ⟨ps, h1, h2, h3⟩ := w.tab p hp
    refine ⟨ps, by rw [upd_ne np]; exact h1, h2, fun pos cv hc => ?_⟩
    obtain ⟨c, e1, e2⟩ := h3 pos cv hc
    refine ⟨c, e1, ?_⟩
    rw [upd_ne (fun z => by rw [z, q] at e2; unfold LamX.CodeO at e2; cases e2)]
    exact e2
/-- the value of a cell -/
theorem WS.get {k : Nat} {a : Addr} {ds : List D} (w : WS T G L H S) (hk : L[k]? = some a) (hs : S[k]? = some ds) : ∃ vs, H a = some (.lst vs) ∧ Reps H (Bad G L) L ds vs := by
  obtain ⟨b, vs, h1, h2, h3⟩ := w.sto k ds hs
  rw [hk] at h1; cases h1
  exact ⟨vs, h2, h3⟩
end
end Mi

set_option Elab.async false
set_option linter.all false
set_option maxRecDepth 100000
set_option maxHeartbeats 1000000
namespace Mi
open PySem PySem.Spec PyProof.Rows L2

theorem big_line {n : Nat} (h : n ≤ BIG) : n ≤ sizeLine := by
  unfold BIG at h
  rw [sizeLine_eq]
  omega
section
variable {H : Hp} {B : Addr → Prop} {L : List Addr} {K : PySem.W.Frag} {T : Tb} {G : Addr → Prop} {S : Store}
theorem Rep.int_inv {i : Int} {x : V} (r : Rep H B L (.int i) x) : x = .int i := by cases r; rfl
theorem Rep.bl_inv {i : Bool} {x : V} (r : Rep H B L (.bool i) x) : x = .bl i := by cases r; rfl
theorem Rep.str_inv {i : Str} {x : V} (r : Rep H B L (.str i) x) : x = .str i ∧ i.length ≤ sizeLine := by cases r; exact ⟨rfl, by assumption⟩
theorem Rep.lst_inv {ds : List D} {x : V} (r : Rep H B L (.list ds) x) : ∃ a vs, x = .ref a ∧ Rd H a (.lst vs) ∧ ¬ B a ∧ Reps H B L ds vs := by cases r; exact ⟨_, _, rfl, by assumption, by assumption, by assumption⟩
theorem Rep.tup_inv {ds : List D} {x : V} (r : Rep H B L (.tuple ds) x) : ∃ a vs, x = .ref a ∧ (∃ o : Obj, H a = some (.frz o (.tup vs)) ∧ o.dict = none) ∧ ¬ B a ∧ Reps H B L ds vs := by cases r; exact ⟨_, _, rfl, ⟨_, by assumption, by assumption⟩, by assumption, by assumption⟩
theorem sqT {K : PySem.W.Frag} {a : Addr} {vs : List V} (h : ∃ o : Obj, H a = some (.frz o (.tup vs)) ∧ o.dict = none) : SqT K H a vs := by
  obtain ⟨o, h, _⟩ := h
  exact .inl (.inr ⟨o, h⟩)
theorem Rep.ofTup {a : Addr} {vs : List V} {ds : List D} (h : ∃ o : Obj, H a = some (.frz o (.tup vs)) ∧ o.dict = none) (n : ¬ B a) (r : Reps H B L ds vs) : Rep H B L (.tuple ds) (.ref a) := by
  obtain ⟨o, h, hd⟩ := h
  exact .tup h hd n r
theorem Rep.loc_inv {k : Nat} {x : V} (r : Rep H B L (Mi.loc k) x) : ∃ a, x = .ref a ∧ L[k]? = some a := by cases r; exact ⟨_, rfl, by assumption⟩
mutual
/-- as the library's data -/
theorem Rep.dp : ∀ {d : D} {v : V}, Rep H B L d v → d.canLay0 = true → Dp K H v d
  | _, _, .non, _ => .non
  | _, _, .bl b, _ => .bl b
  | _, _, .int i, _ => .int i
  | _, _, .str x _, _ => .str x
  | .list ds, _, .lst h _ r, c => .lst (.inl h) (Reps.dp r c)
  | .tuple ds, _, .tup h _ _ r, c => .tup (.inl (.inr ⟨_, h⟩)) (Reps.dp r c)
  | _, _, .loc e, c => by cases c
theorem Reps.dp : ∀ {ds : List D} {vs : List V}, Reps H B L ds vs → PyData.canLayAll0 ds = true → DpAll K H vs ds
  | _, _, .nil, _ => .nil
  | d :: ds, _, .cons r t, c => by
    have c' : (d.canLay0 && PyData.canLayAll0 ds) = true := c
    obtain ⟨c1, c2⟩ := Bool.and_eq_true_iff.mp c'
    exact .cons (Rep.dp r c1) (Reps.dp t c2)
end
theorem Reps.ints : ∀ {ds : List D} {vs : List V} {ns : List Int}, Reps H B L ds vs → intsD ds = some ns → vs = ns.map V.int
  | _, _, ns, .nil, h => by
    have : ns = [] := by simpa [intsD] using h.symm
    subst this; rfl
  | d :: ds, _, ns, .cons (v := v) (vs := vs) r t, h => by
    cases d with
    | int i =>
      cases r
      simp only [intsD, Option.map_eq_some_iff] at h
      obtain ⟨ms, h1, rfl⟩ := h
      rw [t.ints h1]; rfl
    | _ => simp [intsD] at h
theorem Reps.bools : ∀ {ds : List D} {vs : List V} {ns : List Bool}, Reps H B L ds vs → boolsD ds = some ns → vs = ns.map V.bl
  | _, _, ns, .nil, h => by
    have : ns = [] := by simpa [boolsD] using h.symm
    subst this; rfl
  | d :: ds, _, ns, .cons (v := v) (vs := vs) r t, h => by
    cases d with
    | bool i =>
      cases r
      simp only [boolsD, Option.map_eq_some_iff] at h
      obtain ⟨ms, h1, rfl⟩ := h
      rw [t.bools h1]; rfl
    | _ => simp [boolsD] at h
theorem Reps.strs : ∀ {ds : List D} {vs : List V} {ns : List Str}, Reps H B L ds vs → strsD ds = some ns → vs = ns.map V.str
  | _, _, ns, .nil, h => by
    have : ns = [] := by simpa [strsD] using h.symm
    subst this; rfl
  | d :: ds, _, ns, .cons (v := v) (vs := vs) r t, h => by
    cases d with
    | str i =>
      cases r
      simp only [strsD, Option.map_eq_some_iff] at h
      obtain ⟨ms, h1, rfl⟩ := h
      rw [t.strs h1]; rfl
    | _ => simp [strsD] at h
/-- a new object that is data -/
theorem new_tup {ds : List D} {vs : List V} {p : Addr} {o : Obj} (w : WS T G L H S) (h : H p = none) (ho : o.dict = none) (r : Reps H (Bad G L) L ds vs) :
    Ext L H L (upd H p (.frz o (.tup vs))) ∧ WS T G L (upd H p (.frz o (.tup vs))) S ∧ Rep (upd H p (.frz o (.tup vs))) (Bad G L) L (.tuple ds) (.ref p) :=
  ⟨Ext.new h, w.new h, .tup upd_same ho (w.fresh h) (r.kp (Ext.new h).kp)⟩
theorem new_lst {ds : List D} {vs : List V} {p : Addr} (w : WS T G L H S) (h : H p = none) (r : Reps H (Bad G L) L ds vs) :
    Ext L H L (upd H p (.lst vs)) ∧ WS T G L (upd H p (.lst vs)) S ∧ Rep (upd H p (.lst vs)) (Bad G L) L (.list ds) (.ref p) :=
  ⟨Ext.new h, w.new h, .lst (.inl upd_same) (w.fresh h) (r.kp (Ext.new h).kp)⟩
end

theorem str_len_app (a b : Str) : (a ++ b).length = a.length + b.length := by
  show (a.cps ++ b.cps).size = _
  rw [Array.size_append]; rfl
def bop : Bop → Operator
  | .add => .Add | .sub => .Sub | .mul => .Mult | .fdiv => .FloorDiv | .mod => .Mod | .pow => .Pow
def cop : Cop → CmpOp
  | .eq => .Eq | .ne => .NotEq | .lt => .Lt | .le => .LtE | .gt => .Gt | .ge => .GtE | .isin => .In | .notin => .NotIn | .is_ => .Is | .isnot => .IsNot

section
variable {X : Cx} {T : Tb}
/-- what is wanted of a value of the plain kind -/
abbrev Fin (T : Tb) (G : Addr → Prop) (L : List Addr) (H : Hp) (S : Store) (d : D) (Q : VK) : Prop := ∀ v H', Ext L H L H' → WS T G L H' S → Rep H' (Bad G L) L d v → Q v H'
def rB (T : Tb) (o : Bop) : R2 := fun x y H Q => ∃ G L S a b d, WS T G L H S ∧ Rep H (Bad G L) L a x ∧ Rep H (Bad G L) L b y ∧ binD o a b = some d ∧ Fin T G L H S d Q
theorem Inv.rdl {pins : List (Addr × Obj)} {σ : L2.St} {H : Hp} {s : Shared} {p : Addr} {xs : List V} (I : Inv X pins σ H s) (h : Rd H p (.lst xs)) :
    xs.length ≤ sizeLine ∧ ∃ (its : List Value) (n : Nat), Vals xs its ∧ xs.length = its.length ∧ s.heap.get? p = some { cls := .type "list", data := .seq its.toArray n } := by
  obtain ⟨z, its, n, r, e⟩ := h.ok I.hok
  exact ⟨z, its, n, r, r.length, e⟩
def rCatR : R2 := fun x y H Q => ∃ l b xs zs, x = .ref l ∧ y = .ref b ∧ Rd H l (.lst xs) ∧ Rd H b (.lst zs) ∧ xs.length + zs.length ≤ sizeLine ∧ ∀ p, H p = none → Q (.ref p) (upd H p (.lst (xs ++ zs)))
theorem op_catR : OpR X (binaryOp .Add) rCatR := by
  intro pins s σ H x y v u Q I rx ry h
  obtain ⟨l, b, xs, zs, rfl, rfl, hH, hB, hz, q⟩ := h
  cases rx
  cases ry
  obtain ⟨z, its, n, r, hl, e⟩ := Inv.rdl I hH
  obtain ⟨z2, its2, n2, r2, hl2, e2⟩ := Inv.rdl I hB
  refine PySem.P.add_list e e2 ?_ (by rw [List.size_toArray, List.size_toArray]; omega)
  have ea : its.toArray ++ its2.toArray = (its ++ its2).toArray := by simp
  rw [ea]
  exact ⟨.ref _, _, I.lnew (t' := s.toks) (r.append r2) (by rw [List.length_append]; omega), rfl, q _ I.fresh⟩
def rRepR : R2 := fun x y H Q => ∃ l k xs, x = .ref l ∧ y = .int k ∧ Rd H l (.lst xs) ∧ -(2 ^ 63) ≤ k ∧ k < 2 ^ 63 ∧ xs.length * k.toNat ≤ sizeLine ∧
  ∀ p, H p = none → Q (.ref p) (upd H p (.lst (List.replicate k.toNat xs).flatten))
theorem op_repR : OpR X (binaryOp .Mult) rRepR := by
  intro pins s σ H x y v u Q I rx ry h
  obtain ⟨l, k, xs, rfl, rfl, hH, h1, h2, hz, q⟩ := h
  cases rx
  obtain ⟨t, rfl⟩ := ry
  obtain ⟨z, its, n, r, hl, e⟩ := Inv.rdl I hH
  have hlen : its.toArray.size * k.toNat ≤ sizeLine := by rw [List.size_toArray, ← hl]; exact hz
  have hcap : ¬ its.toArray.size * k.toNat > (2 ^ 63 - 1) / 8 := by
    have : (sizeLine : Nat) ≤ (2 ^ 63 - 1) / 8 := by decide
    omega
  have hfit : ¬ (!Builtin.List.listFitsIndex k) = true := by
    rw [fitsIndex_both h1 h2]
    exact Bool.false_ne_true
  have hlong : ¬ Builtin.List.listTooLong (its.toArray.size * k.toNat) = true := by
    rw [notLongL hlen]
    exact Bool.false_ne_true
  have hnew : List.foldl (fun x1 x2 => x1 ++ x2) #[] (List.replicate (if its.toArray.isEmpty = true then 0 else k.toNat) its.toArray) = (List.replicate k.toNat its).flatten.toArray := by
    have f0 : ∀ m : Nat, List.foldl (fun x1 x2 => x1 ++ x2) #[] (List.replicate m its.toArray) = (List.replicate m its).flatten.toArray := fun m => by
      have := foldl_rep its m []
      rw [List.nil_append] at this
      exact this
    rw [f0]
    cases its with
    | nil => simp
    | cons a r' => rw [if_neg (by simp)]
  refine wpAny_binaryOp_repeat_ref (T := "list") (U := "int") (by decide) ⟨_, e, rfl⟩ (fun s' => typeIs_int s' k t) noFill_list_mul F.fills_int_mul F.slot_int_rmul repeat_list F.slot_int_index.lookup
    (call_meets F.slot_int_rmul (typeIs_int s k t) F.entry_int_rmul (F.args_int_rmul_2 _ _) (int___rmul___int_list k t l its.toArray n)
      ⟨e, rfl, ⟨_, e, rfl⟩, call_meets F.slot_list_mul ⟨_, e, rfl⟩ F.entry_list_mul (F.args_list_mul_2 _ _) (AutoListH.list___mul___list_int_3 l its.toArray n k t hfit hcap hlong) ⟨e, ?_⟩⟩)
  rw [hnew]
  exact ⟨.ref _, _, I.lnew (t' := s.toks) (r.rep k.toNat) (by rw [PyProof.Rows.lm_len_rep_flat, Nat.mul_comm]; exact hz), rfl, q _ I.fresh⟩
/-- a new tuple, its object known -/
abbrev NewT (H : Hp) (xs : List V) (Q : VK) : Prop := ∀ (p : Addr) (o : Obj), H p = none → o.dict = none → Q (.ref p) (upd H p (.frz o (.tup xs)))
theorem Inv.tnew {pins : List (Addr × Obj)} {σ : L2.St} {H : Hp} {s : Shared} {xs : List V} {its : List Value} {t' : Nat} {Q : VK} (I : Inv X pins σ H s) (hv : Vals xs its) (hz : xs.length ≤ sizeLine) (q : NewT H xs Q) :
    EP X pins σ Q (.ref s.heap.objs.size) { s with heap := s.heap.push { cls := .type "tuple", data := .seq its.toArray }, toks := t' } :=
  ⟨.ref _, _, I.laid (t' := t') (o := .frz { cls := .type "tuple", data := .seq its.toArray } (.tup xs)) (fun b ob q => Heap.get?_push_of_some _ q) (Nat.le_refl _)
    ⟨Heap.get?_push_size _ rfl, hz, its, hv, IsTup.new _ _⟩, rfl, q _ _ (I.hok.fresh (Nat.le_refl _)) rfl⟩
def rCatN (K : PySem.W.Frag) : R2 := fun x y H Q => ∃ a b xs ys, x = .ref a ∧ y = .ref b ∧ SqT K H a xs ∧ SqT K H b ys ∧ xs.length + ys.length ≤ sizeLine ∧
  (xs = [] → Q (.ref b) H) ∧ (xs ≠ [] → ys = [] → Q (.ref a) H) ∧ (xs ≠ [] → ys ≠ [] → NewT H (xs ++ ys) Q)
theorem op_catN : OpR X (binaryOp .Add) (rCatN X.K) := by
  intro pins s σ H x y v u Q I rx ry h
  obtain ⟨a, b, xs, ys, rfl, rfl, ha, hb, hz, q0, q1, q2⟩ := h
  cases rx
  cases ry
  obtain ⟨its, r1, p1, _⟩ := I.tuple ha
  obtain ⟨its2, r2, p2, _⟩ := I.tuple hb
  by_cases hx : xs = []
  · subst hx
    cases r1
    exact cat_tup0 p1 p2 ⟨.ref b, H, I, rfl, q0 rfl⟩
  · refine HT.cat_tup p1 p2 (fun z => hx (r1.nil_iff.mp z)) (fun z => ⟨.ref a, H, I, rfl, q1 hx (r2.nil_iff.mp z)⟩) (fun z => ?_) (by rw [← r1.length, ← r2.length]; exact hz)
    exact Inv.tnew (t' := s.toks) I (r1.append r2) (by rw [List.length_append]; exact hz) (q2 hx fun w => z (r2.nil_iff.mpr w))
def rSlN (K : PySem.W.Frag) : V → Option Int → Option Int → Hp → VK → Prop := fun x lo hi H Q => ∃ a xs, x = .ref a ∧ SqT K H a xs ∧
  (HT.sIx xs.length 0 lo = 0 ∧ HT.sIx xs.length xs.length hi = xs.length → Q (.ref a) H) ∧ (¬ (HT.sIx xs.length 0 lo = 0 ∧ HT.sIx xs.length xs.length hi = xs.length) → NewT H (cutV xs lo hi) Q)
theorem sl_tupN : SlR X (rSlN X.K) := by
  intro pins s σ H x v vl vu lo hi sl Q I rx hs pl pu h
  obtain ⟨a, xs, rfl, hx, q1, q2⟩ := h
  cases rx
  obtain ⟨its, r, ht, hz⟩ := I.tuple hx
  have hlen : its.toArray.size = xs.length := by rw [List.size_toArray]; exact r.length.symm
  refine ⟨"tuple", _, PyProof.Rows.slot_tuple_getitem.lookup, ht.typeIs, ?_⟩
  by_cases hw : HT.sIx xs.length 0 lo = 0 ∧ HT.sIx xs.length xs.length hi = xs.length
  · exact getItem_tuple_whole ht hs pl pu (by rw [hlen]; exact hw) ⟨.ref a, H, I, rfl, q1 hw⟩
  · refine HT.getItem_tuple_cut ht hs pl pu (by rw [hlen]; exact hw) ?_ (by rw [hlen]; exact hz)
    rw [hlen]
    exact Inv.tnew (t' := s.toks) I ((r.drop (HT.sIx xs.length 0 lo)).take (HT.sIx xs.length xs.length hi - HT.sIx xs.length 0 lo)) (Nat.le_trans (cutV_length xs lo hi) hz) (q2 hw)
theorem call_tupN : CallR X (.type "tuple") (fun xs H Q => ∃ p ys, xs = [.ref p] ∧ ((SqL X.K H p ys ∧ NewT H ys Q) ∨ (SqT X.K H p ys ∧ Q (.ref p) H))) := by
  intro pins s σ H xs us Q I r h
  obtain ⟨p, ys, rfl, h⟩ := h
  obtain ⟨u, rfl, rx⟩ := vals1 r
  cases rx
  rcases h with ⟨hq, q⟩ | ⟨hq, q⟩
  · obtain ⟨its, r', pl, hz⟩ := I.list hq
    have hlen := r'.length
    refine call_tuple_list pl.isList (fun h' kp => ?_) (by simp only [List.size_toArray] <;> omega)
    have I1 : Inv X pins σ H { s with heap := h' } := I.kept (t' := s.toks) kp
    exact Inv.tnew (t' := s.toks) I1 r' hz q
  · obtain ⟨its, r', pl, hz⟩ := I.tuple hq
    exact call_tuple_same pl ⟨.ref p, H, I, rfl, q⟩
def rRepN (K : PySem.W.Frag) : R2 := fun x y H Q => ∃ l k xs, x = .ref l ∧ y = .int k ∧ SqT K H l xs ∧ xs ≠ [] ∧ 2 ≤ k ∧ k ≤ 1000 ∧ xs.length ≤ 1000 ∧ NewT H (List.replicate k.toNat xs).flatten Q
theorem op_repN : OpR X (binaryOp .Mult) (rRepN X.K) := by
  intro pins s σ H x y v u Q I rx ry h
  obtain ⟨l, k, xs, rfl, rfl, hT, hne, h1, h2, hz, q⟩ := h
  cases rx
  obtain ⟨t, rfl⟩ := ry
  obtain ⟨its, r, ⟨⟨cls, dd, data, sl⟩, ho, hc, n, hd⟩, hs⟩ := I.tuple hT
  simp only at hc hd
  subst hc hd
  have hle : its.length = xs.length := r.length.symm
  have hn : its ≠ [] := fun e => hne (by
    rw [e] at hle
    exact List.eq_nil_of_length_eq_zero hle.symm)
  have hi : its.toArray.isEmpty = false := by
    cases its with
    | nil => exact absurd rfl hn
    | cons a b => rfl
  have hsz0 : its.toArray.size = xs.length := by rw [List.size_toArray, hle]
  have hm : ((its.toArray.size : Nat) : Int) * k ≤ 1000000 := by
    rw [hsz0]
    have a1 : ((xs.length : Nat) : Int) * k ≤ 1000 * k := Int.mul_le_mul_of_nonneg_right (by omega) (by omega)
    omega
  have flen : (List.replicate k.toNat its).flatten.length ≤ sizeLine := by
    rw [PyProof.Rows.lm_len_rep_flat, hle, sizeLine_eq]
    have a1 : k.toNat * xs.length ≤ 1000 * 1000 := Nat.mul_le_mul (by omega) hz
    omega
  have c0 : (decide (k < -(2 ^ 63)) || decide (k ≥ 2 ^ 63)) = false := by
    rw [decide_eq_false (by omega), decide_eq_false (by omega)] <;> rfl
  have c1 : (its.toArray.isEmpty || k == 1) = false := by
    rw [hi, Bool.false_or]
    exact beq_eq_false_iff_ne.mpr (by omega)
  have c2 : (decide (k ≤ 0) || its.toArray.isEmpty) = false := by
    rw [hi, Bool.or_false]
    exact decide_eq_false (by omega)
  have c4 : Builtin.Tuple.tupleTooMany (((its.toArray.size : Nat) : Int) * k) = false := by
    unfold Builtin.Tuple.tupleTooMany
    rw [sizeLine_eq]
    exact decide_eq_false (by omega)
  refine wpAny_binaryOp_repeat_ref (T := "tuple") (U := "int") (by decide) ⟨_, ho, rfl⟩ (fun s' => typeIs_int s' k t) noFill_tuple_mul F.fills_int_mul F.slot_int_rmul repeat_tuple F.slot_int_index.lookup
    (call_meets F.slot_int_rmul (typeIs_int s k t) F.entry_int_rmul (F.args_int_rmul_2 _ _) (int_rmul_tuple k t l its.toArray n dd sl)
      ⟨ho, rfl, ⟨_, ho, rfl⟩, call_meets F.slot_tuple_mul ⟨_, ho, rfl⟩ F.entry_tuple_mul (F.args_tuple_mul_2 _ _) (tuple_mulW l its.toArray n dd sl k t c0 c1 c2 (by omega) c4 (by rw [size_rep, List.size_toArray]; exact flen)) ⟨ho, ?_⟩⟩)
  rw [size_rep]
  exact Inv.tnew (t' := s.toks) I (r.rep k.toNat) (by rw [PyProof.Rows.lm_len_rep_flat, sizeLine_eq]; have a1 : k.toNat * xs.length ≤ 1000 * 1000 := Nat.mul_le_mul (by omega) hz; omega) q
def tTupN (t : TA) : TE := fun σ H Q => t σ H fun xs H1 => xs.length ≤ sizeLine ∧ NewT H1 xs Q
theorem pe_tupN {es : List Expr} {t : TA} {x1} {pos : Pos} (h : PA X es t) : PE X (.Tuple es x1 pos) (tTupN t) := by
  refine ⟨fun pins s σ H Q I hq => ?_⟩
  refine wpAny_Tuple_spliced (thn (h.run pos pins s σ H _ I hq) fun us s1 ⟨xs, H1, I1, r, z, q⟩ => ⟨by rw [← r.length]; exact z, ?_⟩)
  exact Inv.tnew (t' := s1.toks) I1 r z q
theorem op_bin (o : Bop) : OpR X (binaryOp (bop o)) (rB T o) := by
  intro pins s σ H x y v u Q I rx ry h
  obtain ⟨G, L, S, a, b, d, w, ra, rb, e, fin⟩ := h
  have fint : ∀ i : Int, d = .int i → Q (.int i) H := fun i hd => fin _ H Ext.refl w (by rw [hd]; exact .int i)
  cases o with
  | add =>
    cases a <;> cases b <;> simp only [binD, reduceCtorEq] at e
    · cases e
      rw [ra.int_inv] at rx; rw [rb.int_inv] at ry
      exact op_add pins s σ H _ _ v u Q I rx ry ⟨_, _, rfl, rfl, fint _ rfl⟩
    · split at e
      · rename_i hl
        cases e
        obtain ⟨rfl, _⟩ := ra.str_inv
        obtain ⟨rfl, _⟩ := rb.str_inv
        refine op_add_str pins s σ H _ _ v u Q I rx ry ⟨_, _, rfl, rfl, big_line hl, fin _ H Ext.refl w (.str _ ?_)⟩
        rw [str_len_app]; exact big_line hl
      · cases e
    · split at e
      · cases e
        obtain ⟨a1, vs, rfl, h1, n1, r1⟩ := ra.lst_inv
        obtain ⟨b1, us, rfl, h2, n2, r2⟩ := rb.lst_inv
        rename_i hl
        refine op_catR pins s σ H _ _ v u Q I rx ry ⟨_, _, _, _, rfl, rfl, h1, h2, by rw [← r1.length, ← r2.length]; exact big_line hl, fun p hp => ?_⟩
        obtain ⟨e1, w1, q1⟩ := new_lst w hp (r1.append r2)
        exact fin _ _ e1 w1 q1
      · cases e
    · split at e
      · cases e
        obtain ⟨a1, vs, rfl, h1, n1, r1⟩ := ra.tup_inv
        obtain ⟨b1, us, rfl, h2, n2, r2⟩ := rb.tup_inv
        rename_i hl
        refine op_catN pins s σ H _ _ v u Q I rx ry ⟨_, _, _, _, rfl, rfl, sqT h1, sqT h2, by rw [← r1.length, ← r2.length]; exact big_line hl, fun z => ?_, fun z z2 => ?_, fun _ _ p o hp ho => ?_⟩
        · subst z
          cases r1
          exact fin _ H Ext.refl w (.ofTup h2 n2 r2)
        · subst z2
          cases r2
          rw [List.append_nil] at fin
          exact fin _ H Ext.refl w (.ofTup h1 n1 r1)
        · obtain ⟨e1, w1, q1⟩ := new_tup w hp ho (r1.append r2)
          exact fin _ _ e1 w1 q1
      · cases e
  | sub =>
    cases a <;> cases b <;> simp only [binD, reduceCtorEq] at e
    cases e
    rw [ra.int_inv] at rx; rw [rb.int_inv] at ry
    exact op_sub pins s σ H _ _ v u Q I rx ry ⟨_, _, rfl, rfl, fint _ rfl⟩
  | mul =>
    cases a <;> cases b <;> simp only [binD, reduceCtorEq] at e
    · split at e
      · cases e
        rw [ra.int_inv] at rx; rw [rb.int_inv] at ry
        rename_i hc
        exact op_mulW pins s σ H _ _ v u Q I rx ry ⟨_, _, rfl, rfl, hc, fint _ rfl⟩
      · cases e
    · split at e
      · cases e
        obtain ⟨a1, vs, rfl, h1, n1, r1⟩ := ra.lst_inv
        rw [rb.int_inv] at ry
        rename_i k hc
        have hlen : vs.length * k.toNat ≤ sizeLine := by
          have e1 : vs.length ≤ 1000 := by rw [← r1.length]; exact hc.2.2
          have e2 : k.toNat ≤ 1000 := by omega
          have e3 := Nat.mul_le_mul e1 e2
          rw [sizeLine_eq]; omega
        refine op_repR pins s σ H _ _ v u Q I rx ry ⟨_, _, _, rfl, rfl, h1, by omega, by omega, hlen, fun p hp => ?_⟩
        obtain ⟨e1, w1, q1⟩ := new_lst w hp (r1.flat _)
        exact fin _ _ e1 w1 q1
      · cases e
    · split at e
      · cases e
        obtain ⟨a1, vs, rfl, h1, n1, r1⟩ := ra.tup_inv
        rw [rb.int_inv] at ry
        rename_i hc
        refine op_repN pins s σ H _ _ v u Q I rx ry ⟨_, _, _, rfl, rfl, sqT h1, fun z => ?_, hc.2.1, hc.2.2.1, by rw [← r1.length]; exact hc.2.2.2, fun p o hp ho => ?_⟩
        · subst z; cases r1; exact hc.1 rfl
        · obtain ⟨e1, w1, q1⟩ := new_tup w hp ho (r1.flat _)
          exact fin _ _ e1 w1 q1
      · cases e
  | fdiv =>
    cases a <;> cases b <;> simp only [binD, reduceCtorEq] at e
    split at e
    · cases e
      rw [ra.int_inv] at rx; rw [rb.int_inv] at ry
      rename_i hc
      exact op_fdivW pins s σ H _ _ v u Q I rx ry ⟨_, _, rfl, rfl, hc, fint _ rfl⟩
    · cases e
  | mod =>
    cases a <;> cases b <;> simp only [binD, reduceCtorEq] at e
    split at e
    · cases e
      rw [ra.int_inv] at rx; rw [rb.int_inv] at ry
      rename_i hc
      exact op_mod pins s σ H _ _ v u Q I rx ry ⟨_, _, rfl, rfl, hc, fint _ rfl⟩
    · cases e
  | pow =>
    cases a <;> cases b <;> simp only [binD, reduceCtorEq] at e
    split at e
    · cases e
      rw [ra.int_inv] at rx; rw [rb.int_inv] at ry
      rename_i hc
      exact op_pow pins s σ H _ _ v u Q I rx ry ⟨_, _, rfl, rfl, hc, fint _ rfl⟩
    · cases e
end
end Mi

set_option Elab.async false
set_option linter.all false
set_option maxRecDepth 100000
set_option maxHeartbeats 1000000
namespace Mi
open PySem PySem.Spec PyProof.Rows L2
section
variable {X : Cx} {T : Tb}
def rC (o : Cop) : R2 := fun x y H Q => ∃ B L a b c, Rep H B L a x ∧ Rep H B L b y ∧ cmpD o a b = some c ∧ Q (.bl c) H
theorem inD_str {x : D} {z : Str} {c : Bool} (h : inD x (.str z) = some c) : ∃ k : Nat, x = .str ⟨#[k]⟩ ∧ c = decide (k ∈ z.cps.toList) := by
  cases x with
  | str y =>
    obtain ⟨⟨l⟩⟩ := y
    rcases l with _ | ⟨k, _ | ⟨k2, r⟩⟩
    · simp [inD] at h
    · simp only [inD, Option.some.injEq] at h
      exact ⟨k, rfl, h.symm⟩
    · simp [inD] at h
  | _ => simp [inD] at h
mutual
theorem alike_symm : ∀ (a b : PyData), PySem.W.alike a b = PySem.W.alike b a
  | .list xs, .list ys => by
    show PySem.W.alikeAll xs ys = PySem.W.alikeAll ys xs
    exact alikeAll_symm xs ys
  | .tuple xs, .tuple ys => by
    show PySem.W.alikeAll xs ys = PySem.W.alikeAll ys xs
    exact alikeAll_symm xs ys
  | .none, b => by cases b <;> simp [PySem.W.alike]
  | .bool _, b => by cases b <;> simp [PySem.W.alike]
  | .int _, b => by cases b <;> simp [PySem.W.alike]
  | .str _, b => by cases b <;> simp [PySem.W.alike]
  | .dict _, b => by cases b <;> simp [PySem.W.alike]
  | .list _, .none => by simp [PySem.W.alike]
  | .list _, .bool _ => by simp [PySem.W.alike]
  | .list _, .int _ => by simp [PySem.W.alike]
  | .list _, .str _ => by simp [PySem.W.alike]
  | .list _, .tuple _ => by simp [PySem.W.alike]
  | .list _, .dict _ => by simp [PySem.W.alike]
  | .tuple _, .none => by simp [PySem.W.alike]
  | .tuple _, .bool _ => by simp [PySem.W.alike]
  | .tuple _, .int _ => by simp [PySem.W.alike]
  | .tuple _, .str _ => by simp [PySem.W.alike]
  | .tuple _, .list _ => by simp [PySem.W.alike]
  | .tuple _, .dict _ => by simp [PySem.W.alike]
theorem alikeAll_symm : ∀ (a b : List PyData), PySem.W.alikeAll a b = PySem.W.alikeAll b a
  | [], [] => rfl
  | [], y :: ys => by simp [PySem.W.alikeAll]
  | x :: xs, [] => by simp [PySem.W.alikeAll]
  | x :: xs, y :: ys => by
    simp only [PySem.W.alikeAll]
    rw [alike_symm x y, alikeAll_symm xs ys]
end
theorem op_cmp (o : Cop) (hu : X.A.units + 200 < cLine) : OpR X (compareOp (cop o)) (rC o) := by
  intro pins s σ H x y v u Q I rx ry h
  obtain ⟨B, L, a, b, c, ra, rb, e, fin⟩ := h
  have ok : ∀ k : Bool, k = c → EP X pins σ Q (.bool k) s := fun k hk => ⟨.bl k, H, I, rfl, by rw [hk]; exact fin⟩
  have rd : ∀ {d : D} {x : V} {v : Value}, Rep H B L d x → RelV x v → d.canLay0 = true → ∃ as, Reads s.heap v d as := fun {d x v} r q k => Dp.reads I d x v (r.dp k) q
  have le : ∀ {a b c : D} {k : Bool}, True := trivial
  cases o with
  | eq =>
    simp only [cmpD, eqD] at e
    split at e
    · rename_i g
      cases e
      simp only [okEq, Bool.and_eq_true, decide_eq_true_eq] at g
      obtain ⟨as, r1⟩ := rd ra rx g.1.1
      obtain ⟨bs, r2⟩ := rd rb ry g.1.2
      exact SeqAt.compareEq_reads r1 r2 g.1.1 g.1.2 (by omega) (ok _ rfl)
    · cases e
  | ne =>
    simp only [cmpD, eqD] at e
    split at e
    · rename_i g
      cases e
      simp only [okEq, Bool.and_eq_true, decide_eq_true_eq] at g
      obtain ⟨as, r1⟩ := rd ra rx g.1.1
      obtain ⟨bs, r2⟩ := rd rb ry g.1.2
      exact SeqAt.compareNe_reads r1 r2 g.1.1 g.1.2 (by omega) (ok _ rfl)
    · cases e
  | lt =>
    have key : ∀ (a b : D), okLt a b = true → Rep H B L a x → Rep H B L b y → PySem.W.dataLt a b = c → wpAny (model X.prog X.w) X.A (compareOp .Lt v u) (EP X pins σ Q) X.xe s := fun a b g ra rb e => by
      simp only [okLt, Bool.and_eq_true, decide_eq_true_eq] at g
      obtain ⟨as, r1⟩ := rd ra rx g.1.1.1.1
      obtain ⟨bs, r2⟩ := rd rb ry g.1.1.1.2
      exact PySem.W.lt_data r1 r2 g.1.1.2 (fun z => by rw [z] at g; exact absurd g.1.2 (by decide)) (by omega) (ok _ e)
    simp only [cmpD, ltD] at e
    split at e
    · cases e
      rw [ra.int_inv] at rx; rw [rb.int_inv] at ry
      exact op_lt pins s σ H _ _ v u Q I rx ry ⟨_, _, rfl, rfl, fin⟩
    · split at e
      · cases e
        exact key a b (by assumption) ra rb rfl
      · cases e
  | gt =>
    have key : ∀ (a b : D), okLt b a = true → Rep H B L a x → Rep H B L b y → PySem.W.dataLt b a = c → wpAny (model X.prog X.w) X.A (compareOp .Gt v u) (EP X pins σ Q) X.xe s := fun a b g ra rb e => by
      simp only [okLt, Bool.and_eq_true, decide_eq_true_eq] at g
      obtain ⟨as, r1⟩ := rd ra rx g.1.1.1.2
      obtain ⟨bs, r2⟩ := rd rb ry g.1.1.1.1
      have al : PySem.W.alike a b = true := by rw [alike_symm]; exact g.1.1.2
      exact PySem.W.gt_data r1 r2 al (fun z => by subst z; cases b <;> simp [PySem.W.alike] at g) (by rw [Nat.min_comm] at g; omega) (ok _ e)
    simp only [cmpD, ltD] at e
    split at e
    · cases e
      rw [ra.int_inv] at rx; rw [rb.int_inv] at ry
      exact op_gt pins s σ H _ _ v u Q I rx ry ⟨_, _, rfl, rfl, fin⟩
    · split at e
      · cases e
        exact key a b (by assumption) ra rb rfl
      · cases e
  | le =>
    have key : ∀ (a b : D), okLt b a = true → Rep H B L a x → Rep H B L b y → (!PySem.W.dataLt b a) = c → wpAny (model X.prog X.w) X.A (compareOp .LtE v u) (EP X pins σ Q) X.xe s := fun a b g ra rb e => by
      simp only [okLt, Bool.and_eq_true, decide_eq_true_eq] at g
      obtain ⟨as, r1⟩ := rd ra rx g.1.1.1.2
      obtain ⟨bs, r2⟩ := rd rb ry g.1.1.1.1
      have al : PySem.W.alike a b = true := by rw [alike_symm]; exact g.1.1.2
      exact PySem.W.le_data r1 r2 al (fun z => by subst z; cases b <;> simp [PySem.W.alike] at g) (by rw [Nat.min_comm] at g; omega) (ok _ e)
    simp only [cmpD, ltD] at e
    split at e
    · cases e
      rw [ra.int_inv] at rx; rw [rb.int_inv] at ry
      refine op_le pins s σ H _ _ v u Q I rx ry ⟨_, _, rfl, rfl, ?_⟩
      have : ∀ i j : Int, decide (i ≤ j) = !decide (j < i) := fun i j => by by_cases h : i ≤ j <;> simp [h] <;> omega
      show Q (.bl (decide _)) H
      rw [this]; exact fin
    · split at e
      · cases e
        exact key a b (by assumption) ra rb rfl
      · cases e
  | ge =>
    have key : ∀ (a b : D), okLt a b = true → Rep H B L a x → Rep H B L b y → (!PySem.W.dataLt a b) = c → wpAny (model X.prog X.w) X.A (compareOp .GtE v u) (EP X pins σ Q) X.xe s := fun a b g ra rb e => by
      simp only [okLt, Bool.and_eq_true, decide_eq_true_eq] at g
      obtain ⟨as, r1⟩ := rd ra rx g.1.1.1.1
      obtain ⟨bs, r2⟩ := rd rb ry g.1.1.1.2
      exact PySem.W.ge_data r1 r2 g.1.1.2 (fun z => by rw [z] at g; exact absurd g.1.2 (by decide)) (by omega) (ok _ e)
    simp only [cmpD, ltD] at e
    split at e
    · cases e
      rw [ra.int_inv] at rx; rw [rb.int_inv] at ry
      refine op_ge pins s σ H _ _ v u Q I rx ry ⟨_, _, rfl, rfl, ?_⟩
      have : ∀ i j : Int, decide (j ≤ i) = !decide (i < j) := fun i j => by by_cases h : j ≤ i <;> simp [h] <;> omega
      show Q (.bl (decide _)) H
      rw [this]; exact fin
    · split at e
      · cases e
        exact key a b (by assumption) ra rb rfl
      · cases e
  | isin =>
    simp only [cmpD] at e
    cases b with
    | str z =>
      obtain ⟨k, rfl, rfl⟩ := inD_str e
      obtain ⟨rfl, _⟩ := ra.str_inv
      obtain ⟨rfl, _⟩ := rb.str_inv
      exact op_in_sign pins s σ H _ _ v u Q I rx ry ⟨_, _, rfl, rfl, fin⟩
    | list ds =>
      simp only [inD] at e
      split at e
      · rename_i g
        cases e
        simp only [Bool.and_eq_true, decide_eq_true_eq] at g
        obtain ⟨as, r1⟩ := rd ra rx g.1.1
        obtain ⟨bs, r2⟩ := rd rb ry (show PyData.canLay0 (.list ds) = true from g.1.2)
        exact SeqAt.in_list_reads r2 r1 g.1.2 g.1.1 (by omega) (ok _ rfl)
      · cases e
    | tuple ds =>
      simp only [inD] at e
      split at e
      · rename_i g
        cases e
        simp only [Bool.and_eq_true, decide_eq_true_eq] at g
        obtain ⟨as, r1⟩ := rd ra rx g.1.1
        obtain ⟨bs, r2⟩ := rd rb ry (show PyData.canLay0 (.tuple ds) = true from g.1.2)
        exact SeqAt.in_tuple_reads r2 r1 g.1.2 g.1.1 (by omega) (ok _ rfl)
      · cases e
    | _ => simp [inD] at e
  | notin =>
    simp only [cmpD, Option.map_eq_some_iff] at e
    obtain ⟨c', e, rfl⟩ := e
    cases b with
    | str z =>
      obtain ⟨k, rfl, rfl⟩ := inD_str e
      obtain ⟨rfl, _⟩ := ra.str_inv
      obtain ⟨rfl, _⟩ := rb.str_inv
      exact op_notIn_sign pins s σ H _ _ v u Q I rx ry ⟨_, _, rfl, rfl, fin⟩
    | list ds =>
      simp only [inD] at e
      split at e
      · rename_i g
        cases e
        simp only [Bool.and_eq_true, decide_eq_true_eq] at g
        obtain ⟨as, r1⟩ := rd ra rx g.1.1
        obtain ⟨bs, r2⟩ := rd rb ry (show PyData.canLay0 (.list ds) = true from g.1.2)
        exact SeqAt.notIn_list_reads r2 r1 g.1.2 g.1.1 (by omega) (ok _ rfl)
      · cases e
    | tuple ds =>
      simp only [inD] at e
      split at e
      · rename_i g
        cases e
        simp only [Bool.and_eq_true, decide_eq_true_eq] at g
        obtain ⟨as, r1⟩ := rd ra rx g.1.1
        obtain ⟨bs, r2⟩ := rd rb ry (show PyData.canLay0 (.tuple ds) = true from g.1.2)
        exact SeqAt.notIn_tuple_reads r2 r1 g.1.2 g.1.1 (by omega) (ok _ rfl)
      · cases e
    | _ => simp [inD] at e
  | is_ =>
    simp only [cmpD] at e
    have nn : ∀ (a : D), Rep H B L a x → isD a .none = some c → decide (x = V.non) = c := fun a r h => by
      cases r <;> simp [isD] at h <;> subst h <;> rfl
    cases b with
    | none =>
      cases rb
      exact op_isN pins s σ H _ _ v u Q I rx ry ⟨rfl, by rw [nn a ra e]; exact fin⟩
    | bool k =>
      cases a with
      | bool j =>
        simp only [isD, Option.some.injEq] at e
        subst e
        cases ra
        cases rb
        exact op_isBl pins s σ H _ _ v u Q I rx ry ⟨_, _, rfl, rfl, fin⟩
      | _ => simp [isD] at e
    | _ => cases a <;> simp [isD] at e
  | isnot =>
    simp only [cmpD, Option.map_eq_some_iff] at e
    obtain ⟨c', e, rfl⟩ := e
    have nn : ∀ (a : D), Rep H B L a x → isD a .none = some c' → decide (x = V.non) = c' := fun a r h => by
      cases r <;> simp [isD] at h <;> subst h <;> rfl
    cases b with
    | none =>
      cases rb
      exact op_notN pins s σ H _ _ v u Q I rx ry ⟨rfl, by rw [nn a ra e]; exact fin⟩
    | bool k =>
      cases a with
      | bool j =>
        simp only [isD, Option.some.injEq] at e
        subst e
        cases ra
        cases rb
        exact op_notBl pins s σ H _ _ v u Q I rx ry ⟨_, _, rfl, rfl, fin⟩
      | _ => simp [isD] at e
    | _ => cases a <;> simp [isD] at e
end
end Mi

set_option Elab.async false
set_option linter.all false
set_option maxRecDepth 100000
set_option maxHeartbeats 1000000
namespace Mi
open PySem PySem.Spec PyProof.Rows L2

/-! ### reversed by a slice -/
section
variable {prog : Program} {w : World} {A : Around} {E : Value → Shared → Prop} {s : Shared}
theorem rev_places (n : Nat) : Builtin.Slice.slicePlaces ((n : Int) - 1) (-1) (-1) = n := by
  unfold Builtin.Slice.slicePlaces
  have h1 : ¬ ((-1 : Int) > 0) := by omega
  simp only [h1, if_false]
  by_cases h : n = 0
  · subst h; simp
  · rw [if_pos (by omega)]
    have e : ((n : Int) - 1 - -1 - 1) / (- -1) + 1 = n := by
      rw [show (- -1 : Int) = 1 from rfl, Int.ediv_one]; omega
    rw [e]; simp
theorem rev_pick {α : Type} (xs : List α) : ((List.range xs.length).filterMap fun (k : Nat) => xs.toArray[(((xs.length : Int) - 1) + (k : Int) * (-1)).toNat]?) = xs.reverse := by
  apply List.ext_getElem?
  intro i
  have key : ∀ (n : Nat), n ≤ xs.length → ((List.range n).filterMap fun (k : Nat) => xs.toArray[(((xs.length : Int) - 1) + (k : Int) * (-1)).toNat]?) = xs.reverse.take n := by
    intro n
    induction n with
    | zero => intro _; simp
    | succ n ih =>
      intro hn
      rw [List.range_succ, List.filterMap_append, ih (by omega)]
      have e : (((xs.length : Int) - 1) + (n : Int) * (-1)).toNat = xs.length - 1 - n := by omega
      have hl : xs.length - 1 - n < xs.length := by omega
      simp only [List.filterMap_cons, List.filterMap_nil, e]
      rw [show xs.toArray[xs.length - 1 - n]? = some xs[xs.length - 1 - n] from by simp [hl]]
      have hr : n < xs.reverse.length := by simp; omega
      rw [List.take_succ_eq_append_getElem hr]
      simp
  rw [key _ (Nat.le_refl _), List.take_of_length_le (by rw [List.length_reverse]; exact Nat.le_refl _)]
theorem getItem_tuple_rev {t sl : Addr} {its : List Value} {u : Tok} {Q : Value → Shared → Prop} (ht : IsTup s.heap t its.toArray) (hs : s.heap.IsSliceOf sl .none .none (.int (-1) u))
    (h : Q (.ref s.heap.objs.size) { s with heap := s.heap.push { cls := .type "tuple", data := .seq its.reverse.toArray } })
    (hsz : its.length ≤ sizeLine) : wpAny (model prog w) A (getItem (.ref t) (.ref sl)) Q E s := by
  have htake : sizeOk (.seq its.reverse.toArray) := by
    show its.reverse.toArray.size ≤ sizeLine
    rw [List.size_toArray, List.length_reverse]; exact hsz
  obtain ⟨os, hos, hcs, hds⟩ := id hs
  have hTs : s.TypeIs (.ref sl) "slice" := ⟨os, hos, hcs⟩
  unfold getItem
  try with_reducible refine wpAny_holding ?_
  first | refine wpAny_bind (wpAny_pure ?_) | skip
  refine wpAny_bind (wpAny_sequenceKey ht.typeIs (by decide) ?_)
  refine wpAny_bind (wpAny_callSpecial?_slot (name := Str.ofString "__getitem__") ht.typeIs PyProof.Rows.slot_tuple_getitem
    (wpAny_call_entry PyProof.Rows.slot_tuple_getitem ht.typeIs entry_tuple_getitem ?_ (args_tuple_getitem _ _)))
  show wpAny _ _ (Builtin.Tuple.tupleItemsOf (.ref t) >>= _) _ _ s
  refine wpAny_bind (tupleItemsOf_ ht ?_)
  refine wpAny_bind (wpAny_typeOf hTs ?_)
  rw [if_pos (by decide)]
  have app : ∀ {Q : Int × Int × Nat → Shared → Prop}, Q ((its.length : Int) - 1, -1, its.length) s → wpAny (model prog w) A.in1 (Builtin.Slice.sliceApplied (.ref sl) (pure (its.toArray.size : Int))) Q E s := fun {Q} hq => by
    unfold Builtin.Slice.sliceApplied Builtin.Slice.sliceFields
    refine wpAny_bind (wpAny_bind (wpAny_field hos hds (x := .none) rfl (wpAny_bind (wpAny_field hos hds (x := .none) rfl (wpAny_bind (wpAny_field hos hds (x := .int (-1) u) rfl (wpAny_pure ?_)))))))
    refine wpAny_bind (slicePart_int ?_)
    show wpAny _ _ (if ((-1 : Int) == 0) = true then _ else _) _ _ s
    rw [if_neg (by decide)]
    refine wpAny_bind (slicePart_none (wpAny_bind (slicePart_none (wpAny_bind (wpAny_pure ?_)))))
    have e : Builtin.Slice.sliceAdjust none none (-1) (its.toArray.size : Int) = ((its.length : Int) - 1, -1) := by
      unfold Builtin.Slice.sliceAdjust
      simp
    show wpAny _ _ (match Builtin.Slice.sliceAdjust none none (-1) (its.toArray.size : Int) with | (lo, hi) => pure (lo, (-1 : Int), Builtin.Slice.slicePlaces lo hi (-1))) _ _ s
    rw [e]
    show wpAny _ _ (pure ((its.length : Int) - 1, (-1 : Int), Builtin.Slice.slicePlaces ((its.length : Int) - 1) (-1) (-1))) _ _ s
    rw [rev_places]
    exact wpAny_pure hq
  refine wpAny_bind ?_
  refine app ?_
  have hno : ¬ ((((its.length : Int) - 1) == 0 && (-1 : Int) == 1 && its.length == its.toArray.size) = true) := by
    intro q
    rw [Bool.and_eq_true, Bool.and_eq_true] at q
    exact absurd q.1.2 (by decide)
  show wpAny _ _ (if (((its.length : Int) - 1) == 0 && (-1 : Int) == 1 && its.length == its.toArray.size) = true then _ else _) _ _ s
  rw [if_neg hno, rev_pick]
  first
    | exact wpAny_bind (m := Builtin.Tuple.tupleExact _) (wpAny_newObj_type (wpAny_pure ⟨_, rfl, wpAny_pure h⟩) htake)
    | exact wpAny_bind (m := Builtin.Tuple.tupleExact _) (wpAny_newObj_type (wpAny_bind (wpAny_pure (wpAny_pure ⟨_, rfl, wpAny_pure h⟩))) htake)
    | exact wpAny_bind (wpAny_bind (m := Builtin.Tuple.tupleExact _) (wpAny_newObj_type (wpAny_pure (wpAny_pure ⟨_, rfl, wpAny_pure h⟩)) htake))
    | exact wpAny_bind (wpAny_bind (m := Builtin.Tuple.tupleExact _) (wpAny_newObj_type (wpAny_pure ⟨_, rfl, wpAny_pure h⟩) htake))
end
def revS (z : Str) : Str := ⟨z.cps.reverse⟩
theorem rev_str_ix (z : Str) : ((Builtin.Str.strSliceIndices none none (-1) z.length).filterMap (z.cps[·]?)) = z.cps.toList.reverse := by
  have e1 : Builtin.Str.strSliceIndices none none (-1) z.length = sliceRange ((z.length : Int) - 1) (-1) (-1) := by
    unfold Builtin.Str.strSliceIndices
    simp
  rw [e1, PySem.W.krv_sliceRange, PySem.W.krv_range]
  have h : z.length = z.cps.size := rfl
  rw [h, List.filterMap_reverse, PySem.W.krv_all]
section
variable {X : Cx} {T : Tb}
def tRevD (T : Tb) (te : TE) : TE := fun σ H Q => te σ H fun x H1 => ∃ G L S a d, WS T G L H1 S ∧ Rep H1 (Bad G L) L a x ∧ revD a = some d ∧ Fin T G L H1 S d Q
theorem pe_rev {e : Expr} {te : TE} {k : Nat} {p1 p2 p3 pos : Pos} (he : PE X e te) : PE X (.Subscript e (.Slice none none (some (.UnaryOp .USub (.Constant (.int 1) k p1) p2)) p3) pos) (tRevD T te) := by
  refine ⟨fun pins s σ H Q I h => ?_⟩
  refine Subscript_ (thn (he.run pins s σ H _ I h) fun v s1 ⟨x, H1, I1, r1, q1⟩ => ?_)
  obtain ⟨G, L, S, a, d, w, ra, e, fin⟩ := q1
  have hst : PO X (some (.UnaryOp .USub (.Constant (.int 1) k p1) p2)) (tPart (tUn (rU fun i => .int (-i)) (tC (.int 1)))) := po_some (pe_un un_neg pe_int)
  refine wpAny_Slice (thn (po_none.run pins s1 σ H1 (fun o H2 => o = none ∧ H2 = H1) I1 ⟨rfl, rfl⟩) fun vl s2 ⟨l, H2, I2, pl, el, e2⟩ => ?_)
  subst el e2
  refine thn (po_none.run pins s2 σ H2 (fun o H3 => o = none ∧ H3 = H2) I2 ⟨rfl, rfl⟩) fun vu s3 ⟨u, H3, I3, pu, eu, e3⟩ => ?_
  subst eu e3
  refine thn (hst.run pins s3 σ H3 (fun o H4 => o = some (-1) ∧ H4 = H3) I3 ⟨1, rfl, -1, rfl, rfl, rfl⟩) fun vs s4 ⟨o, H4, I4, ps, eo, e4⟩ => ?_
  subst eo e4
  have I5 : Inv X pins σ H4 { s4 with heap := s4.heap.push { cls := .type "slice", data := .fields #[vl, vu, vs] } } := I4.kept (t' := s4.toks) fun b ob q => Heap.get?_push_of_some _ q
  cases a with
  | list ds =>
    obtain ⟨a1, xs, rfl, h1, n1, rs⟩ := ra.lst_inv
    simp only [revD, Option.some.injEq] at e
    subst e
    cases r1
    obtain ⟨its, r, ht, hz⟩ := I5.list (.inl h1)
    have hlen := r.length
    show wpAny (model X.prog X.w) X.A (subscriptTail _ (.Slice none none (some (.UnaryOp .USub (.Constant (.int 1) k p1) p2)) p3) (.ref a1) (.ref s4.heap.objs.size)) (EP X pins σ Q) X.xe { s4 with heap := s4.heap.push { cls := .type "slice", data := .fields #[vl, vu, vs] } }
    refine tail_any (ops := [.ref a1, .ref s4.heap.objs.size]) ht.isList.typeIs (PySem.slot_list_getitem.lookup) ?_ (by with_unfolding_all rfl)
    refine wpAny_getItem_list_slice ht.isList (Heap.IsSliceOf.new _ vl vu vs) pl pu ps (by decide) ?_ (by rw [List.size_toArray]; omega)
    rw [PySem.W.krv_pick]
    have hp := I5.hok.fresh (Nat.le_refl _)
    obtain ⟨e1, w1, q1⟩ := new_lst w hp rs.reverse
    refine ⟨.ref _, _, I5.laid (t' := s4.toks) (o := .lst xs.reverse) (fun b ob q => Heap.get?_push_of_some _ q) (Nat.le_refl _) ?_, rfl, fin _ _ e1 w1 q1⟩
    exact ⟨by rw [List.length_reverse]; exact hz, _, 0, r.reverse, Heap.get?_push_size _ rfl⟩
  | tuple ds =>
    obtain ⟨a1, xs, rfl, h1, n1, rs⟩ := ra.tup_inv
    simp only [revD, Option.some.injEq] at e
    subst e
    cases r1
    obtain ⟨its, r, ht, hz⟩ := I5.tuple (sqT h1)
    have hlen := r.length
    cases pl
    cases pu
    cases ps with
    | int _ u =>
    show wpAny (model X.prog X.w) X.A (subscriptTail _ (.Slice none none (some (.UnaryOp .USub (.Constant (.int 1) k p1) p2)) p3) (.ref a1) (.ref s4.heap.objs.size)) (EP X pins σ Q) X.xe { s4 with heap := s4.heap.push { cls := .type "slice", data := .fields #[.none, .none, .int (-1) u] } }
    refine tail_any (ops := [.ref a1, .ref s4.heap.objs.size]) ht.typeIs (PyProof.Rows.slot_tuple_getitem.lookup) ?_ (by with_unfolding_all rfl)
    refine getItem_tuple_rev ht (Heap.IsSliceOf.new _ .none .none (.int (-1) u)) ?_ (by omega)
    exact Inv.tnew (t' := s4.toks) I5 r.reverse (by rw [List.length_reverse]; exact hz) fun p o hp ho => by
      obtain ⟨e1, w1, q1⟩ := new_tup w hp ho rs.reverse
      exact fin _ _ e1 w1 q1
  | str z =>
    obtain ⟨rfl, hz⟩ := ra.str_inv
    simp only [revD, Option.some.injEq] at e
    subst e
    obtain ⟨t, rfl⟩ := r1
    cases pl
    cases pu
    cases ps with
    | int _ u =>
    show wpAny (model X.prog X.w) X.A (subscriptTail _ (.Slice none none (some (.UnaryOp .USub (.Constant (.int 1) k p1) p2)) p3) (.str z t) (.ref s4.heap.objs.size)) (EP X pins σ Q) X.xe { s4 with heap := s4.heap.push { cls := .type "slice", data := .fields #[.none, .none, .int (-1) u] } }
    refine tail_any (ops := [.str z t, .ref s4.heap.objs.size]) (typeIs_str _ _ _) (F.slot_str_getitem.lookup) ?_ (by with_unfolding_all rfl)
    refine wpAny_getItem_str_slice (l := none) (u := none) (st := some (-1, u)) (Heap.IsSliceOf.new _ .none .none (.int (-1) u)) rfl ?_
    show Made.post (if ((-1 : Int) == 1 && (Builtin.Str.strSliceIndices none none (-1) z.length).length == z.length) = true then Made.val (.str z t)
      else Made.str ⟨((Builtin.Str.strSliceIndices none none (-1) z.length).filterMap (z.cps[·]?)).toArray⟩) (EP X pins σ Q) _
    have c : ¬ (((-1 : Int) == 1 && (Builtin.Str.strSliceIndices none none (-1) z.length).length == z.length) = true) := by
      intro q
      rw [Bool.and_eq_true] at q
      exact absurd q.1 (by decide)
    rw [if_neg c, rev_str_ix]
    have ez : z.cps.toList.reverse.toArray = z.cps.reverse := by rw [← Array.toList_reverse, Array.toArray_toList]
    rw [ez]
    have hl : (⟨z.cps.reverse⟩ : Str).length ≤ sizeLine := by
      show z.cps.reverse.size ≤ sizeLine
      rw [Array.size_reverse]; exact hz
    exact ⟨hl, .str _, H4, I5.tok _, ⟨_, rfl⟩, fin _ _ Ext.refl w (.str _ hl)⟩
  | _ => simp [revD] at e
end
end Mi

set_option Elab.async false
set_option linter.all false
set_option maxRecDepth 100000
set_option maxHeartbeats 1000000
namespace Mi
open PySem PySem.Spec PyProof.Rows L2
section
variable {X : Cx} {T : Tb}
theorem Reps.atI {H : Hp} {B : Addr → Prop} {L : List Addr} {ds : List D} {vs : List V} {i : Int} {d : D} (r : Reps H B L ds vs) (h : L2.atI ds i = some d) : ∃ v, L2.atI vs i = some v ∧ Rep H B L d v := by
  unfold L2.atI at h ⊢
  rw [← r.length]
  cases e : ixN ds.length i with
  | none => rw [e] at h; cases h
  | some j =>
    rw [e] at h
    exact r.get h
def rIxD (T : Tb) : R2 := fun x y H Q => ∃ G L S a i d, WS T G L H S ∧ Rep H (Bad G L) L a x ∧ Rep H (Bad G L) L i y ∧ idxD S a i = some d ∧ ∀ v, Rep H (Bad G L) L d v → Q v H
theorem ix_D : IxR X (rIxD T) := by
  intro value slice pins s σ H x y v u Q I rx ry h hs
  obtain ⟨G, L, S, a, i, d, w, ra, ri, e, fin⟩ := h
  have go : ∀ (p : Addr) (xs : List V) (ds : List D) (k : Int), Rd H p (.lst xs) → Reps H (Bad G L) L ds xs → L2.atI ds k = some d → x = .ref p → y = .int k → wpAny (model X.prog X.w) X.A (subscriptTail value slice v u) (EP X pins σ Q) X.xe s := fun p xs ds k hp rs ha ex ey => by
    subst ex ey
    obtain ⟨z, h1, h2⟩ := rs.atI ha
    exact ix_list value slice pins s σ H _ _ v u Q I rx ry ⟨p, xs, k, z, rfl, rfl, .inl hp, h1, fin z h2⟩ hs
  cases a with
  | list ds =>
    cases i <;> simp only [idxD, reduceCtorEq] at e
    obtain ⟨p, xs, rfl, h1, _, rs⟩ := ra.lst_inv
    exact go p xs ds _ h1 rs e rfl ri.int_inv
  | tuple ds =>
    cases i <;> simp only [idxD, reduceCtorEq] at e
    obtain ⟨p, xs, rfl, h1, _, rs⟩ := ra.tup_inv
    have ey := ri.int_inv
    subst ey
    obtain ⟨z, h2, h3⟩ := rs.atI e
    exact ix_tup value slice pins s σ H _ _ v u Q I rx ry ⟨p, xs, _, z, rfl, rfl, sqT h1, h2, fin z h3⟩ hs
  | str z =>
    cases i <;> simp only [idxD, reduceCtorEq, Option.map_eq_some_iff] at e
    obtain ⟨c, e, rfl⟩ := e
    obtain ⟨rfl, hz⟩ := ra.str_inv
    have ey := ri.int_inv
    subst ey
    exact ix_str value slice pins s σ H _ _ v u Q I rx ry ⟨z, _, c, rfl, rfl, hz, e, fin _ (.str _ (by show 1 ≤ sizeLine; rw [sizeLine_eq]; omega))⟩ hs
  | dict kvs =>
    unfold idxD at e
    split at e
    · rename_i h; cases h
    · rename_i h; cases h
    · rename_i h; cases h
    · rename_i k j heq
      cases heq
      simp only [Option.bind_eq_some_iff] at e
      obtain ⟨ds, e1, e2⟩ := e
      split at e2
      · cases ra with
        | loc hk =>
          obtain ⟨vs, q1, q2⟩ := w.get hk (by simpa using e1)
          exact go _ vs ds _ (.inl q1) q2 e2 rfl ri.int_inv
      · cases e2
    · cases e
  | _ => cases i <;> simp [idxD] at e
theorem cutL_rep {H : Hp} {B : Addr → Prop} {L : List Addr} {ds : List D} {vs : List V} (r : Reps H B L ds vs) (lo hi : Option Int) : Reps H B L (cutL ds lo hi) (cutV vs lo hi) := by
  unfold cutL cutV
  rw [r.length]
  exact (r.drop _).take _
def rSlD (T : Tb) : V → Option Int → Option Int → Hp → VK → Prop := fun x lo hi H Q => ∃ G L S a d, WS T G L H S ∧ Rep H (Bad G L) L a x ∧ sliceD lo hi a = some d ∧ Fin T G L H S d Q
theorem sl_D : SlR X (rSlD T) := by
  intro pins s σ H x v vl vu lo hi sl Q I rx hs pl pu h
  obtain ⟨G, L, S, a, d, w, ra, e, fin⟩ := h
  cases a with
  | list ds =>
    simp only [sliceD, Option.some.injEq] at e
    subst e
    obtain ⟨p, xs, rfl, h1, _, rs⟩ := ra.lst_inv
    exact sl_list pins s σ H _ v vl vu lo hi sl Q I rx hs pl pu ⟨p, xs, rfl, .inl h1, fun q hq => by
      obtain ⟨e1, w1, q1⟩ := new_lst w hq (cutL_rep rs lo hi)
      exact fin _ _ e1 w1 q1⟩
  | tuple ds =>
    simp only [sliceD, Option.some.injEq] at e
    subst e
    obtain ⟨p, xs, rfl, h1, n1, rs⟩ := ra.tup_inv
    refine sl_tupN pins s σ H _ v vl vu lo hi sl Q I rx hs pl pu ⟨p, xs, rfl, sqT h1, fun hw => ?_, fun _ q o hq ho => ?_⟩
    · have e2 : cutL ds lo hi = ds := by
        unfold cutL
        rw [rs.length, hw.1, hw.2, List.drop_zero, Nat.sub_zero, ← rs.length, List.take_length]
      rw [e2] at fin
      exact fin _ H Ext.refl w (.ofTup h1 n1 rs)
    · obtain ⟨e1, w1, q1⟩ := new_tup w hq ho (cutL_rep rs lo hi)
      exact fin _ _ e1 w1 q1
  | str z =>
    simp only [sliceD, Option.some.injEq] at e
    subst e
    obtain ⟨rfl, hz⟩ := ra.str_inv
    exact sl_str pins s σ H _ v vl vu lo hi sl Q I rx hs pl pu ⟨z, rfl, hz, fin _ H Ext.refl w (.str _ (Nat.le_trans (cutS_length z lo hi) hz))⟩
  | _ => simp [sliceD] at e

/-! ### built-ins -/
/-- what is wanted of a call's value -/
def rBi (T : Tb) (b : Bi) : List V → Hp → VK → Prop := fun vs H Q => ∃ G L S ds d, WS T G L H S ∧ Reps H (Bad G L) L ds vs ∧ biD b ds = some d ∧ Fin T G L H S d Q
def biV : Bi → Value
  | .len => .builtin "len" | .abs => .builtin "abs" | .min => .builtin "min" | .max => .builtin "max" | .sum => .builtin "sum" | .all => .builtin "all" | .any => .builtin "any"
  | .tuple => .type "tuple" | .list => .type "list" | .sorted => .builtin "sorted" | .int => .type "int" | .str => .type "str"
theorem Reps.inv1 {H : Hp} {B : Addr → Prop} {L : List Addr} {d : D} {vs : List V} (r : Reps H B L [d] vs) : ∃ v, vs = [v] ∧ Rep H B L d v := by
  cases r with
  | cons q t => cases t; exact ⟨_, rfl, q⟩
theorem Reps.inv2 {H : Hp} {B : Addr → Prop} {L : List Addr} {d e : D} {vs : List V} (r : Reps H B L [d, e] vs) : ∃ v u, vs = [v, u] ∧ Rep H B L d v ∧ Rep H B L e u := by
  cases r with
  | cons q t =>
    obtain ⟨u, rfl, r⟩ := t.inv1
    exact ⟨_, _, rfl, q, r⟩
theorem intsD_map : ∀ {ds : List D} {ns : List Int}, intsD ds = some ns → ds = ns.map .int
  | [], ns, h => by
    have : ns = [] := by simpa [intsD] using h.symm
    subst this; rfl
  | d :: ds, ns, h => by
    cases d with
    | int i =>
      simp only [intsD, Option.map_eq_some_iff] at h
      obtain ⟨ms, h1, rfl⟩ := h
      rw [intsD_map h1]; rfl
    | _ => simp [intsD] at h
theorem ints_lay : ∀ ns : List Int, PyData.canLayAll0 (ns.map .int) = true
  | [] => rfl
  | n :: ns => by
    show (PyData.canLay0 (.int n) && PyData.canLayAll0 (ns.map .int)) = true
    rw [ints_lay ns]; rfl
theorem ints_depth : ∀ ns : List Int, PyData.depthAll (ns.map .int) = 0
  | [] => rfl
  | n :: ns => by
    show max (PyData.depth (.int n)) (PyData.depthAll (ns.map .int)) = 0
    rw [ints_depth ns]; rfl
theorem ints_alike (ns : List Int) : PySem.W.AlikeAll (ns.map .int) := by
  refine ⟨fun x hx y hy => ?_, fun x hx => ?_⟩
  · obtain ⟨i, _, rfl⟩ := List.mem_map.mp hx
    obtain ⟨j, _, rfl⟩ := List.mem_map.mp hy
    rfl
  · obtain ⟨i, _, rfl⟩ := List.mem_map.mp hx
    intro q; cases q
theorem reads_int {h : Heap} {v : Value} {i : Int} {as : List Addr} (r : Reads h v (.int i) as) : RelV (.int i) v := by
  cases r; exact ⟨_, rfl⟩
theorem mm_min (hu : X.A.units + 200 < cLine) (hc : X.calm = true) {pins : List (Addr × Obj)} {σ : L2.St} {H : Hp} {s : Shared} {Q : VK} {G : Addr → Prop} {L : List Addr} {a : D} {v : V} {u : Value} {ns : List Int} {n : Int} {xs : List D} (I : Inv X pins σ H s)
    (rv : RelV v u) (ra : Rep H (Bad G L) L a v) (hi : itemsD a = some xs) (hn : intsD xs = some (n :: ns)) (q : Q (.int (ns.foldl min n)) H) : wpAny (model X.prog X.w) X.A (call (.builtin "min") [u]) (EP X pins σ Q) X.xe s := by
  have ex := intsD_map hn
  have hh := I.ok.hd hc
  have hd : PyData.depthAll xs = 0 := by rw [ex]; exact ints_depth (n :: ns)
  cases a with
  | list ds =>
    simp only [itemsD, Option.some.injEq] at hi
    subst hi
    obtain ⟨p, vs, rfl, h1, _, rs⟩ := ra.lst_inv
    cases rv
    obtain ⟨its, r, ht, hz⟩ := I.list (.inl h1)
    obtain ⟨as, hr⟩ := Dp.readsAll I ds _ its (rs.dp (by rw [ex]; exact ints_lay (n :: ns))) r
    rw [ex] at hr hd
    refine PySem.W.min_list_data hh ht.isList (by simpa using hr) (ints_alike (n :: ns)) (by show X.A.units + 1 + PyData.depthAll ((n :: ns).map .int) < cLine; rw [hd]; omega) fun i v h' tk bs _ hv kp => ?_
    have e2 : PySem.W.minD (.int n) (ns.map .int) = .int (ns.foldl min n) := PySem.W.minD_ints n ns
    rw [e2] at hv
    exact ⟨.int _, H, I.kept (t' := tk) kp, reads_int hv, q⟩
  | tuple ds =>
    simp only [itemsD, Option.some.injEq] at hi
    subst hi
    obtain ⟨p, vs, rfl, h1, _, rs⟩ := ra.tup_inv
    cases rv
    obtain ⟨its, r, ht, hz⟩ := I.tuple (sqT h1)
    obtain ⟨as, hr⟩ := Dp.readsAll I ds _ its (rs.dp (by rw [ex]; exact ints_lay (n :: ns))) r
    rw [ex] at hr hd
    refine PySem.W.min_tuple_data hh ht (by simpa using hr) (ints_alike (n :: ns)) (by show X.A.units + 1 + PyData.depthAll ((n :: ns).map .int) < cLine; rw [hd]; omega) fun i v h' tk bs _ hv kp => ?_
    have e2 : PySem.W.minD (.int n) (ns.map .int) = .int (ns.foldl min n) := PySem.W.minD_ints n ns
    rw [e2] at hv
    exact ⟨.int _, H, I.kept (t' := tk) kp, reads_int hv, q⟩
  | _ => simp [itemsD] at hi
theorem mm_max (hu : X.A.units + 200 < cLine) (hc : X.calm = true) {pins : List (Addr × Obj)} {σ : L2.St} {H : Hp} {s : Shared} {Q : VK} {G : Addr → Prop} {L : List Addr} {a : D} {v : V} {u : Value} {ns : List Int} {n : Int} {xs : List D} (I : Inv X pins σ H s)
    (rv : RelV v u) (ra : Rep H (Bad G L) L a v) (hi : itemsD a = some xs) (hn : intsD xs = some (n :: ns)) (q : Q (.int (ns.foldl max n)) H) : wpAny (model X.prog X.w) X.A (call (.builtin "max") [u]) (EP X pins σ Q) X.xe s := by
  have ex := intsD_map hn
  have hh := I.ok.hd hc
  have hd : PyData.depthAll xs = 0 := by rw [ex]; exact ints_depth (n :: ns)
  cases a with
  | list ds =>
    simp only [itemsD, Option.some.injEq] at hi
    subst hi
    obtain ⟨p, vs, rfl, h1, _, rs⟩ := ra.lst_inv
    cases rv
    obtain ⟨its, r, ht, hz⟩ := I.list (.inl h1)
    obtain ⟨as, hr⟩ := Dp.readsAll I ds _ its (rs.dp (by rw [ex]; exact ints_lay (n :: ns))) r
    rw [ex] at hr hd
    refine PySem.W.max_list_data hh ht.isList (by simpa using hr) (ints_alike (n :: ns)) (by show X.A.units + 1 + PyData.depthAll ((n :: ns).map .int) < cLine; rw [hd]; omega) fun i v h' tk bs _ hv kp => ?_
    have e2 : PySem.W.maxD (.int n) (ns.map .int) = .int (ns.foldl max n) := PySem.W.maxD_ints n ns
    rw [e2] at hv
    exact ⟨.int _, H, I.kept (t' := tk) kp, reads_int hv, q⟩
  | tuple ds =>
    simp only [itemsD, Option.some.injEq] at hi
    subst hi
    obtain ⟨p, vs, rfl, h1, _, rs⟩ := ra.tup_inv
    cases rv
    obtain ⟨its, r, ht, hz⟩ := I.tuple (sqT h1)
    obtain ⟨as, hr⟩ := Dp.readsAll I ds _ its (rs.dp (by rw [ex]; exact ints_lay (n :: ns))) r
    rw [ex] at hr hd
    refine PySem.W.max_tuple_data hh ht (by simpa using hr) (ints_alike (n :: ns)) (by show X.A.units + 1 + PyData.depthAll ((n :: ns).map .int) < cLine; rw [hd]; omega) fun i v h' tk bs _ hv kp => ?_
    have e2 : PySem.W.maxD (.int n) (ns.map .int) = .int (ns.foldl max n) := PySem.W.maxD_ints n ns
    rw [e2] at hv
    exact ⟨.int _, H, I.kept (t' := tk) kp, reads_int hv, q⟩
  | _ => simp [itemsD] at hi
theorem call_bi (b : Bi) (hu : X.A.units + 200 < cLine) (hc : X.calm = true) : CallR X (biV b) (rBi T b) := by
  intro pins s σ H vs us Q I rv h
  obtain ⟨G, L, S, ds, d, w, rs, e, fin⟩ := h
  have fint : ∀ i : Int, d = .int i → Q (.int i) H := fun i hd => fin _ H Ext.refl w (by rw [hd]; exact .int i)
  have fbl : ∀ i : Bool, d = .bool i → Q (.bl i) H := fun i hd => fin _ H Ext.refl w (by rw [hd]; exact .bl i)
  unfold biD at e
  split at e
  · -- len
    obtain ⟨v, rfl, r⟩ := rs.inv1
    simp only [Option.map_eq_some_iff] at e
    obtain ⟨n, e, rfl⟩ := e
    rename_i a
    cases a with
    | list xs =>
      simp only [lenD, Option.some.injEq] at e
      subst e
      obtain ⟨p, ws, rfl, h1, _, r2⟩ := r.lst_inv
      exact call_len_seq pins s σ H _ us Q I rv ⟨p, ws, rfl, .inl (.inl h1), by rw [← r2.length]; exact fint _ rfl⟩
    | tuple xs =>
      simp only [lenD, Option.some.injEq] at e
      subst e
      obtain ⟨p, ws, rfl, h1, _, r2⟩ := r.tup_inv
      exact call_len_seq pins s σ H _ us Q I rv ⟨p, ws, rfl, .inr (sqT h1), by rw [← r2.length]; exact fint _ rfl⟩
    | str z =>
      simp only [lenD, Option.some.injEq] at e
      subst e
      obtain ⟨rfl, hz⟩ := r.str_inv
      exact call_len_str pins s σ H _ us Q I rv ⟨z, rfl, hz, fint _ rfl⟩
    | _ => simp [lenD] at e
  · -- abs
    cases e
    obtain ⟨v, rfl, r⟩ := rs.inv1
    rw [r.int_inv] at rv
    exact call_abs pins s σ H _ us Q I rv ⟨_, rfl, fint _ rfl⟩
  · -- min
    obtain ⟨v, rfl, r⟩ := rs.inv1
    simp only [Option.map_eq_some_iff, Option.bind_eq_some_iff] at e
    obtain ⟨m, ⟨xs, hx, ns, hn, hm⟩, rfl⟩ := e
    cases ns with
    | nil => cases hm
    | cons n ns =>
      cases hm
      obtain ⟨u, rfl, ru⟩ := rv.one
      exact mm_min hu hc I ru r hx hn (fint _ rfl)
  · -- max
    obtain ⟨v, rfl, r⟩ := rs.inv1
    simp only [Option.map_eq_some_iff, Option.bind_eq_some_iff] at e
    obtain ⟨m, ⟨xs, hx, ns, hn, hm⟩, rfl⟩ := e
    cases ns with
    | nil => cases hm
    | cons n ns =>
      cases hm
      obtain ⟨u, rfl, ru⟩ := rv.one
      exact mm_max hu hc I ru r hx hn (fint _ rfl)
  · -- min2
    cases e
    obtain ⟨v, u, rfl, r1, r2⟩ := rs.inv2
    rw [r1.int_inv, r2.int_inv] at rv
    exact call_min2 hc pins s σ H _ us Q I rv ⟨_, _, rfl, fint _ rfl⟩
  · -- max2
    cases e
    obtain ⟨v, u, rfl, r1, r2⟩ := rs.inv2
    rw [r1.int_inv, r2.int_inv] at rv
    exact call_max2 hc pins s σ H _ us Q I rv ⟨_, _, rfl, fint _ rfl⟩
  · -- sum
    simp only [Option.map_eq_some_iff] at e
    obtain ⟨ns, hn, rfl⟩ := e
    obtain ⟨v, rfl, r⟩ := rs.inv1
    obtain ⟨p, ws, rfl, h1, _, r2⟩ := r.lst_inv
    have := r2.ints hn
    subst this
    exact cr_sum hc pins s σ H _ us Q I rv ⟨p, ns, rfl, .inl h1, fint _ rfl⟩
  · -- all
    simp only [Option.map_eq_some_iff] at e
    obtain ⟨ns, hn, rfl⟩ := e
    obtain ⟨v, rfl, r⟩ := rs.inv1
    obtain ⟨p, ws, rfl, h1, _, r2⟩ := r.lst_inv
    have := r2.bools hn
    subst this
    exact cr_all hc pins s σ H _ us Q I rv ⟨p, ns, rfl, .inl h1, fbl _ rfl⟩
  · -- any
    simp only [Option.map_eq_some_iff] at e
    obtain ⟨ns, hn, rfl⟩ := e
    obtain ⟨v, rfl, r⟩ := rs.inv1
    obtain ⟨p, ws, rfl, h1, _, r2⟩ := r.lst_inv
    have := r2.bools hn
    subst this
    exact cr_any hc pins s σ H _ us Q I rv ⟨p, ns, rfl, .inl h1, fbl _ rfl⟩
  · -- tuple of a list
    cases e
    obtain ⟨v, rfl, r⟩ := rs.inv1
    obtain ⟨p, ws, rfl, h1, _, r2⟩ := r.lst_inv
    refine call_tupN pins s σ H _ us Q I rv ⟨p, ws, rfl, .inl ⟨.inl h1, fun q o hq ho => ?_⟩⟩
    obtain ⟨e1, w1, q1⟩ := new_tup w hq ho r2
    exact fin _ _ e1 w1 q1
  · -- tuple of a tuple
    cases e
    obtain ⟨v, rfl, r⟩ := rs.inv1
    obtain ⟨p, ws, rfl, h1, n1, r2⟩ := r.tup_inv
    exact call_tupN pins s σ H _ us Q I rv ⟨p, ws, rfl, .inr ⟨sqT h1, fin _ H Ext.refl w (.ofTup h1 n1 r2)⟩⟩
  · -- list of a list
    cases e
    obtain ⟨v, rfl, r⟩ := rs.inv1
    obtain ⟨p, ws, rfl, h1, _, r2⟩ := r.lst_inv
    refine call_list_of pins s σ H _ us Q I rv ⟨p, ws, rfl, .inl (.inl h1), fun q hq => ?_⟩
    obtain ⟨e1, w1, q1⟩ := new_lst w hq r2
    exact fin _ _ e1 w1 q1
  · -- list of a tuple
    cases e
    obtain ⟨v, rfl, r⟩ := rs.inv1
    obtain ⟨p, ws, rfl, h1, _, r2⟩ := r.tup_inv
    refine call_list_of pins s σ H _ us Q I rv ⟨p, ws, rfl, .inr (sqT h1), fun q hq => ?_⟩
    obtain ⟨e1, w1, q1⟩ := new_lst w hq r2
    exact fin _ _ e1 w1 q1
  · -- int
    cases e
    obtain ⟨v, rfl, r⟩ := rs.inv1
    rw [r.int_inv] at rv
    exact call_int1 pins s σ H _ us Q I rv (.inl ⟨_, rfl, fint _ rfl⟩)
  · cases e
    obtain ⟨v, rfl, r⟩ := rs.inv1
    rw [r.bl_inv] at rv
    exact call_int1 pins s σ H _ us Q I rv (.inr ⟨_, rfl, fint _ rfl⟩)
  · cases e
end
end Mi

set_option Elab.async false
set_option linter.all false
set_option maxRecDepth 100000
set_option maxHeartbeats 1000000
namespace Mi
open PySem PySem.Spec PyProof.Rows L2

/-! ### reading the text -/
def xName : Expr → Option Str | .Name x _ => some x | _ => none
def xLit : Expr → Option D
  | .Constant (.int i) _ _ => some (.int i)
  | .Constant (.bool b) _ _ => some (.bool b)
  | .Constant .none _ _ => some .none
  | .Constant (.str x) _ _ => some (.str x)
  | _ => none
def xBin : Expr → Option (Expr × Operator × Expr) | .BinOp a o b _ => some (a, o, b) | _ => none
def xNeg : Expr → Option Expr | .UnaryOp .USub a _ => some a | _ => none
def xNot : Expr → Option Expr | .UnaryOp .Not a _ => some a | _ => none
def xCmp : Expr → Option (Expr × CmpOp × Expr) | .Compare a [o] [b] _ => some (a, o, b) | _ => none
def xCmp2 : Expr → Option (Expr × CmpOp × Expr × CmpOp × Expr) | .Compare a [o, o'] [b, c] _ => some (a, o, b, o', c) | _ => none
def xBool : Expr → Option (BoolOp × List Expr) | .BoolOp o es _ => some (o, es) | _ => none
def xIf : Expr → Option (Expr × Expr × Expr) | .IfExp c a b _ => some (c, a, b) | _ => none
def xTup : Expr → Option (List Expr) | .Tuple es _ _ => some es | _ => none
def xLst : Expr → Option (List Expr) | .List es _ => some es | _ => none
def notSlice : Expr → Bool | .Slice .. => false | _ => true
def xSub : Expr → Option (Expr × Expr) | .Subscript a b _ => if notSlice b then some (a, b) else none | _ => none
def xSlice : Expr → Option (Expr × Option Expr × Option Expr) | .Subscript a (.Slice lo hi none _) _ => some (a, lo, hi) | _ => none
def xRev : Expr → Option Expr | .Subscript a (.Slice none none (some (.UnaryOp .USub (.Constant (.int 1) _ _) _)) _) _ => some a | _ => none
def xCall : Expr → Option (Str × List Expr) | .Call (.Name x _) es [] _ => some (x, es) | _ => none
def xMeth : Expr → Option (Expr × Str × List Expr) | .Call (.Attribute o m ap) es [] cp => if ap.endLine == cp.line then some (o, m, es) else none | _ => none
def xComp : Expr → Option (Expr × Expr × Expr × List Expr × Scope) | .ListComp e [⟨t, i, ifs, 0⟩] sc _ => some (e, t, i, ifs, sc) | _ => none
def xLam : Expr → Option (Arguments × Expr × Scope) | .Lambda a b s _ => some (a, b, s) | _ => none
section
variable {e : Expr}
theorem xName_of {x} (h : xName e = some x) : ∃ p, e = .Name x p := by unfold xName at h; split at h; · cases h; exact ⟨_, rfl⟩
                                                                       · cases h
theorem xBin_of {a o b} (h : xBin e = some (a, o, b)) : ∃ p, e = .BinOp a o b p := by unfold xBin at h; split at h; · cases h; exact ⟨_, rfl⟩
                                                                                      · cases h
theorem xNeg_of {a} (h : xNeg e = some a) : ∃ p, e = .UnaryOp .USub a p := by unfold xNeg at h; split at h; · cases h; exact ⟨_, rfl⟩
                                                                              · cases h
theorem xNot_of {a} (h : xNot e = some a) : ∃ p, e = .UnaryOp .Not a p := by unfold xNot at h; split at h; · cases h; exact ⟨_, rfl⟩
                                                                             · cases h
theorem xCmp_of {a o b} (h : xCmp e = some (a, o, b)) : ∃ p, e = .Compare a [o] [b] p := by unfold xCmp at h; split at h; · cases h; exact ⟨_, rfl⟩
                                                                                            · cases h
theorem xCmp2_of {a o b o' c} (h : xCmp2 e = some (a, o, b, o', c)) : ∃ p, e = .Compare a [o, o'] [b, c] p := by unfold xCmp2 at h; split at h; · cases h; exact ⟨_, rfl⟩
                                                                                                                 · cases h
theorem xBool_of {o es} (h : xBool e = some (o, es)) : ∃ p, e = .BoolOp o es p := by unfold xBool at h; split at h; · cases h; exact ⟨_, rfl⟩
                                                                                     · cases h
theorem xIf_of {c a b} (h : xIf e = some (c, a, b)) : ∃ p, e = .IfExp c a b p := by unfold xIf at h; split at h; · cases h; exact ⟨_, rfl⟩
                                                                                    · cases h
theorem xTup_of {es} (h : xTup e = some es) : ∃ k p, e = .Tuple es k p := by unfold xTup at h; split at h; · cases h; exact ⟨_, _, rfl⟩
                                                                             · cases h
theorem xLst_of {es} (h : xLst e = some es) : ∃ p, e = .List es p := by unfold xLst at h; split at h; · cases h; exact ⟨_, rfl⟩
                                                                        · cases h
theorem xSub_of {a b} (h : xSub e = some (a, b)) : ∃ p, e = .Subscript a b p ∧ notSlice b = true := by
  unfold xSub at h
  split at h
  · split at h
    · cases h; exact ⟨_, rfl, by assumption⟩
    · cases h
  · cases h
theorem xSlice_of {a lo hi} (h : xSlice e = some (a, lo, hi)) : ∃ p q, e = .Subscript a (.Slice lo hi none p) q := by unfold xSlice at h; split at h; · cases h; exact ⟨_, _, rfl⟩
                                                                                                                      · cases h
theorem xRev_of {a} (h : xRev e = some a) : ∃ k p1 p2 p3 p4, e = .Subscript a (.Slice none none (some (.UnaryOp .USub (.Constant (.int 1) k p1) p2)) p3) p4 := by unfold xRev at h; split at h; · cases h; exact ⟨_, _, _, _, _, rfl⟩
                                                                                                                                                                  · cases h
theorem xCall_of {x es} (h : xCall e = some (x, es)) : ∃ p q, e = .Call (.Name x p) es [] q := by unfold xCall at h; split at h; · cases h; exact ⟨_, _, rfl⟩
                                                                                                  · cases h
theorem xMeth_of {o m es} (h : xMeth e = some (o, m, es)) : ∃ ap cp, e = .Call (.Attribute o m ap) es [] cp ∧ (ap.endLine == cp.line) = true := by
  unfold xMeth at h
  split at h
  · split at h
    · cases h; exact ⟨_, _, rfl, by assumption⟩
    · cases h
  · cases h
theorem xComp_of {el t i ifs sc} (h : xComp e = some (el, t, i, ifs, sc)) : ∃ p, e = .ListComp el [⟨t, i, ifs, 0⟩] sc p := by unfold xComp at h; split at h; · cases h; exact ⟨_, rfl⟩
                                                                                                                              · cases h
theorem xLam_of {a b s} (h : xLam e = some (a, b, s)) : ∃ p, e = .Lambda a b s p := by unfold xLam at h; split at h; · cases h; exact ⟨_, rfl⟩
                                                                                       · cases h
end
def notStar : Expr → Bool | .Starred .. => false | _ => true
def notSet : Expr → Bool | .Set .. => false | _ => true
def notComp : Expr → Bool | .ListComp .. => false | .SetComp .. => false | .DictComp .. => false | _ => true
/-- an expression whose truth is its value's -/
def plainTest : Expr → Bool | .Call .. => true | .Name .. => true | .Subscript .. => true | .Constant .. => true | _ => false
def notSuper : Expr → Bool | .Call (.Name _ _) [] [] _ => false | _ => true
section
variable {e : Expr} {es : List Expr} {env : PySem.Env} {pos : Pos}
theorem star1 (h : notStar e = true) : starEach (e :: es) env = (false, eval e env) :: starEach es env := by
  cases e <;> first | rfl | (exact absurd (show false = true from h) Bool.false_ne_true)
theorem star_nil : starEach [] env = [] := rfl
theorem plain_args (h : es.all notStar = true) : (backTo pos (starEach es env)).any (·.1) = false := by
  induction es with
  | nil => rfl
  | cons e r ih =>
    rw [List.all_cons, Bool.and_eq_true] at h
    rw [star1 h.1]
    show (false || (backTo pos (starEach r env)).any (·.1)) = false
    rw [ih h.2]; rfl
theorem plain_args2 (h : es.all notStar = true) : (backTo pos (starEach es env)).all (fun x => !x.1) = true := by
  induction es with
  | nil => rfl
  | cons e r ih =>
    rw [List.all_cons, Bool.and_eq_true] at h
    rw [star1 h.1]
    show (true && (backTo pos (starEach r env)).all (fun x => !x.1)) = true
    rw [ih h.2]; rfl
theorem nobeh {op : CmpOp} (h : notSet e = true) : behindInMarks op e = false := by
  cases e <;> first | rfl | (exact absurd (show false = true from h) Bool.false_ne_true)
theorem plainIx (h : notSlice e = true) : PlainIx e := by
  intro o i
  cases e <;> first | rfl | (exact absurd (show false = true from h) Bool.false_ne_true)
theorem nofold (h : notSet e = true) : ∀ x, foldedSetIterable e env x = pure x := by
  intro x
  cases e <;> first | rfl | (exact absurd (show false = true from h) Bool.false_ne_true)
theorem noswap {t : Option Expr} {l : Nat} (h : notComp e = true) : swapsWith e t l env = pure false := by
  cases e <;> first | rfl | (exact absurd (show false = true from h) Bool.false_ne_true)
theorem istrue_plain (h : plainTest e = true) : ∀ whole, isTrue e env whole = (do let v ← whole; standAt e.pos; holding [v] (truthy v)) := by
  intro w
  cases e <;> first | rfl | (exact absurd (show false = true from h) Bool.false_ne_true)
theorem attr_base {m : Str} (h : notSuper e = true) : attributeBase e m env (eval e env) = eval e env := by
  cases e <;> try rfl
  rename_i f as ks p
  cases f <;> try rfl
  cases as <;> try rfl
  cases ks <;> first | rfl | (exact absurd (show false = true from h) Bool.false_ne_true)
end
end Mi

set_option Elab.async false
set_option linter.all false
set_option maxRecDepth 100000
set_option maxHeartbeats 1000000
namespace Mi
open PySem PySem.Spec PyProof.Rows L2

/-! ### runs with an end -/
section
variable {α β : Type}
def Sat (r : R α) (p : α → Store → Prop) (x : Ex → Store → Prop) : Prop :=
  match r with
  | .ok a S => p a S
  | .exc c S => x c S
  | .stuck => False
theorem Sat.imp {r : R α} {p p' : α → Store → Prop} {x x' : Ex → Store → Prop} (h : Sat r p x) (hp : ∀ a S, p a S → p' a S) (hx : ∀ c S, x c S → x' c S) : Sat r p' x' := by
  cases r with
  | ok a S => exact hp a S h
  | exc c S => exact hx c S h
  | stuck => exact h
theorem sat_bind {r : R α} {k : α → Store → R β} {p : β → Store → Prop} {x : Ex → Store → Prop} : Sat (r.bind k) p x = Sat r (fun a S => Sat (k a S) p x) x := by
  cases r <;> rfl
theorem sat_lift {o : Option α} {S : Store} {p : α → Store → Prop} {x : Ex → Store → Prop} (h : Sat (lift o S) p x) : ∃ a, o = some a ∧ p a S := by
  cases o with
  | none => exact h.elim
  | some a => exact ⟨a, rfl, h⟩
theorem sat_calm {r : R α} {p : α → Store → Prop} {x x' : Ex → Store → Prop} (h : Sat r.calm p x) : Sat r p x' := by
  cases r with
  | ok a S => exact h
  | exc c S => exact h.elim
  | stuck => exact h.elim
theorem sat_asB {d : D} {S : Store} {p : Bool → Store → Prop} {x : Ex → Store → Prop} (h : Sat (asB d S) p x) : ∃ b, d = .bool b ∧ p b S := by
  cases d <;> first | exact h.elim | exact ⟨_, rfl, h⟩
end

/-! ### the program -/
structure Pr where
  P : Program
  w : World
  K : PySem.W.Frag
  mg : Str → Option Value
  base : Heap
  T : Tb
  defs : List Df
  fa : Nat → Addr
  fd : Nat → FuncData
  xa : Nat → Addr
structure Sg where
  defs : List Df
  cons : List (Str × Int)
  excs : List Str
  word : Str
structure Ct where
  N : List Str
  sc : Scope
  fn : Str → Bool
  lam : Bool
def bnames : List Str := ["len", "abs", "min", "max", "sum", "all", "any", "tuple", "list", "sorted", "int", "str", "isinstance", "range", "enumerate", "zip", "bool"]

structure Good (Γ : Pr) (r : Nat) (C : Ct) (X : Cx) : Prop where
  prog : X.prog = Γ.P
  w : X.w = Γ.w
  K : X.K = Γ.K
  mg : X.mg = Γ.mg
  base : X.base = Γ.base
  N : X.N = C.N
  nd : C.N.Nodup
  sc : X.env.scope = C.sc
  calm : X.calm = true
  room : Room r X.A
  fn : X.fn = C.fn
  lam : C.lam = true → 2 ≤ r ∧ ∃ c P, X.env.code = .ref c ∧ LamX.TabB Γ.base Γ.mg c P ∧ (P, X.env.qual ++ "<lambda>") ∈ Γ.T ∧ ∀ p ∈ Γ.T, p.1 = P → p.2 = X.env.qual ++ "<lambda>"

/-- what a def hands back -/
def spOf (Γ : Pr) (np : Nat) (g : List D → Store → R D) : Sp := fun vs H Q E => vs.length = np ∧ ∃ (G : Addr → Prop) (L : List Addr) (S : Store) (args : List D), WS Γ.T G L H S ∧ Reps H (Bad G L) L args vs ∧
  Sat (g args S) (fun d S' => ∀ v H' L', Ext L H L' H' → WS Γ.T G L' H' S' → Rep H' (Bad G L') L' d v → Q v H')
    (fun c S' => ∀ dd H' L', Ext L H L' H' → WS Γ.T G L' H' S' → E (.ref (Γ.xa c.cls)) dd H')
def CFok (Γ : Pr) (r : Nat) (cf : Nat → CallF) : Prop := ∀ (j f : Nat) (d : Df), Γ.defs[f]? = some d → FnOk Γ.P Γ.w Γ.K Γ.mg Γ.base (L2.CX Γ.P Γ.w) (r - j) (Γ.fa f) (Γ.fd f) (d.N.take d.np) (spOf Γ d.np (cf j f)) ∧ ∀ args S, args.length ≠ d.np → cf j f args S = .stuck
structure PrOk (Γ : Pr) (Z : Sg) : Prop where
  defs : Γ.defs = Z.defs
  np : ∀ (f : Nat) (d : Df), Γ.defs[f]? = some d → d.np ≤ d.N.length
  fn : ∀ (f : Nat) (d : Df), Γ.defs[f]? = some d → Γ.mg d.name = some (.ref (Γ.fa f)) ∧ PySem.W.keepIn Γ.K (.ref (Γ.fa f)) = true ∧ Binds Γ.K (Γ.fd f) (d.N.take d.np) []
  bl : ∀ x, x ∈ bnames → Γ.mg x = none
  con : ∀ x i, (x, i) ∈ Z.cons → ∃ t, Γ.mg x = some (.int i t)

/-! ### the frame -/
structure SlE (G : Addr → Prop) (L : List Addr) (H : Hp) (σ : L2.St) (env : Env) : Prop where
  len : σ.length = env.length
  val : ∀ (i : Nat) d, env[i]? = some (.val d) → ∃ v, σ[i]? = some (some v) ∧ Rep H (Bad G L) L d v
  own : ∀ (i : Nat) ds, env[i]? = some (.own ds) → ∃ a vs, σ[i]? = some (some (.ref a)) ∧ H a = some (.lst vs) ∧ Reps H (Bad G L) L ds vs ∧ G a
section
variable {T : Tb} {G : Addr → Prop} {L L' : List Addr} {H H' : Hp} {σ : L2.St} {env : Env} {S S' : Store}
theorem SlE.ext (s : SlE G L H σ env) (e : Ext L H L' H') (w : WS T G L H S) : SlE G L' H' σ env :=
  ⟨s.len, fun i d h => by
    obtain ⟨v, h1, h2⟩ := s.val i d h
    exact ⟨v, h1, h2.kp e.kp⟩, fun i ds h => by
    obtain ⟨a, vs, h1, h2, h3, h4⟩ := s.own i ds h
    exact ⟨a, vs, h1, e.keep _ _ h2 (fun q => w.dis a q h4) (fun ps q => by cases q), h3.kp e.kp, h4⟩⟩
end
/-- what is wanted of a value; of an exception -/
abbrev PostE (T : Tb) (G : Addr → Prop) (L : List Addr) (H : Hp) (d : D) (S' : Store) (Q : VK) : Prop := ∀ v H' L', Ext L H L' H' → WS T G L' H' S' → Rep H' (Bad G L') L' d v → Q v H'
abbrev PostX (Γ : Pr) (W : WX) (σ : L2.St) (G : Addr → Prop) (L : List Addr) (H : Hp) (c : Ex) (S' : Store) : Prop := ∀ dd H' L', Ext L H L' H' → WS Γ.T G L' H' S' → W (.ref (Γ.xa c.cls)) dd σ H'
section
variable {Γ : Pr} {T : Tb} {G : Addr → Prop} {L L1 : List Addr} {H H1 : Hp} {σ : L2.St} {S1 S' : Store} {W : WX} {Q : VK} {d : D} {c : Ex}
theorem PostX.ext (p : PostX Γ W σ G L H c S') (w : WS Γ.T G L1 H1 S1) (e : Ext L H L1 H1) : PostX Γ W σ G L1 H1 c S' := fun dd H' L' e' w' => p dd H' L' (Ext.trans w e e') w'
theorem PostE.ext (p : PostE T G L H d S' Q) (w : WS T G L1 H1 S1) (e : Ext L H L1 H1) : PostE T G L1 H1 d S' Q := fun v H' L' e' w' r => p v H' L' (Ext.trans w e e') w' r
end
def TlE (Γ : Pr) (W : WX) (t : TE) (f : Env → Store → R D) : Prop := ∀ (σ : L2.St) (H : Hp) (G : Addr → Prop) (L : List Addr) (env : Env) (S : Store) (Q : VK), SlE G L H σ env → WS Γ.T G L H S →
  Sat (f env S) (fun d S' => PostE Γ.T G L H d S' Q) (PostX Γ W σ G L H) → t σ H Q
def TlA (Γ : Pr) (W : WX) (t : TA) (f : Env → Store → R (List D)) : Prop := ∀ (σ : L2.St) (H : Hp) (G : Addr → Prop) (L : List Addr) (env : Env) (S : Store) (Q : List V → Hp → Prop), SlE G L H σ env → WS Γ.T G L H S →
  Sat (f env S) (fun ds S' => ∀ vs H' L', Ext L H L' H' → WS Γ.T G L' H' S' → Reps H' (Bad G L') L' ds vs → Q vs H') (PostX Γ W σ G L H) → t σ H Q
def TlB (Γ : Pr) (W : WX) (t : TT) (f : Env → Store → R Bool) : Prop := ∀ (σ : L2.St) (H : Hp) (G : Addr → Prop) (L : List Addr) (env : Env) (S : Store) (Q : Bool → Hp → Prop), SlE G L H σ env → WS Γ.T G L H S →
  Sat (f env S) (fun b S' => ∀ H' L', Ext L H L' H' → WS Γ.T G L' H' S' → Q b H') (PostX Γ W σ G L H) → t σ H Q
def TlO (Γ : Pr) (W : WX) (t : TO) (f : Env → Store → R (Option Int)) : Prop := ∀ (σ : L2.St) (H : Hp) (G : Addr → Prop) (L : List Addr) (env : Env) (S : Store) (Q : Option Int → Hp → Prop), SlE G L H σ env → WS Γ.T G L H S →
  Sat (f env S) (fun b S' => ∀ H' L', Ext L H L' H' → WS Γ.T G L' H' S' → Q b H') (PostX Γ W σ G L H) → t σ H Q
/-- an item of a walk, from the heap H2 at its turn -/
def Item (pair : Bool) (G : Addr → Prop) (L : List Addr) (H H2 : Hp) (d : D) (x : V) (H3 : Hp) : Prop :=
  if pair = true then ∃ T d1 d2 v1 v2, d = .tuple [d1, d2] ∧ x = .ref T ∧ H2 T = none ∧ H3 = upd H2 T (.tup [v1, v2]) ∧ Rep H (Bad G L) L d1 v1 ∧ Rep H (Bad G L) L d2 v2
  else H3 = H2 ∧ Rep H (Bad G L) L d x
/-- what was good data of H stands in H2 -/
def Stands (G : Addr → Prop) (L : List Addr) (H H2 : Hp) : Prop := ∀ a o, H a = some o → ¬ Bad G L a → (∀ ps, o ≠ .tbl ps) → H2 a = some o
def IterOk (pair : Bool) (G : Addr → Prop) (L : List Addr) (H : Hp) (J : It) (xs : List D) : Prop :=
  Walk J xs.length (Stands G L H) fun i H2 x H3 => ∃ d, xs[i]? = some d ∧ Item pair G L H H2 d x H3
def TlI (Γ : Pr) (W : WX) (pair : Bool) (t : TI) (f : Env → Store → R (List D)) : Prop := ∀ (σ : L2.St) (H : Hp) (G : Addr → Prop) (L : List Addr) (env : Env) (S : Store) (R : It → Hp → Prop), SlE G L H σ env → WS Γ.T G L H S →
  Sat (f env S) (fun xs S' => ∀ J H' L', Ext L H L' H' → WS Γ.T G L' H' S' → IterOk pair G L' H' J xs → R J H') (PostX Γ W σ G L H) → t σ H R

def bopB : Operator → Bop → Bool := fun o b => decide (o = bop b)
def copB : CmpOp → Cop → Bool := fun o b => decide (o = cop b)
def biN : Bi → Str
  | .len => "len" | .abs => "abs" | .min => "min" | .max => "max" | .sum => "sum" | .all => "all" | .any => "any" | .tuple => "tuple" | .list => "list" | .sorted => "sorted" | .int => "int" | .str => "str"
def tyN : Ty → Str
  | .int => "int" | .bool => "bool" | .str => "str" | .tuple => "tuple" | .list => "list"
def visB (C : Ct) (i : Nat) (x : Str) : Bool :=
  decide (C.N[i]? = some x) && (match C.sc.names.lookup x with | some .local => true | some .cell => true | some .free => true | _ => false) && !(x == ("__debug__" : Str)) && !(x == ("__classdict__" : Str))
def glB (C : Ct) (x : Str) : Bool := decide (C.sc.names.lookup x = some .globalImplicit) && !(x == ("__debug__" : Str)) && !(x == ("__name__" : Str))
def locB (C : Ct) (i : Nat) (x : Str) : Bool :=
  decide (C.N[i]? = some x) && (match C.sc.names.lookup x with | some .local => true | some .cell => C.fn x | _ => false)
def isPair : I → Bool | .enum _ => true | .zip _ _ => true | _ => false
def litAtom : D → Bool | .int _ => true | .bool _ => true | .none => true | .str x => decide (x.length ≤ BIG) | _ => false
def litSame : D → D → Bool
  | .int a, .int b => decide (a = b) | .bool a, .bool b => decide (a = b) | .none, .none => true | .str a, .str b => decide (a = b) && decide (a.length ≤ BIG) | _, _ => false
def chkNames (C : Ct) : List Nat → List Expr → Bool
  | [], [] => true
  | i :: is, e :: es => (match xName e with | some x => locB C i x | none => false) && chkNames C is es
  | _, _ => false
def chkG (C : Ct) : Tg → Expr → Bool
  | .name i, e => (match xName e with | some x => locB C i x | none => false)
  | .tup is, e => (match xTup e with | some es => chkNames C is es | none => false)
def isTupTg : Tg → Bool | .tup _ => true | .name _ => false
def tgIx : Tg → List Nat
  | .name i => [i]
  | .tup is => is
def blkCt (C : Ct) (sc : Scope) : Ct := { N := C.N, sc := relS sc C.sc, fn := fun x => sc.names.lookup x == some .cell, lam := C.lam }
def lamCt (C : Ct) (sc : Scope) : Ct := { N := C.N, sc := sc, fn := fun _ => false, lam := false }
/-- the first argument list's beginnings are no list -/
def plainA (es : List Expr) : Bool := es.all notStar && decide (es ≠ [])
def noDefaults (a : Arguments) : Bool := a.posonlyargs.isEmpty && a.args.isEmpty && a.vararg.isNone && a.kwonlyargs.isEmpty && a.kw_defaults.isEmpty && a.kwarg.isNone && a.defaults.isEmpty
mutual
def chkE (Z : Sg) (C : Ct) : E → Expr → Bool
  | .var i, e => (match xName e with | some x => visB C i x | none => false)
  | .lit d, e => (match xLit e with | some d' => litSame d d' | none => false)
  | .con x i, e => (match xName e with | some y => decide (x = y) && decide ((x, i) ∈ Z.cons) && glB C x | none => false)
  | .bin o a b, e => (match xBin e with | some (l, op, r) => bopB op o && chkE Z C a l && chkE Z C b r | none => false)
  | .neg a, e => (match xNeg e with | some l => chkE Z C a l | none => false)
  | .cmp o a b, e => (match xCmp e with | some (l, op, r) => copB op o && chkE Z C a l && chkE Z C b r && notSet r | none => false)
  | .chain o o' a b c, e => (match xCmp2 e with | some (l, op, m, op', r) => copB op o && copB op' o' && chkE Z C a l && chkE Z C b m && chkE Z C c r && notSet r | none => false)
  | .and a b, e => (match e with | .BoolOp .And (x :: y :: r) p => chkE Z C a x && (match r with | [] => chkE Z C b y | z :: r' => chkE Z C b (.BoolOp .And (y :: z :: r') p)) | _ => false)
  | .or a b, e => (match e with | .BoolOp .Or (x :: y :: r) p => chkE Z C a x && (match r with | [] => chkE Z C b y | z :: r' => chkE Z C b (.BoolOp .Or (y :: z :: r') p)) | _ => false)
  | .not a, e => (match xNot e with | some l => chkE Z C a l | none => false)
  | .ite c a b, e => (match xIf e with | some (t, l, r) => chkB Z C c t && chkE Z C a l && chkE Z C b r | none => false)
  | .tup as, e => (match xTup e with | some es => chkA Z C as es | none => false)
  | .lst as, e => (match xLst e with | some es => chkA Z C as es | none => false)
  | .nloc as, e => (match xLst e with | some es => chkA Z C as es | none => false)
  | .idx a i, e => (match xSub e with | some (l, r) => chkE Z C a l && chkE Z C i r | none => false)
  | .idxv v i, e => (match xSub e with | some (l, r) => (match xName l with | some x => visB C v x | none => false) && chkE Z C i r | none => false)
  | .lenv v, e => (match xCall e with | some (f, [l]) => decide (f = "len") && glB C f && (match xName l with | some x => visB C v x | none => false) | _ => false)
  | .slice a lo hi, e => (match xSlice e with | some (l, p, q) => chkE Z C a l && chkO Z C lo p && chkO Z C hi q | none => false)
  | .rev a, e => (match xRev e with | some l => chkE Z C a l | none => false)
  | .call f as, e => (match xCall e, Z.defs[f]? with | some (x, es), some d => decide (x = d.name) && glB C x && es.all notStar && chkA Z C as es | _, _ => false)
  | .bi f as, e => (match xCall e with | some (x, es) => decide (x = biN f) && glB C x && plainA es && chkA Z C as es | none => false)
  | .lrng it, e => (match xCall e with | some (x, [a]) => decide (x = "list") && glB C x && chkR Z C it a | _ => false)
  | .me m a as, e => (match xMeth e with | some (o, x, es) => false | none => false)
  | .inst t a, e => (match xCall e with | some (x, [l, r]) => decide (x = "isinstance") && glB C x && notStar l && chkE Z C a l && (match xName r with | some y => decide (y = tyN t) && glB C y | none => false) | _ => false)
  | .comp own tg it c el, e => (match xComp e with
    | some (elt, t, iter, ifs, sc) => blkC C.N C.sc sc own && chkI Z C it iter && (!isPair it || isTupTg tg) && chkG (blkCt C sc) tg t && (tgIx tg).all (fun i => decide (i ∈ own.map (·.2)))
        && chkO2 Z (blkCt C sc) c ifs && chkE Z (blkCt C sc) el elt && notSet iter
    | none => false)
  | .word b, e => (match xCall e with
    | some (x, [l]) => (match xLam l with | some (ar, body, sc) => decide (x = Z.word) && glB C x && C.lam && noDefaults ar && LamX.lamSB C.sc sc && chkE Z (lamCt C sc) b body | none => false)
    | _ => false)
def chkA (Z : Sg) (C : Ct) : A → List Expr → Bool
  | .nil, es => (match es with | [] => true | _ => false)
  | .cons a as, es => (match es with | e :: r => chkE Z C a e && notStar e && chkA Z C as r | [] => false)
def chkB (Z : Sg) (C : Ct) : B → Expr → Bool
  | .val a, e => plainTest e && chkE Z C a e
  | .cmp o a b, e => (match xCmp e with | some (l, op, r) => copB op o && chkE Z C a l && chkE Z C b r && notSet r | none => false)
  | .chain o o' a b c, e => (match xCmp2 e with | some (l, op, m, op', r) => copB op o && copB op' o' && chkE Z C a l && chkE Z C b m && chkE Z C c r && notSet r | none => false)
  | .and a b, e => (match e with | .BoolOp .And (x :: y :: r) p => chkB Z C a x && (match r with | [] => chkB Z C b y | z :: r' => chkB Z C b (.BoolOp .And (y :: z :: r') p)) | _ => false)
  | .or a b, e => (match e with | .BoolOp .Or (x :: y :: r) p => chkB Z C a x && (match r with | [] => chkB Z C b y | z :: r' => chkB Z C b (.BoolOp .Or (y :: z :: r') p)) | _ => false)
  | .not a, e => (match xNot e with | some l => chkB Z C a l | none => false)
def chkO (Z : Sg) (C : Ct) : O → Option Expr → Bool
  | .no, e => (match e with | none => true | some _ => false)
  | .yes a, e => (match e with | some e => chkE Z C a e | none => false)
def chkO2 (Z : Sg) (C : Ct) : O2 → List Expr → Bool
  | .no, es => (match es with | [] => true | _ => false)
  | .yes a, es => (match es with | [e] => chkB Z C a e | _ => false)
def chkI (Z : Sg) (C : Ct) : I → Expr → Bool
  | .val a, e => chkE Z C a e
  | .rng1 a, e => (match xCall e with | some (x, [l]) => decide (x = "range") && glB C x && notStar l && chkE Z C a l | _ => false)
  | .rng2 a b, e => (match xCall e with | some (x, [l, r]) => decide (x = "range") && glB C x && notStar l && notStar r && chkE Z C a l && chkE Z C b r | _ => false)
  | .enum a, e => (match xCall e with | some (x, [l]) => decide (x = "enumerate") && glB C x && notStar l && chkE Z C a l | _ => false)
  | .zip a b, e => (match xCall e with | some (x, [l, r]) => decide (x = "zip") && glB C x && notStar l && notStar r && chkE Z C a l && chkE Z C b r | _ => false)
def chkR (Z : Sg) (C : Ct) : I → Expr → Bool
  | .rng1 a, e => (match xCall e with | some (x, [l]) => decide (x = "range") && glB C x && notStar l && chkE Z C a l | _ => false)
  | .rng2 a b, e => (match xCall e with | some (x, [l, r]) => decide (x = "range") && glB C x && notStar l && notStar r && chkE Z C a l && chkE Z C b r | _ => false)
  | _, _ => false
end
end Mi

set_option Elab.async false
set_option linter.all false
set_option maxRecDepth 100000
set_option maxHeartbeats 1000000
namespace Mi
open PySem PySem.Spec PyProof.Rows L2

section
variable {Γ : Pr} {Z : Sg} {C : Ct} {r : Nat} {cf : Nat → CallF} {wf : WordF}
def SE (Γ : Pr) (C : Ct) (r : Nat) (wf : WordF) (cf : Nat → CallF) (a : E) (e : Expr) : Prop := ∀ X W, Good Γ r C X → Takes X W → ∃ t, PE X e t ∧ TlE Γ W t (evE wf cf a)
def SA (Γ : Pr) (C : Ct) (r : Nat) (wf : WordF) (cf : Nat → CallF) (a : A) (es : List Expr) : Prop := ∀ X W, Good Γ r C X → Takes X W → ∃ t, PA X es t ∧ TlA Γ W t (evA wf cf a)
def SB (Γ : Pr) (C : Ct) (r : Nat) (wf : WordF) (cf : Nat → CallF) (a : B) (e : Expr) : Prop := ∀ X W, Good Γ r C X → Takes X W → ∃ t, PT X e t ∧ TlB Γ W t (evB wf cf a)
def SO (Γ : Pr) (C : Ct) (r : Nat) (wf : WordF) (cf : Nat → CallF) (a : O) (e : Option Expr) : Prop := ∀ X W, Good Γ r C X → Takes X W → ∃ t, PO X e t ∧ TlO Γ W t (evO wf cf a)
def SI (Γ : Pr) (C : Ct) (r : Nat) (wf : WordF) (cf : Nat → CallF) (a : I) (e : Expr) : Prop := ∀ X W (tg : Expr), Good Γ r C X → Takes X W → (isPair a = true → ∃ es k p, tg = .Tuple es k p) → ∃ t, PI X tg e t ∧ TlI Γ W (isPair a) t (evI wf cf a)

theorem Good.vis {X : Cx} (g : Good Γ r C X) {i : Nat} {x : Str} {p : Pos} (h : visB C i x = true) : PE X (.Name x p) (tVar i) := by
  unfold visB at h
  simp only [Bool.and_eq_true, decide_eq_true_eq, Bool.not_eq_true'] at h
  refine pe_var (by rw [g.N]; exact h.1.1.1) ?_ h.1.2 h.2
  rw [g.sc]
  have q := h.1.1.2
  split at q
  · exact .inl (by assumption)
  · exact .inr (.inl (by assumption))
  · exact .inr (.inr (by assumption))
  · cases q
theorem Good.gl {X : Cx} (g : Good Γ r C X) {x : Str} (h : glB C x = true) : Gl X x ∧ (x == ("__debug__" : Str)) = false ∧ x ≠ "__name__" := by
  unfold glB at h
  simp only [Bool.and_eq_true, decide_eq_true_eq, Bool.not_eq_true', beq_eq_false_iff_ne] at h
  refine ⟨?_, beq_eq_false_iff_ne.mpr h.1.2, h.2⟩
  show X.env.scope.names.lookup x = _
  rw [g.sc]; exact h.1.1
theorem Good.units {X : Cx} (g : Good Γ r C X) : X.A.units + 200 < cLine := by have := g.room.un; omega

theorem getV_some {env : Env} {i : Nat} {d : D} (h : getV env i = some d) : env[i]? = some (.val d) := by
  unfold getV at h
  split at h
  · cases h; assumption
  · cases h
theorem se_var {i : Nat} {e : Expr} (h : chkE Z C (.var i) e = true) : SE Γ C r wf cf (.var i) e := by
  intro X W g tk
  simp only [chkE] at h
  split at h
  · rename_i x hx
    obtain ⟨p, rfl⟩ := xName_of hx
    refine ⟨_, g.vis h, fun σ H G L env S Q sl w sat => ?_⟩
    obtain ⟨d, hd, post⟩ := sat_lift sat
    obtain ⟨v, h1, h2⟩ := sl.val i d (getV_some hd)
    exact ⟨v, h1, post v H L Ext.refl w h2⟩
  · cases h
theorem se_lit {d : D} {e : Expr} (h : chkE Z C (.lit d) e = true) : SE Γ C r wf cf (.lit d) e := by
  intro X W g tk
  simp only [chkE] at h
  split at h
  · rename_i d' hd
    unfold xLit at hd
    split at hd <;> cases hd
    · cases d <;> simp [litSame] at h
      subst h
      exact ⟨_, pe_int, fun σ H G L env S Q sl w sat => sat _ H L Ext.refl w (.int _)⟩
    · cases d <;> simp [litSame] at h
      subst h
      exact ⟨_, pe_bl, fun σ H G L env S Q sl w sat => sat _ H L Ext.refl w (.bl _)⟩
    · cases d <;> simp [litSame] at h
      exact ⟨_, pe_non, fun σ H G L env S Q sl w sat => sat _ H L Ext.refl w .non⟩
    · cases d <;> simp [litSame] at h
      obtain ⟨rfl, hl⟩ := h
      exact ⟨_, pe_str, fun σ H G L env S Q sl w sat => sat _ H L Ext.refl w (.str _ (big_line hl))⟩
  · cases h
theorem se_con (ok : PrOk Γ Z) {x : Str} {i : Int} {e : Expr} (h : chkE Z C (.con x i) e = true) : SE Γ C r wf cf (.con x i) e := by
  intro X W g tk
  simp only [chkE] at h
  split at h
  · rename_i y hx
    obtain ⟨p, rfl⟩ := xName_of hx
    simp only [Bool.and_eq_true, decide_eq_true_eq] at h
    obtain ⟨⟨rfl, hm⟩, hg⟩ := h
    obtain ⟨t, ht⟩ := ok.con _ _ hm
    obtain ⟨g1, g2, _⟩ := g.gl hg
    exact ⟨_, pe_glob (v := .int i) g1 (by rw [g.mg]; exact ht) ⟨t, rfl⟩ g2, fun σ H G L env S Q sl w sat => sat _ H L Ext.refl w (.int i)⟩
  · cases h
theorem bop_of {o : Operator} {b : Bop} (h : bopB o b = true) : o = bop b := of_decide_eq_true h
theorem cop_of {o : CmpOp} {b : Cop} (h : copB o b = true) : o = cop b := of_decide_eq_true h
/-- two operands -/
theorem tl_two {W : WX} {ta tb : TE} {f1 f2 : Env → Store → R D} (h1 : TlE Γ W ta f1) (h2 : TlE Γ W tb f2) {σ : L2.St} {H : Hp} {G : Addr → Prop} {L : List Addr} {env : Env} {S : Store} {K : V → V → Hp → Prop} (sl : SlE G L H σ env) (w : WS Γ.T G L H S)
    {p : D → D → Store → Prop} (sat : Sat (f1 env S) (fun a S1 => Sat (f2 env S1) (fun b S2 => p a b S2) (PostX Γ W σ G L H)) (PostX Γ W σ G L H))
    (go : ∀ a b S2 x y H2 L2, p a b S2 → Ext L H L2 H2 → WS Γ.T G L2 H2 S2 → Rep H2 (Bad G L2) L2 a x → Rep H2 (Bad G L2) L2 b y → K x y H2) : ta σ H fun x H1 => tb σ H1 fun y H2 => K x y H2 := by
  refine h1 σ H G L env S _ sl w (sat.imp (fun a S1 s2 x H1 L1 e1 w1 r1 => ?_) fun c S1 q => q)
  refine h2 σ H1 G L1 env S1 _ (sl.ext e1 w) w1 (s2.imp (fun b S2 q y H2 L2 e2 w2 r2 => ?_) fun c S2 q => q.ext w1 e1)
  exact go a b S2 x y H2 L2 q (Ext.trans w1 e1 e2) w2 (r1.kp e2.kp) r2
theorem se_bin {o : Bop} {a b : E} {e : Expr} (h : chkE Z C (.bin o a b) e = true) (ia : ∀ l, chkE Z C a l = true → SE Γ C r wf cf a l) (ib : ∀ l, chkE Z C b l = true → SE Γ C r wf cf b l) : SE Γ C r wf cf (.bin o a b) e := by
  intro X W g tk
  simp only [chkE] at h
  split at h
  · rename_i l op rr hx
    obtain ⟨p, rfl⟩ := xBin_of hx
    simp only [Bool.and_eq_true] at h
    obtain ⟨⟨h0, h1⟩, h2⟩ := h
    rw [bop_of h0]
    obtain ⟨ta, pa, ta1⟩ := ia l h1 X W g tk
    obtain ⟨tb, pb, tb1⟩ := ib rr h2 X W g tk
    refine ⟨_, pe_op (op_bin (T := Γ.T) o) pa pb, fun σ H G L env S Q sl w sat => ?_⟩
    rw [evE, sat_bind] at sat
    simp only [sat_bind] at sat
    refine tl_two ta1 tb1 sl w sat fun a b S2 x y H2 L2 q e2 w2 r1 r2 => ?_
    obtain ⟨d, hd, post⟩ := sat_lift q
    exact ⟨G, L2, S2, a, b, d, w2, r1, r2, hd, fun v H3 e3 w3 r3 => post v H3 L2 (Ext.trans w2 e2 e3) w3 r3⟩
  · cases h
theorem se_neg {a : E} {e : Expr} (h : chkE Z C (.neg a) e = true) (ia : ∀ l, chkE Z C a l = true → SE Γ C r wf cf a l) : SE Γ C r wf cf (.neg a) e := by
  intro X W g tk
  simp only [chkE] at h
  split at h
  · rename_i l hx
    obtain ⟨p, rfl⟩ := xNeg_of hx
    obtain ⟨ta, pa, ta1⟩ := ia l h X W g tk
    refine ⟨_, pe_un un_neg pa, fun σ H G L env S Q sl w sat => ?_⟩
    rw [evE, sat_bind] at sat
    refine ta1 σ H G L env S _ sl w (sat.imp (fun d S1 q x H1 L1 e1 w1 r1 => ?_) fun _ _ q => q)
    cases d <;> first | exact q.elim | skip
    rw [r1.int_inv]
    exact ⟨_, rfl, q _ H1 L1 e1 w1 (.int _)⟩
  · cases h
theorem se_cmp {o : Cop} {a b : E} {e : Expr} (h : chkE Z C (.cmp o a b) e = true) (ia : ∀ l, chkE Z C a l = true → SE Γ C r wf cf a l) (ib : ∀ l, chkE Z C b l = true → SE Γ C r wf cf b l) : SE Γ C r wf cf (.cmp o a b) e := by
  intro X W g tk
  simp only [chkE] at h
  split at h
  · rename_i l op rr hx
    obtain ⟨p, rfl⟩ := xCmp_of hx
    simp only [Bool.and_eq_true] at h
    obtain ⟨⟨⟨h0, h1⟩, h2⟩, h3⟩ := h
    rw [cop_of h0]
    obtain ⟨ta, pa, ta1⟩ := ia l h1 X W g tk
    obtain ⟨tb, pb, tb1⟩ := ib rr h2 X W g tk
    refine ⟨_, pe_cmpR (op_cmp o g.units) pa pb (nobeh h3), fun σ H G L env S Q sl w sat => ?_⟩
    rw [evE, sat_bind] at sat
    simp only [sat_bind] at sat
    refine tl_two ta1 tb1 sl w sat fun a b S2 x y H2 L2 q e2 w2 r1 r2 => ?_
    obtain ⟨c, hc, post⟩ := sat_lift q
    exact ⟨_, L2, a, b, c, r1, r2, hc, post _ H2 L2 e2 w2 (.bl c)⟩
  · cases h
theorem sb_cmp {o : Cop} {a b : E} {e : Expr} (h : chkB Z C (.cmp o a b) e = true) (ia : ∀ l, chkE Z C a l = true → SE Γ C r wf cf a l) (ib : ∀ l, chkE Z C b l = true → SE Γ C r wf cf b l) : SB Γ C r wf cf (.cmp o a b) e := by
  intro X W g tk
  simp only [chkB] at h
  split at h
  · rename_i l op rr hx
    obtain ⟨p, rfl⟩ := xCmp_of hx
    simp only [Bool.and_eq_true] at h
    obtain ⟨⟨⟨h0, h1⟩, h2⟩, h3⟩ := h
    rw [cop_of h0]
    obtain ⟨ta, pa, ta1⟩ := ia l h1 X W g tk
    obtain ⟨tb, pb, tb1⟩ := ib rr h2 X W g tk
    refine ⟨_, pt_cmpR (op_cmp o g.units) pa pb (nobeh h3), fun σ H G L env S Q sl w sat => ?_⟩
    rw [evB, sat_bind] at sat
    simp only [sat_bind] at sat
    refine tl_two ta1 tb1 sl w sat fun a b S2 x y H2 L2 q e2 w2 r1 r2 => ?_
    obtain ⟨c, hc, post⟩ := sat_lift q
    exact ⟨_, L2, a, b, c, r1, r2, hc, c, rfl, post H2 L2 e2 w2⟩
  · cases h
theorem last_marks {o o' : CmpOp} {b c : Expr} (h : notSet c = true) : lastMarks [o, o'] [b, c] = false := by
  show behindInMarks o' c = false
  exact nobeh h
theorem tl_chain {o o' : Cop} {W : WX} {ta tb tc : TE} {f1 f2 f3 : Env → Store → R D} (h1 : TlE Γ W ta f1) (h2 : TlE Γ W tb f2) (h3 : TlE Γ W tc f3) {σ : L2.St} {H : Hp} {G : Addr → Prop} {L : List Addr} {env : Env} {S : Store} {Q : VK} (sl : SlE G L H σ env) (w : WS Γ.T G L H S)
    {p : Bool → Store → Prop} (sat : Sat (f1 env S) (fun a S1 => Sat (f2 env S1) (fun b S2 => Sat (lift (cmpD o a b) S2) (fun c1 S3 => Sat (if c1 = true then (f3 env S3).bind fun z S4 => lift (cmpD o' b z) S4 else R.ok false S3) p (PostX Γ W σ G L H)) (PostX Γ W σ G L H)) (PostX Γ W σ G L H)) (PostX Γ W σ G L H))
    (go : ∀ c S2 H2 L2, p c S2 → Ext L H L2 H2 → WS Γ.T G L2 H2 S2 → Q (.bl c) H2) : tChain (rC o) (rC o') ta tb tc σ H Q := by
  refine h1 σ H G L env S _ sl w (sat.imp (fun a S1 s2 x H1 L1 e1 w1 r1 => ?_) fun c S1 q => q)
  refine h2 σ H1 G L1 env S1 _ (sl.ext e1 w) w1 (s2.imp (fun b S2 q y H2 L2 e2 w2 r2 => ?_) fun c S2 q => q.ext w1 e1)
  obtain ⟨c1, hc1, q⟩ := sat_lift q
  have e12 := Ext.trans w1 e1 e2
  refine ⟨_, L2, a, b, c1, r1.kp e2.kp, r2, hc1, c1, rfl, ?_⟩
  cases c1 with
  | true =>
    rw [if_pos rfl] at q ⊢
    rw [sat_bind] at q
    refine h3 σ H2 G L2 env S2 _ (sl.ext e12 w) w2 (q.imp (fun z S4 q z1 H4 L4 e4 w4 r4 => ?_) fun c S4 q => q.ext w2 e12)
    obtain ⟨c2, hc2, q⟩ := sat_lift q
    exact ⟨_, L4, b, z, c2, r2.kp e4.kp, r4, hc2, go c2 S4 H4 L4 q (Ext.trans w2 e12 e4) w4⟩
  | false =>
    rw [if_neg Bool.false_ne_true] at q ⊢
    exact go false S2 H2 L2 q e12 w2
theorem se_chain {o o' : Cop} {a b c : E} {e : Expr} (h : chkE Z C (.chain o o' a b c) e = true) (ia : ∀ l, chkE Z C a l = true → SE Γ C r wf cf a l) (ib : ∀ l, chkE Z C b l = true → SE Γ C r wf cf b l) (ic : ∀ l, chkE Z C c l = true → SE Γ C r wf cf c l) : SE Γ C r wf cf (.chain o o' a b c) e := by
  intro X W g tk
  simp only [chkE] at h
  split at h
  · rename_i l op m op' rr hx
    obtain ⟨p, rfl⟩ := xCmp2_of hx
    simp only [Bool.and_eq_true] at h
    obtain ⟨⟨⟨⟨⟨h0, h0'⟩, h1⟩, h2⟩, h3⟩, h4⟩ := h
    rw [cop_of h0, cop_of h0']
    obtain ⟨ta, pa, ta1⟩ := ia l h1 X W g tk
    obtain ⟨tb, pb, tb1⟩ := ib m h2 X W g tk
    obtain ⟨tc, pc, tc1⟩ := ic rr h3 X W g tk
    refine ⟨_, pe_chain (op_cmp o g.units) (op_cmp o' g.units) pa pb pc (last_marks h4), fun σ H G L env S Q sl w sat => ?_⟩
    rw [evE, sat_bind] at sat
    simp only [sat_bind] at sat
    refine tl_chain (p := fun c S' => PostE Γ.T G L H (.bool c) S' Q) ta1 tb1 tc1 sl w (sat.imp (fun a S1 q => q.imp (fun b S2 q => q.imp (fun c1 S3 q => ?_) fun _ _ q => q) fun _ _ q => q) fun _ _ q => q) fun c S2 H2 L2 q e2 w2 => q _ H2 L2 e2 w2 (.bl c)
    cases c1 with
    | true =>
      rw [if_pos rfl] at q ⊢
      rw [sat_bind] at q ⊢
      refine q.imp (fun z S4 q => ?_) fun _ _ q => q
      rw [sat_bind] at q
      exact q
    | false =>
      rw [if_neg Bool.false_ne_true] at q ⊢
      exact q
  · cases h
theorem sb_chain {o o' : Cop} {a b c : E} {e : Expr} (h : chkB Z C (.chain o o' a b c) e = true) (ia : ∀ l, chkE Z C a l = true → SE Γ C r wf cf a l) (ib : ∀ l, chkE Z C b l = true → SE Γ C r wf cf b l) (ic : ∀ l, chkE Z C c l = true → SE Γ C r wf cf c l) : SB Γ C r wf cf (.chain o o' a b c) e := by
  intro X W g tk
  simp only [chkB] at h
  split at h
  · rename_i l op m op' rr hx
    obtain ⟨p, rfl⟩ := xCmp2_of hx
    simp only [Bool.and_eq_true] at h
    obtain ⟨⟨⟨⟨⟨h0, h0'⟩, h1⟩, h2⟩, h3⟩, h4⟩ := h
    rw [cop_of h0, cop_of h0']
    obtain ⟨ta, pa, ta1⟩ := ia l h1 X W g tk
    obtain ⟨tb, pb, tb1⟩ := ib m h2 X W g tk
    obtain ⟨tc, pc, tc1⟩ := ic rr h3 X W g tk
    refine ⟨_, pt_chain (op_cmp o g.units) (op_cmp o' g.units) pa pb pc (last_marks h4), fun σ H G L env S Q sl w sat => ?_⟩
    rw [evB, sat_bind] at sat
    simp only [sat_bind] at sat
    refine tl_chain (p := fun c S' => ∀ H' L', Ext L H L' H' → WS Γ.T G L' H' S' → Q c H') (Q := fun x H' => ∃ k, x = .bl k ∧ Q k H') ta1 tb1 tc1 sl w (sat.imp (fun a S1 q => q.imp (fun b S2 q => q.imp (fun c1 S3 q => ?_) fun _ _ q => q) fun _ _ q => q) fun _ _ q => q) fun c S2 H2 L2 q e2 w2 => ⟨c, rfl, q H2 L2 e2 w2⟩
    cases c1 with
    | true =>
      rw [if_pos rfl] at q ⊢
      rw [sat_bind] at q ⊢
      exact q
    | false =>
      rw [if_neg Bool.false_ne_true] at q ⊢
      exact q
  · cases h
end
end Mi

set_option Elab.async false
set_option linter.all false
set_option maxRecDepth 100000
set_option maxHeartbeats 1000000
namespace Mi
open PySem PySem.Spec PyProof.Rows L2
section
variable {Γ : Pr} {Z : Sg} {C : Ct} {r : Nat} {cf : Nat → CallF} {wf : WordF}

/-! ### arguments -/
theorem sa_nil {es : List Expr} (h : chkA Z C .nil es = true) : SA Γ C r wf cf .nil es := by
  intro X W g tk
  unfold chkA at h
  split at h
  · exact ⟨_, pa_nil, fun σ H G L env S Q sl w sat => sat _ H L Ext.refl w .nil⟩
  · cases h
theorem sa_cons {a : E} {as : A} {es : List Expr} (h : chkA Z C (.cons a as) es = true) (ia : ∀ l, chkE Z C a l = true → SE Γ C r wf cf a l) (ias : ∀ l, chkA Z C as l = true → SA Γ C r wf cf as l) : SA Γ C r wf cf (.cons a as) es := by
  intro X W g tk
  unfold chkA at h
  split at h
  · rename_i e r
    simp only [Bool.and_eq_true] at h
    obtain ⟨⟨h1, h2⟩, h3⟩ := h
    obtain ⟨ta, pa, ta1⟩ := ia e h1 X W g tk
    obtain ⟨tb, pb, tb1⟩ := ias r h3 X W g tk
    refine ⟨_, pa_cons pa pb (star1 h2), fun σ H G L env S Q sl w sat => ?_⟩
    rw [evA, sat_bind] at sat
    simp only [sat_bind] at sat
    refine ta1 σ H G L env S _ sl w (sat.imp (fun a S1 s2 x H1 L1 e1 w1 r1 => ?_) fun c S1 q => q)
    refine tb1 σ H1 G L1 env S1 _ (sl.ext e1 w) w1 (s2.imp (fun ds S2 q vs H2 L2 e2 w2 r2 => ?_) fun c S2 q => q.ext w1 e1)
    exact q (x :: vs) H2 L2 (Ext.trans w1 e1 e2) w2 (.cons (r1.kp e2.kp) r2)
  · cases h

/-! ### and, or, not as values -/
def SEB (Γ : Pr) (C : Ct) (r : Nat) (wf : WordF) (cf : Nat → CallF) (p : Pos) (op : BoolOp) (a : E) (es : List Expr) : Prop := ∀ X W, Good Γ r C X → Takes X W → ∃ t, PE X (.BoolOp op es p) t ∧ TlE Γ W t (evE wf cf a)
theorem seb_one {p : Pos} {op : BoolOp} {a : E} {e : Expr} (h : SE Γ C r wf cf a e) : SEB Γ C r wf cf p op a [e] := fun X W g tk => by
  obtain ⟨t, pa, ta⟩ := h X W g tk
  exact ⟨t, pe_one pa, ta⟩
theorem seb_and {p : Pos} {a b : E} {x y : Expr} {rest : List Expr} (ia : SE Γ C r wf cf a x) (ib : SEB Γ C r wf cf p .And b (y :: rest)) : SEB Γ C r wf cf p .And (.and a b) (x :: y :: rest) := fun X W g tk => by
  obtain ⟨ta, pa, ta1⟩ := ia X W g tk
  obtain ⟨tb, pb, tb1⟩ := ib X W g tk
  refine ⟨_, pe_and pa pb, fun σ H G L env S Q sl w sat => ?_⟩
  rw [evE, sat_bind] at sat
  refine ta1 σ H G L env S _ sl w (sat.imp (fun a S1 q x H1 L1 e1 w1 r1 => ?_) fun c S1 q => q)
  rw [sat_bind] at q
  obtain ⟨c, rfl, q2⟩ := sat_asB q
  clear q
  rw [r1.bl_inv]
  refine ⟨c, rfl, ?_⟩
  cases c with
  | true =>
    rw [if_pos rfl] at q2 ⊢
    exact tb1 σ H1 G L1 env S1 _ (sl.ext e1 w) w1 (q2.imp (fun d S2 q => q.ext w1 e1) fun c S2 q => q.ext w1 e1)
  | false =>
    rw [if_neg Bool.false_ne_true] at q2 ⊢
    exact q2 _ H1 L1 e1 w1 (.bl false)
theorem seb_or {p : Pos} {a b : E} {x y : Expr} {rest : List Expr} (ia : SE Γ C r wf cf a x) (ib : SEB Γ C r wf cf p .Or b (y :: rest)) : SEB Γ C r wf cf p .Or (.or a b) (x :: y :: rest) := fun X W g tk => by
  obtain ⟨ta, pa, ta1⟩ := ia X W g tk
  obtain ⟨tb, pb, tb1⟩ := ib X W g tk
  refine ⟨_, pe_or pa pb, fun σ H G L env S Q sl w sat => ?_⟩
  rw [evE, sat_bind] at sat
  refine ta1 σ H G L env S _ sl w (sat.imp (fun a S1 q x H1 L1 e1 w1 r1 => ?_) fun c S1 q => q)
  rw [sat_bind] at q
  obtain ⟨c, rfl, q2⟩ := sat_asB q
  clear q
  rw [r1.bl_inv]
  refine ⟨c, rfl, ?_⟩
  cases c with
  | true =>
    rw [if_pos rfl] at q2 ⊢
    exact q2 _ H1 L1 e1 w1 (.bl true)
  | false =>
    rw [if_neg Bool.false_ne_true] at q2 ⊢
    exact tb1 σ H1 G L1 env S1 _ (sl.ext e1 w) w1 (q2.imp (fun d S2 q => q.ext w1 e1) fun c S2 q => q.ext w1 e1)
theorem se_of_seb {op : BoolOp} {a : E} {es : List Expr} {p : Pos} (h : SEB Γ C r wf cf p op a es) : SE Γ C r wf cf a (.BoolOp op es p) := h
theorem se_not {a : E} {e : Expr} (h : chkE Z C (.not a) e = true) (ia : ∀ l, chkE Z C a l = true → SE Γ C r wf cf a l) : SE Γ C r wf cf (.not a) e := by
  intro X W g tk
  simp only [chkE] at h
  split at h
  · rename_i l hx
    obtain ⟨p, rfl⟩ := xNot_of hx
    obtain ⟨ta, pa, ta1⟩ := ia l h X W g tk
    refine ⟨_, pe_not pa, fun σ H G L env S Q sl w sat => ?_⟩
    rw [evE, sat_bind] at sat
    refine ta1 σ H G L env S _ sl w (sat.imp (fun d S1 q x H1 L1 e1 w1 r1 => ?_) fun _ _ q => q)
    rw [sat_bind] at q
    obtain ⟨c, rfl, q2⟩ := sat_asB q
    rw [r1.bl_inv]
    exact ⟨c, rfl, q2 _ H1 L1 e1 w1 (.bl _)⟩
  · cases h
theorem se_ite {c : B} {a b : E} {e : Expr} (h : chkE Z C (.ite c a b) e = true) (ic : ∀ l, chkB Z C c l = true → SB Γ C r wf cf c l) (ia : ∀ l, chkE Z C a l = true → SE Γ C r wf cf a l) (ib : ∀ l, chkE Z C b l = true → SE Γ C r wf cf b l) : SE Γ C r wf cf (.ite c a b) e := by
  intro X W g tk
  simp only [chkE] at h
  split at h
  · rename_i t l rr hx
    obtain ⟨p, rfl⟩ := xIf_of hx
    simp only [Bool.and_eq_true] at h
    obtain ⟨⟨h0, h1⟩, h2⟩ := h
    obtain ⟨tc, pc, tc1⟩ := ic t h0 X W g tk
    obtain ⟨ta, pa, ta1⟩ := ia l h1 X W g tk
    obtain ⟨tb, pb, tb1⟩ := ib rr h2 X W g tk
    refine ⟨_, pe_ifExp pc pa pb, fun σ H G L env S Q sl w sat => ?_⟩
    rw [evE, sat_bind] at sat
    refine tc1 σ H G L env S _ sl w (sat.imp (fun c S1 q H1 L1 e1 w1 => ?_) fun _ _ q => q)
    cases c with
    | true =>
      rw [if_pos rfl] at q ⊢
      exact ta1 σ H1 G L1 env S1 _ (sl.ext e1 w) w1 (q.imp (fun d S2 q => q.ext w1 e1) fun c S2 q => q.ext w1 e1)
    | false =>
      rw [if_neg Bool.false_ne_true] at q ⊢
      exact tb1 σ H1 G L1 env S1 _ (sl.ext e1 w) w1 (q.imp (fun d S2 q => q.ext w1 e1) fun c S2 q => q.ext w1 e1)
  · cases h

/-! ### tests -/
theorem sb_val {a : E} {e : Expr} (h : chkB Z C (.val a) e = true) (ia : ∀ l, chkE Z C a l = true → SE Γ C r wf cf a l) : SB Γ C r wf cf (.val a) e := by
  intro X W g tk
  simp only [chkB, Bool.and_eq_true] at h
  obtain ⟨ta, pa, ta1⟩ := ia e h.2 X W g tk
  refine ⟨_, pt_val pa (istrue_plain h.1), fun σ H G L env S Q sl w sat => ?_⟩
  rw [evB, sat_bind] at sat
  refine ta1 σ H G L env S _ sl w (sat.imp (fun d S1 q x H1 L1 e1 w1 r1 => ?_) fun _ _ q => q)
  obtain ⟨c, rfl, q2⟩ := sat_asB q
  rw [r1.bl_inv]
  exact ⟨c, rfl, q2 H1 L1 e1 w1⟩
theorem sb_not {a : B} {e : Expr} (h : chkB Z C (.not a) e = true) (ia : ∀ l, chkB Z C a l = true → SB Γ C r wf cf a l) : SB Γ C r wf cf (.not a) e := by
  intro X W g tk
  simp only [chkB] at h
  split at h
  · rename_i l hx
    obtain ⟨p, rfl⟩ := xNot_of hx
    obtain ⟨ta, pa, ta1⟩ := ia l h X W g tk
    refine ⟨_, pt_not pa, fun σ H G L env S Q sl w sat => ?_⟩
    rw [evB, sat_bind] at sat
    exact ta1 σ H G L env S _ sl w (sat.imp (fun d S1 q H1 L1 e1 w1 => q H1 L1 e1 w1) fun _ _ q => q)
  · cases h
def SBB (Γ : Pr) (C : Ct) (r : Nat) (wf : WordF) (cf : Nat → CallF) (p : Pos) (op : BoolOp) (a : B) (es : List Expr) : Prop := ∀ X W, Good Γ r C X → Takes X W → ∃ t, PW X (.BoolOp op es p) t ∧ TlB Γ W t (evB wf cf a)
theorem sbb_one_and {p : Pos} {a : B} {e : Expr} (h : SB Γ C r wf cf a e) : SBB Γ C r wf cf p .And a [e] := fun X W g tk => by
  obtain ⟨t, pa, ta⟩ := h X W g tk
  exact ⟨t, pw_and1 pa, ta⟩
theorem sbb_one_or {p : Pos} {a : B} {e : Expr} (h : SB Γ C r wf cf a e) : SBB Γ C r wf cf p .Or a [e] := fun X W g tk => by
  obtain ⟨t, pa, ta⟩ := h X W g tk
  exact ⟨t, pw_or1 pa, ta⟩
theorem sbb_and {p : Pos} {a b : B} {x y : Expr} {rest : List Expr} (ia : SB Γ C r wf cf a x) (ib : SBB Γ C r wf cf p .And b (y :: rest)) : SBB Γ C r wf cf p .And (.and a b) (x :: y :: rest) := fun X W g tk => by
  obtain ⟨ta, pa, ta1⟩ := ia X W g tk
  obtain ⟨tb, pb, tb1⟩ := ib X W g tk
  refine ⟨_, pw_and pa pb, fun σ H G L env S Q sl w sat => ?_⟩
  rw [evB, sat_bind] at sat
  refine ta1 σ H G L env S _ sl w (sat.imp (fun c S1 q H1 L1 e1 w1 => ?_) fun c S1 q => q)
  cases c with
  | true =>
    rw [if_pos rfl] at q ⊢
    exact tb1 σ H1 G L1 env S1 _ (sl.ext e1 w) w1 (q.imp (fun d S2 q H2 L2 e2 w2 => q H2 L2 (Ext.trans w1 e1 e2) w2) fun c S2 q => q.ext w1 e1)
  | false =>
    rw [if_neg Bool.false_ne_true] at q ⊢
    exact q H1 L1 e1 w1
theorem sbb_or {p : Pos} {a b : B} {x y : Expr} {rest : List Expr} (ia : SB Γ C r wf cf a x) (ib : SBB Γ C r wf cf p .Or b (y :: rest)) : SBB Γ C r wf cf p .Or (.or a b) (x :: y :: rest) := fun X W g tk => by
  obtain ⟨ta, pa, ta1⟩ := ia X W g tk
  obtain ⟨tb, pb, tb1⟩ := ib X W g tk
  refine ⟨_, pw_or pa pb, fun σ H G L env S Q sl w sat => ?_⟩
  rw [evB, sat_bind] at sat
  refine ta1 σ H G L env S _ sl w (sat.imp (fun c S1 q H1 L1 e1 w1 => ?_) fun c S1 q => q)
  cases c with
  | true =>
    rw [if_pos rfl] at q ⊢
    exact q H1 L1 e1 w1
  | false =>
    rw [if_neg Bool.false_ne_true] at q ⊢
    exact tb1 σ H1 G L1 env S1 _ (sl.ext e1 w) w1 (q.imp (fun d S2 q H2 L2 e2 w2 => q H2 L2 (Ext.trans w1 e1 e2) w2) fun c S2 q => q.ext w1 e1)
theorem sb_of_sbb {op : BoolOp} {a : B} {es : List Expr} {p : Pos} (h : SBB Γ C r wf cf p op a es) : SB Γ C r wf cf a (.BoolOp op es p) := fun X W g tk => by
  obtain ⟨t, pa, ta⟩ := h X W g tk
  exact ⟨t, pa.pt, ta⟩

/-! ### displays -/
theorem se_tup {as : A} {e : Expr} (h : chkE Z C (.tup as) e = true) (ia : ∀ l, chkA Z C as l = true → SA Γ C r wf cf as l) : SE Γ C r wf cf (.tup as) e := by
  intro X W g tk
  simp only [chkE] at h
  split at h
  · rename_i l hx
    obtain ⟨k, p, rfl⟩ := xTup_of hx
    obtain ⟨ta, pa, ta1⟩ := ia l h X W g tk
    refine ⟨_, pe_tupN pa, fun σ H G L env S Q sl w sat => ?_⟩
    rw [evE, sat_bind] at sat
    refine ta1 σ H G L env S _ sl w (sat.imp (fun ds S1 q vs H1 L1 e1 w1 r1 => ?_) fun _ _ q => q)
    by_cases hl : ds.length ≤ BIG
    · rw [if_pos hl] at q
      refine ⟨by rw [← r1.length]; exact big_line hl, fun p o hp ho => ?_⟩
      obtain ⟨e2, w2, r2⟩ := new_tup w1 hp ho r1
      exact q _ _ L1 (Ext.trans w1 e1 e2) w2 r2
    · rw [if_neg hl] at q
      exact q.elim
  · cases h
theorem se_lst {as : A} {e : Expr} (h : chkE Z C (.lst as) e = true) (ia : ∀ l, chkA Z C as l = true → SA Γ C r wf cf as l) : SE Γ C r wf cf (.lst as) e := by
  intro X W g tk
  simp only [chkE] at h
  split at h
  · rename_i l hx
    obtain ⟨p, rfl⟩ := xLst_of hx
    obtain ⟨ta, pa, ta1⟩ := ia l h X W g tk
    refine ⟨_, pe_lst pa, fun σ H G L env S Q sl w sat => ?_⟩
    rw [evE, sat_bind] at sat
    refine ta1 σ H G L env S _ sl w (sat.imp (fun ds S1 q vs H1 L1 e1 w1 r1 => ?_) fun _ _ q => q)
    by_cases hl : ds.length ≤ BIG
    · rw [if_pos hl] at q
      refine ⟨by rw [← r1.length]; exact big_line hl, fun p hp => ?_⟩
      obtain ⟨e2, w2, r2⟩ := new_lst w1 hp r1
      exact q _ _ L1 (Ext.trans w1 e1 e2) w2 r2
    · rw [if_neg hl] at q
      exact q.elim
  · cases h
theorem se_nloc {as : A} {e : Expr} (h : chkE Z C (.nloc as) e = true) (ia : ∀ l, chkA Z C as l = true → SA Γ C r wf cf as l) : SE Γ C r wf cf (.nloc as) e := by
  intro X W g tk
  simp only [chkE] at h
  split at h
  · rename_i l hx
    obtain ⟨p, rfl⟩ := xLst_of hx
    obtain ⟨ta, pa, ta1⟩ := ia l h X W g tk
    refine ⟨_, pe_lst pa, fun σ H G L env S Q sl w sat => ?_⟩
    rw [evE, sat_bind] at sat
    refine ta1 σ H G L env S _ sl w (sat.imp (fun ds S1 q vs H1 L1 e1 w1 r1 => ?_) fun _ _ q => q)
    by_cases hl : ds.length ≤ BIG
    · rw [if_pos hl] at q
      refine ⟨by rw [← r1.length]; exact big_line hl, fun p hp => ?_⟩
      obtain ⟨e2, w2⟩ := w1.cell hp r1
      refine q _ _ _ (Ext.trans w1 e1 e2) w2 (.loc ?_)
      rw [← w1.len, List.getElem?_append_right (Nat.le_refl _)]
      simp
    · rw [if_neg hl] at q
      exact q.elim
  · cases h

/-! ### places -/
theorem se_idx {a i : E} {e : Expr} (h : chkE Z C (.idx a i) e = true) (ia : ∀ l, chkE Z C a l = true → SE Γ C r wf cf a l) (ib : ∀ l, chkE Z C i l = true → SE Γ C r wf cf i l) : SE Γ C r wf cf (.idx a i) e := by
  intro X W g tk
  simp only [chkE] at h
  split at h
  · rename_i l rr hx
    obtain ⟨p, rfl, hn⟩ := xSub_of hx
    simp only [Bool.and_eq_true] at h
    obtain ⟨ta, pa, ta1⟩ := ia l h.1 X W g tk
    obtain ⟨tb, pb, tb1⟩ := ib rr h.2 X W g tk
    refine ⟨_, pe_ix (ix_D (T := Γ.T)) pa pb (plainIx hn), fun σ H G L env S Q sl w sat => ?_⟩
    rw [evE, sat_bind] at sat
    simp only [sat_bind] at sat
    refine tl_two ta1 tb1 sl w sat fun a b S2 x y H2 L2 q e2 w2 r1 r2 => ?_
    obtain ⟨d, hd, post⟩ := sat_lift q
    exact ⟨G, L2, S2, a, b, d, w2, r1, r2, hd, fun v r3 => post v H2 L2 e2 w2 r3⟩
  · cases h
theorem getO_rep {G : Addr → Prop} {L : List Addr} {H : Hp} {σ : L2.St} {env : Env} {i : Nat} {d : D} (sl : SlE G L H σ env) (h : getO env i = some d) :
    ∃ v, σ[i]? = some (some v) ∧ Rep H (fun _ => False) L d v ∨ (∃ v, σ[i]? = some (some v) ∧ Rep H (Bad G L) L d v) := by
  unfold getO at h
  split at h
  · cases h
    obtain ⟨v, h1, h2⟩ := sl.val i _ (by assumption)
    exact ⟨v, .inr ⟨v, h1, h2⟩⟩
  · cases h
    obtain ⟨a, vs, h1, h2, h3, h4⟩ := sl.own i _ (by assumption)
    refine ⟨.ref a, .inl ⟨h1, .lst (.inl h2) (fun z => z) (h3.kp ⟨fun a o q _ _ => q, fun _ _ _ _ z => z.elim, fun _ _ q => q⟩)⟩⟩
  · cases h
theorem se_lenv (ok : PrOk Γ Z) {i : Nat} {e : Expr} (h : chkE Z C (.lenv i) e = true) : SE Γ C r wf cf (.lenv i) e := by
  intro X W g tk
  simp only [chkE] at h
  split at h
  · rename_i f l hx
    obtain ⟨p, q, rfl⟩ := xCall_of hx
    simp only [Bool.and_eq_true, decide_eq_true_eq] at h
    obtain ⟨⟨rfl, hg⟩, hv⟩ := h
    obtain ⟨g1, g2, g3⟩ := g.gl hg
    split at hv
    · rename_i x hx
      obtain ⟨p2, rfl⟩ := xName_of hx
      have hm : X.mg "len" = none := by rw [g.mg]; exact ok.bl _ (by decide)
      refine ⟨_, pe_callB ((call_len_seq (X := X)).or call_len_str) g1 hm PySem.boot_len (pa_cons (g.vis hv) pa_nil) g3 g2, fun σ H G L env S Q sl w sat => ?_⟩
      rw [evE, sat_bind] at sat
      obtain ⟨d, hd, sat⟩ := sat_lift sat
      rw [sat_bind] at sat
      obtain ⟨n, hn, post⟩ := sat_lift sat
      have fin : Q (.int n) H := post _ H L Ext.refl w (.int n)
      have go : ∀ (B : Addr → Prop) (v : V), σ[i]? = some (some v) → Rep H B L d v → tCB (fun xs H Q => (∃ p ys, xs = [.ref p] ∧ (SqL X.K H p ys ∨ SqT X.K H p ys) ∧ Q (.int ys.length) H) ∨ ∃ z, xs = [.str z] ∧ z.length ≤ sizeLine ∧ Q (.int z.length) H) (tCons (tVar i) tNil) σ H Q := fun B v h1 r => by
        refine ⟨v, h1, ?_⟩
        show _ ∨ _
        cases d with
        | list xs =>
          simp only [lenD, Option.some.injEq] at hn
          subst hn
          obtain ⟨p, ws, rfl, h1, _, r2⟩ := r.lst_inv
          exact .inl ⟨p, ws, rfl, .inl (.inl h1), by rw [← r2.length]; exact fin⟩
        | tuple xs =>
          simp only [lenD, Option.some.injEq] at hn
          subst hn
          obtain ⟨p, ws, rfl, h1, _, r2⟩ := r.tup_inv
          exact .inl ⟨p, ws, rfl, .inr (sqT h1), by rw [← r2.length]; exact fin⟩
        | str z =>
          simp only [lenD, Option.some.injEq] at hn
          subst hn
          obtain ⟨rfl, hz⟩ := r.str_inv
          exact .inr ⟨z, rfl, hz, fin⟩
        | _ => simp [lenD] at hn
      obtain ⟨v, ⟨h1, h2⟩ | ⟨v', h1, h2⟩⟩ := getO_rep sl hd
      · exact go _ v h1 h2
      · exact go _ v' h1 h2
    · cases hv
  · cases h
theorem se_idxv {i : Nat} {ix : E} {e : Expr} (h : chkE Z C (.idxv i ix) e = true) (ib : ∀ l, chkE Z C ix l = true → SE Γ C r wf cf ix l) : SE Γ C r wf cf (.idxv i ix) e := by
  intro X W g tk
  simp only [chkE] at h
  split at h
  · rename_i l rr hx
    obtain ⟨p, rfl, hn⟩ := xSub_of hx
    simp only [Bool.and_eq_true] at h
    obtain ⟨hv, h2⟩ := h
    split at hv
    · rename_i x hx
      obtain ⟨p2, rfl⟩ := xName_of hx
      obtain ⟨tb, pb, tb1⟩ := ib rr h2 X W g tk
      refine ⟨_, pe_ix ((ix_D (T := Γ.T)).or ix_list) (g.vis hv) pb (plainIx hn), fun σ H G L env S Q sl w sat => ?_⟩
      rw [evE, sat_bind] at sat
      obtain ⟨d, hd, sat⟩ := sat_lift sat
      simp only [sat_bind] at sat
      unfold getO at hd
      split at hd
      · cases hd
        obtain ⟨v, h1, h3⟩ := sl.val i _ (by assumption)
        refine ⟨v, h1, tb1 σ H G L env S _ sl w (sat.imp (fun b S2 q y H2 L2 e2 w2 r2 => ?_) fun c S2 q => q)⟩
        obtain ⟨d2, hd2, post⟩ := sat_lift q
        exact .inl ⟨G, L2, S2, _, b, d2, w2, h3.kp e2.kp, r2, hd2, fun v r3 => post v H2 L2 e2 w2 r3⟩
      · cases hd
        rename_i ds _
        obtain ⟨a, vs, h1, h3, h4, h5⟩ := sl.own i _ (by assumption)
        refine ⟨.ref a, h1, tb1 σ H G L env S _ sl w (sat.imp (fun b S2 q y H2 L2 e2 w2 r2 => ?_) fun c S2 q => q)⟩
        obtain ⟨d2, hd2, post⟩ := sat_lift q
        cases b <;> simp only [idxD, reduceCtorEq] at hd2
        rename_i k
        rw [r2.int_inv]
        have h6 : H2 a = some (.lst vs) := e2.keep _ _ h3 (fun q => w.dis a q h5) (fun ps q => by cases q)
        obtain ⟨z, h7, h8⟩ := (h4.kp e2.kp).atI hd2
        exact .inr ⟨a, vs, k, z, rfl, rfl, SqL.of h6, h7, post z H2 L2 e2 w2 h8⟩
      · cases hd
    · cases hv
  · cases h

/-! ### slices -/
theorem so_no {e : Option Expr} (h : chkO Z C .no e = true) : SO Γ C r wf cf .no e := by
  intro X W g tk
  unfold chkO at h
  split at h
  · exact ⟨_, po_none, fun σ H G L env S Q sl w sat => sat H L Ext.refl w⟩
  · cases h
theorem so_yes {a : E} {e : Option Expr} (h : chkO Z C (.yes a) e = true) (ia : ∀ l, chkE Z C a l = true → SE Γ C r wf cf a l) : SO Γ C r wf cf (.yes a) e := by
  intro X W g tk
  unfold chkO at h
  split at h
  · rename_i e
    obtain ⟨ta, pa, ta1⟩ := ia e h X W g tk
    refine ⟨_, po_some pa, fun σ H G L env S Q sl w sat => ?_⟩
    rw [evO, sat_bind] at sat
    refine ta1 σ H G L env S _ sl w (sat.imp (fun d S1 q x H1 L1 e1 w1 r1 => ?_) fun _ _ q => q)
    rw [sat_bind] at q
    obtain ⟨i, hi, q⟩ := sat_lift q
    cases d <;> simp only [partD, reduceCtorEq] at hi
    cases hi
    rw [r1.int_inv]
    exact ⟨_, rfl, q H1 L1 e1 w1⟩
  · cases h
theorem se_slice {a : E} {lo hi : O} {e : Expr} (h : chkE Z C (.slice a lo hi) e = true) (ia : ∀ l, chkE Z C a l = true → SE Γ C r wf cf a l) (il : ∀ l, chkO Z C lo l = true → SO Γ C r wf cf lo l) (ih : ∀ l, chkO Z C hi l = true → SO Γ C r wf cf hi l) : SE Γ C r wf cf (.slice a lo hi) e := by
  intro X W g tk
  simp only [chkE] at h
  split at h
  · rename_i l p q hx
    obtain ⟨p1, p2, rfl⟩ := xSlice_of hx
    simp only [Bool.and_eq_true] at h
    obtain ⟨ta, pa, ta1⟩ := ia l h.1.1 X W g tk
    obtain ⟨tl, pl, tl1⟩ := il p h.1.2 X W g tk
    obtain ⟨th, ph, th1⟩ := ih q h.2 X W g tk
    refine ⟨_, pe_slice (sl_D (T := Γ.T)) pa pl ph, fun σ H G L env S Q sl w sat => ?_⟩
    rw [evE, sat_bind] at sat
    simp only [sat_bind] at sat
    refine ta1 σ H G L env S _ sl w (sat.imp (fun a S1 s2 x H1 L1 e1 w1 r1 => ?_) fun c S1 q => q)
    refine tl1 σ H1 G L1 env S1 _ (sl.ext e1 w) w1 (s2.imp (fun lo S2 s3 H2 L2 e2 w2 => ?_) fun c S2 q => q.ext w1 e1)
    have e12 := Ext.trans w1 e1 e2
    refine th1 σ H2 G L2 env S2 _ (sl.ext e12 w) w2 (s3.imp (fun hi S3 s4 H3 L3 e3 w3 => ?_) fun c S2 q => q.ext w2 e12)
    have e13 := Ext.trans w2 e12 e3
    obtain ⟨d, hd, post⟩ := sat_lift s4
    exact ⟨G, L3, S3, a, d, w3, (r1.kp e2.kp).kp e3.kp, hd, fun v H4 e4 w4 r4 => post v H4 L3 (Ext.trans w3 e13 e4) w4 r4⟩
  · cases h
theorem se_rev {a : E} {e : Expr} (h : chkE Z C (.rev a) e = true) (ia : ∀ l, chkE Z C a l = true → SE Γ C r wf cf a l) : SE Γ C r wf cf (.rev a) e := by
  intro X W g tk
  simp only [chkE] at h
  split at h
  · rename_i l hx
    obtain ⟨k, p1, p2, p3, p4, rfl⟩ := xRev_of hx
    obtain ⟨ta, pa, ta1⟩ := ia l h X W g tk
    refine ⟨_, pe_rev (T := Γ.T) pa, fun σ H G L env S Q sl w sat => ?_⟩
    rw [evE, sat_bind] at sat
    refine ta1 σ H G L env S _ sl w (sat.imp (fun a S1 q x H1 L1 e1 w1 r1 => ?_) fun _ _ q => q)
    obtain ⟨d, hd, post⟩ := sat_lift q
    exact ⟨G, L1, S1, a, d, w1, r1, hd, fun v H4 e4 w4 r4 => post v H4 L1 (Ext.trans w1 e1 e4) w4 r4⟩
  · cases h

/-! ### calls -/
theorem plainA_of {es : List Expr} (h : plainA es = true) : ∃ e r, es = e :: r ∧ notStar e = true ∧ r.all notStar = true := by
  unfold plainA at h
  simp only [Bool.and_eq_true, decide_eq_true_eq] at h
  cases es with
  | nil => exact absurd rfl h.2
  | cons e r =>
    rw [List.all_cons, Bool.and_eq_true] at h
    exact ⟨e, r, rfl, h.1.1, h.1.2⟩
theorem boot_bi (f : Bi) : bootBuiltins (biN f) = some (biV f) := by
  cases f
  · exact PySem.boot_len
  · exact (by decide +kernel : bootBuiltins "abs" = some (.builtin "abs"))
  · exact (by decide +kernel : bootBuiltins "min" = some (.builtin "min"))
  · exact (by decide +kernel : bootBuiltins "max" = some (.builtin "max"))
  · exact (by decide +kernel : bootBuiltins "sum" = some (.builtin "sum"))
  · exact (by decide +kernel : bootBuiltins "all" = some (.builtin "all"))
  · exact (by decide +kernel : bootBuiltins "any" = some (.builtin "any"))
  · exact (by decide +kernel : bootBuiltins "tuple" = some (.type "tuple"))
  · exact (by decide +kernel : bootBuiltins "list" = some (.type "list"))
  · exact (by decide +kernel : bootBuiltins "sorted" = some (.builtin "sorted"))
  · exact (by decide +kernel : bootBuiltins "int" = some (.type "int"))
  · exact (by decide +kernel : bootBuiltins "str" = some (.type "str"))
theorem bi_mem (f : Bi) : biN f ∈ bnames := by cases f <;> decide
theorem pe_callS0 {X : Cx} {CX : CXT} {k : Nat} {f : Addr} {fd : FuncData} {ps : List Str} {sp : Sp} {E : L2.St → XK} {x : Str} {p pos : Pos} (F : FnOk X.prog X.w X.K X.mg X.base CX k f fd ps sp) (hr : Room k X.A) (hg : Gl X x) (hm : X.mg x = some (.ref f)) (hk : PySem.W.keepIn X.K (.ref f) = true) (hb : Binds X.K fd ps []) (hx : ∀ σ, PassesAt CX X σ (E σ))
    (hdb : (x == ("__debug__" : Str)) = false := by decide) : PE X (.Call (.Name x p) [] [] pos) (fun σ H Q => sp [] H Q (E σ)) := by
  refine ⟨fun pins s σ H Q I h => ?_⟩
  refine wpAny_Call_Name_kw (ld_glob I hg hm ?_ hdb)
  exact PySem.W.callWith_K0 I.kIn hk (run_fnS (us := []) F hr hb (hx σ) I .nil h)
theorem se_call (ok : PrOk Γ Z) (hcf : CFok Γ r cf) {f : Nat} {as : A} {e : Expr} (h : chkE Z C (.call f as) e = true) (ia : ∀ l, chkA Z C as l = true → SA Γ C r wf cf as l) : SE Γ C r wf cf (.call f as) e := by
  intro X W g tk
  simp only [chkE] at h
  split at h
  · rename_i x es d hx hd
    obtain ⟨p, q, rfl⟩ := xCall_of hx
    simp only [Bool.and_eq_true, decide_eq_true_eq] at h
    obtain ⟨⟨⟨rfl, hg⟩, hp⟩, ha⟩ := h
    obtain ⟨g1, g2, g3⟩ := g.gl hg
    have hd' : Γ.defs[f]? = some d := by rw [ok.defs]; exact hd
    obtain ⟨f1, f2, f3⟩ := ok.fn f d hd'
    obtain ⟨F, Fl⟩ := hcf 0 f d hd'
    cases es with
    | nil =>
      cases as with
      | cons a as => simp [chkA] at ha
      | nil =>
        obtain ⟨P, w, K, mg, base, A, N, s0, H0, env0, outer, stack, ex, fn, calm, pn, xe⟩ := X
        obtain ⟨rfl, rfl, rfl, rfl, rfl, _, _, _, _, hr, _, _⟩ := g
        refine ⟨_, pe_callS0 F hr g1 f1 f2 f3 (fun σ => passAt tk σ) g2, fun σ H G L env S Q sl w sat => ?_⟩
        rw [evE, evA, sat_bind] at sat
        have q : Sat (cf 0 f [] S) (fun d S' => PostE Γ.T G L H d S' Q) (PostX Γ W σ G L H) := sat
        have hl : ([] : List V).length = d.np := by
          by_cases hne : ([] : List D).length = d.np
          · exact hne
          · rw [Fl [] S hne] at q
            exact q.elim
        exact ⟨hl, G, L, S, [], w, .nil, q⟩
    | cons e0 es0 =>
    obtain ⟨e, rest, hrest, ns, nr⟩ := plainA_of (es := e0 :: es0) (by unfold plainA; rw [hp]; simp)
    cases hrest
    obtain ⟨ta, pa, ta1⟩ := ia _ ha X W g tk
    obtain ⟨P, w, K, mg, base, A, N, s0, H0, env0, outer, stack, ex, fn, calm, pn, xe⟩ := X
    obtain ⟨rfl, rfl, rfl, rfl, rfl, _, _, _, _, hr, _, _⟩ := g
    refine ⟨_, pe_callS F hr g1 f1 f2 f3 (fun σ => passAt tk σ) pa g2 (star1 ns) (plain_args nr), fun σ H G L env S Q sl w sat => ?_⟩
    rw [evE, sat_bind] at sat
    refine ta1 σ H G L env S _ sl w (sat.imp (fun ds S1 q vs H1 L1 e1 w1 r1 => ?_) fun _ _ q => q)
    have hl : vs.length = d.np := by
      rw [← r1.length]
      by_cases hne : ds.length = d.np
      · exact hne
      · rw [Fl ds S1 hne] at q
        exact q.elim
    exact ⟨hl, G, L1, S1, ds, w1, r1, q.imp (fun d S' post => post.ext w1 e1) fun c S' q => q.ext w1 e1⟩
  · cases h
end
end Mi

set_option Elab.async false
set_option linter.all false
set_option maxRecDepth 100000
set_option maxHeartbeats 1000000
namespace Mi
open PySem PySem.Spec PyProof.Rows L2
section
variable {Γ : Pr} {Z : Sg} {C : Ct} {r : Nat} {cf : Nat → CallF} {wf : WordF}
theorem pe_callBi {X : Cx} {f : Bi} {r0 : List V → Hp → VK → Prop} {x : Str} {p pos : Pos} {e : Expr} {es : List Expr} {t : TA} (hc : CallR X (biV f) r0) (hg : Gl X x) (hm : X.mg x = none) (hv : bootBuiltins x = some (biV f)) (ha : PA X (e :: es) t) (hn : x ≠ "__name__") (hdb : (x == ("__debug__" : Str)) = false)
    (he : starEach (e :: es) X.env = (false, eval e X.env) :: starEach es X.env) (hpl : (backTo pos (starEach es X.env)).any (·.1) = false) : PE X (.Call (.Name x p) (e :: es) [] pos) (tCB r0 t) := by
  cases f
  all_goals first
    | exact pe_callB hc hg hm hv ha hn hdb he hpl
    | exact pe_callTy hc hg hm hv ha hn hdb he hpl
theorem se_bi (ok : PrOk Γ Z) {f : Bi} {as : A} {e : Expr} (h : chkE Z C (.bi f as) e = true) (ia : ∀ l, chkA Z C as l = true → SA Γ C r wf cf as l) : SE Γ C r wf cf (.bi f as) e := by
  intro X W g tk
  simp only [chkE] at h
  split at h
  · rename_i x es hx
    obtain ⟨p, q, rfl⟩ := xCall_of hx
    simp only [Bool.and_eq_true, decide_eq_true_eq] at h
    obtain ⟨⟨⟨rfl, hg⟩, hp⟩, ha⟩ := h
    obtain ⟨g1, g2, g3⟩ := g.gl hg
    obtain ⟨e, rest, rfl, ns, nr⟩ := plainA_of hp
    obtain ⟨ta, pa, ta1⟩ := ia _ ha X W g tk
    have hm : X.mg (biN f) = none := by rw [g.mg]; exact ok.bl _ (bi_mem f)
    refine ⟨_, pe_callBi (call_bi (T := Γ.T) f g.units g.calm) g1 hm (boot_bi f) pa g3 g2 (star1 ns) (plain_args nr), fun σ H G L env S Q sl w sat => ?_⟩
    rw [evE, sat_bind] at sat
    refine ta1 σ H G L env S _ sl w (sat.imp (fun ds S1 q vs H1 L1 e1 w1 r1 => ?_) fun _ _ q => q)
    obtain ⟨d, hd, post⟩ := sat_lift q
    exact ⟨G, L1, S1, ds, d, w1, r1, hd, fun v H4 e4 w4 r4 => post v H4 L1 (Ext.trans w1 e1 e4) w4 r4⟩
  · cases h

/-! ### ranges as lists -/
theorem rngD_rep {H : Hp} {B : Addr → Prop} {L : List Addr} (a b : Int) : Reps H B L (rngD a b) (rgV a b) := by
  unfold rngD rgV
  generalize (List.range (b - a).toNat) = l
  induction l with
  | nil => exact .nil
  | cons k l ih => exact .cons (.int _) ih
theorem rngD_len (a b : Int) : (rngD a b).length = (b - a).toNat := by unfold rngD; simp
theorem rg_ok {a b : Int} (h1 : -BIG ≤ a) (h1' : a ≤ BIG) (h2 : -BIG ≤ b) (h2' : b ≤ BIG) (h : (rngD a b).length ≤ BIG) : RgOk a b := by
  rw [rngD_len] at h
  unfold BIG at *
  exact ⟨by omega, by omega, by omega, by omega, by omega⟩
theorem se_lrng (ok : PrOk Γ Z) {it : I} {e : Expr} (h : chkE Z C (.lrng it) e = true) (ia : ∀ (a : E), (it = .rng1 a ∨ ∃ b, it = .rng2 a b ∨ it = .rng2 b a) → ∀ l, chkE Z C a l = true → SE Γ C r wf cf a l) : SE Γ C r wf cf (.lrng it) e := by
  intro X W g tk
  simp only [chkE] at h
  split at h
  · rename_i x l hx
    obtain ⟨p, q, rfl⟩ := xCall_of hx
    simp only [Bool.and_eq_true, decide_eq_true_eq] at h
    obtain ⟨⟨rfl, hg⟩, hr⟩ := h
    obtain ⟨g1, g2, g3⟩ := g.gl hg
    have hm : X.mg "list" = none := by rw [g.mg]; exact ok.bl _ (by decide)
    have hm2 : X.mg "range" = none := by rw [g.mg]; exact ok.bl _ (by decide)
    cases it with
    | rng1 a =>
      simp only [chkR] at hr
      split at hr
      · rename_i y m hy
        obtain ⟨p2, q2, rfl⟩ := xCall_of hy
        simp only [Bool.and_eq_true, decide_eq_true_eq] at hr
        obtain ⟨⟨⟨rfl, hg2⟩, hs⟩, ha⟩ := hr
        obtain ⟨k1, k2, k3⟩ := g.gl hg2
        obtain ⟨ta, pa, ta1⟩ := ia a (.inl rfl) m ha X W g tk
        refine ⟨_, pe_listRg g.calm g1 hm (prg_1 k1 hm2 pa (star1 hs)) rfl, fun σ H G L env S Q sl w sat => ?_⟩
        rw [evE, sat_bind, evI, sat_bind] at sat
        refine ta1 σ H G L env S _ sl w (sat.imp (fun d S1 q x H1 L1 e1 w1 r1 => ?_) fun _ _ q => q)
        cases d <;> first | exact q.elim | skip
        rename_i n
        simp only at q
        by_cases hn : -BIG ≤ n ∧ n ≤ BIG
        · rw [if_pos hn] at q
          have q' : Sat (if (rngD 0 n).length ≤ BIG then R.ok (.list (rngD 0 n)) S1 else .stuck) (fun d S' => PostE Γ.T G L H d S' Q) (PostX Γ W σ G L H) := q
          by_cases hl : (rngD 0 n).length ≤ BIG
          · rw [if_pos hl] at q'
            rw [r1.int_inv]
            refine ⟨n, rfl, rg_ok (by unfold BIG; omega) (by unfold BIG; omega) hn.1 hn.2 hl, fun p hp => ?_⟩
            obtain ⟨e2, w2, r2⟩ := new_lst w1 hp (rngD_rep 0 n)
            exact q' _ _ L1 (Ext.trans w1 e1 e2) w2 r2
          · rw [if_neg hl] at q'
            exact q'.elim
        · rw [if_neg hn] at q
          exact q.elim
      · cases hr
    | rng2 a b =>
      simp only [chkR] at hr
      split at hr
      · rename_i y m m2 hy
        obtain ⟨p2, q2, rfl⟩ := xCall_of hy
        simp only [Bool.and_eq_true, decide_eq_true_eq] at hr
        obtain ⟨⟨⟨⟨⟨rfl, hg2⟩, hs⟩, hs2⟩, ha⟩, hb⟩ := hr
        obtain ⟨k1, k2, k3⟩ := g.gl hg2
        obtain ⟨ta, pa, ta1⟩ := ia a (.inr ⟨b, .inl rfl⟩) m ha X W g tk
        obtain ⟨tb, pb, tb1⟩ := ia b (.inr ⟨a, .inr rfl⟩) m2 hb X W g tk
        refine ⟨_, pe_listRg g.calm g1 hm (prg_2 k1 hm2 pa pb (star1 hs) (star1 hs2) (plain_args (by rw [List.all_cons, hs2]; rfl))) rfl, fun σ H G L env S Q sl w sat => ?_⟩
        rw [evE, sat_bind, evI, sat_bind] at sat
        simp only [sat_bind] at sat
        refine tl_two ta1 tb1 sl w sat fun a b S2 x y H2 L2 q e2 w2 r1 r2 => ?_
        cases a <;> first | exact q.elim | skip
        cases b <;> first | exact q.elim | skip
        rename_i i j
        simp only at q
        by_cases hn : (-BIG ≤ i ∧ i ≤ BIG) ∧ (-BIG ≤ j ∧ j ≤ BIG)
        · rw [if_pos hn] at q
          have q' : Sat (if (rngD i j).length ≤ BIG then R.ok (.list (rngD i j)) S2 else .stuck) (fun d S' => PostE Γ.T G L H d S' Q) (PostX Γ W σ G L H) := q
          by_cases hl : (rngD i j).length ≤ BIG
          · rw [if_pos hl] at q'
            rw [r1.int_inv, r2.int_inv]
            refine ⟨i, j, rfl, rfl, rg_ok hn.1.1 hn.1.2 hn.2.1 hn.2.2 hl, fun p hp => ?_⟩
            obtain ⟨e3, w3, r3⟩ := new_lst w2 hp (rngD_rep i j)
            exact q' _ _ L2 (Ext.trans w2 e2 e3) w3 r3
          · rw [if_neg hl] at q'
            exact q'.elim
        · rw [if_neg hn] at q
          exact q.elim
      · cases hr
    | _ => simp [chkR] at hr
  · cases h

/-! ### isinstance -/
theorem boot_ty (t : Ty) : bootBuiltins (tyN t) = some (.type (match t with | .int => "int" | .bool => "bool" | .str => "str" | .tuple => "tuple" | .list => "list")) := by
  cases t
  · exact PyProof.Rows.boot_int
  · exact PyProof.Rows.boot_bool
  · exact PyProof.Rows.boot_str
  · exact PyProof.Rows.boot_tuple
  · exact PyProof.Rows.boot_list
theorem ty_mem (t : Ty) : tyN t ∈ bnames := by cases t <;> decide
def tyIs (n : String) (t : Ty) : Bool := match n, t with
  | "bool", .int => true | "bool", .bool => true | "int", .int => true | "str", .str => true | "tuple", .tuple => true | "list", .list => true | _, _ => false
def tyS (t : Ty) : String := match t with | .int => "int" | .bool => "bool" | .str => "str" | .tuple => "tuple" | .list => "list"
theorem kit_all (n : String) (hn : n ∈ ["NoneType", "bool", "int", "str", "tuple", "list"]) (t : Ty) : kitB n (tyS t) = some (tyIs n t) := by
  have key : ∀ n ∈ ["NoneType", "bool", "int", "str", "tuple", "list"], ∀ t ∈ [Ty.int, Ty.bool, Ty.str, Ty.tuple, Ty.list], kitB n (tyS t) = some (tyIs n t) := by decide +kernel
  exact key n hn t (by cases t <;> simp)
theorem se_inst (ok : PrOk Γ Z) {t : Ty} {a : E} {e : Expr} (h : chkE Z C (.inst t a) e = true) (ia : ∀ l, chkE Z C a l = true → SE Γ C r wf cf a l) : SE Γ C r wf cf (.inst t a) e := by
  intro X W g tk
  simp only [chkE] at h
  split at h
  · rename_i x l rr hx
    obtain ⟨p, q, rfl⟩ := xCall_of hx
    simp only [Bool.and_eq_true, decide_eq_true_eq] at h
    obtain ⟨⟨⟨⟨rfl, hg⟩, hs⟩, ha⟩, ht⟩ := h
    obtain ⟨g1, g2, g3⟩ := g.gl hg
    split at ht
    · rename_i y hy
      obtain ⟨p2, rfl⟩ := xName_of hy
      simp only [Bool.and_eq_true, decide_eq_true_eq] at ht
      obtain ⟨rfl, hg2⟩ := ht
      obtain ⟨k1, k2, k3⟩ := g.gl hg2
      obtain ⟨ta, pa, ta1⟩ := ia l ha X W g tk
      have hm : X.mg "isinstance" = none := by rw [g.mg]; exact ok.bl _ (by decide)
      have hm2 : X.mg (tyN t) = none := by rw [g.mg]; exact ok.bl _ (ty_mem t)
      have pn : PE X (.Name (tyN t) p2) (tC (.ty (tyS t))) := pe_bltn k1 hm2 (boot_ty t) (by cases t <;> rfl) k3 k2
      refine ⟨_, pe_callB call_isi g1 hm (by decide +kernel) (pa_cons pa (pa_cons pn pa_nil rfl) (star1 hs)) g3 g2 (star1 hs) (plain_args rfl), fun σ H G L env S Q sl w sat => ?_⟩
      rw [evE, sat_bind] at sat
      refine ta1 σ H G L env S _ sl w (sat.imp (fun d S1 q x H1 L1 e1 w1 r1 => ?_) fun _ _ q => q)
      have kfin : ∀ {x' : V} {n : String}, x = x' → TyX X.K H1 x' (.type n) → kitB n (tyS t) = some (instD t d) → rIsi X.K [x, .ty (tyS t)] H1 Q := fun ex hty hk => by
        subst ex
        exact ⟨_, _, _, _, _, rfl, .ty _, hty, kit_ty hk, q _ H1 L1 e1 w1 (.bl _)⟩
      cases d with
      | none => cases r1; exact kfin rfl (.base .non) ((kit_all _ (by decide) t).trans (by cases t <;> rfl))
      | bool b => cases r1; exact kfin rfl (.base (.bl b)) ((kit_all _ (by decide) t).trans (by cases t <;> rfl))
      | int i => cases r1; exact kfin rfl (.base (.int i)) ((kit_all _ (by decide) t).trans (by cases t <;> rfl))
      | str z => cases r1; exact kfin rfl (.base (.str z)) ((kit_all _ (by decide) t).trans (by cases t <;> rfl))
      | list ds =>
        obtain ⟨a, vs, rfl, h1, _, _⟩ := r1.lst_inv
        rcases h1 with h1 | ⟨o, h1⟩
        · exact kfin rfl (.base (.lst h1)) ((kit_all _ (by decide) t).trans (by cases t <;> rfl))
        · exact kfin rfl (.base (.frz h1)) ((kit_all _ (by decide) t).trans (by cases t <;> rfl))
      | tuple ds =>
        obtain ⟨a, vs, rfl, ⟨o, h1, _⟩, _, _⟩ := r1.tup_inv
        exact kfin rfl (.fTuple h1) ((kit_all _ (by decide) t).trans (by cases t <;> rfl))
      | dict kvs =>
        cases r1 with
        | loc hk =>
          obtain ⟨vs, h1⟩ := w1.trk (List.mem_of_getElem? hk)
          exact kfin rfl (.base (.lst h1)) ((kit_all _ (by decide) t).trans (by cases t <;> rfl))
    · cases ht
  · cases h
end
end Mi

set_option Elab.async false
set_option linter.all false
set_option maxRecDepth 100000
set_option maxHeartbeats 1000000
namespace Mi
open PySem PySem.Spec PyProof.Rows L2
section
variable {Γ : Pr} {Z : Sg} {C : Ct} {r : Nat} {cf : Nat → CallF} {wf : WordF}
def iAny (K : PySem.W.Frag) (te : TE) : TI := fun σ H R => te σ H fun x H1 => (∃ a, x = .ref a ∧ (∃ xs, SqL K H1 a xs) ∧ R (Itl K a) H1) ∨ (∃ a, x = .ref a ∧ (∃ xs, SqT K H1 a xs) ∧ R (Itt K a) H1) ∨ (∃ z, x = .str z ∧ R (Its z) H1)
theorem pi_any {X : Cx} {tg l : Expr} {tl : TE} (hl : PE X l tl) : PI X tg l (iAny X.K tl) := by
  refine ⟨fun pins s σ H R I h => ?_⟩
  refine thn (hl.run pins s σ H _ I h) fun v s1 ⟨x, H1, I1, r1, q1⟩ => ?_
  rcases q1 with ⟨a, rfl, ⟨xs, hq⟩, q⟩ | ⟨a, rfl, ⟨xs, hq⟩, q⟩ | ⟨z, rfl, q⟩
  · cases r1
    obtain ⟨its, rv, p, hz⟩ := I1.list hq
    refine wpAny_pyIter_list p.isList ?_
    refine ⟨s1.heap.objs.size, [s1.heap.objs.size], _, _, H1, rfl, I1.kept (t' := s1.toks) fun b o e => Heap.get?_push_of_some _ e, turn_list a _, ⟨_, Heap.get?_push_size _ rfl, rfl, rfl⟩, fun b hb => ?_, q⟩
    have e : b = s1.heap.objs.size := by simpa using hb
    subst e
    exact I1.fpOk (Nat.le_refl _) (I1.hok.fresh (Nat.le_refl _))
  · cases r1
    obtain ⟨its, rv, p, hz⟩ := I1.tuple hq
    refine wpAny_pyIter_tuple (show s1.heap.IsTuple a its.toArray from p) ?_
    refine ⟨s1.heap.objs.size, [s1.heap.objs.size], _, _, H1, rfl, I1.kept (t' := s1.toks) fun b o e => Heap.get?_push_of_some _ e, turn_tuple a _, ⟨_, Heap.get?_push_size _ rfl, rfl, rfl⟩, fun b hb => ?_, q⟩
    have e : b = s1.heap.objs.size := by simpa using hb
    subst e
    exact I1.fpOk (Nat.le_refl _) (I1.hok.fresh (Nat.le_refl _))
  · obtain ⟨t, rfl⟩ := r1
    cases ha : z.cps.all (· < 128)
    · exact wpAny_pyIter_wide ha (pi_one (tk := s1.toks) I1 _ (turn_str _ z t "str_iterator" (.inr rfl)) ⟨_, Heap.get?_push_size _ rfl, rfl, rfl⟩ q)
    · exact wpAny_pyIter_ascii ha (pi_one (tk := s1.toks) I1 _ (turn_str _ z t "str_ascii_iterator" (.inl rfl)) ⟨_, Heap.get?_push_size _ rfl, rfl, rfl⟩ q)

section
variable {K : PySem.W.Frag} {G : Addr → Prop} {L : List Addr} {H H2 : Hp}
theorem Stands.refl : Stands G L H H := fun _ _ h _ _ => h
theorem Stands.rd {a : Addr} {vs : List V} (st : Stands G L H H2) (h : Rd H a (.lst vs)) (n : ¬ Bad G L a) : SqL K H2 a vs := by
  rcases h with h | ⟨o, h⟩
  · exact .inl (.inl (st _ _ h n (fun ps q => by cases q)))
  · exact .inl (.inr ⟨o, st _ _ h n (fun ps q => by cases q)⟩)
theorem Stands.tp {a : Addr} {vs : List V} (st : Stands G L H H2) (h : ∃ o : Obj, H a = some (.frz o (.tup vs)) ∧ o.dict = none) (n : ¬ Bad G L a) : SqT K H2 a vs := by
  obtain ⟨o, h, _⟩ := h
  exact .inl (.inr ⟨o, st _ _ h n (fun ps q => by cases q)⟩)
theorem iter_list {a : Addr} {vs : List V} {ds : List D} (h : Rd H a (.lst vs)) (n : ¬ Bad G L a) (r : Reps H (Bad G L) L ds vs) : IterOk false G L H (Itl K a) ds where
  goes := fun i H2 hi st => ⟨vs, vs[i]'(by rw [← r.length]; exact hi), st.rd h n, by simp [← r.length, hi]⟩
  stops := fun H2 st => ⟨vs, st.rd h n, by rw [r.length]; exact Nat.le_refl _⟩
  yields := fun i H2 x H3 hi st y => by
    obtain ⟨e, y⟩ := y
    obtain ⟨d, h1, h2⟩ := r.get' (y vs (st.rd h n))
    exact ⟨d, h1, e, h2⟩
theorem iter_tup {a : Addr} {vs : List V} {ds : List D} (h : ∃ o : Obj, H a = some (.frz o (.tup vs)) ∧ o.dict = none) (n : ¬ Bad G L a) (r : Reps H (Bad G L) L ds vs) : IterOk false G L H (Itt K a) ds where
  goes := fun i H2 hi st => ⟨vs, vs[i]'(by rw [← r.length]; exact hi), st.tp h n, by simp [← r.length, hi]⟩
  stops := fun H2 st => ⟨vs, st.tp h n, by rw [r.length]; exact Nat.le_refl _⟩
  yields := fun i H2 x H3 hi st y => by
    obtain ⟨e, y⟩ := y
    obtain ⟨d, h1, h2⟩ := r.get' (y vs (st.tp h n))
    exact ⟨d, h1, e, h2⟩
theorem iter_str {z : Str} (hz : z.length ≤ sizeLine) : IterOk false G L H (Its z) (signsD z) where
  goes := fun i H2 hi st => by
    show i < z.cps.size
    unfold signsD at hi
    simpa using hi
  stops := fun H2 st => by
    show z.cps.size ≤ (signsD z).length
    unfold signsD
    simp
  yields := fun i H2 x H3 hi st y => by
    obtain ⟨e, c, hc, rfl⟩ := y
    refine ⟨.str ⟨#[c]⟩, ?_, e, .str _ (by show 1 ≤ sizeLine; rw [sizeLine_eq]; omega)⟩
    unfold signsD
    rw [List.getElem?_map, Array.getElem?_toList, hc]
    rfl
theorem iter_rng (a b : Int) : IterOk false G L H (Itr a (b - a).toNat) (rngD a b) where
  goes := fun i H2 hi st => by rw [rngD_len] at hi; exact hi
  stops := fun H2 st => by rw [rngD_len]; exact Nat.le_refl _
  yields := fun i H2 x H3 hi st y => by
    obtain ⟨e, rfl⟩ := y
    refine ⟨.int (a + i), ?_, e, .int _⟩
    rw [rngD_len] at hi
    unfold rngD
    rw [List.getElem?_map, List.getElem?_range hi]
    rfl
theorem pairUp_len (a b : List D) : (pairUp a b).length = min a.length b.length := by unfold pairUp; exact List.length_zipWith
theorem pairUp_get {a b : List D} {i : Nat} {x y : D} (h1 : a[i]? = some x) (h2 : b[i]? = some y) : (pairUp a b)[i]? = some (.tuple [x, y]) := by
  unfold pairUp
  rw [List.getElem?_zipWith, h1, h2]
theorem iter_zip {a b : Addr} {vs us : List V} {ds es : List D} (h : Rd H a (.lst vs)) (n : ¬ Bad G L a) (r : Reps H (Bad G L) L ds vs) (h' : Rd H b (.lst us)) (n' : ¬ Bad G L b) (r' : Reps H (Bad G L) L es us) : IterOk true G L H (Itz K a b) (pairUp ds es) where
  goes := fun i H2 hi st => by
    rw [pairUp_len, Nat.lt_min, r.length, r'.length] at hi
    exact ⟨vs, us, vs[i]'hi.1, us[i]'hi.2, st.rd h n, st.rd h' n', by simp [hi.1], by simp [hi.2]⟩
  stops := fun H2 st => by
    refine ⟨vs, us, st.rd h n, st.rd h' n', ?_⟩
    rw [pairUp_len, ← r.length, ← r'.length]
    omega
  yields := fun i H2 x H3 hi st y => by
    obtain ⟨T, x1, y1, rfl, hT, e, y1', y2'⟩ := y
    obtain ⟨d1, h1, h2⟩ := r.get' (y1' vs (st.rd h n))
    obtain ⟨d2, h3, h4⟩ := r'.get' (y2' us (st.rd h' n'))
    exact ⟨_, pairUp_get h1 h3, T, d1, d2, x1, y1, rfl, rfl, hT, e, h2, h4⟩
theorem iter_zipT {a b : Addr} {vs us : List V} {ds es : List D} (h : ∃ o : Obj, H a = some (.frz o (.tup vs)) ∧ o.dict = none) (n : ¬ Bad G L a) (r : Reps H (Bad G L) L ds vs) (h' : ∃ o : Obj, H b = some (.frz o (.tup us)) ∧ o.dict = none) (n' : ¬ Bad G L b) (r' : Reps H (Bad G L) L es us) : IterOk true G L H (RZ.ItzT K a b) (pairUp ds es) where
  goes := fun i H2 hi st => by
    rw [pairUp_len, Nat.lt_min, r.length, r'.length] at hi
    exact ⟨vs, us, vs[i]'hi.1, us[i]'hi.2, st.tp h n, st.tp h' n', by simp [hi.1], by simp [hi.2]⟩
  stops := fun H2 st => by
    refine ⟨vs, us, st.tp h n, st.tp h' n', ?_⟩
    rw [pairUp_len, ← r.length, ← r'.length]
    omega
  yields := fun i H2 x H3 hi st y => by
    obtain ⟨T, x1, y1, rfl, hT, e, y1', y2'⟩ := y
    obtain ⟨d1, h1, h2⟩ := r.get' (y1' vs (st.tp h n))
    obtain ⟨d2, h3, h4⟩ := r'.get' (y2' us (st.tp h' n'))
    exact ⟨_, pairUp_get h1 h3, T, d1, d2, x1, y1, rfl, rfl, hT, e, h2, h4⟩
theorem enumD_len : ∀ (k : Nat) (xs : List D), (enumD k xs).length = xs.length
  | _, [] => rfl
  | k, x :: xs => by simp [enumD, enumD_len (k + 1) xs]
theorem enumD_get : ∀ {k : Nat} {xs : List D} {i : Nat} {d : D}, xs[i]? = some d → (enumD k xs)[i]? = some (.tuple [.int ((k + i : Nat) : Int), d])
  | k, [], i, d, h => by simp at h
  | k, x :: xs, 0, d, h => by
    simp at h
    subst h
    simp [enumD]
  | k, x :: xs, i + 1, d, h => by
    have := enumD_get (k := k + 1) (xs := xs) (i := i) (d := d) (by simpa using h)
    simp only [enumD, List.getElem?_cons_succ]
    rw [this]
    have e : k + 1 + i = k + (i + 1) := by omega
    rw [e]
theorem iter_enum {a : Addr} {vs : List V} {ds : List D} (h : Rd H a (.lst vs)) (n : ¬ Bad G L a) (r : Reps H (Bad G L) L ds vs) : IterOk true G L H (Ite K a) (enumD 0 ds) where
  goes := fun i H2 hi st => by
    rw [enumD_len, r.length] at hi
    exact ⟨vs, vs[i]'hi, st.rd h n, by simp [hi]⟩
  stops := fun H2 st => ⟨vs, st.rd h n, by rw [enumD_len, r.length]; exact Nat.le_refl _⟩
  yields := fun i H2 x H3 hi st y => by
    obtain ⟨T, x1, rfl, hT, e, y1⟩ := y
    obtain ⟨d, h1, h2⟩ := r.get' (y1 vs (st.rd h n))
    refine ⟨_, enumD_get h1, T, .int ((0 + i : Nat) : Int), d, .int (i : Nat), x1, rfl, rfl, hT, e, ?_, h2⟩
    rw [Nat.zero_add]
    exact .int _
end

/-! ### enumerate of a tuple -/
def IteT (K : PySem.W.Frag) (a : Addr) : It :=
  ⟨fun i H => ∃ (xs : List V) (x : V), SqT K H a xs ∧ xs[i]? = some x, fun i H v H' => ∃ T x, v = .ref T ∧ H T = none ∧ H' = upd H T (.tup [.int (i : Nat), x]) ∧ ∀ xs, SqT K H a xs → xs[i]? = some x, fun i H => ∃ xs : List V, SqT K H a xs ∧ xs.length = i⟩
theorem iter_enumT {K : PySem.W.Frag} {G : Addr → Prop} {L : List Addr} {H : Hp} {a : Addr} {vs : List V} {ds : List D} (h : ∃ o : Obj, H a = some (.frz o (.tup vs)) ∧ o.dict = none) (n : ¬ Bad G L a) (r : Reps H (Bad G L) L ds vs) : IterOk true G L H (IteT K a) (enumD 0 ds) where
  goes := fun i H2 hi st => by
    rw [enumD_len, r.length] at hi
    exact ⟨vs, vs[i]'hi, st.tp h n, by simp [hi]⟩
  stops := fun H2 st => ⟨vs, st.tp h n, by rw [enumD_len, r.length]⟩
  yields := fun i H2 x H3 hi st y => by
    obtain ⟨T, x1, rfl, hT, e, y1⟩ := y
    obtain ⟨d, h1, h2⟩ := r.get' (y1 vs (st.tp h n))
    refine ⟨_, enumD_get h1, T, .int ((0 + i : Nat) : Int), d, .int (i : Nat), x1, rfl, rfl, hT, e, ?_, h2⟩
    rw [Nat.zero_add]
    exact .int _
theorem meets_enumerate_newT (l : Addr) (items : Array Value) (n : Nat) (dct : Option Addr) (sl : Array (Option Value)) :
    Meets (Builtin.«enumerate.__new__» ⟨[.type "enumerate", .ref l], []⟩) (fun _ R s => s.heap.get? l = some { cls := .type "tuple", dict := dct, data := .seq items n, slots := sl } ∧
      R (.ok (.ret (.ref (s.heap.push { cls := .type "tuple_iterator", data := .fields #[.ref l, .int 0 0] }).objs.size)))
        { s with heap := (s.heap.push { cls := .type "tuple_iterator", data := .fields #[.ref l, .int 0 0] }).push { cls := .type "enumerate", data := .fields #[.none, .bool false, .ref s.heap.objs.size, rawInt 0, .none, .none] } }) :=
  .of_wp fun prog w A R s h => by
    obtain ⟨hp, g, d, tk, os⟩ := s; obtain ⟨hl, h⟩ := h
    have hsub := sub_enumerate
    have hL : Heap.IsTuple (Shared.heap ⟨hp, g, d, tk, os⟩) l items := ⟨_, hl, rfl, n, rfl⟩
    wp_walk using AutoSeq1.wpAny_loadPart' hl
    refine wpAny_stack_any fun st => wpAny_pure ?_
    split
    · rename_i c _ _ _ _ _
      cases (c == Value.type "enumerate")
      · wp_walk using AutoSeq1.wpAny_loadPart' hl, wpAny_pyIter_tuple hL
        exact ⟨_, rfl, h⟩
      · wp_walk using AutoSeq1.wpAny_loadPart' hl, wpAny_pyIter_tuple hL
        exact ⟨_, rfl, h⟩
    · wp_walk using AutoSeq1.wpAny_loadPart' hl, wpAny_pyIter_tuple hL
      exact ⟨_, rfl, h⟩
theorem call_enumerate_tuple {prog : Program} {w : World} {A : Around} {E : Value → Shared → Prop} {s : Shared} {l : Addr} {items : Array Value} {Q : Value → Shared → Prop} (hL : s.heap.IsTuple l items)
    (h : ∀ h', IsEnum h' (s.heap.objs.size + 1) s.heap.objs.size 0 .none → h'.IsTupleIter s.heap.objs.size l 0 → h'.objs.size = s.heap.objs.size + 2 →
      (∀ b o, s.heap.get? b = some o → h'.get? b = some o) → Q (.ref (s.heap.objs.size + 1)) { s with heap := h' }) :
    wpAny (model prog w) A (call (.type "enumerate") [.ref l]) Q E s := by
  obtain ⟨⟨c, dct, dt, sl⟩, hl, hc, n, hd⟩ := hL
  replace hc : c = .type "tuple" := hc
  replace hd : dt = .seq items n := hd
  subst hc hd
  refine callType_new F.called_enumerate (by decide) (F.typeCall_enumerate_1 _) (F.newCall_enumerate_1 _) (fun obj => F.args_object_init_2 obj _) F.entry_enumerate_new
    (meets_enumerate_newT l items n dct sl) ⟨hl, ?_⟩
  have hz : (s.heap.push { cls := .type "tuple_iterator", data := .fields #[.ref l, .int 0 0] }).objs.size = s.heap.objs.size + 1 := Heap.size_push ..
  show _ ∧ _
  rw [hz]
  have he : IsEnum ((s.heap.push { cls := .type "tuple_iterator", data := .fields #[.ref l, .int 0 0] }).push
      { cls := .type "enumerate", data := .fields #[.none, .bool false, .ref s.heap.objs.size, rawInt 0, .none, .none] }) (s.heap.objs.size + 1) s.heap.objs.size 0 .none := by
    have := Heap.get?_push_size (s.heap.push { cls := .type "tuple_iterator", data := .fields #[.ref l, .int 0 0] })
      (o := { cls := .type "enumerate", data := .fields #[.none, .bool false, .ref s.heap.objs.size, rawInt 0, .none, .none] }) rfl
    rw [hz] at this; exact this
  refine ⟨⟨_, he, rfl⟩, h _ he ⟨_, Heap.get?_push_of_some _ (Heap.get?_push_size _ rfl), rfl, rfl⟩ (by rw [Heap.size_push, hz]) fun b o x => Heap.get?_push_of_some _ (Heap.get?_push_of_some _ x)⟩
theorem turn_enumT {P : Program} {w : World} {K : PySem.W.Frag} {elts : List Expr} {kk : Nat} {tpos : Pos} (a e it : Addr) :
    Turn P w K (.Tuple elts kk tpos) (IteT K a) [e, it] e (fun i h => (∃ old, IsEnum h e it ((i : Nat) : Int) old) ∧ h.IsTupleIter it a i ∧ e ≠ it) where
  mem := by simp
  obj := fun i h st b hb => by
    obtain ⟨⟨old, he⟩, ⟨o, ho, hc, hd⟩, _⟩ := st
    have e' : b = e ∨ b = it := by simpa using hb
    rcases e' with z | z
    · rw [z]; exact ⟨_, he, fun v q => nomatch q⟩
    · rw [z]; exact ⟨o, ho, fun v q => by rw [hd] at q; cases q⟩
  keep := fun i h h' st k => let ⟨⟨old, he⟩, hi, hne⟩ := st; ⟨⟨old, k e (by simp) _ he⟩, hi.at fun o q => k it (by simp) o q, hne⟩
  item := by
    intro X hP hw hK hc i pins s σ H E I hf st hg
    subst hP hw hK
    obtain ⟨⟨old, he⟩, hit, hne⟩ := st
    obtain ⟨xs, x, hq, hx⟩ := hg
    obtain ⟨its, rv, p, hz⟩ := I.tuple hq
    have p : s.heap.IsTuple a its.toArray := p
    have hel : e < s.heap.objs.size := Heap.lt_size he
    have hil : it < s.heap.objs.size := by obtain ⟨_, q, _⟩ := hit; exact Heap.lt_size q
    have ha : a ≠ it := fun z => by
      obtain ⟨o1, q1, q2, q3, q4⟩ := id p
      obtain ⟨o2, q5, q6, _⟩ := id hit
      rw [z, q5] at q1
      cases q1
      have q7 := q2.symm.trans q6
      injection q7 with q8
      exact absurd q8 (by decide)
    have hea : e ≠ a := fun z => by
      obtain ⟨o1, q1, q2, q3, q4⟩ := id p
      have q5 : s.heap.get? e = some _ := he
      rw [z, q1] at q5
      cases q5
      injection q2 with q8
      exact absurd q8 (by decide)
    refine wpAny_pyNext_enum_itemD (Draws.tuple (A := X.A.in1) (I.ok.hd hc) it a ha its.toArray) he ⟨hit, p⟩ (by
      have := (List.getElem?_eq_some_iff.mp hx).1
      rw [List.size_toArray, ← rv.length]; exact this) hne (by simp; exact ⟨hne, hea⟩) fun u h' tk hu ho hst hT hsz hk => ?_
    obtain ⟨u', hu', ru⟩ := rv.get hx
    have eu : u = u' := by
      have hu2 : its.toArray[i]? = some u := hu
      rw [List.getElem?_toArray, hu'] at hu2
      exact (Option.some.inj hu2).symm
    subst eu
    refine ⟨_, rfl, wpAny_letOwnedTupleGo_enum (s := { s with heap := h', toks := tk + 1 }) ho fun h'' he' sb => ?_⟩
    have hT2 : h''.get? s.heap.objs.size = some { cls := .type "tuple", data := .seq #[.int i tk, u] } := (sb.2 _ (Nat.ne_of_gt hel)).trans hT
    have new : ObjOk X.prog X.w (upd H s.heap.objs.size (.tup [.int (i : Nat), x])) h'' s.heap.objs.size (.tup [.int (i : Nat), x]) :=
      ⟨by show 2 ≤ sizeLine; decide, [.int i tk, u], .cons ⟨_, rfl⟩ (.cons ru .nil), ⟨_, hT2, rfl, _, rfl⟩⟩
    have I1 : Inv X pins σ (upd H s.heap.objs.size (.tup [.int (i : Nat), x])) { s with heap := h'', toks := tk + 1 } :=
      I.turnedNew (ch := [e, it]) (fun b ob hb q => (sb.2 b (fun z => hb (by simp [z]))).trans (hk b ob (fun z => hb (by simp [z])) (fun z => hb (by simp [z])) q)) hf (Nat.le_refl _) new
    refine ⟨.ref s.heap.objs.size, _, I1, rfl, ⟨_, x, rfl, I.hok.fresh (Nat.le_refl _), rfl, fun ys hy => by rw [I.tuple_inj hy hq]; exact hx⟩, ⟨⟨u, ?_⟩, hst.1.at fun o q => (sb.2 it (Ne.symm hne)).trans q, hne⟩, fun b hb => ?_⟩
    · have e1 : ((i + 1 : Nat) : Int) = (i : Int) + 1 := by omega
      rw [e1]; exact he'
    · have hb' : b < s.heap.objs.size := by
        have e' : b = e ∨ b = it := by simpa using hb
        rcases e' with z | z
        · rw [z]; exact hel
        · rw [z]; exact hil
      rw [upd_ne (Nat.ne_of_lt hb')]
      exact (hf b hb).1
  done := by
    intro X hP hw hK hc i pins s σ H E I hf st hg
    subst hP hw hK
    obtain ⟨⟨old, he⟩, hit, hne⟩ := st
    obtain ⟨xs, hq, hx⟩ := hg
    obtain ⟨its, rv, p, hz⟩ := I.tuple hq
    obtain ⟨f0, f1, f2, f3, f4, f5⟩ := hf it (by simp)
    have p : s.heap.IsTuple a its.toArray := p
    have ha : a ≠ it := fun z => by
      obtain ⟨o1, q1, q2, q3, q4⟩ := id p
      obtain ⟨o2, q5, q6, _⟩ := id hit
      rw [z, q5] at q1
      cases q1
      have q7 := q2.symm.trans q6
      injection q7 with q8
      exact absurd q8 (by decide)
    have hn : its.toArray.size = i := by rw [List.size_toArray, ← rv.length]; exact hx
    subst hn
    exact wpAny_pyNext_enum_endD (Draws.tuple (A := X.A.in1) (I.ok.hd hc) it a ha its.toArray) he ⟨hit, p⟩ fun h' eb => ⟨rfl, I.turned (t' := s.toks) (fun b o hb q => eb b o hb q) f0 f1 f3 f4 f5⟩
  self := fun A i s Q E st h => let ⟨⟨_, he⟩, _⟩ := st; wpAny_pyIter_enum he h
end
end Mi

set_option Elab.async false
set_option linter.all false
set_option maxRecDepth 100000
set_option maxHeartbeats 1000000
namespace Mi
open PySem PySem.Spec PyProof.Rows L2
section
variable {Γ : Pr} {Z : Sg} {C : Ct} {r : Nat} {cf : Nat → CallF} {wf : WordF}
def iEnumA (K : PySem.W.Frag) (ta : TA) : TI := fun σ H R => ta σ H fun vs H1 => ∃ a, vs = [.ref a] ∧ ((∃ xs, SqL K H1 a xs ∧ R (Ite K a) H1) ∨ (∃ xs, SqT K H1 a xs ∧ R (IteT K a) H1))
theorem pi_enumA {X : Cx} {e : Expr} {ta : TA} {p pos tpos : Pos} {elts : List Expr} {kk : Nat} (hg : Gl X "enumerate") (hm : X.mg "enumerate" = none) (ha : PA X [e] ta) (hs : starEach [e] X.env = [(false, eval e X.env)]) :
    PI X (.Tuple elts kk tpos) (.Call (.Name "enumerate" p) [e] [] pos) (iEnumA X.K ta) := by
  refine ⟨fun pins s σ H R I h => ?_⟩
  refine Call_ (ld_blt I hg hm boot_enumerate (PyProof.Rows.callWith_type1 (thn (ha.run pos pins s σ H _ I h) fun us s1 ⟨vs, H1, I1, r1, q1⟩ => ?_) hs rfl))
  obtain ⟨a, ex, q⟩ := q1
  subst ex
  cases r1 with
  | cons r rr =>
    cases rr
    cases r
    have fin : ∀ {b : Addr}, b ∈ [s1.heap.objs.size + 1, s1.heap.objs.size] → FpOk X pins H1 b → True := fun _ _ => trivial
    have fp : ∀ b ∈ [s1.heap.objs.size + 1, s1.heap.objs.size], FpOk X pins H1 b := fun b hb => by
      have e' : b = s1.heap.objs.size + 1 ∨ b = s1.heap.objs.size := by simpa using hb
      have hle : s1.heap.objs.size ≤ b := by
        rcases e' with z | z
        · rw [z]; exact Nat.le_add_right _ _
        · rw [z]; exact Nat.le_refl _
      exact I1.fpOk hle (I1.hok.fresh hle)
    rcases q with ⟨xs, hq, q⟩ | ⟨xs, hq, q⟩
    · obtain ⟨its, rv, p', hz⟩ := I1.list hq
      refine call_enumerate_list p'.isList fun h' he hit hsz hk => wpAny_pyIter_enum he ?_
      have I2 : Inv X pins σ H1 { s1 with heap := h' } := I1.kept (t' := s1.toks) hk
      exact ⟨s1.heap.objs.size + 1, [s1.heap.objs.size + 1, s1.heap.objs.size], _, _, H1, rfl, I2, turn_enum a (s1.heap.objs.size + 1) s1.heap.objs.size, ⟨⟨.none, he⟩, hit, Nat.succ_ne_self _⟩, fp, q⟩
    · obtain ⟨its, rv, p', hz⟩ := I1.tuple hq
      refine call_enumerate_tuple (show s1.heap.IsTuple a its.toArray from p') fun h' he hit hsz hk => wpAny_pyIter_enum he ?_
      have I2 : Inv X pins σ H1 { s1 with heap := h' } := I1.kept (t' := s1.toks) hk
      exact ⟨s1.heap.objs.size + 1, [s1.heap.objs.size + 1, s1.heap.objs.size], _, _, H1, rfl, I2, turn_enumT a (s1.heap.objs.size + 1) s1.heap.objs.size, ⟨⟨.none, he⟩, hit, Nat.succ_ne_self _⟩, fp, q⟩
theorem si_val {a : E} {e : Expr} (h : chkI Z C (.val a) e = true) (ia : ∀ l, chkE Z C a l = true → SE Γ C r wf cf a l) : SI Γ C r wf cf (.val a) e := by
  intro X W tg g tk _
  simp only [chkI] at h
  obtain ⟨ta, pa, ta1⟩ := ia e h X W g tk
  refine ⟨_, pi_any pa, fun σ H G L env S R sl w sat => ?_⟩
  rw [evI, sat_bind] at sat
  refine ta1 σ H G L env S _ sl w (sat.imp (fun d S1 q x H1 L1 e1 w1 r1 => ?_) fun _ _ q => q)
  obtain ⟨xs, hx, post⟩ := sat_lift q
  cases d with
  | list ds =>
    simp only [iterD, Option.some.injEq] at hx
    subst hx
    obtain ⟨a, vs, rfl, h1, n1, r2⟩ := r1.lst_inv
    exact .inl ⟨a, rfl, ⟨vs, .inl h1⟩, post _ H1 L1 e1 w1 (iter_list h1 n1 r2)⟩
  | tuple ds =>
    simp only [iterD, Option.some.injEq] at hx
    subst hx
    obtain ⟨a, vs, rfl, h1, n1, r2⟩ := r1.tup_inv
    exact .inr (.inl ⟨a, rfl, ⟨vs, sqT h1⟩, post _ H1 L1 e1 w1 (iter_tup h1 n1 r2)⟩)
  | str z =>
    simp only [iterD, Option.some.injEq] at hx
    subst hx
    obtain ⟨rfl, hz⟩ := r1.str_inv
    exact .inr (.inr ⟨z, rfl, post _ H1 L1 e1 w1 (iter_str hz)⟩)
  | _ => simp [iterD] at hx
theorem si_rng1 (ok : PrOk Γ Z) {a : E} {e : Expr} (h : chkI Z C (.rng1 a) e = true) (ia : ∀ l, chkE Z C a l = true → SE Γ C r wf cf a l) : SI Γ C r wf cf (.rng1 a) e := by
  intro X W tg g tk _
  simp only [chkI] at h
  split at h
  · rename_i x l hx
    obtain ⟨p, q, rfl⟩ := xCall_of hx
    simp only [Bool.and_eq_true, decide_eq_true_eq] at h
    obtain ⟨⟨⟨rfl, hg⟩, hs⟩, ha⟩ := h
    obtain ⟨g1, g2, g3⟩ := g.gl hg
    have hm : X.mg "range" = none := by rw [g.mg]; exact ok.bl _ (by decide)
    obtain ⟨ta, pa, ta1⟩ := ia l ha X W g tk
    refine ⟨_, pi_range1 g1 hm (pa_cons pa pa_nil (star1 hs)) (star1 hs), fun σ H G L env S R sl w sat => ?_⟩
    rw [evI, sat_bind] at sat
    refine ta1 σ H G L env S _ sl w (sat.imp (fun d S1 q x H1 L1 e1 w1 r1 => ?_) fun _ _ q => q)
    cases d <;> first | exact q.elim | skip
    rename_i n
    simp only at q
    by_cases hn : -BIG ≤ n ∧ n ≤ BIG
    · rw [if_pos hn] at q
      rw [r1.int_inv]
      have it := iter_rng (G := G) (L := L1) (H := H1) 0 n
      rw [Int.sub_zero] at it
      exact ⟨n, rfl, by unfold BIG at hn; omega, by unfold BIG at hn; omega, q _ H1 L1 e1 w1 it⟩
    · rw [if_neg hn] at q
      exact q.elim
  · cases h
theorem si_rng2 (ok : PrOk Γ Z) {a b : E} {e : Expr} (h : chkI Z C (.rng2 a b) e = true) (ia : ∀ l, chkE Z C a l = true → SE Γ C r wf cf a l) (ib : ∀ l, chkE Z C b l = true → SE Γ C r wf cf b l) : SI Γ C r wf cf (.rng2 a b) e := by
  intro X W tg g tk _
  simp only [chkI] at h
  split at h
  · rename_i x l rr hx
    obtain ⟨p, q, rfl⟩ := xCall_of hx
    simp only [Bool.and_eq_true, decide_eq_true_eq] at h
    obtain ⟨⟨⟨⟨⟨rfl, hg⟩, hs⟩, hs2⟩, ha⟩, hb⟩ := h
    obtain ⟨g1, g2, g3⟩ := g.gl hg
    have hm : X.mg "range" = none := by rw [g.mg]; exact ok.bl _ (by decide)
    obtain ⟨ta, pa, ta1⟩ := ia l ha X W g tk
    obtain ⟨tb, pb, tb1⟩ := ib rr hb X W g tk
    refine ⟨_, pi_range2 g1 hm (pa_cons pa (pa_cons pb pa_nil (star1 hs2)) (star1 hs)) (by rw [star1 hs, star1 hs2]; rfl) (star1 hs2), fun σ H G L env S R sl w sat => ?_⟩
    rw [evI, sat_bind] at sat
    simp only [sat_bind] at sat
    refine tl_two ta1 tb1 sl w sat fun a b S2 x y H2 L2 q e2 w2 r1 r2 => ?_
    cases a <;> first | exact q.elim | skip
    cases b <;> first | exact q.elim | skip
    rename_i i j
    simp only at q
    by_cases hn : (-BIG ≤ i ∧ i ≤ BIG) ∧ (-BIG ≤ j ∧ j ≤ BIG)
    · rw [if_pos hn] at q
      rw [r1.int_inv, r2.int_inv]
      exact ⟨i, j, rfl, by unfold BIG at hn; omega, q _ H2 L2 e2 w2 (iter_rng i j)⟩
    · rw [if_neg hn] at q
      exact q.elim
  · cases h
theorem si_enum (ok : PrOk Γ Z) {a : E} {e : Expr} (h : chkI Z C (.enum a) e = true) (ia : ∀ l, chkE Z C a l = true → SE Γ C r wf cf a l) : SI Γ C r wf cf (.enum a) e := by
  intro X W tg g tk hp
  obtain ⟨es, k, p0, rfl⟩ := hp rfl
  simp only [chkI] at h
  split at h
  · rename_i x l hx
    obtain ⟨p, q, rfl⟩ := xCall_of hx
    simp only [Bool.and_eq_true, decide_eq_true_eq] at h
    obtain ⟨⟨⟨rfl, hg⟩, hs⟩, ha⟩ := h
    obtain ⟨g1, g2, g3⟩ := g.gl hg
    have hm : X.mg "enumerate" = none := by rw [g.mg]; exact ok.bl _ (by decide)
    obtain ⟨ta, pa, ta1⟩ := ia l ha X W g tk
    refine ⟨_, pi_enumA g1 hm (pa_cons pa pa_nil (star1 hs)) (star1 hs), fun σ H G L env S R sl w sat => ?_⟩
    rw [evI, sat_bind] at sat
    refine ta1 σ H G L env S _ sl w (sat.imp (fun d S1 q x H1 L1 e1 w1 r1 => ?_) fun _ _ q => q)
    rw [sat_bind] at q
    obtain ⟨xs, hx, post⟩ := sat_lift q
    cases d with
    | list ds =>
      simp only [itemsD, Option.some.injEq] at hx
      subst hx
      obtain ⟨a, vs, rfl, h1, n1, r2⟩ := r1.lst_inv
      exact ⟨a, rfl, .inl ⟨vs, .inl h1, post _ H1 L1 e1 w1 (iter_enum h1 n1 r2)⟩⟩
    | tuple ds =>
      simp only [itemsD, Option.some.injEq] at hx
      subst hx
      obtain ⟨a, vs, rfl, h1, n1, r2⟩ := r1.tup_inv
      exact ⟨a, rfl, .inr ⟨vs, sqT h1, post _ H1 L1 e1 w1 (iter_enumT h1 n1 r2)⟩⟩
    | _ => simp [itemsD] at hx
  · cases h
theorem si_zip (ok : PrOk Γ Z) {a b : E} {e : Expr} (h : chkI Z C (.zip a b) e = true) (ia : ∀ l, chkE Z C a l = true → SE Γ C r wf cf a l) (ib : ∀ l, chkE Z C b l = true → SE Γ C r wf cf b l) : SI Γ C r wf cf (.zip a b) e := by
  intro X W tg g tk hp
  obtain ⟨es, k, p0, rfl⟩ := hp rfl
  simp only [chkI] at h
  split at h
  · rename_i x l rr hx
    obtain ⟨p, q, rfl⟩ := xCall_of hx
    simp only [Bool.and_eq_true, decide_eq_true_eq] at h
    obtain ⟨⟨⟨⟨⟨rfl, hg⟩, hs⟩, hs2⟩, ha⟩, hb⟩ := h
    obtain ⟨g1, g2, g3⟩ := g.gl hg
    have hm : X.mg "zip" = none := by rw [g.mg]; exact ok.bl _ (by decide)
    obtain ⟨ta, pa, ta1⟩ := ia l ha X W g tk
    obtain ⟨tb, pb, tb1⟩ := ib rr hb X W g tk
    refine ⟨_, RZ.pi_zipA g1 hm (pa_cons pa (pa_cons pb pa_nil (star1 hs2)) (star1 hs)) (star1 hs) (plain_args (by rw [List.all_cons, hs2]; rfl)), fun σ H G L env S R sl w sat => ?_⟩
    rw [evI, sat_bind] at sat
    simp only [sat_bind] at sat
    refine tl_two ta1 tb1 sl w sat fun a b S2 x y H2 L2 q e2 w2 r1 r2 => ?_
    cases a <;> first | exact q.elim | skip
    · cases b <;> first | exact q.elim | skip
      obtain ⟨a, vs, rfl, h1, n1, q1⟩ := r1.lst_inv
      obtain ⟨b, us, rfl, h2, n2, q2⟩ := r2.lst_inv
      exact ⟨a, b, vs, us, rfl, .inl ⟨.inl h1, .inl h2, q _ H2 L2 e2 w2 (iter_zip h1 n1 q1 h2 n2 q2)⟩⟩
    · cases b <;> first | exact q.elim | skip
      obtain ⟨a, vs, rfl, h1, n1, q1⟩ := r1.tup_inv
      obtain ⟨b, us, rfl, h2, n2, q2⟩ := r2.tup_inv
      exact ⟨a, b, vs, us, rfl, .inr ⟨sqT h1, sqT h2, q _ H2 L2 e2 w2 (iter_zipT h1 n1 q1 h2 n2 q2)⟩⟩
  · cases h

/-! ### targets -/
/-- names one after another, from the slots σ with the data env -/
def gNames : List Nat → TGs
  | [] => gNil
  | i :: is => gCons (gName i) (gNames is)
theorem Good.loc {X : Cx} (g : Good Γ r C X) {i : Nat} {x : Str} {p : Pos} (h : locB C i x = true) : PG X (.Name x p) (gName i) := by
  unfold locB at h
  simp only [Bool.and_eq_true, decide_eq_true_eq] at h
  obtain ⟨h1, h2⟩ := h
  have hn : X.N.Nodup := by rw [g.N]; exact g.nd
  have hi : X.N[i]? = some x := by rw [g.N]; exact h1
  split at h2
  · rename_i k
    exact pg_name hn hi (.inl (by rw [g.sc]; exact k)) (.inr (by rw [g.sc]; exact k))
  · rename_i k
    exact pg_name hn hi (.inr (by rw [g.sc]; exact k)) (.inl (by rw [g.fn]; exact h2))
  · cases h2
theorem pgs_names {X : Cx} (g : Good Γ r C X) : ∀ {is : List Nat} {es : List Expr}, chkNames C is es = true → PGs X es (gNames is) ∧ (assignEach es X.env).length = is.length ∧ (assignEach es X.env).findIdx? (·.1) = none
  | [], [], _ => ⟨pgs_nil, rfl, rfl⟩
  | [], _ :: _, h => by simp [chkNames] at h
  | _ :: _, [], h => by simp [chkNames] at h
  | i :: is, e :: es, h => by
    simp only [chkNames, Bool.and_eq_true] at h
    obtain ⟨h1, h2⟩ := h
    obtain ⟨a, b, c⟩ := pgs_names g h2
    split at h1
    · rename_i x hx
      obtain ⟨p, rfl⟩ := xName_of hx
      refine ⟨pgs_cons (g.loc h1) a rfl, ?_, ?_⟩
      · show (assignEach es X.env).length + 1 = is.length + 1
        rw [b]
      · show ((false, _) :: assignEach es X.env).findIdx? (·.1) = none
        rw [List.findIdx?_cons]
        simp [c]
    · cases h1
end
end Mi

set_option Elab.async false
set_option linter.all false
set_option maxRecDepth 100000
set_option maxHeartbeats 1000000
namespace Mi
open PySem PySem.Spec PyProof.Rows L2
section
variable {Γ : Pr} {Z : Sg} {C : Ct} {r : Nat} {cf : Nat → CallF} {wf : WordF}
theorem SE.uni {a : E} {e : Expr} (h : SE Γ C r wf cf a e) (W : WX) : ∃ t, (∀ X, Good Γ r C X → Takes X W → PE X e t) ∧ TlE Γ W t (evE wf cf a) :=
  ⟨fun σ H Q => ∀ X (g : Good Γ r C X) (tk : Takes X W), Classical.choose (h X W g tk) σ H Q,
    fun X g tk => ⟨fun pins s σ H Q I hq => (Classical.choose_spec (h X W g tk)).1.run pins s σ H Q I (hq X g tk)⟩,
    fun σ H G L env S Q sl w sat X g tk => (Classical.choose_spec (h X W g tk)).2 σ H G L env S Q sl w sat⟩
theorem SB.uni {a : B} {e : Expr} (h : SB Γ C r wf cf a e) (W : WX) : ∃ t, (∀ X, Good Γ r C X → Takes X W → PT X e t) ∧ TlB Γ W t (evB wf cf a) :=
  ⟨fun σ H Q => ∀ X (g : Good Γ r C X) (tk : Takes X W), Classical.choose (h X W g tk) σ H Q,
    fun X g tk => ⟨fun pins s σ H Q I hq => (Classical.choose_spec (h X W g tk)).1.run pins s σ H Q I (hq X g tk)⟩,
    fun σ H G L env S Q sl w sat X g tk => (Classical.choose_spec (h X W g tk)).2 σ H G L env S Q sl w sat⟩
theorem SI.uni {a : I} {e tg : Expr} (h : SI Γ C r wf cf a e) (W : WX) (hp : isPair a = true → ∃ es k p, tg = .Tuple es k p) : ∃ t, (∀ X, Good Γ r C X → Takes X W → PI X tg e t) ∧ TlI Γ W (isPair a) t (evI wf cf a) :=
  ⟨fun σ H Q => ∀ X (g : Good Γ r C X) (tk : Takes X W), Classical.choose (h X W tg g tk hp) σ H Q,
    fun X g tk => ⟨fun pins s σ H Q I hq => (Classical.choose_spec (h X W tg g tk hp)).1.run pins s σ H Q I (hq X g tk)⟩,
    fun σ H G L env S Q sl w sat X g tk => (Classical.choose_spec (h X W tg g tk hp)).2 σ H G L env S Q sl w sat⟩

theorem Good.blk {X : Cx} (g : Good Γ r C X) (s : Shared) (H : Hp) (scope : Scope) (c : Addr) (cl : List (Str × Addr)) (fp : List Addr) : Good Γ r (blkCt C scope) (X.blk s H scope (compEnvC scope cl c X.env) fp) :=
  ⟨g.prog, g.w, g.K, g.mg, g.base, g.N, g.nd, by
    show relS scope X.env.scope = relS scope C.sc
    rw [g.sc], g.calm, g.room, rfl, g.lam⟩

/-! ### guards -/
section
variable {T : Tb} {G G' : Addr → Prop} {L : List Addr} {H : Hp} {S : Store} {p : Addr}
theorem kp_mono (h : ∀ a, G' a → G a) : Kp H (Bad G L) L H (Bad G' L) L := ⟨fun a o q _ _ => q, fun a o q _ z => z.elim (fun z => .inl (h a z)) .inr, fun _ _ q => q⟩
theorem WS.less (w : WS T G L H S) (h : ∀ a, G' a → G a) : WS T G' L H S :=
  ⟨fun k ds q => by
    obtain ⟨a, vs, h1, h2, h3⟩ := w.sto k ds q
    exact ⟨a, vs, h1, h2, h3.kp (kp_mono h)⟩, w.len, w.nd, fun a ha q => w.dis a ha (h a q), fun a q => w.gt a (h a q), w.tab⟩
/-- a new list that is guarded from now on -/
theorem kp_guard {vs : List V} (h : H p = none) : Kp H (Bad G L) L (upd H p (.lst vs)) (Bad (fun a => G a ∨ a = p) L) L :=
  ⟨fun a o q _ _ => by rw [upd_ne (ne_of_none q h)]; exact q, fun a o q _ z => by
    rcases z with (z | z) | z
    · exact .inl z
    · rw [z, h] at q; cases q
    · exact .inr z, fun _ _ q => q⟩
theorem WS.guard {vs : List V} (w : WS T G L H S) (h : H p = none) : WS T (fun a => G a ∨ a = p) L (upd H p (.lst vs)) S := by
  refine ⟨fun k ds q => ?_, w.len, w.nd, fun a ha q => ?_, fun a q => ?_, w.tab.ext fun a u e => by rw [upd_ne (ne_of_none e h)]; exact e⟩
  · obtain ⟨a, us, h1, h2, h3⟩ := w.sto k ds q
    exact ⟨a, us, h1, by rw [upd_ne (ne_of_none h2 h)]; exact h2, h3.kp (kp_guard h)⟩
  · rcases q with q | q
    · exact w.dis a ha q
    · subst q
      obtain ⟨us, q⟩ := w.trk ha
      rw [h] at q; cases q
  · rcases q with q | q
    · obtain ⟨us, q'⟩ := w.gt a q
      exact ⟨us, by rw [upd_ne (ne_of_none q' h)]; exact q'⟩
    · subst q
      exact ⟨vs, upd_same⟩
/-- a guarded list is written -/
theorem kp_wr {vs : List V} (h : G p) : Kp H (Bad G L) L (upd H p (.lst vs)) (Bad G L) L :=
  ⟨fun a o q n _ => by rw [upd_ne (fun z => n (.inl (by rw [z]; exact h)))]; exact q, fun _ _ _ _ z => z, fun _ _ q => q⟩
theorem WS.wr {vs : List V} (w : WS T G L H S) (h : G p) : WS T G L (upd H p (.lst vs)) S := by
  refine ⟨fun k ds q => ?_, w.len, w.nd, w.dis, fun a q => ?_, fun q hq => ?_⟩
  · obtain ⟨a, us, h1, h2, h3⟩ := w.sto k ds q
    have hap : a ≠ p := fun z => w.dis a (List.mem_of_getElem? h1) (by rw [z]; exact h)
    exact ⟨a, us, h1, by rw [upd_ne hap]; exact h2, h3.kp (kp_wr h)⟩
  · by_cases hap : a = p
    · subst hap; exact ⟨vs, upd_same⟩
    · obtain ⟨us, q'⟩ := w.gt a q
      exact ⟨us, by rw [upd_ne hap]; exact q'⟩
  · obtain ⟨us, hp⟩ := w.gt p h
    have np : q.1 ≠ p := fun z => by
      obtain ⟨ps, h1, _⟩ := w.tab q hq
      rw [z, hp] at h1; cases h1
    obtain ⟨ps, h1, h2, h3⟩ := w.tab q hq
    refine ⟨ps, by rw [upd_ne np]; exact h1, h2, fun pos cv hc => ?_⟩
    obtain ⟨c, e1, e2⟩ := h3 pos cv hc
    refine ⟨c, e1, ?_⟩
    rw [upd_ne (fun z => by rw [z, hp] at e2; unfold LamX.CodeO at e2; cases e2)]
    exact e2
end
theorem Kp.sl {G G' : Addr → Prop} {L : List Addr} {H H' : Hp} {σ : L2.St} {env : Env} (k : Kp H (Bad G L) L H' (Bad G' L) L) (hG : ∀ a, G a → G' a) (hk : ∀ a vs, G a → H a = some (.lst vs) → H' a = some (.lst vs)) (s : SlE G L H σ env) : SlE G' L H' σ env :=
  ⟨s.len, fun i d h => by
    obtain ⟨v, h1, h2⟩ := s.val i d h
    exact ⟨v, h1, h2.kp k⟩, fun i ds h => by
    obtain ⟨a, vs, h1, h2, h3, h4⟩ := s.own i ds h
    exact ⟨a, vs, h1, hk a vs h4 h2, h3.kp k, hG a h4⟩⟩

/-! ### slots set, slots wiped -/
section
variable {G : Addr → Prop} {L : List Addr} {H : Hp}
theorem SlE.set {σ : L2.St} {env : Env} {i : Nat} {d : D} {v : V} (s : SlE G L H σ env) (r : Rep H (Bad G L) L d v) (hi : i < env.length) : SlE G L H (σ.set i (some v)) (env.set i (.val d)) := by
  have hl : i < σ.length := by rw [s.len]; exact hi
  refine ⟨by simp [s.len], fun j d' h => ?_, fun j ds h => ?_⟩
  · by_cases hj : i = j
    · subst hj
      rw [List.getElem?_set_self hi] at h
      cases h
      exact ⟨v, List.getElem?_set_self hl, r⟩
    · rw [List.getElem?_set_ne hj] at h
      rw [List.getElem?_set_ne hj]
      exact s.val j d' h
  · by_cases hj : i = j
    · subst hj
      rw [List.getElem?_set_self hi] at h
      cases h
    · rw [List.getElem?_set_ne hj] at h
      rw [List.getElem?_set_ne hj]
      exact s.own j ds h
theorem SlE.unset {σ : L2.St} {env : Env} {i : Nat} {x : Option V} (s : SlE G L H σ env) : SlE G L H (σ.set i x) (env.set i .no) := by
  refine ⟨by simp [s.len], fun j d' h => ?_, fun j ds h => ?_⟩
  · by_cases hj : i = j
    · subst hj
      by_cases hi : i < env.length
      · rw [List.getElem?_set_self hi] at h; cases h
      · rw [List.getElem?_eq_none (by simp; omega)] at h; cases h
    · rw [List.getElem?_set_ne hj] at h
      rw [List.getElem?_set_ne hj]
      exact s.val j d' h
  · by_cases hj : i = j
    · subst hj
      by_cases hi : i < env.length
      · rw [List.getElem?_set_self hi] at h; cases h
      · rw [List.getElem?_eq_none (by simp; omega)] at h; cases h
    · rw [List.getElem?_set_ne hj] at h
      rw [List.getElem?_set_ne hj]
      exact s.own j ds h
theorem SlE.wipe {σ : L2.St} : ∀ {vs : List Nat} {env env0 : Env}, SlE G L H σ env → wipeE vs env = some env0 → SlE G L H (L2.wipe σ vs) env0
  | [], env, env0, s, h => by
    cases h
    exact s
  | i :: is, env, env0, s, h => by
    simp only [wipeE, Option.bind_eq_some_iff] at h
    obtain ⟨e, h1, h2⟩ := h
    have s1 := SlE.wipe s h1
    split at h2
    · cases h2
    · cases h2
      exact s1.unset
    · cases h2
theorem wipe_comm {v : Nat} {x : Option V} : ∀ (σ : L2.St) (vs : List Nat), v ∉ vs → L2.wipe (σ.set v x) vs = (L2.wipe σ vs).set v x
  | σ, [], _ => rfl
  | σ, u :: us, hn => by
    have h1 : v ≠ u := fun z => hn (by rw [z]; exact List.mem_cons_self)
    have h2 : v ∉ us := fun z => hn (List.mem_cons_of_mem _ z)
    unfold L2.wipe
    rw [wipe_comm σ us h2, List.set_comm _ _ h1]
theorem wipe_set {σ : L2.St} {i : Nat} {x : Option V} : ∀ {vs : List Nat}, i ∈ vs → L2.wipe (σ.set i x) vs = L2.wipe σ vs
  | v :: vs, h => by
    unfold L2.wipe
    by_cases hv : i ∈ vs
    · rw [wipe_set hv]
    · have e : v = i := by
        rcases List.mem_cons.mp h with z | z
        · exact z.symm
        · exact absurd z hv
      subst e
      rw [wipe_comm σ vs hv, List.set_set]
theorem wipe_idem (σ : L2.St) : ∀ vs : List Nat, L2.wipe (L2.wipe σ vs) vs = L2.wipe σ vs
  | [] => rfl
  | v :: vs => by
    have ih := wipe_idem σ vs
    show (L2.wipe ((L2.wipe σ vs).set v none) vs).set v none = (L2.wipe σ vs).set v none
    by_cases hv : v ∈ vs
    · rw [wipe_set hv, ih]
    · rw [wipe_comm _ _ hv, ih, List.set_set]
/-- names are stored -/
theorem tl_names : ∀ {is : List Nat} {ds : List D} {vs : List V} {σ : L2.St} {env env1 : Env} {Q : L2.St → Hp → Prop}, SlE G L H σ env → Reps H (Bad G L) L ds vs → setNames is ds env = some env1 →
    (∀ σ1, SlE G L H σ1 env1 → (∀ ws : List Nat, (∀ i ∈ is, i ∈ ws) → L2.wipe σ1 ws = L2.wipe σ ws) → Q σ1 H) → gNames is vs σ H Q
  | [], [], _, σ, env, env1, Q, s, r, h, k => by
    cases h
    cases r
    exact ⟨rfl, k σ s fun _ _ => rfl⟩
  | i :: is, d :: ds, _, σ, env, env1, Q, s, r, h, k => by
    cases r with
    | cons r1 r2 =>
      simp only [setNames] at h
      split at h
      · rename_i hi
        refine ⟨_, _, rfl, ?_⟩
        refine tl_names (s.set r1 hi) r2 h fun σ1 s1 hw => k σ1 s1 fun ws hm => ?_
        rw [hw ws (fun j hj => hm j (List.mem_cons_of_mem _ hj)), wipe_set (hm i List.mem_cons_self)]
      · cases h
  | [], _ :: _, _, _, _, _, _, _, _, h, _ => by simp [setNames] at h
  | _ :: _, [], _, _, _, _, _, _, _, h, _ => by simp [setNames] at h
def gTg (K : PySem.W.Frag) : Tg → TG
  | .name i => gName i
  | .tup is => gTup K is.length (gNames is)
theorem tl_tg {K : PySem.W.Frag} {tg : Tg} {d : D} {x : V} {σ : L2.St} {env env1 : Env} {Q : L2.St → Hp → Prop} {pair : Bool} {H1 H0 : Hp} {G0 : Addr → Prop} {L0 : List Addr} (hp : pair = true → ∃ is, tg = .tup is) (s : SlE G L H1 σ env) (it : Item pair G0 L0 H0 H1 d x H)
    (kp : Kp H0 (Bad G0 L0) L0 H1 (Bad G L) L) (sl : SlE G L H σ env) (hs : setG tg d env = some env1)
    (k : ∀ σ1, SlE G L H σ1 env1 → (∀ ws : List Nat, (∀ i ∈ tgIx tg, i ∈ ws) → L2.wipe σ1 ws = L2.wipe σ ws) → Q σ1 H) : gTg K tg x σ H Q := by
  cases pair with
  | false =>
    have it' : H = H1 ∧ Rep H0 (Bad G0 L0) L0 d x := it
    obtain ⟨rfl, r⟩ := it'
    have r1 := r.kp kp
    cases tg with
    | name i =>
      simp only [setG, setNames] at hs
      split at hs
      · rename_i hi
        cases hs
        exact k _ (sl.set r1 hi) fun ws hm => wipe_set (hm i (by simp [tgIx]))
      · cases hs
    | tup is =>
      cases d <;> simp only [setG, reduceCtorEq] at hs
      obtain ⟨a, vs, rfl, h1, n1, r2⟩ := r1.tup_inv
      have hl : vs.length = is.length := by
        have : ∀ {is : List Nat} {ds : List D} {env env1 : Env}, setNames is ds env = some env1 → ds.length = is.length := by
          intro is
          induction is with
          | nil => intro ds env env1 h; cases ds with
            | nil => rfl
            | cons _ _ => simp [setNames] at h
          | cons i is ih => intro ds env env1 h; cases ds with
            | nil => simp [setNames] at h
            | cons d ds =>
              simp only [setNames] at h
              split at h
              · simp [ih h]
              · cases h
        rw [← r2.length, this hs]
      exact ⟨a, vs, rfl, sqT h1, hl, tl_names sl r2 hs k⟩
  | true =>
    obtain ⟨is, rfl⟩ := hp rfl
    have it' : ∃ T d1 d2 v1 v2, d = .tuple [d1, d2] ∧ x = .ref T ∧ H1 T = none ∧ H = upd H1 T (.tup [v1, v2]) ∧ Rep H0 (Bad G0 L0) L0 d1 v1 ∧ Rep H0 (Bad G0 L0) L0 d2 v2 := it
    obtain ⟨T, d1, d2, v1, v2, rfl, rfl, hT, rfl, r1, r2⟩ := it'
    have kk : Kp H1 (Bad G L) L (upd H1 T (.tup [v1, v2])) (Bad G L) L := (Ext.new hT).kp
    simp only [setG] at hs
    have hl : [v1, v2].length = is.length := by
      match is, hs with
      | [_, _], _ => rfl
      | [], h => simp [setNames] at h
      | [_], h => simp only [setNames] at h; split at h <;> cases h
      | _ :: _ :: _ :: _, h => simp only [setNames] at h; split at h <;> (try split at h) <;> cases h
    exact ⟨T, [v1, v2], rfl, .inl (.inl upd_same), hl, tl_names sl (.cons ((r1.kp kp).kp kk) (.cons ((r2.kp kp).kp kk) .nil)) hs k⟩
end
end
end Mi

set_option Elab.async false
set_option linter.all false
set_option maxRecDepth 100000
set_option maxHeartbeats 1000000
namespace Mi
open PySem PySem.Spec PyProof.Rows L2
section
variable {Γ : Pr} {Z : Sg} {C : Ct} {r : Nat} {cf : Nat → CallF} {wf : WordF}
abbrev W0 : WX := fun _ _ _ _ => False
/-- the tests of a comprehension -/
def SO2 (Γ : Pr) (C : Ct) (r : Nat) (wf : WordF) (cf : Nat → CallF) (a : O2) (es : List Expr) : Prop := ∃ t, (∀ X, Good Γ r C X → PTs X es t) ∧ TlB Γ W0 t (evO2 wf cf a)
theorem so2_no {es : List Expr} (h : chkO2 Z C .no es = true) : SO2 Γ C r wf cf .no es := by
  unfold chkO2 at h
  split at h
  · exact ⟨_, fun X g => pts_nil, fun σ H G L env S Q sl w sat => sat H L Ext.refl w⟩
  · cases h
theorem so2_yes {a : B} {es : List Expr} (h : chkO2 Z C (.yes a) es = true) (ia : ∀ l, chkB Z C a l = true → SB Γ C r wf cf a l) : SO2 Γ C r wf cf (.yes a) es := by
  unfold chkO2 at h
  split at h
  · rename_i e
    obtain ⟨t, pt, ht⟩ := (ia e h).uni W0
    exact ⟨t, fun X g => pts_one (pt X g LamX.takes0), ht⟩
  · cases h
theorem pg_tg {X : Cx} (g : Good Γ r C X) {tg : Tg} {t : Expr} (h : chkG C tg t = true) : PG X t (gTg Γ.K tg) := by
  cases tg with
  | name i =>
    simp only [chkG] at h
    split at h
    · rename_i x hx
      obtain ⟨p, rfl⟩ := xName_of hx
      exact g.loc h
    · cases h
  | tup is =>
    simp only [chkG] at h
    split at h
    · rename_i es hx
      obtain ⟨k, p, rfl⟩ := xTup_of hx
      obtain ⟨a, b, c⟩ := pgs_names g h
      have q := pg_tup (k := k) (pos := p) g.calm a b c
      rw [g.K] at q
      exact q
    · cases h
/-- one item of a comprehension -/
def itemF (wf : WordF) (cf : Nat → CallF) (tg : Tg) (c : O2) (e : E) (env0 : Env) : D → Store → R (Option D) := fun x S =>
  (lift (setG tg x env0) S).bind fun env1 S => (evO2 wf cf c env1 S).calm.bind fun b S => if b then (evE wf cf e env1 S).calm.bind fun y S => .ok (some y) S else .ok none S
theorem comp_parts {own : List (Str × Nat)} {tg : Tg} {it : I} {c : O2} {el : E} {elt t iter : Expr} {ifs : List Expr} {sc : Scope} (hb : blkC C.N C.sc sc own = true) (hi : SI Γ C r wf cf it iter) (hpair : isPair it = true → ∃ is, tg = .tup is) (hpt : isPair it = true → ∃ es k p, t = .Tuple es k p)
    (htg : chkG (blkCt C sc) tg t = true) (hin : ∀ i ∈ tgIx tg, i ∈ own.map (·.2)) (hc : SO2 Γ (blkCt C sc) r wf cf c ifs) (he : SE Γ (blkCt C sc) r wf cf el elt) (W : WX) :
    ∃ (wi : TI) (g : TG) (tt : TT) (te : TE), (∀ X, Good Γ r C X → Takes X W → PI X t iter wi ∧ BlkOk X.N X.env.scope sc own ∧
      (∀ (s : Shared) (H : Hp) (c : Addr) (cl : List (Str × Addr)) (fp : List Addr), PG (X.blk s H sc (compEnvC sc cl c X.env) fp) t g) ∧ (∀ (s : Shared) (H : Hp) (c : Addr) (cl : List (Str × Addr)) (fp : List Addr), PTs (X.blk s H sc (compEnvC sc cl c X.env) fp) ifs tt) ∧
      (∀ (s : Shared) (H : Hp) (c : Addr) (cl : List (Str × Addr)) (fp : List Addr), PE (X.blk s H sc (compEnvC sc cl c X.env) fp) elt te)) ∧
      ∀ (σ : L2.St) (H : Hp) (G : Addr → Prop) (L : List Addr) (env : Env) (S : Store) (Q : VK), SlE G L H σ env → WS Γ.T G L H S →
        Sat (evE wf cf (.comp own tg it c el) env S) (fun d S' => ∀ a vs ds H' L', d = .list ds → Ext L H L' H' → WS Γ.T (fun b => G b ∨ b = a) L' H' S' → (∀ o, H a = some o → ∃ ps, o = .tbl ps) → H' a = some (.lst vs) → ¬ Bad G L' a → Reps H' (Bad (fun b => G b ∨ b = a) L') L' ds vs → Q (.ref a) H') (PostX Γ W σ G L H) → tLc wi g tt te (own.map (·.2)) σ H Q := by
  obtain ⟨wi, pwi, twi⟩ := hi.uni W hpt
  obtain ⟨tt, ptt, ttt⟩ := hc
  obtain ⟨te, pte, tte⟩ := he.uni W0
  refine ⟨wi, gTg Γ.K tg, tt, te, fun X g tk => ⟨pwi X g tk, ?_, fun s H c cl fp => pg_tg (g.blk s H sc c cl fp) htg, fun s H c cl fp => ptt _ (g.blk s H sc c cl fp), fun s H c cl fp => pte _ (g.blk s H sc c cl fp) LamX.takes0⟩, ?_⟩
  · rw [g.N, g.sc]
    exact blkOk_by hb
  · intro σ H G L env S Q sl w sat
    rw [evE, sat_bind] at sat
    refine twi σ H G L env S _ sl w (sat.imp (fun xs S1 q J H1 L1 e1 w1 iter => ?_) fun _ _ q => q)
    rw [sat_bind] at q
    obtain ⟨env0, henv0, q⟩ := sat_lift q
    intro Dd hD
    have sl1 := sl.ext e1 w
    have slw : SlE G L1 H1 (wipe σ (own.map (·.2))) env0 := sl1.wipe henv0
    have hDn : ∀ o, H Dd = some o → ∃ ps, o = .tbl ps := fun o hq => by
      by_cases ht : ∃ ps, o = .tbl ps
      · exact ht
      · exfalso
        by_cases hl : Dd ∈ L
        · obtain ⟨M, hM, _⟩ := e1.more
          obtain ⟨vs, z⟩ := w1.trk (a := Dd) (by rw [hM]; exact List.mem_append_left _ hl)
          rw [hD] at z; cases z
        · have z := e1.keep _ _ hq hl (fun ps z => ht ⟨ps, z⟩)
          rw [hD] at z; cases z
    let Gd : Addr → Prop := fun a => G a ∨ a = Dd
    have toD : ∀ {d : D} {v : V}, Rep H1 (Bad G L1) L1 d v → Rep (upd H1 Dd (.lst [])) (Bad Gd L1) L1 d v := fun r => r.kp (kp_guard hD)
    refine lc_it iter (fun i H2 => ∃ (L2 : List Addr) (S2 : Store) (acc : List D) (accV : List V), Ext L1 H1 L2 H2 ∧ WS Γ.T Gd L2 H2 S2 ∧ H2 Dd = some (.lst accV) ∧ Reps H2 (Bad Gd L2) L2 acc accV ∧
      Sat (compL (itemF wf cf tg c el env0) (xs.drop i) acc S2) (fun d S' => ∀ a vs ds H' L', d = .list ds → Ext L H L' H' → WS Γ.T (fun b => G b ∨ b = a) L' H' S' → (∀ o, H a = some o → ∃ ps, o = .tbl ps) → H' a = some (.lst vs) → ¬ Bad G L' a → Reps H' (Bad (fun b => G b ∨ b = a) L') L' ds vs → Q (.ref a) H') (PostX Γ W σ G L H)) ?_ ?_ ?_ ?_
    · exact ⟨L1, S1, [], [], Ext.new hD, w1.guard hD, upd_same, .nil, q⟩
    · rintro i H2 _ ⟨L2, S2, acc, accV, e2, w2, hd2, ra, _⟩
      intro a o ha hn nt
      exact e2.keep a o ha (fun z => hn (.inr z)) nt
    · rintro i x H2 H3 hi ⟨L2, S2, acc, accV, e2, w2, hd2, ra, sat2⟩ ⟨d, hd, item⟩
      have hdrop : xs.drop i = d :: xs.drop (i + 1) := by
        have hlt := (List.getElem?_eq_some_iff.mp hd).1
        rw [List.drop_eq_getElem_cons hlt, (List.getElem?_eq_some_iff.mp hd).2]
      rw [hdrop] at sat2
      simp only [compL] at sat2
      rw [sat_bind] at sat2
      unfold itemF at sat2
      rw [sat_bind] at sat2
      obtain ⟨env1, henv1, sat2⟩ := sat_lift sat2
      simp only [sat_bind] at sat2
      -- the slots at this turn
      have kp12 : Kp H1 (Bad G L1) L1 H2 (Bad Gd L2) L2 := by
        obtain ⟨M, hM, hMn⟩ := e2.more
        refine ⟨fun a o h n nt => e2.keep a o h (fun z => n (.inr z)) nt, fun a o h nt z => ?_, fun k a h => ?_⟩
        · rcases z with (z | z) | z
          · exact .inl z
          · rw [z, hD] at h; cases h
          · rw [hM] at z
            rcases List.mem_append.mp z with z | z
            · exact .inr z
            · obtain ⟨ps, z⟩ := hMn a z o h
              exact absurd z (nt ps)
        · rw [hM]
          exact (List.getElem?_append_left (List.getElem?_eq_some_iff.mp h).1).trans h
      have sl2 : SlE Gd L2 H2 (wipe σ (own.map (·.2))) env0 := by
        refine ⟨slw.len, fun i d h => ?_, fun i ds h => ?_⟩
        · obtain ⟨v, h1, h2⟩ := slw.val i d h
          exact ⟨v, h1, h2.kp kp12⟩
        · obtain ⟨a, vs, h1, h2, h3, h4⟩ := slw.own i ds h
          exact ⟨a, vs, h1, e2.keep _ _ h2 (fun z => w1.dis a z h4) (fun ps z => by cases z), h3.kp kp12, .inl h4⟩
      have fact3 : Ext L2 H2 L2 H3 ∧ WS Γ.T Gd L2 H3 S2 ∧ SlE Gd L2 H3 (wipe σ (own.map (·.2))) env0 := by
        have gen : ∀ T vs, H2 T = none → H3 = upd H2 T (.tup vs) → Ext L2 H2 L2 H3 ∧ WS Γ.T Gd L2 H3 S2 ∧ SlE Gd L2 H3 (wipe σ (own.map (·.2))) env0 := fun T vs hT h3 => by
          rw [h3]
          exact ⟨Ext.new hT, w2.new hT, sl2.ext (Ext.new hT) w2⟩
        cases hpq : isPair it with
        | false =>
          rw [hpq] at item
          have it' : H3 = H2 ∧ _ := item
          rw [it'.1]
          exact ⟨Ext.refl, w2, sl2⟩
        | true =>
          rw [hpq] at item
          obtain ⟨T, d1, d2, v1, v2, _, _, hT, h3, _, _⟩ := (show ∃ T d1 d2 v1 v2, d = .tuple [d1, d2] ∧ x = .ref T ∧ H2 T = none ∧ H3 = upd H2 T (.tup [v1, v2]) ∧ _ ∧ _ from item)
          exact gen T _ hT h3
      obtain ⟨e23, w3, sl3⟩ := fact3
      refine tl_tg (G := Gd) (L := L2) (H1 := H2) hpair sl2 item kp12 sl3 henv1 fun σ1 sl4 hw => ?_
      refine ⟨by rw [hw _ hin]; exact wipe_idem σ _, ?_⟩
      refine ttt σ1 H3 Gd L2 env1 S2 _ sl4 w3 ((sat_calm sat2).imp (fun b S4 s4 H4 L4 e34 w4 => ?_) fun _ _ z => z)
      have e24 := Ext.trans w3 e23 e34
      have keepD : ∀ {H5 : Hp} {L5 : List Addr}, Ext L2 H2 L5 H5 → H5 Dd = some (.lst accV) := fun e => e.keep _ _ hd2 (fun z => w2.dis Dd z (.inr rfl)) (fun ps z => by cases z)
      cases b with
      | true =>
        rw [if_pos rfl] at s4 ⊢
        simp only [sat_bind] at s4
        refine tte σ1 H4 Gd L4 env1 S4 _ (sl4.ext e34 w3) w4 ((sat_calm s4).imp (fun y S5 s5 v H5 L5 e45 w5 r5 => ?_) fun _ _ z => z)
        have e25 := Ext.trans w4 e24 e45
        have hd5 := keepD e25
        have s5' : Sat (if acc.length < BIG then compL (itemF wf cf tg c el env0) (xs.drop (i + 1)) (acc ++ [y]) S5 else R.stuck) _ _ := s5
        by_cases hlen : acc.length < BIG
        · rw [if_pos hlen] at s5'
          refine ⟨accV, hd5, by rw [← ra.length]; exact Nat.lt_of_lt_of_le hlen (big_line (Nat.le_refl _)), L5, S5, acc ++ [y], accV ++ [v], ?_, w5.wr (.inr rfl), upd_same, ?_, s5'⟩
          · have e15 := Ext.trans w2 e2 e25
            obtain ⟨M, hM, hMn⟩ := e15.more
            exact ⟨fun a o h n nt => by
              rw [upd_ne (fun z => by rw [z, hD] at h; cases h)]
              exact e15.keep a o h n nt, M, hM, hMn⟩
          · exact ((ra.kp e25.kp).append (.cons r5 .nil)).kp (kp_wr (.inr rfl))
        · rw [if_neg hlen] at s5'
          exact s5'.elim
      | false =>
        rw [if_neg Bool.false_ne_true] at s4 ⊢
        exact ⟨L4, S4, acc, accV, Ext.trans w2 e2 e24, w4, keepD e24, ra.kp e24.kp, s4⟩
    · rintro H2 ⟨L2, S2, acc, accV, e2, w2, hd2, ra, sat2⟩
      rw [List.drop_length] at sat2
      have e02 := Ext.trans w1 e1 e2
      refine sat2 Dd accV acc H2 L2 rfl e02 w2 hDn hd2 ?_ ra
      rintro (z | z)
      · obtain ⟨vs, z⟩ := w1.gt Dd z
        rw [hD] at z; cases z
      · exact w2.dis Dd z (.inr rfl)
end
end Mi

set_option Elab.async false
set_option linter.all false
set_option maxRecDepth 100000
set_option maxHeartbeats 1000000
namespace Mi
open PySem PySem.Spec PyProof.Rows L2
section
variable {Γ : Pr} {Z : Sg} {C : Ct} {r : Nat} {cf : Nat → CallF} {wf : WordF}
theorem se_comp {own : List (Str × Nat)} {tg : Tg} {it : I} {c : O2} {el : E} {e : Expr} (h : chkE Z C (.comp own tg it c el) e = true) (ii : ∀ l, chkI Z C it l = true → SI Γ C r wf cf it l)
    (ic : ∀ (C : Ct) l, chkO2 Z C c l = true → SO2 Γ C r wf cf c l) (ie : ∀ (C : Ct) l, chkE Z C el l = true → SE Γ C r wf cf el l) : SE Γ C r wf cf (.comp own tg it c el) e := by
  intro X W g tk
  simp only [chkE] at h
  split at h
  · rename_i elt t iter ifs sc hx
    obtain ⟨p, rfl⟩ := xComp_of hx
    simp only [Bool.and_eq_true, Bool.or_eq_true, Bool.not_eq_true', List.all_eq_true, decide_eq_true_eq] at h
    obtain ⟨⟨⟨⟨⟨⟨⟨h1, h2⟩, h3⟩, h4⟩, h5⟩, h6⟩, h7⟩, h8⟩ := h
    have hpair : isPair it = true → ∃ is, tg = .tup is := fun hp => by
      rcases h3 with h3 | h3
      · rw [hp] at h3; cases h3
      · cases tg with
        | name i => cases h3
        | tup is => exact ⟨is, rfl⟩
    have hpt : isPair it = true → ∃ es k p, t = .Tuple es k p := fun hp => by
      obtain ⟨is, rfl⟩ := hpair hp
      simp only [chkG] at h4
      split at h4
      · rename_i es hes
        obtain ⟨k, p, rfl⟩ := xTup_of hes
        exact ⟨es, k, p, rfl⟩
      · cases h4
    obtain ⟨wi, gg, tt, te, hX, htl⟩ := comp_parts (Γ := Γ) h1 (ii iter h2) hpair hpt h4 h5 (ic _ ifs h6) (ie _ elt h7) W
    obtain ⟨q1, q2, q3, q4, q5⟩ := hX X g tk
    refine ⟨_, pe_lc g.calm (by rw [g.N]; exact g.nd) q1 q2 q3 q4 q5 (nofold h8), fun σ H G L env S Q sl w sat => ?_⟩
    refine htl σ H G L env S Q sl w (sat.imp (fun d S' post a vs ds H' L' hd e1 w1 hn ha nb rs => ?_) fun _ _ q => q)
    subst hd
    exact post _ H' L' e1 (w1.less fun _ h => .inl h) (.lst (.inl ha) nb (rs.kp (kp_mono fun _ h => .inl h)))
  · cases h

/-! ### several clauses, some with a name that is never bound -/
inductive HdsOk2 (X : Cx) : List ExceptHandler → List (Value × (Addr → Value → Option Addr → TS)) → Prop
  | nil : HdsOk2 X [] []
  | cons {x : Str} {c : Value} {ts : Addr → Value → Option Addr → TS} {b₀ : Stmt} {suite : List Stmt} {np pos' : Pos} {hds : List ExceptHandler} {l : List (Value × (Addr → Value → Option Addr → TS))} (hc : Names X x c)
      (hsu : ∀ (a : Addr) (oe : Obj) (cls : Value) (d : Option Addr) (pn : List (Addr × Obj)), Zc cls d oe → (∃ vs, oe.data = .fields vs) → PSs (X.suite a ((a, oe) :: pn)) (b₀ :: suite) (ts a cls d)) (r : HdsOk2 X hds l) :
      HdsOk2 X (.ExceptHandler (some (.Name x np)) none (b₀ :: suite) pos' :: hds) ((c, ts) :: l)
  | skip {x n : Str} {c : Value} {suite : List Stmt} {np pos' : Pos} {hds : List ExceptHandler} {l : List (Value × (Addr → Value → Option Addr → TS))} (hc : Names X x c) (r : HdsOk2 X hds l) :
      HdsOk2 X (.ExceptHandler (some (.Name x np)) (some n) suite pos' :: hds) ((c, fun _ _ _ _ _ _ => False) :: l)
section
variable {X : Cx} {body : List Stmt} {h₀ : ExceptHandler} {hds : List ExceptHandler} {l : List (Value × (Addr → Value → Option Addr → TS))} {pos : Pos} {tb : WX → TS} {Wout : WX}
theorem ps_try_many2 (hs : X.stack = X.env :: X.outer) (hf : X.env.frame = some X.env.locals) (tk : Takes X Wout)
    (hb : ∀ (W : WX) (pn : List (Addr × Obj)) (xe : Value → Shared → Prop), Takes (X.tr pn xe) W → PassesOwn (model X.prog X.w) X.A X.env xe → PSs (X.tr pn xe) body (tb W))
    (hh : HdsOk2 X (h₀ :: hds) l) : PS X (.Try body (h₀ :: hds) [] [] pos) (fun D σ H => tb (wMany X.K Wout D l) D σ H) := by
  refine ⟨fun pins s σ H D I h => ?_⟩
  have ok := I.ok
  have hfr : X.A.frames = some (X.env :: X.outer) := by rw [ok.frames, hs]
  refine wpAny_Try_except ?_
  refine wpAny_mono ((hb (wMany X.K Wout D l) (X.pn ++ pins) (fun e s1 => wpAny (model X.prog X.w) X.A (noteFrame e X.env) (fun _ s2 => wpAny (model X.prog X.w) X.A (setFlight e none) (fun _ s3 =>
    wpAny (model X.prog X.w) X.A (handleBy e X.env (h₀ :: hds)) (SP X pins D) X.xe s3) X.xe s2) X.xe s1) (fun u s' xx => ?_) PassesOwn.looking).run [] s σ H D (I.toTry _) h) (fun f s1 hsp => ?_) (fun e s1 he => he)
  · obtain ⟨a, B, sI, pins', σ', H', cls, d, rfl, J', nb, up, sky, na, os, ag, w⟩ := xx
    have J : Inv X pins σ' H' sI := J'.ofTry ok
    have sky' : Sky B (X.env :: X.outer) a (Zc cls d) X.env.locals s'.heap := by rw [← hs]; exact sky
    show wpAny (model X.prog X.w) X.A (noteFrame (.ref a) X.env) _ _ _
    refine Sky.land Zc.steady hfr hf sky' fun h3 fl3 up3 => ?_
    have J3 : Inv X pins σ' H' { s' with heap := h3 } := J.landed nb fl3.1 (up.trans up3) os ag
    obtain ⟨oe3, vs3, he3, hz3, hd3⟩ := fl3.there
    have notFr : ∀ {h : Heap} {o : Obj} {vs : Array Value}, h.FunFrames B (X.env :: X.outer) → h.get? a = some o → o.data = .fields vs → a ∉ frs (X.env :: X.outer) := fun {h o vs} ff e dd hm => by
      obtain ⟨_, o', e', hnf⟩ := ff.mem hm
      rw [e] at e'; cases e'
      exact hnf _ dd
    have nfr := notFr fl3.2.2.1 he3 hd3
    have nL : a ≠ X.env.locals := fun z => nfr (List.mem_filterMap.mpr ⟨X.env, List.mem_cons_self, by rw [hf, z]⟩)
    have nF : a ∉ X.fs := fun hm => by
      obtain ⟨e, he, q⟩ := List.mem_filterMap.mp hm
      exact nfr (List.mem_filterMap.mpr ⟨e, List.mem_cons_of_mem _ he, q⟩)
    have S3 := J3.suite he3 hd3 na nL nF
    have LT : PySem.W.Looks (model X.prog X.w) h3 (typeOf (.ref a)) cls := fun A Q E s k q => wpAny_typeOf_ref (k _ _ he3) (by rw [hz3.1]; exact q)
    -- what a clause's name gives
    have test : ∀ {x : Str} {c : Value} {np : Pos}, Names X x c → ∀ {Q : Value → Shared → Prop} {E : Value → Shared → Prop}, Q c { s' with heap := h3 } → wpAny (model X.prog X.w) (X.A.mark (some (.ref a))) (eval (.Name x np) X.env) Q E { s' with heap := h3 } := fun {x c np} hc {Q E} q => by
      obtain ⟨hg, hdbg, hm | ⟨hm, hv, hnn⟩⟩ := hc
      · exact ld_glob (X := X.suite a ((a, oe3) :: (X.pn ++ pins))) S3 hg hm q hdbg
      · exact ld_blt (X := X.suite a ((a, oe3) :: (X.pn ++ pins))) S3 hg hm hv q hnn hdbg
    have go : ∀ {hds' : List ExceptHandler} {l' : List (Value × (Addr → Value → Option Addr → TS))}, HdsOk2 X hds' l' → wMany X.K Wout D l' cls d σ' H' →
        wpAny (model X.prog X.w) X.A (handleBy (.ref a) X.env hds') (SP X pins D) X.xe { s' with heap := h3 } := by
      intro hds' l' hk
      induction hk with
      | nil =>
        intro w
        refine wpAny_handleBy_nil ?_
        obtain ⟨k1, k2, k3, oe, vs, T, oT, ts', he, hz, hd, h1, hr⟩ := id fl3
        unfold PySem.passOn
        refine wpAny_bind (wpAny_field he hd h1 ?_)
        rw [if_neg (show ¬ ((Value.ref T == Value.none) = true) from by simp)]
        have fin : wpAny (model X.prog X.w) X.A (setFlight (.ref a) X.env.frame) (fun _ s4 => wpAny (model X.prog X.w) X.A (throw (.ref a) : Sem Flow) (SP X pins D) X.xe s4) X.xe { s' with heap := h3 } := by
          rw [hf]
          refine HandSPX.setFlight_upZ fl3 fun h4 hh4 up4 => wpAny_throw (tk _ _ ?_)
          exact ⟨a, B, sI, pins, σ', H', cls, d, rfl, J, nb, (up.trans up3).trans up4, .inr (.inr (by rw [hs]; exact hh4)), na, os, ag, w⟩
        first
          | exact wpAny_bind (wpAny_pure (wpAny_bind fin))
          | exact wpAny_bind fin
      | @skip x n c suite np pos' hds2 l2 hc r ih =>
        intro w
        obtain ⟨b, hb1, hyes, hno⟩ := w
        refine wpAny_handleBy_cons (codeAny_handlers_test ?_) (by intro q; cases q)
        refine test hc ((PySem.W.exm_one (M := model X.prog X.w) (J3.kIn) LT hb1).here ?_)
        cases b with
        | true => exact (hyes rfl a na).elim
        | false =>
          show wpAny _ X.A (handleBy (.ref a) X.env hds2) _ _ _
          exact ih (hno rfl)
      | @cons x c ts b₀ suite np pos' hds2 l2 hc hsu r ih =>
        intro w
        obtain ⟨b, hb1, hyes, hno⟩ := w
        refine wpAny_handleBy_cons (codeAny_handlers_test ?_) (by intro q; cases q)
        refine test hc ((PySem.W.exm_one (M := model X.prog X.w) (J3.kIn) LT hb1).here ?_)
        cases b with
        | true =>
          refine codeAny_handlers_suite ?_
          refine HandSPX.lands_againZ fl3 fun h4 fl4 up4 => ?_
          have J4 : Inv X pins σ' H' { s' with heap := h4 } := J.landed nb fl4.1 ((up.trans up3).trans up4) os ag
          obtain ⟨oe4, vs4, he4, hz4, hd4⟩ := fl4.there
          have S4 := J4.suite he4 hd4 na nL nF
          refine wpAny_mono ((hsu a oe4 cls d (X.pn ++ pins) hz4 ⟨_, hd4⟩).run [] _ _ H' _ S4 (hyes rfl a na)) (fun f s6 hsp => ?_) (fun _ _ z => False.elim z)
          cases f with
          | ret u =>
            obtain ⟨v6, σ6, H6, S6, r6, q6⟩ := hsp
            exact ⟨_, _, _, S6.unsuite ok, r6, q6⟩
          | _ =>
            obtain ⟨σ6, H6, S6, q6⟩ := hsp
            exact ⟨_, _, S6.unsuite ok, q6⟩
        | false =>
          show wpAny _ X.A (handleBy (.ref a) X.env hds2) _ _ _
          exact ih (hno rfl)
    exact go hh w
  · cases f with
    | next =>
      obtain ⟨σ', H', J', q⟩ := hsp
      exact wpAny_execs_nil ⟨σ', H', J'.ofTry ok, q⟩
    | ret u =>
      obtain ⟨v, σ', H', J', r, q⟩ := hsp
      exact ⟨v, σ', H', J'.ofTry ok, r, q⟩
    | _ =>
      obtain ⟨σ', H', J', q⟩ := hsp
      exact ⟨σ', H', J'.ofTry ok, q⟩
end
end
end Mi

set_option Elab.async false
set_option linter.all false
set_option maxRecDepth 100000
set_option maxHeartbeats 1000000
namespace Mi
open PySem PySem.Spec PyProof.Rows L2

/-! ### the def that tells an error's word -/
def wordOf (K : PySem.W.Frag) : List (Value × Option Str) → Value → Str → Prop
  | [], _, _ => False
  | (c, o) :: r, cls, w => ∃ b, PySem.W.exmOne K cls c = some b ∧ (b = true → o = some w) ∧ (b = false → wordOf K r cls w)
inductive WHds (mg : Str → Option Value) (sg : Scope) (fnd : Str) : List ExceptHandler → List (Value × Option Str) → Prop
  | nil : WHds mg sg fnd [] []
  | cons {x w : Str} {c : Addr} {np p1 p2 p3 pos : Pos} {j : Nat} {hds : List ExceptHandler} {l : List (Value × Option Str)} (hg : sg.names.lookup x = some .globalImplicit) (hd : (x == ("__debug__" : Str)) = false) (hm : mg x = some (.ref c)) (t : WHds mg sg fnd hds l) :
      WHds mg sg fnd (.ExceptHandler (some (.Name x np)) none [.Assign [.Name fnd p1] (.Constant (.str w) j p2) p3] pos :: hds) ((.ref c, some w) :: l)
  | skip {x n : Str} {c : Addr} {np pos : Pos} {suite : List Stmt} {hds : List ExceptHandler} {l : List (Value × Option Str)} (hg : sg.names.lookup x = some .globalImplicit) (hd : (x == ("__debug__" : Str)) = false) (hm : mg x = some (.ref c)) (t : WHds mg sg fnd hds l) :
      WHds mg sg fnd (.ExceptHandler (some (.Name x np)) (some n) suite pos :: hds) ((.ref c, none) :: l)
def wTs : Option Str → (Addr → Value → Option Addr → TS)
  | some w => fun _ _ _ => tAsg (tC (.str w)) (gName 1)
  | none => fun _ _ _ _ _ _ => False
theorem WHds.ok {X : Cx} {fnd : Str} {hds : List ExceptHandler} {l : List (Value × Option Str)} (h : WHds X.mg X.env.scope fnd hds l) (hN : X.N.Nodup) (hi : X.N[1]? = some fnd) (hx : Loc X.env.scope fnd) (hf : X.fn fnd = true) : HdsOk2 X hds (l.map fun p => (p.1, wTs p.2)) := by
  induction h with
  | nil => exact .nil
  | cons hg hd hm t ih => exact .cons ⟨hg, hd, .inl hm⟩ (fun a oe cls d pn hz hv => pss_one (ps_set (i := 1) hN hi hx pe_str rfl (.inl hf))) ih
  | skip hg hd hm t ih => exact .skip ⟨hg, hd, .inl hm⟩ ih
theorem wMany_of {K : PySem.W.Frag} {D : Ends} {σ : L2.St} {H : Hp} {cls : Value} {d : Option Addr} {w : Str} : ∀ {l : List (Value × Option Str)}, wordOf K l cls w → D.nx (σ.set 1 (some (.str w))) H → wMany K (fun _ _ _ _ => False) D (l.map fun p => (p.1, wTs p.2)) cls d σ H
  | [], h, _ => h.elim
  | (c, o) :: r, h, q => by
    obtain ⟨b, hb, h1, h2⟩ := h
    refine ⟨b, hb, fun e a _ => ?_, fun e => wMany_of (h2 e) q⟩
    rw [h1 e]
    exact q
/-- what the lambda's run gives to the def -/
def TTw (K : PySem.W.Frag) (l : List (Value × Option Str)) : (XK → Hp → VK → Prop) → Hp → VK → Prop := fun tl H Q => tl (fun cls _ H' => ∃ w, wordOf K l cls w ∧ Q (.str w) H') H (fun _ H' => Q (.str (Str.ofString "")) H')
structure WBody (mg : Str → Option Value) (sg : Scope) (Ng : List Str) (bg : List Stmt) (a : Str) (l : List (Value × Option Str)) : Prop where
  ex : ∃ (fnd : Str) (j : Nat) (p1 p2 p3 p4 p5 p6 p7 p8 p9 : Pos) (h0 : ExceptHandler) (hds : List ExceptHandler), bg = [.Assign [.Name fnd p1] (.Constant (.str (Str.ofString "")) j p2) p3, .Try [.Expr (.Call (.Name a p4) [] [] p5) p6] (h0 :: hds) [] [] p7, .Return (some (.Name fnd p8)) p9] ∧
    WHds mg sg fnd (h0 :: hds) l ∧ Ng[1]? = some fnd ∧ (sg.names.lookup fnd = some .local ∨ sg.names.lookup fnd = some .cell) ∧ (fnd == ("__debug__" : Str)) = false ∧ (fnd == ("__classdict__" : Str)) = false
theorem takes_len {X : Cx} {W : WX} (t : Takes X W) : Takes X (fun c d σ H => σ.length = X.N.length → W c d σ H) := fun u s' ⟨a, B, sI, pins, σ, H, cls, d, e, I, nb, up, sky, na, os, ag, w⟩ =>
  t u s' ⟨a, B, sI, pins, σ, H, cls, d, e, I, nb, up, sky, na, os, ag, w I.len⟩
theorem word_gives {X : Cx} {Ng : List Str} {x a q : Str} {sg : Scope} {g : Addr} {cdg : Value} {bg : List Stmt} {l : List (Value × Option Str)} (hb : WBody X.mg sg Ng bg a l) (nd : Ng.Nodup) (h2 : 2 ≤ Ng.length) : LamX.GivesTo X Ng x sg g cdg bg a q (TTw X.K l) := by
  intro f c' s H Q tl act hc h
  obtain ⟨fnd, j, p1, p2, p3, p4, p5, p6, p7, p8, p9, h0, hds, rfl, hh, hi, hx, hd1, hd2⟩ := hb.ex
  let Y : Cx := (cxOf C8.CX0 X.prog X.w X.K X.mg X.base Ng x sg g cdg X.A X.stack s H C8.E0).nox
  have hvis : Vis Y.env.scope fnd := hx.elim .inl (fun z => .inr (.inl z))
  have hl0 : (L2.start Ng [V.ref f])[0]? = some (some (V.ref f)) := rfl
  have hle : (L2.start Ng [V.ref f]).length = Ng.length := by unfold L2.start; simp; omega
  refine ⟨_, pss_cons (ps_set (X := Y) (i := 1) nd hi hx pe_str rfl (.inl rfl)) (pss_cons (ps_try_many2 (X := Y) (Wout := fun _ _ _ _ => False)
      (tb := fun W D σ H => ∃ Ech : XK, (∀ (cls : Value) (d : Option Addr) (σ' : L2.St) (H' : Hp), Ech cls d H' → σ'.length = Ng.length → W cls d σ' H') ∧ σ[0]? = some (some (.ref f)) ∧ H c' = some (LamX.CodeO c' q) ∧ tl Ech H (fun _ H' => D.nx σ H'))
      rfl rfl LamX.takes0 (fun W pn xe tk _ => ?_) (hh.ok (X := Y) nd hi hx rfl)) (pss_one (ps_ret (pe_var (i := 1) hi hvis hd1 hd2)))), ?_⟩
  · refine ⟨fun pins s' σ H' D I h' => ?_⟩
    obtain ⟨Ech, hW, h1, h2', h3⟩ := h'
    have hp := act _ pn xe Ech p4 p5 (takes_len tk) hW
    exact (pss_one (ps_expr (pos := p6) hp)).run pins s' σ H' D I ⟨h1, h2', h3⟩
  · refine ⟨fun cls _ H' => ∃ w, wordOf X.K l cls w ∧ Q (.str w) H', fun cls d σ' H' ⟨w, e1, e2⟩ hl => ?_, ?_, hc, ?_⟩
    · refine wMany_of e1 ?_
      refine ⟨.str w, ?_, e2⟩
      rw [List.getElem?_set_self (by rw [hl]; omega)]
    · rw [List.getElem?_set_ne (by decide)]
      exact hl0
    · have e : (fun (_ : V) (H' : Hp) => Q (.str (Str.ofString "")) H') = fun (_ : V) (H' : Hp) => ∃ v, ((L2.start Ng [V.ref f]).set 1 (some (.str (Str.ofString ""))))[1]? = some (some v) ∧ Q v H' := by
        funext _ H'
        refine propext ⟨fun q => ⟨_, List.getElem?_set_self (by rw [hle]; omega), q⟩, fun ⟨v, e1, e2⟩ => ?_⟩
        rw [List.getElem?_set_self (by rw [hle]; omega)] at e1
        cases e1
        exact e2
      have h : tl (fun cls _ H' => ∃ w, wordOf X.K l cls w ∧ Q (.str w) H') H (fun _ H' => Q (.str (Str.ofString "")) H') := h
      rw [e] at h
      exact h
end Mi

set_option Elab.async false
set_option linter.all false
set_option maxRecDepth 100000
set_option maxHeartbeats 1000000
namespace Mi
open PySem PySem.Spec PyProof.Rows L2

structure WordOk (Γ : Pr) (Z : Sg) (wf : WordF) : Prop where
  ex : ∃ (st : Stmt) (wa : Addr) (fd : FuncData) (Ng : List Str) (a : Str) (l : List (Value × Option Str)), Γ.mg Z.word = some (.ref wa) ∧ PySem.W.keepIn Γ.K (.ref wa) = true ∧ L2.Fun Γ.K Z.word Z.word st wa fd ∧ Binds Γ.K fd [a] [] ∧
    FnScope Ng [a] (defScope st) ∧ WBody Γ.mg (defScope st) Ng (defBody st) a l ∧ Ng.Nodup ∧ 2 ≤ Ng.length ∧ Ng[0]? = some a ∧ Vis (defScope st) a ∧ (a == ("__debug__" : Str)) = false ∧ (a == ("__classdict__" : Str)) = false ∧
    ∀ c w, wf c = some w → wordOf Γ.K l (.ref (Γ.xa c.cls)) w ∧ w.length ≤ BIG
theorem noDefaults_of {ar : Arguments} (h : noDefaults ar = true) : ar = ⟨[], [], none, [], [], none, []⟩ := by
  obtain ⟨a, b, c, d, e, f, g⟩ := ar
  simp [noDefaults] at h
  obtain ⟨⟨⟨⟨⟨⟨h1, h2⟩, h3⟩, h4⟩, h5⟩, h6⟩, h7⟩ := h
  subst h1 h2 h4 h5 h7 h3 h6
  rfl
section
variable {Γ : Pr} {Z : Sg} {C : Ct} {r : Nat} {cf : Nat → CallF} {wf : WordF}
theorem CFok.down (h : CFok Γ r cf) : CFok Γ (r - 2) (fun j => cf (j + 2)) := fun j f d hd => by
  have := h (j + 2) f d hd
  rw [show r - 2 - j = r - (j + 2) by omega]
  exact this
theorem se_word (wo : WordOk Γ Z wf) {b : E} {e : Expr} (h : chkE Z C (.word b) e = true) (ib : ∀ (C : Ct) l, chkE Z C b l = true → SE Γ C (r - 2) wf (fun j => cf (j + 2)) b l) : SE Γ C r wf cf (.word b) e := by
  intro X W g tk
  simp only [chkE] at h
  split at h
  · rename_i x l hx
    split at h
    · rename_i ar body sc hl
      obtain ⟨p, q, rfl⟩ := xCall_of hx
      obtain ⟨lp, rfl⟩ := xLam_of hl
      simp only [Bool.and_eq_true, decide_eq_true_eq] at h
      obtain ⟨⟨⟨⟨⟨rfl, hg⟩, hlam⟩, hnd⟩, hls⟩, hb⟩ := h
      obtain ⟨g1, g2, g3⟩ := g.gl hg
      obtain rfl := noDefaults_of hnd
      obtain ⟨st, wa, fd, Ng, a, l, w1, w2, w3, w4, w5, w6, w7, w8, w9, w10, w11, w12, w13⟩ := wo.ex
      obtain ⟨oc, od, kV, doc, pm, an, cdv, ct, osl, rfl, lk, hcd⟩ := w3.ex
      obtain ⟨hr2, c, P, hcode, TB, hmT, hu⟩ := g.lam hlam
      have iu := fun W => SE.uni (ib (lamCt C sc) body hb) W
      let t : XK → TE := fun E => Classical.choose (iu (fun cls d _ H => E cls d H))
      have ht : ∀ E, (∀ X, Good Γ (r - 2) (lamCt C sc) X → Takes X (fun cls d _ H => E cls d H) → PE X body (t E)) ∧ TlE Γ (fun cls d _ H => E cls d H) (t E) (evE wf (fun j => cf (j + 2)) b) := fun E => Classical.choose_spec (iu (fun cls d _ H => E cls d H))
      have hG := word_gives (X := X) (x := Z.word) (q := X.env.qual ++ "<lambda>") (g := wa) (cdg := cdv) (l := l) (a := a) (by rw [g.mg]; exact w6) w7 w8
      refine ⟨_, LamX.pe_lamcall (t := t) (k := r - 2) (P := P) (c := c) (T := Γ.T) g1 (by rw [g.mg]; exact w1) (by rw [g.K]; exact w2) (by rw [g.K]; exact lk) (by rw [g.K]; exact hcd) (by rw [g.K]; exact w4) w5 w9 w10 hG
        (by rw [g.base, g.mg]; exact TB) hcode hmT hu (by rw [show r - 2 + 2 = r by omega]; exact g.room) (by rw [g.sc]; exact LamX.lamS_by hls) rfl (fun q cl pm cv ctv => rfl) (fun A outer s H E f c' hr => ?_) g2 w11 w12, fun σ H G L env S Q sl w sat => ?_⟩
      · refine (ht E).1 _ ⟨g.prog, g.w, g.K, g.mg, g.base, g.N, g.nd, rfl, rfl, hr, rfl, fun z => by cases z⟩ (takes_of rfl rfl rfl rfl)
      · refine ⟨w.tab, fun H1 eN T1 => ?_⟩
        have e1 : Ext L H L H1 := ⟨fun a o h _ n => eN a o h n, [], by simp, by simp⟩
        have ws1 : WS Γ.T G L H1 S := w.ext eN T1
        refine (ht _).2 σ H1 G L env S _ (sl.ext e1 w) ws1 ?_
        unfold evE at sat
        revert sat
        cases evE wf (fun j => cf (j + 2)) b env S with
        | ok d S1 => exact fun sat v H' L' e' w' _ => sat _ H' L' (Ext.trans ws1 e1 e') w' (.str _ (by decide))
        | exc c S1 =>
          intro sat dd H' L' e' w'
          rw [sat_bind] at sat
          obtain ⟨wd, hwd, post⟩ := sat_lift sat
          obtain ⟨q1, q2⟩ := w13 _ _ hwd
          refine ⟨wd, by rw [g.K]; exact q1, post _ H' L' (Ext.trans ws1 e1 e') w' (.str _ (big_line q2))⟩
        | stuck => exact fun sat => sat
    · cases h
  · cases h
theorem se_me {m : Me} {a : E} {as : A} {e : Expr} (h : chkE Z C (.me m a as) e = true) (ia : ∀ l, chkE Z C a l = true → SE Γ C r wf cf a l) (ias : ∀ l, chkA Z C as l = true → SA Γ C r wf cf as l) : SE Γ C r wf cf (.me m a as) e := by
  simp only [chkE] at h
  split at h <;> cases h
end
end Mi

set_option Elab.async false
set_option linter.all false
set_option maxRecDepth 100000
set_option maxHeartbeats 1000000
namespace Mi
open PySem PySem.Spec PyProof.Rows L2
section
variable {Γ : Pr} {Z : Sg} {C : Ct} {r : Nat} {cf : Nat → CallF} {wf : WordF}
theorem se_and {a b : E} {e : Expr} (h : chkE Z C (.and a b) e = true) (ia : ∀ l, chkE Z C a l = true → SE Γ C r wf cf a l) (ib : ∀ l, chkE Z C b l = true → SE Γ C r wf cf b l) : SE Γ C r wf cf (.and a b) e := by
  simp only [chkE] at h
  split at h
  · rename_i x y rest p
    rw [Bool.and_eq_true] at h
    refine se_of_seb (seb_and (ia x h.1) ?_)
    have h2 := h.2
    split at h2
    · exact seb_one (ib _ h2)
    · exact ib _ h2
  · cases h
theorem se_or {a b : E} {e : Expr} (h : chkE Z C (.or a b) e = true) (ia : ∀ l, chkE Z C a l = true → SE Γ C r wf cf a l) (ib : ∀ l, chkE Z C b l = true → SE Γ C r wf cf b l) : SE Γ C r wf cf (.or a b) e := by
  simp only [chkE] at h
  split at h
  · rename_i x y rest p
    rw [Bool.and_eq_true] at h
    refine se_of_seb (seb_or (ia x h.1) ?_)
    have h2 := h.2
    split at h2
    · exact seb_one (ib _ h2)
    · exact ib _ h2
  · cases h
/-- the reading of a test, and of it as the rest of a longer one -/
def SBq (Γ : Pr) (C : Ct) (r : Nat) (wf : WordF) (cf : Nat → CallF) (a : B) (e : Expr) : Prop := SB Γ C r wf cf a e ∧ ∀ op es p, e = .BoolOp op es p → SBB Γ C r wf cf p op a es
theorem sbq_and {a b : B} {e : Expr} (h : chkB Z C (.and a b) e = true) (ia : ∀ l, chkB Z C a l = true → SBq Γ C r wf cf a l) (ib : ∀ l, chkB Z C b l = true → SBq Γ C r wf cf b l) : SBq Γ C r wf cf (.and a b) e := by
  simp only [chkB] at h
  split at h
  · rename_i x y rest p
    rw [Bool.and_eq_true] at h
    have q : SBB Γ C r wf cf p .And (.and a b) (x :: y :: rest) := by
      refine sbb_and (ia x h.1).1 ?_
      have h2 := h.2
      split at h2
      · exact sbb_one_and (ib _ h2).1
      · exact (ib _ h2).2 _ _ _ rfl
    refine ⟨sb_of_sbb q, fun op es p' z => ?_⟩
    cases z
    exact q
  · cases h
theorem sbq_or {a b : B} {e : Expr} (h : chkB Z C (.or a b) e = true) (ia : ∀ l, chkB Z C a l = true → SBq Γ C r wf cf a l) (ib : ∀ l, chkB Z C b l = true → SBq Γ C r wf cf b l) : SBq Γ C r wf cf (.or a b) e := by
  simp only [chkB] at h
  split at h
  · rename_i x y rest p
    rw [Bool.and_eq_true] at h
    have q : SBB Γ C r wf cf p .Or (.or a b) (x :: y :: rest) := by
      refine sbb_or (ia x h.1).1 ?_
      have h2 := h.2
      split at h2
      · exact sbb_one_or (ib _ h2).1
      · exact (ib _ h2).2 _ _ _ rfl
    refine ⟨sb_of_sbb q, fun op es p' z => ?_⟩
    cases z
    exact q
  · cases h
theorem sbq_val {a : E} {e : Expr} (h : chkB Z C (.val a) e = true) (ia : ∀ l, chkE Z C a l = true → SE Γ C r wf cf a l) : SBq Γ C r wf cf (.val a) e :=
  ⟨sb_val h ia, fun op es p z => by subst z; simp [chkB, plainTest] at h⟩
theorem sbq_cmp {o : Cop} {a b : E} {e : Expr} (h : chkB Z C (.cmp o a b) e = true) (ia : ∀ l, chkE Z C a l = true → SE Γ C r wf cf a l) (ib : ∀ l, chkE Z C b l = true → SE Γ C r wf cf b l) : SBq Γ C r wf cf (.cmp o a b) e :=
  ⟨sb_cmp h ia ib, fun op es p z => by subst z; simp [chkB, xCmp] at h⟩
theorem sbq_chain {o o' : Cop} {a b c : E} {e : Expr} (h : chkB Z C (.chain o o' a b c) e = true) (ia : ∀ l, chkE Z C a l = true → SE Γ C r wf cf a l) (ib : ∀ l, chkE Z C b l = true → SE Γ C r wf cf b l) (ic : ∀ l, chkE Z C c l = true → SE Γ C r wf cf c l) : SBq Γ C r wf cf (.chain o o' a b c) e :=
  ⟨sb_chain h ia ib ic, fun op es p z => by subst z; simp [chkB, xCmp2] at h⟩
theorem sbq_not {a : B} {e : Expr} (h : chkB Z C (.not a) e = true) (ia : ∀ l, chkB Z C a l = true → SB Γ C r wf cf a l) : SBq Γ C r wf cf (.not a) e :=
  ⟨sb_not h ia, fun op es p z => by subst z; simp [chkB, xNot] at h⟩
end
section
variable {Γ : Pr} {Z : Sg} {wf : WordF}
mutual
theorem sE (ok : PrOk Γ Z) (wo : WordOk Γ Z wf) : ∀ (a : E) (C : Ct) (r : Nat) (cf : Nat → CallF), CFok Γ r cf → ∀ (e : Expr), chkE Z C a e = true → SE Γ C r wf cf a e
  | .var i, C, r, cf, hc, e, h => se_var h
  | .lit d, C, r, cf, hc, e, h => se_lit h
  | .con x i, C, r, cf, hc, e, h => se_con ok h
  | .bin o a b, C, r, cf, hc, e, h => se_bin h (sE ok wo a C r cf hc) (sE ok wo b C r cf hc)
  | .neg a, C, r, cf, hc, e, h => se_neg h (sE ok wo a C r cf hc)
  | .cmp o a b, C, r, cf, hc, e, h => se_cmp h (sE ok wo a C r cf hc) (sE ok wo b C r cf hc)
  | .chain o o' a b c, C, r, cf, hc, e, h => se_chain h (sE ok wo a C r cf hc) (sE ok wo b C r cf hc) (sE ok wo c C r cf hc)
  | .and a b, C, r, cf, hc, e, h => se_and h (sE ok wo a C r cf hc) (sE ok wo b C r cf hc)
  | .or a b, C, r, cf, hc, e, h => se_or h (sE ok wo a C r cf hc) (sE ok wo b C r cf hc)
  | .not a, C, r, cf, hc, e, h => se_not h (sE ok wo a C r cf hc)
  | .ite c a b, C, r, cf, hc, e, h => se_ite h (fun l hl => (sB ok wo c C r cf hc l hl).1) (sE ok wo a C r cf hc) (sE ok wo b C r cf hc)
  | .tup as, C, r, cf, hc, e, h => se_tup h (sA ok wo as C r cf hc)
  | .lst as, C, r, cf, hc, e, h => se_lst h (sA ok wo as C r cf hc)
  | .nloc as, C, r, cf, hc, e, h => se_nloc h (sA ok wo as C r cf hc)
  | .idx a i, C, r, cf, hc, e, h => se_idx h (sE ok wo a C r cf hc) (sE ok wo i C r cf hc)
  | .idxv v i, C, r, cf, hc, e, h => se_idxv h (sE ok wo i C r cf hc)
  | .lenv v, C, r, cf, hc, e, h => se_lenv ok h
  | .slice a lo hi, C, r, cf, hc, e, h => se_slice h (sE ok wo a C r cf hc) (sO ok wo lo C r cf hc) (sO ok wo hi C r cf hc)
  | .rev a, C, r, cf, hc, e, h => se_rev h (sE ok wo a C r cf hc)
  | .call f as, C, r, cf, hc, e, h => se_call ok hc h (sA ok wo as C r cf hc)
  | .bi f as, C, r, cf, hc, e, h => se_bi ok h (sA ok wo as C r cf hc)
  | .lrng (.rng1 a), C, r, cf, hc, e, h => se_lrng ok h (fun a' z => by
      have : a' = a := by rcases z with z | ⟨b, z | z⟩ <;> cases z; rfl
      rw [this]; exact sE ok wo a C r cf hc)
  | .lrng (.rng2 a b), C, r, cf, hc, e, h => se_lrng ok h (fun a' z => by
      have : a' = a ∨ a' = b := by
        rcases z with z | ⟨b, z | z⟩ <;> cases z
        · exact .inl rfl
        · exact .inr rfl
      rcases this with rfl | rfl
      · exact sE ok wo a' C r cf hc
      · exact sE ok wo a' C r cf hc)
  | .lrng (.val a), C, r, cf, hc, e, h => se_lrng ok h (fun a' z => by rcases z with z | ⟨b, z | z⟩ <;> cases z)
  | .lrng (.enum a), C, r, cf, hc, e, h => se_lrng ok h (fun a' z => by rcases z with z | ⟨b, z | z⟩ <;> cases z)
  | .lrng (.zip a b), C, r, cf, hc, e, h => se_lrng ok h (fun a' z => by rcases z with z | ⟨b, z | z⟩ <;> cases z)
  | .me m a as, C, r, cf, hc, e, h => se_me h (sE ok wo a C r cf hc) (sA ok wo as C r cf hc)
  | .inst t a, C, r, cf, hc, e, h => se_inst ok h (sE ok wo a C r cf hc)
  | .comp own tg it c el, C, r, cf, hc, e, h => se_comp h (sI ok wo it C r cf hc) (fun C l hl => sO2 ok wo c C r cf hc l hl) (fun C l hl => sE ok wo el C r cf hc l hl)
  | .word b, C, r, cf, hc, e, h => se_word wo h (fun C l hl => sE ok wo b C (r - 2) (fun j => cf (j + 2)) hc.down l hl)
theorem sA (ok : PrOk Γ Z) (wo : WordOk Γ Z wf) : ∀ (a : A) (C : Ct) (r : Nat) (cf : Nat → CallF), CFok Γ r cf → ∀ (e : List Expr), chkA Z C a e = true → SA Γ C r wf cf a e
  | .nil, C, r, cf, hc, e, h => sa_nil h
  | .cons a as, C, r, cf, hc, e, h => sa_cons h (sE ok wo a C r cf hc) (sA ok wo as C r cf hc)
theorem sB (ok : PrOk Γ Z) (wo : WordOk Γ Z wf) : ∀ (a : B) (C : Ct) (r : Nat) (cf : Nat → CallF), CFok Γ r cf → ∀ (e : Expr), chkB Z C a e = true → SBq Γ C r wf cf a e
  | .val a, C, r, cf, hc, e, h => sbq_val h (sE ok wo a C r cf hc)
  | .cmp o a b, C, r, cf, hc, e, h => sbq_cmp h (sE ok wo a C r cf hc) (sE ok wo b C r cf hc)
  | .chain o o' a b c, C, r, cf, hc, e, h => sbq_chain h (sE ok wo a C r cf hc) (sE ok wo b C r cf hc) (sE ok wo c C r cf hc)
  | .and a b, C, r, cf, hc, e, h => sbq_and h (sB ok wo a C r cf hc) (sB ok wo b C r cf hc)
  | .or a b, C, r, cf, hc, e, h => sbq_or h (sB ok wo a C r cf hc) (sB ok wo b C r cf hc)
  | .not a, C, r, cf, hc, e, h => sbq_not h (fun l hl => (sB ok wo a C r cf hc l hl).1)
theorem sO (ok : PrOk Γ Z) (wo : WordOk Γ Z wf) : ∀ (a : O) (C : Ct) (r : Nat) (cf : Nat → CallF), CFok Γ r cf → ∀ (e : Option Expr), chkO Z C a e = true → SO Γ C r wf cf a e
  | .no, C, r, cf, hc, e, h => so_no h
  | .yes a, C, r, cf, hc, e, h => so_yes h (sE ok wo a C r cf hc)
theorem sO2 (ok : PrOk Γ Z) (wo : WordOk Γ Z wf) : ∀ (a : O2) (C : Ct) (r : Nat) (cf : Nat → CallF), CFok Γ r cf → ∀ (e : List Expr), chkO2 Z C a e = true → SO2 Γ C r wf cf a e
  | .no, C, r, cf, hc, e, h => so2_no h
  | .yes a, C, r, cf, hc, e, h => so2_yes h (fun l hl => (sB ok wo a C r cf hc l hl).1)
theorem sI (ok : PrOk Γ Z) (wo : WordOk Γ Z wf) : ∀ (a : I) (C : Ct) (r : Nat) (cf : Nat → CallF), CFok Γ r cf → ∀ (e : Expr), chkI Z C a e = true → SI Γ C r wf cf a e
  | .val a, C, r, cf, hc, e, h => si_val h (sE ok wo a C r cf hc)
  | .rng1 a, C, r, cf, hc, e, h => si_rng1 ok h (sE ok wo a C r cf hc)
  | .rng2 a b, C, r, cf, hc, e, h => si_rng2 ok h (sE ok wo a C r cf hc) (sE ok wo b C r cf hc)
  | .enum a, C, r, cf, hc, e, h => si_enum ok h (sE ok wo a C r cf hc)
  | .zip a b, C, r, cf, hc, e, h => si_zip ok h (sE ok wo a C r cf hc) (sE ok wo b C r cf hc)
end
end
end Mi

set_option Elab.async false
set_option linter.all false
set_option maxRecDepth 100000
set_option maxHeartbeats 1000000
namespace Mi
open PySem PySem.Spec PyProof.Rows L2
/-! ### a new list -/
def PostN (T : Tb) (G : Addr → Prop) (L : List Addr) (H : Hp) (d : D) (S' : Store) (Q : VK) : Prop := ∃ ds, d = .list ds ∧ ∀ a vs H' L', Ext L H L' H' → WS T (fun b => G b ∨ b = a) L' H' S' → (∀ o, H a = some o → ∃ ps, o = .tbl ps) → H' a = some (.lst vs) → ¬ Bad G L' a → Reps H' (Bad (fun b => G b ∨ b = a) L') L' ds vs → Q (.ref a) H'
def TlN (Γ : Pr) (W : WX) (t : TE) (f : Env → Store → R D) : Prop := ∀ (σ : L2.St) (H : Hp) (G : Addr → Prop) (L : List Addr) (env : Env) (S : Store) (Q : VK), SlE G L H σ env → WS Γ.T G L H S →
  Sat (f env S) (fun d S' => PostN Γ.T G L H d S' Q) (PostX Γ W σ G L H) → t σ H Q
def freshE : E → Bool
  | .lst _ => true | .bin .add _ _ => true | .bin .mul _ _ => true | .comp .. => true | _ => false
def SN (Γ : Pr) (C : Ct) (r : Nat) (wf : WordF) (cf : Nat → CallF) (a : E) (e : Expr) : Prop := ∀ X W, Good Γ r C X → Takes X W → ∃ t, PE X e t ∧ TlN Γ W t (evE wf cf a)
section
variable {T : Tb} {G : Addr → Prop} {L L1 : List Addr} {H H1 : Hp} {S1 S' : Store} {Q : VK} {d : D}
/-- the new list p of H1, where H1 is H grown -/
theorem PostN.at_ {ds : List D} {vs : List V} {p : Addr} (w : WS T G L H S') {w0 : Store} (q : PostN T G L H (.list ds) S1 Q) (e1 : Ext L H L1 H1) (w1 : WS T G L1 H1 S1) (hp : H1 p = none) (r : Reps H1 (Bad G L1) L1 ds vs) : Q (.ref p) (upd H1 p (.lst vs)) := by
  obtain ⟨ds', z, q⟩ := q
  cases z
  refine q p vs _ L1 (Ext.trans w1 e1 (Ext.new hp)) (w1.guard hp) (fun o ho => ?_) upd_same ?_ (r.kp (kp_guard hp))
  · by_cases ht : ∃ ps, o = .tbl ps
    · exact ht
    · exfalso
      by_cases hl : p ∈ L
      · obtain ⟨M, hM, _⟩ := e1.more
        obtain ⟨us, z⟩ := w1.trk (a := p) (by rw [hM]; exact List.mem_append_left _ hl)
        rw [hp] at z; cases z
      · have z := e1.keep _ _ ho hl (fun ps z => ht ⟨ps, z⟩)
        rw [hp] at z; cases z
  · exact w1.fresh hp
end
theorem add_list_inv {a b : D} {ds : List D} (h : binD .add a b = some (.list ds)) : ∃ x y, a = .list x ∧ b = .list y ∧ x.length + y.length ≤ BIG ∧ ds = x ++ y := by
  cases a <;> cases b <;> simp [binD] at h
  exact ⟨_, _, rfl, rfl, h.1, h.2.symm⟩
theorem mul_list_inv {a b : D} {ds : List D} (h : binD .mul a b = some (.list ds)) : ∃ x k, a = .list x ∧ b = .int k ∧ (0 ≤ k ∧ k ≤ 1000 ∧ x.length ≤ 1000) ∧ ds = (List.replicate k.toNat x).flatten := by
  cases a <;> cases b <;> simp [binD] at h
  exact ⟨_, _, rfl, rfl, h.1, h.2.symm⟩
section
variable {Γ : Pr} {Z : Sg} {C : Ct} {r : Nat} {cf : Nat → CallF} {wf : WordF}
theorem sn_lst (ok : PrOk Γ Z) (wo : WordOk Γ Z wf) (hc : CFok Γ r cf) {as : A} {e : Expr} (h : chkE Z C (.lst as) e = true) : SN Γ C r wf cf (.lst as) e := by
  intro X W g tk
  simp only [chkE] at h
  split at h
  · rename_i l hx
    obtain ⟨p, rfl⟩ := xLst_of hx
    obtain ⟨ta, pa, ta1⟩ := sA ok wo as C r cf hc l h X W g tk
    refine ⟨_, pe_lst pa, fun σ H G L env S Q sl w sat => ?_⟩
    rw [evE, sat_bind] at sat
    refine ta1 σ H G L env S _ sl w (sat.imp (fun ds S1 q vs H1 L1 e1 w1 r1 => ?_) fun _ _ q => q)
    by_cases hl : ds.length ≤ BIG
    · rw [if_pos hl] at q
      exact ⟨by rw [← r1.length]; exact big_line hl, fun p hp => PostN.at_ (w0 := S) w q e1 w1 hp r1⟩
    · rw [if_neg hl] at q
      exact q.elim
  · cases h
theorem sn_add (ok : PrOk Γ Z) (wo : WordOk Γ Z wf) (hc : CFok Γ r cf) {a b : E} {e : Expr} (h : chkE Z C (.bin .add a b) e = true) : SN Γ C r wf cf (.bin .add a b) e := by
  intro X W g tk
  simp only [chkE] at h
  split at h
  · rename_i l op rr hx
    obtain ⟨p, rfl⟩ := xBin_of hx
    simp only [Bool.and_eq_true] at h
    obtain ⟨⟨h0, h1⟩, h2⟩ := h
    rw [bop_of h0]
    obtain ⟨ta, pa, ta1⟩ := sE ok wo a C r cf hc l h1 X W g tk
    obtain ⟨tb, pb, tb1⟩ := sE ok wo b C r cf hc rr h2 X W g tk
    refine ⟨_, pe_op op_catR pa pb, fun σ H G L env S Q sl w sat => ?_⟩
    rw [evE, sat_bind] at sat
    simp only [sat_bind] at sat
    refine tl_two ta1 tb1 sl w sat fun a b S2 x y H2 L2 q e2 w2 r1 r2 => ?_
    obtain ⟨d, hd, post⟩ := sat_lift q
    obtain ⟨ds, rfl, post'⟩ := id post
    obtain ⟨xs, ys, rfl, rfl, hl, rfl⟩ := add_list_inv hd
    obtain ⟨a1, vs, rfl, g1, n1, r1⟩ := r1.lst_inv
    obtain ⟨b1, us, rfl, g2, n2, r2⟩ := r2.lst_inv
    exact ⟨_, _, _, _, rfl, rfl, g1, g2, by rw [← r1.length, ← r2.length]; exact big_line hl, fun p hp => PostN.at_ (w0 := S) w post e2 w2 hp (r1.append r2)⟩
  · cases h
theorem sn_mul (ok : PrOk Γ Z) (wo : WordOk Γ Z wf) (hc : CFok Γ r cf) {a b : E} {e : Expr} (h : chkE Z C (.bin .mul a b) e = true) : SN Γ C r wf cf (.bin .mul a b) e := by
  intro X W g tk
  simp only [chkE] at h
  split at h
  · rename_i l op rr hx
    obtain ⟨p, rfl⟩ := xBin_of hx
    simp only [Bool.and_eq_true] at h
    obtain ⟨⟨h0, h1⟩, h2⟩ := h
    rw [bop_of h0]
    obtain ⟨ta, pa, ta1⟩ := sE ok wo a C r cf hc l h1 X W g tk
    obtain ⟨tb, pb, tb1⟩ := sE ok wo b C r cf hc rr h2 X W g tk
    refine ⟨_, pe_op op_repR pa pb, fun σ H G L env S Q sl w sat => ?_⟩
    rw [evE, sat_bind] at sat
    simp only [sat_bind] at sat
    refine tl_two ta1 tb1 sl w sat fun a b S2 x y H2 L2 q e2 w2 r1 r2 => ?_
    obtain ⟨d, hd, post⟩ := sat_lift q
    obtain ⟨ds, rfl, post'⟩ := id post
    obtain ⟨xs, k, rfl, rfl, hk, rfl⟩ := mul_list_inv hd
    obtain ⟨a1, vs, rfl, g1, n1, r1⟩ := r1.lst_inv
    obtain rfl := r2.int_inv
    have hlen : vs.length * k.toNat ≤ sizeLine := by
      have e1 : vs.length ≤ 1000 := by rw [← r1.length]; exact hk.2.2
      have e2 : k.toNat ≤ 1000 := by omega
      have e3 := Nat.mul_le_mul e1 e2
      rw [sizeLine_eq]; omega
    exact ⟨_, _, _, rfl, rfl, g1, by omega, by omega, hlen, fun p hp => PostN.at_ (w0 := S) w post e2 w2 hp (r1.flat _)⟩
  · cases h
end
end Mi

set_option Elab.async false
set_option linter.all false
set_option maxRecDepth 100000
set_option maxHeartbeats 1000000
namespace Mi
open PySem PySem.Spec PyProof.Rows L2
/-! ### name = value -/
def swN (sc : Scope) (x : Str) (px : Pos) (scope : Scope) (pos : Pos) : Bool :=
  decide (sc.names.lookup x = some .local) && (px.line == pos.line) && !(scope.names.any fun (n, k) => n == x && (k == .local || k == .cell))
theorem sw_false {elt : Expr} {gs : List Comprehension} {scope : Scope} {pos px : Pos} {x : Str} {l : Nat} {env : PySem.Env} (h : swN env.scope x px scope pos = false) : swapsWith (.ListComp elt gs scope pos) (some (.Name x px)) l env = pure false := by
  unfold swapsWith
  simp only [Expr.pos]
  have key : (env.kindOf x == some .local && px.line == pos.line && !(scope.names.any fun (n, k) => n == x && (k == .local || k == .cell))) = false := by
    unfold swN at h
    have e : (env.kindOf x == some .local) = decide (env.scope.names.lookup x = some .local) := by
      show (env.scope.names.lookup x == some .local) = _
      by_cases q : env.scope.names.lookup x = some .local
      · rw [q]; rfl
      · rw [decide_eq_false q]
        exact beq_eq_false_iff_ne.mpr q
    rw [e]; exact h
  rw [Bool.and_assoc] at key
  show (pure (env.blockKind == .function && (env.kindOf x == some .local) && (px.line == pos.line) && !(scope.names.any fun (n, k) => n == x && (k == .local || k == .cell))) : Sem Bool) = pure false
  rw [Bool.and_assoc, Bool.and_assoc, key, Bool.and_false]
def isLC : Expr → Bool | .ListComp .. => true | _ => false
def isCompE : E → Bool | .comp .. => true | _ => false
/-- the value of name = value -/
def valOk (e : E) (v : Expr) : Bool := notComp v || (isLC v && isCompE e)
section
variable {Γ : Pr} {Z : Sg} {C : Ct} {r : Nat} {cf : Nat → CallF} {wf : WordF}
theorem Good.loc4 {X : Cx} (g : Good Γ r C X) {i : Nat} {x : Str} (h : locB C i x = true) : X.N.Nodup ∧ X.N[i]? = some x ∧ Loc X.env.scope x ∧ (X.fn x = true ∨ X.env.scope.names.lookup x = some .local) := by
  unfold locB at h
  simp only [Bool.and_eq_true, decide_eq_true_eq] at h
  refine ⟨by rw [g.N]; exact g.nd, by rw [g.N]; exact h.1, ?_, ?_⟩
  · rw [g.sc]
    have h2 := h.2
    split at h2
    · exact .inl (by assumption)
    · exact .inr (by assumption)
    · cases h2
  · rw [g.sc, g.fn]
    have h2 := h.2
    split at h2
    · exact .inr (by assumption)
    · exact .inl h2
    · cases h2
theorem comp_asg (ok : PrOk Γ Z) (wo : WordOk Γ Z wf) (hc : CFok Γ r cf) (hk : C.sc.kind = .function) {own : List (Str × Nat)} {tg : Tg} {it : I} {c : O2} {el : E} {e : Expr} (h : chkE Z C (.comp own tg it c el) e = true)
    {X : Cx} {W : WX} (g : Good Γ r C X) (tk : Takes X W) {i : Nat} {x : Str} {px pos : Pos} (hl : locB C i x = true) : ∃ t, PS X (.Assign [.Name x px] e pos) (tAsg t (gName i)) ∧ TlN Γ W t (evE wf cf (.comp own tg it c el)) ∧ TlE Γ W t (evE wf cf (.comp own tg it c el)) := by
  simp only [chkE] at h
  split at h
  · rename_i elt t iter ifs sc hx
    obtain ⟨p, rfl⟩ := xComp_of hx
    simp only [Bool.and_eq_true, Bool.or_eq_true, Bool.not_eq_true', List.all_eq_true, decide_eq_true_eq] at h
    obtain ⟨⟨⟨⟨⟨⟨⟨h1, h2⟩, h3⟩, h4⟩, h5⟩, h6⟩, h7⟩, h8⟩ := h
    have hpair : isPair it = true → ∃ is, tg = .tup is := fun hp => by
      rcases h3 with h3 | h3
      · rw [hp] at h3; cases h3
      · cases tg with
        | name i => cases h3
        | tup is => exact ⟨is, rfl⟩
    have hpt : isPair it = true → ∃ es k p, t = .Tuple es k p := fun hp => by
      obtain ⟨is, rfl⟩ := hpair hp
      simp only [chkG] at h4
      split at h4
      · rename_i es hes
        obtain ⟨k, p, rfl⟩ := xTup_of hes
        exact ⟨es, k, p, rfl⟩
      · cases h4
    obtain ⟨wi, gg, tt, te, hX, htl⟩ := comp_parts (Γ := Γ) h1 (sI ok wo it C r cf hc iter h2) hpair hpt h4 h5 (sO2 ok wo c _ r cf hc ifs h6) (sE ok wo el _ r cf hc elt h7) W
    obtain ⟨q1, q2, q3, q4, q5⟩ := hX X g tk
    obtain ⟨n1, n2, n3, n4⟩ := g.loc4 hl
    refine ⟨tLc wi gg tt te (own.map (·.2)), ?_, fun σ H G L env S Q sl w sat => ?_, fun σ H G L env S Q sl w sat => ?_⟩
    · cases hsw : swN C.sc x px sc p with
      | true =>
        unfold swN at hsw
        simp only [Bool.and_eq_true, decide_eq_true_eq, Bool.not_eq_true'] at hsw
        obtain ⟨⟨s1, s2⟩, s3⟩ := hsw
        exact ps_setLc g.calm n1 n2 (by rw [g.sc]; exact s1) (sw_true (by rw [g.sc]; exact hk) (by rw [g.sc]; exact s1) s2 s3) q1 q2 q3 q4 q5 (nofold h8)
      | false => exact ps_set n1 n2 n3 (pe_lc g.calm n1 q1 q2 q3 q4 q5 (nofold h8)) (sw_false (by rw [g.sc]; exact hsw)) n4
    · refine htl σ H G L env S Q sl w (sat.imp (fun d S' post a vs ds H' L' hd e1 w1 hn ha nb rs => ?_) fun _ _ q => q)
      obtain ⟨ds', hd', post⟩ := post
      rw [hd] at hd'
      cases hd'
      exact post a vs H' L' e1 w1 hn ha nb rs
    · refine htl σ H G L env S Q sl w (sat.imp (fun d S' post a vs ds H' L' hd e1 w1 hn ha nb rs => ?_) fun _ _ q => q)
      subst hd
      exact post _ H' L' e1 (w1.less fun _ h => .inl h) (.lst (.inl ha) nb (rs.kp (kp_mono fun _ h => .inl h)))
  · cases h
theorem asg_any (ok : PrOk Γ Z) (wo : WordOk Γ Z wf) (hc : CFok Γ r cf) (hk : C.sc.kind = .function) {a : E} {e : Expr} (h : chkE Z C a e = true) (hv : valOk a e = true)
    {X : Cx} {W : WX} (g : Good Γ r C X) (tk : Takes X W) {i : Nat} {x : Str} {px pos : Pos} (hl : locB C i x = true) : ∃ t, PS X (.Assign [.Name x px] e pos) (tAsg t (gName i)) ∧ TlE Γ W t (evE wf cf a) := by
  unfold valOk at hv
  rw [Bool.or_eq_true] at hv
  rcases hv with hv | hv
  · obtain ⟨t, pt, ht⟩ := sE ok wo a C r cf hc e h X W g tk
    obtain ⟨n1, n2, n3, n4⟩ := g.loc4 hl
    exact ⟨t, ps_set n1 n2 n3 pt (noswap hv) n4, ht⟩
  · rw [Bool.and_eq_true] at hv
    cases a <;> try (cases hv.2; done)
    obtain ⟨t, pt, _, ht⟩ := comp_asg ok wo hc hk h g tk hl (px := px) (pos := pos)
    exact ⟨t, pt, ht⟩
theorem asg_new (ok : PrOk Γ Z) (wo : WordOk Γ Z wf) (hc : CFok Γ r cf) (hk : C.sc.kind = .function) {a : E} {e : Expr} (h : chkE Z C a e = true) (hv : valOk a e = true) (hf : freshE a = true)
    {X : Cx} {W : WX} (g : Good Γ r C X) (tk : Takes X W) {i : Nat} {x : Str} {px pos : Pos} (hl : locB C i x = true) : ∃ t, PS X (.Assign [.Name x px] e pos) (tAsg t (gName i)) ∧ TlN Γ W t (evE wf cf a) := by
  unfold valOk at hv
  rw [Bool.or_eq_true] at hv
  have plain : SN Γ C r wf cf a e → notComp e = true → ∃ t, PS X (.Assign [.Name x px] e pos) (tAsg t (gName i)) ∧ TlN Γ W t (evE wf cf a) := fun sn hn => by
    obtain ⟨t, pt, ht⟩ := sn X W g tk
    obtain ⟨n1, n2, n3, n4⟩ := g.loc4 hl
    exact ⟨t, ps_set n1 n2 n3 pt (noswap hn) n4, ht⟩
  cases a <;> try (cases hf; done)
  · rename_i o a b
    have hn : notComp e = true := by
      rcases hv with hv | hv
      · exact hv
      · cases (Bool.and_eq_true _ _ ▸ hv).2
    cases o <;> try (cases hf; done)
    · exact plain (sn_add ok wo hc h) hn
    · exact plain (sn_mul ok wo hc h) hn
  · have hn : notComp e = true := by
      rcases hv with hv | hv
      · exact hv
      · cases (Bool.and_eq_true _ _ ▸ hv).2
    exact plain (sn_lst ok wo hc h) hn
  · obtain ⟨t, pt, ht, _⟩ := comp_asg ok wo hc hk h g tk hl (px := px) (pos := pos)
    exact ⟨t, pt, ht⟩
end
end Mi

set_option Elab.async false
set_option linter.all false
set_option maxRecDepth 100000
set_option maxHeartbeats 1000000
namespace Mi
open PySem PySem.Spec PyProof.Rows L2
/-! ### the state of a def's run -/
structure Bs where
  M : Addr → Prop
  L : List Addr
  H : Hp
structure ExtM (b : Bs) (L : List Addr) (H : Hp) : Prop where
  keep : ∀ a o, b.H a = some o → a ∉ b.L → ¬ b.M a → (∀ ps, o ≠ .tbl ps) → H a = some o
  more : ∃ N, L = b.L ++ N ∧ ∀ a ∈ N, ∀ o, b.H a = some o → ∃ ps, o = .tbl ps
  ml : ∀ a, b.M a → ∃ vs, H a = some (.lst vs)
def OwnA (σ : L2.St) (env : Env) (a : Addr) : Prop := ∃ (i : Nat) (ds : List D), env[i]? = some (.own ds) ∧ σ[i]? = some (some (.ref a))
abbrev Gd (G0 : Addr → Prop) (σ : L2.St) (env : Env) : Addr → Prop := fun a => G0 a ∨ OwnA σ env a
structure Stt (T : Tb) (G0 : Addr → Prop) (bs : List Bs) (L : List Addr) (σ : L2.St) (env : Env) (S : Store) (H : Hp) : Prop where
  ext : ∀ b ∈ bs, ExtM b L H
  fr : ∀ b ∈ bs, ∀ a, OwnA σ env a → b.M a ∨ ∀ o, b.H a = some o → ∃ ps, o = .tbl ps
  g0 : ∀ a, OwnA σ env a → ¬ G0 a
  inj : ∀ (i j : Nat) (a : Addr) (ds es : List D), env[i]? = some (.own ds) → env[j]? = some (.own es) → σ[i]? = some (some (.ref a)) → σ[j]? = some (some (.ref a)) → i = j
  ws : WS T (Gd G0 σ env) L H S
  sl : SlE (Gd G0 σ env) L H σ env
def OwnSub (σ : L2.St) (env : Env) (σ1 : L2.St) (env1 : Env) : Prop := ∀ (i : Nat) (ds : List D), env1[i]? = some (.own ds) → env[i]? = some (.own ds) ∧ σ1[i]? = σ[i]?
section
variable {T : Tb} {G0 G G' : Addr → Prop} {bs : List Bs} {b : Bs} {L L' : List Addr} {H H' : Hp} {σ σ1 : L2.St} {env env1 : Env} {S S' : Store}
theorem ExtM.trans (w : WS T G L H S) (w' : WS T G' L' H' S') (m : ExtM b L H) (e : Ext L H L' H') : ExtM b L' H' := by
  obtain ⟨N, hN, fN⟩ := m.more
  obtain ⟨N', hN', fN'⟩ := e.more
  have ml : ∀ a, b.M a → ∃ vs, H' a = some (.lst vs) := fun a ha => by
    obtain ⟨vs, hv⟩ := m.ml a ha
    by_cases hl : a ∈ L
    · exact w'.trk (by rw [hN']; exact List.mem_append_left _ hl)
    · exact ⟨vs, e.keep _ _ hv hl (fun ps z => by cases z)⟩
  refine ⟨fun a o h n1 n2 n3 => ?_, ⟨N ++ N', by rw [hN', hN, List.append_assoc], fun a ha o h => ?_⟩, ml⟩
  · refine e.keep a o (m.keep a o h n1 n2 n3) (fun z => ?_) n3
    rw [hN] at z
    rcases List.mem_append.mp z with z | z
    · exact n1 z
    · obtain ⟨ps, q⟩ := fN a z o h
      exact n3 ps q
  · rcases List.mem_append.mp ha with z | z
    · exact fN a z o h
    · by_cases ht : ∃ ps, o = .tbl ps
      · exact ht
      · exfalso
        have nt : ∀ ps, o ≠ .tbl ps := fun ps q => ht ⟨ps, q⟩
        by_cases hM : b.M a
        · obtain ⟨vs, hv⟩ := m.ml a hM
          obtain ⟨ps, q⟩ := fN' a z _ hv
          cases q
        · by_cases hL : a ∈ b.L
          · obtain ⟨vs, hv⟩ := w.trk (a := a) (by rw [hN]; exact List.mem_append_left _ hL)
            obtain ⟨ps, q⟩ := fN' a z _ hv
            cases q
          · obtain ⟨ps, q⟩ := fN' a z _ (m.keep a o h hL hM nt)
            exact nt ps q
theorem ownSub_own (o : OwnSub σ env σ1 env1) {a : Addr} (h : OwnA σ1 env1 a) : OwnA σ env a := by
  obtain ⟨i, ds, h1, h2⟩ := h
  obtain ⟨q1, q2⟩ := o i ds h1
  exact ⟨i, ds, q1, by rw [← q2]; exact h2⟩
theorem SlE.less (s : SlE G L H σ env) (h : ∀ a, G' a → G a) (k : ∀ a, OwnA σ env a → G' a) : SlE G' L H σ env :=
  ⟨s.len, fun i d e => by
    obtain ⟨v, h1, h2⟩ := s.val i d e
    exact ⟨v, h1, h2.kp (kp_mono h)⟩, fun i ds e => by
    obtain ⟨a, vs, h1, h2, h3, h4⟩ := s.own i ds e
    exact ⟨a, vs, h1, h2, h3.kp (kp_mono h), k a ⟨i, ds, e, h1⟩⟩⟩
/-- the names changed -/
theorem Stt.names (st : Stt T G0 bs L σ env S H) (o : OwnSub σ env σ1 env1) (sl : SlE (Gd G0 σ env) L H σ1 env1) : Stt T G0 bs L σ1 env1 S H := by
  have hG : ∀ a, Gd G0 σ1 env1 a → Gd G0 σ env a := fun a h => h.imp id fun z => ownSub_own o z
  refine ⟨st.ext, fun b hb a ha => st.fr b hb a (ownSub_own o ha), fun a ha => st.g0 a (ownSub_own o ha), fun i j a ds es h1 h2 h3 h4 => ?_, st.ws.less hG, sl.less hG fun a h => .inr h⟩
  obtain ⟨p1, p2⟩ := o i ds h1
  obtain ⟨p3, p4⟩ := o j es h2
  exact st.inj i j a ds es p1 p3 (by rw [← p2]; exact h3) (by rw [← p4]; exact h4)
/-- the heap grew -/
theorem Stt.grow (st : Stt T G0 bs L σ env S H) (e : Ext L H L' H') (w : WS T (Gd G0 σ env) L' H' S') : Stt T G0 bs L' σ env S' H' :=
  ⟨fun b hb => (st.ext b hb).trans st.ws w e, st.fr, st.g0, st.inj, w, st.sl.ext e st.ws⟩
theorem setNames_own : ∀ {is : List Nat} {ds : List D} {env env1 : Env}, setNames is ds env = some env1 → ∀ (i : Nat) (es : List D), env1[i]? = some (.own es) → i ∉ is ∧ env[i]? = some (.own es)
  | [], [], env, env1, h, i, es, e => by
    cases h
    exact ⟨by simp, e⟩
  | j :: is, d :: ds, env, env1, h, i, es, e => by
    simp only [setNames] at h
    split at h
    · rename_i hj
      obtain ⟨h1, h2⟩ := setNames_own h i es e
      by_cases hij : j = i
      · subst hij
        rw [List.getElem?_set_self hj] at h2
        cases h2
      · rw [List.getElem?_set_ne hij] at h2
        exact ⟨fun z => (List.mem_cons.mp z).elim (fun z => hij z.symm) h1, h2⟩
    · cases h
  | [], _ :: _, _, _, h, _, _, _ => by simp [setNames] at h
  | _ :: _, [], _, _, h, _, _, _ => by simp [setNames] at h
theorem wipe_get {i : Nat} : ∀ {ws : List Nat} {σ : L2.St}, i ∉ ws → (L2.wipe σ ws)[i]? = σ[i]?
  | [], σ, _ => rfl
  | w :: ws, σ, h => by
    show ((L2.wipe σ ws).set w none)[i]? = σ[i]?
    rw [List.getElem?_set_ne (fun z => h (by rw [z]; exact List.mem_cons_self))]
    exact wipe_get fun z => h (List.mem_cons_of_mem _ z)
theorem ownSub_of {is : List Nat} {ds : List D} (h : setNames is ds env = some env1) (hw : L2.wipe σ1 is = L2.wipe σ is) : OwnSub σ env σ1 env1 := fun i es e => by
  obtain ⟨h1, h2⟩ := setNames_own h i es e
  refine ⟨h2, ?_⟩
  rw [← wipe_get (σ := σ1) h1, hw, wipe_get h1]
theorem setG_names {tg : Tg} {d : D} (h : setG tg d env = some env1) : ∃ ds, setNames (tgIx tg) ds env = some env1 := by
  cases tg with
  | name i => exact ⟨_, h⟩
  | tup is => cases d <;> simp only [setG, reduceCtorEq] at h; exact ⟨_, h⟩
/-- an own list is written -/
theorem Stt.write {i : Nat} {ds ds' : List D} {a : Addr} {vs' : List V} (st : Stt T G0 bs L σ env S H) (hi : env[i]? = some (.own ds)) (ha : σ[i]? = some (some (.ref a))) (r : Reps H (Bad (Gd G0 σ env) L) L ds' vs') :
    Stt T G0 bs L σ (env.set i (.own ds')) S (upd H a (.lst vs')) := by
  have il : i < env.length := (List.getElem?_eq_some_iff.mp hi).1
  have oa : OwnA σ env a := ⟨i, ds, hi, ha⟩
  have ga : Gd G0 σ env a := .inr oa
  have own_iff : ∀ b, OwnA σ (env.set i (.own ds')) b ↔ OwnA σ env b := fun b => by
    constructor
    · rintro ⟨j, es, h1, h2⟩
      by_cases hj : i = j
      · subst hj; exact ⟨i, ds, hi, h2⟩
      · rw [List.getElem?_set_ne hj] at h1; exact ⟨j, es, h1, h2⟩
    · rintro ⟨j, es, h1, h2⟩
      by_cases hj : i = j
      · subst hj; exact ⟨i, ds', List.getElem?_set_self il, h2⟩
      · exact ⟨j, es, by rw [List.getElem?_set_ne hj]; exact h1, h2⟩
  have hG : Gd G0 σ (env.set i (.own ds')) = Gd G0 σ env := by
    funext b
    exact propext ⟨fun h => h.imp id (own_iff b).mp, fun h => h.imp id (own_iff b).mpr⟩
  have kp : Kp H (Bad (Gd G0 σ env) L) L (upd H a (.lst vs')) (Bad (Gd G0 σ env) L) L := kp_wr ga
  refine ⟨fun b hb => ?_, fun b hb c hc => st.fr b hb c ((own_iff c).mp hc), fun c hc => st.g0 c ((own_iff c).mp hc), fun j k c es fs h1 h2 h3 h4 => ?_, by rw [hG]; exact st.ws.wr ga, ?_⟩
  · have m := st.ext b hb
    refine ⟨fun c o h n1 n2 n3 => ?_, m.more, fun c hc => ?_⟩
    · rw [upd_ne (fun z => ?_)]
      · exact m.keep c o h n1 n2 n3
      · subst z
        rcases st.fr b hb c oa with q | q
        · exact n2 q
        · obtain ⟨ps, q⟩ := q o h
          exact n3 ps q
    · by_cases z : c = a
      · subst z; exact ⟨_, upd_same⟩
      · obtain ⟨us, q⟩ := m.ml c hc
        exact ⟨us, by rw [upd_ne z]; exact q⟩
  · have back : ∀ {j : Nat} {es : List D}, (env.set i (.own ds'))[j]? = some (.own es) → ∃ es', env[j]? = some (.own es') := fun {j es} h => by
      by_cases hj : i = j
      · subst hj; exact ⟨ds, hi⟩
      · rw [List.getElem?_set_ne hj] at h; exact ⟨es, h⟩
    obtain ⟨_, q1⟩ := back h1
    obtain ⟨_, q2⟩ := back h2
    exact st.inj j k c _ _ q1 q2 h3 h4
  · rw [hG]
    refine ⟨by rw [st.sl.len, List.length_set], fun j d h => ?_, fun j es h => ?_⟩
    · by_cases hj : i = j
      · subst hj
        rw [List.getElem?_set_self il] at h; cases h
      · rw [List.getElem?_set_ne hj] at h
        obtain ⟨v, h1, h2⟩ := st.sl.val j d h
        exact ⟨v, h1, h2.kp kp⟩
    · by_cases hj : i = j
      · subst hj
        rw [List.getElem?_set_self il] at h; cases h
        exact ⟨a, vs', ha, upd_same, r.kp kp, ga⟩
      · rw [List.getElem?_set_ne hj] at h
        obtain ⟨c, us, h1, h2, h3, h4⟩ := st.sl.own j es h
        have hca : c ≠ a := fun z => by
          subst z
          exact hj (st.inj i j c ds es hi h ha h1)
        exact ⟨c, us, h1, by rw [upd_ne hca]; exact h2, h3.kp kp, h4⟩
/-- an own list becomes a value -/
theorem Stt.frz {i : Nat} {ds : List D} (st : Stt T G0 bs L σ env S H) (hi : env[i]? = some (.own ds)) : Stt T G0 bs L σ (env.set i (.val (.list ds))) S H := by
  have il : i < env.length := (List.getElem?_eq_some_iff.mp hi).1
  obtain ⟨a, vs, ha, hH, r, ga⟩ := st.sl.own i ds hi
  have oa : OwnA σ env a := ⟨i, ds, hi, ha⟩
  have sub : OwnSub σ env σ (env.set i (.val (.list ds))) := fun j es h => by
    by_cases hj : i = j
    · subst hj
      rw [List.getElem?_set_self il] at h; cases h
    · rw [List.getElem?_set_ne hj] at h
      exact ⟨h, rfl⟩
  have hG : ∀ b, Gd G0 σ (env.set i (.val (.list ds))) b → Gd G0 σ env b := fun b h => h.imp id fun z => ownSub_own sub z
  have na : ¬ OwnA σ (env.set i (.val (.list ds))) a := by
    rintro ⟨j, es, h1, h2⟩
    by_cases hj : i = j
    · subst hj
      rw [List.getElem?_set_self il] at h1; cases h1
    · rw [List.getElem?_set_ne hj] at h1
      exact hj (st.inj i j a ds es hi h1 ha h2)
  have w' := st.ws.less hG
  refine ⟨st.ext, fun b hb c hc => st.fr b hb c (ownSub_own sub hc), fun c hc => st.g0 c (ownSub_own sub hc), fun j k c es fs h1 h2 h3 h4 => ?_, w', ⟨by rw [st.sl.len, List.length_set], fun j d h => ?_, fun j es h => ?_⟩⟩
  · obtain ⟨p1, _⟩ := sub j es h1
    obtain ⟨p3, _⟩ := sub k fs h2
    exact st.inj j k c es fs p1 p3 h3 h4
  · by_cases hj : i = j
    · subst hj
      rw [List.getElem?_set_self il] at h; cases h
      refine ⟨.ref a, ha, .lst (.inl hH) ?_ (r.kp (kp_mono hG))⟩
      rintro ((z | z) | z)
      · exact st.g0 a oa z
      · exact na z
      · exact st.ws.dis a z ga
    · rw [List.getElem?_set_ne hj] at h
      obtain ⟨v, h1, h2⟩ := st.sl.val j d h
      exact ⟨v, h1, h2.kp (kp_mono hG)⟩
  · by_cases hj : i = j
    · subst hj
      rw [List.getElem?_set_self il] at h; cases h
    · rw [List.getElem?_set_ne hj] at h
      obtain ⟨c, us, h1, h2, h3, h4⟩ := st.sl.own j es h
      exact ⟨c, us, h1, h2, h3.kp (kp_mono hG), .inr ⟨j, es, by rw [List.getElem?_set_ne hj]; exact h, h1⟩⟩
/-- a new list becomes own -/
theorem Stt.own {i : Nat} {ds : List D} {a : Addr} {vs : List V} (st : Stt T G0 bs L σ env S H) (e : Ext L H L' H') (w : WS T (fun b => Gd G0 σ env b ∨ b = a) L' H' S') (hn : ∀ o, H a = some o → ∃ ps, o = .tbl ps) (ha : H' a = some (.lst vs)) (nb : ¬ Bad (Gd G0 σ env) L' a)
    (r : Reps H' (Bad (fun b => Gd G0 σ env b ∨ b = a) L') L' ds vs) (il : i < env.length) : Stt T G0 bs L' (σ.set i (some (.ref a))) (env.set i (.own ds)) S' H' := by
  have hl : i < σ.length := by rw [st.sl.len]; exact il
  have split : ∀ b, OwnA (σ.set i (some (.ref a))) (env.set i (.own ds)) b → OwnA σ env b ∨ b = a := by
    rintro b ⟨j, es, h1, h2⟩
    by_cases hj : i = j
    · subst hj
      rw [List.getElem?_set_self hl] at h2
      cases h2; exact .inr rfl
    · rw [List.getElem?_set_ne hj] at h1 h2
      exact .inl ⟨j, es, h1, h2⟩
  have oa : OwnA (σ.set i (some (.ref a))) (env.set i (.own ds)) a := ⟨i, ds, List.getElem?_set_self il, List.getElem?_set_self hl⟩
  have hG : ∀ b, Gd G0 (σ.set i (some (.ref a))) (env.set i (.own ds)) b → Gd G0 σ env b ∨ b = a := fun b h => by
    rcases h with h | h
    · exact .inl (.inl h)
    · exact (split b h).imp .inr id
  obtain ⟨N, hN, fN⟩ := e.more
  have nL : a ∉ L := fun z => nb (.inr (by rw [hN]; exact List.mem_append_left _ z))
  have kp : Kp H (Bad (Gd G0 σ env) L) L H' (Bad (Gd G0 (σ.set i (some (.ref a))) (env.set i (.own ds))) L') L' := by
    refine ⟨fun x o h n nt => e.keep x o h (fun z => n (.inr z)) nt, fun x o h nt z => ?_, fun k x h => ?_⟩
    · rcases z with z | z
      · rcases hG x z with z | z
        · exact .inl z
        · subst z
          obtain ⟨ps, q⟩ := hn o h
          exact absurd q (nt ps)
      · rw [hN] at z
        rcases List.mem_append.mp z with z | z
        · exact .inr z
        · obtain ⟨ps, q⟩ := fN x z o h
          exact absurd q (nt ps)
    · rw [hN]
      exact (List.getElem?_append_left (List.getElem?_eq_some_iff.mp h).1).trans h
  have w0 : WS T (Gd G0 σ env) L' H' S' := w.less fun _ h => .inl h
  have naO : ¬ OwnA σ env a := fun z => nb (.inl (.inr z))
  refine ⟨fun b hb => (st.ext b hb).trans st.ws w0 e, fun b hb c hc => ?_, fun c hc => ?_, fun j k c es fs h1 h2 h3 h4 => ?_, w.less hG, by rw [List.length_set, List.length_set]; exact st.sl.len, fun j d h => ?_, fun j es h => ?_⟩
  · rcases split c hc with z | z
    · exact st.fr b hb c z
    · subst z
      by_cases hM : b.M c
      · exact .inl hM
      · refine .inr fun o ho => ?_
        by_cases ht : ∃ ps, o = .tbl ps
        · exact ht
        · exfalso
          have nt : ∀ ps, o ≠ .tbl ps := fun ps q => ht ⟨ps, q⟩
          have m := st.ext b hb
          by_cases hL : c ∈ b.L
          · obtain ⟨M, hM, _⟩ := m.more
            exact nL (by rw [hM]; exact List.mem_append_left _ hL)
          · obtain ⟨ps, q⟩ := hn o (m.keep c o ho hL hM nt)
            exact nt ps q
  · rcases split c hc with z | z
    · exact st.g0 c z
    · subst z
      exact fun q => nb (.inl (.inl q))
  · by_cases hj : i = j
    · by_cases hk : i = k
      · rw [← hj, ← hk]
      · exfalso
        subst hj
        rw [List.getElem?_set_self hl] at h3
        rw [List.getElem?_set_ne hk] at h2 h4
        cases h3
        exact naO ⟨k, _, h2, h4⟩
    · by_cases hk : i = k
      · exfalso
        subst hk
        rw [List.getElem?_set_self hl] at h4
        rw [List.getElem?_set_ne hj] at h1 h3
        cases h4
        exact naO ⟨j, _, h1, h3⟩
      · rw [List.getElem?_set_ne hj] at h1 h3
        rw [List.getElem?_set_ne hk] at h2 h4
        exact st.inj j k c es fs h1 h2 h3 h4
  · by_cases hj : i = j
    · subst hj
      rw [List.getElem?_set_self il] at h; cases h
    · rw [List.getElem?_set_ne hj] at h
      obtain ⟨v, h1, h2⟩ := st.sl.val j d h
      exact ⟨v, by rw [List.getElem?_set_ne hj]; exact h1, h2.kp kp⟩
  · by_cases hj : i = j
    · subst hj
      rw [List.getElem?_set_self il] at h; cases h
      exact ⟨a, vs, List.getElem?_set_self hl, ha, r.kp (kp_mono hG), .inr oa⟩
    · rw [List.getElem?_set_ne hj] at h
      obtain ⟨c, us, h1, h2, h3, h4⟩ := st.sl.own j es h
      have nc : c ∉ L := fun z => st.ws.dis c z h4
      exact ⟨c, us, by rw [List.getElem?_set_ne hj]; exact h1, e.keep _ _ h2 nc (fun ps z => by cases z), h3.kp kp, .inr ⟨j, es, by rw [List.getElem?_set_ne hj]; exact h, by rw [List.getElem?_set_ne hj]; exact h1⟩⟩
end
end Mi

set_option Elab.async false
set_option linter.all false
set_option maxRecDepth 100000
set_option maxHeartbeats 1000000
namespace Mi
open PySem PySem.Spec PyProof.Rows L2
/-! ### statements: the look -/
def isDoc : Stmt → Bool | .Pass _ => true | .Expr (.Constant (.str _) _ _) _ => true | _ => false
def notTup : Expr → Bool | .Tuple .. => false | _ => true
def parB (C : Ct) (i j : Nat) (ts vs : List Expr) : Bool :=
  match ts, vs with
  | [.Name x px, .Name y py], [a, b] => decide (C.N[i]? = some x) && decide (C.N[j]? = some y) && decide (i ≠ j) && decide (x ≠ y) && decide (C.sc.names.lookup x = some .local) && decide (C.sc.names.lookup y = some .local) && (py.line == px.line)
      && notStar a && notStar b && !([a, b].all (foldedForSure 8)) && !([a, b].all (constantsAlone 8))
  | _, _ => false
def chkS (Z : Sg) (C : Ct) : S → List Stmt → Bool
  | .done, sts => (match sts with | [] => true | _ => false)
  | .pass k, sts => (match sts with | st :: r => isDoc st && chkS Z C k r | [] => false)
  | .set i e k, sts => (match sts with | .Assign [.Name x px] v p :: r => locB C i x && chkE Z C e v && valOk e v && chkS Z C k r | _ => false)
  | .own i e k, sts => (match sts with | .Assign [.Name x px] v p :: r => locB C i x && chkE Z C e v && valOk e v && freshE e && chkS Z C k r | _ => false)
  | .frz i k, sts => chkS Z C k sts
  | .par i j a b k, sts => (match sts with | .Assign [.Tuple ts k1 p1] (.Tuple vs k2 p2) p :: r => parB C i j ts vs && chkA Z C (.cons a (.cons b .nil)) vs && chkS Z C k r | _ => false)
  | .unp is e k, sts => (match sts with | .Assign [t] v p :: r => chkG C (.tup is) t && chkE Z C e v && notComp v && notTup v && chkS Z C k r | _ => false)
  | .app i e k, sts => (match sts with | .Expr (.Call (.Attribute (.Name x q) m ap) [v] [] cp) p :: r => decide (m = "append") && visB C i x && chkE Z C e v && notStar v && (ap.endLine == cp.line) && chkS Z C k r | _ => false)
  | .setix i ix e k, sts => (match sts with | .Assign [.Subscript (.Name x q) j sp] v p :: r => visB C i x && chkE Z C e v && chkE Z C ix j && notSlice j && notComp v && chkS Z C k r | _ => false)
  | .ex e k, sts => (match sts with | .Expr v p :: r => chkE Z C e v && notComp v && chkS Z C k r | _ => false)
  | .ret e, sts => (match sts with | [.Return (some v) p] => chkE Z C e v | _ => false)
  | .retn, sts => (match sts with | [.Return none p] => true | _ => false)
  | .brk, sts => (match sts with | [.Break p] => true | _ => false)
  | .cont, sts => (match sts with | [.Continue p] => true | _ => false)
  | .raise c x, sts => (match sts with | [.Raise (some (.Call (.Name y q) [.Constant (.str m) j q2] [] q3)) none p] => decide (x = y) && decide (Z.excs[c]? = some x) && glB C x | _ => false)
  | .ifs c a b k, sts => (match sts with | .If t p q ps :: r => chkB Z C c t && chkS Z C a p && chkS Z C b q && chkS Z C k r | _ => false)
  | .for_ tg it bd k, sts => (match sts with | .For t iter body [] p :: r => chkI Z C it iter && (!isPair it || isTupTg tg) && chkG C tg t && notSet iter && chkS Z C bd body && chkS Z C k r | _ => false)
  | .while_ n c bd k, sts => (match sts with | .While t body [] p :: r => chkB Z C c t && chkS Z C bd body && chkS Z C k r | _ => false)

/-! ### the soundness of statements -/
abbrev WE (E : XK) : WX := fun cls d _ H => E cls d H
def PostFl (Γ : Pr) (G0 : Addr → Prop) (bs : List Bs) (D : Ends) (fl : Fl) (S' : Store) : Prop :=
  match fl with
  | .nx env' => ∀ σ' L' H', Stt Γ.T G0 bs L' σ' env' S' H' → D.nx σ' H'
  | .brk env' => ∀ σ' L' H', Stt Γ.T G0 bs L' σ' env' S' H' → D.bk σ' H'
  | .ct env' => ∀ σ' L' H', Stt Γ.T G0 bs L' σ' env' S' H' → D.ct σ' H'
  | .ret d => ∀ v L' H', (∀ b ∈ bs, ExtM b L' H') → WS Γ.T G0 L' H' S' → Rep H' (Bad G0 L') L' d v → D.rt v H'
def PostXs (Γ : Pr) (G0 : Addr → Prop) (bs : List Bs) (E : XK) (c : Ex) (S' : Store) : Prop :=
  ∀ dd L' H', (∀ b ∈ bs, ExtM b L' H') → WS Γ.T G0 L' H' S' → E (.ref (Γ.xa c.cls)) dd H'
def TlS (Γ : Pr) (E : XK) (t : TS) (f : Env → Store → R Fl) : Prop := ∀ (G0 : Addr → Prop) (bs : List Bs) (L : List Addr) (σ : L2.St) (env : Env) (S : Store) (H : Hp) (D : Ends), Stt Γ.T G0 bs L σ env S H → Sat (f env S) (PostFl Γ G0 bs D) (PostXs Γ G0 bs E) → t D σ H
def SS (Γ : Pr) (C : Ct) (r : Nat) (wf : WordF) (cf : Nat → CallF) (s : S) (sts : List Stmt) : Prop := ∀ X E, Good Γ r C X → Takes X (WE E) → PassesOwn (model X.prog X.w) X.A X.env X.xe → ∃ t, PSs X sts t ∧ TlS Γ E t (evS wf cf s)
structure ExOk (Γ : Pr) (Z : Sg) : Prop where
  ex : ∀ (c : Nat) x, Z.excs[c]? = some x → ∃ (bm : List Value) (B newId initId : String), ExcBaseFacts B newId initId bm ∧ PySem.W.excIn Γ.K (Γ.xa c) bm newId = true ∧ Γ.mg x = some (.ref (Γ.xa c)) ∧ PySem.W.keepIn Γ.K (.ref (Γ.xa c)) = true ∧
    PySem.W.subIn Γ.K (.ref (Γ.xa c)) (.type "BaseException") = some true ∧ PySem.W.typeIn Γ.K (.ref (Γ.xa c)) = some (.type "type")
section
variable {Γ : Pr} {G0 : Addr → Prop} {bs : List Bs} {L : List Addr} {σ : L2.St} {env env1 : Env} {S : Store} {H : Hp} {E : XK}
theorem Stt.g0sub {T : Tb} (st : Stt T G0 bs L σ env S H) : ∀ a, G0 a → Gd G0 σ env a := fun _ h => .inl h
theorem Stt.xs {L' : List Addr} {H' : Hp} {S' : Store} (st : Stt Γ.T G0 bs L σ env S H) (e : Ext L H L' H') (w : WS Γ.T (Gd G0 σ env) L' H' S') : (∀ b ∈ bs, ExtM b L' H') ∧ WS Γ.T G0 L' H' S' :=
  ⟨fun b hb => (st.ext b hb).trans st.ws w e, w.less st.g0sub⟩
theorem use_x {c : Ex} {S' : Store} (st : Stt Γ.T G0 bs L σ env S H) (q : PostXs Γ G0 bs E c S') : PostX Γ (WE E) σ (Gd G0 σ env) L H c S' := fun dd H' L' e w => q dd L' H' (st.xs e w).1 (st.xs e w).2
theorem use_E {t : TE} {f : Env → Store → R D} {Q : VK} (ht : TlE Γ (WE E) t f) (st : Stt Γ.T G0 bs L σ env S H) (sat : Sat (f env S) (fun d S' => ∀ v H' L', Stt Γ.T G0 bs L' σ env S' H' → Rep H' (Bad (Gd G0 σ env) L') L' d v → Q v H') (PostXs Γ G0 bs E)) : t σ H Q :=
  ht σ H (Gd G0 σ env) L env S Q st.sl st.ws (sat.imp (fun d S' q v H' L' e w r => q v H' L' (st.grow e w) r) (fun c S' q => use_x st q))
theorem use_B {t : TT} {f : Env → Store → R Bool} {Q : Bool → Hp → Prop} (ht : TlB Γ (WE E) t f) (st : Stt Γ.T G0 bs L σ env S H) (sat : Sat (f env S) (fun b S' => ∀ H' L', Stt Γ.T G0 bs L' σ env S' H' → Q b H') (PostXs Γ G0 bs E)) : t σ H Q :=
  ht σ H (Gd G0 σ env) L env S Q st.sl st.ws (sat.imp (fun d S' q H' L' e w => q H' L' (st.grow e w)) (fun c S' q => use_x st q))
theorem use_A {t : TA} {f : Env → Store → R (List D)} {Q : List V → Hp → Prop} (ht : TlA Γ (WE E) t f) (st : Stt Γ.T G0 bs L σ env S H) (sat : Sat (f env S) (fun d S' => ∀ v H' L', Stt Γ.T G0 bs L' σ env S' H' → Reps H' (Bad (Gd G0 σ env) L') L' d v → Q v H') (PostXs Γ G0 bs E)) : t σ H Q :=
  ht σ H (Gd G0 σ env) L env S Q st.sl st.ws (sat.imp (fun d S' q v H' L' e w r => q v H' L' (st.grow e w) r) (fun c S' q => use_x st q))
theorem Kp.same {B : Addr → Prop} : Kp H B L H B L := ⟨fun _ _ h _ _ => h, fun _ _ _ _ z => z, fun _ _ z => z⟩
theorem use_tg {K : PySem.W.Frag} {tg : Tg} {d : D} {x : V} {Q : L2.St → Hp → Prop} {T : Tb} (st : Stt T G0 bs L σ env S H) (r : Rep H (Bad (Gd G0 σ env) L) L d x) (hs : setG tg d env = some env1) (k : ∀ σ1, Stt T G0 bs L σ1 env1 S H → Q σ1 H) : gTg K tg x σ H Q := by
  obtain ⟨ds, hn⟩ := setG_names hs
  refine tl_tg (pair := false) (G := Gd G0 σ env) (G0 := Gd G0 σ env) (L := L) (L0 := L) (H1 := H) (H0 := H) (fun z => by cases z) st.sl (show H = H ∧ _ from ⟨rfl, r⟩) Kp.same st.sl hs fun σ1 sl1 hw => ?_
  exact k σ1 (st.names (ownSub_of hn (hw _ fun i h => h)) sl1)
end
section
variable {Γ : Pr} {Z : Sg} {C : Ct} {r : Nat} {cf : Nat → CallF} {wf : WordF}
theorem ss_done {sts : List Stmt} (h : chkS Z C .done sts = true) : SS Γ C r wf cf .done sts := by
  intro X E g tk hp
  simp only [chkS] at h
  split at h
  · exact ⟨_, pss_nil, fun G0 bs L σ env S H D st sat => sat σ L H st⟩
  · cases h
theorem ss_pass {k : S} {sts : List Stmt} (h : chkS Z C (.pass k) sts = true) (ik : ∀ l, chkS Z C k l = true → SS Γ C r wf cf k l) : SS Γ C r wf cf (.pass k) sts := by
  intro X E g tk hp
  simp only [chkS] at h
  split at h
  · rename_i st rest
    rw [Bool.and_eq_true] at h
    obtain ⟨t, pt, ht⟩ := ik _ h.2 X E g tk hp
    have hst : PS X st tNext := by
      have h1 := h.1
      unfold isDoc at h1
      split at h1
      · exact ps_pass
      · exact ps_doc
      · cases h1
    exact ⟨_, pss_cons hst pt, fun G0 bs L σ env S H D st sat => ht G0 bs L σ env S H D st sat⟩
  · cases h
theorem ss_set (ok : PrOk Γ Z) (wo : WordOk Γ Z wf) (hc : CFok Γ r cf) (hk : C.sc.kind = .function) {i : Nat} {e : E} {k : S} {sts : List Stmt} (h : chkS Z C (.set i e k) sts = true) (ik : ∀ l, chkS Z C k l = true → SS Γ C r wf cf k l) : SS Γ C r wf cf (.set i e k) sts := by
  intro X E g tk hp
  simp only [chkS] at h
  split at h
  · rename_i x px v p rest
    simp only [Bool.and_eq_true] at h
    obtain ⟨⟨⟨h1, h2⟩, h3⟩, h4⟩ := h
    obtain ⟨t, pt, ht⟩ := ik _ h4 X E g tk hp
    obtain ⟨te, pe, hte⟩ := asg_any ok wo hc hk h2 h3 g tk h1 (px := px) (pos := p)
    refine ⟨_, pss_cons pe pt, fun G0 bs L σ env S H D st sat => ?_⟩
    rw [evS, sat_bind] at sat
    simp only [sat_bind] at sat
    refine use_E hte st (sat.imp (fun d S1 q v' H' L' st1 r1 => ?_) fun _ _ q => q)
    obtain ⟨env1, he, q⟩ := sat_lift q
    exact use_tg (K := Γ.K) (tg := .name i) st1 r1 he fun σ1 st2 => ht G0 bs L' σ1 env1 S1 H' D st2 q
  · cases h
theorem ss_own (ok : PrOk Γ Z) (wo : WordOk Γ Z wf) (hc : CFok Γ r cf) (hk : C.sc.kind = .function) {i : Nat} {e : E} {k : S} {sts : List Stmt} (h : chkS Z C (.own i e k) sts = true) (ik : ∀ l, chkS Z C k l = true → SS Γ C r wf cf k l) : SS Γ C r wf cf (.own i e k) sts := by
  intro X E g tk hp
  simp only [chkS] at h
  split at h
  · rename_i x px v p rest
    simp only [Bool.and_eq_true] at h
    obtain ⟨⟨⟨⟨h1, h2⟩, h3⟩, h3'⟩, h4⟩ := h
    obtain ⟨t, pt, ht⟩ := ik _ h4 X E g tk hp
    obtain ⟨te, pe, hte⟩ := asg_new ok wo hc hk h2 h3 h3' g tk h1 (px := px) (pos := p)
    refine ⟨_, pss_cons pe pt, fun G0 bs L σ env S H D st sat => ?_⟩
    rw [evS, sat_bind] at sat
    simp only [sat_bind] at sat
    refine hte σ H (Gd G0 σ env) L env S _ st.sl st.ws (sat.imp (fun d S1 q => ?_) fun c S' q => use_x st q)
    obtain ⟨env1, he, q⟩ := sat_lift q
    unfold ownD at he
    split at he
    · rename_i ds
      split at he
      · rename_i il
        cases he
        exact ⟨ds, rfl, fun a vs H' L' e1 w1 hn ha nb rs => ht G0 bs L' _ _ S1 H' D (st.own e1 w1 hn ha nb rs il) q⟩
      · cases he
    · cases he
  · cases h
theorem ss_frz {i : Nat} {k : S} {sts : List Stmt} (h : chkS Z C (.frz i k) sts = true) (ik : ∀ l, chkS Z C k l = true → SS Γ C r wf cf k l) : SS Γ C r wf cf (.frz i k) sts := by
  intro X E g tk hp
  simp only [chkS] at h
  obtain ⟨t, pt, ht⟩ := ik _ h X E g tk hp
  refine ⟨t, pt, fun G0 bs L σ env S H D st sat => ?_⟩
  rw [evS, sat_bind] at sat
  obtain ⟨env1, he, q⟩ := sat_lift sat
  unfold frzD at he
  split at he
  · rename_i ds hds
    cases he
    exact ht G0 bs L σ _ S H D (st.frz hds) q
  · cases he
theorem ss_unp (ok : PrOk Γ Z) (wo : WordOk Γ Z wf) (hc : CFok Γ r cf) {is : List Nat} {e : E} {k : S} {sts : List Stmt} (h : chkS Z C (.unp is e k) sts = true) (ik : ∀ l, chkS Z C k l = true → SS Γ C r wf cf k l) : SS Γ C r wf cf (.unp is e k) sts := by
  intro X E g tk hp
  simp only [chkS] at h
  split at h
  · rename_i t0 v p rest
    simp only [Bool.and_eq_true] at h
    obtain ⟨⟨⟨⟨h1, h2⟩, h3⟩, h3'⟩, h4⟩ := h
    obtain ⟨t, pt, ht⟩ := ik _ h4 X E g tk hp
    obtain ⟨te, pe, hte⟩ := sE ok wo e C r cf hc v h2 X (WE E) g tk
    have hg := pg_tg g h1
    simp only [chkG] at h1
    split at h1
    · rename_i es hx
      obtain ⟨kk, pp, rfl⟩ := xTup_of hx
      have hsw : swappedStores [.Tuple es kk pp] v X.env = pure none := by
        cases v <;> first | rfl | (exact absurd (show false = true from h3') Bool.false_ne_true)
      have hass : (assignEach [.Tuple es kk pp] X.env).map (·.2) = [assign (.Tuple es kk pp) X.env] := rfl
      refine ⟨_, pss_cons (ps_asg pe hg (show swapsWith v (some (.Tuple es kk pp)) p.line X.env = pure false from noswap h3) hsw hass) pt, fun G0 bs L σ env S H D st sat => ?_⟩
      rw [evS, sat_bind] at sat
      simp only [sat_bind] at sat
      refine use_E hte st (sat.imp (fun d S1 q v' H' L' st1 r1 => ?_) fun _ _ q => q)
      obtain ⟨env1, he, q⟩ := sat_lift q
      exact use_tg (K := Γ.K) (tg := .tup is) st1 r1 he fun σ1 st2 => ht G0 bs L' σ1 env1 S1 H' D st2 q
    · cases h1
  · cases h
theorem ss_ex (ok : PrOk Γ Z) (wo : WordOk Γ Z wf) (hc : CFok Γ r cf) {e : E} {k : S} {sts : List Stmt} (h : chkS Z C (.ex e k) sts = true) (ik : ∀ l, chkS Z C k l = true → SS Γ C r wf cf k l) : SS Γ C r wf cf (.ex e k) sts := by
  intro X E g tk hp
  simp only [chkS] at h
  split at h
  · rename_i v p rest
    simp only [Bool.and_eq_true] at h
    obtain ⟨⟨h2, h3⟩, h4⟩ := h
    obtain ⟨t, pt, ht⟩ := ik _ h4 X E g tk hp
    obtain ⟨te, pe, hte⟩ := sE ok wo e C r cf hc v h2 X (WE E) g tk
    refine ⟨_, pss_cons (ps_expr pe (noswap h3)) pt, fun G0 bs L σ env S H D st sat => ?_⟩
    rw [evS, sat_bind] at sat
    exact use_E hte st (sat.imp (fun d S1 q v' H' L' st1 r1 => ht G0 bs L' σ env S1 H' D st1 q) fun _ _ q => q)
  · cases h
theorem ss_ret (ok : PrOk Γ Z) (wo : WordOk Γ Z wf) (hc : CFok Γ r cf) {e : E} {sts : List Stmt} (h : chkS Z C (.ret e) sts = true) : SS Γ C r wf cf (.ret e) sts := by
  intro X E g tk hp
  simp only [chkS] at h
  split at h
  · rename_i v p
    obtain ⟨te, pe, hte⟩ := sE ok wo e C r cf hc v h X (WE E) g tk
    refine ⟨_, pss_one (ps_ret pe), fun G0 bs L σ env S H D st sat => ?_⟩
    rw [evS, sat_bind] at sat
    exact use_E hte st (sat.imp (fun d S1 q v' H' L' st1 r1 => q v' L' H' st1.ext (st1.ws.less st1.g0sub) (r1.kp (kp_mono st1.g0sub))) fun _ _ q => q)
  · cases h
theorem ss_retn {sts : List Stmt} (h : chkS Z C .retn sts = true) : SS Γ C r wf cf .retn sts := by
  intro X E g tk hp
  simp only [chkS] at h
  split at h
  · exact ⟨_, pss_one ps_retN, fun G0 bs L σ env S H D st sat => sat .non L H st.ext (st.ws.less st.g0sub) .non⟩
  · cases h
theorem ss_brk {sts : List Stmt} (h : chkS Z C .brk sts = true) : SS Γ C r wf cf .brk sts := by
  intro X E g tk hp
  simp only [chkS] at h
  split at h
  · exact ⟨_, pss_one ps_break, fun G0 bs L σ env S H D st sat => sat σ L H st⟩
  · cases h
theorem ss_cont {sts : List Stmt} (h : chkS Z C .cont sts = true) : SS Γ C r wf cf .cont sts := by
  intro X E g tk hp
  simp only [chkS] at h
  split at h
  · exact ⟨_, pss_one ps_continue, fun G0 bs L σ env S H D st sat => sat σ L H st⟩
  · cases h
theorem ss_raise (xo : ExOk Γ Z) {c : Nat} {x : Str} {sts : List Stmt} (h : chkS Z C (.raise c x) sts = true) : SS Γ C r wf cf (.raise c x) sts := by
  intro X E g tk hp
  simp only [chkS] at h
  split at h
  · rename_i y q m j q2 q3 p
    simp only [Bool.and_eq_true, decide_eq_true_eq] at h
    obtain ⟨⟨rfl, h2⟩, h3⟩ := h
    obtain ⟨bm, B, nI, iI, F, e1, e2, e3, e4, e5⟩ := xo.ex c x h2
    obtain ⟨g1, g2, _⟩ := g.gl h3
    refine ⟨_, pss_one (ps_raise g.calm tk (pmk_own F (by rw [g.K]; exact e1) (by rw [g.mg]; exact e2) (by rw [g.K]; exact e3) (raises_own (by rw [g.K]; exact e4) (by rw [g.K]; exact e5)) g1 g2)), fun G0 bs L σ env S H D st sat => ?_⟩
    exact sat none L H st.ext (st.ws.less st.g0sub)
  · cases h
end
end Mi

set_option Elab.async false
set_option linter.all false
set_option maxRecDepth 100000
set_option maxHeartbeats 1000000
namespace Mi
open PySem PySem.Spec PyProof.Rows L2
theorem setIxD_inv {env : Env} {S : Store} {i : Nat} {ix d : D} {p : Env × Store} (h : setIxD env S i ix d = some p) :
    (∃ ds k j, env[i]? = some (.own ds) ∧ ix = .int k ∧ ixN ds.length k = some j ∧ p = (env.set i (.own (ds.set j d)), S)) ∨
    (∃ (l : Nat) (k : Int) (ds : List D) (j : Nat), env[i]? = some (.val (loc l)) ∧ ix = .int k ∧ S[l]? = some ds ∧ ixN ds.length k = some j ∧ p = (env, S.set l (ds.set j d))) := by
  unfold setIxD at h
  split at h
  · rename_i ds k hds
    unfold setAtL at h
    cases hix : ixN ds.length k with
    | none => rw [hix] at h; cases h
    | some j =>
      rw [hix] at h
      cases h
      exact .inl ⟨ds, k, j, hds, rfl, hix, rfl⟩
  · rename_i l k hl
    split at h
    · rename_i h0
      obtain ⟨n, rfl⟩ := Int.eq_ofNat_of_zero_le h0
      cases hS : S[n]? with
      | none => rw [Int.toNat_natCast, hS] at h; cases h
      | some ds =>
        rw [Int.toNat_natCast, hS] at h
        dsimp only [Option.bind] at h
        unfold setAtL at h
        cases hix : ixN ds.length k with
        | none => rw [hix] at h; cases h
        | some j =>
          rw [hix] at h
          cases h
          exact .inr ⟨n, k, ds, j, hl, rfl, hS, hix, rfl⟩
    · cases h
  · cases h
section
variable {Γ : Pr} {Z : Sg} {C : Ct} {r : Nat} {cf : Nat → CallF} {wf : WordF}
theorem ss_par (ok : PrOk Γ Z) (wo : WordOk Γ Z wf) (hc : CFok Γ r cf) (hk : C.sc.kind = .function) {i j : Nat} {a b : E} {k : S} {sts : List Stmt} (h : chkS Z C (.par i j a b k) sts = true) (ik : ∀ l, chkS Z C k l = true → SS Γ C r wf cf k l) : SS Γ C r wf cf (.par i j a b k) sts := by
  intro X E g tk hp
  simp only [chkS] at h
  split at h
  · rename_i ts k1 p1 vs k2 p2 p rest
    simp only [Bool.and_eq_true] at h
    obtain ⟨⟨h1, h2⟩, h4⟩ := h
    obtain ⟨t, pt, ht⟩ := ik _ h4 X E g tk hp
    obtain ⟨ta, pa, hta⟩ := sA ok wo (.cons a (.cons b .nil)) C r cf hc vs h2 X (WE E) g tk
    unfold parB at h1
    split at h1
    · rename_i x px y py ea eb
      simp only [Bool.and_eq_true, decide_eq_true_eq, Bool.not_eq_true'] at h1
      obtain ⟨⟨⟨⟨⟨⟨⟨⟨⟨⟨c1, c2⟩, c3⟩, c4⟩, c5⟩, c6⟩, c7⟩, c8⟩, c9⟩, c10⟩, c11⟩ := h1
      have n1 : X.N.Nodup := by rw [g.N]; exact g.nd
      have e1 : X.env.scope.names.lookup x = some .local := by rw [g.sc]; exact c5
      have e2 : X.env.scope.names.lookup y = some .local := by rw [g.sc]; exact c6
      have hw : swappedStores [.Tuple [.Name x px, .Name y py] k1 p1] (.Tuple [ea, eb] k2 p2) X.env = pure (some [x, y]) := by
        have k1' : X.env.kindOf x = some .local := e1
        have k2' : X.env.kindOf y = some .local := e2
        have hb : X.env.blockKind = .function := by unfold Env.blockKind; rw [g.sc, hk]; rfl
        have k3' : (px.line == px.line) = true := beq_self_eq_true _
        have ed : ([x, y] : List Str).eraseDups.length = 2 := by
          have : (y == x) = false := beq_eq_false_iff_ne.mpr (fun z => c4 z.symm)
          rw [List.eraseDups_cons]
          simp [this, List.eraseDups_cons]
        unfold swappedStores
        dsimp only
        rw [if_neg (by rw [hb]; simp), if_neg (fun hh => ?_)]
        · simp only [List.head?_cons, Option.map_some, Option.getD_some, Expr.pos, List.filterMap_cons, List.filterMap_nil, k1', k2', k3', c7, beq_self_eq_true, Bool.and_self, if_true]
          rw [if_neg (by rw [ed]; simp), if_neg (by rw [c10]; simp), if_neg (by rw [c11]; simp)]
        · rw [List.any_eq_true] at hh
          obtain ⟨e, he, hs⟩ := hh
          have hn : notStar e = true := by
            rcases List.mem_cons.mp he with z | z
            · rw [z]; exact c8
            · rcases List.mem_cons.mp z with z | z
              · rw [z]; exact c9
              · cases z
          split at hs
          · exact absurd (show false = true from hn) Bool.false_ne_true
          · cases hs
      refine ⟨_, pss_cons (ps_par g.calm n1 (by rw [g.N]; exact c1) (by rw [g.N]; exact c2) c3 e1 e2 pa hw) pt, fun G0 bs L σ env S H D st sat => ?_⟩
      rw [evS, sat_bind] at sat
      simp only [sat_bind] at sat
      refine use_A (Q := fun vs H1 => ∃ v w, vs = [v, w] ∧ t D ((σ.set i (some v)).set j (some w)) H1) hta st ?_
      simp only [evA, sat_bind]
      refine sat.imp (fun d S1 q => q.imp (fun d2 S2 q v H' L' st1 r1 => ?_) fun _ _ q => q) fun _ _ q => q
      cases r1 with
      | cons ra r1 =>
        cases r1 with
        | cons rb r1 =>
          cases r1
          obtain ⟨env1, he, q⟩ := sat_lift q
          refine ⟨_, _, rfl, ?_⟩
          have hg : gNames [i, j] [_, _] σ H' fun σ1 H1 => t D σ1 H1 := tl_names st1.sl (.cons ra (.cons rb .nil)) he fun σ1 sl1 hw => ht G0 bs L' σ1 env1 S2 H' D (st1.names (ownSub_of he (hw _ fun _ h => h)) sl1) q
          obtain ⟨v1, r1, z1, v2, r2, z2, z3, q⟩ := hg
          cases z1; cases z2
          exact q
    · cases h1
  · cases h
theorem ss_app (ok : PrOk Γ Z) (wo : WordOk Γ Z wf) (hc : CFok Γ r cf) {i : Nat} {e : E} {k : S} {sts : List Stmt} (h : chkS Z C (.app i e k) sts = true) (ik : ∀ l, chkS Z C k l = true → SS Γ C r wf cf k l) : SS Γ C r wf cf (.app i e k) sts := by
  intro X E g tk hp
  simp only [chkS] at h
  split at h
  · rename_i x q m ap v cp p rest
    simp only [Bool.and_eq_true, decide_eq_true_eq] at h
    obtain ⟨⟨⟨⟨⟨rfl, h1⟩, h2⟩, h3⟩, h3'⟩, h4⟩ := h
    obtain ⟨t, pt, ht⟩ := ik _ h4 X E g tk hp
    obtain ⟨te, pe, hte⟩ := sE ok wo e C r cf hc v h2 X (WE E) g tk
    have hfew : ((backTo cp (starEach [v] X.env)).all (fun x => !x.1) && (backToKw cp (keywordEach [] X.env)).all (fun x => x.1.isSome)
      && decide (([v] : List Expr).length + ([] : List Keyword).length + (if ([] : List Keyword).isEmpty then 0 else 1) < 30)) = true := by
      have e1 := plain_args2 (es := [v]) (env := X.env) (pos := cp) (by rw [List.all_cons, h3]; rfl)
      rw [e1]
      rfl
    refine ⟨_, pss_cons (ps_expr (pe_bm PySem.F.plainAttrs_list PySem.F.slot_list_append PySem.F.type_list_append mt_append (g.vis h1) (pa_cons pe pa_nil (star1 h3)) (attr_base rfl) hfew h3' (star1 h3) (plain_args rfl)) rfl) pt, fun G0 bs L σ env S H D st sat => ?_⟩
    rw [evS, sat_bind] at sat
    simp only [sat_bind] at sat
    obtain ⟨ds0, h0, sat⟩ := sat_lift sat
    unfold ownAt at h0
    split at h0
    · rename_i ds hds
      obtain rfl := Option.some.inj h0
      obtain ⟨a, vs, ha, hH, rs, ga⟩ := st.sl.own i _ hds
      refine ⟨.ref a, ha, .inl ⟨rfl, vs, .inl (.inl hH)⟩, ?_⟩
      refine hte σ H (Gd G0 σ env) L env S _ st.sl st.ws (sat.imp (fun d S1 q v' H' L' e w r1 => ?_) fun c S' q => use_x st q)
      have st1 := st.grow e w
      have nL : a ∉ L := fun z => st.ws.dis a z ga
      have ha1 := e.keep _ _ hH nL (fun ps z => by cases z)
      obtain ⟨env1, he, q⟩ := sat_lift q
      unfold appD at he
      rw [hds] at he
      dsimp only at he
      split at he
      · rename_i hlen
        cases he
        refine ⟨a, vs, v', rfl, rfl, ha1, by rw [← rs.length]; exact Nat.lt_of_lt_of_le hlen (big_line (Nat.le_refl _)), ?_⟩
        exact ht G0 bs L' σ _ S1 _ D (st1.write hds ha ((rs.kp e.kp).append (.cons r1 .nil))) q
      · cases he
    · cases h0
  · cases h
theorem ss_setix (ok : PrOk Γ Z) (wo : WordOk Γ Z wf) (hc : CFok Γ r cf) {i : Nat} {ix e : E} {k : S} {sts : List Stmt} (h : chkS Z C (.setix i ix e k) sts = true) (ik : ∀ l, chkS Z C k l = true → SS Γ C r wf cf k l) : SS Γ C r wf cf (.setix i ix e k) sts := by
  intro X E g tk hp
  simp only [chkS] at h
  split at h
  · rename_i x q j sp v p rest
    simp only [Bool.and_eq_true] at h
    obtain ⟨⟨⟨⟨⟨h1, h2⟩, h3⟩, h5⟩, h6⟩, h4⟩ := h
    obtain ⟨t, pt, ht⟩ := ik _ h4 X E g tk hp
    obtain ⟨te, pe, hte⟩ := sE ok wo e C r cf hc v h2 X (WE E) g tk
    obtain ⟨ti, pi, hti⟩ := sE ok wo ix C r cf hc j h3 X (WE E) g tk
    have ha : ∀ u, assign (.Subscript (.Name x q) j sp) X.env u = (do
        let ov ← holding [u] (eval (.Name x q) X.env)
        let iv ← holding [u, ov] (eval j X.env)
        standAt sp
        holding [u, ov, iv] (setItem ov iv u)
        release [u, ov, iv] []) := fun u => by
      cases j <;> first | rfl | (exact absurd (show false = true from h5) Bool.false_ne_true)
    refine ⟨_, pss_cons (ps_asg pe (pg_sub (g.vis h1) pi set_list ha) (show swapsWith v (some (.Subscript (.Name x q) j sp)) p.line X.env = pure false from noswap h6) rfl rfl) pt, fun G0 bs L σ env S H D st sat => ?_⟩
    rw [evS, sat_bind] at sat
    simp only [sat_bind] at sat
    refine use_E hte st (sat.imp (fun d S1 q v' H1 L1 st1 r1 => ?_) fun _ _ q => q)
    obtain ⟨d0, h0, q⟩ := sat_lift q
    have hu : ∃ u, σ[i]? = some (some u) := by
      unfold getO at h0
      split at h0
      · rename_i d1 hd1
        obtain ⟨u, hu, ru⟩ := st1.sl.val i _ hd1
        exact ⟨u, hu⟩
      · rename_i ds hds
        obtain ⟨a, vs, hva, hH, rs, ga⟩ := st1.sl.own i _ hds
        exact ⟨_, hva⟩
      · cases h0
    obtain ⟨u, hu⟩ := hu
    refine ⟨u, hu, ?_⟩
    refine hti σ H1 (Gd G0 σ env) L1 env S1 _ st1.sl st1.ws (q.imp (fun jd S2 q w2 H2 L2 e2 ww2 r2 => ?_) fun c S' q => use_x st1 q)
    have st2 := st1.grow e2 ww2
    have r1' := r1.kp e2.kp
    obtain ⟨pr, he, q⟩ := sat_lift q
    rcases setIxD_inv he with ⟨ds, kk, jj, hi, rfl, hix, rfl⟩ | ⟨l, kk, ds, jj, hi, rfl, hS, hix, rfl⟩
    · obtain ⟨a, vs, hva, hH, rs, ga⟩ := st2.sl.own i _ hi
      rw [hu] at hva
      cases hva
      obtain rfl := r2.int_inv
      exact ⟨a, vs, kk, jj, rfl, rfl, hH, by rw [← rs.length]; exact hix, ht G0 bs L2 σ _ _ _ D (st2.write hi hu (rs.set r1' jj)) q⟩
    · obtain ⟨u', hu', ru⟩ := st2.sl.val i _ hi
      rw [hu] at hu'
      cases hu'
      obtain ⟨a, rfl, hL⟩ := ru.loc_inv
      obtain ⟨vs, hvs, rs⟩ := st2.ws.get hL hS
      obtain rfl := r2.int_inv
      obtain ⟨e3, w3⟩ := st2.ws.put hL (rs.set r1' jj)
      exact ⟨a, vs, kk, jj, rfl, rfl, hvs, by rw [← rs.length]; exact hix, ht G0 bs L2 σ env _ _ D (st2.grow e3 w3) q⟩
  · cases h
end
end Mi

set_option Elab.async false
set_option linter.all false
set_option maxRecDepth 100000
set_option maxHeartbeats 1000000
namespace Mi
open PySem PySem.Spec PyProof.Rows L2
section
variable {Γ : Pr} {Z : Sg} {C : Ct} {r : Nat} {cf : Nat → CallF} {wf : WordF}
theorem ss_ifs (ok : PrOk Γ Z) (wo : WordOk Γ Z wf) (hc : CFok Γ r cf) {c : B} {a b k : S} {sts : List Stmt} (h : chkS Z C (.ifs c a b k) sts = true) (ia : ∀ l, chkS Z C a l = true → SS Γ C r wf cf a l) (ib : ∀ l, chkS Z C b l = true → SS Γ C r wf cf b l)
    (ik : ∀ l, chkS Z C k l = true → SS Γ C r wf cf k l) : SS Γ C r wf cf (.ifs c a b k) sts := by
  intro X E g tk hp
  simp only [chkS] at h
  split at h
  · rename_i t0 p q ps rest
    simp only [Bool.and_eq_true] at h
    obtain ⟨⟨⟨h1, h2⟩, h3⟩, h4⟩ := h
    obtain ⟨t, pt, ht⟩ := ik _ h4 X E g tk hp
    obtain ⟨ta, pa, hta⟩ := ia _ h2 X E g tk hp
    obtain ⟨tb, pb, htb⟩ := ib _ h3 X E g tk hp
    obtain ⟨tc, pc, htc⟩ := (sB ok wo c C r cf hc t0 h1).1 X (WE E) g tk
    refine ⟨_, pss_cons (ps_if pc pa pb) pt, fun G0 bs L σ env S H D st sat => ?_⟩
    rw [evS, sat_bind] at sat
    simp only [sat_bind] at sat
    have fin : ∀ (fl : Fl) (S2 : Store), Sat (match fl with | .nx env1 => evS wf cf k env1 S2 | .ret d => .ok (.ret d) S2 | .brk env1 => .ok (.brk env1) S2 | .ct env1 => .ok (.ct env1) S2) (PostFl Γ G0 bs D) (PostXs Γ G0 bs E) → PostFl Γ G0 bs { D with nx := t D } fl S2 := fun fl S2 q => by
      cases fl with
      | nx env1 => exact fun σ' L' H' st' => ht G0 bs L' σ' env1 S2 H' D st' q
      | ret d => exact q
      | brk env1 => exact q
      | ct env1 => exact q
    refine use_B (Q := fun b H1 => if b = true then ta { D with nx := t D } σ H1 else tb { D with nx := t D } σ H1) htc st (sat.imp (fun b S1 q H' L' st1 => ?_) fun _ _ q => q)
    cases b with
    | true =>
      rw [if_pos rfl] at q ⊢
      exact hta G0 bs L' σ env S1 H' _ st1 (q.imp (fun fl S2 q => fin fl S2 q) fun _ _ q => q)
    | false =>
      rw [if_neg Bool.false_ne_true] at q ⊢
      exact htb G0 bs L' σ env S1 H' _ st1 (q.imp (fun fl S2 q => fin fl S2 q) fun _ _ q => q)
  · cases h
theorem ss_while (ok : PrOk Γ Z) (wo : WordOk Γ Z wf) (hc : CFok Γ r cf) {n : Nat} {c : B} {bd k : S} {sts : List Stmt} (h : chkS Z C (.while_ n c bd k) sts = true) (ib : ∀ l, chkS Z C bd l = true → SS Γ C r wf cf bd l)
    (ik : ∀ l, chkS Z C k l = true → SS Γ C r wf cf k l) : SS Γ C r wf cf (.while_ n c bd k) sts := by
  intro X E g tk hp
  simp only [chkS] at h
  split at h
  · rename_i t0 body p rest
    simp only [Bool.and_eq_true] at h
    obtain ⟨⟨h1, h2⟩, h4⟩ := h
    obtain ⟨t, pt, ht⟩ := ik _ h4 X E g tk hp
    obtain ⟨tb, pb, htb⟩ := ib _ h2 X E g tk hp
    obtain ⟨tc, pc, htc⟩ := (sB ok wo c C r cf hc t0 h1).1 X (WE E) g tk
    refine ⟨_, pss_cons (ps_while hp pc pb) pt, fun G0 bs L σ env S H D st sat => ?_⟩
    rw [evS, sat_bind] at sat
    let post : Fl → Store → Prop := fun fl S2 => Sat (match fl with | .nx env1 => evS wf cf k env1 S2 | .ret d => .ok (.ret d) S2 | _ => .stuck) (PostFl Γ G0 bs D) (PostXs Γ G0 bs E)
    refine ⟨fun m σ H => ∃ env S L, Stt Γ.T G0 bs L σ env S H ∧ Sat (whileL (fun env S => (evB wf cf c env S).calm) (fun env S => (evS wf cf bd env S).calm) m env S) post (PostXs Γ G0 bs E), ⟨n, env, S, L, st, sat⟩, ?_⟩
    rintro m σ1 H1 ⟨env1, S1, L1, st1, sat1⟩
    cases m with
    | zero => exact sat1.elim
    | succ m =>
      rw [whileL, sat_bind] at sat1
      refine use_B htc st1 ((sat_calm sat1).imp (fun b S2 q H' L' st2 => ?_) fun _ _ q => q)
      cases b with
      | true =>
        rw [if_pos rfl] at q ⊢
        rw [sat_bind] at q
        refine ⟨fun σ' H' => ∃ env S L, Stt Γ.T G0 bs L σ' env S H' ∧ Sat (whileL (fun env S => (evB wf cf c env S).calm) (fun env S => (evS wf cf bd env S).calm) m env S) post (PostXs Γ G0 bs E), fun σ' H' w => ⟨m, Nat.lt_succ_self m, w⟩, ?_⟩
        refine htb G0 bs L' σ1 env1 S2 H' _ st2 ((sat_calm q).imp (fun fl S3 q => ?_) fun _ _ q => q)
        cases fl with
        | nx env2 => exact fun σ' L' H' st' => ⟨env2, S3, L', st', q⟩
        | ct env2 => exact fun σ' L' H' st' => ⟨env2, S3, L', st', q⟩
        | brk env2 => exact fun σ' L' H' st' => ht G0 bs L' σ' env2 S3 H' D st' q
        | ret d => exact q
      | false =>
        rw [if_neg Bool.false_ne_true] at q ⊢
        exact ht G0 bs L' σ1 env1 S2 H' D st2 q
  · cases h
theorem ss_for (ok : PrOk Γ Z) (wo : WordOk Γ Z wf) (hc : CFok Γ r cf) {tg : Tg} {it : I} {bd k : S} {sts : List Stmt} (h : chkS Z C (.for_ tg it bd k) sts = true) (ib : ∀ l, chkS Z C bd l = true → SS Γ C r wf cf bd l)
    (ik : ∀ l, chkS Z C k l = true → SS Γ C r wf cf k l) : SS Γ C r wf cf (.for_ tg it bd k) sts := by
  intro X E g tk hp
  simp only [chkS] at h
  split at h
  · rename_i t0 iter body p rest
    simp only [Bool.and_eq_true, Bool.or_eq_true, Bool.not_eq_true'] at h
    obtain ⟨⟨⟨⟨⟨h1, h2⟩, h3⟩, h5⟩, h6⟩, h4⟩ := h
    have hpair : isPair it = true → ∃ is, tg = .tup is := fun hp => by
      rcases h2 with h2 | h2
      · rw [hp] at h2; cases h2
      · cases tg with
        | name i => cases h2
        | tup is => exact ⟨is, rfl⟩
    have hpt : isPair it = true → ∃ es k p, t0 = .Tuple es k p := fun hp => by
      obtain ⟨is, rfl⟩ := hpair hp
      simp only [chkG] at h3
      split at h3
      · rename_i es hes
        obtain ⟨k, p, rfl⟩ := xTup_of hes
        exact ⟨es, k, p, rfl⟩
      · cases h3
    obtain ⟨t, pt, ht⟩ := ik _ h4 X E g tk hp
    obtain ⟨tb, pb, htb⟩ := ib _ h6 X E g tk hp
    obtain ⟨wi, pw, hwi⟩ := sI ok wo it C r cf hc iter h1 X (WE E) t0 g tk hpt
    refine ⟨_, pss_cons (ps_for hp g.calm pw (pg_tg g h3) pb (nofold h5)) pt, fun G0 bs L σ env S H D st sat => ?_⟩
    rw [evS, sat_bind] at sat
    simp only [sat_bind] at sat
    refine hwi σ H (Gd G0 σ env) L env S _ st.sl st.ws (sat.imp (fun xs S1 q J H1 L1 e1 w1 iter => ?_) fun c S' q => use_x st q)
    have st1 := st.grow e1 w1
    let body' : Mi.D → Env → Store → R Fl := fun x env S => (lift (setG tg x env) S).bind fun env1 S => (evS wf cf bd env1 S).calm
    let post : Fl → Store → Prop := fun fl S2 => Sat (match fl with | .nx env1 => evS wf cf k env1 S2 | .ret d => .ok (.ret d) S2 | _ => .stuck) (PostFl Γ G0 bs D) (PostXs Γ G0 bs E)
    have q : Sat (forL body' xs env S1) post (PostXs Γ G0 bs E) := q
    let b1 : Bs := ⟨Gd G0 σ env, L1, H1⟩
    have st1' : Stt Γ.T G0 (b1 :: bs) L1 σ env S1 H1 := by
      refine ⟨fun b hb => ?_, fun b hb a ha => ?_, st1.g0, st1.inj, st1.ws, st1.sl⟩
      · rcases List.mem_cons.mp hb with z | z
        · subst z
          exact ⟨fun a o h _ _ _ => h, ⟨[], by simp [b1], by simp⟩, fun a ha => st1.ws.gt a ha⟩
        · exact st1.ext b z
      · rcases List.mem_cons.mp hb with z | z
        · subst z
          exact .inl (.inr ha)
        · exact st1.fr b z a ha
    have drop1 : ∀ {σ' : L2.St} {env' : Env} {S' : Store} {L' : List Addr} {H' : Hp}, Stt Γ.T G0 (b1 :: bs) L' σ' env' S' H' → Stt Γ.T G0 bs L' σ' env' S' H' := fun s =>
      ⟨fun b hb => s.ext b (List.mem_cons_of_mem _ hb), fun b hb => s.fr b (List.mem_cons_of_mem _ hb), s.g0, s.inj, s.ws, s.sl⟩
    have nth : ∀ {fl : Fl} {S2 : Store}, post fl S2 → (∀ env', fl = .nx env' → ∀ σ' L' H', Stt Γ.T G0 bs L' σ' env' S2 H' → t D σ' H') := fun {fl S2} q env' z σ' L' H' st' => by
      subst z
      exact ht G0 bs L' σ' env' S2 H' D st' q
    refine for_it iter (fun i σ2 H2 => ∃ env2 S2 L2, Stt Γ.T G0 (b1 :: bs) L2 σ2 env2 S2 H2 ∧ Sat (forL body' (xs.drop i) env2 S2) post (PostXs Γ G0 bs E)) ⟨env, S1, L1, st1', q⟩ ?_ ?_ ?_
    · rintro i σ2 H2 _ ⟨env2, S2, L2, st2, _⟩
      intro a o ha hn nt
      exact (st2.ext b1 List.mem_cons_self).keep a o ha (fun z => hn (.inr z)) (fun z => hn (.inl z)) nt
    · rintro i x σ2 H2 H3 hi ⟨env2, S2, L2, st2, sat2⟩ ⟨d, hd, item⟩
      have hdrop : xs.drop i = d :: xs.drop (i + 1) := by
        have hlt := (List.getElem?_eq_some_iff.mp hd).1
        rw [List.drop_eq_getElem_cons hlt, (List.getElem?_eq_some_iff.mp hd).2]
      rw [hdrop] at sat2
      simp only [forL] at sat2
      rw [sat_bind] at sat2
      have sat2' : Sat ((lift (setG tg d env2) S2).bind fun env1 S => (evS wf cf bd env1 S).calm) _ _ := sat2
      rw [sat_bind] at sat2'
      obtain ⟨env3, henv3, sat3⟩ := sat_lift sat2'
      have m1 := st2.ext b1 List.mem_cons_self
      have kp : Kp H1 (Bad (Gd G0 σ env) L1) L1 H2 (Bad (Gd G0 σ2 env2) L2) L2 := by
        obtain ⟨N, hN, fN⟩ := m1.more
        refine ⟨fun a o h n nt => m1.keep a o h (fun z => n (.inr z)) (fun z => n (.inl z)) nt, fun a o h nt z => ?_, fun k a h => ?_⟩
        · rcases z with (z | z) | z
          · exact .inl (.inl z)
          · rcases st2.fr b1 List.mem_cons_self a z with q | q
            · exact .inl q
            · obtain ⟨ps, q⟩ := q o h
              exact absurd q (nt ps)
          · rw [hN] at z
            rcases List.mem_append.mp z with z | z
            · exact .inr z
            · obtain ⟨ps, q⟩ := fN a z o h
              exact absurd q (nt ps)
        · rw [hN]
          exact (List.getElem?_append_left (List.getElem?_eq_some_iff.mp h).1).trans h
      have st3 : Stt Γ.T G0 (b1 :: bs) L2 σ2 env2 S2 H3 := by
        cases hpq : isPair it with
        | false =>
          rw [hpq] at item
          have it' : H3 = H2 ∧ _ := item
          rw [it'.1]
          exact st2
        | true =>
          rw [hpq] at item
          obtain ⟨T, d1, d2, v1, v2, _, _, hT, h3, _, _⟩ := (show ∃ T d1 d2 v1 v2, d = .tuple [d1, d2] ∧ x = .ref T ∧ H2 T = none ∧ H3 = upd H2 T (.tup [v1, v2]) ∧ _ ∧ _ from item)
          rw [h3]
          exact st2.grow (Ext.new hT) (st2.ws.new hT)
      obtain ⟨ds, hn⟩ := setG_names henv3
      refine tl_tg (G := Gd G0 σ2 env2) (L := L2) (H1 := H2) hpair st2.sl item kp st3.sl henv3 fun σ4 sl4 hw => ?_
      have st4 := st3.names (ownSub_of hn (hw _ fun i h => h)) sl4
      refine htb G0 (b1 :: bs) L2 σ4 env3 S2 H3 _ st4 ((sat_calm sat3).imp (fun fl S5 q => ?_) fun _ _ q => q)
      cases fl with
      | nx env5 => exact fun σ' L' H' st' => ⟨env5, S5, L', st', q⟩
      | ct env5 => exact fun σ' L' H' st' => ⟨env5, S5, L', st', q⟩
      | brk env5 => exact fun σ' L' H' st' => ht G0 bs L' σ' env5 S5 H' D (drop1 st') q
      | ret d => exact fun v L' H' hb w' r' => q v L' H' (fun b hm => hb b (List.mem_cons_of_mem _ hm)) w' r'
    · rintro σ2 H2 ⟨env2, S2, L2, st2, sat2⟩
      rw [List.drop_length] at sat2
      exact ht G0 bs L2 σ2 env2 S2 H2 D (drop1 st2) sat2
  · cases h
end
section
variable {Γ : Pr} {Z : Sg} {C : Ct} {r : Nat} {cf : Nat → CallF} {wf : WordF}
theorem sS (ok : PrOk Γ Z) (wo : WordOk Γ Z wf) (xo : ExOk Γ Z) (hc : CFok Γ r cf) (hk : C.sc.kind = .function) : ∀ (s : S) (sts : List Stmt), chkS Z C s sts = true → SS Γ C r wf cf s sts
  | .done, sts, h => ss_done h
  | .pass k, sts, h => ss_pass h (sS ok wo xo hc hk k)
  | .set i e k, sts, h => ss_set ok wo hc hk h (sS ok wo xo hc hk k)
  | .own i e k, sts, h => ss_own ok wo hc hk h (sS ok wo xo hc hk k)
  | .frz i k, sts, h => ss_frz h (sS ok wo xo hc hk k)
  | .par i j a b k, sts, h => ss_par ok wo hc hk h (sS ok wo xo hc hk k)
  | .unp is e k, sts, h => ss_unp ok wo hc h (sS ok wo xo hc hk k)
  | .app i e k, sts, h => ss_app ok wo hc h (sS ok wo xo hc hk k)
  | .setix i ix e k, sts, h => ss_setix ok wo hc h (sS ok wo xo hc hk k)
  | .ex e k, sts, h => ss_ex ok wo hc h (sS ok wo xo hc hk k)
  | .ret e, sts, h => ss_ret ok wo hc h
  | .retn, sts, h => ss_retn h
  | .brk, sts, h => ss_brk h
  | .cont, sts, h => ss_cont h
  | .raise c x, sts, h => ss_raise xo h
  | .ifs c a b k, sts, h => ss_ifs ok wo hc h (sS ok wo xo hc hk a) (sS ok wo xo hc hk b) (sS ok wo xo hc hk k)
  | .for_ tg it bd k, sts, h => ss_for ok wo hc h (sS ok wo xo hc hk bd) (sS ok wo xo hc hk k)
  | .while_ n c bd k, sts, h => ss_while ok wo hc h (sS ok wo xo hc hk bd) (sS ok wo xo hc hk k)
end
end Mi

set_option Elab.async false
set_option linter.all false
set_option maxRecDepth 100000
set_option maxHeartbeats 1000000
namespace Mi
open PySem PySem.Spec PyProof.Rows L2
/-! ### a def keeps its promise -/
/-- the name of a lambda in a def -/
def lamQ (x : Str) : Str := (envOfC x ⟨.function, [], false, false, []⟩ 0 0 .none).qual ++ "<lambda>"
structure DefOk (Γ : Pr) (Z : Sg) (f : Nat) (d : Df) : Prop where
  ex : ∃ (st : Stmt) (lam : Bool), L2.Fun Γ.K d.name d.name st (Γ.fa f) (Γ.fd f) ∧ FnScope d.N (d.N.take d.np) (defScope st) ∧ chkS Z ⟨d.N, defScope st, fun _ => true, lam⟩ d.body (defBody st) = true ∧
    (lam = true → ∃ c P, (Γ.fd f).code = .ref c ∧ LamX.TabB Γ.base Γ.mg c P ∧ (P, lamQ d.name) ∈ Γ.T ∧ ∀ p ∈ Γ.T, p.1 = P → p.2 = lamQ d.name)
section
variable {Γ : Pr} {Z : Sg} {wf : WordF}
theorem startE_get {n np : Nat} {args : List D} {i : Nat} {x : Sl} (h : (startE n np args)[i]? = some x) : (∃ d, args[i]? = some d ∧ x = .val d) ∨ x = .no := by
  unfold startE at h
  by_cases hi : i < (args.map Sl.val).length
  · rw [List.getElem?_append_left hi] at h
    rw [List.getElem?_map] at h
    cases ha : args[i]? with
    | none => rw [ha] at h; cases h
    | some d => rw [ha] at h; cases h; exact .inl ⟨d, rfl, rfl⟩
  · rw [List.getElem?_append_right (Nat.le_of_not_lt hi)] at h
    exact .inr (List.eq_of_mem_replicate (List.mem_of_getElem? h))
theorem no_own {n np : Nat} {args : List D} {σ : L2.St} {a : Addr} (h : OwnA σ (startE n np args) a) : False := by
  obtain ⟨i, ds, h1, _⟩ := h
  rcases startE_get h1 with ⟨d, _, z⟩ | z <;> cases z
theorem stt_start {T : Tb} {G : Addr → Prop} {L : List Addr} {H : Hp} {S : Store} {N : List Str} {np : Nat} {args : List D} {vs : List V} (hn : np ≤ N.length) (hl : args.length = np) (w : WS T G L H S) (r : Reps H (Bad G L) L args vs) :
    Stt T G [⟨fun _ => False, L, H⟩] L (L2.start N vs) (startE N.length np args) S H := by
  have hG : ∀ a, Gd G (L2.start N vs) (startE N.length np args) a → G a := fun a h => h.elim id fun z => (no_own z).elim
  refine ⟨fun b hb => ?_, fun b _ a h => (no_own h).elim, fun a h => (no_own h).elim, fun i j a ds es h1 _ _ _ => ?_, w.less hG, ?_, fun i d h => ?_, fun i ds h => ?_⟩
  · rw [List.mem_singleton] at hb
    subst hb
    exact ⟨fun _ _ h _ _ _ => h, ⟨[], by simp, by simp⟩, fun _ z => z.elim⟩
  · rcases startE_get h1 with ⟨d, _, z⟩ | z <;> cases z
  · have := r.length
    unfold L2.start startE
    simp only [List.length_append, List.length_map, List.length_replicate]
    omega
  · rcases startE_get h with ⟨d', ha, z⟩ | z
    · cases z
      obtain ⟨v, hv, rv⟩ := r.get ha
      refine ⟨v, ?_, rv.kp (kp_mono hG)⟩
      unfold L2.start
      have hi : i < vs.length := (List.getElem?_eq_some_iff.mp hv).1
      rw [List.getElem?_append_left (by rw [List.length_map]; exact hi), List.getElem?_map, hv]
      rfl
    · cases z
  · rcases startE_get h with ⟨d, _, z⟩ | z <;> cases z
theorem fn_mi (ok : PrOk Γ Z) (wo : WordOk Γ Z wf) (xo : ExOk Γ Z) {r : Nat} (hr2 : 2 ≤ r) {cf : Nat → CallF} (hc : CFok Γ r cf) {f : Nat} {d : Df} (hd : Γ.defs[f]? = some d) (D0 : DefOk Γ Z f d) :
    FnOk Γ.P Γ.w Γ.K Γ.mg Γ.base (L2.CX Γ.P Γ.w) (r + 1) (Γ.fa f) (Γ.fd f) (d.N.take d.np) (spOf Γ d.np (runDf wf cf d)) := by
  obtain ⟨st, lam, F, S, hchk, hlam⟩ := D0.ex
  have hnp := ok.np f d hd
  obtain ⟨oc, od, kV, doc, pm, an, cdv, ct, osl, efd, lk, hcd⟩ := F.ex
  rw [efd]
  rw [efd] at hlam lk
  refine fn_of lk hcd S (fun vs H Q E h => ?_) fun A outer s H vs Q E hr h => ?_
  · rw [h.1, List.length_take]; omega
  · obtain ⟨hlen, G, L, S0, args, w, rs, sat⟩ := h
    let X : Cx := cxOf (L2.CX Γ.P Γ.w) Γ.P Γ.w Γ.K Γ.mg Γ.base d.N d.name (defScope st) (Γ.fa f) cdv A outer s H E
    have g : Good Γ r ⟨d.N, defScope st, fun _ => true, lam⟩ X := by
      refine ⟨rfl, rfl, rfl, rfl, rfl, rfl, S.nd, rfl, rfl, hr, rfl, fun hl => ⟨hr2, ?_⟩⟩
      obtain ⟨c, P, h1, h2, h3, h4⟩ := hlam hl
      exact ⟨c, P, h1, h2, h3, h4⟩
    obtain ⟨t, pt, ht⟩ := sS ok wo xo hc (C := ⟨d.N, defScope st, fun _ => true, lam⟩) S.kind d.body (defBody st) hchk X E g (takes_of rfl rfl rfl rfl) (passes_of rfl)
    refine ⟨t, pt, ?_⟩
    have hl : args.length = d.np := by rw [rs.length]; exact hlen
    unfold runDf at sat
    rw [if_pos hl, sat_bind] at sat
    have toExt : ∀ {L' : List Addr} {H' : Hp}, (∀ b ∈ [(⟨fun _ => False, L, H⟩ : Bs)], ExtM b L' H') → Ext L H L' H' := fun h =>
      have m := h _ List.mem_cons_self
      ⟨fun a o h1 h2 h3 => m.keep a o h1 h2 (fun z => z) h3, m.more⟩
    refine ht G [⟨fun _ => False, L, H⟩] L (L2.start d.N vs) (startE d.N.length d.np args) S0 H _ (stt_start hnp hl w rs) (sat.imp (fun fl S1 q => ?_) fun c S1 q => ?_)
    · cases fl with
      | nx env1 => exact fun σ' L' H' st' => q .non H' L' (toExt st'.ext) (st'.ws.less st'.g0sub) .non
      | ret v => exact fun u L' H' hb w' r' => q u H' L' (toExt hb) w' r'
      | brk env1 => exact q.elim
      | ct env1 => exact q.elim
    · exact fun dd L' H' hb w' => q dd H' L' (toExt hb) w'
theorem fn_none {k : Nat} {f : Nat} {d : Df} {g : List D → Store → R D} (hg : ∀ args S, g args S = .stuck) : FnOk Γ.P Γ.w Γ.K Γ.mg Γ.base (L2.CX Γ.P Γ.w) k (Γ.fa f) (Γ.fd f) (d.N.take d.np) (spOf Γ d.np g) := by
  have no : ∀ {vs H Q E}, spOf Γ d.np g vs H Q E → False := fun h => by
    obtain ⟨_, G, L, S, args, _, _, sat⟩ := h
    rw [hg] at sat
    exact sat
  exact ⟨fun vs H Q E h => (no h).elim, fun A outer s H args us vs Q E _ _ _ _ h => (no h).elim⟩
theorem cf_ok (ok : PrOk Γ Z) (wo : WordOk Γ Z wf) (xo : ExOk Γ Z) (hD : ∀ f d, Γ.defs[f]? = some d → DefOk Γ Z f d) : ∀ n, CFok Γ (n + 2) (callT wf Γ.defs n)
  | 0 => fun j f d hd => ⟨fn_none fun _ _ => rfl, fun _ _ _ => rfl⟩
  | n + 1 => fun j f d hd => by
    cases j with
    | zero =>
      have e : callT wf Γ.defs (n + 1) 0 f = runDf wf (callT wf Γ.defs n) d := by
        funext args S
        show (match Γ.defs[f]? with | some d => runDf wf (callT wf Γ.defs n) d args S | none => .stuck) = _
        rw [hd]
      refine ⟨?_, fun args S hne => ?_⟩
      · rw [e]
        exact fn_mi ok wo xo (by omega) (cf_ok ok wo xo hD n) hd (hD f d hd)
      · rw [e]
        unfold runDf
        rw [if_neg hne]
    | succ j =>
      have := cf_ok ok wo xo hD n j f d hd
      rw [show n + 1 + 2 - (j + 1) = n + 2 - j by omega]
      exact this
/-- the promise of a def, n levels deep -/
theorem mi_sound (ok : PrOk Γ Z) (wo : WordOk Γ Z wf) (xo : ExOk Γ Z) (hD : ∀ f d, Γ.defs[f]? = some d → DefOk Γ Z f d) (n : Nat) {f : Nat} {d : Df} (hd : Γ.defs[f]? = some d) :
    FnOk Γ.P Γ.w Γ.K Γ.mg Γ.base (L2.CX Γ.P Γ.w) (n + 2) (Γ.fa f) (Γ.fd f) (d.N.take d.np) (spOf Γ d.np (callT wf Γ.defs n 0 f)) := (cf_ok ok wo xo hD n 0 f d hd).1
end
end Mi

set_option Elab.async false
set_option linter.all false
set_option maxRecDepth 100000
set_option maxHeartbeats 1000000
namespace Mi
open PySem PySem.Spec PyProof.Rows L2
/-! ### the head's facts, by one look -/
abbrev Fg := PySem.W.Frag
def adr (K : Fg) (x : Str) : Addr := match PySem.W.nsIn K mainGlobals x with | some (some (.ref a)) => a | _ => 0
def noFd : FuncData := PySem.W.fnOf "" "" ⟨[], [], none, [], [], none, []⟩ [] ⟨.function, [], false, false, []⟩ .none .none .none .none none .none .none
def fdOf (K : Fg) (a : Addr) : FuncData := match K.lookup a with | some ⟨_, _, .func fd, _⟩ => fd | _ => noFd
def refB (K : Fg) (x : Str) : Bool := match PySem.W.nsIn K mainGlobals x with | some (some (.ref _)) => true | _ => false
def noneB (K : Fg) (x : Str) : Bool := match PySem.W.nsIn K mainGlobals x with | some none => true | _ => false
def intB (K : Fg) (x : Str) (i : Int) : Bool := match PySem.W.nsIn K mainGlobals x with | some (some (.int j _)) => decide (i = j) | _ => false
def defB (K : Fg) (x : Str) : Bool := refB K x && PySem.W.keepIn K (.ref (adr K x)) && PySem.W.codeIn K (fdOf K (adr K x)).code x && PySem.W.fnIn K (adr K x)
def vErr : List Value := [.type "ValueError", .type "Exception", .type "BaseException", .type "object"]
def isV (o : Option Value) (t : String) : Bool := match o with | some (.type n) => decide (n = t) | _ => false
def isB (o : Option Bool) (b : Bool) : Bool := match o with | some c => decide (c = b) | none => false
def exB (K : Fg) (x : Str) : Bool := refB K x && PySem.W.keepIn K (.ref (adr K x)) && PySem.W.excIn K (adr K x) vErr "ValueError.__new__" && isB (PySem.W.subIn K (.ref (adr K x)) (.type "BaseException")) true && isV (PySem.W.typeIn K (.ref (adr K x))) "type"
def wordB (K : Fg) : List (Value × Option Str) → Value → Option Str
  | [], _ => none
  | (c, o) :: r, cls => match PySem.W.exmOne K cls c with
    | some true => o
    | some false => wordB K r cls
    | none => none
theorem wordB_of {K : Fg} {cls : Value} {w : Str} : ∀ {l : List (Value × Option Str)}, wordB K l cls = some w → wordOf K l cls w
  | [], h => by cases h
  | (c, o) :: r, h => by
    simp only [wordB] at h
    split at h
    · rename_i e
      exact ⟨true, e, fun _ => h, fun z => by cases z⟩
    · rename_i e
      exact ⟨false, e, (fun z => by cases z), fun _ => wordB_of h⟩
    · cases h
/-- a def of the program, its text, whether it holds lambdas -/
structure Src where
  d : Df
  st : Stmt
  lam : Bool
structure Txt where
  srcs : List Src
  cons : List (Str × Int)
  excs : List Str
  word : Str
  wst : Stmt
  wN : List Str
  wa : Str
  hs : List (Str × Option Str)
  wtab : List (Option Str)
  names : List Str
def Txt.P (t : Txt) : List Df := t.srcs.map (·.d)
def Txt.Z (t : Txt) : Sg := ⟨t.P, t.cons, t.excs, t.word⟩
def Txt.wf (t : Txt) : WordF := fun c => if c.cls < t.excs.length then (t.wtab[c.cls]?).bind id else none
def Txt.lams (t : Txt) : List Src := t.srcs.filter (·.lam)
def codeA (K : Fg) (x : Str) : Addr := match (fdOf K (adr K x)).code with | .ref c => c | _ => 0
def tabA (K : Fg) (c : Addr) : Addr := match K.lookup c with | some ⟨_, _, .fields vs, _⟩ => (match (vs[11]? : Option Value) with | some (.ref P) => P | _ => 0) | _ => 0
def Txt.cs (t : Txt) (K : Fg) : List (Addr × Addr) := t.lams.map fun s => (codeA K s.d.name, tabA K (codeA K s.d.name))
def Txt.tb (t : Txt) (K : Fg) : Tb := t.lams.map fun s => (tabA K (codeA K s.d.name), lamQ s.d.name)
def Txt.hl (t : Txt) (K : Fg) : List (Value × Option Str) := t.hs.map fun p => (.ref (adr K p.1), p.2)
def isRef (v : Value) : Bool := match v with | .ref _ => true | _ => false
def Txt.headB (t : Txt) (ts : List Addr) (K : Fg) : Bool :=
  (t.srcs.all fun s => defB K s.d.name) && (bnames.all fun x => noneB K x) && (t.cons.all fun p => intB K p.1 p.2) && (t.excs.all fun x => exB K x) && defB K t.word && (t.hs.all fun p => refB K p.1) &&
  ((List.range t.excs.length).all fun c => match t.wtab[c]? with
    | some (some w) => (match wordB K (t.hl K) (.ref (adr K (t.excs.getD c ""))) with | some v => decide (v = w) | none => false) && decide (w.length ≤ BIG)
    | _ => true) &&
  (t.lams.all fun s => isRef (fdOf K (adr K s.d.name)).code) && ((t.cs K).all fun p => PySem.W.codeHdIn K p.1 p.2 && ts.contains p.2 && (K.lookup p.2).isNone) &&
  ((t.tb K).all fun p => (t.tb K).all fun q => decide (p.1 ≠ q.1) || decide (p.2 = q.2)) && (K.all fun p => match p.2 with | ⟨.type "list", _, .seq _ _, _⟩ => false | _ => true)
def fnEq (K : Fg) (x : Str) (st : Stmt) : FuncData :=
  let fd := fdOf K (adr K x)
  PySem.W.fnOf x x (defArgs st) (defBody st) (defScope st) .none fd.kwdefaults fd.doc fd.pyModule fd.annotations fd.code fd.closureTuple
def Txt.fns (t : Txt) : List (Str × Stmt) := (t.word, t.wst) :: t.srcs.map fun s => (s.d.name, s.st)
/-- the texts stand there -/
def Txt.FnEq (t : Txt) (K : Fg) : Prop := (t.fns.map fun p => fdOf K (adr K p.1)) = t.fns.map fun p => fnEq K p.1 p.2
def BindOk (x : Str) (st : Stmt) (ps : List Str) : Prop := ∀ (kV doc pm : Value) (an : Option Addr) (cdv ct : Value) (us : List Value), us.length = ps.length → bindArgs (PySem.W.fnOf x x (defArgs st) (defBody st) (defScope st) .none kV doc pm an cdv ct) ⟨us, []⟩ = pure (ps.zip us)
/-! the word's def -/
def hdB (sc : Scope) (fnd : Str) : List ExceptHandler → List (Str × Option Str) → Bool
  | [], [] => true
  | .ExceptHandler (some (.Name x np)) n suite pos :: hds, (y, o) :: l => decide (x = y) && decide (sc.names.lookup x = some .globalImplicit) && !(x == ("__debug__" : Str)) && hdB sc fnd hds l &&
      (match n, o with
        | none, some w => (match suite with | [.Assign [.Name z p1] (.Constant (.str v) j p2) p3] => decide (z = fnd) && decide (v = w) | _ => false)
        | some _, none => true
        | _, _ => false)
  | _, _ => false
def wbB (sc : Scope) (N : List Str) (a : Str) (hs : List (Str × Option Str)) (b : List Stmt) : Bool :=
  match b with
  | [.Assign [.Name fnd p1] (.Constant (.str e) j p2) p3, .Try [.Expr (.Call (.Name c p4) [] [] p5) p6] (h0 :: hds) [] [] p7, .Return (some (.Name r p8)) p9] =>
    decide (e = "") && decide (c = a) && decide (r = fnd) && hdB sc fnd (h0 :: hds) hs && decide (N[1]? = some fnd) && (match sc.names.lookup fnd with | some .local => true | some .cell => true | _ => false) && !(fnd == ("__debug__" : Str)) && !(fnd == ("__classdict__" : Str))
  | _ => false
def Txt.textB (t : Txt) : Bool :=
  (t.srcs.all fun s => decide (s.d.np ≤ s.d.N.length) && C8.scC s.d.N (s.d.N.take s.d.np) (defScope s.st) && chkS t.Z ⟨s.d.N, defScope s.st, fun _ => true, s.lam⟩ s.d.body (defBody s.st)) &&
  C8.scC t.wN [t.wa] (defScope t.wst) && wbB (defScope t.wst) t.wN t.wa t.hs (defBody t.wst) && decide (2 ≤ t.wN.length) && decide (t.wN[0]? = some t.wa) && (match (defScope t.wst).names.lookup t.wa with | some .local => true | some .cell => true | _ => false) && !(t.wa == ("__debug__" : Str)) && !(t.wa == ("__classdict__" : Str))
section
variable {t : Txt} {K : Fg} {mg : Str → Option Value} {h base : Heap} {w : World} {prog : Program} {ts : List Addr}
def Txt.pr (t : Txt) (prog : Program) (w : World) (K : Fg) (mg : Str → Option Value) (base : Heap) : Pr where
  P := prog
  w := w
  K := K
  mg := mg
  base := base
  T := t.tb K
  defs := t.P
  fa := fun f => adr K ((t.P[f]?).elim "" (·.name))
  fd := fun f => fdOf K (adr K ((t.P[f]?).elim "" (·.name)))
  xa := fun c => adr K (t.excs.getD c "")
theorem ref_of {x : Str} (X : K.In h) (G : h.Ns mainGlobals mg) (e : refB K x = true) : mg x = some (.ref (adr K x)) := by
  unfold refB at e
  split at e
  · rename_i a q
    have : adr K x = a := by unfold adr; rw [q]
    rw [this]
    exact PySem.W.mg_of X G q
  · cases e
theorem fun_of {x : Str} {st : Stmt} (e : defB K x = true) (q : fdOf K (adr K x) = fnEq K x st) : L2.Fun K x x st (adr K x) (fdOf K (adr K x)) := by
  unfold defB at e
  simp only [Bool.and_eq_true] at e
  obtain ⟨⟨⟨e1, e2⟩, e3⟩, e4⟩ := e
  unfold PySem.W.fnIn at e4
  split at e4
  · rename_i oc od fd sl hl
    have hfd : fdOf K (adr K x) = fd := by unfold fdOf; rw [hl]
    refine ⟨⟨oc, od, _, _, _, _, _, _, sl, q, ?_, e3⟩, e2⟩
    rw [hl, hfd]
  · cases e4
end
end Mi

set_option Elab.async false
set_option linter.all false
set_option maxRecDepth 100000
set_option maxHeartbeats 1000000
namespace Mi
open PySem PySem.Spec PyProof.Rows L2
theorem mem_lk {a : Addr} {o : Obj} : ∀ {K : Fg}, K.lookup a = some o → (a, o) ∈ K
  | [], h => by cases h
  | (b, u) :: r, h => by
    rw [List.lookup_cons] at h
    split at h
    · rename_i e
      cases h
      rw [beq_iff_eq.mp e]
      exact List.mem_cons_self
    · exact List.mem_cons_of_mem _ (mem_lk h)
theorem hds_of {K : Fg} {mg : Str → Option Value} {sc : Scope} {fnd : Str} (hm : ∀ x, refB K x = true → mg x = some (.ref (adr K x))) : ∀ {hds : List ExceptHandler} {hs : List (Str × Option Str)}, hdB sc fnd hds hs = true → (hs.all fun p => refB K p.1) = true → WHds mg sc fnd hds (hs.map fun p => (.ref (adr K p.1), p.2))
  | [], [], _, _ => .nil
  | [], _ :: _, h, _ => by simp [hdB] at h
  | h0 :: hds, [], h, _ => by
    unfold hdB at h
    split at h
    · rename_i z _; cases z
    · rename_i z; cases z
    · cases h
  | h0 :: hds, (y, o) :: hs, h, ha => by
    unfold hdB at h
    split at h
    · rename_i e _; cases e
    · rename_i x np n suite pos hds' y' o' l' e1 e2
      cases e1
      cases e2
      simp only [Bool.and_eq_true, decide_eq_true_eq, Bool.not_eq_true'] at h
      obtain ⟨⟨⟨⟨rfl, h2⟩, h3⟩, h4⟩, h5⟩ := h
      rw [List.all_cons, Bool.and_eq_true] at ha
      have r := hds_of hm h4 ha.2
      have hx := hm _ ha.1
      split at h5
      · rename_i w
        split at h5
        · rename_i z p1 v j p2 p3
          simp only [Bool.and_eq_true, decide_eq_true_eq] at h5
          obtain ⟨rfl, rfl⟩ := h5
          exact .cons h2 h3 hx r
        · cases h5
      · exact .skip h2 h3 hx r
      · cases h5
    · cases h
section
variable {t : Txt} {K : Fg} {mg : Str → Option Value} {h base : Heap} {w : World} {prog : Program} {ts : List Addr}
structure Head (t : Txt) (ts : List Addr) (K : Fg) (mg : Str → Option Value) : Prop where
  hb : t.headB ts K = true
  fe : t.FnEq K
  bd : ∀ s ∈ t.srcs, BindOk s.d.name s.st (s.d.N.take s.d.np)
  bw : BindOk t.word t.wst [t.wa]
  tx : t.textB = true
  ref : ∀ x, refB K x = true → mg x = some (.ref (adr K x))
  non : ∀ x, noneB K x = true → mg x = none
  int : ∀ x i, intB K x i = true → ∃ tk, mg x = some (.int i tk)
theorem P_get {f : Nat} {d : Df} (hd : t.P[f]? = some d) : ∃ s ∈ t.srcs, s.d = d := by
  unfold Txt.P at hd
  rw [List.getElem?_map] at hd
  cases hs : t.srcs[f]? with
  | none => rw [hs] at hd; cases hd
  | some s =>
    rw [hs] at hd
    cases hd
    exact ⟨s, List.mem_of_getElem? hs, rfl⟩
theorem fa_of {f : Nat} {d : Df} (hd : t.P[f]? = some d) : (t.pr prog w K mg base).fa f = adr K d.name ∧ (t.pr prog w K mg base).fd f = fdOf K (adr K d.name) := by
  show adr K ((t.P[f]?).elim "" (·.name)) = _ ∧ fdOf K (adr K ((t.P[f]?).elim "" (·.name))) = _
  rw [hd]
  exact ⟨rfl, rfl⟩
theorem fn_eq (H : Head t ts K mg) {x : Str} {st : Stmt} (hm : (x, st) ∈ t.fns) : fdOf K (adr K x) = fnEq K x st := (List.map_inj_left.mp H.fe) (x, st) hm
theorem srcs_fns {s : Src} (hs : s ∈ t.srcs) : (s.d.name, s.st) ∈ t.fns := List.mem_cons_of_mem _ (List.mem_map.mpr ⟨s, hs, rfl⟩)
structure HB (t : Txt) (ts : List Addr) (K : Fg) : Prop where
  d : ∀ s ∈ t.srcs, defB K s.d.name = true
  b : ∀ x ∈ bnames, noneB K x = true
  c : ∀ p ∈ t.cons, intB K p.1 p.2 = true
  e : ∀ x ∈ t.excs, exB K x = true
  w : defB K t.word = true
  hs : (t.hs.all fun p => refB K p.1) = true
  wt : ∀ c < t.excs.length, ∀ v, t.wtab[c]? = some (some v) → wordB K (t.hl K) (.ref (adr K (t.excs.getD c ""))) = some v ∧ v.length ≤ BIG
  lr : ∀ s ∈ t.lams, isRef (fdOf K (adr K s.d.name)).code = true
  cs : ∀ p ∈ t.cs K, PySem.W.codeHdIn K p.1 p.2 = true ∧ p.2 ∈ ts ∧ K.lookup p.2 = none
  tb : ∀ p ∈ t.tb K, ∀ q ∈ t.tb K, p.1 = q.1 → p.2 = q.2
  nl : ∀ a o, K.lookup a = some o → ∀ its n, o.cls = .type "list" → o.data ≠ .seq its n
theorem hb_of (h : t.headB ts K = true) : HB t ts K := by
  unfold Txt.headB at h
  simp only [Bool.and_eq_true, List.all_eq_true] at h
  obtain ⟨⟨⟨⟨⟨⟨⟨⟨⟨⟨h1, h2⟩, h3⟩, h4⟩, h5⟩, h6⟩, h7⟩, h8⟩, h9⟩, h10⟩, h11⟩ := h
  refine ⟨h1, h2, h3, h4, h5, by rw [List.all_eq_true]; exact h6, fun c hc v hv => ?_, h8, fun p hp => ?_, fun p hp q hq e => ?_, fun a o ho its n hc hd => ?_⟩
  · have q := h7 c (List.mem_range.mpr hc)
    rw [hv] at q
    simp only [Bool.and_eq_true, decide_eq_true_eq] at q
    obtain ⟨q1, q2⟩ := q
    split at q1
    · rename_i u hu
      rw [decide_eq_true_eq] at q1
      exact ⟨by rw [hu, q1], q2⟩
    · cases q1
  · obtain ⟨⟨q1, q2⟩, q3⟩ := h9 p hp
    exact ⟨q1, by simpa using q2, by simpa using q3⟩
  · have z := h10 p hp q hq
    simp only [Bool.or_eq_true, decide_eq_true_eq] at z
    rcases z with z | z
    · exact absurd e z
    · exact z
  · have z := h11 (a, o) (mem_lk ho)
    obtain ⟨c, d, dd, sl⟩ := o
    dsimp only at hc hd z
    subst hc
    subst hd
    cases z
structure TB2 (t : Txt) : Prop where
  s : ∀ s ∈ t.srcs, s.d.np ≤ s.d.N.length ∧ FnScope s.d.N (s.d.N.take s.d.np) (defScope s.st) ∧ chkS t.Z ⟨s.d.N, defScope s.st, fun _ => true, s.lam⟩ s.d.body (defBody s.st) = true
  ws : FnScope t.wN [t.wa] (defScope t.wst)
  wb : wbB (defScope t.wst) t.wN t.wa t.hs (defBody t.wst) = true
  w2 : 2 ≤ t.wN.length
  w0 : t.wN[0]? = some t.wa
  wv : Vis (defScope t.wst) t.wa
  wd : (t.wa == ("__debug__" : Str)) = false
  wc : (t.wa == ("__classdict__" : Str)) = false
theorem tb_of (h : t.textB = true) : TB2 t := by
  unfold Txt.textB at h
  simp only [Bool.and_eq_true, List.all_eq_true, decide_eq_true_eq, Bool.not_eq_true'] at h
  obtain ⟨⟨⟨⟨⟨⟨⟨h1, h2⟩, h3⟩, h4⟩, h5⟩, h6⟩, h7⟩, h8⟩ := h
  refine ⟨fun s hs => ⟨(h1 s hs).1.1, C8.fnScope_by (h1 s hs).1.2, (h1 s hs).2⟩, C8.fnScope_by h2, h3, h4, h5, ?_, h7, h8⟩
  split at h6
  · exact .inl (by assumption)
  · exact .inr (.inl (by assumption))
  · cases h6
theorem prOk (H : Head t ts K mg) : PrOk (t.pr prog w K mg base) t.Z := by
  have hb := hb_of H.hb
  have tb := tb_of H.tx
  refine ⟨rfl, fun f d hd => ?_, fun f d hd => ?_, fun x hx => H.non x (hb.b x hx), fun x i hm => H.int x i (hb.c (x, i) hm)⟩
  · obtain ⟨s, hs, rfl⟩ := P_get (t := t) hd
    exact (tb.s s hs).1
  · obtain ⟨e1, e2⟩ := fa_of (prog := prog) (w := w) (K := K) (mg := mg) (base := base) (t := t) hd
    obtain ⟨s, hs, rfl⟩ := P_get (t := t) hd
    rw [e1, e2]
    have hd0 := hb.d s hs
    have F := fun_of hd0 (fn_eq H (srcs_fns hs))
    have hd1 := hd0
    unfold defB at hd1
    simp only [Bool.and_eq_true] at hd1
    exact ⟨H.ref _ hd1.1.1.1, hd1.1.1.2, F.binds (H.bd s hs)⟩
theorem exOk (H : Head t ts K mg) : ExOk (t.pr prog w K mg base) t.Z := by
  have hb := hb_of H.hb
  refine ⟨fun c x hx => ?_⟩
  have hx : t.excs[c]? = some x := hx
  have hm : x ∈ t.excs := List.mem_of_getElem? hx
  have e := hb.e x hm
  have ea : (t.pr prog w K mg base).xa c = adr K x := by
    show adr K (t.excs.getD c "") = _
    rw [List.getD_eq_getElem?_getD, hx]
    rfl
  rw [ea]
  unfold exB at e
  simp only [Bool.and_eq_true] at e
  obtain ⟨⟨⟨⟨e1, e2⟩, e3⟩, e4⟩, e5⟩ := e
  refine ⟨vErr, "ValueError", "ValueError.__new__", "ValueError.__init__", PySem.F.excBase_ValueError, e3, H.ref x e1, e2, ?_, ?_⟩
  · unfold isB at e4
    split at e4
    · rename_i c hc
      rw [decide_eq_true_eq] at e4
      show PySem.W.subIn K _ _ = _
      rw [hc, e4]
    · cases e4
  · unfold isV at e5
    split at e5
    · rename_i n hn
      rw [decide_eq_true_eq] at e5
      show PySem.W.typeIn K _ = _
      rw [hn, e5]
    · cases e5
theorem wordOk (H : Head t ts K mg) : WordOk (t.pr prog w K mg base) t.Z t.wf := by
  have hb := hb_of H.hb
  have tb := tb_of H.tx
  have F := fun_of hb.w (fn_eq H (x := t.word) (st := t.wst) List.mem_cons_self)
  have hd1 := hb.w
  unfold defB at hd1
  simp only [Bool.and_eq_true] at hd1
  refine ⟨t.wst, adr K t.word, _, t.wN, t.wa, t.hl K, H.ref _ hd1.1.1.1, hd1.1.1.2, F, F.binds H.bw, tb.ws, ?_, tb.ws.nd, tb.w2, tb.w0, tb.wv, tb.wd, tb.wc, fun c v hv => ?_⟩
  · have q := tb.wb
    unfold wbB at q
    split at q
    · rename_i fnd p1 e j p2 p3 c p4 p5 p6 h0 hds p7 r p8 p9 heq
      simp only [Bool.and_eq_true, decide_eq_true_eq, Bool.not_eq_true'] at q
      obtain ⟨⟨⟨⟨⟨⟨⟨rfl, rfl⟩, rfl⟩, q4⟩, q5⟩, q6⟩, q7⟩, q8⟩ := q
      refine ⟨⟨_, j, p1, p2, p3, p4, p5, p6, p7, p8, p9, h0, hds, heq, hds_of (K := K) H.ref q4 hb.hs, q5, ?_, q7, q8⟩⟩
      split at q6
      · exact .inl (by assumption)
      · exact .inr (by assumption)
      · cases q6
    · cases q
  · unfold Txt.wf at hv
    split at hv
    · rename_i hl
      cases hq : t.wtab[c.cls]? with
      | none => rw [hq] at hv; cases hv
      | some o =>
        rw [hq] at hv
        have ho : o = some v := hv
        subst ho
        obtain ⟨q1, q2⟩ := hb.wt c.cls hl v hq
        exact ⟨wordB_of q1, q2⟩
    · cases hv
theorem defOk (H : Head t ts K mg) (TBB : ∀ p ∈ t.cs K, LamX.TabB base mg p.1 p.2) : ∀ f d, (t.pr prog w K mg base).defs[f]? = some d → DefOk (t.pr prog w K mg base) t.Z f d := fun f d hd => by
  have hb := hb_of H.hb
  have tb := tb_of H.tx
  have hd : t.P[f]? = some d := hd
  obtain ⟨e1, e2⟩ := fa_of (prog := prog) (w := w) (K := K) (mg := mg) (base := base) (t := t) hd
  obtain ⟨s, hs, rfl⟩ := P_get (t := t) hd
  obtain ⟨t1, t2, t3⟩ := tb.s s hs
  refine ⟨s.st, s.lam, ?_, t2, t3, fun hl => ?_⟩
  · rw [e1, e2]
    exact fun_of (hb.d s hs) (fn_eq H (srcs_fns hs))
  · rw [e2]
    have hm : s ∈ t.lams := List.mem_filter.mpr ⟨hs, hl⟩
    have r := hb.lr s hm
    have hc : (fdOf K (adr K s.d.name)).code = .ref (codeA K s.d.name) := by
      unfold codeA
      unfold isRef at r
      split at r
      · rename_i a ha
        rw [ha]
      · cases r
    refine ⟨codeA K s.d.name, tabA K (codeA K s.d.name), hc, TBB _ (List.mem_map.mpr ⟨s, hm, rfl⟩), List.mem_map.mpr ⟨s, hm, rfl⟩, fun p hp e => ?_⟩
    exact hb.tb p hp _ (List.mem_map.mpr ⟨s, hm, rfl⟩) e
end
end Mi

set_option Elab.async false
set_option linter.all false
set_option maxRecDepth 100000
set_option maxHeartbeats 1000000
namespace Mi
open PySem PySem.Spec PyProof.Rows L2
theorem reps_ints {H : Hp} {B : Addr → Prop} {L : List Addr} : ∀ ns : List Int, Reps H B L (ns.map PyData.int) (ns.map V.int)
  | [] => .nil
  | n :: ns => .cons (.int n) (reps_ints ns)
section
variable {t : Txt} {ts : List Addr}
/-- the law's promise at the head's heap -/
theorem law_at {l : PySem.W.OpenLaw} {w : World} {K : Fg} {mg : Str → Option Value} {fa : Addr} {h : Heap} {n li : Nat} {d : Df} (H : Head t ts K mg) (X : K.In h) (hT : ∀ P ∈ ts, h.get? P = some { cls := .none, data := .fields #[] })
    (hd : t.P[li]? = some d) (hx : d.N.take d.np = (["_law_script"] : List Str)) (h1 : d.np = 1) (hn : d.name = "law") (hfa : mg "law" = some (.ref fa)) (hr : refB K "law" = true)
    (hev : ∀ ns : List Int, ns.length ≤ 63 → ∃ S', callT t.wf t.P n 0 li [.list (ns.map PyData.int)] [] = .ok (.bool true) S') :
    LamX.LawAtS l w K (L2.CX l.prog w) (n + 2) 63 "_law_script" mg fa h := by
  have hb := hb_of H.hb
  have efa : adr K "law" = fa := by
    have z := (H.ref _ hr).symm.trans hfa
    cases z
    rfl
  have pr := prOk (prog := l.prog) (w := w) (base := h) H
  obtain ⟨e1, e2⟩ := fa_of (prog := l.prog) (w := w) (K := K) (mg := mg) (base := h) (t := t) hd
  obtain ⟨f1, f2, f3⟩ := pr.fn li d hd
  rw [hx] at f3
  refine ⟨(t.pr l.prog w K mg h).fd li, t.cs K, spOf (t.pr l.prog w K mg h) d.np (callT t.wf t.P n 0 li), fun p hp => hT _ (hb.cs p hp).2.1, fun p hp => (hb.cs p hp).2.2, fun p hp => PySem.W.codeHd_of_K X (hb.cs p hp).1, fun s u => ?_, fun H' a ns hl _ hcs hS => ?_, fun base KB _ TBB => ?_⟩
  · obtain ⟨s0, hs0, hsd⟩ := P_get (t := t) hd
    have F := fun_of (hb.d s0 hs0) (fn_eq H (srcs_fns hs0))
    obtain ⟨oc, od, kV, doc, pm, an, cdv, ct, osl, q, lk, hcd⟩ := F.ex
    have bd := H.bd s0 hs0
    rw [hsd] at q bd
    rw [e2, q, hn]
    rw [hn, hx] at bd
    exact .of_eq (bd kV doc pm an cdv ct [u] rfl)
  · have rd : Rd H' a (.lst (ns.map V.int)) := by
      rcases hS with z | ⟨o, its, m, q1, q2, q3, q4, _⟩
      · exact z
      · exact absurd q4 (hb.nl a o q1 its m q2)
    obtain ⟨S', he⟩ := hev ns hl
    refine ⟨h1.symm, fun _ => False, [], [], [.list (ns.map PyData.int)], ⟨fun k ds z => by simp at z, rfl, List.nodup_nil, fun a ha => by simp at ha, fun a z => z.elim, fun p hp => ?_⟩, .cons (.lst rd (by rintro (z | z); exact z; simp at z) (reps_ints ns)) .nil, ?_⟩
    · obtain ⟨s, hs, rfl⟩ := List.mem_map.mp hp
      exact LamX.TabS.nil (hcs _ (List.mem_map.mpr ⟨s, hs, rfl⟩))
    · rw [he]
      intro v H'' L' _ _ r
      exact r.bl_inv
  · have H2 := H
    have q := mi_sound (Γ := t.pr l.prog w K mg base) (Z := t.Z) (prOk H) (wordOk H) (exOk H) (defOk H TBB) n (f := li) (d := d) hd
    rw [hx] at q
    have ea : (t.pr l.prog w K mg base).fa li = fa := by rw [(fa_of hd).1, hn]; exact efa
    rw [ea] at q
    exact q
theorem cx_no {l : PySem.W.OpenLaw} (w : World) (H : Hp) (s : Shared) (e : Value) (s' : Shared) (z : L2.CX l.prog w [] H s (fun _ _ _ => False) e s') : False := by
  obtain ⟨_, _, _, _, _, _, _, _, _, _, _, _, z⟩ := z
  exact z
end
end Mi
namespace Mi
open PySem PySem.Spec PyProof.Rows L2
section
variable {K : Fg} {mg : Str → Option Value} {h : Heap}
theorem non_of {x : Str} (X : K.In h) (G : h.Ns mainGlobals mg) (e : noneB K x = true) : mg x = none := by
  unfold noneB at e
  split at e
  · rename_i q
    exact PySem.W.mg_none_of X G q
  · cases e
theorem int_of {x : Str} {i : Int} (X : K.In h) (G : h.Ns mainGlobals mg) (e : intB K x i = true) : ∃ t, mg x = some (.int i t) := by
  unfold intB at e
  split at e
  · rename_i j t q
    rw [decide_eq_true_eq] at e
    subst e
    exact ⟨t, PySem.W.mg_of X G q⟩
  · cases e
end
end Mi
namespace Mi
open PySem PySem.Spec PyProof.Rows L2
/-- THE END: a law over a script of at most 63 ints -/
theorem law_holds {l : PySem.W.OpenLaw} {q : Program} {loose : List Str} {XP : (Str → Option Value) → Heap → Prop} {K : Params → Fg} {as : List Addr} {e : ∀ P, as = (K P).map (·.1)} {ts : List Addr} {d : DefRec} (t : Txt) (n li : Nat) (df : Df)
    (hm : l.most = some 63) (hdf : d.params.defaults = []) (hr : Room (n + 2) callerA) (hname : d.name = "law") (hb : ∀ P, t.headB ts (K P) = true) (fe : ∀ P, t.FnEq (K P)) (bd : ∀ s ∈ t.srcs, BindOk s.d.name s.st (s.d.N.take s.d.np)) (bw : BindOk t.word t.wst [t.wa]) (tx : t.textB = true)
    (hd : t.P[li]? = some df) (hx : df.N.take df.np = (["_law_script"] : List Str)) (h1 : df.np = 1) (hn : df.name = "law") (hrf : ∀ P, refB (K P) "law" = true)
    (hev : ∀ ns : List Int, ns.length ≤ 63 → ∃ S', callT t.wf t.P n 0 li [.list (ns.map PyData.int)] [] = .ok (.bool true) S') :
    PySem.W.WalkO q loose XP (PySem.W.kmHook K as e ts).says l.row.toRowW d [] (fun f vs => PySem.call f vs) := by
  refine LamX.walk_ofTs (n := 63) (k := n + 2) (x := "_law_script") (K := K) (CX := fun w => L2.CX l.prog w) hm (by decide) hdf hr (fun w h Y => PySem.W.km_in_of Y) (fun w mg fa h Y X G hmg => ?_) (fun w => cx_no w)
  rw [hname] at hmg
  exact law_at (t := t) (d := df) (li := li) (n := n) ⟨hb w.params, fe w.params, bd, bw, tx, fun x e => ref_of X G e, fun x e => non_of X G e, fun x i e => int_of X G e⟩ X (PySem.W.km_tabs_of Y) hd hx h1 hn hmg (hrf w.params) hev
end Mi

set_option Elab.async false
set_option linter.all false
set_option maxRecDepth 100000
set_option maxHeartbeats 4000000
namespace Mi
open PySem PySem.Spec PyProof.Rows L2
def ix_is_whole : Nat := 0
def ix_tree_size : Nat := 1
def ix_fits_tree : Nat := 2
def ix_fork_count : Nat := 3
def ix_reaches_of : Nat := 4
def ix_root_at : Nat := 5
def ix_tree_from : Nat := 6
def ix_tree_of_reaches : Nat := 7
def ix_flip_over : Nat := 8
def ix_need_tree : Nat := 9
def ix_reaches : Nat := 10
def ix_tree_by : Nat := 11
def ix_tree_flipped : Nat := 12
def ix_law_drum : Nat := 13
def ix_law_roll : Nat := 14
def ix_law_pick : Nat := 15
def ix_law_grown : Nat := 16
def ix_law_forks : Nat := 17
def ix_law_reached : Nat := 18
def ix_law_flip : Nat := 19
def ix_law_bad_trees : Nat := 20
def ix_law_is_row : Nat := 21
def ix_law_row_right : Nat := 22
def ix_law : Nat := 23
def df_is_whole : Df where
  name := "is_whole"
  N := ["value", "low", "high"]
  np := 3
  body := .ret (.and (.inst .int (.var 0)) (.and (.not (.inst .bool (.var 0))) (.chain .le .le (.var 1) (.var 0) (.var 2))))
def df_tree_size : Df where
  name := "tree_size"
  N := ["value", "left", "one", "other"]
  np := 2
  body := .ifs (.or (.not (.val (.inst .tuple (.var 0)))) (.or (.cmp .notin (.lenv 0) (.tup (.cons (.lit (.int 0)) (.cons (.lit (.int 2)) .nil)))) (.and (.cmp .ne (.var 0) (.tup .nil)) (.cmp .eq (.var 1) (.lit (.int 0)))))) (.ret (.lit .none)) .done (.ifs (.cmp .eq (.var 0) (.tup .nil)) (.ret (.lit (.int 0))) .done (.set 2 (.call ix_tree_size (.cons (.idxv 0 (.lit (.int 0))) (.cons (.bin .sub (.var 1) (.lit (.int 1))) .nil))) (.set 3 (.ite (.cmp .is_ (.var 2) (.lit .none)) (.lit .none) (.call ix_tree_size (.cons (.idxv 0 (.lit (.int 1))) (.cons (.bin .sub (.bin .sub (.var 1) (.lit (.int 1))) (.var 2)) .nil)))) (.ret (.ite (.cmp .is_ (.var 3) (.lit .none)) (.lit .none) (.bin .add (.bin .add (.var 2) (.var 3)) (.lit (.int 1))))))))
def df_fits_tree : Df where
  name := "fits_tree"
  N := ["value"]
  np := 1
  body := .ret (.cmp .isnot (.call ix_tree_size (.cons (.var 0) (.cons (.con "MOST_FORKS" 24) .nil))) (.lit .none))
def df_fork_count : Df where
  name := "fork_count"
  N := ["tree"]
  np := 1
  body := .ret (.ite (.cmp .eq (.var 0) (.tup .nil)) (.lit (.int 0)) (.bin .add (.bin .add (.call ix_fork_count (.cons (.idxv 0 (.lit (.int 0))) .nil)) (.call ix_fork_count (.cons (.idxv 0 (.lit (.int 1))) .nil))) (.lit (.int 1))))
def df_reaches_of : Df where
  name := "reaches_of"
  N := ["tree"]
  np := 1
  body := .ret (.ite (.cmp .eq (.var 0) (.tup .nil)) (.tup .nil) (.bin .add (.bin .add (.call ix_reaches_of (.cons (.idxv 0 (.lit (.int 0))) .nil)) (.tup (.cons (.call ix_fork_count (.cons (.idxv 0 (.lit (.int 1))) .nil)) .nil))) (.call ix_reaches_of (.cons (.idxv 0 (.lit (.int 1))) .nil))))
def df_root_at : Df where
  name := "root_at"
  N := ["row", "first", "last", "some", "at"]
  np := 3
  body := .set 3 (.comp [("at", 4)] (.name 4) (.rng2 (.var 1) (.var 2)) (.yes (.cmp .eq (.bin .add (.var 4) (.idxv 0 (.var 4))) (.bin .sub (.var 2) (.lit (.int 1))))) (.var 4)) (.ret (.ite (.cmp .ne (.var 3) (.lst .nil)) (.idxv 3 (.lit (.int 0))) (.lit .none)))
def df_tree_from : Df where
  name := "tree_from"
  N := ["row", "first", "last", "root", "left", "right"]
  np := 3
  body := .ifs (.cmp .eq (.var 1) (.var 2)) (.ret (.tup .nil)) .done (.set 3 (.call ix_root_at (.cons (.var 0) (.cons (.var 1) (.cons (.var 2) .nil)))) (.set 4 (.ite (.cmp .is_ (.var 3) (.lit .none)) (.lit .none) (.call ix_tree_from (.cons (.var 0) (.cons (.var 1) (.cons (.var 3) .nil))))) (.set 5 (.ite (.cmp .is_ (.var 4) (.lit .none)) (.lit .none) (.call ix_tree_from (.cons (.var 0) (.cons (.bin .add (.var 3) (.lit (.int 1))) (.cons (.var 2) .nil))))) (.ret (.ite (.cmp .is_ (.var 5) (.lit .none)) (.lit .none) (.tup (.cons (.var 4) (.cons (.var 5) .nil))))))))
def df_tree_of_reaches : Df where
  name := "tree_of_reaches"
  N := ["value", "found", "at", "one"]
  np := 1
  body := .ifs (.or (.not (.val (.inst .tuple (.var 0)))) (.cmp .gt (.lenv 0) (.con "MOST_FORKS" 24))) (.ret (.lit .none)) .done (.ifs (.not (.val (.bi .all (.cons (.comp [("at", 2), ("one", 3)] (.tup [2, 3]) (.enum (.var 0)) .no (.call ix_is_whole (.cons (.var 3) (.cons (.lit (.int 0)) (.cons (.bin .sub (.bin .sub (.lenv 0) (.lit (.int 1))) (.var 2)) .nil))))) .nil)))) (.ret (.lit .none)) .done (.set 1 (.call ix_tree_from (.cons (.var 0) (.cons (.lit (.int 0)) (.cons (.lenv 0) .nil)))) (.ret (.ite (.and (.cmp .isnot (.var 1) (.lit .none)) (.cmp .eq (.call ix_reaches_of (.cons (.var 1) .nil)) (.var 0))) (.var 1) (.lit .none)))))
def df_flip_over : Df where
  name := "flip_over"
  N := ["tree"]
  np := 1
  body := .ret (.ite (.cmp .eq (.var 0) (.tup .nil)) (.tup .nil) (.tup (.cons (.call ix_flip_over (.cons (.idxv 0 (.lit (.int 1))) .nil)) (.cons (.call ix_flip_over (.cons (.idxv 0 (.lit (.int 0))) .nil)) .nil))))
def df_need_tree : Df where
  name := "need_tree"
  N := ["value"]
  np := 1
  body := .ifs (.not (.val (.call ix_fits_tree (.cons (.var 0) .nil)))) (.raise 5 "InvalidTree") .done .done
def df_reaches : Df where
  name := "reaches"
  N := ["tree"]
  np := 1
  body := .ex (.call ix_need_tree (.cons (.var 0) .nil)) (.ret (.call ix_reaches_of (.cons (.var 0) .nil)))
def df_tree_by : Df where
  name := "tree_by"
  N := ["value", "found"]
  np := 1
  body := .set 1 (.call ix_tree_of_reaches (.cons (.var 0) .nil)) (.ifs (.cmp .is_ (.var 1) (.lit .none)) (.raise 7 "InvalidReaches") .done (.ret (.var 1)))
def df_tree_flipped : Df where
  name := "tree_flipped"
  N := ["tree"]
  np := 1
  body := .ex (.call ix_need_tree (.cons (.var 0) .nil)) (.ret (.call ix_flip_over (.cons (.var 0) .nil)))
def df_law_drum : Df where
  name := "_law_drum"
  N := ["_law_script", "_law_k", "_law_some", "_law_cell"]
  np := 2
  body := .set 2 (.bin .add (.var 0) (.lst (.cons (.lit (.int 0)) .nil))) (.set 3 (.ite (.cmp .lt (.var 1) (.lenv 2)) (.bin .mod (.bi .abs (.cons (.bi .int (.cons (.idxv 2 (.var 1)) .nil)) .nil)) (.bin .mul (.bin .mul (.bin .mul (.bin .pow (.lit (.int 10)) (.lit (.int 60))) (.bin .pow (.lit (.int 10)) (.lit (.int 60)))) (.bin .pow (.lit (.int 10)) (.lit (.int 60)))) (.bin .pow (.lit (.int 10)) (.lit (.int 60))))) (.bin .add (.bin .mul (.lit (.int 41617)) (.var 1)) (.lit (.int 67)))) (.ret (.nloc (.cons (.ite (.cmp .ge (.var 3) (.bin .pow (.lit (.int 10)) (.lit (.int 18)))) (.var 3) (.lit (.int 0))) (.cons (.bin .add (.bin .mod (.bi .int (.cons (.bin .add (.bin .add (.bin .mul (.bin .mod (.var 3) (.lit (.int 2147482319))) (.lit (.int 89))) (.bin .mul (.lit (.int 1063)) (.var 1))) (.lit (.int 73))) .nil)) (.lit (.int 2147482319))) (.lit (.int 1))) .nil)))))
def df_law_roll : Df where
  name := "_law_roll"
  N := ["_law_drum_here", "_law_many", "_law_deep", "_law_found"]
  np := 2
  body := .ifs (.cmp .gt (.idxv 0 (.lit (.int 0))) (.lit (.int 0))) (.set 3 (.bin .mod (.bi .int (.cons (.idxv 0 (.lit (.int 0))) .nil)) (.var 1)) (.setix 0 (.lit (.int 0)) (.bin .fdiv (.idxv 0 (.lit (.int 0))) (.var 1)) (.ret (.var 3)))) .done (.setix 0 (.lit (.int 1)) (.bin .mod (.bi .int (.cons (.bin .add (.bin .mul (.idxv 0 (.lit (.int 1))) (.lit (.int 30671))) (.lit (.int 8807))) .nil)) (.lit (.int 2147483549))) (.set 2 (.bin .mod (.bi .int (.cons (.bin .mul (.idxv 0 (.lit (.int 1))) (.bin .add (.idxv 0 (.lit (.int 1))) (.lit (.int 101)))) .nil)) (.lit (.int 2147483587))) (.ret (.bin .mod (.bi .int (.cons (.bin .fdiv (.var 2) (.lit (.int 613))) .nil)) (.var 1)))))
def df_law_pick : Df where
  name := "_law_pick"
  N := ["_law_drum_here", "_law_things"]
  np := 2
  body := .ret (.idxv 1 (.call ix_law_roll (.cons (.var 0) (.cons (.lenv 1) .nil))))
def df_law_grown : Df where
  name := "_law_grown"
  N := ["_law_drum_here", "_law_forks_here", "_law_left"]
  np := 2
  body := .ifs (.cmp .eq (.var 1) (.lit (.int 0))) (.ret (.tup .nil)) .done (.set 2 (.call ix_law_pick (.cons (.var 0) (.cons (.lst (.cons (.lit (.int 0)) (.cons (.bin .sub (.var 1) (.lit (.int 1))) (.cons (.call ix_law_roll (.cons (.var 0) (.cons (.var 1) .nil))) (.cons (.call ix_law_roll (.cons (.var 0) (.cons (.var 1) .nil))) .nil))))) .nil))) (.ret (.tup (.cons (.call ix_law_grown (.cons (.var 0) (.cons (.var 2) .nil))) (.cons (.call ix_law_grown (.cons (.var 0) (.cons (.bin .sub (.bin .sub (.var 1) (.lit (.int 1))) (.var 2)) .nil))) .nil)))))
def df_law_forks : Df where
  name := "_law_forks"
  N := ["_law_tree_so"]
  np := 1
  body := .ret (.ite (.cmp .eq (.var 0) (.tup .nil)) (.lit (.int 0)) (.bin .add (.bin .add (.lit (.int 1)) (.call ix_law_forks (.cons (.idxv 0 (.lit (.int 0))) .nil))) (.call ix_law_forks (.cons (.idxv 0 (.lit (.int 1))) .nil))))
def df_law_reached : Df where
  name := "_law_reached"
  N := ["_law_tree_so"]
  np := 1
  body := .ifs (.cmp .eq (.var 0) (.tup .nil)) (.ret (.tup .nil)) .done (.ret (.bin .add (.bin .add (.call ix_law_reached (.cons (.idxv 0 (.lit (.int 0))) .nil)) (.tup (.cons (.call ix_law_forks (.cons (.idxv 0 (.lit (.int 1))) .nil)) .nil))) (.call ix_law_reached (.cons (.idxv 0 (.lit (.int 1))) .nil))))
def df_law_flip : Df where
  name := "_law_flip"
  N := ["_law_tree_so"]
  np := 1
  body := .ret (.ite (.cmp .eq (.var 0) (.tup .nil)) (.tup .nil) (.tup (.cons (.call ix_law_flip (.cons (.idxv 0 (.lit (.int 1))) .nil)) (.cons (.call ix_law_flip (.cons (.idxv 0 (.lit (.int 0))) .nil)) .nil))))
def df_law_bad_trees : Df where
  name := "_law_bad_trees"
  N := ["_law_deep", "_law_turn", "_law_half", "_law_some"]
  np := 0
  body := .set 0 (.tup .nil) (.for_ (.name 1) (.rng1 (.lit (.int 25))) (.set 0 (.tup (.cons (.var 0) (.cons (.tup .nil) .nil))) .done) (.set 2 (.tup .nil) (.for_ (.name 1) (.rng1 (.lit (.int 12))) (.set 2 (.tup (.cons (.tup .nil) (.cons (.var 2) .nil))) .done) (.set 3 (.lst (.cons (.tup (.cons (.var 2) (.cons (.var 2) .nil))) (.cons (.lit .none) (.cons (.lit (.int 0)) (.cons (.lit (.str "")) (.cons (.lst .nil) (.cons (.lst (.cons (.tup .nil) (.cons (.tup .nil) .nil))) (.cons (.tup (.cons (.tup .nil) .nil)) (.cons (.tup (.cons (.tup .nil) (.cons (.tup .nil) (.cons (.tup .nil) .nil)))) (.cons (.tup (.cons (.tup .nil) (.cons (.lit .none) .nil))) (.cons (.tup (.cons (.lit (.int 0)) (.cons (.tup .nil) .nil))) (.cons (.tup (.cons (.tup .nil) (.cons (.lst .nil) .nil))) .nil)))))))))))) (.ret (.bin .add (.var 3) (.lst (.cons (.var 0) (.cons (.tup (.cons (.tup .nil) (.cons (.tup (.cons (.tup .nil) .nil)) .nil))) (.cons (.tup (.cons (.lit (.bool true)) (.cons (.tup .nil) .nil))) (.cons (.tup (.cons (.lit (.str "")) (.cons (.lit (.str "")) .nil))) .nil)))))))))))
def df_law_is_row : Df where
  name := "_law_is_row"
  N := ["_law_value", "_law_at", "_law_one", "_law_spot"]
  np := 1
  body := .ifs (.or (.not (.val (.inst .tuple (.var 0)))) (.cmp .gt (.lenv 0) (.lit (.int 24)))) (.ret (.lit (.bool false))) .done (.for_ (.tup [1, 2]) (.enum (.var 0)) (.ifs (.or (.not (.val (.inst .int (.var 2)))) (.or (.val (.inst .bool (.var 2))) (.or (.cmp .lt (.var 2) (.lit (.int 0))) (.cmp .ge (.bin .add (.var 1) (.var 2)) (.lenv 0))))) (.ret (.lit (.bool false))) .done .done) (.for_ (.tup [1, 2]) (.enum (.var 0)) (.ifs (.cmp .ne (.comp [("_law_spot", 3)] (.name 3) (.rng2 (.bin .add (.var 1) (.lit (.int 1))) (.bin .add (.bin .add (.var 1) (.var 2)) (.lit (.int 1)))) (.yes (.cmp .gt (.bin .add (.var 3) (.idxv 0 (.var 3))) (.bin .add (.var 1) (.var 2)))) (.var 3)) (.lst .nil)) (.ret (.lit (.bool false))) .done .done) (.ret (.lit (.bool true)))))
def df_law_row_right : Df where
  name := "_law_row_right"
  N := ["_law_value"]
  np := 1
  body := .ifs (.not (.val (.call ix_law_is_row (.cons (.var 0) .nil)))) (.ret (.cmp .eq (.word (.call ix_tree_by (.cons (.var 0) .nil))) (.lit (.str "reaches")))) .done (.ret (.and (.cmp .eq (.word (.call ix_tree_by (.cons (.var 0) .nil))) (.lit (.str ""))) (.cmp .eq (.call ix_law_reached (.cons (.call ix_tree_by (.cons (.var 0) .nil)) .nil)) (.var 0))))
def df_law : Df where
  name := "law"
  N := ["_law_script", "_law_drum_here", "_law_forks_here", "_law_lone", "_law_tree_so", "_law_row", "_law_at", "_law_bents", "_law_near", "_law_odds", "_law_value", "_law_odd", "_law_turn"]
  np := 1
  body := .set 1 (.call ix_law_drum (.cons (.var 0) (.cons (.lit (.int 0)) .nil))) (.for_ (.name 2) (.val (.tup (.cons (.call ix_law_roll (.cons (.var 1) (.cons (.lit (.int 8)) .nil))) (.cons (.call ix_law_roll (.cons (.var 1) (.cons (.lit (.int 25)) .nil))) .nil)))) (.set 4 (.call ix_law_grown (.cons (.var 1) (.cons (.var 2) .nil))) (.set 5 (.call ix_law_reached (.cons (.var 4) .nil)) (.ifs (.or (.cmp .ne (.call ix_reaches (.cons (.var 4) .nil)) (.var 5)) (.or (.not (.val (.call ix_law_row_right (.cons (.var 5) .nil)))) (.cmp .ne (.call ix_tree_by (.cons (.var 5) .nil)) (.var 4)))) (.ret (.lit (.bool false))) .done (.ifs (.cmp .ne (.call ix_tree_flipped (.cons (.var 4) .nil)) (.call ix_law_flip (.cons (.var 4) .nil))) (.ret (.lit (.bool false))) .done (.ifs (.cmp .ne (.call ix_tree_flipped (.cons (.call ix_tree_flipped (.cons (.var 4) .nil)) .nil)) (.var 4)) (.ret (.lit (.bool false))) .done (.set 6 (.call ix_law_roll (.cons (.var 1) (.cons (.bin .add (.var 2) (.lit (.int 1))) .nil))) (.own 7 (.lst (.cons (.bin .add (.slice (.var 5) .no (.yes (.var 6))) (.slice (.var 5) (.yes (.bin .add (.var 6) (.lit (.int 1)))) .no)) (.cons (.rev (.var 5)) (.cons (.bin .add (.var 5) (.tup (.cons (.lit (.int 0)) .nil))) (.cons (.bin .add (.tup (.cons (.var 2) .nil)) (.var 5)) .nil))))) (.for_ (.name 8) (.val (.tup (.cons (.lit (.int 1)) (.cons (.neg (.lit (.int 1))) (.cons (.call ix_law_roll (.cons (.var 1) (.cons (.lit (.int 4)) .nil))) .nil))))) (.frz 7 (.own 7 (.bin .add (.var 7) (.ite (.cmp .lt (.var 6) (.var 2)) (.lst (.cons (.bin .add (.bin .add (.slice (.var 5) .no (.yes (.var 6))) (.tup (.cons (.bin .add (.idxv 5 (.var 6)) (.var 8)) .nil))) (.slice (.var 5) (.yes (.bin .add (.var 6) (.lit (.int 1)))) .no)) .nil)) (.lst .nil))) .done)) (.app 7 (.bi .tuple (.cons (.comp [("_law_turn", 12)] (.name 12) (.rng1 (.call ix_law_roll (.cons (.var 1) (.cons (.lit (.int 6)) .nil)))) .no (.call ix_law_roll (.cons (.var 1) (.cons (.lit (.int 3)) .nil)))) .nil)) (.frz 7 (.ifs (.cmp .ne (.comp [("_law_value", 10)] (.name 10) (.val (.var 7)) (.yes (.not (.val (.call ix_law_row_right (.cons (.var 10) .nil))))) (.var 10)) (.lst .nil)) (.ret (.lit (.bool false))) .done .done))))))))))) (.ifs (.cmp .eq (.call ix_law_roll (.cons (.var 1) (.cons (.lit (.int 5)) .nil))) (.lit (.int 0))) (.set 9 (.lst (.cons (.lit .none) (.cons (.lst .nil) (.cons (.lit (.str "")) (.cons (.lit (.int 0)) (.cons (.tup (.cons (.lit (.bool true)) .nil)) (.cons (.tup (.cons (.lit .none) .nil)) (.cons (.tup (.cons (.lit (.str "0")) .nil)) (.cons (.bin .mul (.tup (.cons (.lit (.int 0)) .nil)) (.lit (.int 25))) (.cons (.tup (.cons (.tup .nil) .nil)) .nil)))))))))) (.ifs (.cmp .ne (.comp [("_law_odd", 11)] (.name 11) (.val (.var 9)) (.yes (.cmp .ne (.word (.call ix_tree_by (.cons (.var 11) .nil))) (.lit (.str "reaches")))) (.var 11)) (.lst .nil)) (.ret (.lit (.bool false))) .done (.ifs (.cmp .ne (.comp [("_law_odd", 11)] (.name 11) (.val (.call ix_law_bad_trees .nil)) (.yes (.cmp .ne (.word (.call ix_reaches (.cons (.var 11) .nil))) (.lit (.str "tree")))) (.var 11)) (.lst .nil)) (.ret (.lit (.bool false))) .done (.ifs (.cmp .ne (.comp [("_law_odd", 11)] (.name 11) (.val (.call ix_law_bad_trees .nil)) (.yes (.cmp .ne (.word (.call ix_tree_flipped (.cons (.var 11) .nil))) (.lit (.str "tree")))) (.var 11)) (.lst .nil)) (.ret (.lit (.bool false))) .done .done)))) .done (.set 3 (.tup (.cons (.tup .nil) (.cons (.tup .nil) .nil))) (.ifs (.or (.cmp .ne (.call ix_reaches (.cons (.tup (.cons (.tup (.cons (.var 3) (.cons (.var 3) .nil))) (.cons (.tup .nil) .nil))) .nil)) (.tup (.cons (.lit (.int 0)) (.cons (.lit (.int 1)) (.cons (.lit (.int 0)) (.cons (.lit (.int 0)) .nil)))))) (.cmp .ne (.call ix_reaches (.cons (.tup (.cons (.var 3) (.cons (.tup (.cons (.tup .nil) (.cons (.var 3) .nil))) .nil))) .nil)) (.tup (.cons (.lit (.int 0)) (.cons (.lit (.int 2)) (.cons (.lit (.int 1)) (.cons (.lit (.int 0)) .nil))))))) (.ret (.lit (.bool false))) .done (.ret (.and (.cmp .eq (.call ix_tree_by (.cons (.tup (.cons (.lit (.int 1)) (.cons (.lit (.int 0)) .nil))) .nil)) (.tup (.cons (.tup .nil) (.cons (.var 3) .nil)))) (.and (.cmp .eq (.call ix_tree_by (.cons (.tup .nil) .nil)) (.tup .nil)) (.cmp .eq (.call ix_reaches (.cons (.tup (.cons (.tup (.cons (.var 3) (.cons (.tup .nil) .nil))) (.cons (.var 3) .nil))) .nil)) (.tup (.cons (.lit (.int 0)) (.cons (.lit (.int 0)) (.cons (.lit (.int 1)) (.cons (.lit (.int 0)) .nil)))))))))))))
def top (i : Nat) : Stmt := PySem.Challenge.pw_eightworlds_k37_whole_reaches_of_trees.main.body.getD i (.Pass ⟨0, 0, 0, 0⟩)
def srcs : List Src := [⟨df_is_whole, top 14, false⟩, ⟨df_tree_size, top 17, false⟩, ⟨df_fits_tree, top 18, false⟩, ⟨df_fork_count, top 19, false⟩, ⟨df_reaches_of, top 20, false⟩, ⟨df_root_at, top 21, false⟩, ⟨df_tree_from, top 22, false⟩, ⟨df_tree_of_reaches, top 23, false⟩, ⟨df_flip_over, top 24, false⟩, ⟨df_need_tree, top 25, false⟩, ⟨df_reaches, top 26, false⟩, ⟨df_tree_by, top 27, false⟩, ⟨df_tree_flipped, top 28, false⟩, ⟨df_law_drum, top 30, false⟩, ⟨df_law_roll, top 31, false⟩, ⟨df_law_pick, top 32, false⟩, ⟨df_law_grown, top 33, false⟩, ⟨df_law_forks, top 34, false⟩, ⟨df_law_reached, top 35, false⟩, ⟨df_law_flip, top 36, false⟩, ⟨df_law_bad_trees, top 38, false⟩, ⟨df_law_is_row, top 39, false⟩, ⟨df_law_row_right, top 40, true⟩, ⟨df_law, top 41, true⟩]
def txt : Txt where
  srcs := srcs
  cons := [("MOST_FORKS", 24)]
  excs := ["WorldError", "InvalidCutting", "InvalidCut", "InvalidNumber", "Unlike", "InvalidTree", "InvalidFork", "InvalidReaches", "InvalidMountain", "InvalidHeights", "InvalidVotes"]
  word := "_law_word"
  wst := top 37
  wN := ["_law_call", "_law_found"]
  wa := "_law_call"
  hs := [("InvalidTree", some "tree"), ("InvalidCutting", some "cutting"), ("InvalidCut", some "cut"), ("InvalidFork", some "fork"), ("InvalidReaches", some "reaches"), ("InvalidMountain", some "mountain"), ("InvalidHeights", some "heights"), ("InvalidVotes", some "votes"), ("InvalidNumber", some "number"), ("Unlike", some "unlike"), ("TooMany", none), ("WorldError", some "other")]
  wtab := [some "other", some "cutting", some "cut", some "number", some "unlike", some "tree", some "fork", some "reaches", some "mountain", some "heights", some "votes"]
  names := []
theorem bd_word : BindOk txt.word txt.wst [txt.wa] := fun _ _ _ _ _ _ us hl => match us, hl with | [_], _ => rfl
theorem bd_is_whole : BindOk df_is_whole.name (top 14) (df_is_whole.N.take df_is_whole.np) := fun _ _ _ _ _ _ us hl => match us, hl with | [_, _, _], _ => rfl
theorem bd_tree_size : BindOk df_tree_size.name (top 17) (df_tree_size.N.take df_tree_size.np) := fun _ _ _ _ _ _ us hl => match us, hl with | [_, _], _ => rfl
theorem bd_fits_tree : BindOk df_fits_tree.name (top 18) (df_fits_tree.N.take df_fits_tree.np) := fun _ _ _ _ _ _ us hl => match us, hl with | [_], _ => rfl
theorem bd_fork_count : BindOk df_fork_count.name (top 19) (df_fork_count.N.take df_fork_count.np) := fun _ _ _ _ _ _ us hl => match us, hl with | [_], _ => rfl
theorem bd_reaches_of : BindOk df_reaches_of.name (top 20) (df_reaches_of.N.take df_reaches_of.np) := fun _ _ _ _ _ _ us hl => match us, hl with | [_], _ => rfl
theorem bd_root_at : BindOk df_root_at.name (top 21) (df_root_at.N.take df_root_at.np) := fun _ _ _ _ _ _ us hl => match us, hl with | [_, _, _], _ => rfl
theorem bd_tree_from : BindOk df_tree_from.name (top 22) (df_tree_from.N.take df_tree_from.np) := fun _ _ _ _ _ _ us hl => match us, hl with | [_, _, _], _ => rfl
theorem bd_tree_of_reaches : BindOk df_tree_of_reaches.name (top 23) (df_tree_of_reaches.N.take df_tree_of_reaches.np) := fun _ _ _ _ _ _ us hl => match us, hl with | [_], _ => rfl
theorem bd_flip_over : BindOk df_flip_over.name (top 24) (df_flip_over.N.take df_flip_over.np) := fun _ _ _ _ _ _ us hl => match us, hl with | [_], _ => rfl
theorem bd_need_tree : BindOk df_need_tree.name (top 25) (df_need_tree.N.take df_need_tree.np) := fun _ _ _ _ _ _ us hl => match us, hl with | [_], _ => rfl
theorem bd_reaches : BindOk df_reaches.name (top 26) (df_reaches.N.take df_reaches.np) := fun _ _ _ _ _ _ us hl => match us, hl with | [_], _ => rfl
theorem bd_tree_by : BindOk df_tree_by.name (top 27) (df_tree_by.N.take df_tree_by.np) := fun _ _ _ _ _ _ us hl => match us, hl with | [_], _ => rfl
theorem bd_tree_flipped : BindOk df_tree_flipped.name (top 28) (df_tree_flipped.N.take df_tree_flipped.np) := fun _ _ _ _ _ _ us hl => match us, hl with | [_], _ => rfl
theorem bd_law_drum : BindOk df_law_drum.name (top 30) (df_law_drum.N.take df_law_drum.np) := fun _ _ _ _ _ _ us hl => match us, hl with | [_, _], _ => rfl
theorem bd_law_roll : BindOk df_law_roll.name (top 31) (df_law_roll.N.take df_law_roll.np) := fun _ _ _ _ _ _ us hl => match us, hl with | [_, _], _ => rfl
theorem bd_law_pick : BindOk df_law_pick.name (top 32) (df_law_pick.N.take df_law_pick.np) := fun _ _ _ _ _ _ us hl => match us, hl with | [_, _], _ => rfl
theorem bd_law_grown : BindOk df_law_grown.name (top 33) (df_law_grown.N.take df_law_grown.np) := fun _ _ _ _ _ _ us hl => match us, hl with | [_, _], _ => rfl
theorem bd_law_forks : BindOk df_law_forks.name (top 34) (df_law_forks.N.take df_law_forks.np) := fun _ _ _ _ _ _ us hl => match us, hl with | [_], _ => rfl
theorem bd_law_reached : BindOk df_law_reached.name (top 35) (df_law_reached.N.take df_law_reached.np) := fun _ _ _ _ _ _ us hl => match us, hl with | [_], _ => rfl
theorem bd_law_flip : BindOk df_law_flip.name (top 36) (df_law_flip.N.take df_law_flip.np) := fun _ _ _ _ _ _ us hl => match us, hl with | [_], _ => rfl
theorem bd_law_bad_trees : BindOk df_law_bad_trees.name (top 38) (df_law_bad_trees.N.take df_law_bad_trees.np) := fun _ _ _ _ _ _ us hl => match us, hl with | [], _ => rfl
theorem bd_law_is_row : BindOk df_law_is_row.name (top 39) (df_law_is_row.N.take df_law_is_row.np) := fun _ _ _ _ _ _ us hl => match us, hl with | [_], _ => rfl
theorem bd_law_row_right : BindOk df_law_row_right.name (top 40) (df_law_row_right.N.take df_law_row_right.np) := fun _ _ _ _ _ _ us hl => match us, hl with | [_], _ => rfl
theorem bd_law : BindOk df_law.name (top 41) (df_law.N.take df_law.np) := fun _ _ _ _ _ _ us hl => match us, hl with | [_], _ => rfl
theorem bd_all : ∀ s ∈ txt.srcs, BindOk s.d.name s.st (s.d.N.take s.d.np) := (List.forall_mem_cons.mpr ⟨bd_is_whole, (List.forall_mem_cons.mpr ⟨bd_tree_size, (List.forall_mem_cons.mpr ⟨bd_fits_tree, (List.forall_mem_cons.mpr ⟨bd_fork_count, (List.forall_mem_cons.mpr ⟨bd_reaches_of, (List.forall_mem_cons.mpr ⟨bd_root_at, (List.forall_mem_cons.mpr ⟨bd_tree_from, (List.forall_mem_cons.mpr ⟨bd_tree_of_reaches, (List.forall_mem_cons.mpr ⟨bd_flip_over, (List.forall_mem_cons.mpr ⟨bd_need_tree, (List.forall_mem_cons.mpr ⟨bd_reaches, (List.forall_mem_cons.mpr ⟨bd_tree_by, (List.forall_mem_cons.mpr ⟨bd_tree_flipped, (List.forall_mem_cons.mpr ⟨bd_law_drum, (List.forall_mem_cons.mpr ⟨bd_law_roll, (List.forall_mem_cons.mpr ⟨bd_law_pick, (List.forall_mem_cons.mpr ⟨bd_law_grown, (List.forall_mem_cons.mpr ⟨bd_law_forks, (List.forall_mem_cons.mpr ⟨bd_law_reached, (List.forall_mem_cons.mpr ⟨bd_law_flip, (List.forall_mem_cons.mpr ⟨bd_law_bad_trees, (List.forall_mem_cons.mpr ⟨bd_law_is_row, (List.forall_mem_cons.mpr ⟨bd_law_row_right, (List.forall_mem_cons.mpr ⟨bd_law, (fun _ h => nomatch h)⟩)⟩)⟩)⟩)⟩)⟩)⟩)⟩)⟩)⟩)⟩)⟩)⟩)⟩)⟩)⟩)⟩)⟩)⟩)⟩)⟩)⟩)⟩)⟩)
theorem tx : txt.textB = true := by decide +kernel
end Mi

set_option Elab.async false
set_option linter.all false
set_option maxRecDepth 100000
set_option maxHeartbeats 1000000
namespace Mi
open PySem
/-! ### plain trees -/
inductive Tr where
  | leaf
  | node (l r : Tr)
  deriving DecidableEq
namespace Tr
def toD : Tr → D
  | leaf => .tuple []
  | node l r => .tuple [l.toD, r.toD]
def forks : Tr → Nat
  | leaf => 0
  | node l r => l.forks + r.forks + 1
def high : Tr → Nat
  | leaf => 0
  | node l r => max l.high r.high + 1
def reach : Tr → List Int
  | leaf => []
  | node l r => l.reach ++ ((r.forks : Int) :: r.reach)
def flip : Tr → Tr
  | leaf => leaf
  | node l r => node r.flip l.flip
theorem high_le : ∀ t : Tr, t.high ≤ t.forks
  | leaf => Nat.le_refl _
  | node l r => by
    have := high_le l; have := high_le r
    simp only [high, forks]; omega
theorem canLay : ∀ t : Tr, t.toD.canLay0 = true
  | leaf => by simp [toD, PyData.canLay0, PyData.canLayAll0]
  | node l r => by simp [toD, PyData.canLay0, PyData.canLayAll0, canLay l, canLay r]
theorem depth_eq : ∀ t : Tr, t.toD.depth = t.high + 1
  | leaf => by simp [toD, PyData.depth, PyData.depthAll, high]
  | node l r => by
    simp only [toD, PyData.depth, PyData.depthAll, high, depth_eq l, depth_eq r]
    omega
theorem eqv_eq : ∀ a b : Tr, PyData.eqv a.toD b.toD = decide (a = b)
  | leaf, leaf => by simp [toD, PyData.eqv, PyData.eqvAll]
  | leaf, node l r => by simp [toD, PyData.eqv, PyData.eqvAll]
  | node l r, leaf => by simp [toD, PyData.eqv, PyData.eqvAll]
  | node l r, node l' r' => by
    simp only [toD, PyData.eqv, PyData.eqvAll, eqv_eq l l', eqv_eq r r']
    by_cases h1 : l = l' <;> by_cases h2 : r = r' <;> simp [h1, h2]
theorem eq_leaf (t : Tr) : eqD t.toD (.tuple []) = some (decide (t = leaf)) := by
  have h := eqv_eq t leaf
  have e : (PyData.tuple [] : D) = leaf.toD := rfl
  rw [e]
  unfold eqD okEq
  rw [if_pos, h]
  simp only [canLay, Bool.true_and, decide_eq_true_eq, depth_eq]
  simp [high]
theorem eq_tr {a b : Tr} (h : a.high ≤ 63 ∨ b.high ≤ 63) : eqD a.toD b.toD = some (decide (a = b)) := by
  unfold eqD okEq
  rw [if_pos, eqv_eq]
  simp only [canLay, Bool.true_and, decide_eq_true_eq, depth_eq]
  omega
theorem flip_forks : ∀ t : Tr, t.flip.forks = t.forks
  | leaf => rfl
  | node l r => by simp only [flip, forks, flip_forks l, flip_forks r]; omega
theorem flip_high : ∀ t : Tr, t.flip.high = t.high
  | leaf => rfl
  | node l r => by simp only [flip, high, flip_high l, flip_high r]; omega
theorem flip_flip : ∀ t : Tr, t.flip.flip = t
  | leaf => rfl
  | node l r => by simp only [flip, flip_flip l, flip_flip r]
theorem reach_len : ∀ t : Tr, t.reach.length = t.forks
  | leaf => rfl
  | node l r => by simp only [reach, forks, List.length_append, List.length_cons, reach_len l, reach_len r]; omega
end Tr
/-! ### rows of nums -/
def nums (ns : List Int) : List D := ns.map PyData.int
theorem nums_len (ns : List Int) : (nums ns).length = ns.length := List.length_map _
theorem nums_app (a b : List Int) : nums (a ++ b) = nums a ++ nums b := List.map_append
theorem nums_lay : ∀ ns : List Int, PyData.canLayAll0 (nums ns) = true
  | [] => rfl
  | n :: ns => by
    have := nums_lay ns
    unfold nums at this ⊢
    simp [PyData.canLayAll0, PyData.canLay0, this]
theorem nums_depth : ∀ ns : List Int, PyData.depthAll (nums ns) = 0
  | [] => rfl
  | n :: ns => by
    have := nums_depth ns
    unfold nums at this ⊢
    simp only [List.map_cons, PyData.depthAll, PyData.depth, this]; rfl
theorem nums_eqv : ∀ a b : List Int, PyData.eqvAll (nums a) (nums b) = decide (a = b)
  | [], [] => by simp [nums, PyData.eqvAll]
  | [], _ :: _ => by simp [nums, PyData.eqvAll]
  | _ :: _, [] => by simp [nums, PyData.eqvAll]
  | a :: as, b :: bs => by
    have := nums_eqv as bs
    unfold nums at this ⊢
    simp only [List.map_cons, PyData.eqvAll, PyData.eqv, this]
    by_cases h1 : a = b <;> by_cases h2 : as = bs <;> simp [h1, h2]
theorem eq_nums (a b : List Int) : eqD (.tuple (nums a)) (.tuple (nums b)) = some (decide (a = b)) := by
  unfold eqD okEq
  rw [if_pos]
  · simp [PyData.eqv, nums_eqv]
  · simp [PyData.canLay0, nums_lay, PyData.depth, nums_depth]
/-! ### the drum -/
structure Drum (S : Store) : Prop where
  ex : ∃ a b : Int, S = [[.int a, .int b]] ∧ 0 ≤ a ∧ 0 ≤ b ∧ b < 4294967296
end Mi

set_option Elab.async false
set_option linter.all false
set_option maxRecDepth 100000
set_option maxHeartbeats 1000000
namespace Mi
open PySem
abbrev wF : WordF := txt.wf
abbrev cT (n : Nat) (f : Nat) (args : List D) (S : Store) : R D := callT wF txt.P n 0 f args S
theorem pos_of {h n : Nat} (q : h < n) : ∃ m, n = m + 1 := ⟨n - 1, by omega⟩
theorem mulD {a b : Int} (ha : a.natAbs < 2 ^ 1000) (hb : b.natAbs < 2 ^ 1000) : binD .mul (.int a) (.int b) = some (.int (a * b)) := by
  have h1 : a.natAbs.log2 < 1000 := by
    by_cases z : a.natAbs = 0
    · rw [z]; decide
    · exact (Nat.log2_lt z).mpr ha
  have h2 : b.natAbs.log2 < 1000 := by
    by_cases z : b.natAbs = 0
    · rw [z]; decide
    · exact (Nat.log2_lt z).mpr hb
  show (if a.natAbs.log2 + b.natAbs.log2 < 1000000 then some (PyData.int (a * b)) else none) = _
  rw [if_pos (by omega)]
theorem modD {a b : Int} (hb : 0 < b) : binD .mod (.int a) (.int b) = some (.int (a % b)) := by
  show (if 0 < b then some (PyData.int (a % b)) else none) = _
  rw [if_pos hb]
theorem fdivD {a b : Int} (hb : 0 < b) (h : b.natAbs < 2 ^ 1000) : binD .fdiv (.int a) (.int b) = some (.int (a / b)) := by
  have h2 : b.natAbs.log2 < 1000 := (Nat.log2_lt (by omega)).mpr h
  show (if 0 < b ∧ b.natAbs.log2 < 9000 then some (PyData.int (a / b)) else none) = _
  rw [if_pos ⟨hb, by omega⟩]
theorem addD (a b : Int) : binD .add (.int a) (.int b) = some (.int (a + b)) := rfl
theorem subD (a b : Int) : binD .sub (.int a) (.int b) = some (.int (a - b)) := rfl
theorem ltD_int (a b : Int) : ltD (.int a) (.int b) = some (decide (a < b)) := rfl
theorem eqD_int (a b : Int) : eqD (.int a) (.int b) = some (decide (a = b)) := by
  simp [eqD, okEq, PyData.canLay0, PyData.depth, PyData.eqv, BEq.beq]
theorem loc0 (a b : Int) : idxD [[.int a, .int b]] (loc 0) (.int 0) = some (.int a) := rfl
theorem loc1 (a b : Int) : idxD [[.int a, .int b]] (loc 0) (.int 1) = some (.int b) := rfl
theorem low30 {b : Int} (h0 : 0 ≤ b) (h : b < 4294967296) : b.natAbs < 2 ^ 1000 := by
  have : (b.natAbs : Int) < 4294967296 := by omega
  have h3 : b.natAbs < 4294967296 := by omega
  exact Nat.lt_of_lt_of_le h3 (by decide)
theorem low60 {b : Int} (h0 : 0 ≤ b) (h : b < 18446744073709551616000) : b.natAbs < 2 ^ 1000 := by
  have h3 : b.natAbs < 18446744073709551616000 := by omega
  exact Nat.lt_of_lt_of_le h3 (by decide)
theorem st_roll (n : Nat) (args : List D) (S : Store) : cT (n + 1) ix_law_roll args S = runDf wF (callT wF txt.P n) df_law_roll args S := rfl
theorem roll_ok {S : Store} (hS : Drum S) {m : Int} (h0 : 0 < m) (h1 : m < 4294967296) (n : Nat) (hn : 0 < n) : ∃ r S', cT n ix_law_roll [loc 0, .int m] S = .ok (.int r) S' ∧ 0 ≤ r ∧ r < m ∧ Drum S' := by
  obtain ⟨a, b, rfl, ha, hb, hb2⟩ := hS.ex
  obtain ⟨n, rfl⟩ := pos_of hn
  rw [st_roll]
  by_cases h : 0 < a
  · refine ⟨a % m, [[.int (a / m), .int b]], ?_, Int.emod_nonneg _ (by omega), Int.emod_lt_of_pos _ h0, ⟨⟨_, _, rfl, Int.ediv_nonneg ha (by omega), hb, hb2⟩⟩⟩
    simp [runDf, df_law_roll, evS, evE, evA, evB, R.bind, lift, getV, getO, startE, cmpD, loc0, loc1, ltD_int, h, modD h0, fdivD h0 (low30 (by omega) h1), biD, setNames, setIxD, setAtL, L2.ixN]
  · have e : a = 0 := by omega
    subst e
    have hb3 : 0 ≤ (b * 30671 + 8807) % 2147483549 := Int.emod_nonneg _ (by decide)
    have hb4 : (b * 30671 + 8807) % 2147483549 < 2147483549 := Int.emod_lt_of_pos _ (by decide)
    generalize hc : (b * 30671 + 8807) % 2147483549 = c at hb3 hb4
    refine ⟨(c * (c + 101) % 2147483587 / 613) % m, [[.int 0, .int c]], ?_, Int.emod_nonneg _ (by omega), Int.emod_lt_of_pos _ h0, ⟨⟨_, _, rfl, by omega, hb3, by omega⟩⟩⟩
    have m1 : binD .mul (.int b) (.int 30671) = some (.int (b * 30671)) := mulD (low30 hb hb2) (by decide)
    have m2 : binD .mul (.int c) (.int (c + 101)) = some (.int (c * (c + 101))) := mulD (low30 hb3 (by omega)) (low30 (by omega) (by omega))
    have m3 : ∀ x : Int, binD .fdiv (.int x) (.int 613) = some (.int (x / 613)) := fun x => fdivD (by decide) (by decide)
    have m4 : ∀ x : Int, binD .mod (.int x) (.int 2147483549) = some (.int (x % 2147483549)) := fun x => modD (by decide)
    have m5 : ∀ x : Int, binD .mod (.int x) (.int 2147483587) = some (.int (x % 2147483587)) := fun x => modD (by decide)
    simp [runDf, df_law_roll, evS, evE, evA, evB, R.bind, lift, getV, getO, startE, cmpD, loc0, loc1, ltD_int, modD h0, biD, setNames, setIxD, setAtL, L2.ixN, m1, m2, m3, m4, m5, addD, hc]

theorem st_drum (n : Nat) (args : List D) (S : Store) : cT (n + 1) ix_law_drum args S = runDf wF (callT wF txt.P n) df_law_drum args S := rfl
theorem drum_ok (ns : List Int) (hl : ns.length ≤ 63) (n : Nat) (hn : 0 < n) : ∃ S', cT n ix_law_drum [.list (nums ns), .int 0] [] = .ok (loc 0) S' ∧ Drum S' := by
  obtain ⟨n, rfl⟩ := pos_of hn
  rw [st_drum]
  have hne : ∃ x, L2.atI (nums ns ++ [.int 0]) 0 = some (.int x) := by
    cases ns with
    | nil => exact ⟨0, rfl⟩
    | cons y ys => refine ⟨y, ?_⟩; simp [nums, L2.atI, L2.ixN]; rw [if_pos (by omega)]; rfl
  obtain ⟨x, hx⟩ := hne
  have hlen : ((nums ns ++ [PyData.int 0]).length : Int) = ns.length + 1 := by simp [nums_len]
  have ha : binD .add (.list (nums ns)) (.list [.int 0]) = some (.list (nums ns ++ [.int 0])) := by
    show (if _ then _ else _) = _
    rw [if_pos]
    simp [BIG, nums_len]; omega
  have p60 : binD .pow (.int 10) (.int 60) = some (.int 1000000000000000000000000000000000000000000000000000000000000) := rfl
  have p18 : binD .pow (.int 10) (.int 18) = some (.int 1000000000000000000) := rfl
  have q1 : binD .mul (.int 1000000000000000000000000000000000000000000000000000000000000) (.int 1000000000000000000000000000000000000000000000000000000000000) = some (.int 1000000000000000000000000000000000000000000000000000000000000000000000000000000000000000000000000000000000000000000000000) := mulD (by decide) (by decide)
  have q2 : binD .mul (.int 1000000000000000000000000000000000000000000000000000000000000000000000000000000000000000000000000000000000000000000000000) (.int 1000000000000000000000000000000000000000000000000000000000000) = some (.int 1000000000000000000000000000000000000000000000000000000000000000000000000000000000000000000000000000000000000000000000000000000000000000000000000000000000000000000000000000000000000) := mulD (by decide) (by decide)
  have q3 : binD .mul (.int 1000000000000000000000000000000000000000000000000000000000000000000000000000000000000000000000000000000000000000000000000000000000000000000000000000000000000000000000000000000000000) (.int 1000000000000000000000000000000000000000000000000000000000000) = some (.int 1000000000000000000000000000000000000000000000000000000000000000000000000000000000000000000000000000000000000000000000000000000000000000000000000000000000000000000000000000000000000000000000000000000000000000000000000000000000000000000000000) := mulD (by decide) (by decide)
  have q4 : ∀ y : Int, binD .mod (.int y) (.int 1000000000000000000000000000000000000000000000000000000000000000000000000000000000000000000000000000000000000000000000000000000000000000000000000000000000000000000000000000000000000000000000000000000000000000000000000000000000000000000000000) = some (.int (y % 1000000000000000000000000000000000000000000000000000000000000000000000000000000000000000000000000000000000000000000000000000000000000000000000000000000000000000000000000000000000000000000000000000000000000000000000000000000000000000000000000)) := fun y => modD (by decide)
  have q5 : ∀ y : Int, binD .mod (.int y) (.int 2147482319) = some (.int (y % 2147482319)) := fun y => modD (by decide)
  have hab : ∃ y : Int, (if x < 0 then -x else x) = y ∧ 0 ≤ y := by
    by_cases z : x < 0
    · exact ⟨-x, by rw [if_pos z], by omega⟩
    · exact ⟨x, by rw [if_neg z], by omega⟩
  obtain ⟨y, hy, hy0⟩ := hab
  have hc0 : 0 ≤ y % 1000000000000000000000000000000000000000000000000000000000000000000000000000000000000000000000000000000000000000000000000000000000000000000000000000000000000000000000000000000000000000000000000000000000000000000000000000000000000000000000000 := Int.emod_nonneg _ (by decide)
  generalize hc : y % 1000000000000000000000000000000000000000000000000000000000000000000000000000000000000000000000000000000000000000000000000000000000000000000000000000000000000000000000000000000000000000000000000000000000000000000000000000000000000000000000000 = c at hc0
  have hd0 : 0 ≤ c % 2147482319 := Int.emod_nonneg _ (by decide)
  have hd1 : c % 2147482319 < 2147482319 := Int.emod_lt_of_pos _ (by decide)
  have q6 : binD .mul (.int (c % 2147482319)) (.int 89) = some (.int (c % 2147482319 * 89)) := mulD (low30 hd0 (by omega)) (by decide)
  have q7 : binD .mul (.int 1063) (.int 0) = some (.int 0) := mulD (by decide) (by decide)
  have he0 : 0 ≤ (c % 2147482319 * 89 + 73) % 2147482319 := Int.emod_nonneg _ (by decide)
  have he1 : (c % 2147482319 * 89 + 73) % 2147482319 < 2147482319 := Int.emod_lt_of_pos _ (by decide)
  generalize hg : (c % 2147482319 * 89 + 73) % 2147482319 = g at he0 he1
  have hlt : (0 : Int) < (ns.length : Int) + 1 := by omega
  refine ⟨[[.int (if c < 1000000000000000000 then 0 else c), .int (g + 1)]], ?_, ⟨⟨_, _, rfl, by split <;> omega, by omega, by omega⟩⟩⟩
  by_cases hge : c < 1000000000000000000
  · simp [runDf, df_law_drum, evS, evE, evA, evB, R.bind, lift, getV, getO, startE, cmpD, lenD, setNames, ha, ltD_int, hlen, idxD, hx, biD, hy, p60, p18, q1, q2, q3, q4, hc, q5, q6, q7, addD, hg, hlt, hge, BIG]
  · simp [runDf, df_law_drum, evS, evE, evA, evB, R.bind, lift, getV, getO, startE, cmpD, lenD, setNames, ha, ltD_int, hlen, idxD, hx, biD, hy, p60, p18, q1, q2, q3, q4, hc, q5, q6, q7, addD, hg, hlt, hge, BIG]

theorem st_pick (n : Nat) (args : List D) (S : Store) : cT (n + 1) ix_law_pick args S = runDf wF (callT wF txt.P n) df_law_pick args S := rfl
theorem call0 (n f : Nat) (args : List D) (S : Store) : callT wF txt.P n 0 f args S = cT n f args S := rfl
theorem atI_nat {α : Type} {xs : List α} {i : Nat} (h : i < xs.length) : L2.atI xs (i : Int) = some xs[i] := by
  unfold L2.atI L2.ixN
  rw [if_pos (Int.natCast_nonneg i), if_pos (by omega)]
  simp [h]
theorem atI_int {α : Type} {xs : List α} {i : Int} (h0 : 0 ≤ i) (h : i < xs.length) : ∃ x, L2.atI xs i = some x ∧ x ∈ xs := by
  obtain ⟨k, rfl⟩ := Int.eq_ofNat_of_zero_le h0
  have hk : k < xs.length := by omega
  exact ⟨xs[k], atI_nat hk, List.getElem_mem hk⟩
theorem pick_ok {S : Store} (hS : Drum S) {xs : List D} (h0 : xs ≠ []) (h1 : xs.length < 4294967296) (n : Nat) (hn : 1 < n) : ∃ x S', cT n ix_law_pick [loc 0, .list xs] S = .ok x S' ∧ x ∈ xs ∧ Drum S' := by
  obtain ⟨n, rfl⟩ := pos_of (Nat.lt_trans Nat.zero_lt_one hn)
  have hlen : 0 < xs.length := List.length_pos_iff.mpr h0
  obtain ⟨r, S', e, r0, r1, d⟩ := roll_ok hS (m := xs.length) (by omega) (by omega) n (by omega)
  obtain ⟨x, hx, hm⟩ := atI_int r0 r1
  refine ⟨x, S', ?_, hm, d⟩
  rw [st_pick]
  simp [runDf, df_law_pick, evS, evE, evA, evB, R.bind, lift, getV, getO, startE, lenD, call0, e, idxD, hx]
theorem st_grown (n : Nat) (args : List D) (S : Store) : cT (n + 1) ix_law_grown args S = runDf wF (callT wF txt.P n) df_law_grown args S := rfl
theorem grown_ok : ∀ (k : Nat), k < 1000 → ∀ (n : Nat) (S : Store), k + 2 < n → Drum S → ∃ t S', cT n ix_law_grown [loc 0, .int k] S = .ok (Tr.toD t) S' ∧ t.forks = k ∧ Drum S' := by
  intro k
  induction k using Nat.strongRecOn with
  | ind k ih =>
    intro hk n S hn hS
    obtain ⟨n, rfl⟩ := pos_of (Nat.lt_of_le_of_lt (Nat.zero_le _) hn)
    rw [st_grown]
    by_cases h0 : k = 0
    · subst h0
      refine ⟨.leaf, S, ?_, rfl, hS⟩
      simp [runDf, df_law_grown, evS, evE, evA, evB, R.bind, lift, getV, getO, startE, cmpD, eqD_int, Tr.toD]
    · obtain ⟨r1, S1, e1, a1, b1, d1⟩ := roll_ok hS (m := k) (by omega) (by omega) n (by omega)
      obtain ⟨r2, S2, e2, a2, b2, d2⟩ := roll_ok d1 (m := k) (by omega) (by omega) n (by omega)
      obtain ⟨x, S3, e3, hm, d3⟩ := pick_ok d2 (xs := [.int 0, .int (k - 1), .int r1, .int r2]) (by simp) (by simp) n (by omega)
      obtain ⟨l, hl, rfl⟩ : ∃ l : Nat, l < k ∧ x = .int l := by
        simp only [List.mem_cons, List.not_mem_nil, or_false] at hm
        rcases hm with rfl | rfl | rfl | rfl
        · exact ⟨0, by omega, rfl⟩
        · exact ⟨k - 1, by omega, by congr 1; omega⟩
        · exact ⟨r1.toNat, by omega, by congr 1; omega⟩
        · exact ⟨r2.toNat, by omega, by congr 1; omega⟩
      obtain ⟨t1, S4, e4, f1, d4⟩ := ih l hl (by omega) n S3 (by omega) d3
      obtain ⟨t2, S5, e5, f2, d5⟩ := ih (k - 1 - l) (by omega) (by omega) n S4 (by omega) d4
      have ek : ((k - 1 - l : Nat) : Int) = (k : Int) - 1 - l := by omega
      rw [ek] at e5
      refine ⟨.node t1 t2, S5, ?_, by simp only [Tr.forks]; omega, d5⟩
      simp [runDf, df_law_grown, evS, evE, evA, evB, R.bind, lift, getV, getO, startE, cmpD, eqD_int, h0, call0, e1, e2, e3, e4, e5, setNames, subD, BIG, Tr.toD]
end Mi

set_option Elab.async false
set_option linter.all false
set_option maxRecDepth 100000
set_option maxHeartbeats 1000000
namespace Mi
open PySem
theorem st_fork_count (n : Nat) (args : List D) (S : Store) : cT (n + 1) ix_fork_count args S = runDf wF (callT wF txt.P n) df_fork_count args S := rfl
theorem st_law_forks (n : Nat) (args : List D) (S : Store) : cT (n + 1) ix_law_forks args S = runDf wF (callT wF txt.P n) df_law_forks args S := rfl
theorem st_reaches_of (n : Nat) (args : List D) (S : Store) : cT (n + 1) ix_reaches_of args S = runDf wF (callT wF txt.P n) df_reaches_of args S := rfl
theorem st_law_reached (n : Nat) (args : List D) (S : Store) : cT (n + 1) ix_law_reached args S = runDf wF (callT wF txt.P n) df_law_reached args S := rfl
theorem st_flip_over (n : Nat) (args : List D) (S : Store) : cT (n + 1) ix_flip_over args S = runDf wF (callT wF txt.P n) df_flip_over args S := rfl
theorem st_law_flip (n : Nat) (args : List D) (S : Store) : cT (n + 1) ix_law_flip args S = runDf wF (callT wF txt.P n) df_law_flip args S := rfl
theorem st_tree_size (n : Nat) (args : List D) (S : Store) : cT (n + 1) ix_tree_size args S = runDf wF (callT wF txt.P n) df_tree_size args S := rfl
theorem st_fits_tree (n : Nat) (args : List D) (S : Store) : cT (n + 1) ix_fits_tree args S = runDf wF (callT wF txt.P n) df_fits_tree args S := rfl
theorem st_need_tree (n : Nat) (args : List D) (S : Store) : cT (n + 1) ix_need_tree args S = runDf wF (callT wF txt.P n) df_need_tree args S := rfl
theorem st_reaches (n : Nat) (args : List D) (S : Store) : cT (n + 1) ix_reaches args S = runDf wF (callT wF txt.P n) df_reaches args S := rfl
theorem st_tree_flipped (n : Nat) (args : List D) (S : Store) : cT (n + 1) ix_tree_flipped args S = runDf wF (callT wF txt.P n) df_tree_flipped args S := rfl
theorem eq0 : eqD (.tuple []) (.tuple []) = some true := by
  have e := Tr.eq_leaf .leaf
  simpa only [Tr.toD, decide_true] using e
theorem eq1 (l r : Tr) : eqD (.tuple [l.toD, r.toD]) (.tuple []) = some false := by
  have e := Tr.eq_leaf (.node l r)
  simpa [Tr.toD] using e
theorem fork_count_ok (t : Tr) : ∀ (n : Nat) (S : Store), t.high < n → cT n ix_fork_count [t.toD] S = .ok (.int t.forks) S := by
  induction t with
  | leaf =>
    intro n S h
    obtain ⟨n, rfl⟩ := pos_of h
    rw [st_fork_count]
    simp [runDf, df_fork_count, evS, evE, evA, evB, R.bind, lift, getV, getO, startE, Tr.toD, cmpD, eq0, Tr.forks]
  | node l r ihl ihr =>
    intro n S h
    simp only [Tr.high] at h
    obtain ⟨n, rfl⟩ := pos_of h
    rw [st_fork_count]
    simp [runDf, df_fork_count, evS, evE, evA, evB, R.bind, lift, getV, getO, startE, Tr.toD, cmpD, eq1, idxD, L2.atI, L2.ixN, call0, ihl n S (by omega), ihr n S (by omega), binD, Tr.forks]
theorem law_forks_ok (t : Tr) : ∀ (n : Nat) (S : Store), t.high < n → cT n ix_law_forks [t.toD] S = .ok (.int t.forks) S := by
  induction t with
  | leaf =>
    intro n S h
    obtain ⟨n, rfl⟩ := pos_of h
    rw [st_law_forks]
    simp [runDf, df_law_forks, evS, evE, evA, evB, R.bind, lift, getV, getO, startE, Tr.toD, cmpD, eq0, Tr.forks]
  | node l r ihl ihr =>
    intro n S h
    simp only [Tr.high] at h
    obtain ⟨n, rfl⟩ := pos_of h
    rw [st_law_forks]
    simp [runDf, df_law_forks, evS, evE, evA, evB, R.bind, lift, getV, getO, startE, Tr.toD, cmpD, eq1, idxD, L2.atI, L2.ixN, call0, ihl n S (by omega), ihr n S (by omega), binD, Tr.forks]
    omega
theorem add_nums {a b : List Int} (h : a.length + b.length ≤ 1000) : binD .add (.tuple (nums a)) (.tuple (nums b)) = some (.tuple (nums (a ++ b))) := by
  show (if _ then _ else _) = _
  rw [if_pos (by simp [BIG, nums_len]; omega), nums_app]
theorem reaches_of_ok (t : Tr) : ∀ (n : Nat) (S : Store), t.high < n → t.forks ≤ 500 → cT n ix_reaches_of [t.toD] S = .ok (.tuple (nums t.reach)) S := by
  induction t with
  | leaf =>
    intro n S h hf
    obtain ⟨n, rfl⟩ := pos_of h
    rw [st_reaches_of]
    simp [runDf, df_reaches_of, evS, evE, evA, evB, R.bind, lift, getV, getO, startE, Tr.toD, cmpD, eq0, Tr.reach, BIG, nums]
  | node l r ihl ihr =>
    intro n S h hf
    simp only [Tr.high] at h
    simp only [Tr.forks] at hf
    obtain ⟨n, rfl⟩ := pos_of h
    rw [st_reaches_of]
    have h1 : binD .add (.tuple (nums l.reach)) (.tuple [.int r.forks]) = some (.tuple (nums (l.reach ++ [(r.forks : Int)]))) := add_nums (b := [(r.forks : Int)]) (by rw [Tr.reach_len]; simp; omega)
    have h2 := add_nums (a := l.reach ++ [(r.forks : Int)]) (b := r.reach) (by simp [Tr.reach_len]; omega)
    have e1 := ihl n S (by omega) (by omega)
    have e2 := ihr n S (by omega) (by omega)
    have e3 := fork_count_ok r n S (by omega)
    simp [runDf, df_reaches_of, evS, evE, evA, evB, R.bind, lift, getV, getO, startE, Tr.toD, cmpD, eq1, idxD, L2.atI, L2.ixN, call0, e1, e2, e3, h1, h2, BIG, Tr.reach]
theorem law_reached_ok (t : Tr) : ∀ (n : Nat) (S : Store), t.high < n → t.forks ≤ 500 → cT n ix_law_reached [t.toD] S = .ok (.tuple (nums t.reach)) S := by
  induction t with
  | leaf =>
    intro n S h hf
    obtain ⟨n, rfl⟩ := pos_of h
    rw [st_law_reached]
    simp [runDf, df_law_reached, evS, evE, evA, evB, R.bind, lift, getV, getO, startE, Tr.toD, cmpD, eq0, Tr.reach, BIG, nums]
  | node l r ihl ihr =>
    intro n S h hf
    simp only [Tr.high] at h
    simp only [Tr.forks] at hf
    obtain ⟨n, rfl⟩ := pos_of h
    rw [st_law_reached]
    have h1 : binD .add (.tuple (nums l.reach)) (.tuple [.int r.forks]) = some (.tuple (nums (l.reach ++ [(r.forks : Int)]))) := add_nums (b := [(r.forks : Int)]) (by rw [Tr.reach_len]; simp; omega)
    have h2 := add_nums (a := l.reach ++ [(r.forks : Int)]) (b := r.reach) (by simp [Tr.reach_len]; omega)
    have e1 := ihl n S (by omega) (by omega)
    have e2 := ihr n S (by omega) (by omega)
    have e3 := law_forks_ok r n S (by omega)
    simp [runDf, df_law_reached, evS, evE, evA, evB, R.bind, lift, getV, getO, startE, Tr.toD, cmpD, eq1, idxD, L2.atI, L2.ixN, call0, e1, e2, e3, h1, h2, BIG, Tr.reach]
theorem flip_over_ok (t : Tr) : ∀ (n : Nat) (S : Store), t.high < n → cT n ix_flip_over [t.toD] S = .ok t.flip.toD S := by
  induction t with
  | leaf =>
    intro n S h
    obtain ⟨n, rfl⟩ := pos_of h
    rw [st_flip_over]
    simp [runDf, df_flip_over, evS, evE, evA, evB, R.bind, lift, getV, getO, startE, Tr.toD, cmpD, eq0, Tr.flip, BIG]
  | node l r ihl ihr =>
    intro n S h
    simp only [Tr.high] at h
    obtain ⟨n, rfl⟩ := pos_of h
    rw [st_flip_over]
    simp [runDf, df_flip_over, evS, evE, evA, evB, R.bind, lift, getV, getO, startE, Tr.toD, cmpD, eq1, idxD, L2.atI, L2.ixN, call0, ihl n S (by omega), ihr n S (by omega), BIG, Tr.flip]
theorem law_flip_ok (t : Tr) : ∀ (n : Nat) (S : Store), t.high < n → cT n ix_law_flip [t.toD] S = .ok t.flip.toD S := by
  induction t with
  | leaf =>
    intro n S h
    obtain ⟨n, rfl⟩ := pos_of h
    rw [st_law_flip]
    simp [runDf, df_law_flip, evS, evE, evA, evB, R.bind, lift, getV, getO, startE, Tr.toD, cmpD, eq0, Tr.flip, BIG]
  | node l r ihl ihr =>
    intro n S h
    simp only [Tr.high] at h
    obtain ⟨n, rfl⟩ := pos_of h
    rw [st_law_flip]
    simp [runDf, df_law_flip, evS, evE, evA, evB, R.bind, lift, getV, getO, startE, Tr.toD, cmpD, eq1, idxD, L2.atI, L2.ixN, call0, ihl n S (by omega), ihr n S (by omega), BIG, Tr.flip]
theorem inD02 (k : Int) : inD (.int k) (.tuple [.int 0, .int 2]) = some (decide (k = 0) || decide (k = 2)) := by
  have e0 : (PyData.int 0).eqv (.int k) = decide (k = 0) := by simp [PyData.eqv, BEq.beq, eq_comm]
  have e2 : (PyData.int 2).eqv (.int k) = decide (k = 2) := by simp [PyData.eqv, BEq.beq, eq_comm]
  simp [inD, PyData.canLay0, PyData.canLayAll0, PyData.depth, PyData.depthAll, e0, e2]
theorem isN_int (k : Int) : isD (.int k) .none = some false := rfl
theorem tree_size_ok (t : Tr) : ∀ (n : Nat) (S : Store) (left : Int), t.high < n → (t.forks : Int) ≤ left → cT n ix_tree_size [t.toD, .int left] S = .ok (.int t.forks) S := by
  induction t with
  | leaf =>
    intro n S left h hl
    obtain ⟨n, rfl⟩ := pos_of h
    rw [st_tree_size]
    simp [runDf, df_tree_size, evS, evE, evA, evB, R.bind, lift, getV, getO, startE, Tr.toD, cmpD, eq0, instD, lenD, inD02, asB, Tr.forks, BIG]
  | node l r ihl ihr =>
    intro n S left h hl
    simp only [Tr.high] at h
    simp only [Tr.forks] at hl
    obtain ⟨n, rfl⟩ := pos_of h
    rw [st_tree_size]
    have e1 := ihl n S (left - 1) (by omega) (by omega)
    have e2 := ihr n S (left - 1 - l.forks) (by omega) (by omega)
    have hz : left ≠ 0 := by omega
    simp [runDf, df_tree_size, evS, evE, evA, evB, R.bind, lift, getV, getO, startE, Tr.toD, cmpD, eq1, instD, lenD, inD02, asB, eqD_int, hz, idxD, L2.atI, L2.ixN, call0, subD, addD, setNames, e1, e2, isN_int, Tr.forks, BIG]
theorem fits_tree_ok (t : Tr) (n : Nat) (S : Store) (h : t.high + 1 < n) (hl : t.forks ≤ 24) : cT n ix_fits_tree [t.toD] S = .ok (.bool true) S := by
  obtain ⟨n, rfl⟩ := pos_of (Nat.lt_of_le_of_lt (Nat.zero_le _) h)
  rw [st_fits_tree]
  have e := tree_size_ok t n S 24 (by omega) (by omega)
  simp [runDf, df_fits_tree, evS, evE, evA, evB, R.bind, lift, getV, getO, startE, cmpD, call0, e, isN_int]
theorem need_tree_ok (t : Tr) (n : Nat) (S : Store) (h : t.high + 2 < n) (hl : t.forks ≤ 24) : cT n ix_need_tree [t.toD] S = .ok .none S := by
  obtain ⟨n, rfl⟩ := pos_of (Nat.lt_of_le_of_lt (Nat.zero_le _) h)
  rw [st_need_tree]
  have e := fits_tree_ok t n S (by omega) (by omega)
  simp [runDf, df_need_tree, evS, evE, evA, evB, R.bind, lift, getV, getO, startE, cmpD, call0, e, asB]
theorem reaches_ok (t : Tr) (n : Nat) (S : Store) (h : t.high + 3 < n) (hl : t.forks ≤ 24) : cT n ix_reaches [t.toD] S = .ok (.tuple (nums t.reach)) S := by
  obtain ⟨n, rfl⟩ := pos_of (Nat.lt_of_le_of_lt (Nat.zero_le _) h)
  rw [st_reaches]
  have e := need_tree_ok t n S (by omega) (by omega)
  have e2 := reaches_of_ok t n S (by omega) (by omega)
  simp [runDf, df_reaches, evS, evE, evA, evB, R.bind, lift, getV, getO, startE, cmpD, call0, e, e2]
theorem tree_flipped_ok (t : Tr) (n : Nat) (S : Store) (h : t.high + 3 < n) (hl : t.forks ≤ 24) : cT n ix_tree_flipped [t.toD] S = .ok t.flip.toD S := by
  obtain ⟨n, rfl⟩ := pos_of (Nat.lt_of_le_of_lt (Nat.zero_le _) h)
  rw [st_tree_flipped]
  have e := need_tree_ok t n S (by omega) (by omega)
  have e2 := flip_over_ok t n S (by omega)
  simp [runDf, df_tree_flipped, evS, evE, evA, evB, R.bind, lift, getV, getO, startE, cmpD, call0, e, e2]
end Mi

set_option Elab.async false
set_option linter.all false
set_option maxRecDepth 100000
set_option maxHeartbeats 1000000
namespace Mi
open PySem
/-! ### loops -/
theorem run_at {wf : WordF} {cf : Nat → CallF} {d : Df} {args : List D} {S : Store} {env : Env} (h : args.length = d.np) (he : startE d.N.length d.np args = env) :
    runDf wf cf d args S = (evS wf cf d.body env S).bind fun r S1 => match r with | .ret v => .ok v S1 | .nx _ => .ok .none S1 | _ => .stuck := by
  unfold runDf
  rw [if_pos h, he] <;> rfl
theorem compL_pure {f : D → Store → R (Option D)} {g : D → Option D} {S : Store} : ∀ (xs : List D) (acc : List D), (∀ x ∈ xs, f x S = .ok (g x) S) → acc.length + xs.length ≤ BIG → compL f xs acc S = .ok (.list (acc ++ xs.filterMap g)) S
  | [], acc, _, _ => by simp [compL]
  | x :: xs, acc, h, hl => by
    rw [compL, h x List.mem_cons_self]
    simp only [List.length_cons] at hl
    cases hg : g x with
    | none =>
      simp only [R.bind]
      rw [compL_pure xs acc (fun y hy => h y (List.mem_cons_of_mem _ hy)) (by omega), List.filterMap_cons, hg]
    | some y =>
      simp only [R.bind]
      rw [if_pos (by omega), compL_pure xs (acc ++ [y]) (fun y hy => h y (List.mem_cons_of_mem _ hy)) (by simp; omega), List.filterMap_cons, hg]
      simp
theorem compL_inv {f : D → Store → R (Option D)} {p : D → Prop} {I : Store → Prop} : ∀ (xs : List D) (acc : List D) (S : Store), (∀ x ∈ xs, ∀ S, I S → ∃ y S', f x S = .ok (some y) S' ∧ p y ∧ I S') → acc.length + xs.length ≤ BIG → I S →
    ∃ ys S', compL f xs acc S = .ok (.list (acc ++ ys)) S' ∧ (∀ y ∈ ys, p y) ∧ ys.length = xs.length ∧ I S'
  | [], acc, S, _, _, hI => ⟨[], S, by simp [compL], by simp, rfl, hI⟩
  | x :: xs, acc, S, h, hl, hI => by
    obtain ⟨y, S1, e1, p1, i1⟩ := h x List.mem_cons_self S hI
    simp only [List.length_cons] at hl
    obtain ⟨ys, S2, e2, p2, l2, i2⟩ := compL_inv xs (acc ++ [y]) S1 (fun y hy => h y (List.mem_cons_of_mem _ hy)) (by simp; omega) i1
    refine ⟨y :: ys, S2, ?_, fun z hz => (List.mem_cons.mp hz).elim (fun e => by rw [e]; exact p1) (p2 z), by simp [l2], i2⟩
    rw [compL, e1]
    simp only [R.bind]
    rw [if_pos (by omega), e2]
    simp
/-- a loop that may hand back d at an item of b -/
theorem forL_test {f : D → Env → Store → R Fl} {I : Env → Prop} {b : D → Bool} {d : D} {S : Store} : ∀ (xs : List D) (env : Env), (∀ x ∈ xs, ∀ env, I env → (b x = false → ∃ env', f x env S = .ok (.nx env') S ∧ I env') ∧ (b x = true → f x env S = .ok (.ret d) S)) → I env →
    (xs.any b = false → ∃ env', forL f xs env S = .ok (.nx env') S ∧ I env') ∧ (xs.any b = true → forL f xs env S = .ok (.ret d) S)
  | [], env, _, hI => ⟨fun _ => ⟨env, rfl, hI⟩, fun h => by simp at h⟩
  | x :: xs, env, h, hI => by
    obtain ⟨h1, h2⟩ := h x List.mem_cons_self env hI
    cases hb : b x with
    | true =>
      refine ⟨fun z => by simp [hb] at z, fun _ => ?_⟩
      rw [forL, h2 hb]; rfl
    | false =>
      obtain ⟨env1, e1, i1⟩ := h1 hb
      obtain ⟨q1, q2⟩ := forL_test xs env1 (fun y hy => h y (List.mem_cons_of_mem _ hy)) i1
      refine ⟨fun z => ?_, fun z => ?_⟩
      · obtain ⟨env2, e2, i2⟩ := q1 (by simpa [hb] using z)
        exact ⟨env2, by rw [forL, e1]; exact e2, i2⟩
      · rw [forL, e1]
        exact q2 (by simpa [hb] using z)
/-- a loop that runs through -/
theorem forL_inv {f : D → Env → Store → R Fl} {I : Env → Store → Prop} : ∀ (xs : List D) (env : Env) (S : Store), (∀ x ∈ xs, ∀ env S, I env S → ∃ env' S', f x env S = .ok (.nx env') S' ∧ I env' S') → I env S → ∃ env' S', forL f xs env S = .ok (.nx env') S' ∧ I env' S'
  | [], env, S, _, hI => ⟨env, S, rfl, hI⟩
  | x :: xs, env, S, h, hI => by
    obtain ⟨env1, S1, e1, i1⟩ := h x List.mem_cons_self env S hI
    obtain ⟨env2, S2, e2, i2⟩ := forL_inv xs env1 S1 (fun y hy => h y (List.mem_cons_of_mem _ hy)) i1
    exact ⟨env2, S2, by rw [forL, e1]; exact e2, i2⟩
/-- a turn of a loop -/
def turnF (wf : WordF) (cf : Nat → CallF) (tg : Tg) (bd : Mi.S) : D → Env → Store → R Fl := fun x env S => (lift (setG tg x env) S).bind fun env1 S => (evS wf cf bd env1 S).calm
theorem ev_for {wf : WordF} {cf : Nat → CallF} {tg : Tg} {it : I} {bd k : Mi.S} {env : Env} {S S1 : Store} {xs : List D} (hi : evI wf cf it env S = .ok xs S1) : evS wf cf (.for_ tg it bd k) env S = (forL (turnF wf cf tg bd) xs env S1).bind fun r S2 => match r with
    | .nx env1 => evS wf cf k env1 S2
    | .ret d => .ok (.ret d) S2
    | _ => .stuck := by
  rw [evS, hi]
  rfl
theorem rngD_nat (a b : Nat) : rngD a b = (List.range' a (b - a)).map fun k => PyData.int (k : Nat) := by
  unfold rngD
  have : ((b : Int) - a).toNat = b - a := by omega
  rw [this, List.range'_eq_map_range, List.map_map]
  apply List.map_congr_left
  intro k _
  simp
theorem eq_list_nil (a : List Int) : eqD (.list (nums a)) (.list []) = some (decide (a = [])) := by
  have h := nums_eqv a []
  unfold eqD okEq
  rw [if_pos]
  · simp only [PyData.eqv]
    rw [show ([] : List D) = nums [] from rfl, h]
  · simp [PyData.canLay0, nums_lay, PyData.depth, nums_depth, PyData.canLayAll0, PyData.depthAll]
def rg (row : List Int) (i : Nat) : Int := row.getD i 0
theorem atI_nums {ns : List Int} {i : Nat} (h : i < ns.length) : L2.atI (nums ns) (i : Int) = some (.int (rg ns i)) := by
  unfold L2.atI L2.ixN
  rw [nums_len, if_pos (Int.natCast_nonneg i), if_pos (by omega)]
  simp [nums, rg, h, List.getD_eq_getElem?_getD]
/-! ### rows of reaches -/
structure Row (row : List Int) : Prop where
  b : ∀ i, i < row.length → 0 ≤ rg row i ∧ (i : Int) + rg row i < row.length
  n : ∀ i s, i < row.length → i < s → (s : Int) ≤ i + rg row i → (s : Int) + rg row s ≤ i + rg row i
theorem rg_app_left {a b : List Int} {i : Nat} (h : i < a.length) : rg (a ++ b) i = rg a i := by
  unfold rg; rw [List.getD_eq_getElem?_getD, List.getD_eq_getElem?_getD, List.getElem?_append_left h]
theorem rg_app_right {a b : List Int} {i : Nat} (h : a.length ≤ i) : rg (a ++ b) i = rg b (i - a.length) := by
  unfold rg; rw [List.getD_eq_getElem?_getD, List.getD_eq_getElem?_getD, List.getElem?_append_right h]
theorem rg_cons_succ {x : Int} {b : List Int} {i : Nat} : rg (x :: b) (i + 1) = rg b i := by
  unfold rg; simp
theorem rg_mid {a b : List Int} {x : Int} : rg (a ++ x :: b) a.length = x := by
  rw [rg_app_right (Nat.le_refl _)]; simp [rg]
theorem rg_right {a b : List Int} {x : Int} {j : Nat} : rg (a ++ x :: b) (a.length + 1 + j) = rg b j := by
  rw [rg_app_right (by omega), show a.length + 1 + j - a.length = j + 1 by omega, rg_cons_succ]
theorem Row.nil : Row [] := ⟨fun i h => by simp at h, fun i s h => by simp at h⟩
theorem Row.join {a b : List Int} (ha : Row a) (hb : Row b) : Row (a ++ (b.length : Int) :: b) := by
  have hl : (a ++ (b.length : Int) :: b).length = a.length + 1 + b.length := by simp; omega
  refine ⟨fun i h => ?_, fun i s h h1 h2 => ?_⟩
  · rw [hl] at h ⊢
    by_cases h1 : i < a.length
    · rw [rg_app_left h1]
      have := ha.b i h1
      omega
    · by_cases h2 : i = a.length
      · subst h2
        rw [rg_mid]; omega
      · obtain ⟨j, rfl⟩ : ∃ j, i = a.length + 1 + j := ⟨i - a.length - 1, by omega⟩
        rw [rg_right]
        have := hb.b j (by omega)
        omega
  · rw [hl] at h
    by_cases c1 : i < a.length
    · rw [rg_app_left c1] at h2 ⊢
      have := (ha.b i c1).2
      rw [rg_app_left (by omega)]
      exact ha.n i s c1 h1 h2
    · by_cases c2 : i = a.length
      · subst c2
        rw [rg_mid] at h2 ⊢
        obtain ⟨j, rfl⟩ : ∃ j, s = a.length + 1 + j := ⟨s - a.length - 1, by omega⟩
        rw [rg_right]
        have := hb.b j (by omega)
        omega
      · obtain ⟨j, rfl⟩ : ∃ j, i = a.length + 1 + j := ⟨i - a.length - 1, by omega⟩
        obtain ⟨s', rfl⟩ : ∃ j, s = a.length + 1 + j := ⟨s - a.length - 1, by omega⟩
        rw [rg_right] at h2 ⊢
        rw [rg_right]
        have := hb.n j s' (by omega) (by omega) (by omega)
        omega
theorem Tr.row : ∀ t : Tr, Row t.reach
  | .leaf => Row.nil
  | .node l r => by
    have h := Row.join (Tr.row l) (Tr.row r)
    rw [Tr.reach_len] at h
    exact h
/-- the least place with p -/
theorem least {p : Nat → Prop} [DecidablePred p] : ∀ {n : Nat}, p n → ∃ m, m ≤ n ∧ p m ∧ ∀ k < m, ¬ p k := by
  intro n h
  induction n using Nat.strongRecOn with
  | ind n ih =>
    by_cases c : ∃ k, k < n ∧ p k
    · obtain ⟨k, hk, pk⟩ := c
      obtain ⟨m, h1, h2, h3⟩ := ih k hk pk
      exact ⟨m, by omega, h2, h3⟩
    · exact ⟨n, Nat.le_refl _, h, fun k hk pk => c ⟨k, hk, pk⟩⟩
theorem rg_take {row : List Int} {n i : Nat} (h : i < n) : rg (row.take n) i = rg row i := by
  unfold rg; rw [List.getD_eq_getElem?_getD, List.getD_eq_getElem?_getD, List.getElem?_take_of_lt h]
theorem rg_drop {row : List Int} {n i : Nat} : rg (row.drop n) i = rg row (n + i) := by
  unfold rg; rw [List.getD_eq_getElem?_getD, List.getD_eq_getElem?_getD, List.getElem?_drop]
theorem Row.tree : ∀ (n : Nat) {row : List Int}, row.length = n → Row row → ∃ t : Tr, t.reach = row := by
  intro n
  induction n using Nat.strongRecOn with
  | ind n ih =>
    intro row hn h
    by_cases h0 : n = 0
    · subst h0
      exact ⟨.leaf, by rw [List.length_eq_zero_iff.mp hn]; rfl⟩
    · have last : ((n - 1 : Nat) : Int) + rg row (n - 1) = n - 1 := by
        have := h.b (n - 1) (by omega)
        omega
      obtain ⟨m, hm, pm, lm⟩ := least (p := fun (i : Nat) => (i : Int) + rg row i = n - 1) last
      have bm := h.b m (by omega)
      have hL : Row (row.take m) := by
        have hl : (row.take m).length = m := by rw [List.length_take]; omega
        have bd : ∀ i, i < m → (i : Int) + rg row i < m := fun i hi => by
          have b := h.b i (by omega)
          have ne := lm i hi
          by_cases c : (i : Int) + rg row i < m
          · exact c
          · have := h.n i m (by omega) hi (by omega)
            omega
        refine ⟨fun i hi => ?_, fun i s hi h1 h2 => ?_⟩
        · rw [hl] at hi ⊢
          rw [rg_take hi]
          exact ⟨(h.b i (by omega)).1, bd i hi⟩
        · rw [hl] at hi
          rw [rg_take hi] at h2 ⊢
          have := bd i hi
          rw [rg_take (by omega)]
          exact h.n i s (by omega) h1 h2
      have hR : Row (row.drop (m + 1)) := by
        have hl : (row.drop (m + 1)).length = n - (m + 1) := by rw [List.length_drop]; omega
        refine ⟨fun i hi => ?_, fun i s hi h1 h2 => ?_⟩
        · rw [hl] at hi ⊢
          rw [rg_drop]
          have := h.b (m + 1 + i) (by omega)
          omega
        · rw [hl] at hi
          rw [rg_drop] at h2 ⊢
          rw [rg_drop]
          have := h.n (m + 1 + i) (m + 1 + s) (by omega) (by omega) (by omega)
          omega
      obtain ⟨tl, el⟩ := ih m (by omega) (by rw [List.length_take]; omega) hL
      obtain ⟨tr, er⟩ := ih (n - (m + 1)) (by omega) (by rw [List.length_drop]; omega) hR
      refine ⟨.node tl tr, ?_⟩
      have hf : (tr.forks : Int) = rg row m := by
        rw [← Tr.reach_len, er, List.length_drop]
        omega
      simp only [Tr.reach]
      rw [el, er, hf]
      have hml : m < row.length := by omega
      have : rg row m = row[m] := by unfold rg; simp [List.getD_eq_getElem?_getD, hml]
      rw [this, ← List.drop_eq_getElem_cons hml, List.take_append_drop]
/-! ### a tree from its row -/
def rootAt (row : List Int) (f l : Nat) : Option Nat := (List.range' f (l - f)).find? fun i => decide ((i : Int) + rg row i = (l : Int) - 1)
def treeFrom (row : List Int) : Nat → Nat → Nat → Option Tr
  | 0, _, _ => none
  | k + 1, f, l => if f = l then some .leaf else match rootAt row f l with
    | none => none
    | some r => match treeFrom row k f r with
      | none => none
      | some a => match treeFrom row k (r + 1) l with
        | none => none
        | some b => some (.node a b)
theorem rootAt_mem {row : List Int} {f l r : Nat} (h : rootAt row f l = some r) : f ≤ r ∧ r < l := by
  have := List.mem_of_find?_eq_some h
  rw [List.mem_range'_1] at this
  omega
theorem rootAt_of {row : List Int} {f l m : Nat} (hm : f ≤ m) (hml : m < l) (hp : (m : Int) + rg row m = (l : Int) - 1) (hlt : ∀ i, f ≤ i → i < m → (i : Int) + rg row i ≠ (l : Int) - 1) : rootAt row f l = some m := by
  unfold rootAt
  have e : l - f = (m - f) + ((l - m - 1) + 1) := by omega
  rw [e, ← List.range'_append_1, List.find?_append]
  have h1 : List.find? (fun (i : Nat) => decide ((i : Int) + rg row i = (l : Int) - 1)) (List.range' f (m - f)) = none := by
    rw [List.find?_eq_none]
    intro i hi
    rw [List.mem_range'_1] at hi
    simp only [decide_eq_true_eq]
    exact hlt i (by omega) (by omega)
  rw [h1, show f + (m - f) = m by omega, List.range'_succ, List.find?_cons]
  simp [hp]
theorem treeFrom_reach (row : List Int) : ∀ (t : Tr) (k f : Nat), (row.drop f).take t.forks = t.reach → f + t.forks ≤ row.length → t.forks < k → treeFrom row k f (f + t.forks) = some t := by
  intro t
  induction t with
  | leaf =>
    intro k f _ _ hk
    obtain ⟨k, rfl⟩ : ∃ m, k = m + 1 := ⟨k - 1, by omega⟩
    simp [treeFrom, Tr.forks]
  | node a b iha ihb =>
    intro k f h hl hk
    simp only [Tr.forks] at h hl hk
    obtain ⟨k, rfl⟩ : ∃ m, k = m + 1 := ⟨k - 1, by omega⟩
    have get : ∀ i, i < a.forks + b.forks + 1 → rg row (f + i) = rg (Tr.node a b).reach i := fun i hi => by
      rw [← h, rg_take hi, rg_drop]
    have la := a.reach_len
    have lb := b.reach_len
    have hr : rootAt row f (f + (a.forks + b.forks + 1)) = some (f + a.forks) := by
      refine rootAt_of (by omega) (by omega) ?_ fun i h1 h2 => ?_
      · rw [get a.forks (by omega)]
        simp only [Tr.reach]
        rw [← la, rg_mid]
        omega
      · obtain ⟨j, rfl⟩ : ∃ j, i = f + j := ⟨i - f, by omega⟩
        rw [get j (by omega)]
        simp only [Tr.reach]
        rw [rg_app_left (by omega)]
        have := (Tr.row a).b j (by omega)
        omega
    have h1 := iha k f (by
      have := congrArg (List.take a.forks) h
      rw [List.take_take, Nat.min_eq_left (by omega)] at this
      rw [this]
      simp only [Tr.reach]
      rw [← la, List.take_left]) (by omega) (by omega)
    have h2 := ihb k (f + a.forks + 1) (by
      have := congrArg (List.drop (a.forks + 1)) h
      rw [List.drop_take, List.drop_drop] at this
      rw [show f + (a.forks + 1) = f + a.forks + 1 by omega, show a.forks + b.forks + 1 - (a.forks + 1) = b.forks by omega] at this
      rw [this]
      simp only [Tr.reach]
      rw [← la, List.drop_append]
      simp) (by omega) (by omega)
    show treeFrom row (k + 1) f (f + (a.forks + b.forks + 1)) = _
    rw [treeFrom, if_neg (by omega), hr]
    simp only [h1]
    rw [show f + (a.forks + b.forks + 1) = f + a.forks + 1 + b.forks by omega, h2]
def treeOf (row : List Int) : Option Tr :=
  if 24 < row.length then none else if (List.range row.length).all (fun i => decide (0 ≤ rg row i) && decide (rg row i ≤ (row.length : Int) - 1 - i)) then
    (match treeFrom row (row.length + 1) 0 row.length with | some t => if t.reach = row then some t else none | none => none) else none
theorem treeOf_some {row : List Int} {t : Tr} : treeOf row = some t ↔ row.length ≤ 24 ∧ t.reach = row := by
  constructor
  · intro h
    unfold treeOf at h
    split at h
    · cases h
    · split at h
      · split at h
        · split at h
          · rename_i q
            cases h
            exact ⟨by omega, q⟩
          · cases h
        · cases h
      · cases h
  · rintro ⟨h1, h2⟩
    have hr : Row row := by rw [← h2]; exact t.row
    have hl : row.length = t.forks := by rw [← h2, Tr.reach_len]
    unfold treeOf
    rw [if_neg (by omega), if_pos]
    · have := treeFrom_reach row t (row.length + 1) 0 (by rw [List.drop_zero, ← hl, List.take_length, h2]) (by omega) (by omega)
      rw [Nat.zero_add, ← hl] at this
      rw [this]
      simp only
      rw [if_pos h2]
    · rw [List.all_eq_true]
      intro i hi
      have := hr.b i (List.mem_range.mp hi)
      simp; omega
def isRow (row : List Int) : Bool := decide (row.length ≤ 24) && !(((List.range row.length).any fun i => decide (rg row i < 0) || decide ((row.length : Int) ≤ i + rg row i))) &&
  !((List.range row.length).any fun i => (List.range' (i + 1) ((rg row i).toNat)).any fun s => decide ((i : Int) + rg row i < s + rg row s))
theorem isRow_iff {row : List Int} : isRow row = true ↔ row.length ≤ 24 ∧ Row row := by
  unfold isRow
  simp only [Bool.and_eq_true, decide_eq_true_eq, Bool.not_eq_true', List.any_eq_false, List.mem_range, Bool.or_eq_true, not_or, List.mem_range'_1]
  constructor
  · rintro ⟨⟨h1, h2⟩, h3⟩
    refine ⟨h1, fun i hi => ?_, fun i s hi h4 h5 => ?_⟩
    · have := h2 i hi; omega
    · have b := h2 i hi
      have := h3 i hi
      simp only [Bool.not_eq_true, List.any_eq_false, List.mem_range'_1, decide_eq_true_eq] at this
      have := this s ⟨by omega, by omega⟩
      omega
  · rintro ⟨h1, h2⟩
    refine ⟨⟨h1, fun i hi => ?_⟩, fun i hi => ?_⟩
    · have := h2.b i hi; omega
    · have b := h2.b i hi
      simp only [Bool.not_eq_true, List.any_eq_false, List.mem_range'_1, decide_eq_true_eq]
      intro s hs
      have := h2.n i s hi (by omega) (by omega)
      omega
theorem row_tree (row : List Int) : (isRow row = true → ∃ t : Tr, t.reach = row ∧ row.length ≤ 24 ∧ treeOf row = some t) ∧ (isRow row = false → treeOf row = none) := by
  constructor
  · intro h
    obtain ⟨h1, h2⟩ := isRow_iff.mp h
    obtain ⟨t, ht⟩ := Row.tree _ rfl h2
    exact ⟨t, ht, h1, treeOf_some.mpr ⟨h1, ht⟩⟩
  · intro h
    cases ht : treeOf row with
    | none => rfl
    | some t =>
      obtain ⟨h1, h2⟩ := treeOf_some.mp ht
      have : isRow row = true := isRow_iff.mpr ⟨h1, by rw [← h2]; exact t.row⟩
      rw [h] at this; cases this
end Mi

set_option Elab.async false
set_option linter.all false
set_option maxRecDepth 100000
set_option maxHeartbeats 1000000
namespace Mi
open PySem
theorem ev_comp {wf : WordF} {cf : Nat → CallF} {own : List (Str × Nat)} {tg : Tg} {it : I} {c : O2} {e : E} {env env0 : Env} {S S1 : Store} {xs : List D} (hi : evI wf cf it env S = .ok xs S1) (hw : wipeE (own.map (·.2)) env = some env0) :
    evE wf cf (.comp own tg it c e) env S = compL (itemF wf cf tg c e env0) xs [] S1 := by
  rw [evE, hi]
  simp only [R.bind]
  rw [hw]
  rfl
theorem ev_comp_pure {wf : WordF} {cf : Nat → CallF} {own : List (Str × Nat)} {tg : Tg} {it : I} {c : O2} {e : E} {env env0 : Env} {S S1 : Store} {xs : List D} (hi : evI wf cf it env S = .ok xs S1) (hw : wipeE (own.map (·.2)) env = some env0) (g : D → Option D)
    (h : ∀ x ∈ xs, itemF wf cf tg c e env0 x S1 = .ok (g x) S1) (hl : xs.length ≤ BIG) : evE wf cf (.comp own tg it c e) env S = .ok (.list (xs.filterMap g)) S1 := by
  rw [ev_comp hi hw, compL_pure xs [] h (by simpa using hl)]
  simp
theorem st_root_at (n : Nat) (args : List D) (S : Store) : cT (n + 1) ix_root_at args S = runDf wF (callT wF txt.P n) df_root_at args S := rfl
theorem st_tree_from (n : Nat) (args : List D) (S : Store) : cT (n + 1) ix_tree_from args S = runDf wF (callT wF txt.P n) df_tree_from args S := rfl
theorem st_tree_of_reaches (n : Nat) (args : List D) (S : Store) : cT (n + 1) ix_tree_of_reaches args S = runDf wF (callT wF txt.P n) df_tree_of_reaches args S := rfl
theorem st_tree_by (n : Nat) (args : List D) (S : Store) : cT (n + 1) ix_tree_by args S = runDf wF (callT wF txt.P n) df_tree_by args S := rfl
theorem st_is_whole (n : Nat) (args : List D) (S : Store) : cT (n + 1) ix_is_whole args S = runDf wF (callT wF txt.P n) df_is_whole args S := rfl
theorem st_law_is_row (n : Nat) (args : List D) (S : Store) : cT (n + 1) ix_law_is_row args S = runDf wF (callT wF txt.P n) df_law_is_row args S := rfl
theorem st_law_row_right (n : Nat) (args : List D) (S : Store) : cT (n + 1) ix_law_row_right args S = runDf wF (callT wF txt.P n) df_law_row_right args S := rfl
def optI : Option Nat → D | some r => .int r | none => .none
def optD : Option Tr → D | some t => t.toD | none => .none
theorem root_at_ok (row : List Int) (f l : Nat) (h1 : f ≤ l) (h2 : l ≤ row.length) (h3 : row.length ≤ 1000) (n : Nat) (hn : 0 < n) (S : Store) : cT n ix_root_at [.tuple (nums row), .int f, .int l] S = .ok (optI (rootAt row f l)) S := by
  obtain ⟨n, rfl⟩ := pos_of hn
  rw [st_root_at]
  let env : Env := [.val (.tuple (nums row)), .val (.int f), .val (.int l), .no, .no]
  let p : Nat → Bool := fun i => decide ((i : Int) + rg row i = (l : Int) - 1)
  let g : D → Option D := fun x => match x with | .int i => if p i.toNat then some (.int i) else none | _ => none
  have hc : evE wF (callT wF txt.P n) (.comp [("at", 4)] (.name 4) (.rng2 (.var 1) (.var 2)) (.yes (.cmp .eq (.bin .add (.var 4) (.idxv 0 (.var 4))) (.bin .sub (.var 2) (.lit (.int 1))))) (.var 4)) env S = .ok (.list (nums (((List.range' f (l - f)).filter p).map fun (i : Nat) => (i : Int)))) S := by
    rw [ev_comp_pure (xs := rngD f l) (env0 := env) (S1 := S) ?_ rfl g ?_ ?_]
    · congr 2
      rw [rngD_nat]
      unfold nums
      rw [List.filterMap_map, List.map_map]
      generalize List.range' f (l - f) = ks
      induction ks with
      | nil => rfl
      | cons k ks ih =>
        rw [List.filterMap_cons, List.filter_cons]
        have hg : (g ∘ fun (k : Nat) => PyData.int (k : Int)) k = if p k then some (.int k) else none := by simp [g]
        rw [hg]
        by_cases hp : p k = true
        · rw [if_pos hp, if_pos hp, List.map_cons, ← ih]
          rfl
        · rw [if_neg hp, if_neg hp, ← ih]
    · simp [evI, evE, R.bind, lift, getV, env, BIG]
      omega
    · intro x hx
      rw [rngD_nat, List.mem_map] at hx
      obtain ⟨k, hk, rfl⟩ := hx
      rw [List.mem_range'_1] at hk
      have hlt : k < row.length := by omega
      have e0 := atI_nums (ns := row) hlt
      have eg : g (.int k) = if p k then some (.int k) else none := by simp [g]
      rw [eg]
      by_cases hp : (k : Int) + rg row k = (l : Int) - 1
      · have hp' : p k = true := by simp [p, hp]
        rw [if_pos hp']
        simp [itemF, env, setG, setNames, evO2, evE, evB, R.bind, R.calm, lift, getV, getO, idxD, e0, binD, cmpD, eqD_int, hp]
      · have hp' : p k = false := by simp [p, hp]
        rw [if_neg (by simp [hp'])]
        simp [itemF, env, setG, setNames, evO2, evE, evB, R.bind, R.calm, lift, getV, getO, idxD, e0, binD, cmpD, eqD_int, hp]
    · rw [rngD_nat]
      simp [BIG]
      omega
  have hh : rootAt row f l = ((List.range' f (l - f)).filter p).head? := by
    rw [List.head?_filter]
    rfl
  rw [run_at (env := env) rfl rfl]
  simp only [df_root_at, evS]
  rw [hc, hh]
  cases hq : (List.range' f (l - f)).filter p with
  | nil => simp [R.bind, lift, setNames, env, evE, evB, evA, getV, getO, cmpD, optI, nums, eq_list_nil [], BIG, eqD, okEq, PyData.canLay0, PyData.canLayAll0, PyData.depth, PyData.depthAll, PyData.eqv, PyData.eqvAll]
  | cons r rs =>
    have e := eq_list_nil ((r : Int) :: rs.map fun (i : Nat) => (i : Int))
    have a0 : L2.atI (nums ((r : Int) :: rs.map fun (i : Nat) => (i : Int))) 0 = some (.int r) := by
      have := atI_nums (ns := (r : Int) :: rs.map fun (i : Nat) => (i : Int)) (i := 0) (by simp)
      simpa [rg] using this
    simp [R.bind, lift, setNames, env, evE, evB, evA, getV, getO, cmpD, optI, e, BIG, idxD, a0]
end Mi

set_option Elab.async false
set_option linter.all false
set_option maxRecDepth 100000
set_option maxHeartbeats 1000000
namespace Mi
open PySem
theorem isN_none : isD .none .none = some true := rfl
theorem isN_tup (xs : List D) : isD (.tuple xs) .none = some false := rfl
theorem isN_tr (t : Tr) : isD t.toD .none = some false := by cases t <;> rfl
theorem isN_bool (b : Bool) : isD (.bool b) .none = some false := rfl
theorem eqD_nat (a b : Nat) : eqD (.int a) (.int b) = some (decide (a = b)) := by
  rw [eqD_int]
  congr 1
  by_cases h : a = b
  · simp [h]
  · rw [decide_eq_false h, decide_eq_false (by omega)]
theorem tree_from_ok (row : List Int) (h3 : row.length ≤ 1000) : ∀ (k f l n : Nat) (S : Store), f ≤ l → l ≤ row.length → l - f < k → k + 1 < n → cT n ix_tree_from [.tuple (nums row), .int f, .int l] S = .ok (optD (treeFrom row k f l)) S := by
  intro k
  induction k with
  | zero => intro f l n S h1 h2 h4; omega
  | succ k ih =>
    intro f l n S h1 h2 h4 h5
    obtain ⟨n, rfl⟩ := pos_of (Nat.lt_of_le_of_lt (Nat.zero_le _) h5)
    rw [st_tree_from, treeFrom]
    by_cases hfl : f = l
    · rw [if_pos hfl]
      subst hfl
      simp [runDf, df_tree_from, evS, evE, evA, evB, R.bind, lift, getV, getO, startE, cmpD, eqD_nat, optD, Tr.toD, BIG]
    · rw [if_neg hfl]
      have e1 := root_at_ok row f l h1 h2 h3 n (by omega) S
      cases hr : rootAt row f l with
      | none =>
        rw [hr] at e1
        simp [runDf, df_tree_from, evS, evE, evA, evB, R.bind, lift, getV, getO, startE, cmpD, eqD_nat, hfl, call0, e1, optI, optD, setNames, isN_none, BIG]
      | some r =>
        rw [hr] at e1
        have hm := rootAt_mem hr
        have e2 := ih f r n S (by omega) (by omega) (by omega) (by omega)
        have e3 := ih (r + 1) l n S (by omega) (by omega) (by omega) (by omega)
        have ec : ((r + 1 : Nat) : Int) = (r : Int) + 1 := by omega
        rw [ec] at e3
        cases ha : treeFrom row k f r with
        | none =>
          rw [ha] at e2
          simp [runDf, df_tree_from, evS, evE, evA, evB, R.bind, lift, getV, getO, startE, cmpD, eqD_nat, hfl, call0, e1, e2, ha, optI, optD, setNames, isN_none, isN_int, BIG]
        | some a =>
          rw [ha] at e2
          cases hb : treeFrom row k (r + 1) l with
          | none =>
            rw [hb] at e3
            simp [runDf, df_tree_from, evS, evE, evA, evB, R.bind, lift, getV, getO, startE, cmpD, eqD_nat, hfl, call0, e1, e2, e3, ha, hb, optI, optD, setNames, isN_none, isN_int, isN_tr, addD, BIG]
          | some b =>
            rw [hb] at e3
            simp [runDf, df_tree_from, evS, evE, evA, evB, R.bind, lift, getV, getO, startE, cmpD, eqD_nat, hfl, call0, e1, e2, e3, ha, hb, optI, optD, setNames, isN_none, isN_int, isN_tr, addD, BIG, Tr.toD]
theorem treeFrom_forks (row : List Int) : ∀ (k f l : Nat) (t : Tr), f ≤ l → treeFrom row k f l = some t → t.forks = l - f := by
  intro k
  induction k with
  | zero => intro f l t _ h; simp [treeFrom] at h
  | succ k ih =>
    intro f l t hfl h
    rw [treeFrom] at h
    split at h
    · cases h; simp [Tr.forks]; omega
    · split at h
      · cases h
      · rename_i r hr
        have hm := rootAt_mem hr
        split at h
        · cases h
        · rename_i a ha
          split at h
          · cases h
          · rename_i b hb
            cases h
            have := ih f r a hm.1 ha
            have := ih (r + 1) l b (by omega) hb
            simp only [Tr.forks]; omega
theorem is_whole_ok (a b c : Int) (n : Nat) (hn : 0 < n) (S : Store) : cT n ix_is_whole [.int a, .int b, .int c] S = .ok (.bool (decide (b ≤ a) && decide (a ≤ c))) S := by
  obtain ⟨n, rfl⟩ := pos_of hn
  rw [st_is_whole]
  by_cases h1 : a < b
  · have : decide (b ≤ a) = false := by simp; omega
    simp [runDf, df_is_whole, evS, evE, evA, evB, R.bind, lift, getV, getO, startE, cmpD, ltD_int, instD, asB, h1, this]
  · have h1' : b ≤ a := by omega
    by_cases h2 : c < a
    · simp [runDf, df_is_whole, evS, evE, evA, evB, R.bind, lift, getV, getO, startE, cmpD, ltD_int, instD, asB, h1, h2, h1']
      try omega
    · have h2' : a ≤ c := by omega
      simp [runDf, df_is_whole, evS, evE, evA, evB, R.bind, lift, getV, getO, startE, cmpD, ltD_int, instD, asB, h1, h2, h1', h2']
theorem enumD_nums : ∀ (row : List Int) (k : Nat), enumD k (nums row) = (List.range row.length).map fun i => PyData.tuple [.int ((k + i : Nat) : Int), .int (rg row i)]
  | [], k => rfl
  | x :: row, k => by
    have ih := enumD_nums row (k + 1)
    show PyData.tuple [.int k, .int x] :: enumD (k + 1) (nums row) = _
    rw [ih, List.length_cons, List.range_succ_eq_map, List.map_cons, List.map_map]
    congr 1
    apply List.map_congr_left
    intro i _
    simp only [Function.comp, rg_cons_succ]
    congr 3
    omega
theorem boolsD_map : ∀ bs : List Bool, boolsD (bs.map PyData.bool) = some bs
  | [] => rfl
  | b :: bs => by simp [boolsD, boolsD_map bs]
theorem eq_tr_nums (t : Tr) (h : t.forks ≤ 500) (row : List Int) : eqD (.tuple (nums t.reach)) (.tuple (nums row)) = some (decide (t.reach = row)) := eq_nums _ _
theorem tree_of_reaches_ok (row : List Int) (h3 : row.length ≤ 1000) (n : Nat) (hn : 32 < n) (S : Store) : cT n ix_tree_of_reaches [.tuple (nums row)] S = .ok (optD (treeOf row)) S := by
  obtain ⟨n, rfl⟩ := pos_of (Nat.lt_of_le_of_lt (Nat.zero_le _) hn)
  rw [st_tree_of_reaches]
  let env : Env := [.val (.tuple (nums row)), .no, .no, .no]
  rw [run_at (env := env) rfl rfl]
  unfold treeOf
  by_cases hlen : 24 < row.length
  · rw [if_pos hlen]
    have : (24 : Int) < row.length := by omega
    simp [df_tree_of_reaches, evS, evE, evA, evB, R.bind, lift, getV, getO, cmpD, ltD_int, instD, asB, lenD, env, nums_len, this, optD]
  · rw [if_neg hlen]
    have hlen' : ¬ (24 : Int) < row.length := by omega
    let q : Nat → Bool := fun i => decide (0 ≤ rg row i) && decide (rg row i ≤ (row.length : Int) - 1 - i)
    have hc : evE wF (callT wF txt.P n) (.comp [("at", 2), ("one", 3)] (.tup [2, 3]) (.enum (.var 0)) .no (.call ix_is_whole (.cons (.var 3) (.cons (.lit (.int 0)) (.cons (.bin .sub (.bin .sub (.lenv 0) (.lit (.int 1))) (.var 2)) .nil))))) env S
        = .ok (.list (((List.range row.length).map q).map PyData.bool)) S := by
      let g : D → Option D := fun x => match x with | .tuple [.int i, .int o] => some (.bool (decide (0 ≤ o) && decide (o ≤ (row.length : Int) - 1 - i))) | _ => none
      rw [ev_comp_pure (xs := enumD 0 (nums row)) (env0 := env) (S1 := S) ?_ rfl g ?_ ?_]
      · congr 2
        rw [enumD_nums, List.filterMap_map, List.map_map]
        generalize List.range row.length = ks
        induction ks with
        | nil => rfl
        | cons k ks ih =>
          rw [List.filterMap_cons]
          have hg : (g ∘ fun i => PyData.tuple [.int ((0 + i : Nat) : Int), .int (rg row i)]) k = some (.bool (q k)) := by simp [g, q]
          rw [hg, List.map_cons, ← ih]
          rfl
      · simp [evI, evE, R.bind, lift, getV, env, itemsD]
      · intro x hx
        rw [enumD_nums, List.mem_map] at hx
        obtain ⟨k, hk, rfl⟩ := hx
        have e := is_whole_ok (rg row k) 0 ((row.length : Int) - 1 - k) n (by omega) S
        simp [itemF, env, g, setG, setNames, evO2, evE, evA, evB, R.bind, R.calm, lift, getV, getO, lenD, nums_len, binD, call0, e]
      · rw [enumD_nums]; simp [BIG]; omega
    have hall : (List.range row.length).all q = ((List.range row.length).map q).all id := by rw [List.all_map]; rfl
    cases hq : (List.range row.length).all q with
    | false =>
      have hq2 : ((List.range row.length).map q).all id = false := by rw [← hall]; exact hq
      have hq3 : ((List.range row.length).all fun i => decide (0 ≤ rg row i) && decide (rg row i ≤ (row.length : Int) - 1 - i)) = false := hq
      rw [if_neg Bool.false_ne_true]
      have hb : evE wF (callT wF txt.P n) (.bi .all (.cons (.comp [("at", 2), ("one", 3)] (.tup [2, 3]) (.enum (.var 0)) .no (.call ix_is_whole (.cons (.var 3) (.cons (.lit (.int 0)) (.cons (.bin .sub (.bin .sub (.lenv 0) (.lit (.int 1))) (.var 2)) .nil))))) .nil)) env S = .ok (.bool false) S := by
        rw [evE, evA, hc]
        simp only [R.bind, evA, biD, boolsD_map, Option.map, hq2, lift]
      simp only [env] at hb ⊢
      dsimp only [df_tree_of_reaches]
      generalize E.bi .all (.cons (.comp [("at", 2), ("one", 3)] (.tup [2, 3]) (.enum (.var 0)) .no (.call ix_is_whole (.cons (.var 3) (.cons (.lit (.int 0)) (.cons (.bin .sub (.bin .sub (.lenv 0) (.lit (.int 1))) (.var 2)) .nil))))) .nil) = ce at hb ⊢
      simp [evS, evB, hb, evE, R.bind, lift, getV, getO, cmpD, ltD_int, instD, asB, lenD, nums_len, hlen', optD]
    | true =>
      have hq2 : ((List.range row.length).map q).all id = true := by rw [← hall]; exact hq
      have hq3 : ((List.range row.length).all fun i => decide (0 ≤ rg row i) && decide (rg row i ≤ (row.length : Int) - 1 - i)) = true := hq
      rw [if_pos rfl]
      have hb : evE wF (callT wF txt.P n) (.bi .all (.cons (.comp [("at", 2), ("one", 3)] (.tup [2, 3]) (.enum (.var 0)) .no (.call ix_is_whole (.cons (.var 3) (.cons (.lit (.int 0)) (.cons (.bin .sub (.bin .sub (.lenv 0) (.lit (.int 1))) (.var 2)) .nil))))) .nil)) env S = .ok (.bool true) S := by
        rw [evE, evA, hc]
        simp only [R.bind, evA, biD, boolsD_map, Option.map, hq2, lift]
      simp only [env] at hb ⊢
      dsimp only [df_tree_of_reaches]
      generalize E.bi .all (.cons (.comp [("at", 2), ("one", 3)] (.tup [2, 3]) (.enum (.var 0)) .no (.call ix_is_whole (.cons (.var 3) (.cons (.lit (.int 0)) (.cons (.bin .sub (.bin .sub (.lenv 0) (.lit (.int 1))) (.var 2)) .nil))))) .nil) = ce at hb ⊢
      have e1 := tree_from_ok row h3 (row.length + 1) 0 row.length n S (by omega) (by omega) (by omega) (by omega)
      rw [show ((0 : Nat) : Int) = 0 from rfl] at e1
      cases ht : treeFrom row (row.length + 1) 0 row.length with
      | none =>
        rw [ht] at e1
        simp [evS, hb, evE, evA, evB, R.bind, lift, getV, getO, cmpD, ltD_int, instD, asB, lenD, nums_len, hlen', optD, call0, e1, setNames, isN_none]
      | some t =>
        rw [ht] at e1
        have hf := treeFrom_forks row _ _ _ t (Nat.zero_le _) ht
        have hh := t.high_le
        have e2 := reaches_of_ok t n S (by omega) (by omega)
        by_cases hr : t.reach = row
        · have e3 : eqD (.tuple (nums row)) (.tuple (nums row)) = some true := by rw [eq_nums, decide_eq_true rfl]
          rw [hr] at e2
          simp [evS, hb, evE, evA, evB, R.bind, lift, getV, getO, cmpD, ltD_int, instD, asB, lenD, nums_len, hlen', optD, call0, e1, e2, e3, setNames, isN_tr, hr]
        · have e3 : eqD (.tuple (nums t.reach)) (.tuple (nums row)) = some false := by rw [eq_nums, decide_eq_false hr]
          simp [evS, hb, evE, evA, evB, R.bind, lift, getV, getO, cmpD, ltD_int, instD, asB, lenD, nums_len, hlen', optD, call0, e1, e2, e3, setNames, isN_tr, hr]


theorem tree_by_ok (row : List Int) (h3 : row.length ≤ 1000) (n : Nat) (hn : 33 < n) (S : Store) : cT n ix_tree_by [.tuple (nums row)] S = match treeOf row with | some t => .ok t.toD S | none => .exc ⟨7, 0⟩ S := by
  obtain ⟨n, rfl⟩ := pos_of (Nat.lt_of_le_of_lt (Nat.zero_le _) hn)
  rw [st_tree_by]
  have e := tree_of_reaches_ok row h3 n (by omega) S
  cases ht : treeOf row with
  | none =>
    rw [ht] at e
    simp [runDf, df_tree_by, evS, evE, evA, evB, R.bind, lift, getV, getO, startE, cmpD, call0, e, optD, setNames, isN_none]
  | some t =>
    rw [ht] at e
    simp [runDf, df_tree_by, evS, evE, evA, evB, R.bind, lift, getV, getO, startE, cmpD, call0, e, optD, setNames, isN_tr]
theorem any_range {p q : Nat → Bool} {m : Nat} (h : ∀ i < m, p i = q i) : (List.range m).any p = (List.range m).any q := by
  apply Bool.eq_iff_iff.mpr
  simp only [List.any_eq_true, List.mem_range]
  constructor
  · rintro ⟨i, hi, e⟩; exact ⟨i, hi, by rw [← h i hi]; exact e⟩
  · rintro ⟨i, hi, e⟩; exact ⟨i, hi, by rw [h i hi]; exact e⟩
theorem ev_rng2 {cf : Nat → CallF} {a b : E} {env : Env} {S : Store} {f l : Int} (ha : evE wF cf a env S = .ok (.int f) S) (hb : evE wF cf b env S = .ok (.int l) S) (h1 : 0 ≤ f) (h2 : f ≤ 1000) (h3 : 0 ≤ l) (h4 : l ≤ 10000) : evI wF cf (.rng2 a b) env S = .ok (rngD f l) S := by
  rw [evI, ha]
  simp only [R.bind]
  rw [hb]
  simp only
  rw [if_pos]
  unfold BIG; omega
def rb1 (row : List Int) : D → Bool := fun x => match x with | .tuple [.int i, .int o] => decide (o < 0) || decide ((row.length : Int) ≤ i + o) | _ => false
def rb2 (row : List Int) : D → Bool := fun x => match x with | .tuple [.int i, .int o] => (List.range' (i.toNat + 1) o.toNat).any fun s => decide (i + o < s + rg row s) | _ => false
def rI (row : List Int) : Env → Prop := fun env => ∃ x y, env = [.val (.tuple (nums row)), x, y, .no]
def rB1 : Mi.S := .ifs (.or (.not (.val (.inst .int (.var 2)))) (.or (.val (.inst .bool (.var 2))) (.or (.cmp .lt (.var 2) (.lit (.int 0))) (.cmp .ge (.bin .add (.var 1) (.var 2)) (.lenv 0))))) (.ret (.lit (.bool false))) .done .done
def rComp : Mi.E := .comp [("_law_spot", 3)] (.name 3) (.rng2 (.bin .add (.var 1) (.lit (.int 1))) (.bin .add (.bin .add (.var 1) (.var 2)) (.lit (.int 1)))) (.yes (.cmp .gt (.bin .add (.var 3) (.idxv 0 (.var 3))) (.bin .add (.var 1) (.var 2)))) (.var 3)
def rB2 : Mi.S := .ifs (.cmp .ne rComp (.lst .nil)) (.ret (.lit (.bool false))) .done .done
theorem turn1_ok (row : List Int) (n : Nat) (S : Store) : ∀ x ∈ enumD 0 (nums row), ∀ env, rI row env → (rb1 row x = false → ∃ env', turnF wF (callT wF txt.P n) (.tup [1, 2]) rB1 x env S = .ok (.nx env') S ∧ rI row env') ∧ (rb1 row x = true → turnF wF (callT wF txt.P n) (.tup [1, 2]) rB1 x env S = .ok (.ret (.bool false)) S) := by
  intro x hx env hI
  rw [enumD_nums, List.mem_map] at hx
  obtain ⟨k, hk, rfl⟩ := hx
  obtain ⟨x1, y1, rfl⟩ := hI
  simp only [rb1, Nat.zero_add]
  by_cases g1 : rg row k < 0
  · simp [turnF, rB1, rB2, setG, setNames, evS, evB, evE, R.bind, R.calm, lift, getV, getO, cmpD, ltD_int, instD, asB, lenD, nums_len, binD, g1]
  · by_cases g2 : (k : Int) + rg row k < row.length
    · have g3 : ¬ (row.length : Int) ≤ k + rg row k := by omega
      simp [turnF, rB1, rB2, setG, setNames, evS, evB, evE, R.bind, R.calm, lift, getV, getO, cmpD, ltD_int, instD, asB, lenD, nums_len, binD, g1, g2, g3, rI]
    · have g3 : (row.length : Int) ≤ k + rg row k := by omega
      simp [turnF, rB1, rB2, setG, setNames, evS, evB, evE, R.bind, R.calm, lift, getV, getO, cmpD, ltD_int, instD, asB, lenD, nums_len, binD, g1, g2, g3]
def spotP (row : List Int) (k : Nat) : Nat → Bool := fun s => decide ((k : Int) + rg row k < s + rg row s)
theorem comp2_ok (row : List Int) (h3 : row.length ≤ 1000) (n : Nat) (S : Store) (k o : Nat) (hk : k < row.length) (o1 : (k : Int) + rg row k < row.length) (ho : rg row k = (o : Int)) : evE wF (callT wF txt.P n) rComp
      [.val (.tuple (nums row)), .val (.int k), .val (.int (rg row k)), .no] S = .ok (.list (nums (((List.range' (k + 1) o).filter (spotP row k)).map fun (i : Nat) => (i : Int)))) S := by
  let p : Nat → Bool := spotP row k
  let g : D → Option D := fun x => match x with | .int i => if p i.toNat then some (.int i) else none | _ => none
  have hrd : rngD ((k : Int) + 1) ((k : Int) + rg row k + 1) = (List.range' (k + 1) o).map fun i => PyData.int (i : Nat) := by
    have := rngD_nat (k + 1) (k + o + 1)
    rw [show k + o + 1 - (k + 1) = o by omega] at this
    rw [← this, ho]
    congr 1
  unfold rComp
  rw [ev_comp_pure (xs := rngD ((k : Int) + 1) ((k : Int) + rg row k + 1)) (env0 := [.val (.tuple (nums row)), .val (.int k), .val (.int (rg row k)), .no]) (S1 := S) ?_ rfl g ?_ ?_]
  · congr 2
    rw [hrd]
    unfold nums
    rw [List.filterMap_map, List.map_map]
    generalize List.range' (k + 1) o = ks
    induction ks with
    | nil => rfl
    | cons j ks ih =>
      rw [List.filterMap_cons, List.filter_cons]
      have hg : (g ∘ fun (k : Nat) => PyData.int (k : Int)) j = if p j then some (.int j) else none := by simp [g]
      rw [hg]
      by_cases hp : p j = true
      · rw [if_pos hp, if_pos hp, List.map_cons, ← ih]
        rfl
      · rw [if_neg hp, if_neg hp, ← ih]
  · exact ev_rng2 (by simp [evE, R.bind, lift, getV, binD]) (by simp [evE, R.bind, lift, getV, binD]) (by omega) (by omega) (by omega) (by omega)
  · intro x hx
    rw [hrd, List.mem_map] at hx
    obtain ⟨j, hj, rfl⟩ := hx
    rw [List.mem_range'_1] at hj
    have hlt : j < row.length := by omega
    have e0 := atI_nums (ns := row) hlt
    have eg : g (.int j) = if p j then some (.int j) else none := by simp [g]
    rw [eg]
    by_cases hp : (k : Int) + rg row k < j + rg row j
    · have hp' : p j = true := by simp [p, spotP, hp]
      rw [if_pos hp']
      simp [itemF, setG, setNames, evO2, evE, evB, R.bind, R.calm, lift, getV, getO, idxD, e0, binD, cmpD, ltD_int, hp]
    · have hp' : p j = false := by simp [p, spotP, hp]
      rw [if_neg (by simp [hp'])]
      simp [itemF, setG, setNames, evO2, evE, evB, R.bind, R.calm, lift, getV, getO, idxD, e0, binD, cmpD, ltD_int, hp]
  · rw [hrd]; simp [BIG]; omega
theorem rb2_eq (row : List Int) (k o : Nat) (ho : rg row k = (o : Int)) : rb2 row (.tuple [.int k, .int (rg row k)]) = (List.range' (k + 1) o).any (spotP row k) := by
  have e9 : spotP row k = fun (s : Nat) => decide ((k : Int) + (o : Int) < s + rg row s) := by unfold spotP; rw [ho]
  rw [e9, ho]
  show (List.range' (((k : Int)).toNat + 1) ((o : Int)).toNat).any (fun (s : Nat) => decide ((k : Int) + (o : Int) < s + rg row s)) = _
  rw [Int.toNat_natCast, Int.toNat_natCast]
theorem spot_nil (l : List Nat) (p : Nat → Bool) : decide ((l.filter p).map (fun (i : Nat) => (i : Int)) = []) = !(l.any p) := by
  cases hany : l.any p with
  | true =>
    simp only [Bool.not_true, decide_eq_false_iff_not, List.map_eq_nil_iff, List.filter_eq_nil_iff]
    intro hne
    obtain ⟨s, h1, h2⟩ := List.any_eq_true.mp hany
    exact hne s h1 h2
  | false =>
    simp only [Bool.not_false, decide_eq_true_eq, List.map_eq_nil_iff, List.filter_eq_nil_iff]
    intro s hs
    exact List.any_eq_false.mp hany s hs
theorem ev_lit {cf : Nat → CallF} {env : Env} {S : Store} {d : D} : evE wF cf (.lit d) env S = .ok d S := rfl
theorem ev_nil {cf : Nat → CallF} {env : Env} {S : Store} : evE wF cf (.lst .nil) env S = .ok (.list []) S := rfl
theorem turn2_ce (row : List Int) (cf : Nat → CallF) (ce : E) (S : Store) (k r : Int) (b : Bool) (zs : D) (x1 y1 : Sl) (hc : evE wF cf ce [.val (.tuple (nums row)), .val (.int k), .val (.int r), .no] S = .ok zs S) (hb : eqD zs (.list []) = some (!b)) :
    turnF wF cf (.tup [1, 2]) (.ifs (.cmp .ne ce (.lst .nil)) (.ret (.lit (.bool false))) .done .done) (.tuple [.int k, .int r]) [.val (.tuple (nums row)), x1, y1, .no] S = if b = true then .ok (.ret (.bool false)) S else .ok (.nx [.val (.tuple (nums row)), .val (.int k), .val (.int r), .no]) S := by
  cases b with
  | true => simp [turnF, setG, setNames, evS, evB, hc, ev_nil, ev_lit, R.bind, R.calm, lift, cmpD, hb]
  | false => simp [turnF, setG, setNames, evS, evB, hc, ev_nil, ev_lit, R.bind, R.calm, lift, cmpD, hb]
theorem turn2_at (row : List Int) (n : Nat) (S : Store) (k : Nat) (b : Bool) (zs : List Int) (x1 y1 : Sl) (hc : evE wF (callT wF txt.P n) rComp [.val (.tuple (nums row)), .val (.int k), .val (.int (rg row k)), .no] S = .ok (.list (nums zs)) S) (hb : eqD (.list (nums zs)) (.list []) = some (!b)) :
    turnF wF (callT wF txt.P n) (.tup [1, 2]) rB2 (.tuple [.int k, .int (rg row k)]) [.val (.tuple (nums row)), x1, y1, .no] S = if b = true then .ok (.ret (.bool false)) S else .ok (.nx [.val (.tuple (nums row)), .val (.int k), .val (.int (rg row k)), .no]) S :=
  turn2_ce row (callT wF txt.P n) rComp S k (rg row k) b (.list (nums zs)) x1 y1 hc hb
theorem turn2_ok (row : List Int) (h3 : row.length ≤ 1000) (n : Nat) (S : Store) (bnd : ∀ i < row.length, 0 ≤ rg row i ∧ (i : Int) + rg row i < row.length) : ∀ x ∈ enumD 0 (nums row), ∀ env, rI row env → (rb2 row x = false → ∃ env', turnF wF (callT wF txt.P n) (.tup [1, 2]) rB2 x env S = .ok (.nx env') S ∧ rI row env') ∧ (rb2 row x = true → turnF wF (callT wF txt.P n) (.tup [1, 2]) rB2 x env S = .ok (.ret (.bool false)) S) := by
  intro x hx env hI
  rw [enumD_nums, List.mem_map] at hx
  obtain ⟨k, hk, rfl⟩ := hx
  rw [List.mem_range] at hk
  obtain ⟨x1, y1, rfl⟩ := hI
  obtain ⟨o0, o1⟩ := bnd k hk
  obtain ⟨o, ho⟩ := Int.eq_ofNat_of_zero_le o0
  have hc := comp2_ok row h3 n S k o hk o1 ho
  have hel := eq_list_nil (((List.range' (k + 1) o).filter (spotP row k)).map fun (i : Nat) => (i : Int))
  rw [spot_nil] at hel
  have T := turn2_at row n S k _ _ x1 y1 hc hel
  rw [Nat.zero_add, rb2_eq row k o ho]
  constructor
  · intro h
    rw [T, if_neg (by rw [h]; exact Bool.false_ne_true)]
    exact ⟨_, rfl, _, _, rfl⟩
  · intro h
    rw [T, if_pos h]
theorem law_is_row_ok (row : List Int) (h3 : row.length ≤ 1000) (n : Nat) (hn : 0 < n) (S : Store) : cT n ix_law_is_row [.tuple (nums row)] S = .ok (.bool (isRow row)) S := by
  obtain ⟨n, rfl⟩ := pos_of hn
  rw [st_law_is_row, run_at (env := [.val (.tuple (nums row)), .no, .no, .no]) rfl rfl]
  unfold isRow
  by_cases hlen : 24 < row.length
  · have h1 : (24 : Int) < row.length := by omega
    have h2 : ¬ row.length ≤ 24 := by omega
    simp [df_law_is_row, evS, evE, evA, evB, R.bind, lift, getV, getO, cmpD, ltD_int, instD, asB, lenD, nums_len, h1, h2]
  · have h1 : ¬ (24 : Int) < row.length := by omega
    have h2 : row.length ≤ 24 := by omega
    dsimp only [df_law_is_row]
    generalize hL1 : Mi.S.for_ (.tup [1, 2]) (.enum (.var 0)) _ _ = L1
    rw [evS]
    have c0 : evB wF (callT wF txt.P n) (.or (.not (.val (.inst .tuple (.var 0)))) (.cmp .gt (.lenv 0) (.lit (.int 24)))) [.val (.tuple (nums row)), .no, .no, .no] S = .ok false S := by
      simp [evB, evE, R.bind, lift, getV, getO, cmpD, ltD_int, instD, asB, lenD, nums_len, h1]
    rw [c0]
    simp only [R.bind, evS, Bool.false_eq_true, if_false]
    rw [← hL1]
    have hi : ∀ x y, evI wF (callT wF txt.P n) (.enum (.var 0)) [.val (.tuple (nums row)), x, y, .no] S = .ok (enumD 0 (nums row)) S := fun x y => by
      simp [evI, evE, R.bind, lift, getV, itemsD]
    rw [ev_for (hi _ _)]
    have T1 := forL_test (f := turnF wF (callT wF txt.P n) (.tup [1, 2]) rB1)
      (I := rI row) (b := rb1 row) (d := .bool false) (S := S) (enumD 0 (nums row)) [.val (.tuple (nums row)), .no, .no, .no] (turn1_ok row n S) ⟨_, _, rfl⟩
    have ea1 : (enumD 0 (nums row)).any (rb1 row) = (List.range row.length).any fun i => decide (rg row i < 0) || decide ((row.length : Int) ≤ i + rg row i) := by
      rw [enumD_nums, List.any_map]
      exact any_range fun i _ => by simp [rb1, Function.comp]
    rw [ea1] at T1
    unfold rB1 at T1
    cases hq : (List.range row.length).any (fun i => decide (rg row i < 0) || decide ((row.length : Int) ≤ i + rg row i)) with
    | true =>
      rw [T1.2 hq]
      simp [R.bind]
    | false =>
      obtain ⟨env1, e1, x1, y1, rfl⟩ := T1.1 hq
      have bnd : ∀ i < row.length, 0 ≤ rg row i ∧ (i : Int) + rg row i < row.length := fun i hi' => by
        have := List.any_eq_false.mp hq i (List.mem_range.mpr hi')
        simp at this; omega
      rw [e1]
      simp only [R.bind]
      rw [ev_for (hi _ _)]
      have T2 := forL_test (f := turnF wF (callT wF txt.P n) (.tup [1, 2]) rB2)
        (I := rI row) (b := rb2 row) (d := .bool false) (S := S) (enumD 0 (nums row)) [.val (.tuple (nums row)), x1, y1, .no] (turn2_ok row h3 n S bnd) ⟨_, _, rfl⟩
      have ea2 : (enumD 0 (nums row)).any (rb2 row) = (List.range row.length).any fun i => (List.range' (i + 1) ((rg row i).toNat)).any fun s => decide ((i : Int) + rg row i < s + rg row s) := by
        rw [enumD_nums, List.any_map]
        exact any_range fun i _ => by simp [rb2, Function.comp]
      rw [ea2] at T2
      unfold rB2 rComp at T2
      cases hq2 : (List.range row.length).any (fun i => (List.range' (i + 1) ((rg row i).toNat)).any fun s => decide ((i : Int) + rg row i < s + rg row s)) with
      | true =>
        rw [T2.2 hq2]
        simp [R.bind]
      | false =>
        obtain ⟨env2, e2, x2, y2, rfl⟩ := T2.1 hq2
        rw [e2]
        simp [R.bind, evS, evE, h2]
end Mi

set_option Elab.async false
set_option linter.all false
set_option maxRecDepth 100000
set_option maxHeartbeats 1000000
namespace Mi
open PySem
theorem ev_word_ok {cf : Nat → CallF} {e : E} {env : Env} {S S1 : Store} {d : D} (h : evE wF (fun j => cf (j + 2)) e env S = .ok d S1) : evE wF cf (.word e) env S = .ok (.str (Str.ofString "")) S1 := by rw [evE, h]
theorem ev_word_exc {cf : Nat → CallF} {e : E} {env : Env} {S S1 : Store} {c : Ex} {w : Str} (h : evE wF (fun j => cf (j + 2)) e env S = .exc c S1) (hw : wF c = some w) : evE wF cf (.word e) env S = .ok (.str w) S1 := by rw [evE, h]; simp only [hw, lift, R.bind]
theorem shift2 (n : Nat) : (fun j => callT wF txt.P (n + 2) (j + 2)) = callT wF txt.P n := rfl
theorem w7 : wF ⟨7, 0⟩ = some "reaches" := rfl
theorem eq_rr : eqD (.str "reaches") (.str "reaches") = some true := by decide +kernel
theorem eq_ee : eqD (.str "") (.str "") = some true := by decide +kernel
theorem row_right_ok (row : List Int) (h3 : row.length ≤ 1000) (n : Nat) (hn : 40 < n) (S : Store) : cT n ix_law_row_right [.tuple (nums row)] S = .ok (.bool true) S := by
  obtain ⟨n, rfl⟩ : ∃ m, n = m + 3 := ⟨n - 3, by omega⟩
  rw [st_law_row_right, run_at (env := [.val (.tuple (nums row))]) rfl rfl]
  have e1 := law_is_row_ok row h3 (n + 2) (by omega) S
  have e2 := tree_by_ok row h3 (n + 2) (by omega) S
  have e2' := tree_by_ok row h3 n (by omega) S
  have hcall : ∀ m, evE wF (callT wF txt.P m) (.call ix_tree_by (.cons (.var 0) .nil)) [.val (.tuple (nums row))] S = cT m ix_tree_by [.tuple (nums row)] S := fun m => by
    simp [evE, evA, R.bind, lift, getV]
  cases hr : isRow row with
  | false =>
    rw [hr] at e1
    have ht := (row_tree row).2 hr
    rw [ht] at e2'
    have hw : evE wF (callT wF txt.P (n + 2)) (.word (.call ix_tree_by (.cons (.var 0) .nil))) [.val (.tuple (nums row))] S = .ok (.str "reaches") S := by
      refine ev_word_exc (c := ⟨7, 0⟩) ?_ w7
      rw [shift2, hcall]
      exact e2'
    dsimp only [df_law_row_right]
    rw [evS, evB, evB]
    have q : evE wF (callT wF txt.P (n + 2)) (.call ix_law_is_row (.cons (.var 0) .nil)) [.val (.tuple (nums row))] S = .ok (.bool false) S := by
      simp [evE, evA, R.bind, lift, getV]; exact e1
    rw [q]
    simp only [R.bind, asB, Bool.not_false, if_true]
    rw [evS, evE, hw]
    simp only [R.bind, ev_lit, cmpD, eq_rr, lift]
  | true =>
    rw [hr] at e1
    obtain ⟨t, htr, hlen, ht⟩ := (row_tree row).1 hr
    rw [ht] at e2 e2'
    have hw : evE wF (callT wF txt.P (n + 2)) (.word (.call ix_tree_by (.cons (.var 0) .nil))) [.val (.tuple (nums row))] S = .ok (.str (Str.ofString "")) S := by
      refine ev_word_ok (d := t.toD) ?_
      rw [shift2, hcall]
      exact e2'
    have hf : t.forks ≤ 24 := by rw [← Tr.reach_len, htr]; exact hlen
    have hh := t.high_le
    have e3 := law_reached_ok t (n + 2) S (by omega) (by omega)
    rw [htr] at e3
    have e4 : eqD (.tuple (nums row)) (.tuple (nums row)) = some true := by rw [eq_nums, decide_eq_true rfl]
    have q : evE wF (callT wF txt.P (n + 2)) (.call ix_law_is_row (.cons (.var 0) .nil)) [.val (.tuple (nums row))] S = .ok (.bool true) S := by
      simp [evE, evA, R.bind, lift, getV]; exact e1
    have q2 : evE wF (callT wF txt.P (n + 2)) (.call ix_law_reached (.cons (.call ix_tree_by (.cons (.var 0) .nil)) .nil)) [.val (.tuple (nums row))] S = .ok (.tuple (nums row)) S := by
      rw [evE, evA, hcall]
      simp only [call0, e2, R.bind, evA, e3]
    dsimp only [df_law_row_right]
    rw [evS, evB, evB, q]
    simp only [R.bind, asB, Bool.not_true, if_false, Bool.false_eq_true, evS]
    rw [evE, evE, hw]
    simp only [R.bind, ev_lit, cmpD, eq_ee, lift, asB, if_true]
    rw [evE, q2]
    simp only [R.bind, evE, getV, List.getElem?_cons_zero, lift, cmpD, e4]
end Mi

set_option Elab.async false
set_option linter.all false
set_option maxRecDepth 100000
set_option maxHeartbeats 1000000
namespace Mi
open PySem
abbrev cN (n : Nat) : Nat → CallF := callT wF txt.P n
def env37 (v0 : D) (x2 x4 x5 x6 x7 x8 : Sl) : Env := [.val v0, .val (loc 0), x2, .no, x4, x5, x6, x7, x8, .no, .no, .no, .no]
theorem tree_by_t (t : Tr) (h : t.forks ≤ 24) (n : Nat) (hn : 33 < n) (S : Store) : cT n ix_tree_by [.tuple (nums t.reach)] S = .ok t.toD S := by
  have e := tree_by_ok t.reach (by rw [Tr.reach_len]; omega) n hn S
  have ht : treeOf t.reach = some t := treeOf_some.mpr ⟨by rw [Tr.reach_len]; exact h, rfl⟩
  rw [ht] at e
  exact e
theorem pre_ok (K : Mi.S) (n : Nat) (hn : 40 < n) (S : Store) (hS : Drum S) (k : Nat) (hk : k ≤ 24) (v0 : D) (x4 x5 x6 x7 x8 : Sl) : ∃ t S1, t.forks = k ∧ Drum S1 ∧
    evS wF (cN n) (.set 4 (.call ix_law_grown (.cons (.var 1) (.cons (.var 2) .nil))) (.set 5 (.call ix_law_reached (.cons (.var 4) .nil)) (.ifs (.or (.cmp .ne (.call ix_reaches (.cons (.var 4) .nil)) (.var 5)) (.or (.not (.val (.call ix_law_row_right (.cons (.var 5) .nil)))) (.cmp .ne (.call ix_tree_by (.cons (.var 5) .nil)) (.var 4)))) (.ret (.lit (.bool false))) .done (.ifs (.cmp .ne (.call ix_tree_flipped (.cons (.var 4) .nil)) (.call ix_law_flip (.cons (.var 4) .nil))) (.ret (.lit (.bool false))) .done (.ifs (.cmp .ne (.call ix_tree_flipped (.cons (.call ix_tree_flipped (.cons (.var 4) .nil)) .nil)) (.var 4)) (.ret (.lit (.bool false))) .done K)))))
      (env37 v0 (.val (.int k)) x4 x5 x6 x7 x8) S = evS wF (cN n) K (env37 v0 (.val (.int k)) (.val (Tr.toD t)) (.val (.tuple (nums t.reach))) x6 x7 x8) S1 := by
  obtain ⟨t, S1, e1, hf, d1⟩ := grown_ok k (by omega) n S (by omega) hS
  refine ⟨t, S1, hf, d1, ?_⟩
  have hh := t.high_le
  have hfh := t.flip_high
  have hff := t.flip_forks
  have e2 := law_reached_ok t n S1 (by omega) (by omega)
  have e3 := reaches_ok t n S1 (by omega) (by omega)
  have e4 := row_right_ok t.reach (by rw [Tr.reach_len]; omega) n hn S1
  have e5 := tree_by_t t (by omega) n (by omega) S1
  have e6 := tree_flipped_ok t n S1 (by omega) (by omega)
  have e7 := law_flip_ok t n S1 (by omega)
  have e8 := tree_flipped_ok t.flip n S1 (by omega) (by omega)
  rw [Tr.flip_flip] at e8
  have q1 : eqD (.tuple (nums t.reach)) (.tuple (nums t.reach)) = some true := by rw [eq_nums, decide_eq_true rfl]
  have q2 : eqD t.toD t.toD = some true := by rw [Tr.eq_tr (.inl (by omega)), decide_eq_true rfl]
  have q3 : eqD t.flip.toD t.flip.toD = some true := by rw [Tr.eq_tr (.inl (by omega)), decide_eq_true rfl]
  simp [env37, evS, evB, evE, evA, R.bind, lift, getV, call0, e1, e2, e3, e4, e5, e6, e7, e8, q1, q2, q3, setNames, cmpD, asB]
theorem cut_nums (row : List Int) (lo hi : Option Int) : ∃ r, cutL (nums row) lo hi = nums r ∧ r.length ≤ row.length := by
  refine ⟨(row.drop (HT.sIx (nums row).length 0 lo)).take (HT.sIx (nums row).length (nums row).length hi - HT.sIx (nums row).length 0 lo), ?_, ?_⟩
  · unfold cutL nums
    rw [List.map_take, List.map_drop]
  · rw [List.length_take, List.length_drop]; omega
/-- a list of rows -/
def rowsD (bs : List (List Int)) : List D := bs.map fun r => .tuple (nums r)
theorem rowsD_len (bs : List (List Int)) : (rowsD bs).length = bs.length := List.length_map _
theorem add1000 {a b : List Int} (ha : a.length ≤ 400) (hb : b.length ≤ 400) : binD .add (.tuple (nums a)) (.tuple (nums b)) = some (.tuple (nums (a ++ b))) := add_nums (by omega)
theorem ev_bin {cf : Nat → CallF} {a b : E} {o : Bop} {env : Env} {S S1 S2 : Store} {x y z : D} (ha : evE wF cf a env S = .ok x S1) (hb : evE wF cf b env S1 = .ok y S2) (h : binD o x y = some z) : evE wF cf (.bin o a b) env S = .ok z S2 := by
  rw [evE, ha]; simp only [R.bind, hb, h, lift]
theorem ev_slice (cf : Nat → CallF) (row : List Int) (i : Nat) (env : Env) (S : Store) (lo hi : O) (l h : Option Int) (hv : getV env i = some (.tuple (nums row))) (hl : evO wF cf lo env S = .ok l S) (hh : evO wF cf hi env S = .ok h S) : ∃ r, evE wF cf (.slice (.var i) lo hi) env S = .ok (.tuple (nums r)) S ∧ r.length ≤ row.length := by
  obtain ⟨r, hr, hlen⟩ := cut_nums row l h
  refine ⟨r, ?_, hlen⟩
  rw [evE, evE, hv]
  simp only [lift, R.bind, hl, hh, sliceD, hr]
theorem rev_nums (row : List Int) : (nums row).reverse = nums row.reverse := by unfold nums; rw [List.map_reverse]
theorem bents_ok (K : Mi.S) (n : Nat) (hn : 40 < n) (S : Store) (hS : Drum S) (k : Nat) (hk : k ≤ 24) (v0 x4 : D) (row : List Int) (hrow : row.length = k) (x6 x7 x8 : Sl) : ∃ (at_ : Nat) (bs : List (List Int)) (S1 : Store), at_ ≤ k ∧ bs.length = 4 ∧ (∀ r ∈ bs, r.length ≤ 100) ∧ Drum S1 ∧
    evS wF (cN n) (.set 6 (.call ix_law_roll (.cons (.var 1) (.cons (.bin .add (.var 2) (.lit (.int 1))) .nil))) (.own 7 (.lst (.cons (.bin .add (.slice (.var 5) .no (.yes (.var 6))) (.slice (.var 5) (.yes (.bin .add (.var 6) (.lit (.int 1)))) .no)) (.cons (.rev (.var 5)) (.cons (.bin .add (.var 5) (.tup (.cons (.lit (.int 0)) .nil))) (.cons (.bin .add (.tup (.cons (.var 2) .nil)) (.var 5)) .nil))))) K))
      (env37 v0 (.val (.int k)) (.val x4) (.val (.tuple (nums row))) x6 x7 x8) S = evS wF (cN n) K (env37 v0 (.val (.int k)) (.val x4) (.val (.tuple (nums row))) (.val (.int at_)) (.own (rowsD bs)) x8) S1 := by
  obtain ⟨r, S1, e1, r0, r1, d1⟩ := roll_ok hS (m := (k : Int) + 1) (by omega) (by omega) n (by omega)
  obtain ⟨at_, rfl⟩ := Int.eq_ofNat_of_zero_le r0
  let env : Env := env37 v0 (.val (.int k)) (.val x4) (.val (.tuple (nums row))) (.val (.int at_)) x7 x8
  obtain ⟨a1, h1, l1⟩ := ev_slice (cN n) row 5 env S1 .no (.yes (.var 6)) none (some at_) rfl rfl rfl
  obtain ⟨a2, h2, l2⟩ := ev_slice (cN n) row 5 env S1 (.yes (.bin .add (.var 6) (.lit (.int 1)))) .no (some (at_ + 1)) none rfl rfl rfl
  have b1 := ev_bin h1 h2 (add1000 (a := a1) (b := a2) (by omega) (by omega))
  have b2 : evE wF (cN n) (.rev (.var 5)) env S1 = .ok (.tuple (nums row.reverse)) S1 := by
    rw [evE]; simp only [env, env37, evE, getV, lift, R.bind, List.getElem?_cons_succ, List.getElem?_cons_zero, revD, rev_nums]
  have b3 : evE wF (cN n) (.bin .add (.var 5) (.tup (.cons (.lit (.int 0)) .nil))) env S1 = .ok (.tuple (nums (row ++ [0]))) S1 := ev_bin (x := .tuple (nums row)) (y := .tuple (nums [0])) rfl rfl (add1000 (by omega) (by simp))
  have b4 : evE wF (cN n) (.bin .add (.tup (.cons (.var 2) .nil)) (.var 5)) env S1 = .ok (.tuple (nums ([(k : Int)] ++ row))) S1 := ev_bin (x := .tuple (nums [(k : Int)])) (y := .tuple (nums row)) rfl rfl (add1000 (by simp) (by omega))
  refine ⟨at_, [a1 ++ a2, row.reverse, row ++ [0], [(k : Int)] ++ row], S1, by omega, rfl, ?_, d1, ?_⟩
  · intro r hr
    simp only [List.mem_cons, List.not_mem_nil, or_false] at hr
    rcases hr with rfl | rfl | rfl | rfl <;> simp <;> omega
  · have e0 : evE wF (cN n) (.call ix_law_roll (.cons (.var 1) (.cons (.bin .add (.var 2) (.lit (.int 1))) .nil))) (env37 v0 (.val (.int k)) (.val x4) (.val (.tuple (nums row))) x6 x7 x8) S = .ok (.int at_) S1 := by
      simp [env37, evE, evA, R.bind, lift, getV, addD, call0, e1]
    rw [evS, e0]
    simp only [R.bind]
    have es : setNames [6] [PyData.int at_] (env37 v0 (.val (.int k)) (.val x4) (.val (.tuple (nums row))) x6 x7 x8) = some env := rfl
    rw [es]
    simp only [lift, R.bind]
    rw [evS, evE, evA, b1]
    simp only [R.bind]
    rw [evA, b2]
    simp only [R.bind]
    rw [evA, b3]
    simp only [R.bind]
    rw [evA, b4]
    simp only [R.bind, evA]
    rfl
end Mi

set_option Elab.async false
set_option linter.all false
set_option maxRecDepth 100000
set_option maxHeartbeats 1000000
namespace Mi
open PySem
def nearB : Mi.S := .frz 7 (.own 7 (.bin .add (.var 7) (.ite (.cmp .lt (.var 6) (.var 2)) (.lst (.cons (.bin .add (.bin .add (.slice (.var 5) .no (.yes (.var 6))) (.tup (.cons (.bin .add (.idxv 5 (.var 6)) (.var 8)) .nil))) (.slice (.var 5) (.yes (.bin .add (.var 6) (.lit (.int 1)))) .no)) .nil)) (.lst .nil))) .done)
theorem near_ok (n : Nat) (S : Store) (k : Nat) (hk : k ≤ 24) (v0 x4 : D) (row : List Int) (hrow : row.length = k) (at_ : Nat) (bs : List (List Int)) (hb : bs.length ≤ 50) (hl : ∀ r ∈ bs, r.length ≤ 100) (d : Int) (x8 : Sl) : ∃ bs' : List (List Int), bs'.length ≤ bs.length + 1 ∧ (∀ r ∈ bs', r.length ≤ 100) ∧
    turnF wF (cN n) (.name 8) nearB (.int d) (env37 v0 (.val (.int k)) (.val x4) (.val (.tuple (nums row))) (.val (.int at_)) (.own (rowsD bs)) x8) S = .ok (.nx (env37 v0 (.val (.int k)) (.val x4) (.val (.tuple (nums row))) (.val (.int at_)) (.own (rowsD bs')) (.val (.int d)))) S := by
  let env : Env := env37 v0 (.val (.int k)) (.val x4) (.val (.tuple (nums row))) (.val (.int at_)) (.val (.list (rowsD bs))) (.val (.int d))
  obtain ⟨a1, h1, l1⟩ := ev_slice (cN n) row 5 env S .no (.yes (.var 6)) none (some at_) rfl rfl rfl
  obtain ⟨a2, h2, l2⟩ := ev_slice (cN n) row 5 env S (.yes (.bin .add (.var 6) (.lit (.int 1)))) .no (some (at_ + 1)) none rfl rfl rfl
  have step : turnF wF (cN n) (.name 8) nearB (.int d) (env37 v0 (.val (.int k)) (.val x4) (.val (.tuple (nums row))) (.val (.int at_)) (.own (rowsD bs)) x8) S = (evS wF (cN n) (.own 7 (.bin .add (.var 7) (.ite (.cmp .lt (.var 6) (.var 2)) (.lst (.cons (.bin .add (.bin .add (.slice (.var 5) .no (.yes (.var 6))) (.tup (.cons (.bin .add (.idxv 5 (.var 6)) (.var 8)) .nil))) (.slice (.var 5) (.yes (.bin .add (.var 6) (.lit (.int 1)))) .no)) .nil)) (.lst .nil))) .done) env S).calm := rfl
  rw [step]
  by_cases hlt : at_ < k
  · have e0 := atI_nums (ns := row) (i := at_) (by omega)
    have b0 : evE wF (cN n) (.tup (.cons (.bin .add (.idxv 5 (.var 6)) (.var 8)) .nil)) env S = .ok (.tuple (nums [rg row at_ + d])) S := by
      show evE wF (cN n) (.tup (.cons (.bin .add (.idxv 5 (.var 6)) (.var 8)) .nil)) env S = .ok (.tuple [.int (rg row at_ + d)]) S
      simp [env, env37, evE, evA, R.bind, lift, getV, getO, idxD, e0, addD, BIG]
    have b1 := ev_bin h1 b0 (add1000 (a := a1) (b := [rg row at_ + d]) (by omega) (by simp))
    have b2 := ev_bin b1 h2 (add1000 (a := a1 ++ [rg row at_ + d]) (b := a2) (by simp; omega) (by omega))
    have b3 : evE wF (cN n) (.ite (.cmp .lt (.var 6) (.var 2)) (.lst (.cons (.bin .add (.bin .add (.slice (.var 5) .no (.yes (.var 6))) (.tup (.cons (.bin .add (.idxv 5 (.var 6)) (.var 8)) .nil))) (.slice (.var 5) (.yes (.bin .add (.var 6) (.lit (.int 1)))) .no)) .nil)) (.lst .nil)) env S = .ok (.list (rowsD [a1 ++ [rg row at_ + d] ++ a2])) S := by
      rw [evE]
      have hcond : evB wF (cN n) (.cmp .lt (.var 6) (.var 2)) env S = .ok true S := by
        have : (at_ : Int) < k := by omega
        simp [env, env37, evB, evE, R.bind, lift, getV, cmpD, ltD_int, this]
      rw [hcond]
      simp only [R.bind, if_true]
      rw [evE, evA, b2]
      rfl
    refine ⟨bs ++ [a1 ++ [rg row at_ + d] ++ a2], by simp, ?_, ?_⟩
    · intro r hr
      rcases List.mem_append.mp hr with z | z
      · exact hl r z
      · rw [List.mem_singleton] at z
        subst z
        simp; omega
    · have b4 : evE wF (cN n) (.var 7) env S = .ok (.list (rowsD bs)) S := rfl
      have b5 := ev_bin b4 b3 (z := .list (rowsD bs ++ rowsD [a1 ++ [rg row at_ + d] ++ a2])) (o := .add) (by
        show (if _ then _ else _) = _
        rw [if_pos]; simp [rowsD_len, BIG]; omega)
      rw [evS, b5]
      simp only [R.bind]
      have e9 : rowsD (bs ++ [a1 ++ [rg row at_ + d] ++ a2]) = rowsD bs ++ rowsD [a1 ++ [rg row at_ + d] ++ a2] := List.map_append
      rw [e9]
      rfl
  · have b3 : evE wF (cN n) (.ite (.cmp .lt (.var 6) (.var 2)) (.lst (.cons (.bin .add (.bin .add (.slice (.var 5) .no (.yes (.var 6))) (.tup (.cons (.bin .add (.idxv 5 (.var 6)) (.var 8)) .nil))) (.slice (.var 5) (.yes (.bin .add (.var 6) (.lit (.int 1)))) .no)) .nil)) (.lst .nil)) env S = .ok (.list []) S := by
      rw [evE]
      have hcond : evB wF (cN n) (.cmp .lt (.var 6) (.var 2)) env S = .ok false S := by
        have : ¬ (at_ : Int) < k := by omega
        simp [env, env37, evB, evE, R.bind, lift, getV, cmpD, ltD_int]
        omega
      rw [hcond]
      rfl
    refine ⟨bs, by omega, hl, ?_⟩
    have b4 : evE wF (cN n) (.var 7) env S = .ok (.list (rowsD bs)) S := rfl
    have b5 := ev_bin b4 b3 (z := .list (rowsD bs)) (o := .add) (by
      show (if _ then _ else _) = _
      rw [if_pos (by simp [rowsD_len, BIG]; omega), List.append_nil])
    rw [evS, b5]
    rfl
theorem nears_ok (K : Mi.S) (n : Nat) (hn : 40 < n) (S : Store) (hS : Drum S) (k : Nat) (hk : k ≤ 24) (v0 x4 : D) (row : List Int) (hrow : row.length = k) (at_ : Nat) (bs : List (List Int)) (hb : bs.length ≤ 40) (hl : ∀ r ∈ bs, r.length ≤ 100) (x8 : Sl) : ∃ (bs' : List (List Int)) (x8' : Sl) (S1 : Store), bs'.length ≤ 50 ∧ (∀ r ∈ bs', r.length ≤ 100) ∧ Drum S1 ∧
    evS wF (cN n) (.for_ (.name 8) (.val (.tup (.cons (.lit (.int 1)) (.cons (.neg (.lit (.int 1))) (.cons (.call ix_law_roll (.cons (.var 1) (.cons (.lit (.int 4)) .nil))) .nil))))) nearB K) (env37 v0 (.val (.int k)) (.val x4) (.val (.tuple (nums row))) (.val (.int at_)) (.own (rowsD bs)) x8) S
      = evS wF (cN n) K (env37 v0 (.val (.int k)) (.val x4) (.val (.tuple (nums row))) (.val (.int at_)) (.own (rowsD bs')) x8') S1 := by
  obtain ⟨r, S1, e1, r0, r1, d1⟩ := roll_ok hS (m := 4) (by omega) (by omega) n (by omega)
  obtain ⟨b1, l1, m1, q1⟩ := near_ok n S1 k hk v0 x4 row hrow at_ bs (by omega) hl 1 x8
  obtain ⟨b2, l2, m2, q2⟩ := near_ok n S1 k hk v0 x4 row hrow at_ b1 (by omega) m1 (-1) (.val (.int 1))
  obtain ⟨b3, l3, m3, q3⟩ := near_ok n S1 k hk v0 x4 row hrow at_ b2 (by omega) m2 r (.val (.int (-1)))
  refine ⟨b3, .val (.int r), S1, by omega, m3, d1, ?_⟩
  have hi : evI wF (cN n) (.val (.tup (.cons (.lit (.int 1)) (.cons (.neg (.lit (.int 1))) (.cons (.call ix_law_roll (.cons (.var 1) (.cons (.lit (.int 4)) .nil))) .nil))))) (env37 v0 (.val (.int k)) (.val x4) (.val (.tuple (nums row))) (.val (.int at_)) (.own (rowsD bs)) x8) S = .ok [.int 1, .int (-1), .int r] S1 := by
    simp [env37, evI, evE, evA, R.bind, lift, getV, call0, e1, iterD, BIG]
  rw [ev_for hi]
  simp only [forL, q1, q2, q3, R.bind]
theorem ints_of {ys : List D} (h : ∀ y ∈ ys, ∃ i, y = .int i) : ∃ zs : List Int, ys = nums zs := by
  induction ys with
  | nil => exact ⟨[], rfl⟩
  | cons y ys ih =>
    obtain ⟨i, rfl⟩ := h y List.mem_cons_self
    obtain ⟨zs, rfl⟩ := ih fun z hz => h z (List.mem_cons_of_mem _ hz)
    exact ⟨i :: zs, rfl⟩
theorem tail_ok (K : Mi.S) (n : Nat) (hn : 42 < n) (S : Store) (hS : Drum S) (v0 : D) (x2 x4 x5 x6 x8 : Sl) (bs : List (List Int)) (hb : bs.length ≤ 50) (hl : ∀ r ∈ bs, r.length ≤ 100) : ∃ (x7 : Sl) (S1 : Store), Drum S1 ∧
    evS wF (cN n) (.app 7 (.bi .tuple (.cons (.comp [("_law_turn", 12)] (.name 12) (.rng1 (.call ix_law_roll (.cons (.var 1) (.cons (.lit (.int 6)) .nil)))) .no (.call ix_law_roll (.cons (.var 1) (.cons (.lit (.int 3)) .nil)))) .nil)) (.frz 7 (.ifs (.cmp .ne (.comp [("_law_value", 10)] (.name 10) (.val (.var 7)) (.yes (.not (.val (.call ix_law_row_right (.cons (.var 10) .nil))))) (.var 10)) (.lst .nil)) (.ret (.lit (.bool false))) .done K)))
      (env37 v0 x2 x4 x5 x6 (.own (rowsD bs)) x8) S = evS wF (cN n) K (env37 v0 x2 x4 x5 x6 x7 x8) S1 := by
  obtain ⟨m, S1, e1, m0, m1, d1⟩ := roll_ok hS (m := 6) (by omega) (by omega) n (by omega)
  let env : Env := env37 v0 x2 x4 x5 x6 (.own (rowsD bs)) x8
  have hi : evI wF (cN n) (.rng1 (.call ix_law_roll (.cons (.var 1) (.cons (.lit (.int 6)) .nil)))) env S = .ok (rngD 0 m) S1 := by
    simp only [env, env37, evI, evE, evA, R.bind, lift, getV, List.getElem?_cons_succ, List.getElem?_cons_zero, call0, e1]
    rw [if_pos (by unfold BIG; omega)]
  have hlen : (rngD 0 m).length ≤ 6 := by unfold rngD; simp; omega
  obtain ⟨ys, S2, e2, py, ly, d2⟩ := compL_inv (f := itemF wF (cN n) (.name 12) .no (.call ix_law_roll (.cons (.var 1) (.cons (.lit (.int 3)) .nil))) env) (p := fun y => ∃ i, y = .int i) (I := Drum) (rngD 0 m) [] S1 (fun x hx S hS => by
    obtain ⟨q, S3, e3, q0, q1, d3⟩ := roll_ok hS (m := 3) (by omega) (by omega) n (by omega)
    exact ⟨.int q, S3, by simp [env, env37, itemF, setG, setNames, evO2, evE, evA, R.bind, R.calm, lift, getV, call0, e3], ⟨q, rfl⟩, d3⟩) (by simp [BIG]; omega) d1
  obtain ⟨zs, rfl⟩ := ints_of py
  rw [List.nil_append] at e2
  have hcomp : evE wF (cN n) (.comp [("_law_turn", 12)] (.name 12) (.rng1 (.call ix_law_roll (.cons (.var 1) (.cons (.lit (.int 6)) .nil)))) .no (.call ix_law_roll (.cons (.var 1) (.cons (.lit (.int 3)) .nil)))) env S = .ok (.list (nums zs)) S2 := by
    rw [ev_comp (env0 := env) hi rfl]
    exact e2
  have hz : zs.length ≤ 6 := by rw [← nums_len, ly]; exact hlen
  let env2 : Env := env37 v0 x2 x4 x5 x6 (.val (.list (rowsD (bs ++ [zs])))) x8
  refine ⟨.val (.list (rowsD (bs ++ [zs]))), S2, d2, ?_⟩
  have happ : appD env 7 (.tuple (nums zs)) = some (env37 v0 x2 x4 x5 x6 (.own (rowsD (bs ++ [zs]))) x8) := by
    have e9 : rowsD (bs ++ [zs]) = rowsD bs ++ [.tuple (nums zs)] := List.map_append
    rw [e9]
    show (if (rowsD bs).length < BIG then _ else _) = _
    rw [if_pos (by rw [rowsD_len]; unfold BIG; omega)]
    rfl
  have hown : ownAt env 7 = some (rowsD bs) := rfl
  have hfil : evE wF (cN n) (.comp [("_law_value", 10)] (.name 10) (.val (.var 7)) (.yes (.not (.val (.call ix_law_row_right (.cons (.var 10) .nil))))) (.var 10)) env2 S2 = .ok (.list []) S2 := by
    have q := ev_comp_pure (wf := wF) (cf := cN n) (own := [("_law_value", 10)]) (tg := .name 10) (it := .val (.var 7)) (c := .yes (.not (.val (.call ix_law_row_right (.cons (.var 10) .nil))))) (e := .var 10) (env := env2) (env0 := env2) (S := S2) (S1 := S2) (xs := rowsD (bs ++ [zs])) rfl rfl (fun _ => none) (fun x hx => by
      obtain ⟨r, hr, rfl⟩ := List.mem_map.mp hx
      have hrl : r.length ≤ 1000 := by
        rcases List.mem_append.mp hr with z | z
        · have := hl r z; omega
        · rw [List.mem_singleton] at z; subst z; omega
      have e := row_right_ok r hrl n (by omega) S2
      simp [env2, env37, itemF, setG, setNames, evO2, evB, evE, evA, R.bind, R.calm, lift, getV, call0, e, asB]) (by rw [rowsD_len]; simp [BIG]; omega)
    rw [q]
    simp
  rw [evS, hown]
  simp only [lift, R.bind]
  rw [evE, evA, hcomp]
  simp only [R.bind, evA, biD, lift]
  rw [happ]
  simp only
  rw [evS]
  have hfr : frzD (env37 v0 x2 x4 x5 x6 (.own (rowsD (bs ++ [zs]))) x8) 7 = some env2 := rfl
  rw [hfr]
  simp only [lift, R.bind]
  rw [evS, evB, hfil]
  rfl
end Mi

set_option Elab.async false
set_option linter.all false
set_option maxRecDepth 100000
set_option maxHeartbeats 4000000
namespace Mi
open PySem
def I37 (v0 : D) (env : Env) (S : Store) : Prop := (∃ x2 x4 x5 x6 x7 x8, env = env37 v0 x2 x4 x5 x6 x7 x8) ∧ Drum S
def bodyB : Mi.S := match df_law.body with | .set _ _ (.for_ _ _ b _) => b | _ => .done
def restB : Mi.S := match df_law.body with | .set _ _ (.for_ _ _ _ k) => k | _ => .done
theorem body_ok (n : Nat) (hn : 42 < n) (v0 : D) (k : Nat) (hk : k ≤ 24) (env : Env) (S : Store) (h : I37 v0 env S) : ∃ env' S', turnF wF (cN n) (.name 2) bodyB (.int k) env S = .ok (.nx env') S' ∧ I37 v0 env' S' := by
  obtain ⟨⟨x2, x4, x5, x6, x7, x8, rfl⟩, hS⟩ := h
  obtain ⟨t, S1, hf, d1, e1⟩ := pre_ok _ n (by omega) S hS k hk v0 x4 x5 x6 x7 x8
  obtain ⟨at_, bs, S2, ha, hb, hl, d2, e2⟩ := bents_ok _ n (by omega) S1 d1 k hk v0 t.toD t.reach (by rw [Tr.reach_len]; exact hf) x6 x7 x8
  obtain ⟨bs', x8', S3, hb', hl', d3, e3⟩ := nears_ok _ n (by omega) S2 d2 k hk v0 t.toD t.reach (by rw [Tr.reach_len]; exact hf) at_ bs (by omega) hl x8
  obtain ⟨x7', S4, d4, e4⟩ := tail_ok .done n (by omega) S3 d3 v0 (.val (.int k)) (.val t.toD) (.val (.tuple (nums t.reach))) (.val (.int at_)) x8' bs' hb' hl'
  refine ⟨env37 v0 (.val (.int k)) (.val t.toD) (.val (.tuple (nums t.reach))) (.val (.int at_)) x7' x8', S4, ?_, ⟨_, _, _, _, _, _, rfl⟩, d4⟩
  have step : turnF wF (cN n) (.name 2) bodyB (.int k) (env37 v0 x2 x4 x5 x6 x7 x8) S = (evS wF (cN n) bodyB (env37 v0 (.val (.int k)) x4 x5 x6 x7 x8) S).calm := rfl
  rw [step]
  have e0 : evS wF (cN n) bodyB (env37 v0 (.val (.int k)) x4 x5 x6 x7 x8) S = .ok (.nx (env37 v0 (.val (.int k)) (.val t.toD) (.val (.tuple (nums t.reach))) (.val (.int at_)) x7' x8')) S4 :=
    Eq.trans e1 (Eq.trans e2 (Eq.trans e3 (Eq.trans e4 rfl)))
  rw [e0]
  rfl
def oddD : List D := [.none, .list [], .str "", .int 0, .tuple [.bool true], .tuple [.none], .tuple [.str "0"], .tuple (List.replicate 25 (.int 0)), .tuple [.tuple []]]
def env37b (v0 : D) (x2 x4 x5 x6 x7 x8 : Sl) : Env := [.val v0, .val (loc 0), x2, .no, x4, x5, x6, x7, x8, .val (.list oddD), .no, .no, .no]
def oddB : Mi.S := match restB with | .ifs _ a _ _ => a | _ => .done
def lastB : Mi.S := match restB with | .ifs _ _ _ k => k | _ => .done
theorem odd_ok (v0 : D) (x2 x4 x5 x6 x7 x8 : Sl) (S : Store) : evS wF (cN 59) oddB (env37 v0 x2 x4 x5 x6 x7 x8) S = .ok (.nx (env37b v0 x2 x4 x5 x6 x7 x8)) S := by kernel_rfl
theorem last_ok (v0 : D) (x2 x4 x5 x6 x7 x8 x9 : Sl) (S : Store) : evS wF (cN 59) lastB [.val v0, .val (loc 0), x2, .no, x4, x5, x6, x7, x8, x9, .no, .no, .no] S = .ok (.ret (.bool true)) S := by kernel_rfl
theorem rest_ok (v0 : D) (env : Env) (S : Store) (h : I37 v0 env S) : ∃ S', evS wF (cN 59) restB env S = .ok (.ret (.bool true)) S' := by
  obtain ⟨⟨x2, x4, x5, x6, x7, x8, rfl⟩, hS⟩ := h
  obtain ⟨m, S1, e1, m0, m1, d1⟩ := roll_ok hS (m := 5) (by omega) (by omega) 59 (by omega)
  refine ⟨S1, ?_⟩
  have hb : restB = .ifs (.cmp .eq (.call ix_law_roll (.cons (.var 1) (.cons (.lit (.int 5)) .nil))) (.lit (.int 0))) oddB .done lastB := rfl
  have hc : evB wF (cN 59) (.cmp .eq (.call ix_law_roll (.cons (.var 1) (.cons (.lit (.int 5)) .nil))) (.lit (.int 0))) (env37 v0 x2 x4 x5 x6 x7 x8) S = .ok (decide (m = 0)) S1 := by
    simp [env37, evB, evE, evA, R.bind, lift, getV, call0, e1, cmpD, eqD_int]
  rw [hb, evS, hc]
  by_cases hm : m = 0
  · simp only [hm, decide_true, R.bind, if_true]
    rw [odd_ok]
    exact last_ok v0 x2 x4 x5 x6 x7 x8 _ S1
  · simp only [hm, decide_false, R.bind, Bool.false_eq_true, if_false, evS]
    exact last_ok v0 x2 x4 x5 x6 x7 x8 _ S1
theorem ev37 (ns : List Int) (hl : ns.length ≤ 63) : ∃ S', callT txt.wf txt.P 60 0 ix_law [.list (ns.map PyData.int)] [] = .ok (.bool true) S' := by
  obtain ⟨S0, e0, d0⟩ := drum_ok ns hl 59 (by omega)
  obtain ⟨r1, S1, e1, a1, b1, d1⟩ := roll_ok d0 (m := 8) (by omega) (by omega) 59 (by omega)
  obtain ⟨r2, S2, e2, a2, b2, d2⟩ := roll_ok d1 (m := 25) (by omega) (by omega) 59 (by omega)
  obtain ⟨k1, rfl⟩ := Int.eq_ofNat_of_zero_le a1
  obtain ⟨k2, rfl⟩ := Int.eq_ofNat_of_zero_le a2
  let v0 : D := .list (nums ns)
  let env : Env := env37 v0 .no .no .no .no .no .no
  obtain ⟨env1, S3, q1, i1⟩ := body_ok 59 (by omega) v0 k1 (by omega) env S2 ⟨⟨_, _, _, _, _, _, rfl⟩, d2⟩
  obtain ⟨env2, S4, q2, i2⟩ := body_ok 59 (by omega) v0 k2 (by omega) env1 S3 i1
  obtain ⟨S5, q3⟩ := rest_ok v0 env2 S4 i2
  refine ⟨S5, ?_⟩
  show runDf wF (cN 59) df_law [v0] [] = _
  rw [run_at (env := [.val v0, .no, .no, .no, .no, .no, .no, .no, .no, .no, .no, .no, .no]) rfl rfl]
  have hb : df_law.body = .set 1 (.call ix_law_drum (.cons (.var 0) (.cons (.lit (.int 0)) .nil))) (.for_ (.name 2) (.val (.tup (.cons (.call ix_law_roll (.cons (.var 1) (.cons (.lit (.int 8)) .nil))) (.cons (.call ix_law_roll (.cons (.var 1) (.cons (.lit (.int 25)) .nil))) .nil)))) bodyB restB) := rfl
  rw [hb, evS]
  have c0 : evE wF (cN 59) (.call ix_law_drum (.cons (.var 0) (.cons (.lit (.int 0)) .nil))) [.val v0, .no, .no, .no, .no, .no, .no, .no, .no, .no, .no, .no, .no] [] = .ok (loc 0) S0 := by
    simp only [evE, evA, getV, List.getElem?_cons_zero, lift, R.bind]
    exact e0
  rw [c0]
  simp only [R.bind]
  have hs : setNames [1] [loc 0] [.val v0, .no, .no, .no, .no, .no, .no, .no, .no, .no, .no, .no, .no] = some env := rfl
  rw [hs]
  simp only [lift, R.bind]
  have hi : evI wF (cN 59) (.val (.tup (.cons (.call ix_law_roll (.cons (.var 1) (.cons (.lit (.int 8)) .nil))) (.cons (.call ix_law_roll (.cons (.var 1) (.cons (.lit (.int 25)) .nil))) .nil)))) env S0 = .ok [.int k1, .int k2] S2 := by
    simp [env, env37, evI, evE, evA, R.bind, lift, getV, call0, e1, e2, iterD, BIG]
  rw [ev_for hi]
  simp only [forL, q1, q2, q3, R.bind]
end Mi

open PySem PySem.W PyProof.Rows
set_option maxRecDepth 100000 in
set_option maxHeartbeats 8000000 in
theorem PySem.Challenge.cw_eightworlds_k37_whole_reaches_of_trees_holds : PySem.Challenge.rw_eightworlds_k37_whole_reaches_of_trees.Holds := by
  w_on; o_law; k_head; (case hw => w_witness2)
  refine Mi.law_holds Mi.txt 60 Mi.ix_law Mi.df_law rfl rfl ⟨rfl, by decide, by decide⟩ rfl ?hb ?fe Mi.bd_all Mi.bd_word Mi.tx rfl rfl rfl rfl ?hr Mi.ev37
  case hb => intro P; kernel_rfl
  case fe => intro P; unfold Mi.Txt.FnEq; kernel_rfl
  case hr => intro P; kernel_rfl

