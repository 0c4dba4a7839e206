import PyProof.Rows.All
import Wide.All
import OpenK.AllK
import Wide.FinOn
import HandS.ForMost
import HandS.Exc
import HandS.TryOnly
import HandS.ExcOwn
import HandS.ExcInit
import HandS.WordsExc
import HandS.CallSlots
import HandS.Walk
import HandS.Zip
import HandS.TupAny
import HandS.TupMul
import HandS.SetFor
import HandS.IsInst
import HandS.Defaults
import HandS.Flow
import HandS.Style
import HandS.RevRange
import HandS.Property
import HandS.ClsMeth
import HandS.Wide
import HandS.DictComp
import HandS.Conv
import HandS.More
import KE.KDictCopyH
import PySem.Challenge.RW_bearsmisses_k86_passed_for_ever
set_option Elab.async false
set_option linter.all false
set_option maxRecDepth 100000
set_option autoImplicit false
section
set_option maxHeartbeats 8000000
/-! Fw1: data, stores, the small language and its meaning. -/
namespace Mq
open PySem L2

/-! ### data -/
inductive D where
  | non | bl (b : Bool) | int (i : Int) | str (x : Str) | lst (xs : List D) | tup (xs : List D)
  | ins (c : Nat) (fs : List D) | cell (n : Nat)
  /-- a list of which only reading is known (the script) -/
  | fl (xs : List D)
  /-- a tuple of the written part -/
  | ft (xs : List D)
inductive Cell where
  | dead | lst (xs : List D) | dk (kvs : List (Key × D)) | dt (kvs : List (List Key × D)) | ins (c : Nat) (fs : List D)
  /-- keys that are tuples of ints and truths -/
  | db (kvs : List (List Int × D))
abbrev Sto := List Cell
abbrev Sg := List (Option D)
inductive R (α : Type) where
  | ok (a : α) (S : Sto) | exc (e : D) (S : Sto) | no
def R.bind {α β : Type} (m : R α) (k : α → Sto → R β) : R β := match m with
  | .ok a S => k a S
  | .exc e S => .exc e S
  | .no => .no
theorem bind_ok {α β : Type} {a : α} {S : Sto} {k : α → Sto → R β} : (R.ok a S).bind k = k a S := rfl
theorem bind_exc {α β : Type} {e : D} {S : Sto} {k : α → Sto → R β} : (R.exc e S : R α).bind k = .exc e S := rfl
theorem bind_no {α β : Type} {k : α → Sto → R β} : (R.no : R α).bind k = .no := rfl
def R.opt {α : Type} (S : Sto) : Option α → R α
  | some a => .ok a S
  | none => .no
inductive RS where
  | nx (σ : Sg) (S : Sto) | rt (d : D) (S : Sto) | bk (σ : Sg) (S : Sto) | ct (σ : Sg) (S : Sto) | exc (e : D) (σ : Sg) (S : Sto) | no

def fuel : Nat := 100000

/-! ### views -/
def lstOf (d : D) (S : Sto) : Option (List D) := match d with
  | .lst xs => some xs
  | .cell n => match S[n]? with
    | some (.lst xs) => some xs
    | _ => none
  | _ => none
def seqOf (d : D) (S : Sto) : Option (List D) := match d with
  | .tup xs => some xs
  | .ft xs => some xs
  | _ => lstOf d S
def insOf (d : D) (S : Sto) : Option (Nat × List D) := match d with
  | .ins c fs => some (c, fs)
  | .cell n => match S[n]? with
    | some (.ins c fs) => some (c, fs)
    | _ => none
  | _ => none
def alloc (c : Bool) (xs : List D) (S : Sto) : R D := if c then .ok (.cell S.length) (S ++ [.lst xs]) else .ok (.lst xs) S

/-! ### freezing -/
def frzL (f : D → Sto → Option (D × Sto)) : List D → Sto → Option (List D × Sto)
  | [], S => some ([], S)
  | x :: xs, S => match f x S with
    | some (y, S1) => match frzL f xs S1 with
      | some (ys, S2) => some (y :: ys, S2)
      | none => none
    | none => none
def frz : Nat → D → Sto → Option (D × Sto)
  | 0, d, S => some (d, S)
  | k + 1, d, S => match d with
    | .cell n => match S[n]? with
      | some (.lst xs) => match frzL (frz k) xs (S.set n .dead) with
        | some (ys, S') => some (.lst ys, S')
        | none => none
      | some (.ins c xs) => match frzL (frz k) xs (S.set n .dead) with
        | some (ys, S') => some (.ins c ys, S')
        | none => none
      | _ => none
    | .lst xs => match frzL (frz k) xs S with
      | some (ys, S') => some (.lst ys, S')
      | none => none
    | .tup xs => match frzL (frz k) xs S with
      | some (ys, S') => some (.tup ys, S')
      | none => none
    | d => some (d, S)

/-! ### data as the library's data, for == -/
def pys (f : D → Option PyData) : List D → Option (List PyData)
  | [] => some []
  | x :: xs => match f x, pys f xs with
    | some y, some ys => some (y :: ys)
    | _, _ => none
def toPy : Nat → D → Sto → Option PyData
  | 0, _, _ => none
  | k + 1, d, S => match d with
    | .non => some .none
    | .bl b => some (.bool b)
    | .int i => some (.int i)
    | .str x => some (.str x)
    | .lst xs => (pys (fun x => toPy k x S) xs).map .list
    | .tup xs => (pys (fun x => toPy k x S) xs).map .tuple
    | .ft xs => (pys (fun x => toPy k x S) xs).map .tuple
    | .cell n => match S[n]? with
      | some (.lst xs) => (pys (fun x => toPy k x S) xs).map .list
      | _ => none
    | _ => none

/-! ### operators -/
def sLine : Nat := 16777216
def binD (o : Operator) (c : Bool) (x y : D) (S : Sto) : R D :=
  match x, y with
  | .int i, .int j => match o with
    | .Add => .ok (.int (i + j)) S
    | .Sub => .ok (.int (i - j)) S
    | .Mult => if (-(2 ^ 64) < i ∧ i < 2 ^ 64) ∨ (-(2 ^ 64) < j ∧ j < 2 ^ 64) then .ok (.int (i * j)) S else .no
    | .FloorDiv => if 0 < j ∧ j < 2 ^ 64 then .ok (.int (i / j)) S else .no
    | .Mod => if 0 < j then .ok (.int (i % j)) S else .no
    | .Pow => if 0 ≤ j ∧ j ≤ 1000000 ∧ i.natAbs < 2 ^ 64 then .ok (.int (i ^ j.toNat)) S else .no
    | _ => .no
  | .str a, .str b => match o with
    | .Add => if a.length + b.length ≤ sLine then .ok (.str (a ++ b)) S else .no
    | _ => .no
  | .tup a, .tup b => match o with
    | .Add => if a.length + b.length ≤ sLine then .ok (.tup (a ++ b)) S else .no
    | _ => .no
  | .tup a, .int k => match o with
    | .Mult => if 0 ≤ k ∧ k ≤ 1000 ∧ a.length ≤ 1000 then .ok (.tup (List.replicate k.toNat a).flatten) S else .no
    | _ => .no
  | _, .int k => match o, lstOf x S with
    | .Mult, some xs => if -(2 ^ 63) ≤ k ∧ k < 2 ^ 63 ∧ xs.length * k.toNat ≤ sLine then alloc c (List.replicate k.toNat xs).flatten S else .no
    | _, _ => .no
  | _, _ => match o, lstOf x S, lstOf y S with
    | .Add, some xs, some ys => if xs.length + ys.length ≤ sLine then alloc c (xs ++ ys) S else .no
    | _, _, _ => .no

/-- scalars that == and != tell apart by themselves -/
def eqSc : D → D → Option Bool
  | .non, .non => some true
  | .non, .int _ => some false
  | .int _, .non => some false
  | .non, .bl _ => some false
  | .bl _, .non => some false
  | .non, .str _ => some false
  | .str _, .non => some false
  | .int i, .int j => some (decide (i = j))
  | .bl a, .bl b => some (decide (a = b))
  | .str a, .str b => some (decide (a = b))
  | .int _, .str _ => some false
  | .str _, .int _ => some false
  | .bl _, .str _ => some false
  | .str _, .bl _ => some false
  | _, _ => none
def eqD (x y : D) (S : Sto) : Option Bool := match eqSc x y with
  | some b => some b
  | none => match toPy 8 x S, toPy 8 y S with
    | some a, some b => if SeqAt.shaped a = true ∧ SeqAt.shaped b = true then some (PyData.eqv a b) else none
    | _, _ => none
/-- flat things of which a list is asked for one -/
def flatD : D → Option V
  | .non => some .non
  | .bl b => some (.bl b)
  | .int i => some (.int i)
  | .str x => some (.str x)
  | _ => none
def flats : List D → Option (List V)
  | [] => some []
  | x :: xs => match flatD x, flats xs with
    | some y, some ys => some (y :: ys)
    | _, _ => none
/-- a dict's keys -/
def keyD : D → Option Key
  | .int i => some (.inl i)
  | .str x => some (.inr x)
  | _ => none
def keysD : List D → Option (List Key)
  | [] => some []
  | x :: xs => match keyD x, keysD xs with
    | some y, some ys => some (y :: ys)
    | _, _ => none
def keyB : D → Option Int
  | .int i => some i
  | .bl b => some (if b then 1 else 0)
  | _ => none
def keysB : List D → Option (List Int)
  | [] => some []
  | x :: xs => match keyB x, keysB xs with
    | some y, some ys => some (y :: ys)
    | _, _ => none
/-- a new dict, by what its keys are to be -/
def newDict : Nat → Cell
  | 0 => .dk []
  | 1 => .dt []
  | _ => .db []
section
variable {κ : Type} [DecidableEq κ]
def lookD (kvs : List (κ × D)) (k : κ) : Option D := (kvs.find? fun kv => decide (kv.1 = k)).map (·.2)
def putD (kvs : List (κ × D)) (k : κ) (v : D) : List (κ × D) :=
  if (kvs.any fun kv => decide (kv.1 = k)) = true then kvs.map (fun kv => if kv.1 = k then (kv.1, v) else kv) else kvs ++ [(k, v)]
end
def inD (x y : D) (S : Sto) : Option Bool := match y with
  | .cell n => match S[n]? with
    | some (.dk kvs) => match keyD x with
      | some k => some ((lookD kvs k).isSome)
      | none => none
    | some (.dt kvs) => match x with
      | .tup ks => match keysD ks with
        | some k => some ((lookD kvs k).isSome)
        | none => none
      | _ => none
    | some (.db kvs) => match x with
      | .tup ks => match keysB ks with
        | some k => some ((lookD kvs k).isSome)
        | none => none
      | _ => none
    | some (.lst ys) => match flatD x, flats ys with
      | some v, some vs => some (inV v vs)
      | _, _ => none
    | _ => none
  | _ => match flatD x, (seqOf y S).bind flats with
    | some v, some vs => some (inV v vs)
    | _, _ => none
def isNon : D → Bool
  | .non => true
  | _ => false
def cmpD (o : CmpOp) (x y : D) (S : Sto) : R D :=
  match o with
  | .Eq => R.opt S ((eqD x y S).map .bl)
  | .NotEq => R.opt S ((eqD x y S).map fun b => .bl (!b))
  | .Is => match y with
    | .non => .ok (.bl (isNon x)) S
    | _ => .no
  | .IsNot => match y with
    | .non => .ok (.bl (!isNon x)) S
    | _ => .no
  | .In => R.opt S ((inD x y S).map .bl)
  | .NotIn => R.opt S ((inD x y S).map fun b => .bl (!b))
  | o => match x, y with
    | .int i, .int j => match o with
      | .Lt => .ok (.bl (decide (i < j))) S
      | .LtE => .ok (.bl (decide (i ≤ j))) S
      | .Gt => .ok (.bl (decide (j < i))) S
      | .GtE => .ok (.bl (decide (j ≤ i))) S
      | _ => .no
    | _, _ => .no

def idxS (x y : D) (S : Sto) : R D := match x, y with
  | .str z, .int i => if z.length ≤ sLine then match atI z.cps.toList i with
    | some c => .ok (.str ⟨#[c]⟩) S
    | none => .no
    else .no
  | _, .int i => match (seqOf x S).bind fun xs => atI xs i with
    | some d => .ok d S
    | none => .no
  | _, _ => .no
/-- truth -/
def truD (d : D) (S : Sto) : Option Bool := match d with
  | .non => some false
  | .bl b => some b
  | .int i => some (i != 0)
  | .str x => if x.length ≤ sLine then some ((x.length : Int) != 0) else none
  | _ => (seqOf d S).map fun xs => !xs.isEmpty

def idxD (x y : D) (S : Sto) : R D := match x with
  | .cell n => match S[n]? with
    | some (.dk kvs) => R.opt S ((keyD y).bind fun k => lookD kvs k)
    | some (.dt kvs) => match y with
      | .tup ks => R.opt S ((keysD ks).bind fun k => lookD kvs k)
      | _ => .no
    | _ => idxS x y S
  | _ => idxS x y S
def cut {α : Type} (xs : List α) (lo hi : Option Int) : List α := (xs.drop (HT.sIx xs.length 0 lo)).take (HT.sIx xs.length xs.length hi - HT.sIx xs.length 0 lo)
def cutD (c : Bool) (x : D) (lo hi : Option Int) (S : Sto) : R D := match x with
  | .fl xs => alloc c (cut xs lo hi) S
  | x => match lstOf x S with
    | some xs => alloc c (cut xs lo hi) S
    | none => .no

/-! ### types -/
inductive Tn where
  | nonT | blT | intT | strT | lstT | tupT | dictT
  deriving DecidableEq
def tnS : Tn → String
  | .nonT => "NoneType" | .blT => "bool" | .intT => "int" | .strT => "str" | .lstT => "list" | .tupT => "tuple" | .dictT => "dict"
def tyD (d : D) (S : Sto) : Option Tn := match d with
  | .non => some .nonT
  | .bl _ => some .blT
  | .int _ => some .intT
  | .str _ => some .strT
  | .lst _ => some .lstT
  | .fl _ => some .lstT
  | .tup _ => some .tupT
  | .ft _ => some .tupT
  | .cell n => match S[n]? with
    | some (.lst _) => some .lstT
    | some (.dk _) => some .dictT
    | some (.dt _) => some .dictT
    | _ => none
  | .ins _ _ => none
def isT (a b : Tn) : Bool := decide (a = b) || (decide (a = .blT) && decide (b = .intT))
def revD (c : Bool) (x : D) (S : Sto) : R D := match x with
  | .fl xs => alloc c xs.reverse S
  | x => match lstOf x S with
    | some xs => alloc c xs.reverse S
    | none => .no
/-! ### built-ins -/
inductive Bi where
  | len | abs | min2 | max2 | int1 | list1 | tup1 | sum1 | minL | maxL | repr1 | allL | anyL
  deriving DecidableEq
def biName : Bi → Str
  | .len => "len" | .abs => "abs" | .min2 => "min" | .max2 => "max" | .int1 => "int" | .list1 => "list" | .tup1 => "tuple" | .sum1 => "sum" | .minL => "min" | .maxL => "max" | .repr1 => "repr" | .allL => "all" | .anyL => "any"
def intsD : List D → Option (List Int)
  | [] => some []
  | .int i :: xs => (intsD xs).map (i :: ·)
  | _ :: _ => none
def blsD : List D → Option (List Bool)
  | [] => some []
  | .bl i :: xs => (blsD xs).map (i :: ·)
  | _ :: _ => none
def minI : List Int → Option Int
  | [] => none
  | x :: xs => some (xs.foldl (fun a b => if b < a then b else a) x)
def maxI : List Int → Option Int
  | [] => none
  | x :: xs => some (xs.foldl (fun a b => if a < b then b else a) x)
def lenD (d : D) (S : Sto) : Option Nat := match d with
  | .str x => if x.length ≤ sLine then some x.length else none
  | _ => (seqOf d S).map List.length
def biD (b : Bi) (c : Bool) (as : List D) (S : Sto) : R D := match b, as with
  | .len, [x] => R.opt S ((lenD x S).map fun n => .int (n : Nat))
  | .abs, [.int i] => .ok (.int (if i < 0 then -i else i)) S
  | .min2, [.int i, .int j] => .ok (.int (if j < i then j else i)) S
  | .max2, [.int i, .int j] => .ok (.int (if j > i then j else i)) S
  | .int1, [.int i] => .ok (.int i) S
  | .int1, [.bl k] => .ok (.int (if k then 1 else 0)) S
  | .list1, [x] => match seqOf x S with
    | some xs => alloc c xs S
    | none => .no
  | .tup1, [.tup xs] => .ok (.tup xs) S
  | .tup1, [x] => match lstOf x S with
    | some xs => .ok (.tup xs) S
    | none => .no
  | .sum1, [.tup xs] => R.opt S ((intsD xs).map fun ns => .int ns.sum)
  | .sum1, [x] => match (lstOf x S).bind intsD with
    | some ns => .ok (.int ns.sum) S
    | none => .no
  | .minL, [x] => R.opt S (((lstOf x S).bind intsD).bind fun ns => (minI ns).map .int)
  | .maxL, [x] => R.opt S (((lstOf x S).bind intsD).bind fun ns => (maxI ns).map .int)
  | .allL, [x] => R.opt S (((lstOf x S).bind blsD).map fun bs => .bl (bs.all id))
  | .repr1, [x] => match toPy 8 x S with
    | some p => if PyData.showable p = true ∧ PyData.hasDict p = false ∧ p.depth ≤ 50 ∧ (PyData.shown p).length ≤ sLine then .ok (.str (PyData.shown p)) S else .no
    | none => .no
  | .anyL, [x] => R.opt S (((lstOf x S).bind blsD).map fun bs => .bl (bs.any id))
  | _, _ => .no

/-! ### methods of built-in types -/
inductive Bm where
  | append | popAt | pop | count | extend | reverse
  deriving DecidableEq
def bmName : Bm → Str
  | .append => "append" | .popAt => "pop" | .pop => "pop" | .count => "count" | .extend => "extend" | .reverse => "reverse"
def bmD (b : Bm) (o : D) (as : List D) (S : Sto) : R D := match b, as with
  | .count, [.int k] => match (lstOf o S).bind intsD with
    | some ns => .ok (.int (ns.count k : Nat)) S
    | none => .no
  | .count, [.bl k] => match (lstOf o S).bind blsD with
    | some ns => .ok (.int (ns.count k : Nat)) S
    | none => .no
  | _, _ => match o with
  | .cell n => match S[n]?, b, as with
    | some (.lst xs), .append, [y] => if xs.length < sLine then .ok .non (S.set n (.lst (xs ++ [y]))) else .no
    | some (.lst xs), .popAt, [.int i] => if -(2 ^ 63) ≤ i ∧ i < 2 ^ 63 then match seqIndex? i xs.length with
      | some k => match xs[k]? with
        | some y => .ok y (S.set n (.lst (xs.eraseIdx k)))
        | none => .no
      | none => .no
      else .no
    | some (.lst xs), .pop, [] => match xs[xs.length - 1]? with
      | some y => .ok y (S.set n (.lst xs.dropLast))
      | none => .no
    | some (.lst xs), .reverse, [] => .ok .non (S.set n (.lst xs.reverse))
    | some (.lst xs), .extend, [y] => match lstOf y S with
      | some ys => if xs.length + ys.length ≤ sLine then .ok .non (S.set n (.lst (xs ++ ys))) else .no
      | none => .no
    | _, _, _ => .no
  | _ => .no
/-- o[i] = v -/
def setD (o i v : D) (S : Sto) : Option Sto := match o, i with
  | .cell n, i => match S[n]? with
    | some (.lst xs) => match i with
      | .int k => match ixN xs.length k with
        | some j => some (S.set n (.lst (xs.set j v)))
        | none => none
      | _ => none
    | some (.dk kvs) => match keyD i with
      | some k => if kvs.length < sLine then some (S.set n (.dk (putD kvs k v))) else none
      | none => none
    | some (.dt kvs) => match i with
      | .tup ks => match keysD ks with
        | some k => if kvs.length < sLine then some (S.set n (.dt (putD kvs k v))) else none
        | none => none
      | _ => none
    | some (.db kvs) => match i with
      | .tup ks => match keysB ks with
        | some k => if kvs.length < sLine ∧ lookD kvs k = none then some (S.set n (.db (kvs ++ [(k, v)]))) else none
        | none => none
      | _ => none
    | _ => none
  | _, _ => none
end Mq
end

section
set_option maxHeartbeats 8000000
namespace Mq
open PySem L2

/-! ### the small language -/
inductive G where
  | name (i : Nat) | tup2 (a b : G) | tup3 (a b c : G)
mutual
inductive E where
  | var (i : Nat) | cst (d : D)
  | bin (o : Operator) (c : Bool) (a b : E)
  | cmp (o : CmpOp) (a b : E)
  | chain (o o' : CmpOp) (a b c : E)
  | andv (a b : E) | orv (a b : E) | notv (a : E)
  | ite (t : Te) (a b : E)
  | neg (a : E)
  | tup (as : Es) | lst (c : Bool) (as : Es)
  | idx (a i : E)
  | cut (c : Bool) (a : E) (lo hi : O)
  | fld (cl : Nat) (a : E) (k : Nat)
  | call (f : Nat) (as : Es)
  | mk (f cl : Nat) (as : Es)
  | om (f cl : Nat) (o : E) (as : Es)
  | prop (f cl : Nat) (o : E)
  | bi (b : Bi) (c : Bool) (as : Es)
  | bm (b : Bm) (o : E) (as : Es)
  | comp (c : Bool) (g : G) (own : List Nat) (it : It) (t : Te) (e : E)
  | frz (k : Nat) (a : E)
  | dict0 (t : Nat)
  | isi (t : Tn) (a : E)
  | rev (c : Bool) (a : E)
  | lrng (c : Bool) (a : E)
inductive O where
  | none | some (e : E)
inductive Te where
  | tr (a : E) | tb (a : E) | tcmp (o : CmpOp) (a b : E) | tchain (o o' : CmpOp) (a b c : E) | tand (a b : Te) | tor (a b : Te) | tnot (a : Te) | tyes
inductive Es where
  | nil | cons (a : E) (as : Es)
inductive It where
  | seq (a : E) | rng1 (a : E) | rng2 (a b : E) | rng3 (a b c : E) | enum (a : E) | zip (a b : E)
end
inductive Tg where
  | name (i : Nat) | sub (o i : E) | tup2 (a b : Tg) | tup3 (a b c : Tg)
mutual
inductive St where
  | asg (t : Tg) (e : E)
  | par2 (i j : Nat) (a b : E)
  | par3 (i j l : Nat) (a b c : E)
  | aug (i : Nat) (o : Operator) (e : E)
  | augS (o i : E) (op : Operator) (e : E)
  | setF (cl : Nat) (o : E) (k : Nat) (e : E)
  | expr (e : E) | ret (e : E) | retN
  | ite (t : Te) (a b : Ss)
  | forS (g : G) (it : It) (body : Ss)
  | while (t : Te) (body : Ss)
  | pass | brk | cont | never
inductive Ss where
  | nil | cons (a : St) (as : Ss)
end

/-! ### its meaning -/
def blR : D → Sto → R Bool := fun r S => match r with | .bl k => .ok k S | _ => .no
/-- where nothing may be raised -/
def R.nox {α : Type} (r : R α) : R α := match r with
  | .ok a S => .ok a S
  | _ => .no
abbrev FT := Nat → List D → Sto → R D
def wipeD (σ : Sg) : List Nat → Sg
  | [] => σ
  | v :: vs => (wipeD σ vs).set v none
def asg : G → D → Sg → Option Sg
  | .name i, d, σ => some (σ.set i (some d))
  | .tup2 a b, .tup [x, y], σ => (asg a x σ).bind fun σ => asg b y σ
  | .tup3 a b c, .tup [x, y, z], σ => (asg a x σ).bind fun σ => (asg b y σ).bind fun σ => asg c z σ
  | _, _, _ => none
/-- what is walked: its items; the cell that must stay -/
structure Itm where
  xs : List D
  g : Option (Nat × List D)
def Itm.ok (g : Option (Nat × List D)) (S : Sto) : Prop := match g with
  | none => True
  | some (n, xs) => S[n]? = some (.lst xs)
def itmOf (d : D) (S : Sto) (f : List D → List D) : R Itm := match d with
  | .lst xs => .ok ⟨f xs, none⟩ S
  | .fl xs => .ok ⟨f xs, none⟩ S
  | .cell n => match S[n]? with
    | some (.lst xs) => .ok ⟨f xs, some (n, xs)⟩ S
    | _ => .no
  | _ => .no
def enumD (k : Nat) : List D → List D
  | [] => []
  | x :: xs => .tup [.int (k : Nat), x] :: enumD (k + 1) xs
def rngD (lo : Int) : Nat → List D
  | 0 => []
  | n + 1 => .int lo :: rngD (lo + 1) n
def rngC (lo c : Int) : Nat → List D
  | 0 => []
  | n + 1 => .int lo :: rngC (lo + c) c n
def zipD : List D → List D → List D
  | x :: xs, y :: ys => .tup [x, y] :: zipD xs ys
  | _, _ => []
def rngBig (i : Int) : Prop := -(2 ^ 62) ≤ i ∧ i < 2 ^ 62
instance (i : Int) : Decidable (rngBig i) := by unfold rngBig; infer_instance
open Classical in
/-- a comprehension's turns -/
noncomputable def compL (body : D → Sto → R (Option D)) (g : Option (Nat × List D)) : List D → List D → Sto → R (List D)
  | [], acc, S => if Itm.ok g S then .ok acc S else .no
  | x :: xs, acc, S => if Itm.ok g S then match body x S with
      | .ok (some d) S' => if acc.length < sLine then compL body g xs (acc ++ [d]) S' else .no
      | .ok none S' => compL body g xs acc S'
      | _ => .no
    else .no
open Classical in
/-- a for's turns -/
noncomputable def forL (g : G) (body : Sg → Sto → RS) (gd : Option (Nat × List D)) : List D → Sg → Sto → RS
  | [], σ, S => if Itm.ok gd S then .nx σ S else .no
  | x :: xs, σ, S => if Itm.ok gd S then match asg g x σ with
      | some σ1 => match body σ1 S with
        | .nx σ2 S2 => forL g body gd xs σ2 S2
        | .ct σ2 S2 => forL g body gd xs σ2 S2
        | .bk σ2 S2 => .nx σ2 S2
        | .rt d S2 => .rt d S2
        | .exc e σ2 S2 => .exc e σ2 S2
        | .no => .no
      | none => .no
    else .no
/-- a comprehension's turn -/
def cBody (g : G) (own : List Nat) (ft : Sg → Sto → R Bool) (f : Sg → Sto → R D) (σ : Sg) : D → Sto → R (Option D) := fun x S => match asg g x (wipeD σ own) with
  | some σ1 => (ft σ1 S).bind fun k S => match k with
    | true => (f σ1 S).bind fun d S => .ok (some d) S
    | false => .ok none S
  | none => .no
def whileL (test : Sg → Sto → R Bool) (body : Sg → Sto → RS) : Nat → Sg → Sto → RS
  | 0, _, _ => .no
  | k + 1, σ, S => match test σ S with
    | .ok true S1 => match body σ S1 with
      | .nx σ2 S2 => whileL test body k σ2 S2
      | .ct σ2 S2 => whileL test body k σ2 S2
      | .bk σ2 S2 => .nx σ2 S2
      | .rt d S2 => .rt d S2
      | .exc e σ2 S2 => .exc e σ2 S2
      | .no => .no
    | .ok false S1 => .nx σ S1
    | .exc e S1 => .exc e σ S1
    | .no => .no
def fldD (cl : Nat) (d : D) (k : Nat) (S : Sto) : R D := match insOf d S with
  | some (c, fs) => if c = cl then R.opt S fs[k]? else .no
  | none => .no
mutual
noncomputable def semE (T : FT) : E → Sg → Sto → R D
  | .var i, σ, S => match σ[i]? with
    | some (some d) => .ok d S
    | _ => .no
  | .cst d, _, S => .ok d S
  | .bin o c a b, σ, S => (semE T a σ S).bind fun x S => (semE T b σ S).bind fun y S => binD o c x y S
  | .cmp o a b, σ, S => (semE T a σ S).bind fun x S => (semE T b σ S).bind fun y S => cmpD o x y S
  | .chain o o' a b c, σ, S => (semE T a σ S).bind fun x S => (semE T b σ S).bind fun y S => (cmpD o x y S).bind fun r S => match r with
    | .bl true => (semE T c σ S).bind fun z S => cmpD o' y z S
    | .bl false => .ok (.bl false) S
    | _ => .no
  | .andv a b, σ, S => (semE T a σ S).bind fun x S => match x with
    | .bl true => semE T b σ S
    | .bl false => .ok (.bl false) S
    | _ => .no
  | .orv a b, σ, S => (semE T a σ S).bind fun x S => match x with
    | .bl true => .ok (.bl true) S
    | .bl false => semE T b σ S
    | _ => .no
  | .notv a, σ, S => (semE T a σ S).bind fun x S => match x with
    | .bl k => .ok (.bl (!k)) S
    | _ => .no
  | .ite t a b, σ, S => (semT T t σ S).bind fun k S => match k with
    | true => semE T a σ S
    | false => semE T b σ S
  | .neg a, σ, S => (semE T a σ S).bind fun x S => match x with
    | .int i => .ok (.int (-i)) S
    | _ => .no
  | .tup as, σ, S => (semEs T as σ S).bind fun xs S => if xs.length ≤ sLine then .ok (.tup xs) S else .no
  | .lst c as, σ, S => (semEs T as σ S).bind fun xs S => if xs.length ≤ sLine then alloc c xs S else .no
  | .idx a i, σ, S => (semE T a σ S).bind fun x S => (semE T i σ S).bind fun y S => idxD x y S
  | .cut c a lo hi, σ, S => (semE T a σ S).bind fun x S => (semO T lo σ S).bind fun l S => (semO T hi σ S).bind fun h S => cutD c x l h S
  | .fld cl a k, σ, S => (semE T a σ S).bind fun x S => fldD cl x k S
  | .call f as, σ, S => (semEs T as σ S).bind fun xs S => T f xs S
  | .mk f cl as, σ, S => (semEs T as σ S).bind fun xs S => (T f (.cell S.length :: xs) (S ++ [.ins cl []])).bind fun r S' => match r with
    | .non => .ok (.cell S.length) S'
    | _ => .no
  | .om f cl o as, σ, S => (semE T o σ S).bind fun x S => match insOf x S with
    | some (c, _) => if c = cl then (semEs T as σ S).bind fun xs S => T f (x :: xs) S else .no
    | none => .no
  | .prop f cl o, σ, S => (semE T o σ S).bind fun x S => match insOf x S with
    | some (c, _) => if c = cl then (T f [x] S).nox else .no
    | none => .no
  | .bi b c as, σ, S => (semEs T as σ S).bind fun xs S => biD b c xs S
  | .bm b o as, σ, S => (semE T o σ S).bind fun x S => match lstOf x S with
    | some _ => (semEs T as σ S).bind fun xs S => bmD b x xs S
    | none => .no
  | .comp c g own it t e, σ, S => (semIt T it σ S).bind fun p S => (compL (cBody g own (fun σ S => semT T t σ S) (fun σ S => semE T e σ S) σ) p.g p.xs [] S).bind fun ds S => alloc c ds S
  | .frz k a, σ, S => (semE T a σ S).bind fun x S => match frz k x S with
    | some (d, S') => .ok d S'
    | none => .no
  | .dict0 t, _, S => .ok (.cell S.length) (S ++ [newDict t])
  | .isi t a, σ, S => (semE T a σ S).bind fun x S => R.opt S ((tyD x S).map fun k => .bl (isT k t))
  | .rev c a, σ, S => (semE T a σ S).bind fun x S => revD c x S
  | .lrng c a, σ, S => (semE T a σ S).bind fun x S => match x with
    | .int n => if -(2 ^ 62) ≤ n ∧ n ≤ 16777216 then alloc c (rngD 0 n.toNat) S else .no
    | _ => .no
noncomputable def semO (T : FT) : O → Sg → Sto → R (Option Int)
  | .none, _, S => .ok none S
  | .some e, σ, S => (semE T e σ S).bind fun x S => match x with
    | .int i => .ok (some i) S
    | _ => .no
noncomputable def semT (T : FT) : Te → Sg → Sto → R Bool
  | .tr a, σ, S => (semE T a σ S).bind fun x S => R.opt S (truD x S)
  | .tb a, σ, S => (semE T a σ S).bind blR
  | .tcmp o a b, σ, S => (semE T a σ S).bind fun x S => (semE T b σ S).bind fun y S => (cmpD o x y S).bind blR
  | .tchain o o' a b c, σ, S => (semE T a σ S).bind fun x S => (semE T b σ S).bind fun y S => (cmpD o x y S).bind fun r S => match r with
    | .bl true => (semE T c σ S).bind fun z S => (cmpD o' y z S).bind blR
    | .bl false => .ok false S
    | _ => .no
  | .tand a b, σ, S => (semT T a σ S).bind fun k S => match k with
    | true => semT T b σ S
    | false => .ok false S
  | .tor a b, σ, S => (semT T a σ S).bind fun k S => match k with
    | true => .ok true S
    | false => semT T b σ S
  | .tnot a, σ, S => (semT T a σ S).bind fun k S => .ok (!k) S
  | .tyes, _, S => .ok true S
noncomputable def semEs (T : FT) : Es → Sg → Sto → R (List D)
  | .nil, _, S => .ok [] S
  | .cons a as, σ, S => (semE T a σ S).bind fun x S => (semEs T as σ S).bind fun xs S => .ok (x :: xs) S
noncomputable def semIt (T : FT) : It → Sg → Sto → R Itm
  | .seq a, σ, S => (semE T a σ S).bind fun x S => match x with
    | .tup xs => .ok ⟨xs, none⟩ S
    | .ft xs => .ok ⟨xs, none⟩ S
    | _ => itmOf x S id
  | .rng1 a, σ, S => (semE T a σ S).bind fun x S => match x with
    | .int n => if rngBig n then .ok ⟨rngD 0 n.toNat, none⟩ S else .no
    | _ => .no
  | .rng2 a b, σ, S => (semE T a σ S).bind fun x S => (semE T b σ S).bind fun y S => match x, y with
    | .int i, .int j => if rngBig i ∧ rngBig j then .ok ⟨rngD i (j - i).toNat, none⟩ S else .no
    | _, _ => .no
  | .rng3 a b c, σ, S => (semE T a σ S).bind fun x S => (semE T b σ S).bind fun y S => (semE T c σ S).bind fun z S => match x, y, z with
    | .int i, .int j, .int k => if rngBig i ∧ rngBig j ∧ k = -1 then .ok ⟨rngC i (-1) (i - j).toNat, none⟩ S else .no
    | _, _, _ => .no
  | .enum a, σ, S => (semE T a σ S).bind fun x S => itmOf x S (enumD 0)
  | .zip a b, σ, S => (semE T a σ S).bind fun x S => (semE T b σ S).bind fun y S => match x, y with
    | .lst xs, .lst ys => .ok ⟨zipD xs ys, none⟩ S
    | _, _ => .no
end
def setFD (cl : Nat) (o : D) (k : Nat) (v : D) (S : Sto) : Option Sto := match o with
  | .cell n => match S[n]? with
    | some (.ins c fs) => if c ≠ cl then none else if k < fs.length then some (S.set n (.ins c (fs.set k v))) else if k = fs.length then some (S.set n (.ins c (fs ++ [v]))) else none
    | _ => none
  | _ => none
noncomputable def semTg (T : FT) : Tg → D → Sg → Sto → R Sg
  | .name i, d, σ, S => .ok (σ.set i (some d)) S
  | .sub o i, d, σ, S => (semE T o σ S).bind fun x S => (semE T i σ S).bind fun y S => match setD x y d S with
    | some S' => .ok σ S'
    | none => .no
  | .tup2 a b, .tup [x, y], σ, S => (semTg T a x σ S).bind fun σ S => semTg T b y σ S
  | .tup3 a b c, .tup [x, y, z], σ, S => (semTg T a x σ S).bind fun σ S => (semTg T b y σ S).bind fun σ S => semTg T c z σ S
  | _, _, _, _ => .no
/-- o[i] of a list or dict that may change -/
def idxC (x y : D) (S : Sto) : R D := match x with
  | .cell n => match S[n]? with
    | some (.lst xs) => match y with
      | .int i => R.opt S (atI xs i)
      | _ => .no
    | _ => .no
  | _ => .no
def augD (o : Operator) (x y : D) (S : Sto) : R D := match x, y with
  | .int i, .int j => match o with
    | .Add => .ok (.int (i + j)) S
    | .Sub => .ok (.int (i - j)) S
    | _ => .no
  | _, _ => .no
/-- an expression, then a statement's end -/
def R.toS {α : Type} (σ : Sg) (m : R α) (k : α → Sto → RS) : RS := match m with
  | .ok a S => k a S
  | .exc e S => .exc e σ S
  | .no => .no
theorem toS_ok {α : Type} {σ : Sg} {a : α} {S : Sto} {k : α → Sto → RS} : (R.ok a S).toS σ k = k a S := rfl
def RS.seq (m : RS) (k : Sg → Sto → RS) : RS := match m with
  | .nx σ S => k σ S
  | r => r
theorem seq_nx {σ : Sg} {S : Sto} {k : Sg → Sto → RS} : (RS.nx σ S).seq k = k σ S := rfl
theorem seq_rt {d : D} {S : Sto} {k : Sg → Sto → RS} : (RS.rt d S).seq k = .rt d S := rfl
mutual
noncomputable def semS (T : FT) : St → Sg → Sto → RS
  | .asg t e, σ, S => (semE T e σ S).toS σ fun d S => (semTg T t d σ S).nox.toS σ fun σ S => .nx σ S
  | .par2 i j a b, σ, S => (semE T a σ S).toS σ fun x S => (semE T b σ S).toS σ fun y S => .nx ((σ.set i (some x)).set j (some y)) S
  | .par3 i j l a b c, σ, S => (semE T a σ S).toS σ fun x S => (semE T b σ S).toS σ fun y S => (semE T c σ S).toS σ fun z S => .nx (((σ.set i (some x)).set j (some y)).set l (some z)) S
  | .aug i o e, σ, S => match σ[i]? with
    | some (some x) => (semE T e σ S).toS σ fun y S => (augD o x y S).toS σ fun z S => .nx (σ.set i (some z)) S
    | _ => .no
  | .augS o i op e, σ, S => (semE T o σ S).toS σ fun x S => (semE T i σ S).toS σ fun k S => (idxC x k S).toS σ fun y S => (semE T e σ S).toS σ fun z S => (augD op y z S).toS σ fun w S => match setD x k w S with
    | some S' => .nx σ S'
    | none => .no
  | .setF cl o k e, σ, S => (semE T e σ S).toS σ fun d S => (semE T o σ S).toS σ fun x S => match setFD cl x k d S with
    | some S' => .nx σ S'
    | none => .no
  | .expr e, σ, S => (semE T e σ S).toS σ fun _ S => .nx σ S
  | .ret e, σ, S => (semE T e σ S).toS σ fun d S => .rt d S
  | .retN, _, S => .rt .non S
  | .ite t a b, σ, S => (semT T t σ S).toS σ fun k S => match k with
    | true => semSs T a σ S
    | false => semSs T b σ S
  | .forS g it body, σ, S => (semIt T it σ S).toS σ fun p S => forL g (fun σ S => semSs T body σ S) p.g p.xs σ S
  | .while t body, σ, S => whileL (fun σ S => semT T t σ S) (fun σ S => semSs T body σ S) fuel σ S
  | .pass, σ, S => .nx σ S
  | .brk, σ, S => .bk σ S
  | .cont, σ, S => .ct σ S
  | .never, _, _ => .no
noncomputable def semSs (T : FT) : Ss → Sg → Sto → RS
  | .nil, σ, S => .nx σ S
  | .cons a as, σ, S => (semS T a σ S).seq fun σ S => semSs T as σ S
end

/-! ### a def's run -/
mutual
def noRef (n : Nat) : D → Bool
  | .cell m => decide (m < n)
  | .lst xs => noRefs n xs
  | .tup xs => noRefs n xs
  | .ins _ xs => noRefs n xs
  | .fl xs => noRefs n xs
  | .ft xs => noRefs n xs
  | _ => true
def noRefs (n : Nat) : List D → Bool
  | [] => true
  | x :: xs => noRef n x && noRefs n xs
end
def noRefC (n : Nat) : Cell → Bool
  | .dead => true
  | .lst xs => noRefs n xs
  | .ins _ xs => noRefs n xs
  | .dk kvs => noRefs n (kvs.map (·.2))
  | .dt kvs => noRefs n (kvs.map (·.2))
  | .db kvs => noRefs n (kvs.map (·.2))
/-- what a call leaves can be cut back to the caller's cells -/
def CanCut (S0 : Sto) (d : D) (S : Sto) : Prop := S0.length ≤ S.length ∧ noRef S0.length d = true ∧ ∀ i, i < S0.length → S[i]? = S0[i]? ∨ ∃ c, S[i]? = some c ∧ noRefC S0.length c = true
open Classical in
noncomputable def trunc (S0 : Sto) (d : D) (S : Sto) : Sto := if CanCut S0 d S then S.take S0.length else S
def startD (n : Nat) (ds : List D) : Sg := ds.map some ++ List.replicate (n - ds.length) none
/-- np parameters, n names -/
noncomputable def runF (T : FT) (np n : Nat) (body : Ss) (ds : List D) (S : Sto) : R D :=
  if ds.length = np then match semSs T body (startD n ds) S with
    | .rt d S' => .ok d (trunc S d S')
    | .nx _ S' => .ok .non (trunc S .non S')
    | .exc e _ S' => .exc e (trunc S e S')
    | _ => .no
  else .no
end Mq
end

section
set_option maxHeartbeats 8000000
/-! Fw2: what the data stand for in the heap. -/
namespace Mq
open PySem L2
structure Wd where
  K : PySem.W.Frag
  ca : Nat → Addr
  cf : Nat → List Str
structure Mp where
  Hs : Hp
  io : List Addr
  /-- what is kept as it stands -/
  kp : Hp
def Mp.sub (M M' : Mp) : Prop := (∀ a o, M.Hs a = some o → M'.Hs a = some o) ∧ ∃ t, M'.io = M.io ++ t
def Mp.le (M M' : Mp) : Prop := M.sub M' ∧ M'.kp = M.kp
theorem Mp.sub.refl (M : Mp) : M.sub M := ⟨fun _ _ h => h, [], by simp⟩
theorem Mp.sub.trans {M M1 M2 : Mp} (a : M.sub M1) (b : M1.sub M2) : M.sub M2 := by
  obtain ⟨a1, t, a2⟩ := a
  obtain ⟨b1, u, b2⟩ := b
  exact ⟨fun x o h => b1 x o (a1 x o h), t ++ u, by rw [b2, a2, List.append_assoc]⟩
theorem Mp.le.refl (M : Mp) : M.le M := ⟨.refl M, rfl⟩
theorem Mp.le.trans {M M1 M2 : Mp} (a : M.le M1) (b : M1.le M2) : M.le M2 := ⟨a.1.trans b.1, b.2.trans a.2⟩
theorem Mp.sub.io {M M' : Mp} (l : M.sub M') {n : Nat} {a : Addr} (h : M.io[n]? = some a) : M'.io[n]? = some a := by
  obtain ⟨_, t, e⟩ := l
  rw [e, List.getElem?_append_left (List.getElem?_eq_some_iff.mp h).1]
  exact h
theorem Mp.le.io {M M' : Mp} (l : M.le M') {n : Nat} {a : Addr} (h : M.io[n]? = some a) : M'.io[n]? = some a := l.1.io h
theorem seqL_mono {K : PySem.W.Frag} {H H' : Hp} {a : Addr} {xs : List V} (e : ∀ a o, H a = some o → H' a = some o) (h : SqL K H a xs) : SqL K H' a xs := by
  rcases h with (h | ⟨o, h⟩) | h
  · exact .inl (.inl (e _ _ h))
  · exact .inl (.inr ⟨o, e _ _ h⟩)
  · exact .inr h
theorem seqT_mono {K : PySem.W.Frag} {H H' : Hp} {a : Addr} {xs : List V} (e : ∀ a o, H a = some o → H' a = some o) (h : SqT K H a xs) : SqT K H' a xs := by
  rcases h with (h | ⟨o, h⟩) | h
  · exact .inl (.inl (e _ _ h))
  · exact .inl (.inr ⟨o, e _ _ h⟩)
  · exact .inr h
inductive RepV (W : Wd) (M : Mp) : V → D → Prop
  | non : RepV W M .non .non
  | bl (b : Bool) : RepV W M (.bl b) (.bl b)
  | int (i : Int) : RepV W M (.int i) (.int i)
  | str (x : Str) : RepV W M (.str x) (.str x)
  | lst {a : Addr} {vs : List V} {ds : List D} (h : M.Hs a = some (.lst vs)) (hz : ds.length ≤ sizeLine) (hl : vs.length = ds.length) (hr : ∀ (i : Nat) v d, vs[i]? = some v → ds[i]? = some d → RepV W M v d) : RepV W M (.ref a) (.lst ds)
  | tup {a : Addr} {vs : List V} {ds : List D} (h : M.Hs a = some (.tup vs)) (hz : ds.length ≤ sizeLine) (hl : vs.length = ds.length) (hr : ∀ (i : Nat) v d, vs[i]? = some v → ds[i]? = some d → RepV W M v d) : RepV W M (.ref a) (.tup ds)
  | ft {a : Addr} {vs : List V} {ds : List D} (h : SqT W.K M.Hs a vs) (hz : ds.length ≤ sizeLine) (hl : vs.length = ds.length) (hr : ∀ (i : Nat) v d, vs[i]? = some v → ds[i]? = some d → RepV W M v d) : RepV W M (.ref a) (.ft ds)
  | ins {a dx : Addr} {c : Nat} {vs : List V} {ds : List D} (h : M.Hs a = some (.ins (W.ca c) dx ((W.cf c).zip vs))) (hz : vs.length ≤ (W.cf c).length) (hl : vs.length = ds.length) (hr : ∀ (i : Nat) v d, vs[i]? = some v → ds[i]? = some d → RepV W M v d) : RepV W M (.ref a) (.ins c ds)
  | cell {n : Nat} {a : Addr} (h : M.io[n]? = some a) : RepV W M (.ref a) (.cell n)
  | fl {a : Addr} {vs : List V} {ds : List D} (h : SqL W.K M.Hs a vs) (hz : ds.length ≤ sizeLine) (hl : vs.length = ds.length) (hr : ∀ (i : Nat) v d, vs[i]? = some v → ds[i]? = some d → RepV W M v d) : RepV W M (.ref a) (.fl ds)
def Reps (W : Wd) (M : Mp) (vs : List V) (ds : List D) : Prop := vs.length = ds.length ∧ ∀ (i : Nat) v d, vs[i]? = some v → ds[i]? = some d → RepV W M v d
section
variable {W : Wd} {M M' : Mp} {v : V} {d : D} {vs ws : List V} {ds es : List D}
theorem RepV.sub (l : M.sub M') (r : RepV W M v d) : RepV W M' v d := by
  induction r with
  | non => exact .non
  | bl b => exact .bl b
  | int i => exact .int i
  | str x => exact .str x
  | lst h hz hl hr ih => exact .lst (l.1 _ _ h) hz hl fun i v d a b => ih i v d a b
  | fl h hz hl hr ih => exact .fl (seqL_mono l.1 h) hz hl fun i v d a b => ih i v d a b
  | tup h hz hl hr ih => exact .tup (l.1 _ _ h) hz hl fun i v d a b => ih i v d a b
  | ft h hz hl hr ih => exact .ft (seqT_mono l.1 h) hz hl fun i v d a b => ih i v d a b
  | ins h hz hl hr ih => exact .ins (l.1 _ _ h) hz hl fun i v d a b => ih i v d a b
  | cell h => exact .cell (l.io h)
theorem RepV.mono (l : M.le M') (r : RepV W M v d) : RepV W M' v d := r.sub l.1
theorem Reps.sub (l : M.sub M') (r : Reps W M vs ds) : Reps W M' vs ds := ⟨r.1, fun i v d a b => (r.2 i v d a b).sub l⟩
theorem Reps.mono (l : M.le M') (r : Reps W M vs ds) : Reps W M' vs ds := ⟨r.1, fun i v d a b => (r.2 i v d a b).mono l⟩
theorem Reps.nil : Reps W M [] [] := ⟨rfl, fun i v d a => by simp at a⟩
theorem Reps.cons (h : RepV W M v d) (r : Reps W M vs ds) : Reps W M (v :: vs) (d :: ds) := ⟨by simp [r.1], fun i x y a b => by
  cases i with
  | zero => simp at a b; subst a b; exact h
  | succ i => exact r.2 i x y (by simpa using a) (by simpa using b)⟩
theorem Reps.cons_inv (r : Reps W M vs (d :: ds)) : ∃ v ws, vs = v :: ws ∧ RepV W M v d ∧ Reps W M ws ds := by
  cases vs with
  | nil => exact absurd r.1 (by simp)
  | cons v ws => exact ⟨v, ws, rfl, r.2 0 v d rfl rfl, by simpa using r.1, fun i x y a b => r.2 (i + 1) x y (by simpa using a) (by simpa using b)⟩
theorem Reps.nil_inv (r : Reps W M vs []) : vs = [] := List.eq_nil_of_length_eq_zero r.1
theorem Reps.one (h : RepV W M v d) : Reps W M [v] [d] := .cons h .nil
theorem Reps.app (r : Reps W M vs ds) (s : Reps W M ws es) : Reps W M (vs ++ ws) (ds ++ es) := ⟨by simp [r.1, s.1], fun i x y a b => by
  by_cases h : i < vs.length
  · rw [List.getElem?_append_left h] at a
    rw [List.getElem?_append_left (by rw [← r.1]; exact h)] at b
    exact r.2 i x y a b
  · rw [List.getElem?_append_right (by omega)] at a
    rw [List.getElem?_append_right (by rw [← r.1]; omega), ← r.1] at b
    exact s.2 _ x y a b⟩
theorem Reps.get (r : Reps W M vs ds) {i : Nat} (h : ds[i]? = some d) : ∃ v, vs[i]? = some v ∧ RepV W M v d := by
  have hi : i < vs.length := by rw [r.1]; exact (List.getElem?_eq_some_iff.mp h).1
  exact ⟨vs[i], by simp [hi], r.2 i _ d (by simp [hi]) h⟩
theorem Reps.get' (r : Reps W M vs ds) {i : Nat} (h : vs[i]? = some v) : ∃ d, ds[i]? = some d ∧ RepV W M v d := by
  have hi : i < ds.length := by rw [← r.1]; exact (List.getElem?_eq_some_iff.mp h).1
  exact ⟨ds[i], by simp [hi], r.2 i v _ h (by simp [hi])⟩
theorem Reps.set (r : Reps W M vs ds) (h : RepV W M v d) (j : Nat) : Reps W M (vs.set j v) (ds.set j d) := ⟨by simp [r.1], fun i x y a b => by
  rw [List.getElem?_set] at a b
  by_cases e : j = i
  · subst e
    by_cases hj : j < vs.length
    · rw [if_pos rfl, if_pos hj] at a
      rw [if_pos rfl, if_pos (by rw [← r.1]; exact hj)] at b
      cases a; cases b; exact h
    · rw [if_pos rfl, if_neg hj] at a; cases a
  · rw [if_neg e] at a b
    exact r.2 i x y a b⟩
theorem Reps.drop (r : Reps W M vs ds) (n : Nat) : Reps W M (vs.drop n) (ds.drop n) := ⟨by simp [r.1], fun i x y a b => r.2 (n + i) x y (by simpa using a) (by simpa using b)⟩
theorem Reps.take (r : Reps W M vs ds) (n : Nat) : Reps W M (vs.take n) (ds.take n) := ⟨by simp [r.1], fun i x y a b => by
  rw [List.getElem?_take] at a b
  split at a
  · rename_i h
    rw [if_pos h] at b
    exact r.2 i x y a b
  · cases a⟩
theorem Reps.erase (r : Reps W M vs ds) (n : Nat) : Reps W M (vs.eraseIdx n) (ds.eraseIdx n) := ⟨by simp [List.length_eraseIdx, r.1], fun i x y a b => by
  rw [List.getElem?_eraseIdx] at a b
  split at a
  · rename_i h
    rw [if_pos h] at b
    exact r.2 _ x y a b
  · rename_i h
    rw [if_neg h] at b
    exact r.2 _ x y a b⟩
theorem Reps.dropLast (r : Reps W M vs ds) : Reps W M vs.dropLast ds.dropLast := by
  rw [List.dropLast_eq_take, List.dropLast_eq_take, r.1]
  exact r.take _
theorem Reps.reverse (r : Reps W M vs ds) : Reps W M vs.reverse ds.reverse := ⟨by simp [r.1], fun i x y a b => by
  have hi : i < vs.length := by simpa using (List.getElem?_eq_some_iff.mp a).1
  rw [List.getElem?_reverse hi] at a
  rw [List.getElem?_reverse (by rw [← r.1]; exact hi), ← r.1] at b
  exact r.2 _ x y a b⟩
theorem Reps.rep (r : Reps W M vs ds) : ∀ k : Nat, Reps W M (List.replicate k vs).flatten (List.replicate k ds).flatten
  | 0 => by simp [Reps.nil]
  | k + 1 => by
    rw [List.replicate_succ, List.replicate_succ, List.flatten_cons, List.flatten_cons]
    exact r.app (Reps.rep r k)
theorem Reps.concat (r : Reps W M vs ds) (h : RepV W M v d) : Reps W M (vs ++ [v]) (ds ++ [d]) := r.app (.one h)
theorem Reps.cut (r : Reps W M vs ds) (lo hi : Option Int) : Reps W M (cutV vs lo hi) (cut ds lo hi) := by
  unfold cutV Mq.cut
  rw [r.1]
  exact (r.drop _).take _
end
/-- a dict's pairs -/
def DkOk {κ : Type} (W : Wd) (M : Mp) (kw : List (κ × V)) (kvs : List (κ × D)) : Prop := kw.map (·.1) = kvs.map (·.1) ∧ Reps W M (kw.map (·.2)) (kvs.map (·.2))
section
variable {κ : Type} [DecidableEq κ] {W : Wd} {M M' : Mp}
theorem DkOk.sub {kw : List (κ × V)} {kvs : List (κ × D)} (l : M.sub M') (h : DkOk W M kw kvs) : DkOk W M' kw kvs := ⟨h.1, h.2.sub l⟩
theorem DkOk.mono {kw : List (κ × V)} {kvs : List (κ × D)} (l : M.le M') (h : DkOk W M kw kvs) : DkOk W M' kw kvs := ⟨h.1, h.2.mono l⟩
theorem DkOk.len {kw : List (κ × V)} {kvs : List (κ × D)} (h : DkOk W M kw kvs) : kw.length = kvs.length := by
  have := congrArg List.length h.1
  simpa using this
theorem DkOk.cons_inv {kw : List (κ × V)} {k : κ} {d : D} {kvs : List (κ × D)} (h : DkOk W M kw ((k, d) :: kvs)) : ∃ v r, kw = (k, v) :: r ∧ RepV W M v d ∧ DkOk W M r kvs := by
  cases kw with
  | nil => exact absurd h.len (by simp)
  | cons p r =>
    obtain ⟨k', v⟩ := p
    obtain ⟨h1, h2⟩ := h
    simp only [List.map_cons, List.cons.injEq] at h1 h2
    obtain ⟨rfl, h1⟩ := h1
    obtain ⟨v', ws, e, r1, r2⟩ := h2.cons_inv
    simp only [List.cons.injEq] at e
    obtain ⟨rfl, rfl⟩ := e
    exact ⟨v, r, rfl, r1, h1, r2⟩
theorem DkOk.cons {kw : List (κ × V)} {k : κ} {v : V} {d : D} {kvs : List (κ × D)} (h : RepV W M v d) (r : DkOk W M kw kvs) : DkOk W M ((k, v) :: kw) ((k, d) :: kvs) :=
  ⟨by simp [r.1], .cons h r.2⟩
theorem look_rel (k : κ) : ∀ {kvs : List (κ × D)} {kw : List (κ × V)}, DkOk W M kw kvs → (lookD kvs k = none ∧ valV kw k = none) ∨ ∃ d v, lookD kvs k = some d ∧ valV kw k = some v ∧ RepV W M v d
  | [], kw, h => by
    have : kw = [] := List.eq_nil_of_length_eq_zero h.len
    subst this
    exact .inl ⟨rfl, rfl⟩
  | (j, d) :: kvs, kw, h => by
    obtain ⟨v, r, rfl, h1, h2⟩ := h.cons_inv
    unfold lookD valV
    by_cases e : j = k
    · right
      exact ⟨d, v, by simp [List.find?_cons, e], by simp [List.find?_cons, e], h1⟩
    · have := look_rel k h2
      unfold lookD valV at this
      simpa [List.find?_cons, e] using this
theorem any_rel (k : κ) {kvs : List (κ × D)} {kw : List (κ × V)} (h : DkOk W M kw kvs) : (kw.any fun kv => decide (kv.1 = k)) = (kvs.any fun kv => decide (kv.1 = k)) := by
  have e : ∀ {α : Type} (l : List (κ × α)), (l.any fun kv => decide (kv.1 = k)) = ((l.map (·.1)).any fun x => decide (x = k)) := fun l => by rw [List.any_map]; rfl
  rw [e, e, h.1]
theorem put_rel (k : κ) {v : V} {d : D} (hv : RepV W M v d) {kvs : List (κ × D)} {kw : List (κ × V)} (h : DkOk W M kw kvs) : DkOk W M (putK kw k v) (putD kvs k d) := by
  unfold putK putD
  rw [any_rel k h]
  split
  · rename_i hh
    clear hh
    induction kvs generalizing kw with
    | nil =>
      have : kw = [] := List.eq_nil_of_length_eq_zero h.len
      subst this
      exact h
    | cons p kvs ih =>
      obtain ⟨j, e⟩ := p
      obtain ⟨w, r, rfl, h1, h2⟩ := h.cons_inv
      rw [List.map_cons, List.map_cons]
      by_cases q : j = k
      · simp only [q, if_true]
        exact .cons hv (ih h2)
      · simp only [q, if_false]
        exact .cons h1 (ih h2)
  · exact ⟨by simp [h.1], by rw [List.map_append, List.map_append]; exact h.2.app (.one hv)⟩
end
/-! dicts whose keys are tuples of ints and truths -/
def bV : V → Option Int
  | .int i => some i
  | .bl b => some (if b then 1 else 0)
  | _ => none
def bVs : List V → Option (List Int)
  | [] => some []
  | x :: xs => match bV x, bVs xs with
    | some y, some ys => some (y :: ys)
    | _, _ => none
def dbX (ents : List (List Int × Addr × V)) (us : List Value) : List (List Leaf × Addr × Value) := (ents.zip us).map fun e => (e.1.1.map Leaf.num, e.1.2.1, e.2)
def dbRaw (a : Addr) (ents : List (List Int × Addr × V)) (h : Heap) : Prop := (a == sysModules) = false ∧ ents.length ≤ sizeLine ∧ (ents.map (·.1)).Nodup ∧
  ∃ us : List Value, Vals (ents.map (·.2.2)) us ∧ ∃ o es ep, h.get? a = some o ∧ o.ExactDict ∧ o.data = .dict es ep ∧ ∀ (P : Program) (w : World), es.toList = (dbX ents us).map (entryOfKey (tupleKind (leafKind P w)))
def CellOk (W : Wd) (M : Mp) (H : Hp) (a : Addr) : Cell → Prop
  | .dead => True
  | .lst ds => M.Hs a = none ∧ ∃ vs, H a = some (.lst vs) ∧ Reps W M vs ds ∧ ds.length ≤ sizeLine
  | .dk kvs => M.Hs a = none ∧ ∃ kw, H a = some (.dK kw) ∧ DkOk W M kw kvs
  | .dt kvs => M.Hs a = none ∧ ∃ kw, H a = some (.dT kw) ∧ DkOk W M kw kvs
  | .db kvs => M.Hs a = none ∧ ∃ ents, H a = some (.ext (dbRaw a ents)) ∧ ents.map (·.1) = kvs.map (·.1) ∧ Reps W M (ents.map (·.2.2)) (kvs.map (·.2)) ∧ ∀ e ∈ ents, ∃ vs, M.Hs e.2.1 = some (.tup vs) ∧ bVs vs = some e.1
  | .ins c ds => M.Hs a = none ∧ ∃ dx vs, H a = some (.ins (W.ca c) dx ((W.cf c).zip vs)) ∧ vs.length ≤ (W.cf c).length ∧ Reps W M vs ds
structure RelH (W : Wd) (M : Mp) (H : Hp) (S : Sto) : Prop where
  fro : ∀ a o, M.Hs a = some o → H a = some o
  len : M.io.length = S.length
  nd : M.io.Nodup
  liv : ∀ a ∈ M.io, ∃ o, H a = some o
  kpf : ∀ a o, M.kp a = some o → H a = some o ∧ M.Hs a = none ∧ a ∉ M.io
  cel : ∀ (n : Nat) c a, S[n]? = some c → M.io[n]? = some a → CellOk W M H a c
def RelSl (W : Wd) (M : Mp) (σ : L2.St) (Sg : Sg) : Prop := σ.length = Sg.length ∧ ∀ (i : Nat) d, Sg[i]? = some (some d) → ∃ v, σ[i]? = some (some v) ∧ RepV W M v d
section
variable {W : Wd} {M M' : Mp} {H H' : Hp} {S : Sto} {v : V} {d : D} {vs ws : List V} {ds es : List D} {a p : Addr} {o : HO} {n : Nat} {c c' : Cell} {σ : L2.St} {sg : Sg}
theorem RelSl.sub (l : M.sub M') (r : RelSl W M σ sg) : RelSl W M' σ sg := ⟨r.1, fun i d h => by
  obtain ⟨v, h1, h2⟩ := r.2 i d h
  exact ⟨v, h1, h2.sub l⟩⟩
theorem RelSl.mono (l : M.le M') (r : RelSl W M σ sg) : RelSl W M' σ sg := ⟨r.1, fun i d h => by
  obtain ⟨v, h1, h2⟩ := r.2 i d h
  exact ⟨v, h1, h2.mono l⟩⟩
theorem RelSl.set (r : RelSl W M σ sg) (h : RepV W M v d) (i : Nat) : RelSl W M (σ.set i (some v)) (sg.set i (some d)) := ⟨by simp [r.1], fun j e he => by
  rw [List.getElem?_set] at he ⊢
  by_cases q : i = j
  · subst q
    rw [if_pos rfl] at he ⊢
    split at he
    · rename_i hl
      cases he
      exact ⟨v, by rw [if_pos (by rw [r.1]; exact hl)], h⟩
    · cases he
  · rw [if_neg q] at he ⊢
    exact r.2 j e he⟩
theorem RelSl.wipe (r : RelSl W M σ sg) : ∀ l : List Nat, RelSl W M (L2.wipe σ l) (wipeD sg l)
  | [] => r
  | i :: l => by
    have ih := RelSl.wipe r l
    refine ⟨by simp [L2.wipe, wipeD, ih.1], fun j e he => ?_⟩
    unfold wipeD at he
    unfold L2.wipe
    rw [List.getElem?_set] at he ⊢
    by_cases q : i = j
    · subst q
      rw [if_pos rfl] at he
      split at he <;> cases he
    · rw [if_neg q] at he ⊢
      exact ih.2 j e he
theorem CellOk.le (l : M.sub M') (hs : M'.Hs a = M.Hs a) (hh : H' a = H a) (h : CellOk W M H a c) : CellOk W M' H' a c := by
  cases c with
  | dead => trivial
  | lst ds => obtain ⟨h1, vs, h2, h3, h4⟩ := h; exact ⟨hs.trans h1, vs, hh.trans h2, h3.sub l, h4⟩
  | dk kvs => obtain ⟨h1, kw, h2, h3⟩ := h; exact ⟨hs.trans h1, kw, hh.trans h2, h3.sub l⟩
  | dt kvs => obtain ⟨h1, kw, h2, h3⟩ := h; exact ⟨hs.trans h1, kw, hh.trans h2, h3.sub l⟩
  | db kvs =>
    obtain ⟨h1, es, h2, h3, h4, h5⟩ := h
    refine ⟨hs.trans h1, es, hh.trans h2, h3, h4.sub l, fun e he => ?_⟩
    obtain ⟨vs, g1, g2⟩ := h5 e he
    exact ⟨vs, l.1 _ _ g1, g2⟩
  | ins c ds => obtain ⟨h1, dx, vs, h2, h3, h4⟩ := h; exact ⟨hs.trans h1, dx, vs, hh.trans h2, h3, h4.sub l⟩
theorem RelH.noio (r : RelH W M H S) (hp : H p = none) : p ∉ M.io := fun h => by
  obtain ⟨o, e⟩ := r.liv p h
  rw [hp] at e; cases e
theorem RelH.nofro (r : RelH W M H S) (hp : H p = none) : M.Hs p = none := by
  cases e : M.Hs p with
  | none => rfl
  | some o => have := r.fro p o e; rw [hp] at this; cases this
/-- the heap has grown -/
theorem RelH.grow (r : RelH W M H S) (hp : H p = none) : RelH W M (upd H p o) S where
  fro := fun a u h => by
    rw [upd_ne (ne_of_none (r.fro a u h) hp)]
    exact r.fro a u h
  len := r.len
  nd := r.nd
  liv := fun a h => by
    obtain ⟨u, e⟩ := r.liv a h
    exact ⟨u, by rw [upd_ne (ne_of_none e hp)]; exact e⟩
  kpf := fun a u h => by
    obtain ⟨h1, h2⟩ := r.kpf a u h
    exact ⟨by rw [upd_ne (ne_of_none h1 hp)]; exact h1, h2⟩
  cel := fun n c a h1 h2 => by
    obtain ⟨u, e⟩ := r.liv a (List.mem_of_getElem? h2)
    exact (r.cel n c a h1 h2).le (.refl M) rfl (upd_ne (ne_of_none e hp))
/-- what stands at p, no cell, is frozen -/
theorem RelH.fix (r : RelH W M H S) (hp : H p = some o) (hn : p ∉ M.io) (hs : M.Hs p = none) (hk : M.kp p = none) : RelH W ⟨upd M.Hs p o, M.io, M.kp⟩ H S ∧ M.le ⟨upd M.Hs p o, M.io, M.kp⟩ := by
  have l : M.le ⟨upd M.Hs p o, M.io, M.kp⟩ := ⟨⟨fun a u h => by
    show upd M.Hs p o a = some u
    rw [upd_ne (ne_of_none h hs)]
    exact h, [], by simp⟩, rfl⟩
  refine ⟨⟨fun a u h => ?_, r.len, r.nd, r.liv, fun a u h => ?_, fun n c a h1 h2 => ?_⟩, l⟩
  · have h : upd M.Hs p o a = some u := h
    by_cases e : a = p
    · subst e; rw [upd_same] at h; cases h; exact hp
    · rw [upd_ne e] at h; exact r.fro a u h
  · obtain ⟨h1, h2, h3⟩ := r.kpf a u h
    refine ⟨h1, ?_, h3⟩
    show upd M.Hs p o a = none
    rw [upd_ne (ne_of_none h hk)]
    exact h2
  · refine (r.cel n c a h1 h2).le l.1 ?_ rfl
    show upd M.Hs p o a = M.Hs a
    rw [upd_ne fun e => hn (by rw [← e]; exact List.mem_of_getElem? h2)]
theorem RelH.nokp (r : RelH W M H S) (hp : H p = none) : M.kp p = none := by
  cases e : M.kp p with
  | none => rfl
  | some o => have := (r.kpf p o e).1; rw [hp] at this; cases this
theorem RelH.newFro (r : RelH W M H S) (hp : H p = none) : RelH W ⟨upd M.Hs p o, M.io, M.kp⟩ (upd H p o) S ∧ M.le ⟨upd M.Hs p o, M.io, M.kp⟩ :=
  (r.grow (o := o) hp).fix upd_same (r.noio hp) (r.nofro hp) (r.nokp hp)
/-- what stands at p becomes a cell -/
theorem RelH.adopt (g : RelH W M H S) (hp : H p = some o) (hn : p ∉ M.io) (hs : M.Hs p = none) (hk : M.kp p = none) (hc : CellOk W M H p c) : RelH W ⟨M.Hs, M.io ++ [p], M.kp⟩ H (S ++ [c]) ∧ M.le ⟨M.Hs, M.io ++ [p], M.kp⟩ := by
  have l : M.le ⟨M.Hs, M.io ++ [p], M.kp⟩ := ⟨⟨fun _ _ h => h, [p], rfl⟩, rfl⟩
  refine ⟨⟨g.fro, by simp [g.len], ?_, fun a h => ?_, fun a u h => ?_, fun n c' a h1 h2 => ?_⟩, l⟩
  · refine List.nodup_append.mpr ⟨g.nd, by simp, fun a ha b hb e => ?_⟩
    have : b = p := by simpa using hb
    subst this; subst e
    exact hn ha
  · rcases List.mem_append.mp h with h | h
    · exact g.liv a h
    · have : a = p := by simpa using h
      subst this
      exact ⟨o, hp⟩
  · obtain ⟨h1, h2, h3⟩ := g.kpf a u h
    refine ⟨h1, h2, fun z => ?_⟩
    rcases List.mem_append.mp z with z | z
    · exact h3 z
    · have : a = p := by simpa using z
      subst this
      have h : M.kp a = some u := h
      rw [hk] at h; cases h
  · have h2 : (M.io ++ [p])[n]? = some a := h2
    by_cases hn : n < S.length
    · rw [List.getElem?_append_left hn] at h1
      rw [List.getElem?_append_left (by rw [g.len]; exact hn)] at h2
      exact (g.cel n c' a h1 h2).le l.1 rfl rfl
    · rw [List.getElem?_append_right (by omega)] at h1
      rw [List.getElem?_append_right (by rw [g.len]; omega), g.len] at h2
      have e : n - S.length = 0 := by
        have := (List.getElem?_eq_some_iff.mp h1).1
        simp at this; omega
      rw [e] at h1 h2
      simp at h1 h2
      subst h1; subst h2
      exact hc.le l.1 rfl rfl
theorem RelH.newCell (r : RelH W M H S) (hp : H p = none) (hc : CellOk W M (upd H p o) p c) : RelH W ⟨M.Hs, M.io ++ [p], M.kp⟩ (upd H p o) (S ++ [c]) ∧ M.le ⟨M.Hs, M.io ++ [p], M.kp⟩ :=
  (r.grow (o := o) hp).adopt upd_same (r.noio hp) (r.nofro hp) (r.nokp hp) hc
/-- what is kept at p alone is kept otherwise -/
theorem RelH.keep (r : RelH W M H S) (hn : p ∉ M.io) (hs : M.Hs p = none) : RelH W ⟨M.Hs, M.io, upd M.kp p o⟩ (upd H p o) S where
  fro := fun a u h => by
    rw [upd_ne (ne_of_none h hs)]
    exact r.fro a u h
  len := r.len
  nd := r.nd
  liv := fun a h => by
    obtain ⟨u, e⟩ := r.liv a h
    exact ⟨u, by rw [upd_ne fun z => hn (by rw [← z]; exact h)]; exact e⟩
  kpf := fun a u h => by
    have h : upd M.kp p o a = some u := h
    by_cases e : a = p
    · subst e; rw [upd_same] at h; cases h; exact ⟨upd_same, hs, hn⟩
    · rw [upd_ne e] at h
      obtain ⟨h1, h2⟩ := r.kpf a u h
      exact ⟨by rw [upd_ne e]; exact h1, h2⟩
  cel := fun n c a h1 h2 => (r.cel n c a h1 h2).le (M := M) ⟨fun _ _ h => h, [], by simp⟩ rfl (upd_ne fun z => hn (by rw [← z]; exact List.mem_of_getElem? h2))
/-- less is kept -/
theorem RelH.less {k : Hp} (r : RelH W M H S) (h : ∀ a o, k a = some o → M.kp a = some o) : RelH W ⟨M.Hs, M.io, k⟩ H S :=
  ⟨r.fro, r.len, r.nd, r.liv, fun a u e => r.kpf a u (h a u e), fun n c a h1 h2 => (r.cel n c a h1 h2).le (M := M) ⟨fun _ _ h => h, [], by simp⟩ rfl rfl⟩
theorem nodup_at {l : List Addr} (h : l.Nodup) {i j : Nat} {a : Addr} (hi : l[i]? = some a) (hj : l[j]? = some a) : i = j := by
  obtain ⟨h1, e1⟩ := List.getElem?_eq_some_iff.mp hi
  obtain ⟨h2, e2⟩ := List.getElem?_eq_some_iff.mp hj
  exact (List.getElem_inj h).mp (e1.trans e2.symm)
/-- a live cell is written -/
theorem RelH.set (r : RelH W M H S) (ha : M.io[n]? = some a) (hf : M.Hs a = none) (hc : CellOk W M (upd H a o) a c) : RelH W M (upd H a o) (S.set n c) where
  fro := fun b u h => by
    rw [upd_ne (ne_of_none h hf)]
    exact r.fro b u h
  len := by simp [r.len]
  nd := r.nd
  liv := fun b h => by
    by_cases e : b = a
    · exact ⟨o, by rw [e]; exact upd_same⟩
    · obtain ⟨u, q⟩ := r.liv b h
      exact ⟨u, by rw [upd_ne e]; exact q⟩
  kpf := fun b u h => by
    obtain ⟨h1, h2, h3⟩ := r.kpf b u h
    exact ⟨by rw [upd_ne fun z => h3 (by rw [z]; exact List.mem_of_getElem? ha)]; exact h1, h2, h3⟩
  cel := fun m c' b h1 h2 => by
    rw [List.getElem?_set] at h1
    by_cases e : n = m
    · subst e
      rw [if_pos rfl] at h1
      split at h1
      · cases h1
        rw [ha] at h2; cases h2
        exact hc
      · cases h1
    · rw [if_neg e] at h1
      have ne : b ≠ a := fun q => e (nodup_at r.nd ha (by rw [← q]; exact h2))
      exact (r.cel m c' b h1 h2).le (.refl M) rfl (upd_ne ne)
/-- a cell dies: nothing of the heap changes -/
theorem RelH.kill (r : RelH W M H S) : RelH W M H (S.set n .dead) where
  fro := r.fro
  len := by simp [r.len]
  nd := r.nd
  liv := r.liv
  kpf := r.kpf
  cel := fun m c' b h1 h2 => by
    rw [List.getElem?_set] at h1
    by_cases e : n = m
    · subst e
      rw [if_pos rfl] at h1
      split at h1
      · cases h1; trivial
      · cases h1
    · rw [if_neg e] at h1
      exact r.cel m c' b h1 h2
end
end Mq
end

section
set_option maxHeartbeats 8000000
/-! Fw3: what a run promises; operators. -/
namespace Mq
open PySem L2 PySem.Spec PyProof.Rows
def RepX (W : Wd) (M : Mp) (H : Hp) (cls : Value) (dx : Option Addr) (e : D) : Prop :=
  ∃ c ds, e = .ins c ds ∧ cls = .ref (W.ca c) ∧ ((ds = [] ∧ dx = none) ∨ ∃ d vs, dx = some d ∧ H d = some (.xd ((W.cf c).zip vs)) ∧ vs.length ≤ (W.cf c).length ∧ Reps W M vs ds)
def Post {α β : Type} (W : Wd) (rel : Mp → β → α → Prop) (WE : XK) (M : Mp) (r : R α) (Q : β → Hp → Prop) : Prop := match r with
  | .ok a S => ∀ M' H' v, M.le M' → RelH W M' H' S → rel M' v a → Q v H'
  | .exc e S => ∀ M' H' cls dx, M.le M' → RelH W M' H' S → RepX W M' H' cls dx e → WE cls dx H'
  | .no => False
section
variable {α β γ δ : Type} {W : Wd} {rel : Mp → β → α → Prop} {rel' : Mp → δ → γ → Prop} {WE : XK} {M M' : Mp} {H : Hp} {S : Sto} {Q Q' : β → Hp → Prop} {r : R α}
theorem Post.imp (p : Post W rel WE M r Q) (h : ∀ v H, Q v H → Q' v H) : Post W rel WE M r Q' := by
  cases r with
  | ok a S => exact fun M' H' v l rh rv => h v H' (p M' H' v l rh rv)
  | exc e S => exact p
  | no => exact p
theorem Post.le (p : Post W rel WE M r Q) (l : M.le M') : Post W rel WE M' r Q := by
  cases r with
  | ok a S => exact fun M2 H' v l2 => p M2 H' v (l.trans l2)
  | exc e S => exact fun M2 H' c d l2 => p M2 H' c d (l.trans l2)
  | no => exact p
/-- a run, then another -/
theorem Post.bind {k : α → Sto → R γ} {Q : δ → Hp → Prop} (p : Post W rel' WE M (r.bind k) Q) :
    Post W rel WE M r fun v H1 => ∃ M1 a S1, M.le M1 ∧ RelH W M1 H1 S1 ∧ rel M1 v a ∧ Post W rel' WE M1 (k a S1) Q := by
  cases r with
  | ok a S => exact fun M' H' v l rh rv => ⟨M', a, S, l, rh, rv, Post.le p l⟩
  | exc e S => exact p
  | no => exact p
theorem Post.ok {a : α} {v : β} (p : Post W rel WE M (.ok a S) Q) (rh : RelH W M H S) (rv : rel M v a) : Q v H := p M H v (.refl M) rh rv
end
/-- readings by runs -/
def tE (W : Wd) (wx : WX) (f : Sg → Sto → R D) : TE := fun σ H Q => ∃ M sg S, RelH W M H S ∧ RelSl W M σ sg ∧ Post W (RepV W) (fun c d H => wx c d σ H) M (f sg S) Q
def tAs (W : Wd) (wx : WX) (f : Sg → Sto → R (List D)) : TA := fun σ H Q => ∃ M sg S, RelH W M H S ∧ RelSl W M σ sg ∧ Post W (Reps W) (fun c d H => wx c d σ H) M (f sg S) Q
def tTs (W : Wd) (wx : WX) (f : Sg → Sto → R Bool) : TT := fun σ H Q => ∃ M sg S, RelH W M H S ∧ RelSl W M σ sg ∧ Post W (fun _ b b' => b = b') (fun c d H => wx c d σ H) M (f sg S) Q
def tOs (W : Wd) (wx : WX) (f : Sg → Sto → R (Option Int)) : TO := fun σ H Q => ∃ M sg S, RelH W M H S ∧ RelSl W M σ sg ∧ Post W (fun _ b b' => b = b') (fun c d H => wx c d σ H) M (f sg S) Q
theorem PE.mono {X : Cx} {e : Expr} {t t' : TE} (h : PE X e t) (m : ∀ σ H Q, t' σ H Q → t σ H Q) : PE X e t' := ⟨fun pins s σ H Q I q => h.run pins s σ H Q I (m σ H Q q)⟩
theorem PT.mono {X : Cx} {e : Expr} {t t' : TT} (h : PT X e t) (m : ∀ σ H Q, t' σ H Q → t σ H Q) : PT X e t' := ⟨fun pins s σ H Q I q => h.run pins s σ H Q I (m σ H Q q)⟩
theorem PW.mono {X : Cx} {e : Expr} {t t' : TT} (h : PW X e t) (m : ∀ σ H Q, t' σ H Q → t σ H Q) : PW X e t' := ⟨fun wh pins s σ H Q I q => h.run wh pins s σ H Q I (m σ H Q q)⟩
theorem PA.mono {X : Cx} {e : List Expr} {t t' : TA} (h : PA X e t) (m : ∀ σ H Q, t' σ H Q → t σ H Q) : PA X e t' := ⟨fun po pins s σ H Q I q => h.run po pins s σ H Q I (m σ H Q q)⟩
theorem PO.mono {X : Cx} {e : Option Expr} {t t' : TO} (h : PO X e t) (m : ∀ σ H Q, t' σ H Q → t σ H Q) : PO X e t' := ⟨fun pins s σ H Q I q => h.run pins s σ H Q I (m σ H Q q)⟩
theorem PS.mono {X : Cx} {e : Stmt} {t t' : TS} (h : PS X e t) (m : ∀ D σ H, t' D σ H → t D σ H) : PS X e t' := ⟨fun pins s σ H D I q => h.run pins s σ H D I (m D σ H q)⟩
theorem PSs.mono {X : Cx} {e : List Stmt} {t t' : TS} (h : PSs X e t) (m : ∀ D σ H, t' D σ H → t D σ H) : PSs X e t' := ⟨fun pins s σ H D I q => h.run pins s σ H D I (m D σ H q)⟩

section
variable {W : Wd} {WE : XK} {M : Mp} {H : Hp} {S : Sto} {v w : V} {d e : D} {xs ys : List D} {Q : VK} {vs : List V} {p : Addr}
theorem lst_view (rh : RelH W M H S) (r : RepV W M v d) (h : lstOf d S = some xs) : ∃ p vs, v = .ref p ∧ H p = some (.lst vs) ∧ Reps W M vs xs ∧ xs.length ≤ sizeLine := by
  cases r with
  | lst h1 hz hl hr => cases h; exact ⟨_, _, rfl, rh.fro _ _ h1, ⟨hl, hr⟩, hz⟩
  | @cell n a h1 =>
    unfold lstOf at h
    dsimp only at h
    split at h
    · rename_i ys hn
      cases h
      obtain ⟨_, vs, h2, h3, h4⟩ := rh.cel n _ a hn h1
      exact ⟨a, vs, rfl, h2, h3, h4⟩
    · cases h
  | _ => cases h
theorem tup_view (rh : RelH W M H S) (r : RepV W M v (.tup xs)) : ∃ p vs, v = .ref p ∧ H p = some (.tup vs) ∧ M.Hs p = some (.tup vs) ∧ Reps W M vs xs ∧ xs.length ≤ sizeLine := by
  cases r with
  | tup h1 hz hl hr => exact ⟨_, _, rfl, rh.fro _ _ h1, h1, ⟨hl, hr⟩, hz⟩
theorem seq_view (rh : RelH W M H S) (r : RepV W M v d) (h : seqOf d S = some xs) : ∃ p vs, v = .ref p ∧ (H p = some (.lst vs) ∨ SqT W.K H p vs) ∧ Reps W M vs xs ∧ xs.length ≤ sizeLine := by
  by_cases ht : ∃ ys, d = .tup ys
  · obtain ⟨ys, rfl⟩ := ht
    cases h
    obtain ⟨p, vs, h1, h2, _, h3⟩ := tup_view rh r
    exact ⟨p, vs, h1, .inr (SqT.of h2), h3⟩
  · by_cases hf : ∃ ys, d = .ft ys
    · obtain ⟨ys, rfl⟩ := hf
      cases h
      cases r with
      | ft h1 hz hl hr => exact ⟨_, _, rfl, .inr (seqT_mono rh.fro h1), ⟨hl, hr⟩, hz⟩
    · have h' : lstOf d S = some xs := by
        cases d with
        | tup ys => exact absurd ⟨ys, rfl⟩ ht
        | ft ys => exact absurd ⟨ys, rfl⟩ hf
        | _ => exact h
      obtain ⟨p, vs, h1, h2, h3⟩ := lst_view rh r h'
      exact ⟨p, vs, h1, .inl h2, h3⟩
theorem int_view {i : Int} (r : RepV W M v (.int i)) : v = .int i := by cases r; rfl
theorem bl_view {b : Bool} (r : RepV W M v (.bl b)) : v = .bl b := by cases r; rfl
theorem str_view {b : Str} (r : RepV W M v (.str b)) : v = .str b := by cases r; rfl
theorem non_view (r : RepV W M v .non) : v = .non := by cases r; rfl
/-- a new list is handed on, frozen or a cell -/
theorem alloc_ok {c : Bool} (p : Post W (RepV W) WE M (alloc c xs S) Q) (rh : RelH W M H S) (r : Reps W M vs xs) (hz : xs.length ≤ sizeLine) {a : Addr} (ha : H a = none) : Q (.ref a) (upd H a (.lst vs)) := by
  cases c with
  | false =>
    obtain ⟨h1, h2⟩ := rh.newFro (o := .lst vs) ha
    exact p _ _ _ h2 h1 (.lst upd_same hz r.1 fun i v d a b => (r.2 i v d a b).mono h2)
  | true =>
    obtain ⟨h1, h2⟩ := rh.newCell (o := .lst vs) (c := .lst xs) ha ⟨rh.nofro ha, vs, upd_same, r, hz⟩
    refine p _ _ _ h2 h1 (.cell ?_)
    show (M.io ++ [a])[S.length]? = some a
    rw [← rh.len, List.getElem?_append_right (Nat.le_refl _), Nat.sub_self]
    rfl
theorem tup_ok (p : Post W (RepV W) WE M (.ok (.tup xs) S) Q) (rh : RelH W M H S) (r : Reps W M vs xs) (hz : xs.length ≤ sizeLine) {a : Addr} (ha : H a = none) : Q (.ref a) (upd H a (.tup vs)) := by
  obtain ⟨h1, h2⟩ := rh.newFro (o := .tup vs) ha
  exact p _ _ _ h2 h1 (.tup upd_same hz r.1 fun i v d a b => (r.2 i v d a b).mono h2)
theorem sLine_eq : sLine = sizeLine := by rw [sizeLine_eq]; rfl
end

end Mq
end

section
set_option maxHeartbeats 8000000
/-! Fw3b: a tuple taken once, or no time. -/
namespace Mq
open PySem L2 PySem.Spec PyProof.Rows
theorem tup_same (l : Addr) (items : Array Value) (n : Nat) (dd : Option Addr) (sl : Array (Option Value)) (x : Int) (u : Tok) (c0 : (decide (x < -(2 ^ 63)) || decide (x ≥ 2 ^ 63)) = false) (c1 : (items.isEmpty || x == 1) = true) :
    Meets (Builtin.«tuple.__mul__» ⟨[.ref l, .int x u], []⟩) (fun _ R s => s.heap.get? l = some { cls := .type "tuple", dict := dd, data := .seq items n, slots := sl } ∧ R (.ok (.ret (.ref l))) s) :=
  .of_wp fun prog w A R s h => by
    obtain ⟨hp, g, d, tk, os⟩ := s
    obtain ⟨hl, h⟩ := h
    have f1 := AutoSeq1.idx_int
    wp_walk using wpAny_loadPart' hl
    repeat (first
      | (refine wpAny_ite_false (decide_eq_false (by rw [c0]; exact Bool.false_ne_true)) ?_; wp_walk using wpAny_loadPart' hl)
      | (refine wpAny_ite_true (decide_eq_true (by rw [c1])) ?_; wp_walk using wpAny_loadPart' hl))
    exact ⟨_, rfl, h⟩
theorem tup_none (l : Addr) (items : Array Value) (n : Nat) (dd : Option Addr) (sl : Array (Option Value)) (x : Int) (u : Tok) (c0 : (decide (x < -(2 ^ 63)) || decide (x ≥ 2 ^ 63)) = false) (c1 : (items.isEmpty || x == 1) = false) (c2 : (decide (x ≤ 0) || items.isEmpty) = true) :
    Meets (Builtin.«tuple.__mul__» ⟨[.ref l, .int x u], []⟩) (fun _ R s => s.heap.get? l = some { cls := .type "tuple", dict := dd, data := .seq items n, slots := sl } ∧
      R (.ok (.ret (Value.ref s.heap.objs.size))) { s with heap := s.heap.push { cls := Value.type "tuple", data := Data.seq #[] }, toks := s.toks }) :=
  .of_wp fun prog w A R s h => by
    obtain ⟨hp, g, d, tk, os⟩ := s
    obtain ⟨hl, h⟩ := h
    have f1 := AutoSeq1.idx_int
    wp_walk using wpAny_loadPart' hl
    repeat (first
      | (refine wpAny_ite_false (decide_eq_false (by rw [c0]; exact Bool.false_ne_true)) ?_; wp_walk using wpAny_loadPart' hl)
      | (refine wpAny_ite_false (decide_eq_false (by rw [c1]; exact Bool.false_ne_true)) ?_; wp_walk using wpAny_loadPart' hl)
      | (refine wpAny_ite_true (decide_eq_true (by rw [c2])) ?_; wp_walk using wpAny_loadPart' hl))
    exact ⟨_, rfl, h⟩
/-- the same tuple: an empty one, or once; an empty tuple: no time -/
def rOnce (K : PySem.W.Frag) : R2 := fun x y H Q => ∃ l k xs, x = .ref l ∧ y = .int k ∧ SqT K H l xs ∧ -(2 ^ 63) ≤ k ∧ k < 2 ^ 63 ∧ (((xs = [] ∨ k = 1) ∧ Q (.ref l) H) ∨ (xs ≠ [] ∧ k ≤ 0 ∧ ∀ p, H p = none → Q (.ref p) (upd H p (.tup []))))
theorem op_once {X : Cx} : OpR X (binaryOp .Mult) (rOnce X.K) := by
  intro pins s σ H x y v u Q I rx ry h
  obtain ⟨l, k, xs, rfl, rfl, hT, h1, h2, q⟩ := h
  cases rx
  obtain ⟨t, rfl⟩ := ry
  obtain ⟨its, r, ⟨⟨cls, dd, data, sl⟩, ho, hc, n, hd⟩, hs⟩ := I.tuple hT
  simp only at hc hd
  subst hc hd
  have many : its.length = xs.length := r.length.symm
  have c0 : (decide (k < -(2 ^ 63)) || decide (k ≥ 2 ^ 63)) = false := by
    rw [decide_eq_false (by omega), decide_eq_false (by omega)] <;> rfl
  rcases q with ⟨e, q⟩ | ⟨e, hk, q⟩
  · have c1 : (its.toArray.isEmpty || k == 1) = true := by
      rcases e with e | e
      · subst e
        cases List.eq_nil_of_length_eq_zero many
        rfl
      · subst e
        rw [Bool.or_eq_true]
        exact .inr rfl
    refine wpAny_binaryOp_repeat_ref (T := "tuple") (U := "int") (by decide) ⟨_, ho, rfl⟩ (fun s' => typeIs_int s' k t) noFill_tuple_mul F.fills_int_mul F.slot_int_rmul repeat_tuple F.slot_int_index.lookup
      (call_meets F.slot_int_rmul (typeIs_int s k t) F.entry_int_rmul (F.args_int_rmul_2 _ _) (int_rmul_tuple k t l its.toArray n dd sl)
        ⟨ho, rfl, ⟨_, ho, rfl⟩, call_meets F.slot_tuple_mul ⟨_, ho, rfl⟩ F.entry_tuple_mul (F.args_tuple_mul_2 _ _) (tup_same l its.toArray n dd sl k t c0 c1) ⟨ho, ?_⟩⟩)
    exact ⟨.ref l, H, I, rfl, q⟩
  · have hi : its.toArray.isEmpty = false := by
      cases its with
      | nil => exact absurd (List.eq_nil_of_length_eq_zero many.symm) e
      | cons a b => rfl
    have c1 : (its.toArray.isEmpty || k == 1) = false := by
      rw [hi, Bool.false_or]
      exact beq_eq_false_iff_ne.mpr (by omega)
    have c2 : (decide (k ≤ 0) || its.toArray.isEmpty) = true := by rw [decide_eq_true hk] <;> rfl
    refine wpAny_binaryOp_repeat_ref (T := "tuple") (U := "int") (by decide) ⟨_, ho, rfl⟩ (fun s' => typeIs_int s' k t) noFill_tuple_mul F.fills_int_mul F.slot_int_rmul repeat_tuple F.slot_int_index.lookup
      (call_meets F.slot_int_rmul (typeIs_int s k t) F.entry_int_rmul (F.args_int_rmul_2 _ _) (int_rmul_tuple k t l its.toArray n dd sl)
        ⟨ho, rfl, ⟨_, ho, rfl⟩, call_meets F.slot_tuple_mul ⟨_, ho, rfl⟩ F.entry_tuple_mul (F.args_tuple_mul_2 _ _) (tup_none l its.toArray n dd sl k t c0 c1 c2) ⟨ho, ?_⟩⟩)
    refine ⟨.ref s.heap.objs.size, _, I.laid (t' := s.toks) (o := .tup []) (fun b ob q => Heap.get?_push_of_some _ q) (Nat.le_refl _) ?_, rfl, q _ (I.hok.fresh (Nat.le_refl _))⟩
    exact ⟨Nat.zero_le _, [], .nil, IsTup.new _ _⟩
/-- sum of a tuple of ints -/
def rSumT (K : PySem.W.Frag) : List V → Hp → VK → Prop := fun vs H Q => ∃ (a : Addr) (ns : List Int), vs = [V.ref a] ∧ SqT K H a (ns.map V.int) ∧ Q (.int ns.sum) H
theorem cr_sumT {X : Cx} (hc : X.calm = true) : CallR X (.builtin "sum") (rSumT X.K) := by
  intro pins s σ H vs us Q I r h
  obtain ⟨a, ns, rfl, hs, q⟩ := h
  obtain ⟨its, rv, hl, _⟩ := I.tuple hs
  rw [Vals.ref1 r]
  have hi := rv.ints
  obtain ⟨xs, e⟩ := hi.allInts.items
  have hn : numsOf (intItems xs).toList = ns := by rw [← e]; exact hi.numsOf
  rw [nums_intItems] at hn
  have hl : s.heap.IsTuple a (intItems xs) := by rw [← e]; exact hl
  refine PySem.W.ktm_sumG (I.ok.hd hc) hl fun h' tk t' hk => ?_
  rw [preSum_eq, List.take_of_length_le (by simp), hn]
  exact ⟨.int _, H, I.kept hk, ⟨_, rfl⟩, q⟩
/-- list.count of a bool -/
def rCntB (K : PySem.W.Frag) : V → List V → Hp → VK → Prop := fun x xs H Q => ∃ (p : Addr) (bs : List Bool) (k : Bool), x = .ref p ∧ xs = [.bl k] ∧ SqL K H p (bs.map V.bl) ∧ Q (.int (bs.count k : Nat)) H
def isBl (k : Bool) : Value → Bool
  | .bool b => b == k
  | _ => false
theorem bl_count {k : Bool} : ∀ {its : List Value} {bs : List Bool}, Vals (bs.map V.bl) its → its.countP (isBl k) = bs.count k ∧ ∀ y ∈ its, ∃ b, y = .bool b
  | _, [], h => by cases h; exact ⟨rfl, fun y hy => nomatch hy⟩
  | _, b :: bs, h => by
    cases h with
    | cons r t =>
      obtain ⟨h1, h2⟩ := bl_count (k := k) t
      cases (show _ = Value.bool b from r)
      refine ⟨?_, fun y hy => ?_⟩
      · rw [List.countP_cons, List.count_cons, h1]
        rfl
      · rcases List.mem_cons.mp hy with e | e
        · exact ⟨b, e⟩
        · exact h2 y e
theorem mt_cntB {X : Cx} (hu : X.A.units + 200 < cLine) : MtR X "list.count" (rCntB X.K) := by
  intro pins s σ H x xs v us Q I rx rxs h
  obtain ⟨p, bs, k, rfl, rfl, hs, q⟩ := h
  cases rx
  obtain ⟨u, rfl, ru⟩ := rxs.one
  cases (show u = Value.bool k from ru)
  obtain ⟨its, rv, ⟨⟨cls, dd, data, sl⟩, n, ho, hc, hdn, hd⟩, hlen⟩ := I.list hs
  simp only at hc hd
  subst hc hd
  obtain ⟨h1, h2⟩ := bl_count (k := k) rv
  refine call_meets PySem.F.slot_list_count ⟨_, ho, rfl⟩ PySem.F.entry_list_count (PySem.F.args_list_count_2 _ _)
    (SeqAt.list_countAt p its.toArray n dd sl (.bool k) (isBl k)) ⟨ho, fun y hy => ?_, ?_⟩
  · obtain ⟨b, rfl⟩ := h2 y (by simpa using hy)
    have e := PySem.SeqAt.eqAt_reads (.bool b) (.bool k) X.A.in1 s (.bool b) (.bool k) [] [] (.bool b) (.bool k) rfl rfl (by
      show X.A.units + 1 + 0 < cLine
      omega)
    have z : PyData.eqv (.bool b) (.bool k) = isBl k (.bool b) := by cases b <;> cases k <;> rfl
    rw [z] at e
    exact e
  · refine ⟨.int (bs.count k : Nat), H, I.tok _, ⟨s.toks, ?_⟩, q⟩
    show Value.int ((its.toArray.toList.countP (isBl k) : Nat) : Int) s.toks = Value.int ((bs.count k : Nat) : Int) s.toks
    rw [show its.toArray.toList.countP (isBl k) = bs.count k from h1]
end Mq
end

section
set_option maxHeartbeats 8000000
/-! Fw4: operators on data are operators on values. -/
namespace Mq
open PySem L2 PySem.Spec PyProof.Rows
section
variable {X : Cx} {W : Wd} {WE : XK}
def rBin (W : Wd) (WE : XK) (o : Operator) (c : Bool) : R2 := fun x y H Q => ∃ M S a b, RelH W M H S ∧ RepV W M x a ∧ RepV W M y b ∧ Post W (RepV W) WE M (binD o c a b S) Q
theorem bin_int {o : Operator} {c : Bool} {i j : Int} {pins : List (Addr × Obj)} {σ : L2.St} {s : Shared} {v u : Value} {H : Hp} {Q : VK} {M : Mp} {S : Sto}
    (I : Inv X pins σ H s) (rx : RelV (.int i) v) (ry : RelV (.int j) u) (rh : RelH W M H S) (p : Post W (RepV W) WE M (binD o c (.int i) (.int j) S) Q) :
    wpAny (model X.prog X.w) X.A (binaryOp o v u) (EP X pins σ Q) X.xe s := by
  cases o with
  | Add => exact op_add pins s σ H _ _ v u Q I rx ry ⟨i, j, rfl, rfl, p _ _ _ (.refl M) rh (.int _)⟩
  | Sub => exact op_sub pins s σ H _ _ v u Q I rx ry ⟨i, j, rfl, rfl, p _ _ _ (.refl M) rh (.int _)⟩
  | Mult =>
    have p : Post W (RepV W) WE M (if (-(2 ^ 64) < i ∧ i < 2 ^ 64) ∨ (-(2 ^ 64) < j ∧ j < 2 ^ 64) then R.ok (D.int (i * j)) S else .no) Q := p
    split at p
    · rename_i h
      exact op_mul pins s σ H _ _ v u Q I rx ry ⟨i, j, rfl, rfl, h, p _ _ _ (.refl M) rh (.int _)⟩
    · exact p.elim
  | FloorDiv =>
    have p : Post W (RepV W) WE M (if 0 < j ∧ j < 2 ^ 64 then R.ok (D.int (i / j)) S else .no) Q := p
    split at p
    · rename_i h
      exact op_fdivW pins s σ H _ _ v u Q I rx ry ⟨i, j, rfl, rfl, wide_div (b := 64) h.1 (by omega) (by decide) (by decide), p _ _ _ (.refl M) rh (.int _)⟩
    · exact p.elim
  | Mod =>
    have p : Post W (RepV W) WE M (if 0 < j then R.ok (D.int (i % j)) S else .no) Q := p
    split at p
    · rename_i h
      exact op_mod pins s σ H _ _ v u Q I rx ry ⟨i, j, rfl, rfl, h, p _ _ _ (.refl M) rh (.int _)⟩
    · exact p.elim
  | Pow =>
    have p : Post W (RepV W) WE M (if 0 ≤ j ∧ j ≤ 1000000 ∧ i.natAbs < 2 ^ 64 then R.ok (D.int (i ^ j.toNat)) S else .no) Q := p
    split at p
    · rename_i h
      exact op_pow pins s σ H _ _ v u Q I rx ry ⟨i, j, rfl, rfl, h, p _ _ _ (.refl M) rh (.int _)⟩
    · exact p.elim
  | _ => exact p.elim
theorem bin_rep {o : Operator} {c : Bool} {a : D} {k : Int} {pins : List (Addr × Obj)} {σ : L2.St} {s : Shared} {x : V} {v u : Value} {H : Hp} {Q : VK} {M : Mp} {S : Sto}
    (I : Inv X pins σ H s) (rx : RelV x v) (ry : RelV (.int k) u) (rh : RelH W M H S) (ra : RepV W M x a)
    (p : Post W (RepV W) WE M (match o, lstOf a S with
      | .Mult, some xs => if -(2 ^ 63) ≤ k ∧ k < 2 ^ 63 ∧ xs.length * k.toNat ≤ sLine then alloc c (List.replicate k.toNat xs).flatten S else .no
      | _, _ => .no) Q) : wpAny (model X.prog X.w) X.A (binaryOp o v u) (EP X pins σ Q) X.xe s := by
  split at p
  · rename_i xs hx
    obtain ⟨l, vs, rfl, h1, h2, h3⟩ := lst_view rh ra hx
    split at p
    · rename_i h
      obtain ⟨g1, g2, g3⟩ := h
      refine op_rep pins s σ H _ _ v u Q I rx ry ⟨l, k, vs, rfl, rfl, h1, g1, g2, by rw [h2.1, ← sLine_eq]; exact g3, fun q hq => ?_⟩
      exact alloc_ok p rh (h2.rep _) (by rw [PyProof.Rows.lm_len_rep_flat, ← sLine_eq, Nat.mul_comm]; exact g3) hq
    · exact p.elim
  · exact p.elim
theorem bin_cat {o : Operator} {c : Bool} {a b : D} {pins : List (Addr × Obj)} {σ : L2.St} {s : Shared} {x y : V} {v u : Value} {H : Hp} {Q : VK} {M : Mp} {S : Sto}
    (I : Inv X pins σ H s) (rx : RelV x v) (ry : RelV y u) (rh : RelH W M H S) (ra : RepV W M x a) (rb : RepV W M y b)
    (p : Post W (RepV W) WE M (match o, lstOf a S, lstOf b S with
      | .Add, some xs, some ys => if xs.length + ys.length ≤ sLine then alloc c (xs ++ ys) S else .no
      | _, _, _ => .no) Q) : wpAny (model X.prog X.w) X.A (binaryOp o v u) (EP X pins σ Q) X.xe s := by
  split at p
  · rename_i xs ys hx hy
    obtain ⟨l, vs, rfl, h1, h2, h3⟩ := lst_view rh ra hx
    obtain ⟨l2, ws, rfl, k1, k2, k3⟩ := lst_view rh rb hy
    split at p
    · rename_i h
      refine op_cat pins s σ H _ _ v u Q I rx ry ⟨l, l2, vs, ws, rfl, rfl, h1, k1, by rw [h2.1, k2.1, ← sLine_eq]; exact h, fun q hq => ?_⟩
      exact alloc_ok p rh (h2.app k2) (by rw [List.length_append, ← sLine_eq]; exact h) hq
    · exact p.elim
  · exact p.elim
theorem reps_nil_iff {M : Mp} {vs : List V} {ds : List D} (r : Reps W M vs ds) : vs = [] ↔ ds = [] := by
  constructor
  · rintro rfl; exact List.eq_nil_of_length_eq_zero r.1.symm
  · rintro rfl; exact List.eq_nil_of_length_eq_zero r.1
theorem op_bin (hK : W.K = X.K) (o : Operator) (c : Bool) : OpR X (binaryOp o) (rBin W WE o c) := by
  intro pins s σ H x y v u Q I rx ry ⟨M, S, a, b, rh, ra, rb, p⟩
  unfold binD at p
  split at p
  · rename_i i j
    cases int_view ra
    cases int_view rb
    exact bin_int (c := c) I rx ry rh (by unfold binD; exact p)
  · rename_i i j
    cases str_view ra
    cases str_view rb
    split at p
    · split at p
      · rename_i h
        exact op_add_str pins s σ H _ _ v u Q I rx ry ⟨i, j, rfl, rfl, by rw [← sLine_eq]; exact h, p _ _ _ (.refl M) rh (.str _)⟩
      · exact p.elim
    · exact p.elim
  · rename_i xs ys
    obtain ⟨l, vs, rfl, h1', _, h2, h3⟩ := tup_view rh ra
    obtain ⟨l2, ws, rfl, k1', _, k2, k3⟩ := tup_view rh rb
    have h1 : SqT X.K H l vs := SqT.of h1'
    have k1 : SqT X.K H l2 ws := SqT.of k1'
    split at p
    · split at p
      · rename_i h
        refine op_catA pins s σ H _ _ v u Q I rx ry ⟨l, l2, vs, ws, rfl, rfl, h1, k1, by rw [h2.1, k2.1, ← sLine_eq]; exact h, fun e => ?_, fun e e2 => ?_, fun e e2 q hq => ?_⟩
        · have := (reps_nil_iff h2).mp e
          subst this
          exact p _ _ _ (.refl M) rh rb
        · have := (reps_nil_iff k2).mp e2
          subst this
          rw [List.append_nil] at p
          exact p _ _ _ (.refl M) rh ra
        · exact tup_ok p rh (h2.app k2) (by rw [List.length_append, ← sLine_eq]; exact h) hq
      · exact p.elim
    · exact p.elim
  · rename_i xs k
    cases int_view rb
    obtain ⟨l, vs, rfl, h1', _, h2, h3⟩ := tup_view rh ra
    have h1 : SqT X.K H l vs := SqT.of h1'
    split at p
    · split at p
      · rename_i h
        obtain ⟨g1, g2, g3⟩ := h
        by_cases e : xs = []
        · subst e
          have e2 := h2.nil_inv
          subst e2
          refine op_once pins s σ H _ _ v u Q I rx ry ⟨l, k, [], rfl, rfl, h1, by omega, by omega, .inl ⟨.inl rfl, ?_⟩⟩
          have z : (List.replicate k.toNat ([] : List D)).flatten = [] := by simp
          rw [z] at p
          exact p _ _ _ (.refl M) rh ra
        · have e2 : vs ≠ [] := fun z => e ((reps_nil_iff h2).mp z)
          by_cases k1 : k = 1
          · subst k1
            refine op_once pins s σ H _ _ v u Q I rx ry ⟨l, 1, vs, rfl, rfl, h1, by omega, by omega, .inl ⟨.inr rfl, ?_⟩⟩
            have z : (List.replicate (1 : Int).toNat xs).flatten = xs := by simp
            rw [z] at p
            exact p _ _ _ (.refl M) rh ra
          · by_cases k0 : k = 0
            · subst k0
              refine op_once pins s σ H _ _ v u Q I rx ry ⟨l, 0, vs, rfl, rfl, h1, by omega, by omega, .inr ⟨e2, by omega, fun q hq => ?_⟩⟩
              have z : (List.replicate (0 : Int).toNat xs).flatten = [] := by simp
              rw [z] at p
              exact tup_ok p rh .nil (Nat.zero_le _) hq
            · refine op_repT pins s σ H _ _ v u Q I rx ry ⟨l, k, vs, rfl, rfl, h1, e2, by omega, g2, by rw [h2.1]; exact g3, fun q hq => ?_⟩
              refine tup_ok p rh (h2.rep _) ?_ hq
              rw [PyProof.Rows.lm_len_rep_flat, sizeLine_eq]
              have a1 : k.toNat * xs.length ≤ 1000 * 1000 := Nat.mul_le_mul (by omega) g3
              omega
      · exact p.elim
    · exact p.elim
  · rename_i k h1 h2
    cases int_view rb
    exact bin_rep I rx ry rh ra p
  · exact bin_cat I rx ry rh ra rb p

/-! ### == -/
theorem eqSc_scal {M : Mp} {x y : V} {a b : D} (ra : RepV W M x a) (rb : RepV W M y b) {k : Bool} (h : eqSc a b = some k) : scal x y = true ∧ decide (x = y) = k := by
  cases ra <;> cases rb <;> cases h <;> exact ⟨rfl, by simp⟩
theorem py_dp {M : Mp} {H : Hp} {S : Sto} (rh : RelH W M H S) : ∀ (k : Nat) {x : V} {a : D} {e : PyData}, RepV W M x a → toPy k a S = some e → Dp W.K H x e
  | 0, x, a, e, _, h => by cases h
  | k + 1, x, a, e, r, h => by
    have all : ∀ {vs : List V} {ds : List D} {es : List PyData}, Reps W M vs ds → pys (fun x => toPy k x S) ds = some es → DpAll W.K H vs es := by
      intro vs ds
      induction ds generalizing vs with
      | nil => intro es r h; cases h; rw [r.nil_inv]; exact .nil
      | cons d ds ih =>
        intro es r h
        obtain ⟨v, ws, rfl, r1, r2⟩ := r.cons_inv
        unfold pys at h
        split at h
        · rename_i y ys hy hys
          cases h
          exact .cons (py_dp rh k r1 hy) (ih r2 hys)
        · cases h
    unfold toPy at h
    cases r with
    | non => cases h; exact .non
    | bl b => cases h; exact .bl b
    | int i => cases h; exact .int i
    | str z => cases h; exact .str z
    | lst h1 hz hl hr =>
      obtain ⟨es, h2, rfl⟩ := Option.map_eq_some_iff.mp h
      exact .lst (SqL.of (rh.fro _ _ h1)) (all ⟨hl, hr⟩ h2)
    | tup h1 hz hl hr =>
      obtain ⟨es, h2, rfl⟩ := Option.map_eq_some_iff.mp h
      exact .tup (SqT.of (rh.fro _ _ h1)) (all ⟨hl, hr⟩ h2)
    | ft h1 hz hl hr =>
      obtain ⟨es, h2, rfl⟩ := Option.map_eq_some_iff.mp h
      exact .tup (seqT_mono rh.fro h1) (all ⟨hl, hr⟩ h2)
    | ins h1 hz hl hr => cases h
    | fl h1 hz hl hr => cases h
    | @cell n p h1 =>
      dsimp only at h
      split at h
      · rename_i ys hn
        obtain ⟨es, h2, rfl⟩ := Option.map_eq_some_iff.mp h
        obtain ⟨_, vs, k2, k3, _⟩ := rh.cel n _ p hn h1
        exact .lst (SqL.of k2) (all k3 h2)
      · cases h
def rCmp (W : Wd) (WE : XK) (o : CmpOp) : R2 := fun x y H Q => ∃ M S a b, RelH W M H S ∧ RepV W M x a ∧ RepV W M y b ∧ Post W (RepV W) WE M (cmpD o a b S) Q
theorem opt_ok {S : Sto} {M : Mp} {o : Option D} {Q : VK} (p : Post W (RepV W) WE M (R.opt S o) Q) : ∃ d, o = some d ∧ Post W (RepV W) WE M (.ok d S) Q := by
  cases o with
  | none => exact p.elim
  | some d => exact ⟨d, rfl, p⟩
theorem eq_cases {a b : D} {S : Sto} {k : Bool} (h : eqD a b S = some k) : eqSc a b = some k ∨ ∃ d e, toPy 8 a S = some d ∧ toPy 8 b S = some e ∧ SeqAt.shaped d = true ∧ SeqAt.shaped e = true ∧ PyData.eqv d e = k := by
  unfold eqD at h
  split at h
  · rename_i hb
    exact .inl (hb.trans h)
  · split at h
    · split at h
      · rename_i h2
        exact .inr ⟨_, _, by assumption, by assumption, h2.1, h2.2, Option.some.inj h⟩
      · cases h
    · cases h
theorem flat_view {M : Mp} {x : V} {a : D} {v : V} (r : RepV W M x a) (h : flatD a = some v) : x = v ∧ flatV x = true := by
  cases r <;> cases h <;> exact ⟨rfl, rfl⟩
theorem flats_view {M : Mp} : ∀ {vs : List V} {ds : List D} {ws : List V}, Reps W M vs ds → flats ds = some ws → vs = ws ∧ vs.all flatV = true
  | vs, [], ws, r, h => by cases h; rw [r.nil_inv]; exact ⟨rfl, rfl⟩
  | vs, d :: ds, ws, r, h => by
    obtain ⟨v, us, rfl, r1, r2⟩ := r.cons_inv
    unfold flats at h
    split at h
    · rename_i y ys hy hys
      cases h
      obtain ⟨e1, f1⟩ := flat_view r1 hy
      obtain ⟨e2, f2⟩ := flats_view r2 hys
      subst e1; subst e2
      exact ⟨rfl, by rw [List.all_cons, f1, f2]; rfl⟩
    · cases h
theorem key_view {M : Mp} {x : V} {a : D} {k : Key} (r : RepV W M x a) (h : keyD a = some k) : x = kV k := by
  cases r <;> cases h <;> rfl
theorem keys_view {M : Mp} : ∀ {vs : List V} {ds : List D} {ks : List Key}, Reps W M vs ds → keysD ds = some ks → vs = ks.map kV
  | vs, [], ks, r, h => by cases h; rw [r.nil_inv]; rfl
  | vs, d :: ds, ks, r, h => by
    obtain ⟨v, us, rfl, r1, r2⟩ := r.cons_inv
    unfold keysD at h
    split at h
    · rename_i y ys hy hys
      cases h
      rw [key_view r1 hy, keys_view r2 hys]
      rfl
    · cases h
end
end Mq
end

section
set_option maxHeartbeats 8000000
/-! Fw4e: dicts whose keys are tuples of ints and truths. -/
namespace Mq
open PySem L2 PySem.Spec PyProof.Rows
theorem bV_is {v : V} {u : Value} {k : Int} (r : RelV v u) (h : bV v = some k) : Leaf.isOf (.num k) u = true := by
  cases v <;> first | (cases h; done) | skip
  all_goals first
    | (cases h; obtain ⟨t, rfl⟩ := r; exact decide_eq_true rfl)
    | (cases h; cases (show u = Value.bool _ from r); exact decide_eq_true rfl)
theorem bVs_are {P : Program} {w : World} : ∀ {vs : List V} {us : List Value} {ks : List Int}, Vals vs us → bVs vs = some ks → ItemsAre (leafKind P w) (ks.map Leaf.num) us
  | [], us, ks, r, h => by cases r; cases h; exact .nil
  | v :: vs, us, ks, r, h => by
    cases r with
    | cons r1 r2 =>
      unfold bVs at h
      split at h
      · rename_i y ys h1 h2
        cases h
        exact .cons (bV_is r1 h1) (bVs_are r2 h2)
      · cases h
theorem bVs_rel {W : Wd} {M : Mp} : ∀ {vs : List V} {ds : List D} {ks : List Int}, Reps W M vs ds → keysB ds = some ks → bVs vs = some ks
  | vs, [], ks, r, h => by rw [r.nil_inv]; exact h
  | vs, d :: ds, ks, r, h => by
    obtain ⟨v, ws, rfl, r1, r2⟩ := r.cons_inv
    unfold keysB at h
    split at h
    · rename_i y ys h1 h2
      cases h
      unfold bVs
      rw [bVs_rel r2 h2]
      have e : bV v = some y := by
        cases r1 <;> first | exact h1 | cases h1
      rw [e]
    · cases h
theorem num_inj : ∀ {a b : List Int}, a.map Leaf.num = b.map Leaf.num → a = b
  | [], [], _ => rfl
  | [], _ :: _, h => by cases h
  | _ :: _, [], h => by cases h
  | x :: a, y :: b, h => by
    simp only [List.map_cons, List.cons.injEq, Leaf.num.injEq] at h
    rw [h.1, num_inj h.2]
theorem dbX_keys : ∀ {ents : List (List Int × Addr × V)} {us : List Value}, Vals (ents.map (·.2.2)) us → (dbX ents us).map (·.1) = (ents.map (·.1)).map (·.map Leaf.num)
  | [], us, r => by cases r; rfl
  | e :: ents, us, r => by
    cases r with
    | cons r1 r2 =>
      have ih := dbX_keys (ents := ents) r2
      unfold dbX at ih ⊢
      simp only [List.zip_cons_cons, List.map_cons]
      rw [ih]
theorem dbX_app : ∀ {ents : List (List Int × Addr × V)} {us : List Value} {k : List Int} {b : Addr} {v : V} {u : Value}, Vals (ents.map (·.2.2)) us → dbX (ents ++ [(k, b, v)]) (us ++ [u]) = dbX ents us ++ [(k.map Leaf.num, b, u)]
  | [], us, k, b, v, u, r => by cases r; rfl
  | e :: ents, us, k, b, v, u, r => by
    cases r with
    | cons r1 r2 =>
      have ih := dbX_app (k := k) (b := b) (v := v) (u := u) (ents := ents) r2
      unfold dbX at ih ⊢
      simp only [List.cons_append, List.zip_cons_cons, List.map_cons]
      rw [ih]
theorem dbX_mem : ∀ {ents : List (List Int × Addr × V)} {us : List Value} {x : List Leaf × Addr × Value}, x ∈ dbX ents us → ∃ e ∈ ents, x.1 = e.1.map Leaf.num ∧ x.2.1 = e.2.1
  | [], us, x, h => by cases h
  | e :: ents, [], x, h => by cases h
  | e :: ents, u :: us, x, h => by
    unfold dbX at h
    simp only [List.zip_cons_cons, List.map_cons] at h
    rcases List.mem_cons.mp h with h | h
    · subst h
      exact ⟨e, .head _, rfl, rfl⟩
    · obtain ⟨e', h1, h2⟩ := dbX_mem (ents := ents) (us := us) h
      exact ⟨e', .tail _ h1, h2⟩
theorem atKey_none {κ : Type} [DecidableEq κ] {xs : List (κ × Addr × Value)} {k : κ} : (atKey xs k).isSome = true ↔ k ∈ xs.map (·.1) := by
  unfold atKey
  rw [Option.isSome_map]
  induction xs with
  | nil => simp
  | cons x xs ih =>
    rw [List.find?_cons]
    by_cases h : x.1 = k
    · simp [h]
    · simp only [h, decide_false]
      rw [ih]
      simp [Ne.symm h]
theorem lookD_in {κ : Type} [DecidableEq κ] {kvs : List (κ × D)} {k : κ} : (lookD kvs k).isSome = true ↔ k ∈ kvs.map (·.1) := by
  unfold lookD
  rw [Option.isSome_map]
  induction kvs with
  | nil => simp
  | cons x xs ih =>
    rw [List.find?_cons]
    by_cases h : x.1 = k
    · simp [h]
    · simp only [h, decide_false]
      rw [ih]
      simp [Ne.symm h]
theorem mem_num {k : List Int} {l : List (List Int)} : k.map Leaf.num ∈ l.map (·.map Leaf.num) ↔ k ∈ l :=
  ⟨fun h => by obtain ⟨j, h1, h2⟩ := List.mem_map.mp h; rw [← num_inj h2]; exact h1, fun h => List.mem_map.mpr ⟨k, h, rfl⟩⟩
section
variable {X : Cx} {W : Wd} {M : Mp} {H : Hp} {S : Sto} {pins : List (Addr × Obj)} {σ : L2.St} {s : Shared} {a b : Addr} {vs : List V} {ks : List Int}
/-- a tracked tuple of ints and truths is a key -/
theorem bkey (ok : HOk X.prog X.w H s.heap) (e : H b = some (.tup vs)) (h : bVs vs = some ks) : (tupleKind (leafKind X.prog X.w)).is s.heap (ks.map Leaf.num) b := by
  obtain ⟨_, its, r, o, h1, h2, n, h3⟩ := (show ObjOk X.prog X.w H s.heap b (.tup vs) from ok b _ e)
  exact ⟨o, its.toArray, n, h1, h2, h3, by simpa using bVs_are r h⟩
theorem db_dict {ents : List (List Int × Addr × V)} (I : Inv X pins σ H s) (rh : RelH W M H S) (e : H a = some (.ext (dbRaw a ents))) (hk : ∀ e ∈ ents, ∃ vs, M.Hs e.2.1 = some (.tup vs) ∧ bVs vs = some e.1) :
    (a == sysModules) = false ∧ ents.length ≤ sizeLine ∧ ∃ us, Vals (ents.map (·.2.2)) us ∧ s.heap.DictOfH (tupleKind (leafKind X.prog X.w)) a (dbX ents us) := by
  obtain ⟨⟨h1, h2, h3, us, h4, o, es, ep, h5, h6, h7, h8⟩, _⟩ := (show ObjOk X.prog X.w H s.heap a (.ext (dbRaw a ents)) from I.hok a _ e)
  refine ⟨h1, h2, us, h4, o, es, ep, h5, h6, h7, h8 _ _, fun x hx => ?_, ?_⟩
  · obtain ⟨e', g1, g2, g3⟩ := dbX_mem hx
    obtain ⟨vs, g4, g5⟩ := hk e' g1
    rw [g2, g3]
    exact bkey I.hok (rh.fro _ _ g4) g5
  · rw [dbX_keys h4]
    exact List.Pairwise.map _ (fun _ _ n q => n (num_inj q)) h3
theorem db_in {ents : List (List Int × Addr × V)} {kvs : List (List Int × D)} {k : Bool} (hu : X.A.units + 1 < cLine) (I : Inv X pins σ H s) (rh : RelH W M H S) (e : H a = some (.ext (dbRaw a ents))) (hk : ∀ e ∈ ents, ∃ vs, M.Hs e.2.1 = some (.tup vs) ∧ bVs vs = some e.1)
    (hm : ents.map (·.1) = kvs.map (·.1)) (eb : H b = some (.tup vs)) (hb : bVs vs = some ks) (h : (lookD kvs ks).isSome = k) :
    (∀ Q : VK, Q (.bl k) H → wpAny (model X.prog X.w) X.A (compareOp .In (.ref b) (.ref a)) (EP X pins σ Q) X.xe s) ∧ (∀ Q : VK, Q (.bl (!k)) H → wpAny (model X.prog X.w) X.A (compareOp .NotIn (.ref b) (.ref a)) (EP X pins σ Q) X.xe s) := by
  obtain ⟨h1, h2, us, h3, dd⟩ := db_dict I rh e hk
  have e1 : (atKey (dbX ents us) (ks.map Leaf.num)).isSome = k := by
    rw [← h, Bool.eq_iff_iff, atKey_none, dbX_keys h3, lookD_in, hm]
    exact mem_num
  refine ⟨fun Q q => wpAny_in_heap (tupleKind_room_in1 hu) (bkey I.hok eb hb) h1 dd ?_, fun Q q => wpAny_notIn_heap (tupleKind_room_in1 hu) (bkey I.hok eb hb) h1 dd ?_⟩
  · rw [e1]
    exact ⟨.bl k, H, I.tok _, rfl, q⟩
  · rw [e1]
    exact ⟨.bl (!k), H, I.tok _, rfl, q⟩
theorem hash_same {P P' : Program} {w w' : World} {x : List Int} {b : Addr} {u : Value} : entryOfKey (tupleKind (leafKind P w)) (x.map Leaf.num, b, u) = entryOfKey (tupleKind (leafKind P' w')) (x.map Leaf.num, b, u) := by
  have e : ∀ l : List Int, (l.map Leaf.num).map (leafKind P w).hash = (l.map Leaf.num).map (leafKind P' w').hash := by
    intro l
    rw [List.map_map, List.map_map]
    rfl
  show DictEntry.mk (tupleKeyHash (leafKind P w) (x.map Leaf.num)) _ _ = DictEntry.mk (tupleKeyHash (leafKind P' w') (x.map Leaf.num)) _ _
  unfold tupleKeyHash
  rw [e x]
theorem db_set {ents : List (List Int × Addr × V)} {kvs : List (List Int × D)} {v : V} {u : Value} {Q : Unit → Shared → Prop} {E : Value → Shared → Prop} (hu : X.A.units + 1 < cLine) (I : Inv X pins σ H s) (rh : RelH W M H S) (e : H a = some (.ext (dbRaw a ents))) (hk : ∀ e ∈ ents, ∃ vs, M.Hs e.2.1 = some (.tup vs) ∧ bVs vs = some e.1)
    (hm : ents.map (·.1) = kvs.map (·.1)) (eb : H b = some (.tup vs)) (hb : bVs vs = some ks) (hl : ents.length < sizeLine) (hn : lookD kvs ks = none) (rv : RelV v u)
    (h : ∀ s', Inv X pins σ (upd H a (.ext (dbRaw a (ents ++ [(ks, b, v)])))) s' → Q () s') : wpAny (model X.prog X.w) X.A (setItem (.ref a) (.ref b) u) Q E s := by
  obtain ⟨h1, h2, us, h3, dd⟩ := db_dict I rh e hk
  have no : ks ∉ ents.map (·.1) := fun q => by
    have z : (lookD kvs ks).isSome = true := by rw [lookD_in, ← hm]; exact q
    rw [hn] at z
    cases z
  have e1 : atKey (dbX ents us) (ks.map Leaf.num) = none := by
    cases q : atKey (dbX ents us) (ks.map Leaf.num) with
    | none => rfl
    | some p =>
      have z : (atKey (dbX ents us) (ks.map Leaf.num)).isSome = true := by rw [q]; rfl
      rw [atKey_none, dbX_keys h3] at z
      exact (no (mem_num.mp z)).elim
  have hz : (dbX ents us).length ≤ sizeLine := by
    have z := congrArg List.length (dbX_keys h3)
    simp only [List.length_map] at z
    omega
  refine wpAny_setItem_heap (hsz := hz) (tupleKind_room_in1 hu) (bkey I.hok eb hb) dd fun h' dd' hs => h _ ?_
  rw [storedH_new e1, ← dbX_app (v := v) h3] at dd'
  obtain ⟨o, es, ep, g1, g2, g3, g4, _, _⟩ := dd'
  have hv : Vals ((ents ++ [(ks, b, v)]).map (·.2.2)) (us ++ [u]) := by
    rw [List.map_append]
    exact h3.append (.cons rv .nil)
  refine d_write I (by rw [e]; exact True.intro) hs ⟨o, g1⟩ ⟨⟨h1, ?_, ?_, us ++ [u], hv, o, es, ep, g1, g2, g3, fun P w => ?_⟩, ⟨o, g1⟩, fun h1 h2 ⟨c1, c2, c3, ws, c4, o', es', ep', c5, c6⟩ k => ⟨c1, c2, c3, ws, c4, o', es', ep', k _ c5, c6⟩⟩
  · rw [List.length_append]
    exact hl
  · rw [List.map_append]
    refine List.nodup_append.mpr ⟨?_, by simp, ?_⟩
    · have z := dd.choose_spec.choose_spec.choose_spec.2.2.2.2.2
      rw [dbX_keys h3] at z
      exact List.Pairwise.of_map _ (fun a b n q => n (by rw [q])) z
    · intro x hx y hy q
      simp only [List.map_cons, List.map_nil, List.mem_singleton] at hy
      rw [q, hy] at hx
      exact no hx
  · rw [g4]
    refine List.map_congr_left fun x hx => ?_
    obtain ⟨e', _, q1, q2⟩ := dbX_mem hx
    obtain ⟨x1, x2, x3⟩ := x
    dsimp only at q1
    subst q1
    exact hash_same
theorem pe_dnewB {pos : Pos} : PE X (.Dict [] [] pos) (fun _ H Q => ∀ p, H p = none → Q (.ref p) (upd H p (.ext (dbRaw p [])))) := ⟨fun pins s σ H Q I h =>
  wpAny_Dict_empty ⟨.ref s.heap.objs.size, _, I.laid (a := s.heap.objs.size) (o := .ext (dbRaw s.heap.objs.size [])) (t' := s.toks) (fun _ _ q => Heap.get?_push_of_some _ q) (Nat.le_refl _)
    ⟨⟨beq_eq_false_iff_ne.mpr (Ne.symm (Nat.ne_of_lt I.big)), Nat.zero_le _, List.nodup_nil, [], .nil, _, #[], 0, Heap.get?_push_size _ rfl, ⟨rfl, rfl, rfl⟩, rfl, fun _ _ => rfl⟩, ⟨_, Heap.get?_push_size _ rfl⟩,
      fun h1 h2 ⟨c1, c2, c3, ws, c4, o', es', ep', c5, c6⟩ k => ⟨c1, c2, c3, ws, c4, o', es', ep', k _ c5, c6⟩⟩, rfl, h _ (I.hok.fresh (Nat.le_refl _))⟩⟩
end
end Mq
end

section
set_option maxHeartbeats 8000000
namespace Mq
open PySem L2 PySem.Spec PyProof.Rows
section
variable {X : Cx} {W : Wd} {WE : XK}
theorem dict_at {M : Mp} {H : Hp} {S : Sto} {x : V} {n : Nat} (rh : RelH W M H S) (r : RepV W M x (.cell n)) : ∃ a, x = .ref a ∧ M.io[n]? = some a := by
  cases r with
  | cell h => exact ⟨_, rfl, h⟩
/-- in, not in -/
theorem in_view (hK : W.K = X.K) (hu : X.A.units + 1 < cLine) {M : Mp} {H : Hp} {S : Sto} {x y : V} {a b : D} {k : Bool} {pins : List (Addr × Obj)} {σ : L2.St} {s : Shared} {v u : Value}
    (I : Inv X pins σ H s) (rx : RelV x v) (ry : RelV y u) (rh : RelH W M H S) (ra : RepV W M x a) (rb : RepV W M y b) (h : inD a b S = some k) :
    (∀ Q : VK, Q (.bl k) H → wpAny (model X.prog X.w) X.A (compareOp .In v u) (EP X pins σ Q) X.xe s) ∧ (∀ Q : VK, Q (.bl (!k)) H → wpAny (model X.prog X.w) X.A (compareOp .NotIn v u) (EP X pins σ Q) X.xe s) := by
  have seqs : ∀ {p : Addr} {vs ws : List V} {z : V}, y = .ref p → (SqL X.K H p vs ∨ SqT X.K H p vs) → (x = z ∧ flatV x = true) → (vs = ws ∧ vs.all flatV = true) → inV z ws = k →
      (∀ Q : VK, Q (.bl k) H → wpAny (model X.prog X.w) X.A (compareOp .In v u) (EP X pins σ Q) X.xe s) ∧ (∀ Q : VK, Q (.bl (!k)) H → wpAny (model X.prog X.w) X.A (compareOp .NotIn v u) (EP X pins σ Q) X.xe s) := by
    rintro p vs ws z rfl hv ⟨rfl, hf⟩ ⟨rfl, hfs⟩ rfl
    exact ⟨fun Q q => op_in_seq pins s σ H _ _ v u Q I rx ry ⟨p, vs, rfl, hv, hf, hfs, q⟩, fun Q q => op_notIn_seq pins s σ H _ _ v u Q I rx ry ⟨p, vs, rfl, hv, hf, hfs, q⟩⟩
  have dict : ∀ {p : Addr} {o : Option V}, y = .ref p → DGet H p x o → o.isSome = k →
      (∀ Q : VK, Q (.bl k) H → wpAny (model X.prog X.w) X.A (compareOp .In v u) (EP X pins σ Q) X.xe s) ∧ (∀ Q : VK, Q (.bl (!k)) H → wpAny (model X.prog X.w) X.A (compareOp .NotIn v u) (EP X pins σ Q) X.xe s) := by
    rintro p o rfl g rfl
    obtain rfl : u = Value.ref p := ry
    exact ⟨fun Q q => d_in hu I g rx fun s' I' => ⟨.bl o.isSome, H, I', rfl, q⟩, fun Q q => d_notIn hu I g rx fun s' I' => ⟨.bl (!o.isSome), H, I', rfl, q⟩⟩
  have look : ∀ {κ : Type} [DecidableEq κ] {kw : List (κ × V)} {kvs : List (κ × D)} (j : κ), DkOk W M kw kvs → (valV kw j).isSome = (lookD kvs j).isSome := by
    intro κ _ kw kvs j hd
    rcases look_rel j hd with ⟨e1, e2⟩ | ⟨d, w, e1, e2, _⟩ <;> rw [e1, e2] <;> rfl
  unfold inD at h
  split at h
  · rename_i n
    obtain ⟨p, rfl, hp⟩ := dict_at rh rb
    split at h
    · rename_i kvs hn
      obtain ⟨_, kw, h2, h3⟩ := rh.cel n _ p hn hp
      split at h
      · rename_i j hj
        cases key_view ra hj
        exact dict rfl (DGet.k h2) ((look j h3).trans (Option.some.inj h))
      · cases h
    · rename_i kvs hn
      obtain ⟨_, kw, h2, h3⟩ := rh.cel n _ p hn hp
      split at h
      · rename_i ks
        obtain ⟨q, vs, rfl, t1, _, t2, _⟩ := tup_view rh ra
        split at h
        · rename_i j hj
          have e := keys_view t2 hj
          subst e
          exact dict rfl (DGet.t h2 t1) ((look j h3).trans (Option.some.inj h))
        · cases h
      · cases h
    · rename_i kvs hn
      obtain ⟨_, ents, h2, h3, h4, h5⟩ := rh.cel n _ p hn hp
      split at h
      · rename_i ks
        obtain ⟨q, vs, rfl, t1, _, t2, _⟩ := tup_view rh ra
        split at h
        · rename_i j hj
          cases (show v = Value.ref q from rx)
          obtain rfl : u = Value.ref p := ry
          exact db_in hu I rh h2 h5 h3 t1 (bVs_rel t2 hj) (Option.some.inj h)
        · cases h
      · cases h
    · rename_i ys hn
      obtain ⟨_, vs, h2, h3, _⟩ := rh.cel n _ p hn hp
      split at h
      · rename_i z zs hz hzs
        exact seqs rfl (.inl (SqL.of h2)) (flat_view ra hz) (flats_view h3 hzs) (Option.some.inj h)
      · cases h
    · cases h
  · split at h
    · rename_i z zs hz hzs
      obtain ⟨ys, hy, hys⟩ := Option.bind_eq_some_iff.mp hzs
      obtain ⟨p, vs, rfl, h1, h2, _⟩ := seq_view rh rb hy
      refine seqs rfl ?_ (flat_view ra hz) (flats_view h2 hys) (Option.some.inj h)
      rcases h1 with h1 | h1
      · exact .inl (SqL.of h1)
      · rw [hK] at h1; exact .inr h1
    · cases h
theorem non_is {M : Mp} {x : V} {a : D} (ra : RepV W M x a) : decide (x = V.non) = isNon a := by
  cases ra <;> simp [isNon]
theorem op_cmp (hK : W.K = X.K) (hu : X.A.units + 64 < cLine) (o : CmpOp) : OpR X (compareOp o) (rCmp W WE o) := by
  intro pins s σ H x y v u Q I rx ry ⟨M, S, a, b, rh, ra, rb, p⟩
  have hu1 : X.A.units + 1 < cLine := by omega
  have iop : ∀ {op : CmpOp} {f : Int → Int → Bool}, OpR X (compareOp op) (rI0 fun i j => .bl (f i j)) → ∀ {i j : Int}, a = .int i → b = .int j → Q (.bl (f i j)) H → wpAny (model X.prog X.w) X.A (compareOp op v u) (EP X pins σ Q) X.xe s := by
    rintro op f ho i j rfl rfl q
    cases int_view ra
    cases int_view rb
    exact ho pins s σ H _ _ v u Q I rx ry ⟨i, j, rfl, rfl, q⟩
  have bk : ∀ {k : Bool}, Post W (RepV W) WE M (.ok (.bl k) S) Q → Q (.bl k) H := fun q => q _ _ _ (.refl M) rh (.bl _)
  cases o with
  | Eq =>
    obtain ⟨d, hd, p⟩ := opt_ok p
    obtain ⟨k, hk, rfl⟩ := Option.map_eq_some_iff.mp hd
    rcases eq_cases hk with h | ⟨d, e, h1, h2, h3, h4, rfl⟩
    · obtain ⟨e1, rfl⟩ := eqSc_scal ra rb h
      exact op_eq pins s σ H _ _ v u Q I rx ry ⟨e1, bk p⟩
    · have g1 := py_dp rh 8 ra h1
      have g2 := py_dp rh 8 rb h2
      rw [hK] at g1 g2
      exact op_eqD hu pins s σ H _ _ v u Q I rx ry ⟨d, e, g1, g2, h3, h4, bk p⟩
  | NotEq =>
    obtain ⟨d, hd, p⟩ := opt_ok p
    obtain ⟨k, hk, rfl⟩ := Option.map_eq_some_iff.mp hd
    rcases eq_cases hk with h | ⟨d, e, h1, h2, h3, h4, rfl⟩
    · obtain ⟨e1, rfl⟩ := eqSc_scal ra rb h
      exact op_ne pins s σ H _ _ v u Q I rx ry ⟨e1, bk p⟩
    · have g1 := py_dp rh 8 ra h1
      have g2 := py_dp rh 8 rb h2
      rw [hK] at g1 g2
      exact op_neD hu pins s σ H _ _ v u Q I rx ry ⟨d, e, g1, g2, h3, h4, bk p⟩
  | Is =>
    unfold cmpD at p
    dsimp only at p
    split at p
    · cases non_view rb
      refine op_isN pins s σ H _ _ v u Q I rx ry ⟨rfl, ?_⟩
      rw [non_is ra]
      exact bk p
    · exact p.elim
  | IsNot =>
    unfold cmpD at p
    dsimp only at p
    split at p
    · cases non_view rb
      refine op_notN pins s σ H _ _ v u Q I rx ry ⟨rfl, ?_⟩
      rw [non_is ra]
      exact bk p
    · exact p.elim
  | In =>
    obtain ⟨d, hd, p⟩ := opt_ok p
    obtain ⟨k, hk, rfl⟩ := Option.map_eq_some_iff.mp hd
    exact (in_view hK hu1 I rx ry rh ra rb hk).1 Q (bk p)
  | NotIn =>
    obtain ⟨d, hd, p⟩ := opt_ok p
    obtain ⟨k, hk, rfl⟩ := Option.map_eq_some_iff.mp hd
    exact (in_view hK hu1 I rx ry rh ra rb hk).2 Q (bk p)
  | Lt =>
    unfold cmpD at p
    dsimp only at p
    split at p
    · exact iop op_lt rfl rfl (bk p)
    · exact p.elim
  | LtE =>
    unfold cmpD at p
    dsimp only at p
    split at p
    · exact iop op_le rfl rfl (bk p)
    · exact p.elim
  | Gt =>
    unfold cmpD at p
    dsimp only at p
    split at p
    · exact iop op_gt rfl rfl (bk p)
    · exact p.elim
  | GtE =>
    unfold cmpD at p
    dsimp only at p
    split at p
    · exact iop op_ge rfl rfl (bk p)
    · exact p.elim
theorem cmp_bl {o : CmpOp} {a b d : D} {S S' : Sto} (h : cmpD o a b S = .ok d S') : S' = S ∧ ∃ k, d = .bl k := by
  have opt : ∀ {o : Option Bool} {f : Bool → Bool}, R.opt S (o.map fun b => D.bl (f b)) = .ok d S' → S' = S ∧ ∃ k, d = .bl k := by
    intro o f h
    cases o with
    | none => cases h
    | some b => cases h; exact ⟨rfl, _, rfl⟩
  cases o with
  | Eq => exact opt (f := id) h
  | NotEq => exact opt (f := not) h
  | In => exact opt (f := id) h
  | NotIn => exact opt (f := not) h
  | Is =>
    unfold cmpD at h
    dsimp only at h
    split at h
    · cases h; exact ⟨rfl, _, rfl⟩
    · cases h
  | IsNot =>
    unfold cmpD at h
    dsimp only at h
    split at h
    · cases h; exact ⟨rfl, _, rfl⟩
    · cases h
  | _ =>
    unfold cmpD at h
    dsimp only at h
    split at h
    · cases h; exact ⟨rfl, _, rfl⟩
    · cases h

/-! ### subscripts -/
def rIdxD (W : Wd) (WE : XK) : R2 := fun x y H Q => ∃ M S a b, RelH W M H S ∧ RepV W M x a ∧ RepV W M y b ∧ Post W (RepV W) WE M (idxD a b S) Q
/-- a dict is asked, or a sequence -/
inductive IxCase (W : Wd) (K : PySem.W.Frag) (M : Mp) (H : Hp) (S : Sto) (x y : V) (d : D) : Prop
  | dict (p : Addr) (v : V) (e : x = .ref p) (g : DGet H p y (some v)) (r : RepV W M v d)
  | seq (v : V) (g : ∀ Q : VK, Q v H → rIx K x y H Q) (r : RepV W M v d)
theorem atI_rel {M : Mp} {vs : List V} {ds : List D} {i : Int} {d : D} (r : Reps W M vs ds) (h : atI ds i = some d) : ∃ v, atI vs i = some v ∧ RepV W M v d := by
  unfold atI at h ⊢
  rw [r.1]
  obtain ⟨j, h1, h2⟩ := Option.bind_eq_some_iff.mp h
  obtain ⟨v, h3, h4⟩ := r.get h2
  exact ⟨v, by rw [h1]; exact h3, h4⟩
theorem idxS_case (hK : W.K = X.K) {M : Mp} {H : Hp} {S S' : Sto} {x y : V} {a b d : D} (rh : RelH W M H S) (ra : RepV W M x a) (rb : RepV W M y b) (h : idxS a b S = .ok d S') : S' = S ∧ IxCase W X.K M H S x y d := by
  unfold idxS at h
  split at h
  · rename_i z i
    cases str_view ra
    cases int_view rb
    split at h
    · rename_i hz
      split at h
      · rename_i c hc
        cases h
        exact ⟨rfl, .seq _ (fun Q q => .inr (.inr ⟨z, i, c, rfl, rfl, by rw [← sLine_eq]; exact hz, hc, q⟩)) (.str _)⟩
      · cases h
    · cases h
  · rename_i i _
    cases int_view rb
    split at h
    · rename_i e he
      cases h
      obtain ⟨xs, h1, h2⟩ := Option.bind_eq_some_iff.mp he
      obtain ⟨p, vs, rfl, h3, h4, _⟩ := seq_view rh ra h1
      obtain ⟨v, h5, h6⟩ := atI_rel h4 h2
      refine ⟨rfl, .seq v (fun Q q => ?_) h6⟩
      rcases h3 with h3 | h3
      · exact .inl ⟨p, vs, i, v, rfl, rfl, SqL.of h3, h5, q⟩
      · rw [hK] at h3
        exact .inr (.inl ⟨p, vs, i, v, rfl, rfl, h3, h5, q⟩)
    · cases h
  · cases h
theorem idx_case (hK : W.K = X.K) {M : Mp} {H : Hp} {S S' : Sto} {x y : V} {a b d : D} (rh : RelH W M H S) (ra : RepV W M x a) (rb : RepV W M y b) (h : idxD a b S = .ok d S') : S' = S ∧ IxCase W X.K M H S x y d := by
  have opt : ∀ {o : Option D}, R.opt S o = .ok d S' → S' = S ∧ o = some d := by
    intro o h
    cases o with
    | none => cases h
    | some b => cases h; exact ⟨rfl, rfl⟩
  unfold idxD at h
  split at h
  · rename_i n
    split at h
    · rename_i kvs hn
      obtain ⟨p, rfl, hp⟩ := dict_at rh ra
      obtain ⟨_, kw, h2, h3⟩ := rh.cel n _ p hn hp
      obtain ⟨rfl, e⟩ := opt h
      obtain ⟨j, e1, e2⟩ := Option.bind_eq_some_iff.mp e
      cases key_view rb e1
      rcases look_rel j h3 with ⟨z, _⟩ | ⟨d', v, z1, z2, z3⟩
      · rw [z] at e2; cases e2
      · rw [z1] at e2; cases e2
        exact ⟨rfl, .dict p v rfl (by rw [← z2]; exact DGet.k h2) z3⟩
    · rename_i kvs hn
      obtain ⟨p, rfl, hp⟩ := dict_at rh ra
      obtain ⟨_, kw, h2, h3⟩ := rh.cel n _ p hn hp
      split at h
      · rename_i ks
        obtain ⟨q, vs, rfl, t1, _, t2, _⟩ := tup_view rh rb
        obtain ⟨rfl, e⟩ := opt h
        obtain ⟨j, e1, e2⟩ := Option.bind_eq_some_iff.mp e
        have e := keys_view t2 e1
        subst e
        rcases look_rel j h3 with ⟨z, _⟩ | ⟨d', v, z1, z2, z3⟩
        · rw [z] at e2; cases e2
        · rw [z1] at e2; cases e2
          exact ⟨rfl, .dict p v rfl (by rw [← z2]; exact DGet.t h2 t1) z3⟩
      · cases h
    · exact idxS_case hK rh ra rb h
  · exact idxS_case hK rh ra rb h
end
end Mq
end

section
set_option maxHeartbeats 8000000
namespace Mq
open PySem L2 PySem.Spec PyProof.Rows
section
variable {X : Cx} {W : Wd} {WE : XK}
theorem ix_D (hK : W.K = X.K) (hu : X.A.units + 1 < cLine) : IxR X (rIdxD W WE) := by
  intro value slice pins s σ H x y v u Q I rx ry ⟨M, S, a, b, rh, ra, rb, p⟩ hs
  generalize hr : idxD a b S = r at p
  cases r with
  | no => exact p.elim
  | exc e S' =>
    exfalso
    clear p hs
    have opt : ∀ {o : Option D}, R.opt S o ≠ .exc e S' := by
      intro o h
      cases o <;> cases h
    have seq : idxS a b S ≠ .exc e S' := by
      intro h
      unfold idxS at h
      split at h
      · split at h
        · split at h <;> cases h
        · cases h
      · split at h <;> cases h
      · cases h
    unfold idxD at hr
    split at hr
    · split at hr
      · exact opt hr
      · split at hr
        · exact opt hr
        · cases hr
      · exact seq hr
    · exact seq hr
  | ok d S' =>
    obtain ⟨rfl, c⟩ := idx_case hK rh ra rb hr
    cases c with
    | dict q w e g r =>
      subst e
      obtain rfl : v = Value.ref q := rx
      exact tail_any (dict_typeIs I g) PySem.F.slot_dict_getitem.lookup (d_getItem hu I g ry fun w' s' I' rw' => ⟨w, H, I', rw', p _ _ _ (.refl M) rh r⟩) hs
    | seq w g r => exact ix_seq value slice pins s σ H x y v u Q I rx ry (g Q (p _ _ _ (.refl M) rh r)) hs
def rIdxC (W : Wd) (WE : XK) : V → V → Hp → VK → Prop := fun x y H Q => ∃ M S a b, RelH W M H S ∧ RepV W M x a ∧ RepV W M y b ∧ Post W (RepV W) WE M (idxC a b S) Q
theorem get_D (hK : W.K = X.K) (hu : X.A.units + 1 < cLine) : PGet X (rIdxC W WE) := by
  intro pins s σ H x y v u Q I rx ry ⟨M, S, a, b, rh, ra, rb, p⟩
  unfold idxC at p
  split at p
  · rename_i n
    split at p
    · rename_i xs hn
      split at p
      · rename_i i
        obtain ⟨d, hd, p⟩ := opt_ok p
        cases int_view rb
        obtain ⟨q, vs, rfl, h1, h2, _⟩ := lst_view (S := S) rh ra (xs := xs) (by unfold lstOf; dsimp only; rw [hn])
        obtain ⟨w, h5, h6⟩ := atI_rel h2 hd
        obtain rfl : v = Value.ref q := rx
        obtain ⟨t, rfl⟩ := ry
        obtain ⟨its, r, pl, hz⟩ := I.list (SqL.of h1)
        obtain ⟨j, g1, g2, g3, g4, g5⟩ := atI_get h5
        obtain ⟨w', ew, rw'⟩ := r.get g2
        have hl := r.length
        have hn63 := line63
        have fin : EP X pins σ Q w' s := ⟨w, H, I, rw', p _ _ _ (.refl M) rh h6⟩
        by_cases h0 : 0 ≤ i
        · refine wpAny_getItem_list pl.isList h0 (by omega) ?_ fin
          have hj : i.toNat = j := by
            rw [seqIndex_of h0 g5] at g1
            exact Option.some.inj g1
          rw [hj]
          simpa using ew
        · refine wpAny_getItem_list_neg pl.isList (by omega) (by rw [List.size_toArray]; omega) (by omega) ?_ fin
          have hj : (i + (its.toArray.size : Int)).toNat = j := by
            rw [seqIndex_neg (by omega) g4] at g1
            rw [List.size_toArray, ← hl]
            exact Option.some.inj g1
          rw [hj]
          simpa using ew
      · exact p.elim
    · exact p.elim
  · exact p.elim
def rSetD (W : Wd) : TSet := fun o i v H Q => ∃ M S a b d S', RelH W M H S ∧ RepV W M o a ∧ RepV W M i b ∧ RepV W M v d ∧ setD a b d S = some S' ∧ ∀ M' H', M.le M' → RelH W M' H' S' → Q H'
theorem set_D (hu : X.A.units + 1 < cLine) : PSet X (rSetD W) := by
  intro pins s σ H o i v ov iv u Q I ro ri rv ⟨M, S, a, b, d, S', rh, ra, rb, rd, e, q⟩
  unfold setD at e
  split at e
  · rename_i n
    obtain ⟨p, rfl, hp⟩ := dict_at rh ra
    split at e
    · rename_i xs hn
      obtain ⟨hf, vs, h2, h3, h4⟩ := rh.cel n _ p hn hp
      split at e
      · rename_i k
        cases int_view rb
        split at e
        · rename_i j hj
          cases e
          refine set_list pins s σ H _ _ _ ov iv u Q I ro ri rv ⟨p, vs, k, j, rfl, rfl, h2, by rw [h3.1]; exact hj, q M _ (.refl M) (rh.set hp hf ⟨hf, _, upd_same, h3.set rd j, by rw [List.length_set]; exact h4⟩)⟩
        · cases e
      · cases e
    · rename_i kvs hn
      obtain ⟨hf, kw, h2, h3⟩ := rh.cel n _ p hn hp
      split at e
      · rename_i k hk
        split at e
        · rename_i hz
          cases e
          cases key_view rb hk
          obtain rfl : ov = Value.ref p := ro
          refine d_setItem hu I (DPut.k h2 (by rw [h3.len, ← sLine_eq]; exact hz)) ri rv fun s' I' => ⟨_, I', q M _ (.refl M) (rh.set hp hf ⟨hf, _, upd_same, put_rel k rd h3⟩)⟩
        · cases e
      · cases e
    · rename_i kvs hn
      obtain ⟨hf, kw, h2, h3⟩ := rh.cel n _ p hn hp
      split at e
      · rename_i ks
        obtain ⟨t, ws, rfl, t1, _, t2, _⟩ := tup_view rh rb
        split at e
        · rename_i k hk
          split at e
          · rename_i hz
            cases e
            have e := keys_view t2 hk
            subst e
            obtain rfl : ov = Value.ref p := ro
            refine d_setItem hu I (DPut.t h2 t1 (by rw [h3.len, ← sLine_eq]; exact hz)) ri rv fun s' I' => ⟨_, I', q M _ (.refl M) (rh.set hp hf ⟨hf, _, upd_same, put_rel k rd h3⟩)⟩
          · cases e
        · cases e
      · cases e
    · rename_i kvs hn
      obtain ⟨hf, ents, h2, h3, h4, h5⟩ := rh.cel n _ p hn hp
      split at e
      · rename_i ks
        obtain ⟨t, ws, rfl, t1, t0, t2, _⟩ := tup_view rh rb
        split at e
        · rename_i k hk
          split at e
          · rename_i hz
            cases e
            obtain rfl : ov = Value.ref p := ro
            cases (show iv = Value.ref t from ri)
            have kl : ents.length = kvs.length := by have z := congrArg List.length h3; simpa using z
            refine db_set hu I rh h2 h5 h3 t1 (bVs_rel t2 hk) (by rw [kl, ← sLine_eq]; exact hz.1) hz.2 rv fun s' I' => ⟨_, I', q M _ (.refl M) (rh.set hp hf ⟨hf, _, upd_same, ?_, ?_, fun e' he => ?_⟩)⟩
            · rw [List.map_append, List.map_append, h3]
              rfl
            · rw [List.map_append, List.map_append]
              exact h4.app (.one rd)
            · rcases List.mem_append.mp he with he | he
              · exact h5 e' he
              · rw [List.mem_singleton] at he
                subst he
                exact ⟨ws, t0, bVs_rel t2 hk⟩
          · cases e
        · cases e
      · cases e
    · cases e
  · cases e
/-- truth -/
theorem tru_view (hK : W.K = X.K) {M : Mp} {H : Hp} {S : Sto} {x : V} {a : D} {k : Bool} (rh : RelH W M H S) (ra : RepV W M x a) (h : truD a S = some k) : TruV X.K x H k := by
  have seqs : ∀ {xs : List D}, seqOf a S = some xs → k = !xs.isEmpty → TruV X.K x H k := by
    intro xs hs e
    obtain ⟨p, vs, rfl, h1, h2, _⟩ := seq_view rh ra hs
    have ee : vs.isEmpty = xs.isEmpty := by
      have := h2.1
      cases vs <;> cases xs <;> first | rfl | (simp at this)
    rcases h1 with h1 | h1
    · exact .inl ⟨vs, SqL.of h1, by rw [e, ee]⟩
    · rw [hK] at h1
      exact .inr (.inl ⟨vs, h1, by rw [e, ee]⟩)
  unfold truD at h
  split at h
  · cases h; cases non_view ra; rfl
  · cases h; cases bl_view ra; rfl
  · cases h; cases int_view ra; rfl
  · split at h
    · rename_i hz
      cases h; cases str_view ra
      exact ⟨by rw [← sLine_eq]; exact hz, rfl⟩
    · cases h
  · obtain ⟨xs, h1, rfl⟩ := Option.map_eq_some_iff.mp h
    exact seqs h1 rfl
/-- a slice of a list -/
def rCutD (W : Wd) (WE : XK) (c : Bool) : V → Option Int → Option Int → Hp → VK → Prop := fun x lo hi H Q => ∃ M S a, RelH W M H S ∧ RepV W M x a ∧ Post W (RepV W) WE M (cutD c a lo hi S) Q
theorem cut_len {α : Type} (xs : List α) (lo hi : Option Int) : (cut xs lo hi).length ≤ xs.length := by
  unfold cut
  have h1 := List.length_take_le (HT.sIx xs.length xs.length hi - HT.sIx xs.length 0 lo) (xs.drop (HT.sIx xs.length 0 lo))
  have h2 := List.length_take_le' (HT.sIx xs.length xs.length hi - HT.sIx xs.length 0 lo) (xs.drop (HT.sIx xs.length 0 lo))
  rw [List.length_drop] at h2
  omega
theorem sl_D (hK : W.K = X.K) (c : Bool) : SlR X (rCutD W WE c) := by
  intro pins s σ H x v vl vu lo hi sl Q I rx hs pl pu ⟨M, S, a, rh, ra, p⟩
  unfold cutD at p
  split at p
  · rename_i xs
    cases ra with
    | fl h1 hz hl hr =>
      have h2 := seqL_mono rh.fro h1
      rw [hK] at h2
      refine sl_list pins s σ H _ v vl vu lo hi sl Q I rx hs pl pu ⟨_, _, rfl, h2, fun q hq => ?_⟩
      exact alloc_ok p rh (Reps.cut ⟨hl, hr⟩ lo hi) (Nat.le_trans (cut_len _ _ _) hz) hq
  · split at p
    · rename_i xs hx
      obtain ⟨q, vs, rfl, h1, h2, h3⟩ := lst_view rh ra hx
      refine sl_list pins s σ H _ v vl vu lo hi sl Q I rx hs pl pu ⟨q, vs, rfl, SqL.of h1, fun q hq => ?_⟩
      exact alloc_ok p rh (h2.cut lo hi) (Nat.le_trans (cut_len _ _ _) h3) hq
    · exact p.elim
end
end Mq
end

section
set_option maxHeartbeats 8000000
namespace Mq
open PySem L2 PySem.Spec PyProof.Rows
/-- a built-in as a value -/
def biV : Bi → Value
  | .len => .builtin "len" | .abs => .builtin "abs" | .min2 => .builtin "min" | .max2 => .builtin "max" | .int1 => .type "int" | .list1 => .type "list" | .tup1 => .type "tuple" | .sum1 => .builtin "sum"
  | .minL => .builtin "min" | .maxL => .builtin "max" | .repr1 => .builtin "repr" | .allL => .builtin "all" | .anyL => .builtin "any"
section
variable {X : Cx} {W : Wd} {WE : XK}
theorem intsD_view {M : Mp} : ∀ {vs : List V} {ds : List D} {ns : List Int}, Reps W M vs ds → intsD ds = some ns → vs = ns.map V.int
  | vs, [], ns, r, h => by cases h; rw [r.nil_inv]; rfl
  | vs, d :: ds, ns, r, h => by
    obtain ⟨v, us, rfl, r1, r2⟩ := r.cons_inv
    unfold intsD at h
    split at h
    · cases ‹_ = []›
    · rename_i i xs e
      cases e
      obtain ⟨ms, h1, rfl⟩ := Option.map_eq_some_iff.mp h
      rw [int_view r1, intsD_view r2 h1]
      rfl
    · cases h
theorem blsD_view {M : Mp} : ∀ {vs : List V} {ds : List D} {ns : List Bool}, Reps W M vs ds → blsD ds = some ns → vs = ns.map V.bl
  | vs, [], ns, r, h => by cases h; rw [r.nil_inv]; rfl
  | vs, d :: ds, ns, r, h => by
    obtain ⟨v, us, rfl, r1, r2⟩ := r.cons_inv
    unfold blsD at h
    split at h
    · cases ‹_ = []›
    · rename_i i xs e
      cases e
      obtain ⟨ms, h1, rfl⟩ := Option.map_eq_some_iff.mp h
      rw [bl_view r1, blsD_view r2 h1]
      rfl
    · cases h
theorem foldl_min : ∀ (xs : List Int) (x : Int), (xs.foldl (fun a b => if b < a then b else a) x = x ∨ xs.foldl (fun a b => if b < a then b else a) x ∈ xs) ∧ xs.foldl (fun a b => if b < a then b else a) x ≤ x ∧ ∀ y ∈ xs, xs.foldl (fun a b => if b < a then b else a) x ≤ y
  | [], x => ⟨.inl rfl, Int.le_refl _, fun y h => by cases h⟩
  | a :: xs, x => by
    simp only [List.foldl_cons]
    by_cases hh : a < x
    · simp only [if_pos hh]
      obtain ⟨h1, h2, h3⟩ := foldl_min xs a
      refine ⟨.inr ?_, by omega, fun y hy => ?_⟩
      · rcases h1 with h1 | h1
        · rw [h1]; exact List.mem_cons_self
        · exact List.mem_cons_of_mem _ h1
      · rcases List.mem_cons.mp hy with rfl | hy
        · exact h2
        · exact h3 y hy
    · simp only [if_neg hh]
      obtain ⟨h1, h2, h3⟩ := foldl_min xs x
      refine ⟨?_, h2, fun y hy => ?_⟩
      · rcases h1 with h1 | h1
        · exact .inl h1
        · exact .inr (List.mem_cons_of_mem _ h1)
      · rcases List.mem_cons.mp hy with rfl | hy
        · omega
        · exact h3 y hy
theorem foldl_max : ∀ (xs : List Int) (x : Int), (xs.foldl (fun a b => if a < b then b else a) x = x ∨ xs.foldl (fun a b => if a < b then b else a) x ∈ xs) ∧ x ≤ xs.foldl (fun a b => if a < b then b else a) x ∧ ∀ y ∈ xs, y ≤ xs.foldl (fun a b => if a < b then b else a) x
  | [], x => ⟨.inl rfl, Int.le_refl _, fun y h => by cases h⟩
  | a :: xs, x => by
    simp only [List.foldl_cons]
    by_cases hh : x < a
    · simp only [if_pos hh]
      obtain ⟨h1, h2, h3⟩ := foldl_max xs a
      refine ⟨.inr ?_, by omega, fun y hy => ?_⟩
      · rcases h1 with h1 | h1
        · rw [h1]; exact List.mem_cons_self
        · exact List.mem_cons_of_mem _ h1
      · rcases List.mem_cons.mp hy with rfl | hy
        · exact h2
        · exact h3 y hy
    · simp only [if_neg hh]
      obtain ⟨h1, h2, h3⟩ := foldl_max xs x
      refine ⟨?_, h2, fun y hy => ?_⟩
      · rcases h1 with h1 | h1
        · exact .inl h1
        · exact .inr (List.mem_cons_of_mem _ h1)
      · rcases List.mem_cons.mp hy with rfl | hy
        · omega
        · exact h3 y hy
theorem minI_spec {ns : List Int} {m : Int} (h : minI ns = some m) : m ∈ ns ∧ ∀ y ∈ ns, m ≤ y := by
  cases ns with
  | nil => cases h
  | cons x xs =>
    cases h
    obtain ⟨h1, h2, h3⟩ := foldl_min xs x
    refine ⟨?_, fun y hy => ?_⟩
    · rcases h1 with h1 | h1
      · rw [h1]; exact List.mem_cons_self
      · exact List.mem_cons_of_mem _ h1
    · rcases List.mem_cons.mp hy with rfl | hy
      · exact h2
      · exact h3 y hy
theorem maxI_spec {ns : List Int} {m : Int} (h : maxI ns = some m) : m ∈ ns ∧ ∀ y ∈ ns, y ≤ m := by
  cases ns with
  | nil => cases h
  | cons x xs =>
    cases h
    obtain ⟨h1, h2, h3⟩ := foldl_max xs x
    refine ⟨?_, fun y hy => ?_⟩
    · rcases h1 with h1 | h1
      · rw [h1]; exact List.mem_cons_self
      · exact List.mem_cons_of_mem _ h1
    · rcases List.mem_cons.mp hy with rfl | hy
      · exact h2
      · exact h3 y hy
def rBi (W : Wd) (WE : XK) (b : Bi) (c : Bool) : List V → Hp → VK → Prop := fun vs H Q => ∃ M S ds, RelH W M H S ∧ Reps W M vs ds ∧ Post W (RepV W) WE M (biD b c ds S) Q
theorem call_bi (hK : W.K = X.K) (hc : X.calm = true) (hu : X.A.units + 200 < cLine) (hg : X.A.guards = some []) (b : Bi) (c : Bool) : CallR X (biV b) (rBi W WE b c) := by
  intro pins s σ H vs us Q I rv ⟨M, S, ds, rh, r, p⟩
  have bk : ∀ {d : D} {v : V}, RepV W M v d → Post W (RepV W) WE M (.ok d S) Q → Q v H := fun rv q => q _ _ _ (.refl M) rh rv
  unfold biD at p
  split at p
  · rename_i x
    obtain ⟨v, ws, rfl, r1, r2⟩ := r.cons_inv
    cases r2.nil_inv
    obtain ⟨d, hd, p⟩ := opt_ok p
    obtain ⟨n, hn, rfl⟩ := Option.map_eq_some_iff.mp hd
    refine call_len pins s σ H _ us Q I rv ⟨v, n, rfl, ?_, bk (.int _) p⟩
    unfold lenD at hn
    split at hn
    · split at hn
      · rename_i hz
        cases hn; cases str_view r1
        exact ⟨by rw [← sLine_eq]; exact hz, rfl⟩
      · cases hn
    · obtain ⟨xs, h1, rfl⟩ := Option.map_eq_some_iff.mp hn
      obtain ⟨q, ws, rfl, h2, h3, _⟩ := seq_view rh r1 h1
      rcases h2 with h2 | h2
      · exact .inl ⟨ws, SqL.of h2, h3.1.symm⟩
      · rw [hK] at h2
        exact .inr ⟨ws, h2, h3.1.symm⟩
  · obtain ⟨v, ws, rfl, r1, r2⟩ := r.cons_inv
    cases r2.nil_inv
    cases int_view r1
    exact call_abs pins s σ H _ us Q I rv ⟨_, rfl, bk (.int _) p⟩
  · obtain ⟨v, ws, rfl, r1, r2⟩ := r.cons_inv
    obtain ⟨v2, ws, rfl, r3, r4⟩ := r2.cons_inv
    cases r4.nil_inv
    cases int_view r1
    cases int_view r3
    exact call_min2 hc pins s σ H _ us Q I rv ⟨_, _, rfl, bk (.int _) p⟩
  · obtain ⟨v, ws, rfl, r1, r2⟩ := r.cons_inv
    obtain ⟨v2, ws, rfl, r3, r4⟩ := r2.cons_inv
    cases r4.nil_inv
    cases int_view r1
    cases int_view r3
    exact call_max2 hc pins s σ H _ us Q I rv ⟨_, _, rfl, bk (.int _) p⟩
  · obtain ⟨v, ws, rfl, r1, r2⟩ := r.cons_inv
    cases r2.nil_inv
    cases int_view r1
    exact call_int1 pins s σ H _ us Q I rv (.inl ⟨_, rfl, bk (.int _) p⟩)
  · obtain ⟨v, ws, rfl, r1, r2⟩ := r.cons_inv
    cases r2.nil_inv
    cases bl_view r1
    exact call_int1 pins s σ H _ us Q I rv (.inr ⟨_, rfl, bk (.int _) p⟩)
  · rename_i x
    obtain ⟨v, ws, rfl, r1, r2⟩ := r.cons_inv
    cases r2.nil_inv
    split at p
    · rename_i xs hx
      obtain ⟨q, ws, rfl, h2, h3, h4⟩ := seq_view rh r1 hx
      refine call_list_of pins s σ H _ us Q I rv ⟨q, ws, rfl, ?_, fun l hl => alloc_ok p rh h3 h4 hl⟩
      rcases h2 with h2 | h2
      · exact .inl (SqL.of h2)
      · rw [hK] at h2; exact .inr h2
    · exact p.elim
  · obtain ⟨v, ws, rfl, r1, r2⟩ := r.cons_inv
    cases r2.nil_inv
    obtain ⟨q, ws, rfl, h1, _, _, _⟩ := tup_view rh r1
    exact call_tuple_of pins s σ H _ us Q I rv ⟨q, ws, rfl, .inr ⟨SqT.of h1, bk r1 p⟩⟩
  · obtain ⟨v, ws, rfl, r1, r2⟩ := r.cons_inv
    cases r2.nil_inv
    split at p
    · rename_i xs hx
      obtain ⟨q, ws, rfl, h2, h3, h4⟩ := lst_view rh r1 hx
      exact call_tuple_of pins s σ H _ us Q I rv ⟨q, ws, rfl, .inl ⟨SqL.of h2, fun l hl => tup_ok p rh h3 h4 hl⟩⟩
    · exact p.elim
  · rename_i xs
    obtain ⟨v, ws, rfl, r1, r2⟩ := r.cons_inv
    cases r2.nil_inv
    obtain ⟨d, hd, p⟩ := opt_ok p
    obtain ⟨ns, h2, rfl⟩ := Option.map_eq_some_iff.mp hd
    obtain ⟨q, ws, rfl, h3, _, h4, _⟩ := tup_view rh r1
    exact cr_sumT hc pins s σ H _ us Q I rv ⟨q, ns, rfl, by rw [← intsD_view h4 h2]; exact SqT.of h3, bk (.int _) p⟩
  · obtain ⟨v, ws, rfl, r1, r2⟩ := r.cons_inv
    cases r2.nil_inv
    split at p
    · rename_i ns hx
      obtain ⟨xs, h1, h2⟩ := Option.bind_eq_some_iff.mp hx
      obtain ⟨q, ws, rfl, h3, h4, _⟩ := lst_view rh r1 h1
      exact cr_sum hc pins s σ H _ us Q I rv ⟨q, ns, rfl, by rw [← intsD_view h4 h2]; exact SqL.of h3, bk (.int _) p⟩
    · exact p.elim
  · obtain ⟨v, ws, rfl, r1, r2⟩ := r.cons_inv
    cases r2.nil_inv
    obtain ⟨d, hd, p⟩ := opt_ok p
    obtain ⟨ns, h0, h5⟩ := Option.bind_eq_some_iff.mp hd
    obtain ⟨xs, h1, h2⟩ := Option.bind_eq_some_iff.mp h0
    obtain ⟨m, hm, rfl⟩ := Option.map_eq_some_iff.mp h5
    obtain ⟨q, ws, rfl, h3, h4, _⟩ := lst_view rh r1 h1
    obtain ⟨g1, g2⟩ := minI_spec hm
    refine cr_min hc pins s σ H _ us Q I rv ⟨q, ns, rfl, by rw [← intsD_view h4 h2]; exact SqL.of h3, List.length_pos_of_mem g1, fun m' e1 e2 => ?_⟩
    have : m' = m := Int.le_antisymm (e2 m g1) (g2 m' e1)
    subst this
    exact bk (.int _) p
  · obtain ⟨v, ws, rfl, r1, r2⟩ := r.cons_inv
    cases r2.nil_inv
    obtain ⟨d, hd, p⟩ := opt_ok p
    obtain ⟨ns, h0, h5⟩ := Option.bind_eq_some_iff.mp hd
    obtain ⟨xs, h1, h2⟩ := Option.bind_eq_some_iff.mp h0
    obtain ⟨m, hm, rfl⟩ := Option.map_eq_some_iff.mp h5
    obtain ⟨q, ws, rfl, h3, h4, _⟩ := lst_view rh r1 h1
    obtain ⟨g1, g2⟩ := maxI_spec hm
    refine cr_max hc pins s σ H _ us Q I rv ⟨q, ns, rfl, by rw [← intsD_view h4 h2]; exact SqL.of h3, List.length_pos_of_mem g1, fun m' e1 e2 => ?_⟩
    have : m' = m := Int.le_antisymm (g2 m' e1) (e2 m g1)
    subst this
    exact bk (.int _) p
  · obtain ⟨v, ws, rfl, r1, r2⟩ := r.cons_inv
    cases r2.nil_inv
    obtain ⟨d, hd, p⟩ := opt_ok p
    obtain ⟨bs, h0, rfl⟩ := Option.map_eq_some_iff.mp hd
    obtain ⟨xs, h1, h2⟩ := Option.bind_eq_some_iff.mp h0
    obtain ⟨q, ws, rfl, h3, h4, _⟩ := lst_view rh r1 h1
    exact cr_all hc pins s σ H _ us Q I rv ⟨q, bs, rfl, by rw [← blsD_view h4 h2]; exact SqL.of h3, bk (.bl _) p⟩
  · rename_i x
    obtain ⟨v, ws, rfl, r1, r2⟩ := r.cons_inv
    cases r2.nil_inv
    split at p
    · rename_i e he
      split at p
      · rename_i h
        obtain ⟨g1, g2, g3, g4⟩ := h
        have hz : (PyData.shown e).length ≤ sizeLine := by rw [← sLine_eq]; exact g4
        have dp := py_dp rh 8 r1 he
        rw [hK] at dp
        obtain ⟨u, rfl, ru⟩ := vals1 rv
        have fin : ∀ (h' : Heap) (t tk : Tok), (∀ b o, s.heap.get? b = some o → h'.get? b = some o) → EP X pins σ Q (.str (PyData.shown e) t) { s with heap := h', toks := tk } := fun h' t tk hk => ⟨.str _, H, I.kept hk, ⟨_, rfl⟩, bk (.str _) p⟩
        obtain ⟨as, rd⟩ := Dp.reads I e v u dp ru
        show wpAny _ _ (call (.builtin "repr") [u]) _ _ _
        cases dp with
        | non => cases (show u = Value.none from ru); exact PySem.P.repr_of_none (fin s.heap _ _ fun _ _ h => h)
        | bl b => cases (show u = Value.bool b from ru); exact PySem.P.repr_of_bool (fin s.heap _ _ fun _ _ h => h)
        | int i => obtain ⟨t, rfl⟩ := ru; exact PySem.P.repr_of_int (by simpa [PyData.showable] using g1) (fin s.heap _ _ fun _ _ h => h)
        | str z => obtain ⟨t, rfl⟩ := ru; exact PySem.P.repr_of_str (fin s.heap _ _ fun _ _ h => h) hz
        | lst q1 q2 =>
          cases (show u = Value.ref _ from ru)
          exact PySem.repr_of_reads' rd g1 (PyData.noDict_hsm g2) hg (by omega) (fun _ _ h => h) fin hz
        | tup q1 q2 =>
          cases (show u = Value.ref _ from ru)
          exact PySem.repr_of_reads' rd g1 (PyData.noDict_hsm g2) hg (by omega) (fun _ _ h => h) fin hz
      · exact p.elim
    · exact p.elim
  · obtain ⟨v, ws, rfl, r1, r2⟩ := r.cons_inv
    cases r2.nil_inv
    obtain ⟨d, hd, p⟩ := opt_ok p
    obtain ⟨bs, h0, rfl⟩ := Option.map_eq_some_iff.mp hd
    obtain ⟨xs, h1, h2⟩ := Option.bind_eq_some_iff.mp h0
    obtain ⟨q, ws, rfl, h3, h4, _⟩ := lst_view rh r1 h1
    exact cr_any hc pins s σ H _ us Q I rv ⟨q, bs, rfl, by rw [← blsD_view h4 h2]; exact SqL.of h3, bk (.bl _) p⟩
  · exact p.elim
end
end Mq
end

section
set_option maxHeartbeats 8000000
/-! Fw5a: defs, called where no repr is under way. -/
namespace Mq
open PySem L2 PySem.Spec PyProof.Rows
structure FnG (P : Program) (w : World) (K : PySem.W.Frag) (mg : Str → Option Value) (base : Heap) (k : Nat) (f : Addr) (fd : FuncData) (ps : List Str) (sp : Sp) : Prop where
  len : ∀ vs H Q E, sp vs H Q E → vs.length = ps.length
  go : ∀ (A : Around) (out : List Env) (s : Shared) (H : Hp) (ag : Args) (us : List Value) (vs : List V) (Q : VK) (E : XK), Room k A → A.guards = some [] → Env0 P w K mg base A out s H → BindsTo s fd ag (ps.zip us) → Vals vs us → sp vs H Q E →
    codeAny (model P w) A (.call (.ref f) ag) (CR (L2.CX P w) out P w H s Q E) s
section
variable {P : Program} {w : World} {K : PySem.W.Frag} {mg : Str → Option Value} {base : Heap} {j k : Nat} {f : Addr} {fd : FuncData} {ps : List Str} {sp sp' : Sp}
theorem FnG.mono (F : FnG P w K mg base j f fd ps sp) (h : j ≤ k) : FnG P w K mg base k f fd ps sp := ⟨F.len, fun A out s H ag us vs Q E hr => F.go A out s H ag us vs Q E (hr.mono h)⟩
theorem FnG.imp (F : FnG P w K mg base k f fd ps sp) (h : ∀ vs H Q E, sp' vs H Q E → sp vs H Q E) : FnG P w K mg base k f fd ps sp' :=
  ⟨fun vs H Q E q => F.len vs H Q E (h _ _ _ _ q), fun A out s H ag us vs Q E a b c d e q => F.go A out s H ag us vs Q E a b c d e (h _ _ _ _ q)⟩
end
section
variable {X : Cx} {wx : WX} {k : Nat} {f C : Addr} {fd : FuncData} {ps : List Str} {sp : Sp} {ds : List Value} {dvs : List V} {pins : List (Addr × Obj)} {σ : L2.St} {H : Hp} {s : Shared} {Q : VK} {us : List Value} {vs : List V}
/-- what a callee lets out is taken, at these slots -/
theorem pass_at (tk : Takes X wx) {e : Value} {s' : Shared} (I : Inv X pins σ H s) (c : L2.CX X.prog X.w X.stack H s (fun c d H => wx c d σ H) e s') : X.xe e s' := tk e s' (XE.of_call I (fun _ _ _ h => h) c)
theorem out_of {r : Result} {s' : Shared} (tk : Takes X wx) (I : Inv X pins σ H s) (hq : CR (L2.CX X.prog X.w) X.stack X.prog X.w H s Q (fun c d H => wx c d σ H) r s') :
    match r with
    | .error e => X.xe e s'
    | .ok (.ret u) => EP X pins σ Q u s'
    | .ok _ => False := by
  cases r with
  | error e => exact pass_at tk I hq
  | ok fl =>
    cases fl with
    | ret u => exact I.after hq
    | next => exact hq
    | brk => exact hq
    | cont => exact hq
theorem run_g (F : FnG X.prog X.w X.K X.mg X.base k f fd ps sp) (hr : Room k X.A) (hg : X.A.guards = some []) (hb : Binds X.K fd ps ds) (hd : Vals dvs ds) (tk : Takes X wx) (I : Inv X pins σ H s) (r : Vals vs us)
    (h : sp (vs ++ dvs) H Q fun c d H => wx c d σ H) : wpAny (model X.prog X.w) X.A (call (.ref f) us) (EP X pins σ Q) X.xe s := by
  have ra := r.append hd
  have hl : (us ++ ds).length = ps.length := ra.length.symm.trans (F.len _ _ _ _ h)
  refine wpAny_call (codeAny_mono (F.go X.A X.stack s H ⟨us, []⟩ _ _ Q _ hr hg I.env0 (hb s us I.kIn hl) ra h) fun r s' hq => ?_)
  have o := out_of tk I hq
  cases r with
  | error e => exact o
  | ok fl => cases fl <;> first | exact o | exact o.elim
theorem under_guards {A : Around} {us : List Value} {kw : List (Str × Value)} : (A.under (.builtin "type.__call__" ⟨.ref C :: us, kw⟩)).guards = A.guards := by
  first | rfl | simp [Around.under, Code.weight, Code.isCreation, Code.isGuard, Code.isCaller, Code.frames, Code.isFrame, guardIds]
theorem run_mk (M : Mk X.K C f) (F : FnG X.prog X.w X.K X.mg X.base k f fd ps sp) (hr : Room (k + 1) X.A) (hg : X.A.guards = some []) (hb : Binds X.K fd ps ds) (hd : Vals dvs ds) (tk : Takes X wx) (I : Inv X pins σ H s) (r : Vals vs us)
    (h : ∀ x dx, H x = none → H dx = none → dx ≠ x → sp (.ref x :: (vs ++ dvs)) (upd (upd H dx (.own x)) x (.ins C dx [])) (fun v H2 => v = .non ∧ Q (.ref x) H2) fun c d H => wx c d σ H) :
    wpAny (model X.prog X.w) X.A (call (.ref C) us) (EP X pins σ Q) X.xe s := by
  have n1 : H s.heap.objs.size = none := I.hok.fresh (Nat.le_refl _)
  have n2 : H (s.heap.objs.size + 1) = none := I.hok.fresh (Nat.le_succ _)
  have hq := h _ _ n2 n1 (Nat.ne_of_lt (Nat.lt_succ_self _))
  have J := Inv.made (C := C) I
  have ra : Vals (V.ref (s.heap.objs.size + 1) :: (vs ++ dvs)) (Value.ref (s.heap.objs.size + 1) :: (us ++ ds)) := .cons rfl (r.append hd)
  have hl : (Value.ref (s.heap.objs.size + 1) :: us ++ ds).length = ps.length := ra.length.symm.trans (F.len _ _ _ _ hq)
  refine wpAny_call (make_map (f := f) I.kIn M.makes M.init (beq_iff_eq.mp M.fn) (codeAny_mono (F.go _ X.stack _ _ ⟨Value.ref (s.heap.objs.size + 1) :: us, []⟩ (Value.ref (s.heap.objs.size + 1) :: (us ++ ds)) _ _ _
    (hr.make C us []) (under_guards.trans hg) (J.env0.make C us []) (hb _ (Value.ref (s.heap.objs.size + 1) :: us) J.kIn hl) ra hq) fun r s' hq' => ?_))
  have o := out_of tk J hq'
  cases r with
  | error e => exact o
  | ok fl =>
    cases fl with
    | ret u =>
      obtain ⟨v, H', J3, rv, ev, q3⟩ := o
      subst ev
      exact ⟨rv, ⟨V.ref (s.heap.objs.size + 1), H', J3, rfl, q3⟩⟩
    | next => exact o.elim
    | brk => exact o.elim
    | cont => exact o.elim
end
section
variable {X : Cx} {wx : WX} {k : Nat} {f C : Addr} {fd : FuncData} {ps : List Str} {sp : Sp} {ds : List Value} {dvs : List V} {x m : Str} {p pos apos : Pos} {o : Expr} {es : List Expr} {t : TA} {ta : TE}
def tCallG (sp : Sp) (dvs : List V) (wx : WX) (t : TA) : TE := fun σ H Q => t σ H fun vs H1 => sp (vs ++ dvs) H1 Q fun c d H => wx c d σ H
def tMkG (C : Addr) (sp : Sp) (dvs : List V) (wx : WX) (t : TA) : TE := fun σ H Q => t σ H fun vs H1 => ∀ x dx, H1 x = none → H1 dx = none → dx ≠ x →
  sp (.ref x :: (vs ++ dvs)) (upd (upd H1 dx (.own x)) x (.ins C dx [])) (fun v H2 => v = .non ∧ Q (.ref x) H2) fun c d H => wx c d σ H
def tMethG (C : Addr) (m : Str) (sp : Sp) (dvs : List V) (wx : WX) (ta : TE) (t : TA) : TE := fun σ H Q => ta σ H fun x H1 => ∃ a dx fs, x = .ref a ∧ H1 a = some (.ins C dx fs) ∧ fs.lookup m = none ∧ t σ H1 fun vs H2 => sp (x :: (vs ++ dvs)) H2 Q fun c d H => wx c d σ H
/-- no star among the arguments -/
def noStar : List Expr → Bool
  | [] => true
  | .Starred _ _ :: _ => false
  | _ :: es => noStar es
theorem star_cons {e : Expr} {env : Env} (h : noStar (e :: es) = true) : starEach (e :: es) env = (false, eval e env) :: starEach es env ∧ noStar es = true := by
  cases e <;> first | exact ⟨rfl, h⟩ | (cases h)
theorem star_all {env : Env} : ∀ {es : List Expr}, noStar es = true → (backTo pos (starEach es env)).any (·.1) = false
  | [], _ => rfl
  | e :: es, h => by
    obtain ⟨h1, h2⟩ := star_cons (env := env) h
    rw [h1]
    show (false || (backTo pos (starEach es env)).any (·.1)) = false
    rw [star_all h2]
    rfl
section
variable {e : Expr}
theorem pe_callG (F : FnG X.prog X.w X.K X.mg X.base k f fd ps sp) (hr : Room k X.A) (hg : X.A.guards = some []) (gl : Gl X x) (hm : X.mg x = some (.ref f)) (hk : PySem.W.keepIn X.K (.ref f) = true) (hb : Binds X.K fd ps ds) (hd : Vals dvs ds) (tk : Takes X wx)
    (ha : PA X (e :: es) t) (hst : noStar (e :: es) = true) (hdb : (x == ("__debug__" : Str)) = false) : PE X (.Call (.Name x p) (e :: es) [] pos) (tCallG sp dvs wx t) := by
  refine ⟨fun pins s σ H Q I h => ?_⟩
  refine wpAny_Call_Name_kw (ld_glob I gl hm ?_ hdb)
  obtain ⟨h1, h2⟩ := star_cons (env := X.env) hst
  refine PySem.W.callWith_K (h₀ := X.base) I.ok.mod.kin hk (thn (ha.run pos pins s σ H _ I h) fun us s1 ⟨vs, H1, I1, r, q⟩ => ⟨I1.kIn, ?_⟩) h1 (star_all h2)
  exact run_g F hr hg hb hd tk I1 r q
theorem pe_callG0 (F : FnG X.prog X.w X.K X.mg X.base k f fd ps sp) (hr : Room k X.A) (hg : X.A.guards = some []) (gl : Gl X x) (hm : X.mg x = some (.ref f)) (hk : PySem.W.keepIn X.K (.ref f) = true) (hb : Binds X.K fd ps ds) (hd : Vals dvs ds) (tk : Takes X wx)
    (hdb : (x == ("__debug__" : Str)) = false) : PE X (.Call (.Name x p) [] [] pos) (tCallG sp dvs wx tNil) := by
  refine ⟨fun pins s σ H Q I h => ?_⟩
  exact wpAny_Call_Name_kw (ld_glob I gl hm (PySem.W.callWith_K0 I.kIn hk (run_g (us := []) F hr hg hb hd tk I .nil h)) hdb)
theorem pe_mkG (M : Mk X.K C f) (F : FnG X.prog X.w X.K X.mg X.base k f fd ps sp) (hr : Room (k + 1) X.A) (hg : X.A.guards = some []) (gl : Gl X x) (hm : X.mg x = some (.ref C)) (hb : Binds X.K fd ps ds) (hd : Vals dvs ds) (tk : Takes X wx)
    (ha : PA X (e :: es) t) (hst : noStar (e :: es) = true) (hdb : (x == ("__debug__" : Str)) = false) : PE X (.Call (.Name x p) (e :: es) [] pos) (tMkG C sp dvs wx t) := by
  refine ⟨fun pins s σ H Q I h => ?_⟩
  refine wpAny_Call_Name_kw (ld_glob I gl hm ?_ hdb)
  obtain ⟨h1, h2⟩ := star_cons (env := X.env) hst
  refine PySem.W.callWith_K (h₀ := X.base) I.ok.mod.kin M.kp (thn (ha.run pos pins s σ H _ I h) fun us s1 ⟨vs, H1, I1, r, q⟩ => ⟨I1.kIn, ?_⟩) h1 (star_all h2)
  exact run_mk M F hr hg hb hd tk I1 r q
theorem pe_mkG0 (M : Mk X.K C f) (F : FnG X.prog X.w X.K X.mg X.base k f fd ps sp) (hr : Room (k + 1) X.A) (hg : X.A.guards = some []) (gl : Gl X x) (hm : X.mg x = some (.ref C)) (hb : Binds X.K fd ps ds) (hd : Vals dvs ds) (tk : Takes X wx)
    (hdb : (x == ("__debug__" : Str)) = false) : PE X (.Call (.Name x p) [] [] pos) (tMkG C sp dvs wx tNil) := by
  refine ⟨fun pins s σ H Q I h => ?_⟩
  exact wpAny_Call_Name_kw (ld_glob I gl hm (PySem.W.callWith_K0 I.kIn M.kp (run_mk (us := []) M F hr hg hb hd tk I .nil h)) hdb)
/-- nothing but the object stands in the way of an attribute -/
def plainBase : Expr → Bool
  | .Call (.Name id _) [] [] _ => id != "super"
  | _ => true
theorem base_ok {f : Str} {env : Env} (h : plainBase o = true) : attributeBase o f env (eval o env) = eval o env := by
  unfold attributeBase
  split
  · rename_i id q p'
    have hid : (id != "super") = true := h
    rw [if_pos (by rw [hid]; rfl)]
  · rfl
theorem pe_methG {pl : Sem Bool} (he : PE X o ta) (c : Cls X.K C) (hm : Meth X.K C m f) (F : FnG X.prog X.w X.K X.mg X.base k f fd ps sp) (hr : Room k X.A) (hg : X.A.guards = some []) (hb : Binds X.K fd ps ds) (hd : Vals dvs ds) (tk : Takes X wx) (ha : PA X (e :: es) t) (hst : noStar (e :: es) = true)
    (ht : eval (.Call (.Attribute o m apos) (e :: es) [] pos) X.env = (do
      let ov ← eval o X.env
      standAt apos.atName
      let (f, first) ← holding [ov] (getMethod ov m pl)
      callWith pos f first (backTo pos (starEach (e :: es) X.env)) (backToKw pos (keywordEach [] X.env)))) : PE X (.Call (.Attribute o m apos) (e :: es) [] pos) (tMethG C m sp dvs wx ta t) := by
  refine ⟨fun pins s σ H Q I h => ?_⟩
  obtain ⟨h1, h2⟩ := star_cons (env := X.env) hst
  refine PySem.W.methodCall_KW (pl := pl) (thn (he.run pins s σ H _ I h) fun u s1 ⟨x, H1, I1, rx, a, dx, fs, ex, ea, l, q⟩ => ?_) ht
  subst ex
  obtain rfl : u = Value.ref a := rx
  refine getmeth_ok I1 ea c hm l (PySem.W.callWith_K (first := [.ref a]) (h₀ := X.base) I.ok.mod.kin hm.kp (thn (ha.run pos pins s1 σ H1 _ I1 q) fun us s2 ⟨vs, H2, I2, r, q2⟩ => ⟨I2.kIn, ?_⟩) h1 (star_all h2))
  exact run_g (us := .ref a :: us) (vs := .ref a :: vs) F hr hg hb hd tk I2 (.cons rfl r) q2
theorem pe_methG0 {pl : Sem Bool} (he : PE X o ta) (c : Cls X.K C) (hm : Meth X.K C m f) (F : FnG X.prog X.w X.K X.mg X.base k f fd ps sp) (hr : Room k X.A) (hg : X.A.guards = some []) (hb : Binds X.K fd ps ds) (hd : Vals dvs ds) (tk : Takes X wx)
    (ht : eval (.Call (.Attribute o m apos) [] [] pos) X.env = (do
      let ov ← eval o X.env
      standAt apos.atName
      let (f, first) ← holding [ov] (getMethod ov m pl)
      callWith pos f first (backTo pos (starEach [] X.env)) (backToKw pos (keywordEach [] X.env)))) : PE X (.Call (.Attribute o m apos) [] [] pos) (tMethG C m sp dvs wx ta tNil) := by
  refine ⟨fun pins s σ H Q I h => ?_⟩
  refine PySem.W.methodCall_KW (pl := pl) (thn (he.run pins s σ H _ I h) fun u s1 ⟨x, H1, I1, rx, a, dx, fs, ex, ea, l, q⟩ => ?_) ht
  subst ex
  obtain rfl : u = Value.ref a := rx
  exact getmeth_ok I1 ea c hm l (PySem.W.callWith_K0 (first := [.ref a]) I1.kIn hm.kp (run_g (us := [.ref a]) (vs := [.ref a]) F hr hg hb hd tk I1 (.cons rfl .nil) q))
end
/-! ### a def's body keeps its promise -/
theorem body_g {P : Program} {w : World} {K : PySem.W.Frag} {mg : Str → Option Value} {base : Heap} {k : Nat} {f : Addr} {x qual : Str} {st : Stmt} {fd : FuncData} {N ps : List Str} {sp : Sp} (F : Fun K x qual st f fd) (Sc : FnScope N ps (defScope st))
    (len : ∀ vs H Q E, sp vs H Q E → vs.length = ps.length)
    (hbody : ∀ (cdv : Value) (A : Around) (out : List Env) (s : Shared) (H : Hp) (vs : List V) (Q : VK) (E : XK), Room k (A.deeper (envOfC qual (defScope st) s.heap.objs.size f cdv)) → A.guards = some [] → sp vs H Q E →
      ∃ t, PSs (cxOf (L2.CX P w) P w K mg base N qual (defScope st) f cdv A out s H E) (defBody st) t ∧ t { nx := fun _ H' => Q .non H', rt := Q } (L2.start N vs) H) : FnG P w K mg base (k + 1) f fd ps sp := by
  refine ⟨len, fun A out s H ag us vs Q E hr hg e0 hb r hs => ?_⟩
  obtain ⟨oc, od, kV, doc, pm, an, cdv, ct, osl, rfl, lk, hcd⟩ := F.ex
  have there : ∀ b o, base.get? b = some o → s.heap.get? b = some o := fun b o e => (e0.bs b o e).1
  have hK : K.In s.heap := e0.mod.kin.keeps there
  have kinds : ∀ y ∈ ps.zip us, (defScope st).names.lookup y.1 = some .local ∨ ((defScope st).names.lookup y.1 = some .cell ∧ ((cellsFrom (s.heap.objs.size + 1) (defScope st).names []).lookup y.1).isSome = true) := by
    rintro ⟨n, v⟩ hy
    rcases Sc.par n (List.of_mem_zip hy).1 with h | h
    · exact .inl h
    · exact .inr ⟨h, PySem.W.cellsFrom_some _ _ _ (.inl h)⟩
  refine codeAny_call_function hr.depth (hK _ _ lk) rfl Sc.co Sc.gen rfl (PySem.W.codeRec_of hK hcd) (hb _ _ _ _ (wpAny_newFunctionEnv_cells Sc.kind kinds fun env he s1 hin => ?_))
  subst he
  refine ⟨(e0.mod.nolimit.keeps there).keeps hin.toInCall.keep, codeAny_func ?_⟩
  obtain ⟨t, ht, hq⟩ := hbody cdv A out s H vs Q E (hr.deeper _) hg hs
  have I : Inv (cxOf (L2.CX P w) P w K mg base N qual (defScope st) f cdv A out s H E) [] (L2.start N vs) H s1 := inv_start Sc hr.hd e0 (len _ _ _ _ hs) r hin
  refine wpAny_mono (ht.run [] s1 _ H _ I hq) (fun fl s' e => ?_) fun _ _ e => e
  have back : ∀ {σ' : L2.St} {H' : Hp} {v : V} {u : Value}, Inv (cxOf (L2.CX P w) P w K mg base N qual (defScope st) f cdv A out s H E) [] σ' H' s' → RelV v u → Q v H' → CE out P w H s Q u s' :=
    fun {σ' H' v u} J rv q => ⟨v, H', J.os, J.bare, J.base, J.hok, rv, q⟩
  cases fl with
  | ret u =>
    obtain ⟨v, σ', H', J, rv, q⟩ := e
    exact back J rv q
  | next =>
    obtain ⟨σ', H', J, q⟩ := e
    exact back (v := V.non) (u := Value.none) J rfl q
  | brk => obtain ⟨_, _, _, q⟩ := e; exact q.elim
  | cont => obtain ⟨_, _, _, q⟩ := e; exact q.elim
end
end Mq
end

section
set_option maxHeartbeats 8000000
/-! Fw5: expressions mean their runs. -/
namespace Mq
open PySem L2 PySem.Spec PyProof.Rows
abbrev W0 : XK := fun _ _ _ => False
def NoExc {α : Type} (r : R α) : Prop := ∀ e S, r ≠ .exc e S
theorem alloc_ne {c : Bool} {xs : List D} {S : Sto} : NoExc (alloc c xs S) := by
  intro e S' h
  unfold alloc at h
  split at h <;> cases h
theorem opt_ne {α : Type} {o : Option α} {S : Sto} : NoExc (R.opt S o) := by
  intro e S' h
  cases o <;> cases h
theorem bin_ne {o : Operator} {c : Bool} {x y : D} {S : Sto} : NoExc (binD o c x y S) := by
  intro e S' h
  unfold binD at h
  split at h
  · split at h <;> first | cases h | (split at h <;> cases h)
  · split at h
    · split at h <;> cases h
    · cases h
  · split at h
    · split at h <;> cases h
    · cases h
  · split at h
    · split at h <;> cases h
    · cases h
  · split at h
    · split at h
      · exact alloc_ne _ _ h
      · cases h
    · cases h
  · split at h
    · split at h
      · exact alloc_ne _ _ h
      · cases h
    · cases h
theorem cmp_ne {o : CmpOp} {x y : D} {S : Sto} : NoExc (cmpD o x y S) := by
  intro e S' h
  cases o <;> unfold cmpD at h <;> dsimp only at h <;> first
    | exact opt_ne _ _ h
    | (split at h <;> cases h)
theorem idxS_ne {x y : D} {S : Sto} : NoExc (idxS x y S) := by
  intro e S' h
  unfold idxS at h
  split at h
  · split at h
    · split at h <;> cases h
    · cases h
  · split at h <;> cases h
  · cases h
theorem idx_ne {x y : D} {S : Sto} : NoExc (idxD x y S) := by
  intro e S' h
  unfold idxD at h
  split at h
  · split at h
    · exact opt_ne _ _ h
    · split at h
      · exact opt_ne _ _ h
      · cases h
    · exact idxS_ne _ _ h
  · exact idxS_ne _ _ h
theorem cut_ne {c : Bool} {x : D} {lo hi : Option Int} {S : Sto} : NoExc (cutD c x lo hi S) := by
  intro e S' h
  unfold cutD at h
  split at h
  · exact alloc_ne _ _ h
  · split at h
    · exact alloc_ne _ _ h
    · cases h
theorem bi_ne {b : Bi} {c : Bool} {xs : List D} {S : Sto} : NoExc (biD b c xs S) := by
  intro e S' h
  unfold biD at h
  split at h <;> first
    | cases h
    | exact opt_ne _ _ h
    | (split at h <;> first | cases h | exact alloc_ne _ _ h | (split at h <;> cases h))
section
variable {α β γ δ : Type} {W : Wd} {rel : Mp → β → α → Prop} {WE WE' : XK} {M M' : Mp} {H : Hp} {S : Sto} {r : R α} {Q : β → Hp → Prop}
theorem Post.noexc (h : NoExc r) (p : Post W rel WE M r Q) : Post W rel WE' M r Q := by
  cases r with
  | ok a S => exact p
  | exc e S => exact absurd rfl (h e S)
  | no => exact p
end
section
variable {X : Cx} {W : Wd} {wx : WX} {a b c e : Expr} {f g h : Sg → Sto → R D} {pos : Pos} {σ : L2.St} {H : Hp} {γ δ : Type} {rel' : Mp → δ → γ → Prop}
theorem tE_imp {Q Q' : VK} (h : tE W wx f σ H Q) (m : ∀ v H, Q v H → Q' v H) : tE W wx f σ H Q' := by
  obtain ⟨M, sg, S, rh, sl, p⟩ := h
  exact ⟨M, sg, S, rh, sl, p.imp m⟩
theorem tT_imp {ft : Sg → Sto → R Bool} {Q Q' : Bool → Hp → Prop} (h : tTs W wx ft σ H Q) (m : ∀ v H, Q v H → Q' v H) : tTs W wx ft σ H Q' := by
  obtain ⟨M, sg, S, rh, sl, p⟩ := h
  exact ⟨M, sg, S, rh, sl, p.imp m⟩
theorem oneT {ft : Sg → Sto → R Bool} {k : Sg → Bool → Sto → R γ} {Q : δ → Hp → Prop} (q : ∃ M sg S, RelH W M H S ∧ RelSl W M σ sg ∧ Post W rel' (fun c d H => wx c d σ H) M ((ft sg S).bind (k sg)) Q) :
    tTs W wx ft σ H fun b H1 => ∃ M sg S, RelH W M H1 S ∧ RelSl W M σ sg ∧ Post W rel' (fun c d H => wx c d σ H) M (k sg b S) Q := by
  obtain ⟨M, sg, S, rh, sl, p⟩ := q
  exact ⟨M, sg, S, rh, sl, (p.bind (rel := fun _ (b b' : Bool) => b = b')).imp fun v H1 ⟨M1, d, S1, l, r1, r2, p1⟩ => ⟨M1, sg, S1, r1, sl.mono l, by rw [r2]; exact p1⟩⟩
theorem oneA {fs : Sg → Sto → R (List D)} {k : Sg → List D → Sto → R γ} {Q : δ → Hp → Prop} (q : ∃ M sg S, RelH W M H S ∧ RelSl W M σ sg ∧ Post W rel' (fun c d H => wx c d σ H) M ((fs sg S).bind (k sg)) Q) :
    tAs W wx fs σ H fun vs H1 => ∃ M sg S ds, RelH W M H1 S ∧ RelSl W M σ sg ∧ Reps W M vs ds ∧ Post W rel' (fun c d H => wx c d σ H) M (k sg ds S) Q := by
  obtain ⟨M, sg, S, rh, sl, p⟩ := q
  exact ⟨M, sg, S, rh, sl, (p.bind (rel := Reps W)).imp fun v H1 ⟨M1, d, S1, l, r1, r2, p1⟩ => ⟨M1, sg, S1, d, r1, sl.mono l, r2, p1⟩⟩
theorem oneO {fo : Sg → Sto → R (Option Int)} {k : Sg → Option Int → Sto → R γ} {Q : δ → Hp → Prop} (q : ∃ M sg S, RelH W M H S ∧ RelSl W M σ sg ∧ Post W rel' (fun c d H => wx c d σ H) M ((fo sg S).bind (k sg)) Q) :
    tOs W wx fo σ H fun o H1 => ∃ M sg S, RelH W M H1 S ∧ RelSl W M σ sg ∧ Post W rel' (fun c d H => wx c d σ H) M (k sg o S) Q := by
  obtain ⟨M, sg, S, rh, sl, p⟩ := q
  exact ⟨M, sg, S, rh, sl, (p.bind (rel := fun _ (b b' : Option Int) => b = b')).imp fun v H1 ⟨M1, d, S1, l, r1, r2, p1⟩ => ⟨M1, sg, S1, r1, sl.mono l, by rw [r2]; exact p1⟩⟩
/-- one run, then what stands behind it -/
theorem one {k : Sg → D → Sto → R γ} {Q : δ → Hp → Prop} (q : ∃ M sg S, RelH W M H S ∧ RelSl W M σ sg ∧ Post W rel' (fun c d H => wx c d σ H) M ((f sg S).bind (k sg)) Q) :
    tE W wx f σ H fun v H1 => ∃ M sg S d, RelH W M H1 S ∧ RelSl W M σ sg ∧ RepV W M v d ∧ Post W rel' (fun c d H => wx c d σ H) M (k sg d S) Q := by
  obtain ⟨M, sg, S, rh, sl, p⟩ := q
  exact ⟨M, sg, S, rh, sl, p.bind.imp fun v H1 ⟨M1, d, S1, l, r1, r2, p1⟩ => ⟨M1, sg, S1, d, r1, sl.mono l, r2, p1⟩⟩
theorem two {k : Sg → D → D → Sto → R γ} {Q : δ → Hp → Prop} (q : ∃ M sg S, RelH W M H S ∧ RelSl W M σ sg ∧ Post W rel' (fun c d H => wx c d σ H) M ((f sg S).bind fun x S => (g sg S).bind fun y S => k sg x y S) Q) :
    tE W wx f σ H fun v H1 => tE W wx g σ H1 fun u H2 => ∃ M sg S d e, RelH W M H2 S ∧ RelSl W M σ sg ∧ RepV W M v d ∧ RepV W M u e ∧ Post W rel' (fun c d H => wx c d σ H) M (k sg d e S) Q := by
  obtain ⟨M, sg, S, rh, sl, p⟩ := q
  refine ⟨M, sg, S, rh, sl, p.bind.imp fun v H1 ⟨M1, d, S1, l, r1, r2, p1⟩ => ⟨M1, sg, S1, r1, sl.mono l, p1.bind.imp fun u H2 ⟨M2, e, S2, l2, r3, r4, p2⟩ => ⟨M2, sg, S2, d, e, r3, (sl.mono l).mono l2, r2.mono l2, r4, p2⟩⟩⟩
theorem de_var {i : Nat} {x : Str} (hN : X.N[i]? = some x) (hv : Vis X.env.scope x) (hd : (x == ("__debug__" : Str)) = false) (hcd : (x == ("__classdict__" : Str)) = false) : PE X (.Name x pos) (tE W wx fun σ S => match σ[i]? with | some (some d) => .ok d S | _ => .no) :=
  PE.mono (pe_var hN hv hd hcd) fun σ H Q ⟨M, sg, S, rh, sl, p⟩ => by
    dsimp only at p
    split at p
    · rename_i d e
      obtain ⟨v, h1, h2⟩ := sl.2 i d e
      exact ⟨v, h1, p _ _ _ (.refl M) rh h2⟩
    · exact p.elim
theorem de_c {d : D} {v : V} (hp : PE X e (tC v)) (hr : ∀ M, RepV W M v d) : PE X e (tE W wx fun _ S => .ok d S) :=
  PE.mono hp fun σ H Q ⟨M, sg, S, rh, sl, p⟩ => p _ _ _ (.refl M) rh (hr M)
theorem de_bin {o : Operator} {cc : Bool} (hK : W.K = X.K) (ha : PE X a (tE W wx f)) (hb : PE X b (tE W wx g)) : PE X (.BinOp a o b pos) (tE W wx fun σ S => (f σ S).bind fun x S => (g σ S).bind fun y S => binD o cc x y S) :=
  PE.mono (pe_op (op_bin (WE := W0) hK o cc) ha hb) fun σ H Q q => by
    obtain ⟨M, sg, S, rh, sl, p⟩ := two (k := fun _ x y S => binD o cc x y S) q
    exact ⟨M, sg, S, rh, sl, p.imp fun v H1 ⟨M1, sg1, S1, r1, s1, p1⟩ => ⟨M1, sg1, S1, r1, s1, p1.imp fun u H2 ⟨M2, sg2, S2, d, e, r3, s2, r2, r4, p2⟩ => ⟨M2, S2, d, e, r3, r2, r4, p2.noexc bin_ne⟩⟩⟩
theorem de_cmp {o : CmpOp} (hK : W.K = X.K) (hu : X.A.units + 64 < cLine) (hm : behindInMarks o b = false) (ha : PE X a (tE W wx f)) (hb : PE X b (tE W wx g)) : PE X (.Compare a [o] [b] pos) (tE W wx fun σ S => (f σ S).bind fun x S => (g σ S).bind fun y S => cmpD o x y S) :=
  PE.mono (pe_cmpR (op_cmp (WE := W0) hK hu o) ha hb hm) fun σ H Q q => by
    obtain ⟨M, sg, S, rh, sl, p⟩ := two (k := fun _ x y S => cmpD o x y S) q
    exact ⟨M, sg, S, rh, sl, p.imp fun v H1 ⟨M1, sg1, S1, r1, s1, p1⟩ => ⟨M1, sg1, S1, r1, s1, p1.imp fun u H2 ⟨M2, sg2, S2, d, e, r3, s2, r2, r4, p2⟩ => ⟨M2, S2, d, e, r3, r2, r4, p2.noexc cmp_ne⟩⟩⟩
theorem dt_cmp {o : CmpOp} (hK : W.K = X.K) (hu : X.A.units + 64 < cLine) (hm : behindInMarks o b = false) (ha : PE X a (tE W wx f)) (hb : PE X b (tE W wx g)) : PT X (.Compare a [o] [b] pos) (tTs W wx fun σ S => (f σ S).bind fun x S => (g σ S).bind fun y S => (cmpD o x y S).bind blR) :=
  PT.mono (pt_cmpR (op_cmp (WE := W0) hK hu o) ha hb hm) fun σ H Q q => by
    obtain ⟨M, sg, S, rh, sl, p⟩ := two (k := fun _ x y S => (cmpD o x y S).bind blR) q
    refine ⟨M, sg, S, rh, sl, p.imp fun v H1 ⟨M1, sg1, S1, r1, s1, p1⟩ => ⟨M1, sg1, S1, r1, s1, p1.imp fun u H2 ⟨M2, sg2, S2, d, e, r3, s2, r2, r4, p2⟩ => ⟨M2, S2, d, e, r3, r2, r4, ?_⟩⟩⟩
    refine Post.noexc cmp_ne ((p2.bind (rel := RepV W)).imp fun z H3 ⟨M3, e3, S3, l3, r5, r6, p3⟩ => ?_)
    unfold blR at p3
    split at p3
    · rename_i k
      exact ⟨k, bl_view r6, p3 _ _ _ (.refl _) r5 rfl⟩
    · exact p3.elim
theorem de_and {rest : List Expr} (ha : PE X a (tE W wx f)) (hb : PE X (.BoolOp .And (b :: rest) pos) (tE W wx g)) : PE X (.BoolOp .And (a :: b :: rest) pos) (tE W wx fun σ S => (f σ S).bind fun x S => match x with | .bl true => g σ S | .bl false => .ok (.bl false) S | _ => .no) :=
  PE.mono (pe_and ha hb) fun σ H Q q => by
    refine tE_imp (one (k := fun sg x S => match x with | .bl true => g sg S | .bl false => .ok (.bl false) S | _ => .no) q) fun v H1 ⟨M, sg, S, d, r1, sl, r2, p⟩ => ?_
    split at p
    · exact ⟨true, bl_view r2, iteT ⟨M, sg, S, r1, sl, p⟩⟩
    · exact ⟨false, bl_view r2, iteF (p _ _ _ (.refl M) r1 (.bl _))⟩
    · exact p.elim
theorem de_or {rest : List Expr} (ha : PE X a (tE W wx f)) (hb : PE X (.BoolOp .Or (b :: rest) pos) (tE W wx g)) : PE X (.BoolOp .Or (a :: b :: rest) pos) (tE W wx fun σ S => (f σ S).bind fun x S => match x with | .bl true => .ok (.bl true) S | .bl false => g σ S | _ => .no) :=
  PE.mono (pe_or ha hb) fun σ H Q q => by
    refine tE_imp (one (k := fun sg x S => match x with | .bl true => .ok (.bl true) S | .bl false => g sg S | _ => .no) q) fun v H1 ⟨M, sg, S, d, r1, sl, r2, p⟩ => ?_
    split at p
    · exact ⟨true, bl_view r2, iteT (p _ _ _ (.refl M) r1 (.bl _))⟩
    · exact ⟨false, bl_view r2, iteF ⟨M, sg, S, r1, sl, p⟩⟩
    · exact p.elim
theorem de_not (ha : PE X a (tE W wx f)) : PE X (.UnaryOp .Not a pos) (tE W wx fun σ S => (f σ S).bind fun x S => match x with | .bl k => .ok (.bl (!k)) S | _ => .no) :=
  PE.mono (pe_not ha) fun σ H Q q => by
    refine tE_imp (one (k := fun sg x S => match x with | .bl k => R.ok (D.bl (!k)) S | _ => .no) q) fun v H1 ⟨M, sg, S, d, r1, sl, r2, p⟩ => ?_
    split at p
    · rename_i k
      exact ⟨k, bl_view r2, p _ _ _ (.refl M) r1 (.bl _)⟩
    · exact p.elim
theorem de_neg (ha : PE X a (tE W wx f)) : PE X (.UnaryOp .USub a pos) (tE W wx fun σ S => (f σ S).bind fun x S => match x with | .int i => .ok (.int (-i)) S | _ => .no) :=
  PE.mono (pe_un un_neg ha) fun σ H Q q => by
    refine tE_imp (one (k := fun sg x S => match x with | .int i => R.ok (D.int (-i)) S | _ => .no) q) fun v H1 ⟨M, sg, S, d, r1, sl, r2, p⟩ => ?_
    split at p
    · rename_i k
      exact ⟨k, int_view r2, p _ _ _ (.refl M) r1 (.int _)⟩
    · exact p.elim
variable {ft gt : Sg → Sto → R Bool}
theorem de_ite {t : Expr} (ht : PT X t (tTs W wx ft)) (ha : PE X a (tE W wx f)) (hb : PE X b (tE W wx g)) : PE X (.IfExp t a b pos) (tE W wx fun σ S => (ft σ S).bind fun k S => match k with | true => f σ S | false => g σ S) :=
  PE.mono (pe_ifExp ht ha hb) fun σ H Q q => by
    refine tT_imp (oneT (k := fun sg k S => match k with | true => f sg S | false => g sg S) q) fun k H1 ⟨M, sg, S, r1, sl, p⟩ => ?_
    cases k with
    | true => exact iteT ⟨M, sg, S, r1, sl, p⟩
    | false => exact iteF ⟨M, sg, S, r1, sl, p⟩
/-! tests -/
theorem dt_tb (ha : PE X a (tE W wx f)) (he : ∀ whole, isTrue a X.env whole = (do let v ← whole; standAt a.pos; holding [v] (truthy v))) : PT X a (tTs W wx fun σ S => (f σ S).bind blR) :=
  PT.mono (pt_val ha he) fun σ H Q q => by
    refine tE_imp (one (k := fun _ => blR) q) fun v H1 ⟨M, sg, S, d, r1, sl, r2, p⟩ => ?_
    unfold blR at p
    split at p
    · rename_i k
      exact ⟨k, bl_view r2, p _ _ _ (.refl M) r1 rfl⟩
    · exact p.elim
theorem dt_tr (hK : W.K = X.K) (ha : PE X a (tE W wx f)) (he : ∀ whole, isTrue a X.env whole = (do let v ← whole; standAt a.pos; holding [v] (truthy v))) : PT X a (tTs W wx fun σ S => (f σ S).bind fun x S => R.opt S (truD x S)) :=
  PT.mono (pt_truth ha he) fun σ H Q q => by
    refine tE_imp (one (k := fun _ x S => R.opt S (truD x S)) q) fun v H1 ⟨M, sg, S, d, r1, sl, r2, p⟩ => ?_
    generalize hk : truD d S = o at p
    cases o with
    | none => exact p.elim
    | some k => exact ⟨k, tru_view hK r1 r2 hk, p _ _ _ (.refl M) r1 rfl⟩
theorem dt_and {rest : List Expr} (ha : PT X a (tTs W wx ft)) (hb : PW X (.BoolOp .And (b :: rest) pos) (tTs W wx gt)) : PW X (.BoolOp .And (a :: b :: rest) pos) (tTs W wx fun σ S => (ft σ S).bind fun k S => match k with | true => gt σ S | false => .ok false S) :=
  PW.mono (pw_and ha hb) fun σ H Q q => by
    refine tT_imp (oneT (k := fun sg k S => match k with | true => gt sg S | false => .ok false S) q) fun k H1 ⟨M, sg, S, r1, sl, p⟩ => ?_
    cases k with
    | true => exact iteT ⟨M, sg, S, r1, sl, p⟩
    | false => exact iteF (p _ _ _ (.refl M) r1 rfl)
theorem dt_or {rest : List Expr} (ha : PT X a (tTs W wx ft)) (hb : PW X (.BoolOp .Or (b :: rest) pos) (tTs W wx gt)) : PW X (.BoolOp .Or (a :: b :: rest) pos) (tTs W wx fun σ S => (ft σ S).bind fun k S => match k with | true => .ok true S | false => gt σ S) :=
  PW.mono (pw_or ha hb) fun σ H Q q => by
    refine tT_imp (oneT (k := fun sg k S => match k with | true => .ok true S | false => gt sg S) q) fun k H1 ⟨M, sg, S, r1, sl, p⟩ => ?_
    cases k with
    | true => exact iteT (p _ _ _ (.refl M) r1 rfl)
    | false => exact iteF ⟨M, sg, S, r1, sl, p⟩
theorem dt_not (ha : PT X a (tTs W wx ft)) : PT X (.UnaryOp .Not a pos) (tTs W wx fun σ S => (ft σ S).bind fun k S => .ok (!k) S) :=
  PT.mono (pt_not ha) fun σ H Q q => by
    refine tT_imp (oneT (k := fun sg k S => .ok (!k) S) q) fun k H1 ⟨M, sg, S, r1, sl, p⟩ => ?_
    exact p _ _ _ (.refl M) r1 rfl
/-! chains -/
theorem chain_read (hK : W.K = X.K) {h : Sg → Sto → R D} {o o' : CmpOp} {k : Sg → D → D → Sto → R γ} {kf : Sg → Sto → R γ} {Q : δ → Hp → Prop} {Q' : VK}
    (q : ∃ M sg S, RelH W M H S ∧ RelSl W M σ sg ∧ Post W rel' (fun c d H => wx c d σ H) M ((f sg S).bind fun x S => (g sg S).bind fun y S => (cmpD o x y S).bind fun r S => match r with
      | .bl true => (h sg S).bind fun z S => k sg y z S
      | .bl false => kf sg S
      | _ => .no) Q)
    (h1 : ∀ M sg S v u d e H, RelH W M H S → RelSl W M σ sg → RepV W M v d → RepV W M u e → Post W rel' (fun c d H => wx c d σ H) M (k sg d e S) Q → rCmp W W0 o' v u H Q')
    (h2 : ∀ M sg S H, RelH W M H S → RelSl W M σ sg → Post W rel' (fun c d H => wx c d σ H) M (kf sg S) Q → Q' (.bl false) H) :
    tChain (rCmp W W0 o) (rCmp W W0 o') (tE W wx f) (tE W wx g) (tE W wx h) σ H Q' := by
  obtain ⟨M, sg, S, rh, sl, p⟩ := two (k := fun sg x y S => (cmpD o x y S).bind fun r S => match r with
      | .bl true => (h sg S).bind fun z S => k sg y z S
      | .bl false => kf sg S
      | _ => .no) q
  refine ⟨M, sg, S, rh, sl, p.imp fun v H1 ⟨M1, sg1, S1, r1, s1, p1⟩ => ⟨M1, sg1, S1, r1, s1, p1.imp fun u H2 ⟨M2, sg2, S2, d, e, r3, s2, r2, r4, p2⟩ => ⟨M2, S2, d, e, r3, r2, r4, ?_⟩⟩⟩
  refine Post.noexc cmp_ne ((p2.bind (rel := RepV W)).imp fun z H3 ⟨M3, e3, S3, l3, r5, r6, p3⟩ => ?_)
  split at p3
  · refine ⟨true, bl_view r6, iteT ⟨M3, sg2, S3, r5, s2.mono l3, (p3.bind (rel := RepV W)).imp fun w' H4 ⟨M4, e4, S4, l4, r7, r8, p4⟩ => ?_⟩⟩
    exact h1 M4 sg2 S4 _ _ _ _ H4 r7 ((s2.mono l3).mono l4) ((r4.mono l3).mono l4) r8 p4
  · exact ⟨false, bl_view r6, iteF (h2 M3 sg2 S3 H3 r5 (s2.mono l3) p3)⟩
  · exact p3.elim
theorem de_chain {h : Sg → Sto → R D} {o o' : CmpOp} (hK : W.K = X.K) (hu : X.A.units + 64 < cLine) (hm : lastMarks [o, o'] [b, c] = false) (ha : PE X a (tE W wx f)) (hb : PE X b (tE W wx g)) (hc : PE X c (tE W wx h)) :
    PE X (.Compare a [o, o'] [b, c] pos) (tE W wx fun σ S => (f σ S).bind fun x S => (g σ S).bind fun y S => (cmpD o x y S).bind fun r S => match r with
      | .bl true => (h σ S).bind fun z S => cmpD o' y z S
      | .bl false => .ok (.bl false) S
      | _ => .no) :=
  PE.mono (pe_chain (op_cmp (WE := W0) hK hu o) (op_cmp (WE := W0) hK hu o') ha hb hc hm) fun σ H Q q =>
    chain_read (k := fun _ y z S => cmpD o' y z S) (kf := fun _ S => R.ok (D.bl false) S) hK q (fun M sg S v u d e H r s r1 r2 p => ⟨M, S, d, e, r, r1, r2, p.noexc cmp_ne⟩) fun M sg S H r s p => p _ _ _ (.refl M) r (.bl _)
theorem dt_chain {h : Sg → Sto → R D} {o o' : CmpOp} (hK : W.K = X.K) (hu : X.A.units + 64 < cLine) (hm : lastMarks [o, o'] [b, c] = false) (ha : PE X a (tE W wx f)) (hb : PE X b (tE W wx g)) (hc : PE X c (tE W wx h)) :
    PT X (.Compare a [o, o'] [b, c] pos) (tTs W wx fun σ S => (f σ S).bind fun x S => (g σ S).bind fun y S => (cmpD o x y S).bind fun r S => match r with
      | .bl true => (h σ S).bind fun z S => (cmpD o' y z S).bind blR
      | .bl false => .ok false S
      | _ => .no) :=
  PT.mono (pt_chain (op_cmp (WE := W0) hK hu o) (op_cmp (WE := W0) hK hu o') ha hb hc hm) fun σ H Q q =>
    chain_read (k := fun _ y z S => (cmpD o' y z S).bind blR) (kf := fun _ S => R.ok false S) hK q (fun M sg S v u d e H r s r1 r2 p => ⟨M, S, d, e, r, r1, r2, Post.noexc cmp_ne ((p.bind (rel := RepV W)).imp fun z H3 ⟨M3, e3, S3, l3, r5, r6, p3⟩ => by
      unfold blR at p3
      split at p3
      · rename_i k
        exact ⟨k, bl_view r6, p3 _ _ _ (.refl _) r5 rfl⟩
      · exact p3.elim)⟩) fun M sg S H r s p => ⟨false, rfl, p _ _ _ (.refl M) r rfl⟩
/-! lists of expressions -/
theorem da_nil : PA X [] (tAs W wx fun _ S => .ok [] S) := PA.mono pa_nil fun σ H Q ⟨M, sg, S, rh, sl, p⟩ => p _ _ _ (.refl M) rh .nil
variable {fs : Sg → Sto → R (List D)} {es : List Expr}
theorem da_cons (ha : PE X e (tE W wx f)) (hr : PA X es (tAs W wx fs)) (hs : noStar (e :: es) = true) : PA X (e :: es) (tAs W wx fun σ S => (f σ S).bind fun x S => (fs σ S).bind fun xs S => .ok (x :: xs) S) :=
  PA.mono (pa_cons ha hr (star_cons hs).1) fun σ H Q q => by
    refine tE_imp (one (k := fun sg x S => (fs sg S).bind fun xs S => .ok (x :: xs) S) q) fun v H1 ⟨M, sg, S, d, r1, sl, r2, p⟩ => ?_
    refine ⟨M, sg, S, r1, sl, (p.bind (rel := Reps W)).imp fun vs H2 ⟨M2, ds, S2, l2, r3, r4, p2⟩ => ?_⟩
    exact p2 _ _ _ (.refl _) r3 (.cons (r2.mono l2) r4)
theorem de_tup {k : Nat} (h : PA X es (tAs W wx fs)) : PE X (.Tuple es k pos) (tE W wx fun σ S => (fs σ S).bind fun xs S => if xs.length ≤ sLine then .ok (.tup xs) S else .no) :=
  PE.mono (pe_tup h) fun σ H Q q => by
    obtain ⟨M, sg, S, rh, sl, p⟩ := oneA (k := fun _ xs S => if xs.length ≤ sLine then R.ok (D.tup xs) S else .no) q
    refine ⟨M, sg, S, rh, sl, p.imp fun vs H1 ⟨M1, sg1, S1, ds, r1, s1, r2, p1⟩ => ?_⟩
    split at p1
    · rename_i hz
      rw [sLine_eq] at hz
      exact ⟨by rw [r2.1]; exact hz, fun q hq => tup_ok p1 r1 r2 hz hq⟩
    · exact p1.elim
theorem de_lst {cc : Bool} (h : PA X es (tAs W wx fs)) : PE X (.List es pos) (tE W wx fun σ S => (fs σ S).bind fun xs S => if xs.length ≤ sLine then alloc cc xs S else .no) :=
  PE.mono (pe_lst h) fun σ H Q q => by
    obtain ⟨M, sg, S, rh, sl, p⟩ := oneA (k := fun _ xs S => if xs.length ≤ sLine then alloc cc xs S else .no) q
    refine ⟨M, sg, S, rh, sl, p.imp fun vs H1 ⟨M1, sg1, S1, ds, r1, s1, r2, p1⟩ => ?_⟩
    split at p1
    · rename_i hz
      rw [sLine_eq] at hz
      exact ⟨by rw [r2.1]; exact hz, fun q hq => alloc_ok p1 r1 r2 hz hq⟩
    · exact p1.elim
/-! subscripts -/
theorem de_idx (hK : W.K = X.K) (hu : X.A.units + 1 < cLine) (hs : PlainIx b) (ha : PE X a (tE W wx f)) (hb : PE X b (tE W wx g)) : PE X (.Subscript a b pos) (tE W wx fun σ S => (f σ S).bind fun x S => (g σ S).bind fun y S => idxD x y S) :=
  PE.mono (pe_ix (ix_D (WE := W0) hK hu) ha hb hs) fun σ H Q q => by
    obtain ⟨M, sg, S, rh, sl, p⟩ := two (k := fun _ x y S => idxD x y S) q
    exact ⟨M, sg, S, rh, sl, p.imp fun v H1 ⟨M1, sg1, S1, r1, s1, p1⟩ => ⟨M1, sg1, S1, r1, s1, p1.imp fun u H2 ⟨M2, sg2, S2, d, e, r3, s2, r2, r4, p2⟩ => ⟨M2, S2, d, e, r3, r2, r4, p2.noexc idx_ne⟩⟩⟩
theorem do_none : PO X none (tOs W wx fun _ S => .ok none S) := PO.mono po_none fun σ H Q ⟨M, sg, S, rh, sl, p⟩ => p _ _ _ (.refl M) rh rfl
theorem do_some (ha : PE X a (tE W wx f)) : PO X (some a) (tOs W wx fun σ S => (f σ S).bind fun x S => match x with | .int i => .ok (some i) S | _ => .no) :=
  PO.mono (po_some ha) fun σ H Q q => by
    refine tE_imp (one (k := fun sg x S => match x with | .int i => R.ok (some i) S | _ => .no) q) fun v H1 ⟨M, sg, S, d, r1, sl, r2, p⟩ => ?_
    split at p
    · rename_i i
      exact ⟨i, int_view r2, p _ _ _ (.refl M) r1 rfl⟩
    · exact p.elim
theorem de_cut {lo hi : Option Expr} {p2 : Pos} {cc : Bool} {fl fh : Sg → Sto → R (Option Int)} (hK : W.K = X.K) (ha : PE X a (tE W wx f)) (hl : PO X lo (tOs W wx fl)) (hh : PO X hi (tOs W wx fh)) :
    PE X (.Subscript a (.Slice lo hi none p2) pos) (tE W wx fun σ S => (f σ S).bind fun x S => (fl σ S).bind fun l S => (fh σ S).bind fun h S => cutD cc x l h S) :=
  PE.mono (pe_slice (sl_D (WE := W0) hK cc) ha hl hh) fun σ H Q q => by
    refine tE_imp (one (k := fun sg x S => (fl sg S).bind fun l S => (fh sg S).bind fun h S => cutD cc x l h S) q) fun v H1 ⟨M, sg, S, d, r1, sl, r2, p⟩ => ?_
    refine ⟨M, sg, S, r1, sl, (p.bind (rel := fun _ (b b' : Option Int) => b = b')).imp fun l H2 ⟨M2, l', S2, l2, r3, r4, p2⟩ => ?_⟩
    subst r4
    refine ⟨M2, sg, S2, r3, sl.mono l2, (p2.bind (rel := fun _ (b b' : Option Int) => b = b')).imp fun h H3 ⟨M3, h', S3, l3, r5, r6, p3⟩ => ?_⟩
    subst r6
    exact ⟨M3, S3, d, r5, (r2.mono l2).mono l3, p3.noexc cut_ne⟩
/-! built-ins -/
theorem de_bi {bb : Bi} {cc : Bool} {p : Pos} (hK : W.K = X.K) (hc : X.calm = true) (hu : X.A.units + 200 < cLine) (hg : X.A.guards = some []) (gl : Gl X (biName bb)) (hm : X.mg (biName bb) = none) (ha : PA X (e :: es) (tAs W wx fs)) (hs : noStar (e :: es) = true) :
    PE X (.Call (.Name (biName bb) p) (e :: es) [] pos) (tE W wx fun σ S => (fs σ S).bind fun xs S => biD bb cc xs S) := by
  have key : PE X (.Call (.Name (biName bb) p) (e :: es) [] pos) (tCB (rBi W W0 bb cc) (tAs W wx fs)) := by
    obtain ⟨h1, h2⟩ := star_cons (env := X.env) hs
    have hr := call_bi (W := W) (WE := W0) hK hc hu hg bb cc
    cases bb
    case int1 => exact pe_callTy hr gl hm (by decide +kernel) ha (by decide) (by decide) h1 (star_all h2)
    case list1 => exact pe_callTy hr gl hm (by decide +kernel) ha (by decide) (by decide) h1 (star_all h2)
    case tup1 => exact pe_callTy hr gl hm (by decide +kernel) ha (by decide) (by decide) h1 (star_all h2)
    all_goals exact pe_callB hr gl hm (by decide +kernel) ha (by decide) (by decide) h1 (star_all h2)
  refine PE.mono key fun σ H Q q => ?_
  obtain ⟨M, sg, S, rh, sl, p⟩ := oneA (k := fun _ xs S => biD bb cc xs S) q
  exact ⟨M, sg, S, rh, sl, p.imp fun vs H1 ⟨M1, sg1, S1, ds, r1, s1, r2, p1⟩ => ⟨M1, S1, ds, r1, r2, p1.noexc bi_ne⟩⟩
end
end Mq
end

section
set_option maxHeartbeats 8000000
/-! Fw5b: fields, defs, classes, methods, freezing. -/
namespace Mq
open PySem L2 PySem.Spec PyProof.Rows
def spD (W : Wd) (g : List D → Sto → R D) : Sp := fun vs H Q E => ∃ M S ds, RelH W M H S ∧ Reps W M vs ds ∧ Post W (RepV W) E M (g ds S) Q
section
variable {W : Wd} {M : Mp} {H : Hp} {S : Sto} {v : V} {d : D}
theorem zip_look {f : Str} : ∀ {ns : List Str} {vs : List V} {k : Nat} {v : V}, ns.Nodup → ns[k]? = some f → vs[k]? = some v → (ns.zip vs).lookup f = some v
  | [], _, _, _, _, h, _ => by simp at h
  | _ :: _, [], _, _, _, _, h => by simp at h
  | n :: ns, w :: vs, 0, v, nd, h1, h2 => by
    simp at h1 h2
    subst h1; subst h2
    simp [List.lookup]
  | n :: ns, w :: vs, k + 1, v, nd, h1, h2 => by
    have hn : f ≠ n := fun e => (List.nodup_cons.mp nd).1 (by rw [← e]; exact List.mem_of_getElem? (by simpa using h1))
    have hb : (f == n) = false := by simpa using hn
    simp only [List.zip_cons_cons, List.lookup, hb]
    exact zip_look (List.nodup_cons.mp nd).2 (by simpa using h1) (by simpa using h2)
theorem zip_none {f : Str} : ∀ {ns : List Str} {vs : List V}, f ∉ ns → (ns.zip vs).lookup f = none
  | [], _, _ => by simp
  | _ :: _, [], _ => by simp
  | n :: ns, w :: vs, h => by
    have hb : (f == n) = false := by simpa using fun e => h (by rw [e]; exact List.mem_cons_self)
    simp only [List.zip_cons_cons, List.lookup, hb]
    exact zip_none fun e => h (List.mem_cons_of_mem _ e)
theorem zip_put {f : Str} {y : V} : ∀ {ns : List Str} {vs : List V} {k : Nat}, ns.Nodup → ns[k]? = some f → k < vs.length → putF f y (ns.zip vs) = ns.zip (vs.set k y)
  | [], _, _, _, h, _ => by simp at h
  | _ :: _, [], _, _, _, h => by simp at h
  | n :: ns, w :: vs, 0, nd, h1, h2 => by
    simp at h1
    subst h1
    simp [putF]
  | n :: ns, w :: vs, k + 1, nd, h1, h2 => by
    have hn : ¬ n = f := fun e => (List.nodup_cons.mp nd).1 (by rw [e]; exact List.mem_of_getElem? (by simpa using h1))
    simp only [List.zip_cons_cons, putF, hn, if_false, List.set_cons_succ]
    rw [zip_put (List.nodup_cons.mp nd).2 (by simpa using h1) (by simpa using h2)]
theorem zip_app {f : Str} {y : V} : ∀ {ns : List Str} {vs : List V}, ns.Nodup → ns[vs.length]? = some f → putF f y (ns.zip vs) = ns.zip (vs ++ [y])
  | [], _, _, h => by simp at h
  | n :: ns, [], nd, h1 => by
    simp at h1
    subst h1
    simp [putF]
  | n :: ns, w :: vs, nd, h1 => by
    have hn : ¬ n = f := fun e => (List.nodup_cons.mp nd).1 (by rw [e]; exact List.mem_of_getElem? (by simpa using h1))
    simp only [List.zip_cons_cons, putF, hn, if_false, List.cons_append]
    rw [zip_app (List.nodup_cons.mp nd).2 (by simpa using h1)]
theorem ins_view {c : Nat} {fs : List D} (rh : RelH W M H S) (r : RepV W M v d) (h : insOf d S = some (c, fs)) :
    ∃ p dx vs, v = .ref p ∧ H p = some (.ins (W.ca c) dx ((W.cf c).zip vs)) ∧ vs.length ≤ (W.cf c).length ∧ Reps W M vs fs := by
  cases r with
  | ins h1 hz hl hr => cases h; exact ⟨_, _, _, rfl, rh.fro _ _ h1, hz, ⟨hl, hr⟩⟩
  | @cell n a h1 =>
    unfold insOf at h
    dsimp only at h
    split at h
    · rename_i c' fs' hn
      cases h
      obtain ⟨_, dx, vs, h2, h3, h4⟩ := rh.cel n _ a hn h1
      exact ⟨a, dx, vs, rfl, h2, h3, h4⟩
    · cases h
  | _ => cases h
/-! freezing -/
theorem frz_ok : ∀ (k : Nat) {d d' : D} {S S' : Sto} {M : Mp} {v : V}, RelH W M H S → RepV W M v d → frz k d S = some (d', S') → ∃ M', M.le M' ∧ RelH W M' H S' ∧ RepV W M' v d'
  | 0, d, d', S, S', M, v, rh, r, h => by cases h; exact ⟨M, .refl M, rh, r⟩
  | k + 1, d, d', S, S', M, v, rh, r, h => by
    have all : ∀ {xs ys : List D} {S S' : Sto} {M : Mp} {vs : List V}, RelH W M H S → Reps W M vs xs → frzL (frz k) xs S = some (ys, S') → ∃ M', M.le M' ∧ RelH W M' H S' ∧ Reps W M' vs ys ∧ ys.length = xs.length := by
      intro xs
      induction xs with
      | nil => intro ys S S' M vs rh r h; cases h; exact ⟨M, .refl M, rh, r, rfl⟩
      | cons x xs ih =>
        intro ys S S' M vs rh r h
        obtain ⟨v, ws, rfl, r1, r2⟩ := r.cons_inv
        unfold frzL at h
        split at h
        · rename_i y S1 h1
          split at h
          · rename_i zs S2 h2
            cases h
            obtain ⟨M1, l1, rh1, s1⟩ := frz_ok k rh r1 h1
            obtain ⟨M2, l2, rh2, s2, e⟩ := ih rh1 (r2.mono l1) h2
            exact ⟨M2, l1.trans l2, rh2, .cons (s1.mono l2) s2, by simp [e]⟩
          · cases h
        · cases h
    unfold frz at h
    cases r with
    | non => cases h; exact ⟨M, .refl M, rh, .non⟩
    | bl b => cases h; exact ⟨M, .refl M, rh, .bl b⟩
    | int i => cases h; exact ⟨M, .refl M, rh, .int i⟩
    | str x => cases h; exact ⟨M, .refl M, rh, .str x⟩
    | fl h1 hz hl hr => cases h; exact ⟨M, .refl M, rh, .fl h1 hz hl hr⟩
    | ft h1 hz hl hr => cases h; exact ⟨M, .refl M, rh, .ft h1 hz hl hr⟩
    | ins h1 hz hl hr => cases h; exact ⟨M, .refl M, rh, .ins h1 hz hl hr⟩
    | lst h1 hz hl hr =>
      dsimp only at h
      split at h
      · rename_i ys S1 h2
        cases h
        obtain ⟨M1, l1, rh1, s1, e⟩ := all rh ⟨hl, hr⟩ h2
        exact ⟨M1, l1, rh1, .lst (l1.1.1 _ _ h1) (by rw [e]; exact hz) s1.1 s1.2⟩
      · cases h
    | tup h1 hz hl hr =>
      dsimp only at h
      split at h
      · rename_i ys S1 h2
        cases h
        obtain ⟨M1, l1, rh1, s1, e⟩ := all rh ⟨hl, hr⟩ h2
        exact ⟨M1, l1, rh1, .tup (l1.1.1 _ _ h1) (by rw [e]; exact hz) s1.1 s1.2⟩
      · cases h
    | @cell n a h1 =>
      have killed : ∀ {o : HO}, H a = some o → M.Hs a = none → ∀ {S' : Sto} {M1 : Mp}, M.le M1 → RelH W M1 H S' → (∀ c, S'[n]? = some c → c = Cell.dead) → M1.Hs a = none → ∃ M2, M1.le M2 ∧ RelH W M2 H S' ∧ M2.Hs a = some o := by
        intro o ho hf S' M1 l1 rh1 hd hf1
        have ha : M1.io[n]? = some a := l1.io h1
        have hk : M1.kp a = none := by
          cases e : M1.kp a with
          | none => rfl
          | some u => exact absurd (List.mem_of_getElem? ha) (rh1.kpf a u e).2.2
        have l2 : M1.le ⟨upd M1.Hs a o, M1.io, M1.kp⟩ := ⟨⟨fun b u q => by
          show upd M1.Hs a o b = some u
          rw [upd_ne (ne_of_none q hf1)]
          exact q, [], by simp⟩, rfl⟩
        refine ⟨⟨upd M1.Hs a o, M1.io, M1.kp⟩, l2, ⟨fun b u q => ?_, rh1.len, rh1.nd, rh1.liv, fun b u q => ?_, fun m c b g1 g2 => ?_⟩, upd_same⟩
        · have q : upd M1.Hs a o b = some u := q
          by_cases e : b = a
          · subst e; rw [upd_same] at q; cases q; exact ho
          · rw [upd_ne e] at q; exact rh1.fro b u q
        · obtain ⟨g1, g2, g3⟩ := rh1.kpf b u q
          refine ⟨g1, ?_, g3⟩
          show upd M1.Hs a o b = none
          rw [upd_ne fun e => by rw [e] at q; have : M1.kp a = some u := q; rw [hk] at this; cases this]
          exact g2
        · by_cases e : m = n
          · subst e
            cases hd c g1
            trivial
          · refine (rh1.cel m c b g1 g2).le l2.1 ?_ rfl
            show upd M1.Hs a o b = M1.Hs b
            rw [upd_ne fun q => e (nodup_at rh1.nd g2 (by rw [q]; exact ha))]
      -- what the freezing of the items leaves at n
      have stays : ∀ (k : Nat) {d d' : D} {S S' : Sto}, frz k d S = some (d', S') → ∀ (n : Nat), (∀ c, S[n]? = some c → c = Cell.dead) → ∀ c, S'[n]? = some c → c = Cell.dead := by
        intro k
        induction k with
        | zero => intro d d' S S' h n hd; cases h; exact hd
        | succ k ih =>
          have alls : ∀ {xs ys : List D} {S S' : Sto}, frzL (frz k) xs S = some (ys, S') → ∀ (n : Nat), (∀ c, S[n]? = some c → c = Cell.dead) → ∀ c, S'[n]? = some c → c = Cell.dead := by
            intro xs
            induction xs with
            | nil => intro ys S S' h n hd; cases h; exact hd
            | cons x xs ihx =>
              intro ys S S' h n hd
              unfold frzL at h
              split at h
              · rename_i y S1 h1
                split at h
                · rename_i zs S2 h2
                  cases h
                  exact ihx h2 n (ih h1 n hd)
                · cases h
              · cases h
          intro d d' S S' h n hd
          have dies : ∀ m, ∀ c, (S.set m Cell.dead)[n]? = some c → c = Cell.dead := by
            intro m c hc
            rw [List.getElem?_set] at hc
            split at hc
            · split at hc
              · cases hc; rfl
              · cases hc
            · exact hd c hc
          unfold frz at h
          split at h
          · split at h
            · split at h
              · rename_i h2; cases h; exact alls h2 n (dies _)
              · cases h
            · split at h
              · rename_i h2; cases h; exact alls h2 n (dies _)
              · cases h
            · cases h
          · split at h
            · rename_i h2; cases h; exact alls h2 n hd
            · cases h
          · split at h
            · rename_i h2; cases h; exact alls h2 n hd
            · cases h
          · cases h; exact hd
      have staysL : ∀ {xs ys : List D} {S S' : Sto}, frzL (frz k) xs S = some (ys, S') → ∀ (n : Nat), (∀ c, S[n]? = some c → c = Cell.dead) → ∀ c, S'[n]? = some c → c = Cell.dead := by
        intro xs
        induction xs with
        | nil => intro ys S S' h n hd; cases h; exact hd
        | cons x xs ihx =>
          intro ys S S' h n hd
          unfold frzL at h
          split at h
          · rename_i y S1 h1
            split at h
            · rename_i zs S2 h2
              cases h
              exact ihx h2 n (stays k h1 n hd)
            · cases h
          · cases h
      have setd : ∀ c, (S.set n Cell.dead)[n]? = some c → c = Cell.dead := by
        intro c hc
        rw [List.getElem?_set] at hc
        rw [if_pos rfl] at hc
        split at hc
        · cases hc; rfl
        · cases hc
      -- the frozen part does not come to hold a cell's place
      have nofro : ∀ {M1 : Mp} {S1 : Sto}, M.le M1 → RelH W M1 H S1 → M.Hs a = none → M1.Hs a = none ∨ ∃ u, M1.Hs a = some u ∧ H a = some u := by
        intro M1 S1 l1 rh1 hf
        cases e : M1.Hs a with
        | none => exact .inl rfl
        | some u => exact .inr ⟨u, rfl, rh1.fro a u e⟩
      dsimp only at h
      split at h
      · rename_i xs hn
        obtain ⟨hf, vs, h2, h3, h4⟩ := rh.cel n _ a hn h1
        split at h
        · rename_i ys S1 h5
          cases h
          obtain ⟨M1, l1, rh1, s1, e⟩ := all (rh.kill (n := n)) h3 h5
          rcases nofro l1 rh1 hf with hf1 | ⟨u, hu1, hu2⟩
          · obtain ⟨M2, l2, rh2, g⟩ := killed h2 hf l1 rh1 (staysL h5 n setd) hf1
            exact ⟨M2, l1.trans l2, rh2, .lst g (by rw [e]; exact h4) s1.1 fun i v d a b => (s1.2 i v d a b).mono l2⟩
          · rw [h2] at hu2; cases hu2
            exact ⟨M1, l1, rh1, .lst hu1 (by rw [e]; exact h4) s1.1 s1.2⟩
        · cases h
      · rename_i c xs hn
        obtain ⟨hf, dx, vs, h2, h3, h4⟩ := rh.cel n _ a hn h1
        split at h
        · rename_i ys S1 h5
          cases h
          obtain ⟨M1, l1, rh1, s1, e⟩ := all (rh.kill (n := n)) h4 h5
          rcases nofro l1 rh1 hf with hf1 | ⟨u, hu1, hu2⟩
          · obtain ⟨M2, l2, rh2, g⟩ := killed h2 hf l1 rh1 (staysL h5 n setd) hf1
            exact ⟨M2, l1.trans l2, rh2, .ins g h3 s1.1 fun i v d a b => (s1.2 i v d a b).mono l2⟩
          · rw [h2] at hu2; cases hu2
            exact ⟨M1, l1, rh1, .ins hu1 h3 s1.1 s1.2⟩
        · cases h
      · cases h
end
section
variable {X : Cx} {W : Wd} {wx : WX} {a b c e o : Expr} {es : List Expr} {f g : Sg → Sto → R D} {fs : Sg → Sto → R (List D)} {pos p apos : Pos} {σ : L2.St} {H : Hp} {x m : Str} {lv : Nat} {T : FT}
theorem de_frz {k : Nat} (ha : PE X a (tE W wx f)) : PE X a (tE W wx fun σ S => (f σ S).bind fun x S => match frz k x S with | some (d, S') => .ok d S' | none => .no) :=
  PE.mono ha fun σ H Q q => by
    refine tE_imp (one (k := fun _ x S => match frz k x S with | some (d, S') => R.ok d S' | none => .no) q) fun v H1 ⟨M, sg, S, d, r1, sl, r2, p⟩ => ?_
    split at p
    · rename_i d' S' h
      obtain ⟨M1, l1, rh1, s1⟩ := frz_ok k r1 r2 h
      exact p _ _ _ l1 rh1 s1
    · exact p.elim
theorem de_dict0 {t : Nat} : PE X (.Dict [] [] pos) (tE W wx fun _ S => .ok (.cell S.length) (S ++ [newDict t])) := by
  match t with
  | 0 =>
    refine PE.mono pe_dnewK fun σ H Q ⟨M, sg, S, rh, sl, p⟩ d hd => ?_
    obtain ⟨h1, h2⟩ := rh.newCell (o := .dK []) (c := .dk []) hd ⟨rh.nofro hd, [], upd_same, rfl, .nil⟩
    refine p _ _ _ h2 h1 (.cell ?_)
    show (M.io ++ [d])[S.length]? = some d
    rw [← rh.len, List.getElem?_append_right (Nat.le_refl _), Nat.sub_self]
    rfl
  | 1 =>
    refine PE.mono pe_dnewT fun σ H Q ⟨M, sg, S, rh, sl, p⟩ d hd => ?_
    obtain ⟨h1, h2⟩ := rh.newCell (o := .dT []) (c := .dt []) hd ⟨rh.nofro hd, [], upd_same, rfl, .nil⟩
    refine p _ _ _ h2 h1 (.cell ?_)
    show (M.io ++ [d])[S.length]? = some d
    rw [← rh.len, List.getElem?_append_right (Nat.le_refl _), Nat.sub_self]
    rfl
  | _ + 2 =>
    refine PE.mono pe_dnewB fun σ H Q ⟨M, sg, S, rh, sl, p⟩ d hd => ?_
    obtain ⟨h1, h2⟩ := rh.newCell (o := .ext (dbRaw d [])) (c := .db []) hd ⟨rh.nofro hd, [], upd_same, rfl, .nil, fun _ h => nomatch h⟩
    refine p _ _ _ h2 h1 (.cell ?_)
    show (M.io ++ [d])[S.length]? = some d
    rw [← rh.len, List.getElem?_append_right (Nat.le_refl _), Nat.sub_self]
    rfl
theorem de_fld {cl k : Nat} (hcl : Cls X.K (W.ca cl)) (hn : NoAttr X.K (W.ca cl) x) (nd : (W.cf cl).Nodup) (hk : (W.cf cl)[k]? = some x) (hb : plainBase a = true) (ha : PE X a (tE W wx f)) : PE X (.Attribute a x pos) (tE W wx fun σ S => (f σ S).bind fun y S => fldD cl y k S) :=
  PE.mono (pe_fld ha (base_ok hb)) fun σ H Q q => by
    refine tE_imp (one (k := fun _ y S => fldD cl y k S) q) fun v H1 ⟨M, sg, S, d, r1, sl, r2, p⟩ => ?_
    unfold fldD at p
    split at p
    · rename_i c fs hi
      split at p
      · rename_i hc
        subst hc
        obtain ⟨e, he, p⟩ := opt_ok p
        obtain ⟨q, dx, vs, rfl, h2, h3, h4⟩ := ins_view r1 r2 hi
        obtain ⟨w, hw, rw'⟩ := h4.get he
        exact ⟨q, W.ca c, dx, _, w, rfl, h2, hcl, hn, zip_look nd hk hw, p _ _ _ (.refl M) r1 rw'⟩
      · exact p.elim
    · exact p.elim
/-- a def of the table -/
structure FnHs (P : Program) (w : World) (K : PySem.W.Frag) (mg : Str → Option Value) (base : Heap) (W : Wd) (lv : Nat) (g : List D → Sto → R D) (dd : List D) (f : Addr) : Prop where
  ex : ∃ fd ps dus dvs, FnG P w K mg base lv f fd ps (spD W g) ∧ Binds K fd ps dus ∧ Vals dvs dus ∧ ∀ M, Reps W M dvs dd
abbrev FnHas (X : Cx) := FnHs X.prog X.w X.K X.mg X.base
theorem de_call {i : Nat} {dd : List D} {fa : Addr} (F : FnHas X W lv (T i) dd fa) (hr : Room lv X.A) (hg : X.A.guards = some []) (gl : Gl X x) (hm : X.mg x = some (.ref fa)) (hk : PySem.W.keepIn X.K (.ref fa) = true) (tk : Takes X wx)
    (ha : PA X es (tAs W wx fs)) (hst : noStar es = true) (hdb : (x == ("__debug__" : Str)) = false) (h0 : es = [] → fs = fun _ S => .ok [] S) : PE X (.Call (.Name x p) es [] pos) (tE W wx fun σ S => (fs σ S).bind fun xs S => T i (xs ++ dd) S) := by
  obtain ⟨fd, ps, dus, dvs, F, hb, hd, hrep⟩ := F.ex
  cases es with
  | nil =>
    rw [h0 rfl]
    refine PE.mono (pe_callG0 F hr hg gl hm hk hb hd tk hdb) fun σ H Q ⟨M, sg, S, rh, sl, p⟩ => ?_
    exact ⟨M, S, dd, rh, hrep M, p⟩
  | cons e es =>
    refine PE.mono (pe_callG F hr hg gl hm hk hb hd tk ha hst hdb) fun σ H Q q => ?_
    obtain ⟨M, sg, S, rh, sl, p⟩ := oneA (k := fun _ xs S => T i (xs ++ dd) S) q
    exact ⟨M, sg, S, rh, sl, p.imp fun vs H1 ⟨M1, sg1, S1, ds, r1, s1, r2, p1⟩ => ⟨M1, S1, ds ++ dd, r1, r2.app (hrep M1), p1⟩⟩
theorem mk_read {i cl : Nat} {dd : List D} {M : Mp} {S : Sto} {vs dvs : List V} {ds : List D} {Q : VK} {WE : XK} (rh : RelH W M H S) (r : Reps W M vs ds) (hrep : ∀ M, Reps W M dvs dd)
    (p : Post W (RepV W) WE M ((T i (.cell S.length :: (ds ++ dd)) (S ++ [.ins cl []])).bind fun r S' => match r with | .non => .ok (.cell S.length) S' | _ => .no) Q) :
    ∀ x dx, H x = none → H dx = none → dx ≠ x → spD W (T i) (.ref x :: (vs ++ dvs)) (upd (upd H dx (.own x)) x (.ins (W.ca cl) dx [])) (fun v H2 => v = .non ∧ Q (.ref x) H2) WE := by
  intro x dx hx hdx ne
  have g := rh.grow (o := .own x) hdx
  have hx' : upd H dx (.own x) x = none := by rw [upd_ne (Ne.symm ne)]; exact hx
  obtain ⟨h1, h2⟩ := g.newCell (o := .ins (W.ca cl) dx []) (c := .ins cl []) hx' ⟨rh.nofro hx, dx, [], by rw [upd_same]; simp, Nat.zero_le _, .nil⟩
  have hc : (M.io ++ [x])[S.length]? = some x := by
    rw [← rh.len, List.getElem?_append_right (Nat.le_refl _), Nat.sub_self]
    rfl
  refine ⟨_, _, _, h1, .cons (.cell hc) ((r.mono h2).app (hrep _)), ((p.le h2).bind (rel := RepV W)).imp fun v H2 ⟨M2, d, S2, l2, r2, r3, p2⟩ => ?_⟩
  split at p2
  · exact ⟨non_view r3, p2 _ _ _ (.refl _) r2 (.cell (l2.io hc))⟩
  · exact p2.elim
theorem de_mk {i cl j : Nat} {dd : List D} {fa : Addr} (F : FnHas X W j (T i) dd fa) (hj : j + 1 ≤ lv) (hM : Mk X.K (W.ca cl) fa) (hr : Room lv X.A) (hg : X.A.guards = some []) (gl : Gl X x) (hm : X.mg x = some (.ref (W.ca cl))) (tk : Takes X wx)
    (ha : PA X es (tAs W wx fs)) (hst : noStar es = true) (hdb : (x == ("__debug__" : Str)) = false) (h0 : es = [] → fs = fun _ S => .ok [] S) : PE X (.Call (.Name x p) es [] pos) (tE W wx fun σ S => (fs σ S).bind fun xs S => (T i (.cell S.length :: (xs ++ dd)) (S ++ [.ins cl []])).bind fun r S' => match r with
      | .non => .ok (.cell S.length) S'
      | _ => .no) := by
  obtain ⟨fd, ps, dus, dvs, F, hb, hd, hrep⟩ := F.ex
  cases es with
  | nil =>
    rw [h0 rfl]
    refine PE.mono (pe_mkG0 hM F (hr.mono hj) hg gl hm hb hd tk hdb) fun σ H Q ⟨M, sg, S, rh, sl, p⟩ => ?_
    exact mk_read (vs := []) (ds := []) rh .nil hrep p
  | cons e es =>
    refine PE.mono (pe_mkG hM F (hr.mono hj) hg gl hm hb hd tk ha hst hdb) fun σ H Q q => ?_
    obtain ⟨M, sg, S, rh, sl, p⟩ := oneA (k := fun _ xs S => (T i (.cell S.length :: (xs ++ dd)) (S ++ [.ins cl []])).bind fun r S' => match r with | .non => R.ok (D.cell S.length) S' | _ => .no) q
    exact ⟨M, sg, S, rh, sl, p.imp fun vs H1 ⟨M1, sg1, S1, ds, r1, s1, r2, p1⟩ => mk_read r1 r2 hrep p1⟩
theorem de_om {pl : Sem Bool} {i cl : Nat} {dd : List D} {fa : Addr} (F : FnHas X W lv (T i) dd fa) (hcl : Cls X.K (W.ca cl)) (hM : Meth X.K (W.ca cl) m fa) (hnf : m ∉ W.cf cl) (hr : Room lv X.A) (hg : X.A.guards = some []) (tk : Takes X wx)
    (ho : PE X o (tE W wx f)) (ha : PA X es (tAs W wx fs)) (hst : noStar es = true) (h0 : es = [] → fs = fun _ S => .ok [] S)
    (ht : eval (.Call (.Attribute o m apos) es [] pos) X.env = (do
      let ov ← eval o X.env
      standAt apos.atName
      let (f, first) ← holding [ov] (getMethod ov m pl)
      callWith pos f first (backTo pos (starEach es X.env)) (backToKw pos (keywordEach [] X.env)))) :
    PE X (.Call (.Attribute o m apos) es [] pos) (tE W wx fun σ S => (f σ S).bind fun x S => match insOf x S with
      | some (c, _) => if c = cl then (fs σ S).bind fun xs S => T i (x :: (xs ++ dd)) S else .no
      | none => .no) := by
  obtain ⟨fd, ps, dus, dvs, F, hb, hd, hrep⟩ := F.ex
  cases es with
  | nil =>
    have e0 := h0 rfl
    subst e0
    refine PE.mono (pe_methG0 (pl := pl) ho hcl hM F hr hg hb hd tk ht) fun σ H Q q => ?_
    refine tE_imp (one (k := fun _ x S => match insOf x S with | some (c, _) => if c = cl then (R.ok [] S).bind fun xs S => T i (x :: (xs ++ dd)) S else .no | none => .no) q) fun v H1 ⟨M, sg, S, d, r1, sl, r2, p⟩ => ?_
    split at p
    · rename_i c fs' hi
      split at p
      · rename_i hc
        subst hc
        obtain ⟨q, dx, vs, rfl, h2, h3, h4⟩ := ins_view r1 r2 hi
        exact ⟨q, dx, _, rfl, h2, zip_none hnf, M, S, d :: dd, r1, .cons r2 (hrep M), p⟩
      · exact p.elim
    · exact p.elim
  | cons e es =>
    refine PE.mono (pe_methG (pl := pl) ho hcl hM F hr hg hb hd tk ha hst ht) fun σ H Q q => ?_
    refine tE_imp (one (k := fun sg x S => match insOf x S with | some (c, _) => if c = cl then (fs sg S).bind fun xs S => T i (x :: (xs ++ dd)) S else .no | none => .no) q) fun v H1 ⟨M, sg, S, d, r1, sl, r2, p⟩ => ?_
    split at p
    · rename_i c fs' hi
      split at p
      · rename_i hc
        subst hc
        obtain ⟨q, dx, vs, rfl, h2, h3, h4⟩ := ins_view r1 r2 hi
        refine ⟨q, dx, _, rfl, h2, zip_none hnf, M, sg, S, r1, sl, (p.bind (rel := Reps W)).imp fun ws H2 ⟨M2, ds, S2, l2, r3, r4, p2⟩ => ?_⟩
        exact ⟨M2, S2, d :: (ds ++ dd), r3, .cons (r2.mono l2) (r4.app (hrep M2)), p2⟩
      · exact p.elim
    · exact p.elim
end
end Mq
end

section
set_option maxHeartbeats 8000000
/-! Fw5c: properties, methods of built-in types, what is walked, comprehensions. -/
namespace Mq
open PySem L2 PySem.Spec PyProof.Rows
section
variable {α β : Type} {W : Wd} {rel : Mp → β → α → Prop} {WE WE' : XK} {M : Mp} {r : R α} {Q : β → Hp → Prop}
theorem Post.nox (p : Post W rel WE M r.nox Q) : Post W rel WE' M r Q := by
  cases r with
  | ok a S => exact p
  | exc e S => exact p.elim
  | no => exact p.elim
end
section
variable {X : Cx} {W : Wd} {wx : WX} {a b c e o : Expr} {es : List Expr} {f g : Sg → Sto → R D} {fs : Sg → Sto → R (List D)} {pos p apos : Pos} {σ : L2.St} {H : Hp} {x m : Str} {lv : Nat} {T : FT}
theorem de_prop {i cl j : Nat} {pa ga : Addr} (F : FnHas X W j (T i) [] ga) (hj : j + 1 ≤ lv) (hcl : Cls X.K (W.ca cl)) (hp : PropOf X.K (W.ca cl) x pa ga) (hr : Room lv X.A) (hg : X.A.guards = some []) (hb0 : plainBase a = true) (ha : PE X a (tE W wx f)) :
    PE X (.Attribute a x pos) (tE W wx fun σ S => (f σ S).bind fun x S => match insOf x S with | some (c, _) => if c = cl then (T i [x] S).nox else .no | none => .no) := by
  obtain ⟨fd, ps, dus, dvs, F, hb, hd, hrep⟩ := F.ex
  have hd0 : dvs = [] := (hrep ⟨fun _ => none, [], fun _ => none⟩).nil_inv
  subst hd0
  cases hd
  refine ⟨fun pins s σ H Q I h => attr_of (base_ok hb0) (thn (ha.run pins s σ H _ I (one (k := fun _ x S => match insOf x S with | some (c, _) => if c = cl then (T i [x] S).nox else .no | none => .no) h)) fun u s1 ⟨v, H1, I1, rv, M, sg, S, d, r1, sl, r2, p⟩ => ?_)⟩
  split at p
  · rename_i c fs' hi
    split at p
    · rename_i hc
      subst hc
      obtain ⟨q, dx, vs, rfl, h2, h3, h4⟩ := ins_view r1 r2 hi
      obtain rfl : u = Value.ref q := rv
      obtain ⟨mA, O, _, _, _, _⟩ := ins_get I1.hok h2
      obtain ⟨od, J, _⟩ := O.look
      obtain ⟨rest, hrec⟩ := hp.rec_
      have I2 := I1.tok (s1.toks + 1)
      have hs : spD W (T i) [.ref q] H1 Q W0 := ⟨M, S, [d], r1, .one r2, Post.nox p⟩
      have hl : ([Value.ref q] ++ []).length = ps.length := (F.len _ _ _ _ hs)
      have hc : (PySem.W.clsIn X.K (W.ca c)).isSome = true := by
        obtain ⟨cd, hc, _⟩ := PySem.W.any_some hcl.hd
        rw [hc]
        rfl
      refine PySem.W.get_bind I1.kIn J (PySem.W.plainGet_of (hcl.get x)).1 (PySem.W.findObj_data hc hp.at_ hp.get hp.tak) (PySem.W.plainGet_of (hcl.get x)).2 (wpAny_call (PySem.W.prop_get (s := { s1 with toks := s1.toks + 1 }) I1.kIn hrec ?_))
      refine codeAny_mono (F.go X.A.in1 X.stack { s1 with toks := s1.toks + 1 } H1 ⟨[.ref q], []⟩ [.ref q] [.ref q] Q W0 (hr.mono hj).in1 hg I2.env0.in1 (hb _ [.ref q] I2.kIn hl) (.cons rfl .nil) hs) fun r s' hq => ?_
      cases r with
      | error er =>
        obtain ⟨_, _, _, _, _, _, _, _, _, _, _, _, z⟩ := hq
        exact z.elim
      | ok fl =>
        cases fl with
        | ret u =>
          obtain ⟨v, H', I3, rv, q3⟩ := I2.after hq
          show wpAny _ _ (handedOut u) _ _ _
          rw [PySem.W.handedOut_of (handed_of rv)]
          exact wpAny_pure ⟨v, H', I3, rv, q3⟩
        | next => exact False.elim hq
        | brk => exact False.elim hq
        | cont => exact False.elim hq
    · exact p.elim
  · exact p.elim
/-! methods of lists -/
def bmId : Bm → String
  | .append => "list.append" | .popAt => "list.pop" | .pop => "list.pop" | .count => "list.count" | .extend => "list.extend" | .reverse => "list.reverse"
def rBm (W : Wd) (b : Bm) : V → List V → Hp → VK → Prop := fun x vs H Q => ∃ M S a ds, RelH W M H S ∧ RepV W M x a ∧ Reps W M vs ds ∧ Post W (RepV W) W0 M (bmD b a ds S) Q
theorem bm_ne {b : Bm} {x : D} {xs : List D} {S : Sto} : NoExc (bmD b x xs S) := by
  intro e S' h
  unfold bmD at h
  split at h
  · split at h <;> cases h
  · split at h <;> cases h
  · split at h
    · split at h
      · split at h <;> cases h
      · split at h
        · split at h
          · split at h <;> cases h
          · cases h
        · cases h
      · split at h <;> cases h
      · cases h
      · split at h
        · split at h <;> cases h
        · cases h
      · cases h
    · cases h
theorem mt_bm (hK : W.K = X.K) (hu : X.A.units + 200 < cLine) (b : Bm) : MtR X (bmId b) (rBm W b) := by
  intro pins s σ H x vs v us Q I rx rv ⟨M, S, a, ds, rh, ra, rd, p⟩
  unfold bmD at p
  split at p
  · obtain ⟨w, ws, rfl, r1, r2⟩ := rd.cons_inv
    cases r2.nil_inv
    cases int_view r1
    split at p
    · rename_i ns hx
      obtain ⟨xs, h1, h2⟩ := Option.bind_eq_some_iff.mp hx
      obtain ⟨q, ws, rfl, h3, h4, _⟩ := lst_view rh ra h1
      exact mt_lcount pins s σ H _ _ v us Q I rx rv ⟨q, ns, _, rfl, rfl, by rw [← intsD_view h4 h2]; exact SqL.of h3, p _ _ _ (.refl M) rh (.int _)⟩
    · exact p.elim
  · obtain ⟨w, ws, rfl, r1, r2⟩ := rd.cons_inv
    cases r2.nil_inv
    cases bl_view r1
    split at p
    · rename_i ns hx
      obtain ⟨xs, h1, h2⟩ := Option.bind_eq_some_iff.mp hx
      obtain ⟨q, ws, rfl, h3, h4, _⟩ := lst_view rh ra h1
      exact mt_cntB hu pins s σ H _ _ v us Q I rx rv ⟨q, ns, _, rfl, rfl, by rw [← blsD_view h4 h2]; exact SqL.of h3, p _ _ _ (.refl M) rh (.int _)⟩
    · exact p.elim
  · split at p
    · rename_i n
      obtain ⟨q, rfl, hq⟩ := dict_at rh ra
      split at p
      · rename_i xs y hn _ _
        obtain ⟨hf, ws, h2, h3, h4⟩ := rh.cel n _ q hn hq
        obtain ⟨w, us', rfl, r1, r2⟩ := rd.cons_inv
        cases r2.nil_inv
        split at p
        · rename_i hz
          rw [sLine_eq] at hz
          refine mt_append pins s σ H _ _ v us Q I rx rv ⟨q, ws, w, rfl, rfl, h2, by rw [h3.1]; exact hz, p M _ _ (.refl M) (rh.set hq hf ⟨hf, _, upd_same, h3.concat r1, ?_⟩) .non⟩
          rw [List.length_append]
          exact hz
        · exact p.elim
      · rename_i xs i hn _ _
        obtain ⟨hf, ws, h2, h3, h4⟩ := rh.cel n _ q hn hq
        obtain ⟨w, us', rfl, r1, r2⟩ := rd.cons_inv
        cases r2.nil_inv
        cases int_view r1
        split at p
        · rename_i hb
          split at p
          · rename_i k hk
            split at p
            · rename_i y hy
              obtain ⟨z, hz, rz⟩ := h3.get hy
              exact mt_popAt pins s σ H _ _ v us Q I rx rv ⟨q, ws, i, k, z, rfl, rfl, h2, hb.1, hb.2, by rw [h3.1]; exact hk, hz, p M _ _ (.refl M) (rh.set hq hf ⟨hf, _, upd_same, h3.erase k, Nat.le_trans (len_erase _ _) h4⟩) rz⟩
            · exact p.elim
          · exact p.elim
        · exact p.elim
      · rename_i xs hn _ _
        obtain ⟨hf, ws, h2, h3, h4⟩ := rh.cel n _ q hn hq
        cases rd.nil_inv
        split at p
        · rename_i y hy
          obtain ⟨z, hz, rz⟩ := h3.get hy
          refine mt_pop pins s σ H _ _ v us Q I rx rv ⟨q, ws, z, rfl, rfl, h2, by rw [h3.1]; exact hz, p M _ _ (.refl M) (rh.set hq hf ⟨hf, _, upd_same, h3.dropLast, ?_⟩) rz⟩
          rw [List.length_dropLast]
          omega
        · exact p.elim
      · rename_i xs hn _ _
        obtain ⟨hf, ws, h2, h3, h4⟩ := rh.cel n _ q hn hq
        cases rd.nil_inv
        exact mt_reverse pins s σ H _ _ v us Q I rx rv ⟨q, ws, rfl, rfl, h2, p M _ _ (.refl M) (rh.set hq hf ⟨hf, _, upd_same, h3.reverse, by rw [List.length_reverse]; exact h4⟩) .non⟩
      · rename_i xs y hn _ _
        obtain ⟨hf, ws, h2, h3, h4⟩ := rh.cel n _ q hn hq
        obtain ⟨w, us', rfl, r1, r2⟩ := rd.cons_inv
        cases r2.nil_inv
        split at p
        · rename_i ys hy
          obtain ⟨q2, ws2, rfl, k2, k3, k4⟩ := lst_view rh r1 hy
          split at p
          · rename_i hz
            rw [sLine_eq] at hz
            refine mt_extend pins s σ H _ _ v us Q I rx rv ⟨q, q2, ws, ws2, rfl, rfl, h2, k2, by rw [h3.1, k3.1]; exact hz, p M _ _ (.refl M) (rh.set hq hf ⟨hf, _, upd_same, h3.app k3, ?_⟩) .non⟩
            rw [List.length_append]
            exact hz
          · exact p.elim
        · exact p.elim
      · exact p.elim
    · exact p.elim
theorem bm_read {bb : Bm} (hK : W.K = X.K) {t : TA} (h : ∀ σ H Q, (∃ M sg S, RelH W M H S ∧ RelSl W M σ sg ∧ Post W (RepV W) (fun c d H => wx c d σ H) M ((f sg S).bind fun x S => match lstOf x S with | some _ => (fs sg S).bind fun xs S => bmD bb x xs S | none => .no) Q) →
      tBM X.K "list" (rBm W bb) (tE W wx f) t σ H Q) : ∀ σ H Q, tE W wx (fun σ S => (f σ S).bind fun x S => match lstOf x S with | some _ => (fs σ S).bind fun xs S => bmD bb x xs S | none => .no) σ H Q → tBM X.K "list" (rBm W bb) (tE W wx f) t σ H Q := fun σ H Q q => h σ H Q q
theorem bm_slot (bb : Bm) : Slot "list" (bmName bb) (bmId bb) := by
  cases bb
  · exact PySem.F.slot_list_append
  · exact PySem.F.slot_list_pop
  · exact PySem.F.slot_list_pop
  · exact PySem.F.slot_list_count
  · exact PySem.F.slot_list_extend
  · exact PySem.F.slot_list_reverse
theorem bm_type (bb : Bm) : typeOf (.builtin (bmId bb)) = pure (.type "method_descriptor") := by
  cases bb
  · exact PySem.F.type_list_append
  · exact PySem.F.type_list_pop
  · exact PySem.F.type_list_pop
  · exact PySem.F.type_list_count
  · exact PySem.F.type_list_extend
  · exact PySem.F.type_list_reverse
theorem noStar_all {cpos : Pos} {env : Env} : ∀ {es : List Expr}, noStar es = true → (backTo cpos (starEach es env)).all (fun x => !x.1) = true
  | [], _ => rfl
  | e :: es, h => by
    obtain ⟨h1, h2⟩ := star_cons (env := env) h
    rw [h1]
    show (true && (backTo cpos (starEach es env)).all (fun x => !x.1)) = true
    rw [noStar_all h2]
    rfl
theorem lst_tyV {M : Mp} {S : Sto} {v : V} {d : D} {xs : List D} (rh : RelH W M H S) (r : RepV W M v d) (h : lstOf d S = some xs) : tyV X.K "list" v H := by
  obtain ⟨q, ws, rfl, h2, _⟩ := lst_view rh r h
  exact .inl ⟨rfl, ws, SqL.of h2⟩
theorem de_bm {bb : Bm} (hK : W.K = X.K) (hu : X.A.units + 200 < cLine) (ho : PE X o (tE W wx f)) (ha : PA X es (tAs W wx fs)) (hst : noStar es = true) (hb : plainBase o = true) (hl : (apos.endLine == pos.line) = true) (hfew : es.length < 20) (h0 : es = [] → fs = fun _ S => .ok [] S) :
    PE X (.Call (.Attribute o (bmName bb) apos) es [] pos) (tE W wx fun σ S => (f σ S).bind fun x S => match lstOf x S with | some _ => (fs σ S).bind fun xs S => bmD bb x xs S | none => .no) := by
  have attrs : PlainAttrs "list" := PySem.F.plainAttrs_list
  cases es with
  | nil =>
    have e0 := h0 rfl
    subst e0
    refine PE.mono (pe_bm0 attrs (bm_slot bb) (bm_type bb) (mt_bm hK hu bb) ho (base_ok hb) hl) fun σ H Q q => ?_
    refine tE_imp (one (k := fun _ x S => match lstOf x S with | some _ => (R.ok [] S).bind fun xs S => bmD bb x xs S | none => .no) q) fun v H1 ⟨M, sg, S, d, r1, sl, r2, p⟩ => ?_
    split at p
    · rename_i xs hx
      exact ⟨lst_tyV r1 r2 hx, M, S, d, [], r1, r2, .nil, Post.noexc bm_ne p⟩
    · exact p.elim
  | cons e es =>
    refine PE.mono (pe_bm attrs (bm_slot bb) (bm_type bb) (mt_bm hK hu bb) ho ha (base_ok hb) ?_ hl (star_cons hst).1 (star_all (star_cons (env := X.env) hst).2)) fun σ H Q q => ?_
    · rw [noStar_all hst]
      simp only [List.length_cons] at hfew
      simp [backToKw, keywordEach]
      omega
    · refine tE_imp (one (k := fun sg x S => match lstOf x S with | some _ => (fs sg S).bind fun xs S => bmD bb x xs S | none => .no) q) fun v H1 ⟨M, sg, S, d, r1, sl, r2, p⟩ => ?_
      split at p
      · rename_i xs hx
        refine ⟨lst_tyV r1 r2 hx, M, sg, S, r1, sl, (p.bind (rel := Reps W)).imp fun ws H2 ⟨M2, ds, S2, l2, r3, r4, p2⟩ => ?_⟩
        exact ⟨M2, S2, d, ds, r3, r2.mono l2, r4, p2.noexc bm_ne⟩
      · exact p.elim
end
end Mq
end

section
set_option maxHeartbeats 8000000
/-! Fw5d: targets, what is walked, comprehensions. -/
namespace Mq
open PySem L2 PySem.Spec PyProof.Rows
/-! ### targets -/
def tgOf (K : PySem.W.Frag) : G → TG
  | .name i => gName i
  | .tup2 a b => gTup K 2 (gCons (tgOf K a) (gCons (tgOf K b) gNil))
  | .tup3 a b c => gTup K 3 (gCons (tgOf K a) (gCons (tgOf K b) (gCons (tgOf K c) gNil)))
def G.slots : G → List Nat
  | .name i => [i]
  | .tup2 a b => a.slots ++ b.slots
  | .tup3 a b c => a.slots ++ b.slots ++ c.slots
theorem wipe_set {σ : L2.St} {i : Nat} {o : Option V} : ∀ {vs : List Nat}, i ∈ vs → wipe (σ.set i o) vs = wipe σ vs
  | [], h => by cases h
  | v :: vs, h => by
    unfold wipe
    by_cases e : i ∈ vs
    · rw [wipe_set e]
    · have hv : i = v := by
        rcases List.mem_cons.mp h with h | h
        · exact h
        · exact absurd h e
      subst hv
      have : ∀ {vs : List Nat}, i ∉ vs → wipe (σ.set i o) vs = (wipe σ vs).set i o := by
        intro vs
        induction vs with
        | nil => intro _; rfl
        | cons w vs ih =>
          intro h
          have h1 : i ≠ w := fun e => h (by rw [e]; exact List.mem_cons_self)
          unfold wipe
          rw [ih fun e => h (List.mem_cons_of_mem _ e), List.set_comm _ _ h1]
      rw [this e, List.set_set]
theorem asg_tup2 {a b : G} {d : D} {sg sg' : Sg} (h : asg (.tup2 a b) d sg = some sg') : ∃ x y sg1, d = .tup [x, y] ∧ asg a x sg = some sg1 ∧ asg b y sg1 = some sg' := by
  cases d with
  | tup xs =>
    cases xs with
    | nil => cases h
    | cons x xs =>
      cases xs with
      | nil => cases h
      | cons y xs =>
        cases xs with
        | nil =>
          obtain ⟨sg1, g1, g2⟩ := Option.bind_eq_some_iff.mp (show (asg a x sg).bind (fun σ => asg b y σ) = some sg' from h)
          exact ⟨x, y, sg1, rfl, g1, g2⟩
        | cons z xs => cases h
  | _ => cases h
theorem asg_tup3 {a b c : G} {d : D} {sg sg' : Sg} (h : asg (.tup3 a b c) d sg = some sg') : ∃ x y z sg1 sg2, d = .tup [x, y, z] ∧ asg a x sg = some sg1 ∧ asg b y sg1 = some sg2 ∧ asg c z sg2 = some sg' := by
  cases d with
  | tup xs =>
    cases xs with
    | nil => cases h
    | cons x xs =>
      cases xs with
      | nil => cases h
      | cons y xs =>
        cases xs with
        | nil => cases h
        | cons z xs =>
          cases xs with
          | nil =>
            obtain ⟨sg1, g1, g2⟩ := Option.bind_eq_some_iff.mp (show (asg a x sg).bind (fun σ => (asg b y σ).bind fun σ => asg c z σ) = some sg' from h)
            obtain ⟨sg2, g3, g4⟩ := Option.bind_eq_some_iff.mp g2
            exact ⟨x, y, z, sg1, sg2, rfl, g1, g3, g4⟩
          | cons w xs => cases h
  | _ => cases h
section
variable {W : Wd} {M : Mp} {H : Hp} {S : Sto}
theorem tg_ok {K : PySem.W.Frag} : ∀ (g : G) {v : V} {d : D} {σ : L2.St} {sg sg' : Sg} {Q : L2.St → Hp → Prop}, RelH W M H S → RepV W M v d → RelSl W M σ sg → asg g d sg = some sg' →
    (∀ σ', RelSl W M σ' sg' → (∀ vs, (∀ i ∈ g.slots, i ∈ vs) → wipe σ' vs = wipe σ vs) → Q σ' H) → tgOf K g v σ H Q
  | .name i, v, d, σ, sg, sg', Q, rh, r, sl, h, q => by
    cases h
    exact q _ (sl.set r i) fun vs hv => wipe_set (hv i (List.mem_singleton.mpr rfl))
  | .tup2 a b, v, d, σ, sg, sg', Q, rh, r, sl, h, q => by
    obtain ⟨x, y, sg1, rfl, g1, g2⟩ := asg_tup2 h
    obtain ⟨p, vs, rfl, t1, _, t2, _⟩ := tup_view rh r
    obtain ⟨v1, ws, rfl, r1, t3⟩ := t2.cons_inv
    obtain ⟨v2, ws, rfl, r2, t4⟩ := t3.cons_inv
    cases t4.nil_inv
    refine ⟨p, _, rfl, SqT.of t1, rfl, v1, _, rfl, tg_ok a rh r1 sl g1 fun σ1 s1 w1 => ⟨v2, _, rfl, tg_ok b rh r2 s1 g2 fun σ2 s2 w2 => ⟨rfl, q σ2 s2 fun vs hv => ?_⟩⟩⟩
    rw [w2 vs fun i hi => hv i (List.mem_append_right _ hi), w1 vs fun i hi => hv i (List.mem_append_left _ hi)]
  | .tup3 a b c, v, d, σ, sg, sg', Q, rh, r, sl, h, q => by
    obtain ⟨x, y, z, sg1, sg2, rfl, g1, g3, g4⟩ := asg_tup3 h
    obtain ⟨p, vs, rfl, t1, _, t2, _⟩ := tup_view rh r
    obtain ⟨v1, ws, rfl, r1, t3⟩ := t2.cons_inv
    obtain ⟨v2, ws, rfl, r2, t4⟩ := t3.cons_inv
    obtain ⟨v3, ws, rfl, r3, t5⟩ := t4.cons_inv
    cases t5.nil_inv
    refine ⟨p, _, rfl, SqT.of t1, rfl, v1, _, rfl, tg_ok a rh r1 sl g1 fun σ1 s1 w1 => ⟨v2, _, rfl, tg_ok b rh r2 s1 g3 fun σ2 s2 w2 => ⟨v3, _, rfl, tg_ok c rh r3 s2 g4 fun σ3 s3 w3 => ⟨rfl, q σ3 s3 fun vs hv => ?_⟩⟩⟩⟩
    rw [w3 vs fun i hi => hv i (List.mem_append_right _ hi), w2 vs fun i hi => hv i (List.mem_append_left _ (List.mem_append_right _ hi)), w1 vs fun i hi => hv i (List.mem_append_left _ (List.mem_append_left _ hi))]
end
/-! ### what is walked -/
def WalkD (W : Wd) (M : Mp) (J : L2.It) (p : Itm) : Prop := ∃ (G : Hp → Prop) (Y : Nat → Hp → V → Hp → Prop), Walk J p.xs.length G Y ∧ (∀ M' H S, M.sub M' → RelH W M' H S → Itm.ok p.g S → G H) ∧
  ∀ i H x H' M' S, i < p.xs.length → M.sub M' → RelH W M' H S → Itm.ok p.g S → Y i H x H' → ∃ M'' d, M'.le M'' ∧ p.xs[i]? = some d ∧ RelH W M'' H' S ∧ RepV W M'' x d
def tIs (W : Wd) (wx : WX) (fi : Sg → Sto → R Itm) : TI := fun σ H Rr => ∃ M sg S, RelH W M H S ∧ RelSl W M σ sg ∧ Post W (WalkD W) (fun c d H => wx c d σ H) M (fi sg S) Rr
theorem PI.mono {X : Cx} {tg it : Expr} {t t' : TI} (h : PI X tg it t) (m : ∀ σ H Q, t' σ H Q → t σ H Q) : PI X tg it t' := ⟨fun pins s σ H Q I q => h.run pins s σ H Q I (m σ H Q q)⟩
theorem PI.or {X : Cx} {tg it : Expr} {t t' : TI} (h : PI X tg it t) (h' : PI X tg it t') : PI X tg it (fun σ H Q => t σ H Q ∨ t' σ H Q) := ⟨fun pins s σ H Q I q => q.elim (h.run pins s σ H Q I) (h'.run pins s σ H Q I)⟩
theorem rngD_get : ∀ {n i : Nat} {lo : Int}, i < n → (rngD lo n)[i]? = some (.int (lo + i))
  | n + 1, 0, lo, _ => by simp [rngD]
  | n + 1, i + 1, lo, h => by
    have := rngD_get (n := n) (i := i) (lo := lo + 1) (by omega)
    simp only [rngD, List.getElem?_cons_succ, this]
    congr 2
    omega
theorem rngD_len : ∀ {n : Nat} {lo : Int}, (rngD lo n).length = n
  | 0, _ => rfl
  | n + 1, lo => by simp [rngD, rngD_len]
theorem rngC_get {c : Int} : ∀ {n i : Nat} {lo : Int}, i < n → (rngC lo c n)[i]? = some (.int (lo + (i : Nat) * c))
  | n + 1, 0, lo, _ => by simp [rngC]
  | n + 1, i + 1, lo, h => by
    have := rngC_get (c := c) (n := n) (i := i) (lo := lo + c) (by omega)
    simp only [rngC, List.getElem?_cons_succ, this]
    congr 2
    rw [Int.natCast_add, Int.add_mul]
    omega
theorem rngC_len {c : Int} : ∀ {n : Nat} {lo : Int}, (rngC lo c n).length = n
  | 0, _ => rfl
  | n + 1, lo => by simp [rngC, rngC_len]
theorem enumD_get : ∀ {xs : List D} {k i : Nat} {d : D}, xs[i]? = some d → (enumD k xs)[i]? = some (.tup [.int ((k + i : Nat) : Int), d])
  | [], _, _, _, h => by simp at h
  | x :: xs, k, 0, d, h => by simp at h; subst h; simp [enumD]
  | x :: xs, k, i + 1, d, h => by
    have := enumD_get (xs := xs) (k := k + 1) (i := i) (d := d) (by simpa using h)
    simp only [enumD, List.getElem?_cons_succ, this]
    congr 4
    omega
theorem enumD_len : ∀ {xs : List D} {k : Nat}, (enumD k xs).length = xs.length
  | [], _ => rfl
  | x :: xs, k => by simp [enumD, enumD_len]
theorem zipD_get : ∀ {xs ys : List D} {i : Nat} {d e : D}, xs[i]? = some d → ys[i]? = some e → (zipD xs ys)[i]? = some (.tup [d, e])
  | [], _, _, _, _, h, _ => by simp at h
  | _ :: _, [], _, _, _, _, h => by simp at h
  | x :: xs, y :: ys, 0, d, e, h1, h2 => by simp at h1 h2; subst h1; subst h2; simp [zipD]
  | x :: xs, y :: ys, i + 1, d, e, h1, h2 => by
    simp only [zipD, List.getElem?_cons_succ]
    exact zipD_get (by simpa using h1) (by simpa using h2)
theorem zipD_len : ∀ {xs ys : List D}, (zipD xs ys).length = min xs.length ys.length
  | [], _ => by simp [zipD]
  | _ :: _, [] => by simp [zipD]
  | x :: xs, y :: ys => by
    simp only [zipD, List.length_cons, zipD_len]
    omega
section
variable {X : Cx} {W : Wd} {wx : WX} {a b c e : Expr} {f g h : Sg → Sto → R D} {pos p : Pos} {σ : L2.St} {H : Hp} {tg : Expr}
theorem walk_lst {M : Mp} {S : Sto} {H : Hp} {v : V} {d : D} (hK : W.K = X.K) {xs : List D} {gd : Option (Nat × List D)} (rh : RelH W M H S) (r : RepV W M v d) (h : itmOf d S id = .ok ⟨xs, gd⟩ S) :
    ∃ q, v = .ref q ∧ (∃ vs, SqL X.K H q vs) ∧ WalkD W M (Itl X.K q) ⟨xs, gd⟩ := by
  have key : ∀ {q : Addr} {vs : List V}, (∀ M' H S, M.sub M' → RelH W M' H S → Itm.ok gd S → SqL X.K H q vs) → (∀ M' S H, M.sub M' → RelH W M' H S → Itm.ok gd S → Reps W M' vs xs) → vs.length = xs.length → WalkD W M (Itl X.K q) ⟨xs, gd⟩ := by
    intro q vs k1 k2 k3
    refine ⟨fun H => SqL X.K H q vs, YAt vs, by show Walk _ xs.length _ _; rw [← k3]; exact walk_list, k1, fun i H x H' M' S hi hs rh' ho hy => ?_⟩
    obtain ⟨rfl, hx⟩ := hy
    obtain ⟨d, h1, h2⟩ := (k2 M' S H' hs rh' ho).get' hx
    exact ⟨M', d, .refl M', h1, rh', h2⟩
  unfold itmOf at h
  cases r with
  | @lst a vs ds h1 hz hl hr =>
    cases h
    refine ⟨a, rfl, ⟨vs, SqL.of (rh.fro _ _ h1)⟩, key (fun M' H S hs rh' _ => SqL.of (rh'.fro _ _ (hs.1 _ _ h1))) (fun M' S H hs rh' _ => Reps.sub hs ⟨hl, hr⟩) hl⟩
  | @fl a vs ds h1 hz hl hr =>
    cases h
    rw [hK] at h1
    refine ⟨a, rfl, ⟨vs, seqL_mono rh.fro h1⟩, key (fun M' H S hs rh' _ => seqL_mono rh'.fro (seqL_mono hs.1 h1)) (fun M' S H hs rh' _ => Reps.sub hs ⟨hl, hr⟩) hl⟩
  | @cell n a h1 =>
    dsimp only at h
    split at h
    · rename_i ys hn
      cases h
      obtain ⟨hf, vs, h2, h3, h4⟩ := rh.cel n _ a hn h1
      refine ⟨a, rfl, ⟨vs, SqL.of h2⟩, ?_⟩
      -- the cell's list may be another object's items later; its items stay the same data
      refine ⟨fun H => ∃ vs, SqL X.K H a vs ∧ vs.length = ys.length ∧ ∃ M' S, M.sub M' ∧ RelH W M' H S ∧ Itm.ok (some (n, ys)) S, fun i H x H' => H' = H ∧ ∃ vs, SqL X.K H a vs ∧ vs[i]? = some x ∧ H a = some (.lst vs), ⟨fun i H hi q => ?_, fun H q => ?_, fun i H x H' hi q y => ?_⟩, fun M' H S hs rh' ho => ?_, fun i H x H' M' S hi hs rh' ho hy => ?_⟩
      · obtain ⟨vs, q1, q2, _⟩ := q
        exact ⟨vs, vs[i]'(by rw [q2]; exact hi), q1, by simp [show i < vs.length by rw [q2]; exact hi]⟩
      · obtain ⟨vs, q1, q2, _⟩ := q
        exact ⟨vs, q1, Nat.le_of_eq q2⟩
      · obtain ⟨_, _, _, M', S, hs, rh', ho⟩ := q
        obtain ⟨_, vs, g2, _⟩ := rh'.cel n _ a ho (hs.io h1)
        exact ⟨y.1, vs, SqL.of g2, y.2 vs (SqL.of g2), g2⟩
      · obtain ⟨_, vs, g2, g3, _⟩ := rh'.cel n _ a ho (hs.io h1)
        exact ⟨vs, SqL.of g2, g3.1, M', S, hs, rh', ho⟩
      · obtain ⟨rfl, vs, g1, g2, g3⟩ := hy
        obtain ⟨_, ws, k2, k3, _⟩ := rh'.cel n _ a ho (hs.io h1)
        rw [g3] at k2
        cases k2
        obtain ⟨d, e1, e2⟩ := k3.get' g2
        exact ⟨M', d, .refl M', e1, rh', e2⟩
    · cases h
  | _ => cases h
theorem walk_tpl {M : Mp} {S : Sto} {H : Hp} {v : V} {d : D} (hK : W.K = X.K) {xs : List D} (rh : RelH W M H S) (r : RepV W M v d) (h : d = .tup xs ∨ d = .ft xs) :
    ∃ q, v = .ref q ∧ (∃ vs, SqT X.K H q vs) ∧ WalkD W M (Itt X.K q) ⟨xs, none⟩ := by
  have key : ∀ {q : Addr} {vs : List V}, (∀ M' H S, M.sub M' → RelH W M' H S → SqT X.K H q vs) → Reps W M vs xs → WalkD W M (Itt X.K q) ⟨xs, none⟩ := by
    intro q vs k1 k2
    refine ⟨fun H => SqT X.K H q vs, YAt vs, by show Walk _ xs.length _ _; rw [← k2.1]; exact walk_tup, fun M' H S hs rh' _ => k1 M' H S hs rh', fun i H x H' M' S hi hs rh' ho hy => ?_⟩
    obtain ⟨rfl, hx⟩ := hy
    obtain ⟨d, h1, h2⟩ := (k2.sub hs).get' hx
    exact ⟨M', d, .refl M', h1, rh', h2⟩
  rcases h with rfl | rfl
  · cases r with
    | @tup a vs ds h1 hz hl hr => exact ⟨a, rfl, ⟨vs, SqT.of (rh.fro _ _ h1)⟩, key (fun M' H S hs rh' => SqT.of (rh'.fro _ _ (hs.1 _ _ h1))) ⟨hl, hr⟩⟩
  · cases r with
    | @ft a vs ds h1 hz hl hr =>
      rw [hK] at h1
      exact ⟨a, rfl, ⟨vs, seqT_mono rh.fro h1⟩, key (fun M' H S hs rh' => seqT_mono rh'.fro (seqT_mono hs.1 h1)) ⟨hl, hr⟩⟩
theorem itm_S {d : D} {S S' : Sto} {k : List D → List D} {p : Itm} (h : itmOf d S k = .ok p S') : S' = S ∧ ∃ ys, itmOf d S id = .ok ⟨ys, p.g⟩ S ∧ p.xs = k ys := by
  unfold itmOf at h ⊢
  split at h
  · cases h; exact ⟨rfl, _, rfl, rfl⟩
  · cases h; exact ⟨rfl, _, rfl, rfl⟩
  · split at h
    · cases h; exact ⟨rfl, _, rfl, rfl⟩
    · cases h
  · cases h
theorem itm_ne {d : D} {S : Sto} {k : List D → List D} : NoExc (itmOf d S k) := by
  intro e S' h
  unfold itmOf at h
  split at h
  · cases h
  · cases h
  · split at h <;> cases h
  · cases h
/-- what f gives is known ahead -/
theorem di_seq (hK : W.K = X.K) (ha : PE X a (tE W wx f)) : PI X tg a (tIs W wx fun σ S => (f σ S).bind fun x S => match x with | .tup xs => .ok ⟨xs, none⟩ S | .ft xs => .ok ⟨xs, none⟩ S | _ => itmOf x S id) := by
  refine PI.mono (PI.or (pi_list ha) (pi_tup ha)) fun σ H Rr ⟨M, sg, S, rh, sl, p⟩ => ?_
  dsimp only at p
  cases hf : f sg S with
  | no => rw [hf] at p; exact p.elim
  | exc e S1 =>
    rw [hf] at p
    exact .inl ⟨M, sg, S, rh, sl, by rw [hf]; exact p⟩
  | ok d S1 =>
    rw [hf] at p
    dsimp only [R.bind] at p
    split at p
    · refine .inr ⟨M, sg, S, rh, sl, ?_⟩
      rw [hf]
      intro M' H' v l rh' r
      obtain ⟨q, rfl, h1, h2⟩ := walk_tpl hK rh' r (.inl rfl)
      exact ⟨q, rfl, h1, p M' H' _ l rh' h2⟩
    · refine .inr ⟨M, sg, S, rh, sl, ?_⟩
      rw [hf]
      intro M' H' v l rh' r
      obtain ⟨q, rfl, h1, h2⟩ := walk_tpl hK rh' r (.inr rfl)
      exact ⟨q, rfl, h1, p M' H' _ l rh' h2⟩
    · refine .inl ⟨M, sg, S, rh, sl, ?_⟩
      rw [hf]
      intro M' H' v l rh' r
      cases hi : itmOf d S1 id with
      | no => rw [hi] at p; exact p.elim
      | exc e S2 => exact absurd hi (itm_ne e S2)
      | ok it S2 =>
        obtain ⟨e1, ys, e2, e3⟩ := itm_S hi
        subst e1
        rw [hi] at p
        obtain ⟨q, rfl, h1, h2⟩ := walk_lst hK rh' r hi
        exact ⟨q, rfl, h1, p M' H' _ l rh' h2⟩
end
end Mq
end

section
set_option maxHeartbeats 8000000
/-! Fw5e: ranges, enumerate, zip; comprehensions. -/
namespace Mq
open PySem L2 PySem.Spec PyProof.Rows
section
variable {X : Cx} {W : Wd} {wx : WX} {a b c e : Expr} {f g h : Sg → Sto → R D} {pos p : Pos} {σ : L2.St} {H : Hp} {tg : Expr}
theorem itm_ok {d : D} {S S' : Sto} {k : List D → List D} {p : Itm} (h : itmOf d S k = .ok p S') : Itm.ok p.g S' := by
  unfold itmOf at h
  split at h
  · cases h; trivial
  · cases h; trivial
  · split at h
    · rename_i hn
      cases h
      exact hn
    · cases h
  · cases h
theorem lst_fact {M : Mp} {S : Sto} {H : Hp} {v : V} {d : D} (hK : W.K = X.K) {ys : List D} {gd : Option (Nat × List D)} (r : RepV W M v d) (h : itmOf d S id = .ok ⟨ys, gd⟩ S) :
    ∃ q, v = .ref q ∧ ∀ M' H S, M.sub M' → RelH W M' H S → Itm.ok gd S → ∃ vs, SqL X.K H q vs ∧ Reps W M' vs ys := by
  unfold itmOf at h
  cases r with
  | @lst a vs ds h1 hz hl hr =>
    cases h
    exact ⟨a, rfl, fun M' H S hs rh _ => ⟨vs, SqL.of (rh.fro _ _ (hs.1 _ _ h1)), Reps.sub hs ⟨hl, hr⟩⟩⟩
  | @fl a vs ds h1 hz hl hr =>
    cases h
    rw [hK] at h1
    exact ⟨a, rfl, fun M' H S hs rh _ => ⟨vs, seqL_mono rh.fro (seqL_mono hs.1 h1), Reps.sub hs ⟨hl, hr⟩⟩⟩
  | @cell n a h1 =>
    dsimp only at h
    split at h
    · rename_i ys hn
      cases h
      refine ⟨a, rfl, fun M' H S hs rh ho => ?_⟩
      obtain ⟨_, vs, g2, g3, _⟩ := rh.cel n _ a ho (hs.io h1)
      exact ⟨vs, SqL.of g2, g3⟩
    · cases h
  | _ => cases h
theorem di_rng1 (gl : Gl X "range") (hm : X.mg "range" = none) (hst : noStar [a] = true) (ha : PE X a (tE W wx f)) : PI X tg (.Call (.Name "range" p) [a] [] pos) (tIs W wx fun σ S => (f σ S).bind fun x S => match x with
    | .int n => if rngBig n then .ok ⟨rngD 0 n.toNat, none⟩ S else .no
    | _ => .no) :=
  PI.mono (pi_range1 gl hm (pa_cons ha pa_nil (star_cons hst).1) (by rw [(star_cons (env := X.env) hst).1]; rfl)) fun σ H Rr q => by
    refine tE_imp (one (k := fun _ x S => match x with | .int n => if rngBig n then R.ok (⟨rngD 0 n.toNat, none⟩ : Itm) S else .no | _ => .no) q) fun v H1 ⟨M, sg, S, d, r1, sl, r2, p⟩ => ?_
    split at p
    · rename_i n
      split at p
      · rename_i hb
        cases int_view r2
        refine ⟨n, rfl, hb.1, hb.2, p _ _ _ (.refl M) r1 ⟨fun _ => True, _, by rw [show (⟨rngD 0 n.toNat, none⟩ : Itm).xs.length = n.toNat from rngD_len]; exact walk_range, fun _ _ _ _ _ _ => trivial, fun i H x H' M' S hi hs rh ho hy => ?_⟩⟩
        obtain ⟨rfl, rfl⟩ := hy
        exact ⟨M', _, .refl M', rngD_get (by rw [show (⟨rngD 0 n.toNat, none⟩ : Itm).xs.length = n.toNat from rngD_len] at hi; exact hi), rh, .int _⟩
      · exact p.elim
    · exact p.elim
theorem di_rng2 (gl : Gl X "range") (hm : X.mg "range" = none) (hst : noStar [a, b] = true) (ha : PE X a (tE W wx f)) (hb : PE X b (tE W wx g)) : PI X tg (.Call (.Name "range" p) [a, b] [] pos) (tIs W wx fun σ S => (f σ S).bind fun x S => (g σ S).bind fun y S => match x, y with
    | .int i, .int j => if rngBig i ∧ rngBig j then .ok ⟨rngD i (j - i).toNat, none⟩ S else .no
    | _, _ => .no) := by
  obtain ⟨h1, h2⟩ := star_cons (env := X.env) hst
  obtain ⟨h3, _⟩ := star_cons (env := X.env) h2
  refine PI.mono (pi_range2 gl hm (pa_cons ha (pa_cons hb pa_nil h3) h1) (by rw [h1, h3]; rfl) (by rw [h3]; rfl)) fun σ H Rr q => ?_
  obtain ⟨M, sg, S, rh, sl, p⟩ := two (k := fun _ x y S => match x, y with | .int i, .int j => if rngBig i ∧ rngBig j then R.ok (⟨rngD i (j - i).toNat, none⟩ : Itm) S else .no | _, _ => .no) q
  refine ⟨M, sg, S, rh, sl, p.imp fun v H1 ⟨M1, sg1, S1, r1, s1, p1⟩ => ⟨M1, sg1, S1, r1, s1, p1.imp fun u H2 ⟨M2, sg2, S2, d, e, r3, s2, r2, r4, p2⟩ => ?_⟩⟩
  split at p2
  · rename_i i j
    split at p2
    · rename_i hb
      cases int_view r2
      cases int_view r4
      refine ⟨i, j, rfl, ⟨hb.1.1, hb.1.2, hb.2.1, hb.2.2⟩, p2 _ _ _ (.refl M2) r3 ⟨fun _ => True, _, by rw [show (⟨rngD i (j - i).toNat, none⟩ : Itm).xs.length = (j - i).toNat from rngD_len]; exact walk_range, fun _ _ _ _ _ _ => trivial, fun k H x H' M' S hi hs rh ho hy => ?_⟩⟩
      obtain ⟨rfl, rfl⟩ := hy
      exact ⟨M', _, .refl M', rngD_get (by rw [show (⟨rngD i (j - i).toNat, none⟩ : Itm).xs.length = (j - i).toNat from rngD_len] at hi; exact hi), rh, .int _⟩
    · exact p2.elim
  · exact p2.elim
theorem di_enum {elts : List Expr} {kk : Nat} {tpos : Pos} (hK : W.K = X.K) (gl : Gl X "enumerate") (hm : X.mg "enumerate" = none) (hst : noStar [a] = true) (ha : PE X a (tE W wx f)) :
    PI X (.Tuple elts kk tpos) (.Call (.Name "enumerate" p) [a] [] pos) (tIs W wx fun σ S => (f σ S).bind fun x S => itmOf x S (enumD 0)) :=
  PI.mono (pi_enum gl hm (pa_cons ha pa_nil (star_cons hst).1) (by rw [(star_cons (env := X.env) hst).1]; rfl)) fun σ H Rr q => by
    refine tE_imp (one (k := fun _ x S => itmOf x S (enumD 0)) q) fun v H1 ⟨M, sg, S, d, r1, sl, r2, p⟩ => ?_
    generalize hi : itmOf d S (enumD 0) = r at p
    cases r with
    | no => exact p.elim
    | exc e S2 => exact absurd hi (itm_ne e S2)
    | ok it S2 =>
      obtain ⟨e1, ys, e2, e3⟩ := itm_S hi
      subst e1
      obtain ⟨q, rfl, fact⟩ := lst_fact (H := H1) hK r2 e2
      have ok1 := itm_ok hi
      obtain ⟨vs, q1, q2⟩ := fact M H1 S2 (.refl M) r1 ok1
      have hlen : it.xs.length = ys.length := by rw [e3, enumD_len]
      refine ⟨q, vs, rfl, q1, p _ _ _ (.refl M) r1 ⟨fun H => ∃ vs, SqL X.K H q vs ∧ vs.length = ys.length, fun i H x H' => (Ite X.K q).yld i H x H', ⟨fun i H hi g => ?_, fun H g => ?_, fun _ _ _ _ _ _ y => y⟩, fun M' H S hs rh ho => ?_, fun i H x H' M' S hi hs rh ho hy => ?_⟩⟩
      · obtain ⟨ws, g1, g2⟩ := g
        exact ⟨ws, ws[i]'(by rw [g2]; omega), g1, by simp [show i < ws.length by rw [g2]; omega]⟩
      · obtain ⟨ws, g1, g2⟩ := g
        exact ⟨ws, g1, by omega⟩
      · obtain ⟨ws, g1, g2⟩ := fact M' H S hs rh ho
        exact ⟨ws, g1, g2.1⟩
      · obtain ⟨ws, g1, g2⟩ := fact M' H S hs rh ho
        obtain ⟨Tt, z, h1, h2, h3, h4⟩ := hy
        subst h1; subst h3
        have hz := h4 ws g1
        obtain ⟨d', k1, k2⟩ := g2.get' hz
        obtain ⟨n1, n2⟩ := rh.newFro (o := .tup [.int (i : Nat), z]) h2
        refine ⟨_, .tup [.int ((0 + i : Nat) : Int), d'], n2, by rw [e3]; exact enumD_get k1, n1, ?_⟩
        have rr : Reps W ⟨upd M'.Hs Tt (.tup [.int (i : Nat), z]), M'.io, M'.kp⟩ [.int (i : Nat), z] [.int ((0 + i : Nat) : Int), d'] := .cons (by rw [Nat.zero_add]; exact .int _) (.one (k2.mono n2))
        exact .tup upd_same (by rw [sizeLine_eq]; show 2 ≤ 16777216; omega) rr.1 rr.2
theorem di_zip {elts : List Expr} {kk : Nat} {tpos : Pos} (hK : W.K = X.K) (gl : Gl X "zip") (hm : X.mg "zip" = none) (hst : noStar [a, b] = true) (ha : PE X a (tE W wx f)) (hb : PE X b (tE W wx g)) :
    PI X (.Tuple elts kk tpos) (.Call (.Name "zip" p) [a, b] [] pos) (tIs W wx fun σ S => (f σ S).bind fun x S => (g σ S).bind fun y S => match x, y with
    | .lst xs, .lst ys => .ok ⟨zipD xs ys, none⟩ S
    | _, _ => .no) := by
  obtain ⟨h1, h2⟩ := star_cons (env := X.env) hst
  obtain ⟨h3, _⟩ := star_cons (env := X.env) h2
  refine PI.mono (pi_zip gl hm (pa_cons ha (pa_cons hb pa_nil h3) h1) h1 (star_all h2)) fun σ H Rr q => ?_
  obtain ⟨M, sg, S, rh, sl, p⟩ := two (k := fun _ x y S => match x, y with | .lst xs, .lst ys => R.ok (⟨zipD xs ys, none⟩ : Itm) S | _, _ => .no) q
  refine ⟨M, sg, S, rh, sl, p.imp fun v H1 ⟨M1, sg1, S1, r1, s1, p1⟩ => ⟨M1, sg1, S1, r1, s1, p1.imp fun u H2 ⟨M2, sg2, S2, d, e, r3, s2, r2, r4, p2⟩ => ?_⟩⟩
  split at p2
  · rename_i xs ys
    cases r2 with
    | @lst q vs ds h1 hz hl hr =>
      cases r4 with
      | @lst q' vs' ds' h1' hz' hl' hr' =>
        refine ⟨q, q', vs, vs', rfl, SqL.of (r3.fro _ _ h1), SqL.of (r3.fro _ _ h1'), p2 _ _ _ (.refl M2) r3 ⟨fun H => SqL X.K H q vs ∧ SqL X.K H q' vs', YPair (fun i => vs[i]?) (fun i => vs'[i]?), ?_, fun M' H S hs rh ho => ⟨SqL.of (rh.fro _ _ (hs.1 _ _ h1)), SqL.of (rh.fro _ _ (hs.1 _ _ h1'))⟩, fun i H x H' M' S hi hs rh ho hy => ?_⟩⟩
        · rw [show (⟨zipD xs ys, none⟩ : Itm).xs.length = min xs.length ys.length from zipD_len]
          exact walk_zip (by rw [hl, hl'])
        · obtain ⟨Tt, z, z', h2, h4, h5, h6, h7⟩ := hy
          subst h2; subst h5
          obtain ⟨d1, k1, k2⟩ := (Reps.sub hs ⟨hl, hr⟩).get' h6
          obtain ⟨d2, k3, k4⟩ := (Reps.sub hs ⟨hl', hr'⟩).get' h7
          obtain ⟨n1, n2⟩ := rh.newFro (o := .tup [z, z']) h4
          refine ⟨_, .tup [d1, d2], n2, zipD_get k1 k3, n1, ?_⟩
          have rr : Reps W ⟨upd M'.Hs Tt (.tup [z, z']), M'.io, M'.kp⟩ [z, z'] [d1, d2] := .cons (k2.mono n2) (.one (k4.mono n2))
          exact .tup upd_same (by rw [sizeLine_eq]; show 2 ≤ 16777216; omega) rr.1 rr.2
  · exact p2.elim
/-! ### comprehensions -/
abbrev wF : WX := fun _ _ _ _ => False
def relO (W : Wd) (M : Mp) (ov : Option V) (od : Option D) : Prop := match ov, od with
  | some v, some d => RepV W M v d
  | none, none => True
  | _, _ => False
variable {ft : Sg → Sto → R Bool}
theorem body_read {Qf : Option V → Hp → Prop} (q : ∃ M sg S, RelH W M H S ∧ RelSl W M σ sg ∧ Post W (relO W) W0 M ((ft sg S).bind fun k S => match k with
      | true => (f sg S).bind fun d S => .ok (some d) S
      | false => .ok none S) Qf) : tTs W wF ft σ H fun b H3 => if b = true then tE W wF f σ H3 fun y H4 => Qf (some y) H4 else Qf none H3 := by
  refine tT_imp (oneT (wx := wF) (k := fun sg k S => match k with | true => (f sg S).bind fun d S => R.ok (some d) S | false => R.ok none S) q) fun k H1 ⟨M, sg, S, r1, sl, p⟩ => ?_
  cases k with
  | true =>
    refine iteT ⟨M, sg, S, r1, sl, (p.bind (rel := RepV W)).imp fun y H2 ⟨M2, d, S2, l2, r3, r4, p2⟩ => ?_⟩
    exact p2 _ _ _ (.refl _) r3 r4
  | false => exact iteF (p M H1 none (.refl _) r1 trivial)
theorem wipe_wipe {σ : L2.St} (vs : List Nat) : ∀ (l : List Nat), (∀ i ∈ l, i ∈ vs) → L2.wipe (L2.wipe σ l) vs = L2.wipe σ vs
  | [], _ => rfl
  | i :: l, h => by
    show L2.wipe ((L2.wipe σ l).set i none) vs = _
    rw [wipe_set (h i List.mem_cons_self)]
    exact wipe_wipe vs l fun j hj => h j (List.mem_cons_of_mem _ hj)
theorem compL_ok {body : D → Sto → R (Option D)} {gd : Option (Nat × List D)} {xs acc : List D} {S : Sto} {r : R (List D)} (h : compL body gd xs acc S = r) (hn : r ≠ .no) : Itm.ok gd S := by
  cases xs with
  | nil =>
    unfold compL at h
    split at h
    · assumption
    · exact absurd h.symm hn
  | cons x xs =>
    unfold compL at h
    split at h
    · assumption
    · exact absurd h.symm hn
theorem compL_post {body : D → Sto → R (Option D)} {gd : Option (Nat × List D)} {xs acc : List D} {S : Sto} {k : List D → Sto → R D} {WE : XK} {M : Mp} {Q : VK} (p : Post W (RepV W) WE M ((compL body gd xs acc S).bind k) Q) : Itm.ok gd S :=
  compL_ok (r := compL body gd xs acc S) rfl fun e => by
    rw [e] at p
    exact p.elim
theorem post_eq {α β : Type} {rel : Mp → β → α → Prop} {WE : XK} {M : Mp} {r r' : R α} {Q : β → Hp → Prop} (h : r = r') (p : Post W rel WE M r' Q) : Post W rel WE M r Q := by
  rw [h]
  exact p
theorem comp_read {gg : G} {own : List Nat} {cc : Bool} {fi : Sg → Sto → R Itm} {Q : VK} (hgo : ∀ i ∈ gg.slots, i ∈ own)
    (q : tE W wx (fun σ S => (fi σ S).bind fun p S => (compL (cBody gg own ft f σ) p.g p.xs [] S).bind fun ds S => alloc cc ds S) σ H Q) :
    tLc (tIs W wx fi) (tgOf X.K gg) (tTs W wF ft) (tE W wF f) own σ H Q := by
  obtain ⟨M, sg, S, rh, sl, p⟩ := q
  refine ⟨M, sg, S, rh, sl, (p.bind (rel := WalkD W)).imp fun J H1 ⟨M1, it, S1, l1, rh1, wd, p1⟩ Dl hDl => ?_⟩
  obtain ⟨Gp, Y, wk, hG, hY⟩ := wd
  have n1 := rh1.noio hDl
  have n2 := rh1.nofro hDl
  have n3 := rh1.nokp hDl
  refine lc_it wk (fun i H' => ∃ M2 S2 acc vs, M1.sub M2 ∧ M2.kp = upd M1.kp Dl (.lst vs) ∧ RelH W M2 H' S2 ∧ Reps W M2 vs acc ∧ acc.length ≤ sLine ∧
      Post W (RepV W) (fun c d H => wx c d σ H) ⟨M2.Hs, M2.io, M1.kp⟩ ((compL (cBody gg own ft f sg) it.g (it.xs.drop i) acc S2).bind fun ds S => alloc cc ds S) Q) ?_ ?_ ?_ ?_
  · exact ⟨⟨M1.Hs, M1.io, upd M1.kp Dl (.lst [])⟩, S1, [], [], ⟨fun _ _ h => h, [], by simp⟩, rfl, rh1.keep n1 n2, .nil, Nat.zero_le _, p1⟩
  · rintro i H' hi ⟨M2, S2, acc, vs, hs, hk, rh2, ra, hz, p2⟩
    exact hG M2 H' S2 hs rh2 (compL_post p2)
  · rintro i x H2 H' hi ⟨M2, S2, acc, vs, hs, hk, rh2, ra, hz, p2⟩ hy
    have hok : Itm.ok it.g S2 := compL_post p2
    obtain ⟨M3, d, l3, hd, rh3, r3⟩ := hY i H2 x H' M2 S2 hi hs rh2 hok hy
    have hdrop : it.xs.drop i = d :: it.xs.drop (i + 1) := by
      obtain ⟨hlt, e⟩ := List.getElem?_eq_some_iff.mp hd
      rw [List.drop_eq_getElem_cons hlt, e]
    rw [hdrop] at p2
    unfold compL at p2
    rw [if_pos hok] at p2
    have hs3 : M1.sub M3 := hs.trans l3.1
    -- the turn's run
    cases hr : cBody gg own ft f sg d S2 with
    | no => rw [hr] at p2; exact p2.elim
    | exc e S3 => rw [hr] at p2; exact p2.elim
    | ok od S3 =>
      rw [hr] at p2
      have hr2 := hr
      unfold cBody at hr2
      split at hr2
      · rename_i sg1 hasg
        refine tg_ok gg rh3 r3 (((sl.sub l1.1).sub hs3).wipe own) hasg fun σ2 s2 w2 => ⟨(w2 own hgo).trans (wipe_wipe own own fun _ h => h), ?_⟩
        refine body_read (Qf := fun ov H4 => match ov with
          | some y => ∃ acc, H4 Dl = some (.lst acc) ∧ acc.length < sizeLine ∧ (∃ M2 S2 ac vs, M1.sub M2 ∧ M2.kp = upd M1.kp Dl (.lst vs) ∧ RelH W M2 (upd H4 Dl (.lst (acc ++ [y]))) S2 ∧ Reps W M2 vs ac ∧ ac.length ≤ sLine ∧
              Post W (RepV W) (fun c d H => wx c d σ H) ⟨M2.Hs, M2.io, M1.kp⟩ ((compL (cBody gg own ft f sg) it.g (it.xs.drop (i + 1)) ac S2).bind fun ds S => alloc cc ds S) Q)
          | none => ∃ M2 S2 acc vs, M1.sub M2 ∧ M2.kp = upd M1.kp Dl (.lst vs) ∧ RelH W M2 H4 S2 ∧ Reps W M2 vs acc ∧ acc.length ≤ sLine ∧
              Post W (RepV W) (fun c d H => wx c d σ H) ⟨M2.Hs, M2.io, M1.kp⟩ ((compL (cBody gg own ft f sg) it.g (it.xs.drop (i + 1)) acc S2).bind fun ds S => alloc cc ds S) Q) ⟨M3, sg1, S2, rh3, s2, post_eq hr2 ?_⟩
        intro M4 H4 ov l4 rh4 ro
        have hs4 : M1.sub M4 := hs3.trans l4.1
        have hk4 : M4.kp = upd M1.kp Dl (.lst vs) := (l4.2.trans l3.2).trans hk
        have up : Mp.le ⟨M2.Hs, M2.io, M1.kp⟩ ⟨M4.Hs, M4.io, M1.kp⟩ := ⟨⟨(l3.1.trans l4.1).1, (l3.1.trans l4.1).2⟩, rfl⟩
        have hD4 : H4 Dl = some (.lst vs) ∧ M4.Hs Dl = none ∧ Dl ∉ M4.io := rh4.kpf Dl _ (by rw [hk4]; exact upd_same)
        cases od with
        | some e =>
          cases ov with
          | none => exact ro.elim
          | some y =>
            have ro : RepV W M4 y e := ro
            dsimp only at p2
            split at p2
            · rename_i hlt
              refine ⟨vs, hD4.1, by rw [ra.1, ← sLine_eq]; exact hlt, ⟨M4.Hs, M4.io, upd M1.kp Dl (.lst (vs ++ [y]))⟩, S3, acc ++ [e], vs ++ [y], hs4, rfl, ?_, ?_, by rw [List.length_append]; exact hlt, p2.le up⟩
              · have z := rh4.keep (o := .lst (vs ++ [y])) hD4.2.2 hD4.2.1
                rw [hk4, upd_upd] at z
                exact z
              · exact (((ra.mono l3).mono l4).concat ro).sub (M := M4) ⟨fun _ _ h => h, [], by simp⟩
            · exact p2.elim
        | none =>
          cases ov with
          | some y => exact ro.elim
          | none => exact ⟨M4, S3, acc, vs, hs4, hk4, rh4, (ra.mono l3).mono l4, hz, p2.le up⟩
      · cases hr2
  · rintro H' ⟨M2, S2, acc, vs, hs, hk, rh2, ra, hz, p2⟩
    rw [List.drop_length] at p2
    unfold compL at p2
    split at p2
    · obtain ⟨g1, g2, g3⟩ := rh2.kpf Dl _ (by rw [hk]; exact upd_same)
      have rhB : RelH W ⟨M2.Hs, M2.io, M1.kp⟩ H' S2 := rh2.less fun a o e => by
        rw [hk, upd_ne fun z => by rw [z, n3] at e; cases e]
        exact e
      have raB : Reps W ⟨M2.Hs, M2.io, M1.kp⟩ vs acc := ra.sub (M := M2) ⟨fun _ _ h => h, [], by simp⟩
      rw [sLine_eq] at hz
      have p2 : Post W (RepV W) (fun c d H => wx c d σ H) ⟨M2.Hs, M2.io, M1.kp⟩ (alloc cc acc S2) Q := p2
      cases cc with
      | false =>
        obtain ⟨k1, k2⟩ := rhB.fix g1 g3 g2 n3
        exact p2 _ _ _ k2 k1 (.lst upd_same hz raB.1 fun i v d a b => (raB.2 i v d a b).mono k2)
      | true =>
        obtain ⟨k1, k2⟩ := rhB.adopt (c := .lst acc) g1 g3 g2 n3 ⟨g2, vs, g1, raB, hz⟩
        refine p2 _ _ _ k2 k1 (.cell ?_)
        show (M2.io ++ [Dl])[S2.length]? = some Dl
        rw [← rhB.len, List.getElem?_append_right (Nat.le_refl _), Nat.sub_self]
        rfl
    · exact p2.elim
end
end Mq
end

section
set_option maxHeartbeats 8000000
/-! Fw5f: isinstance, lists turned round, lists of ranges. -/
namespace Mq
open PySem L2 PySem.Spec PyProof.Rows
theorem isT_ok : ∀ a b : Tn, kitB (tnS a) (tnS b) = some (isT a b) := by
  intro a b
  cases a <;> cases b <;> decide +kernel
section
variable {X : Cx} {W : Wd} {wx : WX} {a : Expr} {f : Sg → Sto → R D} {pos p p2 : Pos}
theorem ty_view {M : Mp} {H : Hp} {S : Sto} {v : V} {d : D} {k : Tn} (rh : RelH W M H S) (r : RepV W M v d) (h : tyD d S = some k) : TyX W.K H v (.type (tnS k)) := by
  cases r with
  | non => cases h; exact .base .non
  | bl b => cases h; exact .base (.bl b)
  | int i => cases h; exact .base (.int i)
  | str x => cases h; exact .base (.str x)
  | lst h1 hz hl hr => cases h; exact .base (.lst (rh.fro _ _ h1))
  | tup h1 hz hl hr => cases h; exact .base (.tup (rh.fro _ _ h1))
  | ft h1 hz hl hr =>
    cases h
    rcases seqT_mono rh.fro h1 with (h | ⟨o, h⟩) | ⟨o, its, n, h, c, _⟩
    · exact .base (.tup h)
    · exact .fTuple h
    · exact .kTuple h c
  | fl h1 hz hl hr =>
    cases h
    rcases seqL_mono rh.fro h1 with (h | ⟨o, h⟩) | ⟨o, its, n, h, c, _⟩
    · exact .base (.lst h)
    · exact .base (.frz h)
    · exact .kList h c
  | ins h1 hz hl hr => cases h
  | @cell n q h1 =>
    unfold tyD at h
    dsimp only at h
    split at h
    · rename_i xs hn
      cases h
      obtain ⟨_, vs, g, _⟩ := rh.cel n _ q hn h1
      exact .base (.lst g)
    · rename_i xs hn
      cases h
      obtain ⟨_, vs, g, _⟩ := rh.cel n _ q hn h1
      exact .base (.dK g)
    · rename_i xs hn
      cases h
      obtain ⟨_, vs, g, _⟩ := rh.cel n _ q hn h1
      exact .base (.dT g)
    · cases h
theorem de_isi {t : Tn} {x : Str} (hK : W.K = X.K) (gl : Gl X "isinstance") (hm : X.mg "isinstance" = none) (gt : Gl X x) (ht : X.mg x = none) (hb : bootBuiltins x = some (.type (tnS t))) (hx : x ≠ "__name__") (hd : (x == ("__debug__" : Str)) = false) (hst : noStar [a] = true) (ha : PE X a (tE W wx f)) :
    PE X (.Call (.Name "isinstance" p) [a, .Name x p2] [] pos) (tE W wx fun σ S => (f σ S).bind fun x S => R.opt S ((tyD x S).map fun k => .bl (isT k t))) := by
  have e2 : noStar [a, .Name x p2] = true := by
    cases a <;> first | rfl | (cases hst)
  obtain ⟨h1, h2⟩ := star_cons (env := X.env) e2
  obtain ⟨h3, _⟩ := star_cons (env := X.env) h2
  refine PE.mono (pe_callB call_isi gl hm (by decide +kernel) (pa_cons ha (pa_cons (pe_bltn (v := .ty (tnS t)) gt ht hb rfl hx hd) pa_nil h3) h1) (by decide) (by decide) h1 (star_all h2)) fun σ H Q q => ?_
  refine tE_imp (one (k := fun _ x S => R.opt S ((tyD x S).map fun k => D.bl (isT k t))) q) fun v H1 ⟨M, sg, S, d, r1, sl, r2, p⟩ => ?_
  generalize hk : tyD d S = o at p
  cases o with
  | none => exact p.elim
  | some k => exact ⟨v, .ty (tnS t), .type (tnS k), .type (tnS t), isT k t, rfl, .ty _, by rw [← hK]; exact ty_view r1 r2 hk, kit_ty (isT_ok k t), p _ _ _ (.refl M) r1 (.bl _)⟩
theorem de_rev {cc : Bool} {k : Nat} {q1 q2 q3 : Pos} (hK : W.K = X.K) (ha : PE X a (tE W wx f)) : PE X (.Subscript a (.Slice none none (some (.UnaryOp .USub (.Constant (.int 1) k q1) q2)) q3) pos) (tE W wx fun σ S => (f σ S).bind fun x S => revD cc x S) :=
  PE.mono (pe_revL ha) fun σ H Q q => by
    refine tE_imp (one (k := fun _ x S => revD cc x S) q) fun v H1 ⟨M, sg, S, d, r1, sl, r2, p⟩ => ?_
    unfold revD at p
    split at p
    · rename_i xs
      cases r2 with
      | @fl q vs ds h1 hz hl hr =>
        refine ⟨q, vs, rfl, by rw [← hK]; exact seqL_mono r1.fro h1, fun b hb => alloc_ok p r1 (Reps.reverse ⟨hl, hr⟩) (by rw [List.length_reverse]; exact hz) hb⟩
    · split at p
      · rename_i xs hx
        obtain ⟨q, vs, rfl, h1, h2, h3⟩ := lst_view r1 r2 hx
        exact ⟨q, vs, rfl, SqL.of h1, fun b hb => alloc_ok p r1 h2.reverse (by rw [List.length_reverse]; exact h3) hb⟩
      · exact p.elim
theorem reps_rg {M : Mp} (n : Int) : Reps W M (rgV 0 n) (rngD 0 n.toNat) := by
  refine ⟨by rw [rgV_length, rngD_len, Int.sub_zero], fun i v d h1 h2 => ?_⟩
  have hi := (List.getElem?_eq_some_iff.mp h2).1
  rw [rngD_len] at hi
  rw [rngD_get hi] at h2
  cases h2
  unfold rgV at h1
  rw [List.getElem?_map, List.getElem?_range (by rw [Int.sub_zero]; exact hi)] at h1
  cases h1
  exact .int _
theorem de_lrng {cc : Bool} {p3 : Pos} (hc : X.calm = true) (gl : Gl X "list") (hm : X.mg "list" = none) (gr : Gl X "range") (hr : X.mg "range" = none) (hst : noStar [a] = true) (ha : PE X a (tE W wx f)) :
    PE X (.Call (.Name "list" p) [.Call (.Name "range" p2) [a] [] p3] [] pos) (tE W wx fun σ S => (f σ S).bind fun x S => match x with
      | .int n => if -(2 ^ 62) ≤ n ∧ n ≤ 16777216 then alloc cc (rngD 0 n.toNat) S else .no
      | _ => .no) :=
  PE.mono (pe_listRg hc gl hm (prg_1 gr hr ha (star_cons hst).1)) fun σ H Q q => by
    refine tE_imp (one (k := fun _ x S => match x with | .int n => if -(2 ^ 62) ≤ n ∧ n ≤ 16777216 then alloc cc (rngD 0 n.toNat) S else R.no | _ => .no) q) fun v H1 ⟨M, sg, S, d, r1, sl, r2, p⟩ => ?_
    split at p
    · rename_i n
      split at p
      · rename_i h
        cases int_view r2
        refine ⟨n, rfl, ⟨by omega, by omega, by omega, by omega, by omega⟩, fun b hb => alloc_ok p r1 (reps_rg n) ?_ hb⟩
        rw [rngD_len, sizeLine_eq]
        omega
      · exact p.elim
    · exact p.elim
end
end Mq
end

section
set_option maxHeartbeats 8000000
/-! Fw6: statements mean their runs. -/
namespace Mq
open PySem L2 PySem.Spec PyProof.Rows
def PostS (W : Wd) (wx : WX) (M : Mp) (r : RS) (En : Ends) : Prop := match r with
  | .nx sg S => ∀ M' H' σ', M.le M' → RelH W M' H' S → RelSl W M' σ' sg → En.nx σ' H'
  | .bk sg S => ∀ M' H' σ', M.le M' → RelH W M' H' S → RelSl W M' σ' sg → En.bk σ' H'
  | .ct sg S => ∀ M' H' σ', M.le M' → RelH W M' H' S → RelSl W M' σ' sg → En.ct σ' H'
  | .rt d S => ∀ M' H' v, M.le M' → RelH W M' H' S → RepV W M' v d → En.rt v H'
  | .exc e sg S => ∀ M' H' σ' cls dx, M.le M' → RelH W M' H' S → RelSl W M' σ' sg → RepX W M' H' cls dx e → wx cls dx σ' H'
  | .no => False
def tSs (W : Wd) (wx : WX) (f : Sg → Sto → RS) : TS := fun En σ H => ∃ M sg S, RelH W M H S ∧ RelSl W M σ sg ∧ PostS W wx M (f sg S) En
section
variable {W : Wd} {wx : WX} {M M' : Mp} {r : RS} {En En' : Ends} {σ : L2.St} {sg : Sg} {α β : Type} {rel : Mp → β → α → Prop}
theorem PostS.le (p : PostS W wx M r En) (l : M.le M') : PostS W wx M' r En := by
  cases r with
  | nx s S => exact fun M2 H σ l2 => p M2 H σ (l.trans l2)
  | bk s S => exact fun M2 H σ l2 => p M2 H σ (l.trans l2)
  | ct s S => exact fun M2 H σ l2 => p M2 H σ (l.trans l2)
  | rt d S => exact fun M2 H v l2 => p M2 H v (l.trans l2)
  | exc e s S => exact fun M2 H σ c d l2 => p M2 H σ c d (l.trans l2)
  | no => exact p
theorem PostS.seq {k : Sg → Sto → RS} (p : PostS W wx M (r.seq k) En) : PostS W wx M r { En with nx := fun σ H => ∃ M sg S, RelH W M H S ∧ RelSl W M σ sg ∧ PostS W wx M (k sg S) En } := by
  cases r with
  | nx s S => exact fun M2 H σ l2 rh sl => ⟨M2, s, S, rh, sl, PostS.le p l2⟩
  | _ => exact p
/-- an expression, then the statement's end -/
theorem PostS.toS {m : R α} {k : α → Sto → RS} (sl : RelSl W M σ sg) (p : PostS W wx M (m.toS sg k) En) : Post W rel (fun c d H => wx c d σ H) M m fun v H1 => ∃ M1 a S1, M.le M1 ∧ RelH W M1 H1 S1 ∧ RelSl W M1 σ sg ∧ rel M1 v a ∧ PostS W wx M1 (k a S1) En := by
  cases m with
  | ok a S => exact fun M' H' v l rh rv => ⟨M', a, S, l, rh, sl.mono l, rv, PostS.le p l⟩
  | exc e S => exact fun M' H' c d l rh rx => p M' H' σ c d l rh (sl.mono l) rx
  | no => exact p
end
section
variable {X : Cx} {W : Wd} {wx : WX} {a b c e o : Expr} {f g h : Sg → Sto → R D} {ft : Sg → Sto → R Bool} {fi : Sg → Sto → R Itm} {u w : Sg → Sto → RS} {pos p tpos : Pos} {σ : L2.St} {H : Hp} {En : Ends} {st : Stmt} {rest : List Stmt}
/-- one run at a statement's start -/
theorem oneS {k : Sg → D → Sto → RS} (q : ∃ M sg S, RelH W M H S ∧ RelSl W M σ sg ∧ PostS W wx M ((f sg S).toS sg (k sg)) En) :
    tE W wx f σ H fun v H1 => ∃ M sg S d, RelH W M H1 S ∧ RelSl W M σ sg ∧ RepV W M v d ∧ PostS W wx M (k sg d S) En := by
  obtain ⟨M, sg, S, rh, sl, p⟩ := q
  exact ⟨M, sg, S, rh, sl, (p.toS (rel := RepV W) sl).imp fun v H1 ⟨M1, d, S1, l, r1, s1, r2, p1⟩ => ⟨M1, sg, S1, d, r1, s1, r2, p1⟩⟩
theorem ds_nil : PSs X [] (tSs W wx fun σ S => .nx σ S) := PSs.mono pss_nil fun En σ H ⟨M, sg, S, rh, sl, p⟩ => p M H σ (.refl M) rh sl
theorem ds_cons (h1 : PS X st (tSs W wx u)) (h2 : PSs X rest (tSs W wx w)) : PSs X (st :: rest) (tSs W wx fun σ S => (u σ S).seq fun σ S => w σ S) :=
  PSs.mono (pss_cons h1 h2) fun En σ H ⟨M, sg, S, rh, sl, p⟩ => ⟨M, sg, S, rh, sl, p.seq⟩
theorem ds_never : PS X st (tSs W wx fun _ _ => .no) := PS.mono ps_never fun En σ H ⟨M, sg, S, rh, sl, p⟩ => p
theorem ds_pass : PS X (.Pass pos) (tSs W wx fun σ S => .nx σ S) := PS.mono ps_pass fun En σ H ⟨M, sg, S, rh, sl, p⟩ => p M H σ (.refl M) rh sl
theorem ds_brk : PS X (.Break pos) (tSs W wx fun σ S => .bk σ S) := PS.mono ps_break fun En σ H ⟨M, sg, S, rh, sl, p⟩ => p M H σ (.refl M) rh sl
theorem ds_cont : PS X (.Continue pos) (tSs W wx fun σ S => .ct σ S) := PS.mono ps_continue fun En σ H ⟨M, sg, S, rh, sl, p⟩ => p M H σ (.refl M) rh sl
theorem ds_ret (ha : PE X a (tE W wx f)) : PS X (.Return (some a) pos) (tSs W wx fun σ S => (f σ S).toS σ fun d S => .rt d S) :=
  PS.mono (ps_ret ha) fun En σ H q => tE_imp (oneS (k := fun _ d S => RS.rt d S) q) fun v H1 ⟨M, sg, S, d, r1, sl, r2, p⟩ => p _ _ _ (.refl M) r1 r2
theorem ds_retN : PS X (.Return none pos) (tSs W wx fun _ S => .rt .non S) := PS.mono ps_retN fun En σ H ⟨M, sg, S, rh, sl, p⟩ => p _ _ _ (.refl M) rh .non
/-- no comprehension, whose value may be let go early -/
def noComp : Expr → Bool
  | .ListComp .. => false
  | .SetComp .. => false
  | .DictComp .. => false
  | _ => true
theorem swaps_no {t : Option Expr} {l : Nat} {env : Env} (h : noComp e = true) : swapsWith e t l env = pure false := by
  cases e <;> first | rfl | (cases h)
theorem ds_expr (ha : PE X a (tE W wx f)) (hn : noComp a = true) : PS X (.Expr a pos) (tSs W wx fun σ S => (f σ S).toS σ fun _ S => .nx σ S) :=
  PS.mono (ps_expr ha (swaps_no hn)) fun En σ H q => tE_imp (oneS (k := fun sg _ S => RS.nx sg S) q) fun v H1 ⟨M, sg, S, d, r1, sl, r2, p⟩ => p _ _ _ (.refl M) r1 sl
theorem ds_if {t : Expr} {x y : List Stmt} (ht : PT X t (tTs W wx ft)) (hx : PSs X x (tSs W wx u)) (hy : PSs X y (tSs W wx w)) : PS X (.If t x y pos) (tSs W wx fun σ S => (ft σ S).toS σ fun k S => match k with | true => u σ S | false => w σ S) :=
  PS.mono (ps_if ht hx hy) fun En σ H ⟨M, sg, S, rh, sl, p⟩ => ⟨M, sg, S, rh, sl, (p.toS (rel := fun _ (b b' : Bool) => b = b') sl).imp fun k H1 ⟨M1, k', S1, l, r1, s1, r2, p1⟩ => by
    subst r2
    cases k with
    | true => exact iteT ⟨M1, sg, S1, r1, s1, p1⟩
    | false => exact iteF ⟨M1, sg, S1, r1, s1, p1⟩⟩
theorem Post.weak {α β : Type} {rel : Mp → β → α → Prop} {WE : XK} {M : Mp} {r : R α} {Q : β → Hp → Prop} (p : Post W rel W0 M r Q) : Post W rel WE M r Q := by
  cases r with
  | ok a S => exact p
  | exc e S => exact fun M' H' c d l rh rx => (p M' H' c d l rh rx).elim
  | no => exact p
/-! targets -/
def tTg (W : Wd) (wx : WX) (ft : D → Sg → Sto → R Sg) : TG := fun v σ H Q => ∃ M sg S d, RelH W M H S ∧ RelSl W M σ sg ∧ RepV W M v d ∧ Post W (fun M (σ' : L2.St) sg' => RelSl W M σ' sg') W0 M (ft d sg S) Q
theorem PG.mono {t t' : TG} (h : PG X a t) (m : ∀ v σ H Q, t' v σ H Q → t v σ H Q) : PG X a t' := ⟨fun pins s σ H v u Q I r q => h.run pins s σ H v u Q I r (m v σ H Q q)⟩
theorem dg_name {i : Nat} {x : Str} (hN : X.N.Nodup) (hi : X.N[i]? = some x) (hx : Loc X.env.scope x) (hf : X.fn x = true ∨ X.env.scope.names.lookup x = some .local) : PG X (.Name x pos) (tTg W wx fun d σ S => .ok (σ.set i (some d)) S) :=
  PG.mono (pg_name hN hi hx hf) fun v σ H Q ⟨M, sg, S, d, rh, sl, rd, p⟩ => p M H _ (.refl M) rh (sl.set rd i)
/-- no slice -/
def noSlice : Expr → Bool
  | .Slice .. => false
  | _ => true
theorem plainIx_of {i : Expr} (h : noSlice i = true) : PlainIx i := fun o j => by
  cases i <;> first | rfl | (cases h)
theorem plain_sub {v : Value} {i : Expr} (h : noSlice i = true) : assign (.Subscript o i pos) X.env v = (do
      let ov ← holding [v] (eval o X.env)
      let iv ← holding [v, ov] (eval i X.env)
      standAt pos
      holding [v, ov, iv] (setItem ov iv v)
      release [v, ov, iv] []) := by
  cases i <;> first | rfl | (cases h)
theorem dg_sub (hu : X.A.units + 1 < cLine) (ho : PE X o (tE W wx f)) (hi : PE X a (tE W wx g)) (hp : noSlice a = true) : PG X (.Subscript o a pos) (tTg W wx fun d σ S => (f σ S).bind fun x S => (g σ S).bind fun y S => match setD x y d S with
    | some S' => .ok σ S'
    | none => .no) :=
  PG.mono (pg_sub ho hi (set_D (W := W) hu) fun v => plain_sub hp) fun v σ H Q ⟨M, sg, S, d, rh, sl, rd, p⟩ => by
    refine ⟨M, sg, S, rh, sl, p.bind.weak.imp fun x H1 ⟨M1, a, S1, l1, r1, ra, p1⟩ => ⟨M1, sg, S1, r1, sl.mono l1, p1.bind.weak.imp fun y H2 ⟨M2, b, S2, l2, r2, rb, p2⟩ => ?_⟩⟩
    split at p2
    · rename_i S' hs
      exact ⟨M2, S2, a, b, d, S', r2, ra.mono l2, rb, (rd.mono l1).mono l2, hs, fun M' H' l rh' => p2 M' H' σ l rh' (((sl.mono l1).mono l2).mono l)⟩
    · exact p2.elim
theorem assign_each {t : Expr} {ts : List Expr} {env : Env} (h : noStar (t :: ts) = true) : assignEach (t :: ts) env = (false, assign t env) :: assignEach ts env ∧ noStar ts = true := by
  cases t <;> first | exact ⟨rfl, h⟩ | (cases h)
variable {x1 x2 x3 : Expr} {f1 f2 f3 : D → Sg → Sto → R Sg}
theorem dg_tup2 {k : Nat} (hc : X.calm = true) (h1 : PG X x1 (tTg W wx f1)) (h2 : PG X x2 (tTg W wx f2)) (hst : noStar [x1, x2] = true) :
    PG X (.Tuple [x1, x2] k pos) (tTg W wx fun d σ S => match d with | .tup [x, y] => (f1 x σ S).bind fun σ S => f2 y σ S | _ => .no) := by
  obtain ⟨e1, s1⟩ := assign_each (env := X.env) hst
  obtain ⟨e2, s2⟩ := assign_each (env := X.env) s1
  refine PG.mono (pg_tup (n := 2) hc (pgs_cons h1 (pgs_cons h2 pgs_nil (by rw [e2]; rfl)) (by rw [e1]; rfl)) (by rw [e1, e2]; rfl) (by rw [e1, e2]; rfl)) fun v σ H Q ⟨M, sg, S, d, rh, sl, rd, p⟩ => ?_
  dsimp only at p
  split at p
  · rename_i x y
    obtain ⟨q, vs, rfl, t1, _, t2, _⟩ := tup_view rh rd
    obtain ⟨v1, ws, rfl, r1, t3⟩ := t2.cons_inv
    obtain ⟨v2, ws, rfl, r2, t4⟩ := t3.cons_inv
    cases t4.nil_inv
    refine ⟨q, _, rfl, SqT.of t1, rfl, v1, _, rfl, M, sg, S, x, rh, sl, r1, (p.bind (rel := fun M (σ' : L2.St) sg' => RelSl W M σ' sg')).imp fun σ1 H1 ⟨M1, sg1, S1, l1, g1, g2, p1⟩ => ?_⟩
    refine ⟨v2, _, rfl, M1, sg1, S1, y, g1, g2, r2.mono l1, Post.imp (β := L2.St) ?_ fun σ2 H2 q => ⟨rfl, q⟩⟩
    exact p1
  · exact p.elim
theorem ds_asg {t : Expr} {gt : D → Sg → Sto → R Sg} (ha : PE X a (tE W wx f)) (hg : PG X t (tTg W wx gt)) (hn : swapsWith a (some t) pos.line X.env = pure false) (hw : swappedStores [t] a X.env = pure none) (hst : noStar [t] = true) :
    PS X (.Assign [t] a pos) (tSs W wx fun σ S => (f σ S).toS σ fun d S => (gt d σ S).nox.toS σ fun σ S => .nx σ S) :=
  PS.mono (ps_asg ha hg hn hw (by rw [(assign_each (env := X.env) hst).1]; rfl)) fun En σ H q => by
    refine tE_imp (oneS (k := fun sg d S => (gt d sg S).nox.toS sg fun σ S => RS.nx σ S) q) fun v H1 ⟨M, sg, S, d, r1, sl, r2, p⟩ => ?_
    exact ⟨M, sg, S, d, r1, sl, r2, (Post.nox (p.toS (rel := fun M (σ' : L2.St) sg' => RelSl W M σ' sg') sl)).imp fun σ2 H2 ⟨M2, sg2, S2, l2, g1, g2, g3, p2⟩ => p2 _ _ _ (.refl _) g1 g3⟩
theorem ds_par2 {i j : Nat} {x y : Str} {px py pt pt2 : Pos} {kt k2 : Nat} (hc : X.calm = true) (hN : X.N.Nodup) (hi : X.N[i]? = some x) (hj : X.N[j]? = some y) (hij : i ≠ j) (hx : X.env.scope.names.lookup x = some .local) (hy : X.env.scope.names.lookup y = some .local)
    (ha : PE X a (tE W wx f)) (hb : PE X b (tE W wx g)) (hst : noStar [a, b] = true) (hw : swappedStores [.Tuple [.Name x px, .Name y py] kt pt] (.Tuple [a, b] k2 pt2) X.env = pure (some [x, y])) :
    PS X (.Assign [.Tuple [.Name x px, .Name y py] kt pt] (.Tuple [a, b] k2 pt2) pos) (tSs W wx fun σ S => (f σ S).toS σ fun x S => (g σ S).toS σ fun y S => .nx ((σ.set i (some x)).set j (some y)) S) := by
  obtain ⟨e1, s1⟩ := star_cons (env := X.env) hst
  obtain ⟨e2, s2⟩ := star_cons (env := X.env) s1
  refine PS.mono (ps_par hc hN hi hj hij hx hy (pa_cons ha (pa_cons hb pa_nil e2) e1) hw) fun En σ H q => ?_
  refine tE_imp (oneS (k := fun sg x S => (g sg S).toS sg fun y S => RS.nx ((sg.set i (some x)).set j (some y)) S) q) fun v H1 ⟨M, sg, S, d, r1, sl, r2, p⟩ => ?_
  refine ⟨M, sg, S, r1, sl, (p.toS (rel := RepV W) sl).imp fun w H2 ⟨M2, e, S2, l2, r3, s2, r4, p2⟩ => ⟨v, w, rfl, ?_⟩⟩
  exact p2 _ _ _ (.refl _) r3 ((s2.set (r2.mono l2) i).set r4 j)
/-! name op= e, o[i] op= e, o.f = e -/
def rAug (W : Wd) (o : Operator) : TIp := fun x y H Q => ∃ M S a b, RelH W M H S ∧ RepV W M x a ∧ RepV W M y b ∧ Post W (RepV W) W0 M (augD o a b S) Q
theorem ip_D (o : Operator) : PIp X o (rAug W o) := by
  intro pins s σ H x y v u Q I rx ry ⟨M, S, a, b, rh, ra, rb, p⟩
  unfold augD at p
  split at p
  · rename_i i j
    cases int_view ra
    cases int_view rb
    split at p
    · exact ip_add pins s σ H _ _ v u Q I rx ry ⟨i, j, rfl, rfl, p _ _ _ (.refl M) rh (.int _)⟩
    · exact ip_sub pins s σ H _ _ v u Q I rx ry ⟨i, j, rfl, rfl, p _ _ _ (.refl M) rh (.int _)⟩
    · exact p.elim
  · exact p.elim
theorem aug_ne {op : Operator} {x y : D} {S : Sto} : NoExc (augD op x y S) := by
  intro e S' h
  unfold augD at h
  split at h
  · split at h <;> cases h
  · cases h
theorem idxC_ne {x y : D} {S : Sto} : NoExc (idxC x y S) := by
  intro e S' h
  unfold idxC at h
  split at h
  · split at h
    · split at h
      · exact opt_ne _ _ h
      · cases h
    · cases h
  · cases h
theorem ds_aug {i : Nat} {x : Str} {op : Operator} (hN : X.N.Nodup) (hi : X.N[i]? = some x) (hx : Loc X.env.scope x) (hf : X.fn x = true ∨ X.env.scope.names.lookup x = some .local) (ha : PE X a (tE W wx f)) :
    PS X (.AugAssign (.Name x tpos) op a pos) (tSs W wx fun σ S => match σ[i]? with
      | some (some x) => (f σ S).toS σ fun y S => (augD op x y S).toS σ fun z S => .nx (σ.set i (some z)) S
      | _ => .no) :=
  PS.mono (ps_aug hN hi hx ha (ip_D (W := W) op) hf) fun En σ H ⟨M, sg, S, rh, sl, p⟩ => by
    dsimp only at p
    split at p
    · rename_i d hd
      obtain ⟨v, h1, h2⟩ := sl.2 i d hd
      refine ⟨v, h1, M, sg, S, rh, sl, (p.toS (rel := RepV W) sl).imp fun y H1 ⟨M1, e, S1, l1, r1, s1, r2, p1⟩ => ⟨M1, S1, d, e, r1, h2.mono l1, r2, ?_⟩⟩
      refine ((p1.toS (rel := RepV W) s1).noexc aug_ne).imp fun z H2 ⟨M2, e2, S2, l2, r3, s2, r4, p2⟩ => p2 _ _ _ (.refl _) r3 (s2.set r4 i)
    · exact p.elim
theorem plain_aug {ov iv new : Value} {i : Expr} (h : noSlice i = true) : augStore i ov iv new = (do holding [new, ov, iv] (setItem ov iv new); release [new, ov, iv] []; pure .next) := by
  cases i <;> first | rfl | (cases h)
theorem ds_augS {op : Operator} (hK : W.K = X.K) (hu : X.A.units + 1 < cLine) (ho : PE X o (tE W wx f)) (hi : PE X a (tE W wx g)) (he : PE X b (tE W wx h)) (hp : noSlice a = true) :
    PS X (.AugAssign (.Subscript o a tpos) op b pos) (tSs W wx fun σ S => (f σ S).toS σ fun x S => (g σ S).toS σ fun k S => (idxC x k S).toS σ fun y S => (h σ S).toS σ fun z S => (augD op y z S).toS σ fun w S => match setD x k w S with
      | some S' => .nx σ S'
      | none => .no) :=
  PS.mono (ps_augS ho hi (get_D (WE := W0) hK hu) he (ip_D (W := W) op) (set_D (W := W) hu) fun _ _ _ => plain_aug hp) fun En σ H ⟨M, sg, S, rh, sl, p⟩ => by
    refine ⟨M, sg, S, rh, sl, (p.toS (rel := RepV W) sl).imp fun x H1 ⟨M1, d1, S1, l1, r1, s1, q1, p1⟩ => ⟨M1, sg, S1, r1, s1, (p1.toS (rel := RepV W) s1).imp fun k H2 ⟨M2, d2, S2, l2, r2, s2, q2, p2⟩ => ?_⟩⟩
    refine ⟨M2, S2, d1, d2, r2, q1.mono l2, q2, ((p2.toS (rel := RepV W) s2).noexc idxC_ne).imp fun y H3 ⟨M3, d3, S3, l3, r3, s3, q3, p3⟩ => ?_⟩
    refine ⟨M3, sg, S3, r3, s3, (p3.toS (rel := RepV W) s3).imp fun z H4 ⟨M4, d4, S4, l4, r4, s4, q4, p4⟩ => ?_⟩
    refine ⟨M4, S4, d3, d4, r4, q3.mono l4, q4, ((p4.toS (rel := RepV W) s4).noexc aug_ne).imp fun w H5 ⟨M5, d5, S5, l5, r5, s5, q5, p5⟩ => ?_⟩
    split at p5
    · rename_i S' hs
      refine ⟨M5, S5, d1, d2, d5, S', r5, (((q1.mono l2).mono l3).mono l4).mono l5, ((q2.mono l3).mono l4).mono l5, q5, hs, fun M' H' l rh' => p5 M' H' σ l rh' (s5.mono l)⟩
    · exact p5.elim
theorem ds_setF {cl k : Nat} {x : Str} (hcl : Cls X.K (W.ca cl)) (hn : NoAttr X.K (W.ca cl) x) (nd : (W.cf cl).Nodup) (hk : (W.cf cl)[k]? = some x) (hf : (W.cf cl).length ≤ 500) (hnc : swapsWith a (some (.Attribute o x tpos)) pos.line X.env = pure false) (ho : PE X o (tE W wx f)) (ha : PE X a (tE W wx g)) :
    PS X (.Assign [.Attribute o x tpos] a pos) (tSs W wx fun σ S => (g σ S).toS σ fun d S => (f σ S).toS σ fun y S => match setFD cl y k d S with
      | some S' => .nx σ S'
      | none => .no) :=
  PS.mono (ps_fld ho ha hnc) fun En σ H ⟨M, sg, S, rh, sl, p⟩ => by
    refine ⟨M, sg, S, rh, sl, (p.toS (rel := RepV W) sl).imp fun v H1 ⟨M1, d, S1, l1, r1, s1, q1, p1⟩ => ⟨M1, sg, S1, r1, s1, (p1.toS (rel := RepV W) s1).imp fun y H2 ⟨M2, e, S2, l2, r2, s2, q2, p2⟩ => ?_⟩⟩
    split at p2
    · rename_i S' hs
      unfold setFD at hs
      split at hs
      · rename_i n
        obtain ⟨q, rfl, hq⟩ := dict_at r2 q2
        split at hs
        · rename_i c fs hcell
          split at hs
          · cases hs
          · rename_i hc
            have hc : c = cl := Decidable.byContradiction hc
            subst hc
            obtain ⟨hfz, dx, vs, g1, g2, g3⟩ := r2.cel n _ q hcell hq
            refine ⟨q, W.ca c, dx, _, rfl, g1, hcl, hn, ?_, ?_⟩
            · rw [List.length_zip]
              omega
            · split at hs
              · rename_i hlt
                cases hs
                refine p2 M2 _ σ (.refl _) ?_ s2
                rw [zip_put nd hk (by rw [g3.1]; exact hlt)]
                exact r2.set hq hfz ⟨hfz, dx, _, upd_same, by rw [List.length_set]; exact g2, g3.set (q1.mono l2) k⟩
              · split at hs
                · rename_i hlt
                  cases hs
                  refine p2 M2 _ σ (.refl _) ?_ s2
                  have hkl : k = vs.length := by rw [g3.1]; exact hlt
                  rw [zip_app nd (by rw [← hkl]; exact hk)]
                  have := (List.getElem?_eq_some_iff.mp hk).1
                  exact r2.set hq hfz ⟨hfz, dx, _, upd_same, by rw [List.length_append]; simp; omega, g3.concat (q1.mono l2)⟩
                · cases hs
        · cases hs
      · cases hs
    · exact p2.elim
/-! loops -/
theorem ds_while {t : Expr} {body : List Stmt} (hp : PassesOwn (model X.prog X.w) X.A X.env X.xe) (ht : PT X t (tTs W wx ft)) (hb : PSs X body (tSs W wx u)) : PS X (.While t body [] pos) (tSs W wx fun σ S => whileL ft u fuel σ S) :=
  PS.mono (ps_while hp ht hb) fun En σ H ⟨M, sg, S, rh, sl, p⟩ => by
    refine ⟨fun m σ H => ∃ M sg S, RelH W M H S ∧ RelSl W M σ sg ∧ PostS W wx M (whileL ft u m sg S) En, ⟨fuel, M, sg, S, rh, sl, p⟩, ?_⟩
    rintro m σ H ⟨M, sg, S, rh, sl, p⟩
    cases m with
    | zero => exact p.elim
    | succ m =>
      refine ⟨M, sg, S, rh, sl, ?_⟩
      unfold whileL at p
      cases hf : ft sg S with
      | no => rw [hf] at p; exact p.elim
      | exc e S1 =>
        rw [hf] at p
        exact fun M' H' c d l rh' rx => p M' H' σ c d l rh' (sl.mono l) rx
      | ok k S1 =>
        rw [hf] at p
        intro M1 H1 k' l1 rh1 e
        subst e
        cases k' with
        | false =>
          dsimp only at p
          exact iteF (p M1 H1 σ l1 rh1 (sl.mono l1))
        | true =>
          dsimp only at p
          refine iteT ⟨fun σ H => ∃ M sg S, RelH W M H S ∧ RelSl W M σ sg ∧ PostS W wx M (whileL ft u m sg S) En, fun σ' H' q => ⟨m, Nat.lt_succ_self m, q⟩, M1, sg, S1, rh1, sl.mono l1, ?_⟩
          have p := PostS.le p l1
          cases hu : u sg S1 with
          | nx sg2 S2 => rw [hu] at p; exact fun M2 H2 σ2 l2 g1 g2 => ⟨M2, sg2, S2, g1, g2, PostS.le p l2⟩
          | ct sg2 S2 => rw [hu] at p; exact fun M2 H2 σ2 l2 g1 g2 => ⟨M2, sg2, S2, g1, g2, PostS.le p l2⟩
          | bk sg2 S2 => rw [hu] at p; exact p
          | rt d S2 => rw [hu] at p; exact p
          | exc e sg2 S2 => rw [hu] at p; exact p
          | no => rw [hu] at p; exact p
theorem forL_ok {gg : G} {gd : Option (Nat × List D)} {xs : List D} {sg : Sg} {S : Sto} {M : Mp} (p : PostS W wx M (forL gg u gd xs sg S) En) : Itm.ok gd S := by
  cases xs with
  | nil =>
    unfold forL at p
    split at p
    · assumption
    · exact p.elim
  | cons x xs =>
    unfold forL at p
    split at p
    · assumption
    · exact p.elim
theorem ds_for {gg : G} {t it : Expr} {body : List Stmt} (hp : PassesOwn (model X.prog X.w) X.A X.env X.xe) (hc : X.calm = true) (hi : PI X t it (tIs W wx fi)) (hg : PG X t (tgOf X.K gg)) (hb : PSs X body (tSs W wx u)) (hs : ∀ x, foldedSetIterable it X.env x = pure x) :
    PS X (.For t it body [] pos) (tSs W wx fun σ S => (fi σ S).toS σ fun p S => forL gg u p.g p.xs σ S) :=
  PS.mono (ps_for hp hc hi hg hb hs) fun En σ H ⟨M, sg, S, rh, sl, p⟩ => by
    refine ⟨M, sg, S, rh, sl, (p.toS (rel := WalkD W) sl).imp fun J H1 ⟨M1, itm, S1, l1, rh1, s1, wd, p1⟩ => ?_⟩
    obtain ⟨Gp, Y, wk, hG, hY⟩ := wd
    refine for_it wk (fun i σ H => ∃ M2 sg S, M1.le M2 ∧ RelH W M2 H S ∧ RelSl W M2 σ sg ∧ PostS W wx M2 (forL gg u itm.g (itm.xs.drop i) sg S) En) ⟨M1, sg, S1, .refl M1, rh1, s1, p1⟩ ?_ ?_ ?_
    · rintro i σ H hi ⟨M2, sg2, S2, l2, rh2, s2, p2⟩
      exact hG M2 H S2 l2.1 rh2 (forL_ok p2)
    · rintro i x σ H H' hi ⟨M2, sg2, S2, l2, rh2, s2, p2⟩ hy
      have hok := forL_ok p2
      obtain ⟨M3, d, l3, hd, rh3, r3⟩ := hY i H x H' M2 S2 hi l2.1 rh2 hok hy
      have hdrop : itm.xs.drop i = d :: itm.xs.drop (i + 1) := by
        obtain ⟨hlt, e⟩ := List.getElem?_eq_some_iff.mp hd
        rw [List.drop_eq_getElem_cons hlt, e]
      rw [hdrop] at p2
      unfold forL at p2
      rw [if_pos hok] at p2
      split at p2
      · rename_i sg3 hasg
        refine tg_ok gg rh3 r3 (s2.mono l3) hasg fun σ3 s3 _ => ⟨M3, sg3, S2, rh3, s3, ?_⟩
        have p3 := PostS.le p2 l3
        have l13 := l2.trans l3
        cases hu : u sg3 S2 with
        | nx sg4 S4 => rw [hu] at p3; exact fun M4 H4 σ4 l4 g1 g2 => ⟨M4, sg4, S4, l13.trans l4, g1, g2, PostS.le p3 l4⟩
        | ct sg4 S4 => rw [hu] at p3; exact fun M4 H4 σ4 l4 g1 g2 => ⟨M4, sg4, S4, l13.trans l4, g1, g2, PostS.le p3 l4⟩
        | bk sg4 S4 => rw [hu] at p3; exact p3
        | rt d S4 => rw [hu] at p3; exact p3
        | exc e sg4 S4 => rw [hu] at p3; exact p3
        | no => rw [hu] at p3; exact p3
      · exact p2.elim
    · rintro σ H ⟨M2, sg2, S2, l2, rh2, s2, p2⟩
      rw [List.drop_length] at p2
      unfold forL at p2
      rw [if_pos (by split at p2; assumption; exact p2.elim)] at p2
      exact p2 M2 H σ (.refl M2) rh2 s2
end
end Mq
end

section
set_option maxHeartbeats 8000000
/-! Fw7: the checker. -/
namespace Mq
open PySem L2 PySem.Spec PyProof.Rows
/-- the names of the text: defs, constants, built-ins, classes with their __init__, methods, properties -/
structure Nt where
  fs : List (Str × Nat)
  cs : List (Str × D)
  bs : List Str
  kl : List (Str × (Nat × Nat))
  ms : List ((Nat × Str) × Nat)
  ps : List ((Nat × Str) × Nat)
  cf : Nat → List Str
structure Ga where
  nt : Nt
  N : List Str
  sc : Scope
  fn : Str → Bool
def atomEq : D → D → Bool
  | .int i, .int j => decide (i = j)
  | .bl i, .bl j => decide (i = j)
  | .str i, .str j => decide (i = j)
  | .non, .non => true
  | _, _ => false
theorem atomEq_eq {a b : D} (h : atomEq a b = true) : a = b ∧ ∀ W M, ∃ v, RepV W M v a := by
  cases a <;> cases b <;> first
    | (cases h; exact ⟨rfl, fun W M => ⟨_, .non⟩⟩)
    | (have e := of_decide_eq_true h; subst e; first | exact ⟨rfl, fun W M => ⟨_, .int _⟩⟩ | exact ⟨rfl, fun W M => ⟨_, .bl _⟩⟩ | exact ⟨rfl, fun W M => ⟨_, .str _⟩⟩)
    | cases h
/-- a name that may be read -/
def vis (sc : Scope) (x : Str) : Bool := match sc.names.lookup x with
  | some .local => true
  | some .cell => true
  | some .free => true
  | _ => false
def isGl (Γ : Ga) (x : Str) : Bool := decide (Γ.sc.names.lookup x = some .globalImplicit)
def isB (Γ : Ga) (x : Str) : Bool := isGl Γ x && decide (x ∈ Γ.nt.bs)
def noDbg (x : Str) : Bool := !(x == ("__debug__" : Str))
/-- a target's name -/
def stOk (Γ : Ga) (x : Str) : Bool := match Γ.sc.names.lookup x with
  | some .local => true
  | some .cell => Γ.fn x
  | _ => false
def chkG (Γ : Ga) : G → Expr → Bool
  | .name i, .Name x _ => decide (Γ.N[i]? = some x) && stOk Γ x
  | .tup2 a b, .Tuple [x, y] _ _ => chkG Γ a x && chkG Γ b y && noStar [x, y]
  | .tup3 a b c, .Tuple [x, y, z] _ _ => chkG Γ a x && chkG Γ b y && chkG Γ c z && noStar [x, y, z]
  | _, _ => false
def inner (Γ : Ga) (scope : Scope) : Ga := { Γ with sc := relS scope Γ.sc, fn := fun x => scope.names.lookup x == some .cell }
def ownOf (Γ : Ga) (own : List Nat) : List (Str × Nat) := own.map fun i => (Γ.N.getD i Str.empty, i)
def chkC (Γ : Ga) (d : D) : Expr → Bool
  | .Constant (.int i) _ _ => atomEq d (.int i)
  | .Constant (.bool i) _ _ => atomEq d (.bl i)
  | .Constant (.str i) _ _ => atomEq d (.str i)
  | .Constant .none _ _ => atomEq d .non
  | .Name x _ => isGl Γ x && noDbg x && (match Γ.nt.cs.lookup x with | some d' => atomEq d' d | none => false)
  | _ => false
/-- a plain test -/
def plainT : Expr → Bool
  | .UnaryOp .. => false
  | .BoolOp .. => false
  | .IfExp .. => false
  | .Compare .. => false
  | _ => true
theorem plainT_ok {a : Expr} {env : Env} (h : plainT a = true) : ∀ whole, isTrue a env whole = (do let v ← whole; standAt a.pos; holding [v] (truthy v)) := by
  intro whole
  cases a <;> first | rfl | (cases h)
def notSet : Expr → Bool
  | .Set .. => false
  | _ => true
theorem notSet_ok {a : Expr} {env : Env} (h : notSet a = true) : ∀ x, foldedSetIterable a env x = pure x := by
  intro x
  cases a <;> first | rfl | (cases h)
theorem notSet_behind {a : Expr} {o : CmpOp} (h : notSet a = true) : behindInMarks o a = false := by
  cases a <;> first | rfl | (cases h)
theorem notSet_last {a b : Expr} {o o' : CmpOp} (h : notSet b = true) : lastMarks [o, o'] [a, b] = false := notSet_behind (a := b) (o := o') h
/-- types with a name of their own -/
def tyOk : Tn → Bool
  | .nonT => false
  | _ => true
theorem tyOk_ok {t : Tn} (h : tyOk t = true) : bootBuiltins (Str.ofString (tnS t)) = some (.type (tnS t)) ∧ Str.ofString (tnS t) ≠ "__name__" ∧ (Str.ofString (tnS t) == ("__debug__" : Str)) = false := by
  cases t <;> first | exact ⟨by decide +kernel, by decide +kernel, by decide +kernel⟩ | exact Bool.noConfusion h
mutual
def chkE : Nat → Ga → E → Expr → Bool
  | 0, _, _, _ => false
  | n + 1, Γ, .var i, .Name x _ => decide (Γ.N[i]? = some x) && vis Γ.sc x && noDbg x && !(x == ("__classdict__" : Str))
  | n + 1, Γ, .cst d, e => chkC Γ d e
  | n + 1, Γ, .bin o c a b, .BinOp x op y _ => decide (op = o) && chkE n Γ a x && chkE n Γ b y
  | n + 1, Γ, .cmp o a b, .Compare x [op] [y] _ => decide (op = o) && notSet y && chkE n Γ a x && chkE n Γ b y
  | n + 1, Γ, .chain o o' a b c, .Compare x [op, op'] [y, z] _ => decide (op = o) && decide (op' = o') && notSet z && chkE n Γ a x && chkE n Γ b y && chkE n Γ c z
  | n + 1, Γ, .andv a b, .BoolOp .And (x :: y :: rest) pos => chkE n Γ a x && (match rest with | [] => chkE n Γ b y | _ => chkE n Γ b (.BoolOp .And (y :: rest) pos))
  | n + 1, Γ, .orv a b, .BoolOp .Or (x :: y :: rest) pos => chkE n Γ a x && (match rest with | [] => chkE n Γ b y | _ => chkE n Γ b (.BoolOp .Or (y :: rest) pos))
  | n + 1, Γ, .notv a, .UnaryOp .Not x _ => chkE n Γ a x
  | n + 1, Γ, .neg a, .UnaryOp .USub x _ => chkE n Γ a x
  | n + 1, Γ, .ite t a b, .IfExp c x y _ => chkT n Γ t c && chkE n Γ a x && chkE n Γ b y
  | n + 1, Γ, .tup as, .Tuple es _ _ => chkEs n Γ as es
  | n + 1, Γ, .lst c as, .List es _ => chkEs n Γ as es
  | n + 1, Γ, .idx a i, .Subscript x y _ => noSlice y && chkE n Γ a x && chkE n Γ i y
  | n + 1, Γ, .cut c a lo hi, .Subscript x (.Slice l h none _) _ => chkE n Γ a x && chkO n Γ lo l && chkO n Γ hi h
  | n + 1, Γ, .fld cl a k, .Attribute x f _ => plainBase x && decide ((Γ.nt.cf cl)[k]? = some f) && chkE n Γ a x
  | n + 1, Γ, .prop i cl a, .Attribute x f _ => plainBase x && decide (Γ.nt.ps.lookup (cl, f) = some i) && chkE n Γ a x
  | n + 1, Γ, .call i as, .Call (.Name x _) es [] _ => isGl Γ x && noDbg x && decide (Γ.nt.fs.lookup x = some i) && chkEs n Γ as es
  | n + 1, Γ, .mk i cl as, .Call (.Name x _) es [] _ => isGl Γ x && noDbg x && decide (Γ.nt.kl.lookup x = some (cl, i)) && chkEs n Γ as es
  | n + 1, Γ, .om i cl o as, .Call (.Attribute x m ap) es [] p => decide (Γ.nt.ms.lookup (cl, m) = some i) && decide (m ∉ Γ.nt.cf cl) && chkE n Γ o x && chkEs n Γ as es && plainBase x && (ap.endLine == p.line) && decide (es.length < 20)
  | n + 1, Γ, .bi b c as, .Call (.Name x _) es [] _ => decide (x = biName b) && isB Γ x && chkEs n Γ as es && !es.isEmpty
  | n + 1, Γ, .bm b o as, .Call (.Attribute x m ap) es [] p => decide (m = bmName b) && plainBase x && (ap.endLine == p.line) && decide (es.length < 20) && chkE n Γ o x && chkEs n Γ as es
  | n + 1, Γ, .comp c g own it t e, .ListComp elt [⟨tg, iter, ifs, 0⟩] scope _ => blkC Γ.N Γ.sc scope (ownOf Γ own) && chkIt n Γ it tg iter && notSet iter && chkG (inner Γ scope) g tg && g.slots.all (fun i => own.contains i) &&
      (match t, ifs with | .tyes, [] => true | t, [c] => chkT n (inner Γ scope) t c | _, _ => false) && chkE n (inner Γ scope) e elt
  | n + 1, Γ, .frz k a, e => chkE n Γ a e
  | n + 1, Γ, .dict0 t, .Dict [] [] _ => true
  | n + 1, Γ, .isi t a, .Call (.Name x _) [e, .Name y _] [] _ => decide (x = "isinstance") && isB Γ x && isB Γ y && decide (y = Str.ofString (tnS t)) && tyOk t && noStar [e] && chkE n Γ a e
  | n + 1, Γ, .rev c a, .Subscript e (.Slice none none (some (.UnaryOp .USub (.Constant (.int i) _ _) _)) _) _ => decide (i = 1) && chkE n Γ a e
  | n + 1, Γ, .lrng c a, .Call (.Name x _) [.Call (.Name y _) [e] [] _] [] _ => decide (x = "list") && decide (y = "range") && isB Γ x && isB Γ y && noStar [e] && chkE n Γ a e
  | _, _, _, _ => false
def chkO : Nat → Ga → O → Option Expr → Bool
  | _, _, .none, none => true
  | n + 1, Γ, .some a, some x => chkE n Γ a x
  | _, _, _, _ => false
def chkT : Nat → Ga → Te → Expr → Bool
  | 0, _, _, _ => false
  | n + 1, Γ, .tr a, x => plainT x && chkE n Γ a x
  | n + 1, Γ, .tb a, x => plainT x && chkE n Γ a x
  | n + 1, Γ, .tcmp o a b, .Compare x [op] [y] _ => decide (op = o) && notSet y && chkE n Γ a x && chkE n Γ b y
  | n + 1, Γ, .tchain o o' a b c, .Compare x [op, op'] [y, z] _ => decide (op = o) && decide (op' = o') && notSet z && chkE n Γ a x && chkE n Γ b y && chkE n Γ c z
  | n + 1, Γ, .tand a b, .BoolOp .And (x :: y :: rest) pos => chkT n Γ a x && (match rest with | [] => chkT n Γ b y | _ => chkT n Γ b (.BoolOp .And (y :: rest) pos))
  | n + 1, Γ, .tor a b, .BoolOp .Or (x :: y :: rest) pos => chkT n Γ a x && (match rest with | [] => chkT n Γ b y | _ => chkT n Γ b (.BoolOp .Or (y :: rest) pos))
  | n + 1, Γ, .tnot a, .UnaryOp .Not x _ => chkT n Γ a x
  | _, _, _, _ => false
def chkEs : Nat → Ga → Es → List Expr → Bool
  | _, _, .nil, [] => true
  | n + 1, Γ, .cons a as, x :: xs => chkE n Γ a x && noStar (x :: xs) && chkEs n Γ as xs
  | _, _, _, _ => false
def chkIt : Nat → Ga → It → Expr → Expr → Bool
  | n + 1, Γ, .seq a, _, x => chkE n Γ a x
  | n + 1, Γ, .rng1 a, _, .Call (.Name f _) [x] [] _ => decide (f = "range") && isB Γ f && noStar [x] && chkE n Γ a x
  | n + 1, Γ, .rng2 a b, _, .Call (.Name f _) [x, y] [] _ => decide (f = "range") && isB Γ f && noStar [x, y] && chkE n Γ a x && chkE n Γ b y
  | n + 1, Γ, .rng3 a b c, _, .Call (.Name f _) [x, y, z] [] _ => decide (f = "range") && isB Γ f && noStar [x, y, z] && chkE n Γ a x && chkE n Γ b y && chkE n Γ c z
  | n + 1, Γ, .enum a, .Tuple _ _ _, .Call (.Name f _) [x] [] _ => decide (f = "enumerate") && isB Γ f && noStar [x] && chkE n Γ a x
  | n + 1, Γ, .zip a b, .Tuple _ _ _, .Call (.Name f _) [x, y] [] _ => decide (f = "zip") && isB Γ f && noStar [x, y] && chkE n Γ a x && chkE n Γ b y
  | _, _, _, _, _ => false
end
end Mq
end

section
set_option maxHeartbeats 8000000
/-! Fw8: what is checked means its run. -/
namespace Mq
open PySem L2 PySem.Spec PyProof.Rows
structure Facts (nt : Nt) (T : FT) (lv : Nat) (P : Program) (w : World) (K : PySem.W.Frag) (mg : Str → Option Value) (base : Heap) (W : Wd) : Prop where
  hK : W.K = K
  cf : W.cf = nt.cf
  nd : ∀ c, (nt.cf c).Nodup
  few : ∀ c, (nt.cf c).length ≤ 500
  fn : ∀ x i, nt.fs.lookup x = some i → ∃ fa g dd, mg x = some (.ref fa) ∧ PySem.W.keepIn K (.ref fa) = true ∧ FnHs P w K mg base W lv g dd fa ∧ T i = fun ds S => g (ds ++ dd) S
  cs : ∀ x d, nt.cs.lookup x = some d → ∃ u v, mg x = some u ∧ RelV v u ∧ ∀ M, RepV W M v d
  bs : ∀ x ∈ nt.bs, mg x = none
  kl : ∀ x c i, nt.kl.lookup x = some (c, i) → ∃ fa g dd j, mg x = some (.ref (W.ca c)) ∧ Mk K (W.ca c) fa ∧ FnHs P w K mg base W j g dd fa ∧ j + 1 ≤ lv ∧ T i = fun ds S => g (ds ++ dd) S
  ms : ∀ c m i, nt.ms.lookup (c, m) = some i → ∃ fa g dd, Cls K (W.ca c) ∧ Meth K (W.ca c) m fa ∧ FnHs P w K mg base W lv g dd fa ∧ T i = fun ds S => g (ds ++ dd) S
  ps : ∀ c m i, nt.ps.lookup (c, m) = some i → ∃ pa ga j, Cls K (W.ca c) ∧ PropOf K (W.ca c) m pa ga ∧ FnHs P w K mg base W j (T i) [] ga ∧ j + 1 ≤ lv
  fld : ∀ (c k : Nat) (f : Str), (nt.cf c)[k]? = some f → Cls K (W.ca c) ∧ NoAttr K (W.ca c) f
structure Good (Γ : Ga) (T : FT) (W : Wd) (lv : Nat) (wx : WX) (X : Cx) : Prop where
  N : X.N = Γ.N
  nd : Γ.N.Nodup
  sc : X.env.scope = Γ.sc
  fnq : X.fn = Γ.fn
  calm : X.calm = true
  gd : X.A.guards = some []
  room : Room lv X.A
  tk : Takes X wx
  fc : Facts Γ.nt T lv X.prog X.w X.K X.mg X.base W
section
variable {Γ : Ga} {T : FT} {W : Wd} {lv : Nat} {wx : WX} {X : Cx}
theorem Good.u (G : Good Γ T W lv wx X) : X.A.units + 200 < cLine := by have := G.room.un; omega
theorem Good.vis (G : Good Γ T W lv wx X) {x : Str} (h : vis Γ.sc x = true) : Vis X.env.scope x := by
  unfold Mq.vis at h
  unfold Vis
  rw [G.sc]
  split at h
  · exact .inl (by assumption)
  · exact .inr (.inl (by assumption))
  · exact .inr (.inr (by assumption))
  · cases h
theorem Good.gl (G : Good Γ T W lv wx X) {x : Str} (h : isGl Γ x = true) : Gl X x := by
  unfold Gl Env.kindOf
  rw [G.sc]
  exact of_decide_eq_true h
theorem Good.bl (G : Good Γ T W lv wx X) {x : Str} (h : isB Γ x = true) : Gl X x ∧ X.mg x = none := by
  unfold isB at h
  rw [Bool.and_eq_true] at h
  exact ⟨G.gl h.1, G.fc.bs x (of_decide_eq_true h.2)⟩
theorem noDbg_ok {x : Str} (h : noDbg x = true) : (x == ("__debug__" : Str)) = false := by
  unfold noDbg at h
  simpa using h
theorem Good.st (G : Good Γ T W lv wx X) {x : Str} (h : stOk Γ x = true) : L2.Loc X.env.scope x ∧ (X.fn x = true ∨ X.env.scope.names.lookup x = some .local) := by
  unfold stOk at h
  unfold L2.Loc
  rw [G.sc, G.fnq]
  split at h
  · exact ⟨.inl (by assumption), .inr (by assumption)⟩
  · exact ⟨.inr (by assumption), .inl h⟩
  · cases h
theorem Good.blk (G : Good Γ T W lv wx X) {s : Shared} {H : Hp} {scope : Scope} {C : Addr} {cl : List (Str × Addr)} {fp : List Addr} : Good (inner Γ scope) T W lv wF (X.blk s H scope (compEnvC scope cl C X.env) fp) where
  N := G.N
  nd := G.nd
  sc := by
    show relS scope X.env.scope = relS scope Γ.sc
    rw [G.sc]
  fnq := rfl
  calm := G.calm
  gd := G.gd
  room := G.room
  tk := takes0
  fc := G.fc
theorem Good.pg (Gd : Good Γ T W lv wx X) : ∀ (g : Mq.G) (e : Expr), chkG Γ g e = true → PG X e (tgOf X.K g)
  | .name i, .Name x _, h => by
    have h : (decide (Γ.N[i]? = some x) && stOk Γ x) = true := h
    rw [Bool.and_eq_true] at h
    obtain ⟨h1, h2⟩ := Gd.st h.2
    exact pg_name (by rw [Gd.N]; exact Gd.nd) (by rw [Gd.N]; exact of_decide_eq_true h.1) h1 h2
  | .tup2 a b, .Tuple [x, y] _ _, h => by
    have h : (chkG Γ a x && chkG Γ b y && noStar [x, y]) = true := h
    simp only [Bool.and_eq_true] at h
    obtain ⟨e1, s1⟩ := assign_each (env := X.env) h.2
    obtain ⟨e2, s2⟩ := assign_each (env := X.env) s1
    exact pg_tup (n := 2) Gd.calm (pgs_cons (Good.pg Gd a x h.1.1) (pgs_cons (Good.pg Gd b y h.1.2) pgs_nil (by rw [e2]; rfl)) (by rw [e1]; rfl)) (by rw [e1, e2]; rfl) (by rw [e1, e2]; rfl)
  | .tup3 a b c, .Tuple [x, y, z] _ _, h => by
    have h : (chkG Γ a x && chkG Γ b y && chkG Γ c z && noStar [x, y, z]) = true := h
    simp only [Bool.and_eq_true] at h
    obtain ⟨e1, s1⟩ := assign_each (env := X.env) h.2
    obtain ⟨e2, s2⟩ := assign_each (env := X.env) s1
    obtain ⟨e3, s3⟩ := assign_each (env := X.env) s2
    exact pg_tup (n := 3) Gd.calm (pgs_cons (Good.pg Gd a x h.1.1.1) (pgs_cons (Good.pg Gd b y h.1.1.2) (pgs_cons (Good.pg Gd c z h.1.2) pgs_nil (by rw [e3]; rfl)) (by rw [e2]; rfl)) (by rw [e1]; rfl)) (by rw [e1, e2, e3]; rfl) (by rw [e1, e2, e3]; rfl)
theorem de_const (G : Good Γ T W lv wx X) {d : D} {e : Expr} (h : chkC Γ d e = true) : PE X e (tE W wx fun _ S => .ok d S) := by
  unfold chkC at h
  split at h
  · obtain ⟨rfl, _⟩ := atomEq_eq h; exact de_c pe_int fun M => .int _
  · obtain ⟨rfl, _⟩ := atomEq_eq h; exact de_c pe_bl fun M => .bl _
  · obtain ⟨rfl, _⟩ := atomEq_eq h; exact de_c pe_str fun M => .str _
  · obtain ⟨rfl, _⟩ := atomEq_eq h; exact de_c pe_non fun M => .non
  · simp only [Bool.and_eq_true] at h
    split at h
    · rename_i d' hd
      obtain ⟨rfl, _⟩ := atomEq_eq h.2
      obtain ⟨u, v, h1, h2, h3⟩ := G.fc.cs _ _ hd
      exact de_c (pe_glob (G.gl h.1.1) h1 h2 (noDbg_ok h.1.2)) h3
    · exact Bool.noConfusion h.2
  · exact Bool.noConfusion h
/-- a test, whatever is its whole where it is an and, an or -/
def BoolE : Expr → Prop
  | .BoolOp .. => True
  | _ => False
structure Snd (T : FT) (W : Wd) (lv n : Nat) : Prop where
  hE : ∀ {Γ : Ga} {wx : WX} {X : Cx} {ir : E} {e : Expr}, Good Γ T W lv wx X → chkE n Γ ir e = true → PE X e (tE W wx (semE T ir))
  hO : ∀ {Γ : Ga} {wx : WX} {X : Cx} {ir : O} {e : Option Expr}, Good Γ T W lv wx X → chkO n Γ ir e = true → PO X e (tOs W wx (semO T ir))
  hT : ∀ {Γ : Ga} {wx : WX} {X : Cx} {ir : Te} {e : Expr}, Good Γ T W lv wx X → chkT n Γ ir e = true → PT X e (tTs W wx (semT T ir)) ∧ (BoolE e → PW X e (tTs W wx (semT T ir)))
  hEs : ∀ {Γ : Ga} {wx : WX} {X : Cx} {ir : Es} {e : List Expr}, Good Γ T W lv wx X → chkEs n Γ ir e = true → PA X e (tAs W wx (semEs T ir)) ∧ noStar e = true ∧ (e = [] → semEs T ir = fun _ S => .ok [] S)
  hIt : ∀ {Γ : Ga} {wx : WX} {X : Cx} {ir : It} {tg e : Expr}, Good Γ T W lv wx X → chkIt n Γ ir tg e = true → PI X tg e (tIs W wx (semIt T ir))
theorem meth_tree {o : Expr} {es : List Expr} {m : Str} {apos pos : Pos} {env : Env} (hb : plainBase o = true) (hs : noStar es = true) (hl : (apos.endLine == pos.line) = true) (hf : es.length < 20) :
    eval (.Call (.Attribute o m apos) es [] pos) env = (do
      let ov ← eval o env
      standAt apos.atName
      let (f, first) ← holding [ov] (getMethod ov m (do return (← importBound o env).getD true))
      callWith pos f first (backTo pos (starEach es env)) (backToKw pos (keywordEach [] env))) := by
  have hform : methodCallForm (es.length + ([] : List Keyword).length) (backTo pos (starEach es env)) (backToKw pos (keywordEach [] env)) = true := by
    unfold methodCallForm
    rw [noStar_all hs]
    simp [backToKw, keywordEach]
    omega
  rw [arm_eval_Call, base_ok hb]
  unfold methodCall
  rw [hform]
  unfold methodCallPos calleeOf
  simp only [hl, Bool.not_true, Bool.false_or, if_true]
  rfl
theorem di_rng3 {tg a b c : Expr} {p pos : Pos} {f g h : Sg → Sto → R D} (gl : Gl X "range") (hm : X.mg "range" = none) (hst : noStar [a, b, c] = true) (ha : PE X a (tE W wx f)) (hb : PE X b (tE W wx g)) (hc : PE X c (tE W wx h)) :
    PI X tg (.Call (.Name "range" p) [a, b, c] [] pos) (tIs W wx fun σ S => (f σ S).bind fun x S => (g σ S).bind fun y S => (h σ S).bind fun z S => match x, y, z with
    | .int i, .int j, .int k => if rngBig i ∧ rngBig j ∧ k = -1 then .ok ⟨rngC i (-1) (i - j).toNat, none⟩ S else .no
    | _, _, _ => .no) := by
  obtain ⟨h1, h2⟩ := star_cons (env := X.env) hst
  obtain ⟨h3, h4⟩ := star_cons (env := X.env) h2
  obtain ⟨h5, _⟩ := star_cons (env := X.env) h4
  refine PI.mono (pi_range3 gl hm (pa_cons ha (pa_cons hb (pa_cons hc pa_nil h5) h3) h1) h1 (by rw [h3, h5]; rfl)) fun σ H Rr q => ?_
  obtain ⟨M, sg, S, rh, sl, p⟩ := q
  refine ⟨M, sg, S, rh, sl, (p.bind (rel := RepV W)).imp fun v H1 ⟨M1, d1, S1, l1, r1, rv1, p1⟩ => ⟨M1, sg, S1, r1, sl.sub l1.1, (p1.bind (rel := RepV W)).imp fun u H2 ⟨M2, d2, S2, l2, r2, rv2, p2⟩ => ⟨M2, sg, S2, r2, (sl.sub l1.1).sub l2.1, (p2.bind (rel := RepV W)).imp fun z H3 ⟨M3, d3, S3, l3, r3, rv3, p3⟩ => ?_⟩⟩⟩
  split at p3
  · split at p3
    · rename_i hb
      obtain ⟨b1, b2, rfl⟩ := hb
      cases int_view rv1
      cases int_view rv2
      cases int_view rv3
      refine ⟨_, _, -1, _, rfl, RgC.neg b1.1 b1.2 b2.1 b2.2, p3 _ _ _ (.refl M3) r3 ⟨fun _ => True, _, by show Walk _ (rngC _ _ _).length _ _; rw [rngC_len]; exact walk_rangeC, fun _ _ _ _ _ _ => trivial, fun k H x H' M' S hi hs rh ho hy => ?_⟩⟩
      obtain ⟨rfl, rfl⟩ := hy
      exact ⟨M', _, .refl M', rngC_get (Nat.lt_of_lt_of_eq hi rngC_len), rh, .int _⟩
    · exact p3.elim
  · exact p3.elim
theorem sndE {n : Nat} (ih : Snd T W lv n) (Gd : Good Γ T W lv wx X) {ir : E} {e : Expr} (h : chkE (n + 1) Γ ir e = true) : PE X e (tE W wx (semE T ir)) := by
  unfold chkE at h
  split at h
  all_goals first | exact Bool.noConfusion h | (rename_i hq; cases hq)
  all_goals try simp only [Bool.and_eq_true, decide_eq_true_eq, Bool.not_eq_true'] at h
  case h_2 =>
    rename_i i x p
    obtain ⟨⟨⟨h1, h2⟩, h3⟩, h4⟩ := h
    exact de_var (by rw [Gd.N]; exact h1) (Gd.vis h2) (noDbg_ok h3) h4
  case h_3 => exact de_const Gd h
  case h_4 =>
    obtain ⟨⟨rfl, h2⟩, h3⟩ := h
    exact de_bin Gd.fc.hK (ih.hE Gd h2) (ih.hE Gd h3)
  case h_5 =>
    obtain ⟨⟨⟨rfl, h1⟩, h2⟩, h3⟩ := h
    exact de_cmp Gd.fc.hK (by have := Gd.u; omega) (notSet_behind h1) (ih.hE Gd h2) (ih.hE Gd h3)
  case h_6 =>
    obtain ⟨⟨⟨⟨⟨rfl, rfl⟩, h1⟩, h2⟩, h3⟩, h4⟩ := h
    exact de_chain Gd.fc.hK (by have := Gd.u; omega) (notSet_last h1) (ih.hE Gd h2) (ih.hE Gd h3) (ih.hE Gd h4)
  case h_7 =>
    rename_i rest p
    obtain ⟨h1, h2⟩ := h
    split at h2
    · exact de_and (ih.hE Gd h1) (pe_one (ih.hE Gd h2))
    · exact de_and (ih.hE Gd h1) (ih.hE Gd h2)
  case h_8 =>
    rename_i rest p
    obtain ⟨h1, h2⟩ := h
    split at h2
    · exact de_or (ih.hE Gd h1) (pe_one (ih.hE Gd h2))
    · exact de_or (ih.hE Gd h1) (ih.hE Gd h2)
  case h_9 => exact de_not (ih.hE Gd h)
  case h_10 => exact de_neg (ih.hE Gd h)
  case h_11 =>
    obtain ⟨⟨h1, h2⟩, h3⟩ := h
    exact de_ite (ih.hT Gd h1).1 (ih.hE Gd h2) (ih.hE Gd h3)
  case h_12 => exact de_tup (ih.hEs Gd h).1
  case h_13 => exact de_lst (ih.hEs Gd h).1
  case h_14 =>
    obtain ⟨⟨h1, h2⟩, h3⟩ := h
    exact de_idx Gd.fc.hK (by have := Gd.u; omega) (plainIx_of h1) (ih.hE Gd h2) (ih.hE Gd h3)
  case h_15 =>
    obtain ⟨⟨h1, h2⟩, h3⟩ := h
    exact de_cut Gd.fc.hK (ih.hE Gd h1) (ih.hO Gd h2) (ih.hO Gd h3)
  case h_16 =>
    obtain ⟨⟨h1, h2⟩, h3⟩ := h
    obtain ⟨c1, c2⟩ := Gd.fc.fld _ _ _ h2
    exact de_fld c1 c2 (by rw [Gd.fc.cf]; exact Gd.fc.nd _) (by rw [Gd.fc.cf]; exact h2) h1 (ih.hE Gd h3)
  case h_17 =>
    obtain ⟨⟨h1, h2⟩, h3⟩ := h
    obtain ⟨pa, ga, j, c1, c2, c3, c4⟩ := Gd.fc.ps _ _ _ h2
    exact de_prop c3 c4 c1 c2 Gd.room Gd.gd h1 (ih.hE Gd h3)
  case h_18 =>
    obtain ⟨⟨⟨h1, h2⟩, h3⟩, h4⟩ := h
    obtain ⟨fa, g, dd, c1, c2, c3, c4⟩ := Gd.fc.fn _ _ h3
    obtain ⟨a1, a2, a3⟩ := ih.hEs Gd h4
    show PE X _ (tE W wx fun σ S => (semEs T _ σ S).bind fun xs S => T _ xs S)
    rw [c4]
    exact de_call (T := fun _ => g) (i := 0) c3 Gd.room Gd.gd (Gd.gl h1) c1 c2 Gd.tk a1 a2 (noDbg_ok h2) a3
  case h_19 =>
    obtain ⟨⟨⟨h1, h2⟩, h3⟩, h4⟩ := h
    obtain ⟨fa, g, dd, j, c1, c2, c3, c5, c4⟩ := Gd.fc.kl _ _ _ h3
    obtain ⟨a1, a2, a3⟩ := ih.hEs Gd h4
    show PE X _ (tE W wx fun σ S => (semEs T _ σ S).bind fun xs S => (T _ (.cell S.length :: xs) (S ++ [.ins _ []])).bind fun r S' => match r with
      | .non => .ok (.cell S.length) S'
      | _ => .no)
    rw [c4]
    exact de_mk (T := fun _ => g) (i := 0) c3 c5 c2 Gd.room Gd.gd (Gd.gl h1) c1 Gd.tk a1 a2 (noDbg_ok h2) a3
  case h_20 =>
    obtain ⟨⟨⟨⟨⟨⟨h1, h2⟩, h3⟩, h4⟩, h5⟩, h6⟩, h7⟩ := h
    obtain ⟨fa, g, dd, c1, c2, c3, c4⟩ := Gd.fc.ms _ _ _ h1
    obtain ⟨a1, a2, a3⟩ := ih.hEs Gd h4
    show PE X _ (tE W wx fun σ S => (semE T _ σ S).bind fun x S => match insOf x S with
      | some (c, _) => if c = _ then (semEs T _ σ S).bind fun xs S => T _ (x :: xs) S else .no
      | none => .no)
    rw [c4]
    exact de_om (T := fun _ => g) (i := 0) c3 c1 c2 (by rw [Gd.fc.cf]; exact h2) Gd.room Gd.gd Gd.tk (ih.hE Gd h3) a1 a2 a3 (meth_tree h5 a2 h6 h7)
  case h_21 =>
    rename_i b c as x p es pos
    obtain ⟨⟨⟨rfl, h2⟩, h3⟩, h4⟩ := h
    obtain ⟨a1, a2, a3⟩ := ih.hEs Gd h3
    obtain ⟨b1, b2⟩ := Gd.bl h2
    cases es with
    | nil => exact Bool.noConfusion h4
    | cons e es => exact de_bi Gd.fc.hK Gd.calm Gd.u Gd.gd b1 b2 a1 a2
  case h_22 =>
    obtain ⟨⟨⟨⟨⟨rfl, h2⟩, h3⟩, h4⟩, h5⟩, h6⟩ := h
    obtain ⟨a1, a2, a3⟩ := ih.hEs Gd h6
    exact de_bm Gd.fc.hK Gd.u (ih.hE Gd h5) a1 a2 h2 h3 h4 a3
  case h_23 =>
    rename_i Γ _ _ _ _ c g own it t ir elt tg iter ifs scope pos
    obtain ⟨⟨⟨⟨⟨⟨h1, h2⟩, h3⟩, h4⟩, h5⟩, h6⟩, h7⟩ := h
    have ho : (ownOf Γ own).map (·.2) = own := by unfold ownOf; rw [List.map_map]; exact List.map_id _
    have ht : ∀ (s : Shared) (H : Hp) (C : Addr) (cl : List (Str × Addr)) (fp : List Addr), PTs (X.blk s H scope (compEnvC scope cl C X.env) fp) ifs (tTs W wF (semT T t)) := fun s H C cl fp => by
      split at h6
      · exact ⟨fun pins s σ H Q I ⟨M, sg, S, rh, sl, p⟩ => pts_nil.run pins s σ H Q I (p _ _ _ (.refl M) rh rfl)⟩
      · exact pts_one (ih.hT Gd.blk h6).1
      · exact Bool.noConfusion h6
    have key := pe_lc (pos := pos) (g := tgOf X.K g) Gd.calm (by rw [Gd.N]; exact Gd.nd) (ih.hIt Gd h2) (blkOk_by (by rw [Gd.N, Gd.sc]; exact h1)) (fun s H C cl fp => Gd.blk.pg g tg h4) ht (fun s H C cl fp => ih.hE Gd.blk h7) (notSet_ok h3)
    rw [ho] at key
    exact PE.mono key fun σ H Q q => comp_read (fun i hi => List.contains_iff_mem.mp (List.all_eq_true.mp h5 i hi)) q
  case h_24 => exact de_frz (ih.hE Gd h)
  case h_25 => exact de_dict0
  case h_26 =>
    obtain ⟨⟨⟨⟨⟨⟨rfl, h2⟩, h3⟩, rfl⟩, h4⟩, h5⟩, h6⟩ := h
    obtain ⟨t1, t2, t3⟩ := tyOk_ok h4
    exact de_isi Gd.fc.hK (Gd.bl h2).1 (Gd.bl h2).2 (Gd.bl h3).1 (Gd.bl h3).2 t1 t2 t3 h5 (ih.hE Gd h6)
  case h_27 =>
    obtain ⟨rfl, h2⟩ := h
    exact de_rev Gd.fc.hK (ih.hE Gd h2)
  case h_28 =>
    obtain ⟨⟨⟨⟨⟨rfl, rfl⟩, h2⟩, h3⟩, h4⟩, h5⟩ := h
    exact de_lrng Gd.calm (Gd.bl h2).1 (Gd.bl h2).2 (Gd.bl h3).1 (Gd.bl h3).2 h4 (ih.hE Gd h5)
end
end Mq
end

section
set_option maxHeartbeats 8000000
/-! Fw8b: tests, argument lists, what is walked; all depths. -/
namespace Mq
open PySem L2 PySem.Spec PyProof.Rows
section
variable {Γ : Ga} {T : FT} {W : Wd} {lv : Nat} {wx : WX} {X : Cx}
theorem sndO {n : Nat} (ih : ∀ {ir : E} {e : Expr}, chkE n Γ ir e = true → PE X e (tE W wx (semE T ir))) {m : Nat} (hm : m = n + 1) {ir : O} {e : Option Expr} (h : chkO m Γ ir e = true) : PO X e (tOs W wx (semO T ir)) := by
  subst hm
  unfold chkO at h
  split at h
  · exact do_none
  · rename_i hq
    cases hq
    exact do_some (ih h)
  · exact Bool.noConfusion h
theorem sndO0 {ir : O} {e : Option Expr} (h : chkO 0 Γ ir e = true) : PO X e (tOs W wx (semO T ir)) := by
  unfold chkO at h
  split at h
  · exact do_none
  · rename_i hq
    cases hq
  · exact Bool.noConfusion h
theorem sndT {n : Nat} (ih : Snd T W lv n) (Gd : Good Γ T W lv wx X) {ir : Te} {e : Expr} (h : chkT (n + 1) Γ ir e = true) : PT X e (tTs W wx (semT T ir)) ∧ (BoolE e → PW X e (tTs W wx (semT T ir))) := by
  unfold chkT at h
  split at h
  all_goals first | exact Bool.noConfusion h | (rename_i hq; cases hq)
  all_goals try simp only [Bool.and_eq_true, decide_eq_true_eq, Bool.not_eq_true'] at h
  case h_2 =>
    refine ⟨dt_tr Gd.fc.hK (ih.hE Gd h.2) (plainT_ok h.1), fun hb => ?_⟩
    unfold BoolE at hb
    split at hb
    · exact Bool.noConfusion h.1
    · exact hb.elim
  case h_3 =>
    refine ⟨dt_tb (ih.hE Gd h.2) (plainT_ok h.1), fun hb => ?_⟩
    unfold BoolE at hb
    split at hb
    · exact Bool.noConfusion h.1
    · exact hb.elim
  case h_4 =>
    obtain ⟨⟨⟨rfl, h1⟩, h2⟩, h3⟩ := h
    exact ⟨dt_cmp Gd.fc.hK (by have := Gd.u; omega) (notSet_behind h1) (ih.hE Gd h2) (ih.hE Gd h3), fun hb => hb.elim⟩
  case h_5 =>
    obtain ⟨⟨⟨⟨⟨rfl, rfl⟩, h1⟩, h2⟩, h3⟩, h4⟩ := h
    exact ⟨dt_chain Gd.fc.hK (by have := Gd.u; omega) (notSet_last h1) (ih.hE Gd h2) (ih.hE Gd h3) (ih.hE Gd h4), fun hb => hb.elim⟩
  case h_6 =>
    obtain ⟨h1, h2⟩ := h
    split at h2
    · refine ⟨(dt_and (ih.hT Gd h1).1 (pw_and1 (ih.hT Gd h2).1)).pt, fun _ => dt_and (ih.hT Gd h1).1 (pw_and1 (ih.hT Gd h2).1)⟩
    · exact ⟨(dt_and (ih.hT Gd h1).1 ((ih.hT Gd h2).2 trivial)).pt, fun _ => dt_and (ih.hT Gd h1).1 ((ih.hT Gd h2).2 trivial)⟩
  case h_7 =>
    obtain ⟨h1, h2⟩ := h
    split at h2
    · refine ⟨(dt_or (ih.hT Gd h1).1 (pw_or1 (ih.hT Gd h2).1)).pt, fun _ => dt_or (ih.hT Gd h1).1 (pw_or1 (ih.hT Gd h2).1)⟩
    · exact ⟨(dt_or (ih.hT Gd h1).1 ((ih.hT Gd h2).2 trivial)).pt, fun _ => dt_or (ih.hT Gd h1).1 ((ih.hT Gd h2).2 trivial)⟩
  case h_8 => exact ⟨dt_not (ih.hT Gd h).1, fun hb => hb.elim⟩
theorem sndEs0 {ir : Es} {es : List Expr} (h : chkEs 0 Γ ir es = true) : PA X es (tAs W wx (semEs T ir)) ∧ noStar es = true ∧ (es = [] → semEs T ir = fun _ S => .ok [] S) := by
  unfold chkEs at h
  split at h
  · exact ⟨da_nil, rfl, fun _ => rfl⟩
  · rename_i hq
    cases hq
  · exact Bool.noConfusion h
theorem sndEs {n : Nat} (ih : Snd T W lv n) (Gd : Good Γ T W lv wx X) {ir : Es} {es : List Expr} (h : chkEs (n + 1) Γ ir es = true) : PA X es (tAs W wx (semEs T ir)) ∧ noStar es = true ∧ (es = [] → semEs T ir = fun _ S => .ok [] S) := by
  unfold chkEs at h
  split at h
  · exact ⟨da_nil, rfl, fun _ => rfl⟩
  · rename_i hq
    cases hq
    simp only [Bool.and_eq_true] at h
    obtain ⟨⟨h1, h2⟩, h3⟩ := h
    exact ⟨da_cons (ih.hE Gd h1) (ih.hEs Gd h3).1 h2, h2, fun z => nomatch z⟩
  · exact Bool.noConfusion h
theorem sndIt {n : Nat} (ih : Snd T W lv n) (Gd : Good Γ T W lv wx X) {ir : Mq.It} {tg e : Expr} (h : chkIt (n + 1) Γ ir tg e = true) : PI X tg e (tIs W wx (semIt T ir)) := by
  unfold chkIt at h
  split at h
  all_goals first | exact Bool.noConfusion h | (rename_i hq; cases hq)
  all_goals try simp only [Bool.and_eq_true, decide_eq_true_eq, Bool.not_eq_true'] at h
  case h_1 => exact di_seq Gd.fc.hK (ih.hE Gd h)
  case h_2 =>
    obtain ⟨⟨⟨rfl, h2⟩, h3⟩, h4⟩ := h
    exact di_rng1 (Gd.bl h2).1 (Gd.bl h2).2 h3 (ih.hE Gd h4)
  case h_3 =>
    obtain ⟨⟨⟨⟨rfl, h2⟩, h3⟩, h4⟩, h5⟩ := h
    exact di_rng2 (Gd.bl h2).1 (Gd.bl h2).2 h3 (ih.hE Gd h4) (ih.hE Gd h5)
  case h_4 =>
    obtain ⟨⟨⟨⟨⟨rfl, h2⟩, h3⟩, h4⟩, h5⟩, h6⟩ := h
    exact di_rng3 (Gd.bl h2).1 (Gd.bl h2).2 h3 (ih.hE Gd h4) (ih.hE Gd h5) (ih.hE Gd h6)
  case h_5 =>
    obtain ⟨⟨⟨rfl, h2⟩, h3⟩, h4⟩ := h
    exact di_enum Gd.fc.hK (Gd.bl h2).1 (Gd.bl h2).2 h3 (ih.hE Gd h4)
  case h_6 =>
    obtain ⟨⟨⟨⟨rfl, h2⟩, h3⟩, h4⟩, h5⟩ := h
    exact di_zip Gd.fc.hK (Gd.bl h2).1 (Gd.bl h2).2 h3 (ih.hE Gd h4) (ih.hE Gd h5)
end
theorem snd {T : FT} {W : Wd} {lv : Nat} : ∀ n : Nat, Snd T W lv n
  | 0 => ⟨fun _ h => Bool.noConfusion h, fun _ h => sndO0 h, fun _ h => Bool.noConfusion h, fun _ h => sndEs0 h, fun _ h => Bool.noConfusion h⟩
  | n + 1 => ⟨fun Gd h => sndE (snd n) Gd h, fun Gd h => sndO (fun h => (snd n).hE Gd h) rfl h, fun Gd h => sndT (snd n) Gd h, fun Gd h => sndEs (snd n) Gd h, fun Gd h => sndIt (snd n) Gd h⟩
end Mq
end

section
set_option maxHeartbeats 8000000
/-! Fw9: statements checked. -/
namespace Mq
open PySem L2 PySem.Spec PyProof.Rows
/-- what the order of a parallel store is -/
def swpd (sc : Scope) (t e : Expr) : Option (Option (List Str)) := match t, e with
  | .Tuple ts _ _, .Tuple vs _ _ =>
    if !(ts.length == 2 || ts.length == 3) || vs.length != ts.length then some none
    else if (vs.any fun | .Starred .. => true | _ => false) = true then some none
    else
      let line := (ts.head?.map (·.pos.line)).getD 0
      let names := ts.filterMap fun
        | .Name id pos => if sc.names.lookup id == some .local && pos.line == line then some id else none
        | _ => none
      if names.length != ts.length || names.eraseDups.length != names.length then some none
      else if vs.all (foldedForSure 8) then some none
      else if vs.all (constantsAlone 8) then none
      else some (some names)
  | .List .., _ => none
  | _, _ => some none
theorem swpd_ok {sc : Scope} {t e : Expr} {env : Env} {r : Option (List Str)} (hs : env.scope = sc) (hk : sc.kind = .function) (h : swpd sc t e = some r) : swappedStores [t] e env = pure r := by
  have hb : env.blockKind = .function := by unfold Env.blockKind; rw [hs, hk]; rfl
  subst hs
  unfold swpd at h
  split at h
  · unfold swappedStores
    simp only [hb]
    unfold Env.kindOf
    split at h
    · cases h
      rename_i h1
      rw [if_pos (by simpa using h1)]
    · rename_i h1
      rw [if_neg (by simpa using h1)]
      split at h
      · cases h
        rename_i h2
        exact if_pos h2
      · rename_i h2
        refine Eq.trans (if_neg h2) ?_
        dsimp only at h
        split at h
        · cases h
          rename_i h3
          exact if_pos h3
        · rename_i h3
          refine Eq.trans (if_neg h3) ?_
          split at h
          · cases h
            rename_i h4
            exact if_pos h4
          · rename_i h4
            refine Eq.trans (if_neg h4) ?_
            split at h
            · cases h
            · rename_i h5
              refine Eq.trans (if_neg h5) ?_
              cases h
              rfl
  · cases h
  · cases h
    rename_i h1 h2
    unfold swappedStores
    cases t <;> first | rfl | (exact (h1 _ _ rfl).elim) | skip
    cases e <;> first | rfl | (exact (h2 _ _ _ _ _ _ rfl rfl).elim)
/-- a comprehension stored at once -/
def swaps (sc : Scope) (t e : Expr) : Bool := match e, t with
  | .ListComp _ _ s p, .Name y py => (sc.names.lookup y == some .local) && (py.line == p.line) && !(s.names.any fun (n, k) => n == y && (k == .local || k == .cell))
  | _, _ => false
/-- a comprehension kept by a name -/
def plainV : Expr → Bool
  | .SetComp .. => false
  | .DictComp .. => false
  | _ => true
theorem swaps_ok {sc : Scope} {t e : Expr} {env : Env} {l : Nat} (hs : env.scope = sc) (hk : sc.kind = .function) (hp : plainV e = true) (h : swaps sc t e = false) : swapsWith e (some t) l env = pure false := by
  have hb : env.blockKind = .function := by unfold Env.blockKind; rw [hs, hk]; rfl
  subst hs
  cases e <;> first | rfl | (cases hp) | skip
  cases t <;> first | rfl | skip
  rename_i elt gs s p y py
  have h : ((env.scope.names.lookup y == some .local) && (py.line == p.line) && !(s.names.any fun (n, k) => n == y && (k == .local || k == .cell))) = false := h
  unfold swapsWith
  simp only [hb, Env.kindOf, Expr.pos]
  rw [show ((ScopeKind.function == ScopeKind.function) = true) from rfl, Bool.true_and, h]
theorem swaps_fld {o e : Expr} {f : Str} {p : Pos} {env : Env} {l : Nat} (hp : plainV e = true) : swapsWith e (some (.Attribute o f p)) l env = pure false := by
  cases e <;> first | rfl | (cases hp)
mutual
def chkTg : Nat → Ga → Tg → Expr → Bool
  | 0, _, _, _ => false
  | n + 1, Γ, .name i, .Name x _ => decide (Γ.N[i]? = some x) && stOk Γ x
  | n + 1, Γ, .sub o i, .Subscript x y _ => noSlice y && chkE n Γ o x && chkE n Γ i y
  | n + 1, Γ, .tup2 a b, .Tuple [x, y] _ _ => chkTg n Γ a x && chkTg n Γ b y && noStar [x, y]
  | _, _, _, _ => false
end
mutual
def chkS : Nat → Ga → St → Stmt → Bool
  | 0, _, _, _ => false
  | n + 1, Γ, .asg t e, .Assign [tg] x _ => plainV x && noStar [tg] && chkE n Γ e x && chkTg n Γ t tg && decide (swpd Γ.sc tg x = some none) && (!(swaps Γ.sc tg x) || (match t, tg with
    | .name i, .Name y _ => decide (Γ.sc.names.lookup y = some .local)
    | _, _ => false))
  | n + 1, Γ, .par2 i j a b, .Assign [.Tuple [.Name x px, .Name y py] kt pt] (.Tuple [u, v] k2 p2) _ => decide (Γ.N[i]? = some x) && decide (Γ.N[j]? = some y) && decide (i ≠ j) && decide (Γ.sc.names.lookup x = some .local) && decide (Γ.sc.names.lookup y = some .local) &&
      chkE n Γ a u && chkE n Γ b v && noStar [u, v] && decide (swpd Γ.sc (.Tuple [.Name x px, .Name y py] kt pt) (.Tuple [u, v] k2 p2) = some (some [x, y]))
  | n + 1, Γ, .par3 i j l a b c, .Assign [.Tuple [.Name x px, .Name y py, .Name z pz] kt pt] (.Tuple [u, v, w] k2 p2) _ => decide (Γ.N[i]? = some x) && decide (Γ.N[j]? = some y) && decide (Γ.N[l]? = some z) && decide (i ≠ j) && decide (i ≠ l) && decide (j ≠ l) &&
      decide (Γ.sc.names.lookup x = some .local) && decide (Γ.sc.names.lookup y = some .local) && decide (Γ.sc.names.lookup z = some .local) &&
      chkE n Γ a u && chkE n Γ b v && chkE n Γ c w && noStar [u, v, w] && decide (swpd Γ.sc (.Tuple [.Name x px, .Name y py, .Name z pz] kt pt) (.Tuple [u, v, w] k2 p2) = some (some [x, y, z]))
  | n + 1, Γ, .aug i o e, .AugAssign (.Name x _) op y _ => decide (Γ.N[i]? = some x) && stOk Γ x && decide (op = o) && chkE n Γ e y
  | n + 1, Γ, .augS o i op e, .AugAssign (.Subscript x y _) op' z _ => decide (op' = op) && noSlice y && chkE n Γ o x && chkE n Γ i y && chkE n Γ e z
  | n + 1, Γ, .setF cl o k e, .Assign [.Attribute x f _] y _ => plainV y && decide ((Γ.nt.cf cl)[k]? = some f) && chkE n Γ o x && chkE n Γ e y
  | n + 1, Γ, .expr e, .Expr x _ => noComp x && chkE n Γ e x
  | n + 1, Γ, .ret e, .Return (some x) _ => chkE n Γ e x
  | n + 1, Γ, .retN, .Return none _ => true
  | n + 1, Γ, .ite t a b, .If c x y _ => chkT n Γ t c && chkSs n Γ a x && chkSs n Γ b y
  | n + 1, Γ, .forS g it body, .For tg iter x [] _ => chkIt n Γ it tg iter && notSet iter && chkG Γ g tg && chkSs n Γ body x
  | n + 1, Γ, .while t body, .While c x [] _ => chkT n Γ t c && chkSs n Γ body x
  | n + 1, Γ, .pass, .Pass _ => true
  | n + 1, Γ, .brk, .Break _ => true
  | n + 1, Γ, .cont, .Continue _ => true
  | n + 1, Γ, .never, _ => true
  | _, _, _, _ => false
def chkSs : Nat → Ga → Ss → List Stmt → Bool
  | _, _, .nil, [] => true
  | n + 1, Γ, .cons a as, x :: xs => chkS n Γ a x && chkSs n Γ as xs
  | _, _, _, _ => false
end
structure GoodS (Γ : Ga) (T : FT) (W : Wd) (lv : Nat) (wx : WX) (X : Cx) : Prop extends Good Γ T W lv wx X where
  kind : Γ.sc.kind = .function
  po : PassesOwn (model X.prog X.w) X.A X.env X.xe
section
variable {Γ : Ga} {T : FT} {W : Wd} {lv : Nat} {wx : WX} {X : Cx}
theorem tg2_eq {a b : Tg} {d : D} {σ : Sg} {S : Sto} : semTg T (.tup2 a b) d σ S = (match d with
    | .tup [x, y] => (semTg T a x σ S).bind fun σ S => semTg T b y σ S
    | _ => R.no) := by
  cases d <;> try rfl
  rename_i xs
  rcases xs with _ | ⟨x, _ | ⟨y, _ | ⟨z, r⟩⟩⟩ <;> rfl
theorem sndTg (n : Nat) : ∀ {ir : Tg} {e : Expr}, Good Γ T W lv wx X → chkTg n Γ ir e = true → PG X e (tTg W wx (semTg T ir)) := by
  induction n with
  | zero => intro ir e _ h; unfold chkTg at h; cases h
  | succ n ih =>
    intro ir e Gd h
    unfold chkTg at h
    split at h
    all_goals first | exact Bool.noConfusion h | (rename_i hq; cases hq)
    all_goals try simp only [Bool.and_eq_true, decide_eq_true_eq, Bool.not_eq_true'] at h
    case h_2 =>
      obtain ⟨h1, h2⟩ := h
      obtain ⟨h2, h3⟩ := Gd.st h2
      exact dg_name (by rw [Gd.N]; exact Gd.nd) (by rw [Gd.N]; exact h1) h2 h3
    case h_3 =>
      obtain ⟨⟨h1, h2⟩, h3⟩ := h
      exact dg_sub (by have := Gd.u; omega) ((snd n).hE Gd h2) ((snd n).hE Gd h3) h1
    case h_4 =>
      obtain ⟨⟨h1, h2⟩, h3⟩ := h
      exact PG.mono (dg_tup2 Gd.calm (ih Gd h1) (ih Gd h2) h3) fun v σ H Q ⟨M, sg, S, d, rh, sl, rd, p⟩ => ⟨M, sg, S, d, rh, sl, rd, by rw [tg2_eq] at p; exact p⟩
theorem frz_read {k : Nat} {f : Sg → Sto → R D} {σ : L2.St} {H : Hp} {Q : VK} (q : tE W wx (fun σ S => (f σ S).bind fun x S => match frz k x S with | some (d, S') => .ok d S' | none => .no) σ H Q) : tE W wx f σ H Q := by
  refine tE_imp (one (k := fun _ x S => match frz k x S with | some (d, S') => R.ok d S' | none => R.no) q) fun v H1 ⟨M, sg, S, d, r1, sl, r2, p⟩ => ?_
  split at p
  · rename_i d' S' h
    obtain ⟨M', l, h1, h2⟩ := frz_ok k r1 r2 h
    exact p M' H1 v l h1 h2
  · exact p.elim
/-- a comprehension stored at once -/
theorem sndC {i : Nat} {y : Str} {py pos p : Pos} {elt : Expr} {gs : List Comprehension} {scope : Scope} (Gd : GoodS Γ T W lv wx X) (hn : Γ.N[i]? = some y) (hy : Γ.sc.names.lookup y = some .local) (hl : (py.line == p.line) = true)
    (ha : (scope.names.any fun (n, k) => n == y && (k == .local || k == .cell)) = false) (n : Nat) : ∀ {ir : E}, chkE n Γ ir (.ListComp elt gs scope p) = true →
    ∃ te : TE, PS X (.Assign [.Name y py] (.ListComp elt gs scope p) pos) (tAsg te (gName i)) ∧ ∀ σ H Q, tE W wx (semE T ir) σ H Q → te σ H Q := by
  induction n with
  | zero => intro ir h; unfold chkE at h; cases h
  | succ n ih =>
    intro ir h
    generalize he : Expr.ListComp elt gs scope p = e at h
    unfold chkE at h
    split at h
    all_goals first | exact Bool.noConfusion h | skip
    all_goals rename_i hq; cases hq
    all_goals first | (cases he; done) | skip
    case h_3 => subst he; exact Bool.noConfusion h
    case h_23 =>
      rename_i Γ _ _ _ _ c g own it t ir elt' tg iter ifs scope' pos'
      cases he
      simp only [Bool.and_eq_true] at h
      obtain ⟨⟨⟨⟨⟨⟨h1, h2⟩, h3⟩, h4⟩, h5⟩, h6⟩, h7⟩ := h
      have is := @snd T W lv n
      have ho : (ownOf Γ own).map (·.2) = own := by unfold ownOf; rw [List.map_map]; exact List.map_id _
      have ht : ∀ (s : Shared) (H : Hp) (C : Addr) (cl : List (Str × Addr)) (fp : List Addr), PTs (X.blk s H scope (compEnvC scope cl C X.env) fp) ifs (tTs W wF (semT T t)) := fun s H C cl fp => by
        split at h6
        · exact ⟨fun pins s σ H Q I ⟨M, sg, S, rh, sl, p⟩ => pts_nil.run pins s σ H Q I (p _ _ _ (.refl M) rh rfl)⟩
        · exact pts_one (is.hT Gd.blk h6).1
        · exact Bool.noConfusion h6
      have hk : X.env.scope.kind = .function := by rw [Gd.sc]; exact Gd.kind
      have hy' : X.env.scope.names.lookup y = some .local := by rw [Gd.sc]; exact hy
      have key := ps_setLc (spos := pos) (py := py) (g := tgOf X.K g) Gd.calm (by rw [Gd.N]; exact Gd.nd) (by rw [Gd.N]; exact hn) hy' (sw_true hk hy' hl ha) (is.hIt Gd.toGood h2) (blkOk_by (by rw [Gd.N, Gd.sc]; exact h1)) (fun s H C cl fp => Gd.blk.pg g tg h4) ht (fun s H C cl fp => is.hE Gd.blk h7) (notSet_ok h3)
      rw [ho] at key
      exact ⟨_, key, fun σ H Q q => comp_read (fun i hi => List.contains_iff_mem.mp (List.all_eq_true.mp h5 i hi)) q⟩
    case h_24 =>
      subst he
      obtain ⟨te, h1, h2⟩ := ih h
      exact ⟨te, h1, fun σ H Q q => h2 σ H Q (frz_read q)⟩
theorem ds_par3 {f g h : Sg → Sto → R D} {a b c : Expr} {pos : Pos} {i j l : Nat} {x y z : Str} {px py pz pt pt2 : Pos} {kt k2 : Nat} (hc : X.calm = true) (hN : X.N.Nodup) (hi : X.N[i]? = some x) (hj : X.N[j]? = some y) (hl : X.N[l]? = some z) (hij : i ≠ j) (hil : i ≠ l) (hjl : j ≠ l)
    (hx : X.env.scope.names.lookup x = some .local) (hy : X.env.scope.names.lookup y = some .local) (hz : X.env.scope.names.lookup z = some .local)
    (ha : PE X a (tE W wx f)) (hb : PE X b (tE W wx g)) (hcc : PE X c (tE W wx h)) (hst : noStar [a, b, c] = true) (hw : swappedStores [.Tuple [.Name x px, .Name y py, .Name z pz] kt pt] (.Tuple [a, b, c] k2 pt2) X.env = pure (some [x, y, z])) :
    PS X (.Assign [.Tuple [.Name x px, .Name y py, .Name z pz] kt pt] (.Tuple [a, b, c] k2 pt2) pos) (tSs W wx fun σ S => (f σ S).toS σ fun x S => (g σ S).toS σ fun y S => (h σ S).toS σ fun z S => .nx (((σ.set i (some x)).set j (some y)).set l (some z)) S) := by
  obtain ⟨e1, s1⟩ := star_cons (env := X.env) hst
  obtain ⟨e2, s2⟩ := star_cons (env := X.env) s1
  obtain ⟨e3, s3⟩ := star_cons (env := X.env) s2
  refine PS.mono (ps_par3 hc hN hi hj hl hij hil hjl hx hy hz (pa_cons ha (pa_cons hb (pa_cons hcc pa_nil e3) e2) e1) hw) fun En σ H q => ?_
  refine tE_imp (oneS (k := fun sg x S => (g sg S).toS sg fun y S => (h sg S).toS sg fun z S => RS.nx (((sg.set i (some x)).set j (some y)).set l (some z)) S) q) fun v H1 ⟨M, sg, S, d, r1, sl, r2, p⟩ => ?_
  refine ⟨M, sg, S, r1, sl, (p.toS (rel := RepV W) sl).imp fun w H2 ⟨M2, e, S2, l2, r3, s2, r4, p2⟩ => ⟨M2, sg, S2, r3, s2, (p2.toS (rel := RepV W) s2).imp fun u H3 ⟨M3, e3, S3, l3, r5, s3, r6, p3⟩ => ⟨v, w, u, rfl, ?_⟩⟩⟩
  exact p3 _ _ _ (.refl _) r5 (((s3.set ((r2.mono l2).mono l3) i).set (r4.mono l3) j).set r6 l)
structure SndS (T : FT) (W : Wd) (lv n : Nat) : Prop where
  hS : ∀ {Γ : Ga} {wx : WX} {X : Cx} {ir : Mq.St} {st : Stmt}, GoodS Γ T W lv wx X → chkS n Γ ir st = true → PS X st (tSs W wx (semS T ir))
  hSs : ∀ {Γ : Ga} {wx : WX} {X : Cx} {ir : Ss} {sts : List Stmt}, GoodS Γ T W lv wx X → chkSs n Γ ir sts = true → PSs X sts (tSs W wx (semSs T ir))
theorem sndS {n : Nat} (ih : SndS T W lv n) (Gd : GoodS Γ T W lv wx X) {ir : Mq.St} {st : Stmt} (h : chkS (n + 1) Γ ir st = true) : PS X st (tSs W wx (semS T ir)) := by
  have is := @snd T W lv n
  have hN : X.N.Nodup := by rw [Gd.N]; exact Gd.nd
  unfold chkS at h
  split at h
  all_goals first | exact Bool.noConfusion h | (rename_i hq; cases hq)
  all_goals try simp only [Bool.and_eq_true, decide_eq_true_eq, Bool.not_eq_true', Bool.or_eq_true] at h
  case h_2 =>
    rename_i Γ _ _ _ _ t e tg x pos
    obtain ⟨⟨⟨⟨⟨h1, h2⟩, h3⟩, h4⟩, h5⟩, h6⟩ := h
    cases hs : swaps Γ.sc tg x with
    | true =>
      rw [hs] at h6
      rcases h6 with h6 | h6
      · cases h6
      · split at h6
        · have hy := of_decide_eq_true h6
          unfold chkTg at h4
          cases n with
          | zero => exact Bool.noConfusion h4
          | succ n =>
            simp only [Bool.and_eq_true, decide_eq_true_eq] at h4
            unfold swaps at hs
            split at hs
            · rename_i hq
              cases hq
              simp only [Bool.and_eq_true, Bool.not_eq_true'] at hs
              obtain ⟨te, g1, g2⟩ := sndC (pos := pos) Gd h4.1 hy hs.1.2 hs.2 _ h3
              refine PS.mono g1 fun En σ H q => g2 _ _ _ (tE_imp (oneS (k := fun sg d S => (semTg T (.name _) d sg S).nox.toS sg fun σ S => RS.nx σ S) q) fun v H1 ⟨M, sg, S, d, r1, sl, r2, p⟩ => ?_)
              exact p _ _ _ (.refl M) r1 (sl.set r2 _)
            · cases hs
        · cases h6
    | false => exact ds_asg (is.hE Gd.toGood h3) (sndTg n Gd.toGood h4) (swaps_ok Gd.sc Gd.kind h1 hs) (swpd_ok Gd.sc Gd.kind h5) h2
  case h_3 =>
    obtain ⟨⟨⟨⟨⟨⟨⟨⟨h1, h2⟩, h3⟩, h4⟩, h5⟩, h6⟩, h7⟩, h8⟩, h9⟩ := h
    exact ds_par2 Gd.calm hN (by rw [Gd.N]; exact h1) (by rw [Gd.N]; exact h2) h3 (by rw [Gd.sc]; exact h4) (by rw [Gd.sc]; exact h5) (is.hE Gd.toGood h6) (is.hE Gd.toGood h7) h8 (swpd_ok Gd.sc Gd.kind h9)
  case h_4 =>
    obtain ⟨⟨⟨⟨⟨⟨⟨⟨⟨⟨⟨⟨⟨h1, h2⟩, h3⟩, h4⟩, h5⟩, h6⟩, h7⟩, h8⟩, h9⟩, h10⟩, h11⟩, h12⟩, h13⟩, h14⟩ := h
    exact ds_par3 Gd.calm hN (by rw [Gd.N]; exact h1) (by rw [Gd.N]; exact h2) (by rw [Gd.N]; exact h3) h4 h5 h6 (by rw [Gd.sc]; exact h7) (by rw [Gd.sc]; exact h8) (by rw [Gd.sc]; exact h9) (is.hE Gd.toGood h10) (is.hE Gd.toGood h11) (is.hE Gd.toGood h12) h13 (swpd_ok Gd.sc Gd.kind h14)
  case h_5 =>
    obtain ⟨⟨⟨h1, h2⟩, rfl⟩, h4⟩ := h
    obtain ⟨g1, g2⟩ := Gd.st h2
    exact ds_aug hN (by rw [Gd.N]; exact h1) g1 g2 (is.hE Gd.toGood h4)
  case h_6 =>
    obtain ⟨⟨⟨⟨rfl, h2⟩, h3⟩, h4⟩, h5⟩ := h
    exact ds_augS Gd.fc.hK (by have := Gd.u; omega) (is.hE Gd.toGood h3) (is.hE Gd.toGood h4) (is.hE Gd.toGood h5) h2
  case h_7 =>
    obtain ⟨⟨⟨h1, h2⟩, h3⟩, h4⟩ := h
    obtain ⟨c1, c2⟩ := Gd.fc.fld _ _ _ h2
    exact ds_setF c1 c2 (by rw [Gd.fc.cf]; exact Gd.fc.nd _) (by rw [Gd.fc.cf]; exact h2) (by rw [Gd.fc.cf]; exact Gd.fc.few _) (swaps_fld h1) (is.hE Gd.toGood h3) (is.hE Gd.toGood h4)
  case h_8 => exact ds_expr (is.hE Gd.toGood h.2) h.1
  case h_9 => exact ds_ret (is.hE Gd.toGood h)
  case h_10 => exact ds_retN
  case h_11 =>
    obtain ⟨⟨h1, h2⟩, h3⟩ := h
    exact ds_if (is.hT Gd.toGood h1).1 (ih.hSs Gd h2) (ih.hSs Gd h3)
  case h_12 =>
    obtain ⟨⟨⟨h1, h2⟩, h3⟩, h4⟩ := h
    exact ds_for Gd.po Gd.calm (is.hIt Gd.toGood h1) (Gd.pg _ _ h3) (ih.hSs Gd h4) (notSet_ok h2)
  case h_13 =>
    obtain ⟨h1, h2⟩ := h
    exact ds_while Gd.po (is.hT Gd.toGood h1).1 (ih.hSs Gd h2)
  case h_14 => exact ds_pass
  case h_15 => exact ds_brk
  case h_16 => exact ds_cont
  case h_17 => exact ds_never
theorem sndSs {n : Nat} (ih : SndS T W lv n) (Gd : GoodS Γ T W lv wx X) {ir : Ss} {sts : List Stmt} (h : chkSs (n + 1) Γ ir sts = true) : PSs X sts (tSs W wx (semSs T ir)) := by
  unfold chkSs at h
  split at h
  · exact ds_nil
  · rename_i hq
    cases hq
    rw [Bool.and_eq_true] at h
    exact ds_cons (ih.hS Gd h.1) (ih.hSs Gd h.2)
  · exact Bool.noConfusion h
theorem sndSs0 {ir : Ss} {sts : List Stmt} (h : chkSs 0 Γ ir sts = true) : PSs X sts (tSs W wx (semSs T ir)) := by
  unfold chkSs at h
  split at h
  · exact ds_nil
  · rename_i hq
    cases hq
  · exact Bool.noConfusion h
end
theorem sndAll {T : FT} {W : Wd} {lv : Nat} : ∀ n : Nat, SndS T W lv n
  | 0 => ⟨fun _ h => (by unfold chkS at h; exact Bool.noConfusion h), fun _ h => sndSs0 h⟩
  | n + 1 => ⟨fun Gd h => sndS (sndAll n) Gd h, fun Gd h => sndSs (sndAll n) Gd h⟩
end Mq
end

section
set_option maxHeartbeats 8000000
/-! Fw10: a def by its checked text. -/
namespace Mq
open PySem L2 PySem.Spec PyProof.Rows
/-- a def's names, looked at -/
def scopeC (N ps : List Str) (c : Scope) : Bool :=
  decide (c.kind = .function) && (!c.isCoroutine && (!c.isGenerator && (decide N.Nodup && (decide (N.take ps.length = ps) &&
    ((ps.all fun x => decide (c.names.lookup x = some .local) || decide (c.names.lookup x = some .cell)) && c.names.all fun y => !decide (y.2 = .free))))))
theorem scope_ok {N ps : List Str} {c : Scope} (h : scopeC N ps c = true) : FnScope N ps c := by
  unfold scopeC at h
  simp only [Bool.and_eq_true, Bool.not_eq_true', decide_eq_true_eq, List.all_eq_true, Bool.or_eq_true, decide_eq_false_iff_not] at h
  obtain ⟨a, b, d, e, f, g, i⟩ := h
  exact ⟨a, b, d, e, f, g, i⟩
theorem noRefs_iff {n : Nat} : ∀ {xs : List D}, noRefs n xs = true ↔ ∀ x ∈ xs, noRef n x = true
  | [] => by unfold noRefs; simp
  | x :: xs => by
    unfold noRefs
    rw [Bool.and_eq_true, noRefs_iff]
    simp
theorem at_both {α β : Type} {xs : List α} {ys : List β} (hl : xs.length = ys.length) {y : β} (hy : y ∈ ys) : ∃ (i : Nat) (x : α), xs[i]? = some x ∧ ys[i]? = some y := by
  obtain ⟨i, hi, rfl⟩ := List.getElem_of_mem hy
  exact ⟨i, xs[i]'(by omega), by simp, by simp⟩
section
variable {W : Wd} {M M' : Mp} {v : V} {d : D} {vs : List V} {ds : List D} {n : Nat} {H H' : Hp} {S S' S0 : Sto} {a : Addr} {c : Cell}
theorem rep_low (r : RepV W M v d) : noRef M.io.length d = true := by
  induction r with
  | cell h => exact decide_eq_true (List.getElem?_eq_some_iff.mp h).1
  | non | bl | int | str => rfl
  | lst h hz hl hr ih | tup h hz hl hr ih | ft h hz hl hr ih | ins h hz hl hr ih | fl h hz hl hr ih =>
    refine noRefs_iff.mpr fun x hx => ?_
    obtain ⟨i, y, h1, h2⟩ := at_both hl hx
    exact ih i y x h1 h2
theorem reps_low (r : Reps W M vs ds) : noRefs M.io.length ds = true := noRefs_iff.mpr fun x hx => by
  obtain ⟨i, y, h1, h2⟩ := at_both r.1 hx
  exact rep_low (r.2 i y x h1 h2)
def Mp.take (M : Mp) (n : Nat) : Mp := ⟨M.Hs, M.io.take n, M.kp⟩
theorem rep_cut (r : RepV W M v d) : noRef n d = true → RepV W (M.take n) v d := by
  induction r with
  | non => exact fun _ => .non
  | bl b => exact fun _ => .bl b
  | int i => exact fun _ => .int i
  | str x => exact fun _ => .str x
  | cell h => exact fun q => .cell (by
      have q := of_decide_eq_true q
      show (List.take n M.io)[_]? = _
      rw [List.getElem?_take, if_pos q]
      exact h)
  | lst h hz hl hr ih => exact fun q => .lst h hz hl fun i v d a b => ih i v d a b (noRefs_iff.mp q d (List.mem_of_getElem? b))
  | tup h hz hl hr ih => exact fun q => .tup h hz hl fun i v d a b => ih i v d a b (noRefs_iff.mp q d (List.mem_of_getElem? b))
  | ft h hz hl hr ih => exact fun q => .ft h hz hl fun i v d a b => ih i v d a b (noRefs_iff.mp q d (List.mem_of_getElem? b))
  | ins h hz hl hr ih => exact fun q => .ins h hz hl fun i v d a b => ih i v d a b (noRefs_iff.mp q d (List.mem_of_getElem? b))
  | fl h hz hl hr ih => exact fun q => .fl h hz hl fun i v d a b => ih i v d a b (noRefs_iff.mp q d (List.mem_of_getElem? b))
theorem reps_cut (r : Reps W M vs ds) (h : noRefs n ds = true) : Reps W (M.take n) vs ds :=
  ⟨r.1, fun i v d a b => rep_cut (r.2 i v d a b) (noRefs_iff.mp h d (List.mem_of_getElem? b))⟩
theorem cell_low (h : CellOk W M H a c) : noRefC M.io.length c = true := by
  cases c with
  | dead => rfl
  | lst ds => obtain ⟨_, vs, _, r, _⟩ := h; exact reps_low r
  | dk kvs => obtain ⟨_, kw, _, r⟩ := h; exact reps_low r.2
  | dt kvs => obtain ⟨_, kw, _, r⟩ := h; exact reps_low r.2
  | db kvs => obtain ⟨_, es, _, _, r, _⟩ := h; exact reps_low r
  | ins k ds => obtain ⟨_, dx, vs, _, _, r⟩ := h; exact reps_low r
theorem cell_cut (h : CellOk W M H a c) (q : noRefC n c = true) : CellOk W (M.take n) H a c := by
  cases c with
  | dead => trivial
  | lst ds => obtain ⟨h1, vs, h2, r, h3⟩ := h; exact ⟨h1, vs, h2, reps_cut r q, h3⟩
  | dk kvs => obtain ⟨h1, kw, h2, r⟩ := h; exact ⟨h1, kw, h2, r.1, reps_cut r.2 q⟩
  | dt kvs => obtain ⟨h1, kw, h2, r⟩ := h; exact ⟨h1, kw, h2, r.1, reps_cut r.2 q⟩
  | db kvs => obtain ⟨h1, es, h2, h3, r, h4⟩ := h; exact ⟨h1, es, h2, h3, reps_cut r q, h4⟩
  | ins k ds => obtain ⟨h1, dx, vs, h2, h3, r⟩ := h; exact ⟨h1, dx, vs, h2, h3, reps_cut r q⟩
/-- what a call leaves, cut back -/
theorem trunc_ok (r0 : RelH W M H S0) (l : M.le M') (r : RelH W M' H' S') : ∃ M2, M.le M2 ∧ RelH W M2 H' (trunc S0 d S') ∧ (∀ v, RepV W M' v d → RepV W M2 v d) ∧ ∀ cls dx, RepX W M' H' cls dx d → RepX W M2 H' cls dx d := by
  unfold trunc
  split
  · rename_i hc
    obtain ⟨h1, h2, h3⟩ := hc
    obtain ⟨⟨l1, t, l2⟩, l3⟩ := l
    have e : M'.io.take S0.length = M.io := by rw [l2, ← r0.len, List.take_left']; rfl
    refine ⟨M'.take S0.length, ⟨⟨l1, [], by show M'.io.take S0.length = _; rw [e, List.append_nil]⟩, l3⟩, ⟨r.fro, ?_, ?_, ?_, ?_, ?_⟩, fun v q => rep_cut q h2, fun cls dx ⟨k, ds, q1, q2, q3⟩ => ⟨k, ds, q1, q2, ?_⟩⟩
    · show (M'.io.take S0.length).length = (S'.take S0.length).length
      rw [List.length_take, List.length_take, r.len]
    · exact r.nd.sublist (List.take_sublist _ _)
    · exact fun b hb => r.liv b (List.mem_of_mem_take hb)
    · intro b o hb
      obtain ⟨k1, k2, k3⟩ := r.kpf b o hb
      exact ⟨k1, k2, fun z => k3 (List.mem_of_mem_take z)⟩
    · intro i c a hi ha
      rw [List.getElem?_take] at hi
      split at hi
      · rename_i hlt
        have ha : (M'.io.take S0.length)[i]? = some a := ha
        have ha' : M'.io[i]? = some a := by rw [List.getElem?_take, if_pos hlt] at ha; exact ha
        refine cell_cut (r.cel i c a hi ha') ?_
        rcases h3 i hlt with q | ⟨c', q1, q2⟩
        · rw [hi] at q
          rw [e] at ha
          rw [← r0.len]
          exact cell_low (r0.cel i c a q.symm ha)
        · rw [hi] at q1
          cases q1
          exact q2
      · cases hi
    · subst q1
      rcases q3 with q3 | ⟨d', vs, g1, g2, g3, g4⟩
      · exact .inl q3
      · exact .inr ⟨d', vs, g1, g2, g3, reps_cut g4 h2⟩
  · exact ⟨M', l, r, fun _ q => q, fun _ _ q => q⟩
end
theorem start_rel {W : Wd} {M : Mp} {vs : List V} {ds : List D} {N : List Str} (r : Reps W M vs ds) : RelSl W M (L2.start N vs) (startD N.length ds) := by
  unfold L2.start startD
  refine ⟨by simp [r.1], fun i d h => ?_⟩
  by_cases hi : i < ds.length
  · rw [List.getElem?_append_left (by simpa using hi)] at h
    rw [List.getElem?_append_left (by simpa [r.1] using hi)]
    rw [List.getElem?_map] at h ⊢
    obtain ⟨d', hd, e⟩ := Option.map_eq_some_iff.mp h
    cases e
    obtain ⟨v, g1, g2⟩ := r.get hd
    exact ⟨v, by rw [g1]; rfl, g2⟩
  · rw [List.getElem?_append_right (by simpa using hi)] at h
    have := List.mem_of_getElem? h
    rw [List.mem_replicate] at this
    cases this.2
section
variable {P : Program} {w : World} {K : PySem.W.Frag} {mg : Str → Option Value} {base : Heap} {W : Wd} {nt : Nt} {T : FT} {lv : Nat}
/-- a def by its checked text -/
theorem fn_ok {x qual : Str} {st : Stmt} {f : Addr} {fd : FuncData} {N ps : List Str} {n np : Nat} {ir : Ss} (F : L2.Fun K x qual st f fd) (Sc : FnScope N ps (defScope st)) (hl : ps.length = np) (fc : Facts nt T lv P w K mg base W)
    (chk : chkSs n ⟨nt, N, defScope st, fun _ => true⟩ ir (defBody st) = true) : FnG P w K mg base (lv + 1) f fd ps (spD W (runF T np N.length ir)) := by
  refine body_g F Sc (fun vs H Q E ⟨M, S, ds, rh, r, p⟩ => ?_) fun cdv A out s H vs Q E hr hg ⟨M, S, ds, rh, r, p⟩ => ?_
  · unfold runF at p
    split at p
    · rename_i h
      rw [r.1, h, hl]
    · exact p.elim
  · unfold runF at p
    split at p
    · rename_i h
      have G : GoodS ⟨nt, N, defScope st, fun _ => true⟩ T W lv (fun c d _ H => E c d H) (cxOf (L2.CX P w) P w K mg base N qual (defScope st) f cdv A out s H E) :=
        { N := rfl, nd := Sc.nd, sc := rfl, fnq := rfl, calm := rfl, gd := hg, room := hr, tk := takes_of rfl rfl rfl rfl, fc := fc, kind := Sc.kind, po := passes_of rfl }
      refine ⟨_, (sndAll n).hSs G chk, M, startD N.length ds, S, rh, start_rel r, ?_⟩
      revert p
      cases semSs T ir (startD N.length ds) S with
      | rt d S' =>
        intro p M' H' v l rh' rv
        obtain ⟨M2, g1, g2, g3, _⟩ := trunc_ok (d := d) rh l rh'
        exact p M2 H' v g1 g2 (g3 v rv)
      | nx sg S' =>
        intro p M' H' σ l rh' _
        obtain ⟨M2, g1, g2, g3, _⟩ := trunc_ok (d := .non) rh l rh'
        exact p M2 H' .non g1 g2 .non
      | exc e sg S' =>
        intro p M' H' σ cls dx l rh' _ rx
        obtain ⟨M2, g1, g2, _, g4⟩ := trunc_ok (d := e) rh l rh'
        exact p M2 H' cls dx g1 g2 (g4 cls dx rx)
      | bk => exact fun p => p.elim
      | ct => exact fun p => p.elim
      | no => exact fun p => p.elim
    · exact p.elim
end
end Mq
end

section
set_option maxHeartbeats 8000000
/-! Fw11: the table of a text; the law's own call. -/
namespace Mq
open PySem L2 PySem.Spec PyProof.Rows
def tbl (T : FT) (k : Nat) (g : List D → Sto → R D) : FT := fun i => if i = k then g else T i
theorem tbl_new {T : FT} {k : Nat} {g : List D → Sto → R D} : tbl T k g k = g := if_pos rfl
theorem tbl_old {T : FT} {k i : Nat} {g : List D → Sto → R D} (h : i ≠ k) : tbl T k g i = T i := if_neg h
def Nt.free (nt : Nt) (k : Nat) : Bool := nt.fs.all (fun e => e.2 != k) && nt.kl.all (fun e => e.2.2 != k) && nt.ms.all (fun e => e.2 != k) && nt.ps.all (fun e => e.2 != k)
theorem mem_look {α β : Type} [BEq α] [LawfulBEq α] {l : List (α × β)} {x : α} {y : β} (h : l.lookup x = some y) : (x, y) ∈ l := by
  induction l with
  | nil => cases h
  | cons e l ih =>
    obtain ⟨a, b⟩ := e
    rw [List.lookup_cons] at h
    split at h
    · rename_i q
      cases h
      have q := eq_of_beq q
      subst q
      exact .head _
    · exact .tail _ (ih h)
theorem look_cons {α β : Type} [BEq α] [LawfulBEq α] {l : List (α × β)} {a x : α} {b y : β} (h : ((a, b) :: l).lookup x = some y) : (x = a ∧ y = b) ∨ l.lookup x = some y := by
  rw [List.lookup_cons] at h
  split at h
  · rename_i q
    cases h
    exact .inl ⟨eq_of_beq q, rfl⟩
  · exact .inr h
section
variable {P : Program} {w : World} {K : PySem.W.Frag} {mg : Str → Option Value} {base : Heap} {W : Wd} {nt : Nt} {T : FT} {lv j k : Nat} {g : List D → Sto → R D} {dd : List D} {fa : Addr} {x m : Str} {c : Nat}
theorem FnHs.mono (F : FnHs P w K mg base W j g dd fa) (h : j ≤ k) : FnHs P w K mg base W k g dd fa := by
  obtain ⟨fd, ps, dus, dvs, h1, h2⟩ := F.ex
  exact ⟨fd, ps, dus, dvs, h1.mono h, h2⟩
theorem free_fs (h : nt.free k = true) {i : Nat} (e : nt.fs.lookup x = some i) : i ≠ k := by
  unfold Nt.free at h
  simp only [Bool.and_eq_true, List.all_eq_true] at h
  simpa using h.1.1.1 _ (mem_look e)
theorem free_kl (h : nt.free k = true) {i : Nat} (e : nt.kl.lookup x = some (c, i)) : i ≠ k := by
  unfold Nt.free at h
  simp only [Bool.and_eq_true, List.all_eq_true] at h
  simpa using h.1.1.2 _ (mem_look e)
theorem free_ms (h : nt.free k = true) {i : Nat} (e : nt.ms.lookup (c, m) = some i) : i ≠ k := by
  unfold Nt.free at h
  simp only [Bool.and_eq_true, List.all_eq_true] at h
  simpa using h.1.2 _ (mem_look e)
theorem free_ps (h : nt.free k = true) {i : Nat} (e : nt.ps.lookup (c, m) = some i) : i ≠ k := by
  unfold Nt.free at h
  simp only [Bool.and_eq_true, List.all_eq_true] at h
  simpa using h.2 _ (mem_look e)
/-- more room, one more entry that no name tells yet -/
theorem Facts.up (fc : Facts nt T lv P w K mg base W) (hf : nt.free k = true) (hl : lv ≤ j) : Facts nt (tbl T k g) j P w K mg base W where
  hK := fc.hK
  cf := fc.cf
  nd := fc.nd
  few := fc.few
  fn := fun x i h => by
    obtain ⟨fa, g', dd, h1, h2, h3, h4⟩ := fc.fn x i h
    exact ⟨fa, g', dd, h1, h2, h3.mono hl, (tbl_old (free_fs hf h)).trans h4⟩
  cs := fc.cs
  bs := fc.bs
  kl := fun x c i h => by
    obtain ⟨fa, g', dd, j', h1, h2, h3, h5, h4⟩ := fc.kl x c i h
    exact ⟨fa, g', dd, j', h1, h2, h3, Nat.le_trans h5 hl, (tbl_old (free_kl hf h)).trans h4⟩
  ms := fun c m i h => by
    obtain ⟨fa, g', dd, h1, h2, h3, h4⟩ := fc.ms c m i h
    exact ⟨fa, g', dd, h1, h2, h3.mono hl, (tbl_old (free_ms hf h)).trans h4⟩
  ps := fun c m i h => by
    obtain ⟨pa, ga, j', h1, h2, h3, h4⟩ := fc.ps c m i h
    exact ⟨pa, ga, j', h1, h2, by rw [tbl_old (free_ps hf h)]; exact h3, Nat.le_trans h4 hl⟩
  fld := fc.fld
theorem Facts.addFn (fc : Facts nt T lv P w K mg base W) (hf : nt.free k = true) (hx : mg x = some (.ref fa)) (hk : PySem.W.keepIn K (.ref fa) = true) (F : FnHs P w K mg base W (lv + 1) g dd fa) :
    Facts { nt with fs := (x, k) :: nt.fs } (tbl T k fun ds S => g (ds ++ dd) S) (lv + 1) P w K mg base W :=
  { fc.up (g := fun ds S => g (ds ++ dd) S) hf (Nat.le_succ lv) with
    fn := fun y i h => by
      rcases look_cons h with ⟨rfl, rfl⟩ | h
      · exact ⟨fa, g, dd, hx, hk, F, tbl_new⟩
      · exact (fc.up (g := fun ds S => g (ds ++ dd) S) hf (Nat.le_succ lv)).fn y i h }
theorem Facts.addMk (fc : Facts nt T lv P w K mg base W) (hf : nt.free k = true) (hx : mg x = some (.ref (W.ca c))) (hk : Mk K (W.ca c) fa) (F : FnHs P w K mg base W (lv + 1) g dd fa) :
    Facts { nt with kl := (x, (c, k)) :: nt.kl } (tbl T k fun ds S => g (ds ++ dd) S) (lv + 2) P w K mg base W :=
  { fc.up (g := fun ds S => g (ds ++ dd) S) hf (Nat.le_add_right lv 2) with
    kl := fun y c' i h => by
      rcases look_cons h with ⟨rfl, e⟩ | h
      · cases e
        exact ⟨fa, g, dd, lv + 1, hx, hk, F, Nat.le_refl _, tbl_new⟩
      · exact (fc.up (g := fun ds S => g (ds ++ dd) S) hf (Nat.le_add_right lv 2)).kl y c' i h }
theorem Facts.addMs (fc : Facts nt T lv P w K mg base W) (hf : nt.free k = true) (hc : Cls K (W.ca c)) (hk : Meth K (W.ca c) m fa) (F : FnHs P w K mg base W (lv + 1) g dd fa) :
    Facts { nt with ms := ((c, m), k) :: nt.ms } (tbl T k fun ds S => g (ds ++ dd) S) (lv + 1) P w K mg base W :=
  { fc.up (g := fun ds S => g (ds ++ dd) S) hf (Nat.le_succ lv) with
    ms := fun c' y i h => by
      rcases look_cons h with ⟨e, rfl⟩ | h
      · cases e
        exact ⟨fa, g, dd, hc, hk, F, tbl_new⟩
      · exact (fc.up (g := fun ds S => g (ds ++ dd) S) hf (Nat.le_succ lv)).ms c' y i h }
theorem Facts.addPs {pa : Addr} (fc : Facts nt T lv P w K mg base W) (hf : nt.free k = true) (hc : Cls K (W.ca c)) (hk : PropOf K (W.ca c) m pa fa) (F : FnHs P w K mg base W (lv + 1) g [] fa) :
    Facts { nt with ps := ((c, m), k) :: nt.ps } (tbl T k g) (lv + 2) P w K mg base W :=
  { fc.up (g := g) hf (Nat.le_add_right lv 2) with
    ps := fun c' y i h => by
      rcases look_cons h with ⟨e, rfl⟩ | h
      · cases e
        exact ⟨pa, fa, lv + 1, hc, hk, by rw [tbl_new]; exact F, Nat.le_refl _⟩
      · exact (fc.up (g := g) hf (Nat.le_add_right lv 2)).ps c' y i h }
def AllNo (K : PySem.W.Frag) (a : Addr) : List Str → Prop
  | [] => True
  | f :: fs => NoAttr K a f ∧ AllNo K a fs
theorem AllNo.at {a : Addr} : ∀ {fs : List Str} {i : Nat} {f : Str}, AllNo K a fs → fs[i]? = some f → NoAttr K a f
  | [], i, f, _, h => by simp at h
  | f :: fs, 0, f', h, e => by cases e; exact h.1
  | f :: fs, i + 1, f', h, e => AllNo.at h.2 (by simpa using e)
def AllFld (K : PySem.W.Frag) : List Addr → List (List Str) → Prop
  | _, [] => True
  | [], _ :: _ => False
  | a :: as, fs :: l => Cls K a ∧ AllNo K a fs ∧ AllFld K as l
theorem AllFld.at : ∀ {as : List Addr} {l : List (List Str)} {c i : Nat} {f : Str}, AllFld K as l → (l.getD c [])[i]? = some f → Cls K (as.getD c 0) ∧ NoAttr K (as.getD c 0) f
  | as, [], c, i, f, _, h => by simp at h
  | [], _ :: _, c, i, f, h, _ => h.elim
  | a :: as, fs :: l, 0, i, f, h, e => ⟨h.1, h.2.1.at e⟩
  | a :: as, fs :: l, c + 1, i, f, h, e => by
    have q := AllFld.at (as := as) (l := l) (c := c) (i := i) (f := f) h.2.2 (by simpa using e)
    simpa using q
def AllNil (mg : Str → Option Value) : List Str → Prop
  | [] => True
  | x :: xs => mg x = none ∧ AllNil mg xs
theorem AllNil.at : ∀ {xs : List Str} {x : Str}, AllNil mg xs → x ∈ xs → mg x = none
  | _ :: _, _, h, .head _ => h.1
  | _ :: _, _, h, .tail _ q => AllNil.at h.2 q
def AllCs (mg : Str → Option Value) : List (Str × D) → Prop
  | [] => True
  | (x, d) :: l => (∃ u v, mg x = some u ∧ RelV v u ∧ ∀ W M, RepV W M v d) ∧ AllCs mg l
theorem AllCs.at {d : D} : ∀ {l : List (Str × D)}, AllCs mg l → l.lookup x = some d → ∃ u v, mg x = some u ∧ RelV v u ∧ ∀ W M, RepV W M v d
  | (a, b) :: l, h, e => by
    rcases look_cons e with ⟨rfl, rfl⟩ | e
    · exact h.1
    · exact AllCs.at h.2 e
theorem cs_int {i : Int} {t : Tok} (h : mg x = some (.int i t)) : ∃ u v, mg x = some u ∧ RelV v u ∧ ∀ W M, RepV W M v (.int i) := ⟨_, .int i, h, ⟨t, rfl⟩, fun _ _ => .int i⟩
/-- the table of the names at the start -/
def nt0 (cs : List (Str × D)) (bs : List Str) (l : List (List Str)) : Nt := ⟨[], cs, bs, [], [], [], fun c => l.getD c []⟩
def wd (K : PySem.W.Frag) (as : List Addr) (l : List (List Str)) : Wd := ⟨K, fun c => as.getD c 0, fun c => l.getD c []⟩
def fewOk (l : List (List Str)) : Bool := l.all fun fs => decide fs.Nodup && decide (fs.length ≤ 500)
theorem facts0 {cs : List (Str × D)} {bs : List Str} {l : List (List Str)} {as : List Addr} (h1 : fewOk l = true) (h2 : AllCs mg cs) (h3 : AllNil mg bs) (h4 : AllFld K as l) : Facts (nt0 cs bs l) (fun _ _ _ => .no) 0 P w K mg base (wd K as l) where
  hK := rfl
  cf := rfl
  nd := fun c => by
    show (l.getD c []).Nodup
    rw [List.getD_eq_getElem?_getD]
    cases h : l[c]? with
    | none => simp
    | some fs =>
      have q := List.all_eq_true.mp h1 fs (List.mem_of_getElem? h)
      rw [Bool.and_eq_true] at q
      exact of_decide_eq_true q.1
  few := fun c => by
    show (l.getD c []).length ≤ 500
    rw [List.getD_eq_getElem?_getD]
    cases h : l[c]? with
    | none => simp
    | some fs =>
      have q := List.all_eq_true.mp h1 fs (List.mem_of_getElem? h)
      rw [Bool.and_eq_true] at q
      exact of_decide_eq_true q.2
  fn := fun x i h => nomatch h
  cs := fun x d h => by
    obtain ⟨u, v, g1, g2, g3⟩ := h2.at h
    exact ⟨u, v, g1, g2, fun M => g3 _ M⟩
  bs := fun x h => h3.at h
  kl := fun x c i h => nomatch h
  ms := fun c m i h => nomatch h
  ps := fun c m i h => nomatch h
  fld := fun c k f h => h4.at h
/-- a def without defaults -/
theorem FnG.hs {f : Addr} {fd : FuncData} {ps : List Str} (F : FnG P w K mg base k f fd ps (spD W g)) (hb : Binds K fd ps []) : FnHs P w K mg base W k g [] f := ⟨fd, ps, [], [], F, hb, .nil, fun _ => .nil⟩
end
/-- the law's own call -/
theorem law_g {P : Program} {w : World} {K : PySem.W.Frag} {mg mb : Str → Option Value} {k : Nat} {fa a : Addr} {fd : FuncData} {x : Str} {s₁ : Shared} {vs : List Value} {ns : List Int}
    (inK : K.In s₁.heap) (names : s₁.heap.Ns mainGlobals mg) (own : s₁.heap.Ns builtinsNs mb) (boot : ∀ y : Str, y ≠ "__name__" → mb y = bootBuiltins y) (calm : s₁.heap.NoLimit) (gens : s₁.gens = #[])
    (here : s₁.heap.get? a = some { cls := .type "list", data := .seq vs.toArray }) (whole : IntsAre vs ns) (short : ns.length ≤ sizeLine) (room : Room k callerA)
    (F : ∀ base : Heap, K.In base → base.Ns mainGlobals mg → ∃ (W : Wd) (g : List D → Sto → R D), W.K = K ∧ FnG P w K mg base k fa fd [x] (spD W g) ∧ ∃ S, g [.fl (ns.map D.int)] [] = .ok (.bl true) S)
    (bound : ∀ (s : Shared) (u : Value), BindsTo s fd ⟨[u], []⟩ [(x, u)]) :
    codeAny (model P w) callerA (.call (.ref fa) ⟨[.ref a], []⟩) (fun r s' => r = .ok (.ret (.bool true)) ∧ OldK s₁.heap s'.heap ∧ s'.os = s₁.os ∧ AllBare s'.gens) s₁ := by
  have many := whole.length
  have like : Vals (ns.map V.int) vs := vals_ints whole
  -- H: at most the script stands in it
  have core : ∀ H : Hp, Only H → SqL K H a (ns.map V.int) → HOk P w H s₁.heap → (∀ b, H b ≠ none → b = a ∧ K.lookup b = none) →
      codeAny (model P w) callerA (.call (.ref fa) ⟨[.ref a], []⟩) (fun r s' => r = .ok (.ret (.bool true)) ∧ OldK s₁.heap s'.heap ∧ s'.os = s₁.os ∧ AllBare s'.gens) s₁ := by
    intro H only seq ok one
    have clear : ∀ b : Addr, (∀ o, s₁.heap.get? b = some o → ∀ es ep, o.data ≠ .dict es ep) ∨ H b = none ∨ b ≠ a := fun b => by
      by_cases e : b = a
      · subst e
        refine .inl fun o ho es ep q => ?_
        rw [here] at ho
        cases ho
        exact Data.noConfusion q
      · exact .inr (.inr e)
    have spaces : ∀ {b : Addr} {m : Str → Option Value}, s₁.heap.Ns b m → (hidT s₁.heap H).Ns b m := by
      rintro b m ⟨o, es, ep, h1, h2, h3⟩
      have hb : H b = none := by
        cases q : H b with
        | none => rfl
        | some u =>
          rcases clear b with z | z | z
          · exact absurd h2 (z o h1 es ep)
          · rw [q] at z; cases z
          · exact absurd (one b (by rw [q]; exact fun z => nomatch z)).1 z
      exact ⟨o, es, ep, hidT_get h1 hb, h2, h3⟩
    have inH : K.In (hidT s₁.heap H) := fun b o e => by
      refine hidT_get (inK b o e) ?_
      cases q : H b with
      | none => rfl
      | some u =>
        have z := (one b (by rw [q]; exact fun z => nomatch z)).2
        rw [z] at e
        cases e
    obtain ⟨mc, c1, c2⟩ := calm
    have start : Env0 P w K mg (hidT s₁.heap H) callerA [] s₁ H := ⟨rfl, ⟨inH, spaces names, ⟨mb, spaces own, boot⟩, ⟨mc, spaces c1, c2⟩⟩, fun b o e => of_hidT e, Nat.le_of_eq (hidT_size _ _), trivial, fun b hb => absurd hb (by simp [frs]), ok, .of_eq gens⟩
    obtain ⟨W, g, hW, G, S, hg⟩ := F _ inH (spaces names)
    have pre : spD W g [.ref a] H (fun v _ => v = .bl true) fun _ _ _ => False := by
      refine ⟨⟨H, [], fun _ => none⟩, [], [.fl (ns.map D.int)], ⟨fun _ _ h => h, rfl, List.nodup_nil, fun _ h => (nomatch h), fun _ _ h => (nomatch h), fun i c b h => by simp at h⟩, .one (.fl (vs := ns.map V.int) (by rw [hW]; exact seq) (by simpa using short) (by simp) fun i v d h1 h2 => ?_), ?_⟩
      · rw [List.getElem?_map] at h1 h2
        cases q : ns[i]? with
        | none => rw [q] at h1; cases h1
        | some z =>
          rw [q] at h1 h2
          cases h1
          cases h2
          exact .int z
      · rw [hg]
        exact fun M' H' v _ _ rv => bl_view rv
    refine codeAny_mono (G.go callerA [] s₁ H ⟨[.ref a], []⟩ [.ref a] [.ref a] _ _ room rfl start (bound s₁ (.ref a)) (.cons rfl .nil) pre) fun r s' res => ?_
    cases r with
    | error e =>
      obtain ⟨_, _, _, _, _, _, _, _, _, _, _, _, no⟩ := res
      exact no.elim
    | ok fl =>
      cases fl with
      | ret u =>
        obtain ⟨v, H', os, bare, un, ok', rel, rfl⟩ := res
        obtain rfl : u = Value.bool true := rel
        refine ⟨rfl, OldK.of_keep fun b o e => ?_, os, bare⟩
        rcases only b with z | ⟨ob, xs, z⟩
        · exact un.keep b o e z (fun q => nomatch q) fun q => nomatch q
        · have old := (ok b _ z).1
          rw [e] at old
          cases old
          exact (ok' b _ (un.frzs b o _ z)).1
      | next => exact False.elim res
      | brk => exact False.elim res
      | cont => exact False.elim res
  by_cases hk : K.lookup a = none
  · refine core (fun b => if b = a then some (.frz { cls := .type "list", data := .seq vs.toArray } (.lst (ns.map V.int))) else none) (fun b => ?_) (.inl (.inr ⟨_, if_pos rfl⟩)) (fun b u z => ?_) fun b z => ?_
    · by_cases e : b = a
      · exact .inr ⟨_, _, if_pos e⟩
      · exact .inl (if_neg e)
    · by_cases e : b = a
      · subst e
        cases (if_pos rfl).symm.trans z
        exact ⟨here, by rw [List.length_map]; exact short, vs, _, like, here⟩
      · cases (if_neg e).symm.trans z
    · by_cases e : b = a
      · exact ⟨e, by rw [e]; exact hk⟩
      · exact absurd (if_neg e) z
  · obtain ⟨o, ho⟩ := Option.ne_none_iff_exists'.mp hk
    have same := inK a o ho
    rw [here] at same
    cases same
    exact core (fun _ => none) (fun _ => .inl rfl) (.inr ⟨_, vs.toArray, _, ho, rfl, rfl, rfl, by rw [List.size_toArray, many]; exact short, by simpa using like⟩) (fun b u z => nomatch z) fun b z => absurd rfl z
/-- the end of a law's row -/
theorem walk_g {l : PySem.W.OpenLaw} {n k : Nat} {q : Program} {loose : List Str} {XP : (Str → Option Value) → Heap → Prop} {YP : World → Heap → Prop} {d : DefRec} {K : Params → PySem.W.Frag} {x : Str}
    (hn : l.most = some n) (hn2 : n ≤ sizeLine) (hdf : d.params.defaults = []) (hr : Room k callerA) (hY : ∀ (w : World) (h : Heap), YP w h → (K w.params).In h)
    (F : ∀ (w : World) (mg : Str → Option Value) (fa : Addr) (h : Heap), (K w.params).In h → h.Ns mainGlobals mg → mg d.name = some (.ref fa) →
      ∃ fd : FuncData, (∀ (s : Shared) (u : Value), BindsTo s fd ⟨[u], []⟩ [(x, u)]) ∧
        ∀ base : Heap, (K w.params).In base → base.Ns mainGlobals mg → ∃ (W : Wd) (g : List D → Sto → R D), W.K = K w.params ∧ FnG l.prog w (K w.params) mg base k fa fd [x] (spD W g) ∧ ∀ ns : List Int, ns.length ≤ n → ∃ S, g [.fl (ns.map D.int)] [] = .ok (.bl true) S) :
    PySem.W.WalkO q loose XP YP l.row.toRowW d [] (fun f vs => PySem.call f vs) := by
  refine Att.attach_call hn hdf fun w s₀ s₁ mg mb fa o pm cd doc a vs ns G Y ho hd hcd hmg hobj hints hlen hg => ?_
  have inK := hY w _ Y
  obtain ⟨fd, bound, hF⟩ := F w mg fa _ inK G.T.g hmg
  refine law_g inK G.T.g G.T.b G.T.builtins G.T.nolimit hg hobj hints (Nat.le_trans hlen hn2) hr (fun base h1 h2 => ?_) bound
  obtain ⟨W, g, g1, g2, g3⟩ := hF base h1 h2
  exact ⟨W, g, g1, g2, g3 ns hlen⟩
end Mq
end

section
set_option maxHeartbeats 8000000
/-! Fv1: plain reasoning about runs: what holds behind one. -/
namespace Mq
open PySem L2 PySem.Spec
def R.so {α : Type} (m : R α) (Q : α → Sto → Prop) : Prop := ∃ a S, m = .ok a S ∧ Q a S
/-- behind a statement: on, returned, broken off, on with the next turn -/
def RS.so (m : RS) (N : Sg → Sto → Prop) (T : D → Sto → Prop) (B C : Sg → Sto → Prop) : Prop :=
  (∃ σ S, m = .nx σ S ∧ N σ S) ∨ (∃ d S, m = .rt d S ∧ T d S) ∨ (∃ σ S, m = .bk σ S ∧ B σ S) ∨ ∃ σ S, m = .ct σ S ∧ C σ S
section
variable {α β : Type} {m : R α} {k : α → Sto → R β} {Q : α → Sto → Prop} {Q' : β → Sto → Prop} {S : Sto} {σ : Sg} {a : α} {N B C : Sg → Sto → Prop} {T : D → Sto → Prop} {e : D}
theorem R.so_iff : m.so Q ↔ ∃ a S, m = .ok a S ∧ Q a S := Iff.rfl
theorem so_ok : (R.ok a S).so Q = Q a S := propext ⟨fun ⟨_, _, e, h⟩ => by cases e; exact h, fun h => ⟨a, S, rfl, h⟩⟩
theorem so_no : (R.no : R α).so Q = False := propext ⟨fun ⟨_, _, e, _⟩ => (nomatch e), fun h => False.elim h⟩
theorem so_exc : (R.exc e S : R α).so Q = False := propext ⟨fun ⟨_, _, e, _⟩ => (nomatch e), fun h => False.elim h⟩
theorem R.so_imp {Q2 : α → Sto → Prop} (h : m.so Q) (i : ∀ a S, Q a S → Q2 a S) : m.so Q2 := by
  obtain ⟨a, S, e, h⟩ := h
  exact ⟨a, S, e, i a S h⟩
theorem so_nx : (RS.nx σ S).so N T B C = N σ S := propext ⟨fun h => by
  rcases h with ⟨_, _, e, h⟩ | ⟨_, _, e, h⟩ | ⟨_, _, e, h⟩ | ⟨_, _, e, h⟩ <;> cases e
  exact h, fun h => .inl ⟨_, _, rfl, h⟩⟩
theorem so_rt {d : D} : (RS.rt d S).so N T B C = T d S := propext ⟨fun h => by
  rcases h with ⟨_, _, e, h⟩ | ⟨_, _, e, h⟩ | ⟨_, _, e, h⟩ | ⟨_, _, e, h⟩ <;> cases e
  exact h, fun h => .inr (.inl ⟨_, _, rfl, h⟩)⟩
theorem so_bk : (RS.bk σ S).so N T B C = B σ S := propext ⟨fun h => by
  rcases h with ⟨_, _, e, h⟩ | ⟨_, _, e, h⟩ | ⟨_, _, e, h⟩ | ⟨_, _, e, h⟩ <;> cases e
  exact h, fun h => .inr (.inr (.inl ⟨_, _, rfl, h⟩))⟩
theorem so_ct : (RS.ct σ S).so N T B C = C σ S := propext ⟨fun h => by
  rcases h with ⟨_, _, e, h⟩ | ⟨_, _, e, h⟩ | ⟨_, _, e, h⟩ | ⟨_, _, e, h⟩ <;> cases e
  exact h, fun h => .inr (.inr (.inr ⟨_, _, rfl, h⟩))⟩
theorem so_noS : (RS.no).so N T B C = False := propext ⟨fun h => (by
  rcases h with ⟨_, _, e, h⟩ | ⟨_, _, e, h⟩ | ⟨_, _, e, h⟩ | ⟨_, _, e, h⟩ <;> cases e), fun h => False.elim h⟩
theorem so_excS : (RS.exc e σ S).so N T B C = False := propext ⟨fun h => (by
  rcases h with ⟨_, _, e, h⟩ | ⟨_, _, e, h⟩ | ⟨_, _, e, h⟩ | ⟨_, _, e, h⟩ <;> cases e), fun h => False.elim h⟩
theorem RS.so_imp {m : RS} {N2 B2 C2 : Sg → Sto → Prop} {T2 : D → Sto → Prop} (h : m.so N T B C) (i : ∀ a S, N a S → N2 a S) (j : ∀ a S, T a S → T2 a S) (k : ∀ a S, B a S → B2 a S) (l : ∀ a S, C a S → C2 a S) : m.so N2 T2 B2 C2 := by
  rcases h with ⟨x, y, e, h⟩ | ⟨x, y, e, h⟩ | ⟨x, y, e, h⟩ | ⟨x, y, e, h⟩
  · exact .inl ⟨x, y, e, i _ _ h⟩
  · exact .inr (.inl ⟨x, y, e, j _ _ h⟩)
  · exact .inr (.inr (.inl ⟨x, y, e, k _ _ h⟩))
  · exact .inr (.inr (.inr ⟨x, y, e, l _ _ h⟩))
theorem so_bind : (m.bind k).so Q' = m.so fun a S => (k a S).so Q' := by
  cases m with
  | ok a S => rw [so_ok, bind_ok]
  | exc e S => rw [so_exc, bind_exc, so_exc]
  | no => rw [so_no, bind_no, so_no]
theorem so_nox : m.nox.so Q = m.so Q := by
  cases m with
  | ok a S => rfl
  | exc e S => rw [so_exc]; exact so_no
  | no => rfl
theorem so_opt {o : Option α} : (R.opt S o).so Q = ∃ a, o = some a ∧ Q a S := by
  cases o with
  | none => exact so_no.trans (propext ⟨fun h => h.elim, fun ⟨_, e, _⟩ => nomatch e⟩)
  | some a => exact so_ok.trans (propext ⟨fun h => ⟨a, rfl, h⟩, fun ⟨_, e, h⟩ => by cases e; exact h⟩)
theorem so_some {a : α} : (R.opt S (some a)).so Q = Q a S := so_ok
theorem so_toS {k : α → Sto → RS} : (m.toS σ k).so N T B C = m.so fun a S => (k a S).so N T B C := by
  cases m with
  | ok a S => rw [so_ok]; rfl
  | exc e S => rw [so_exc]; exact so_excS
  | no => rw [so_no]; exact so_noS
theorem so_seq {m : RS} {k : Sg → Sto → RS} : (m.seq k).so N T B C = m.so (fun σ S => (k σ S).so N T B C) T B C := by
  cases m with
  | nx σ S => rw [so_nx]; rfl
  | rt d S => rw [so_rt]; exact so_rt
  | bk σ S => rw [so_bk]; exact so_bk
  | ct σ S => rw [so_ct]; exact so_ct
  | exc e σ S => rw [so_excS]; exact so_excS
  | no => rw [so_noS]; exact so_noS
theorem so_if {p : Prop} [Decidable p] {x : R α} : (if p then x else .no).so Q = (p ∧ x.so Q) := by
  by_cases h : p <;> simp [h, so_no]
end
theorem trunc_same {S S' : Sto} {d : D} (h : S'.length = S.length) : trunc S d S' = S' := by
  unfold trunc
  split
  · rw [← h, List.take_length]
  · rfl
/-- a def's run -/
theorem runF_so {T : FT} {np n : Nat} {ir : Ss} {ds : List D} {S : Sto} {Q : D → Sto → Prop} (hl : ds.length = np)
    (h : (semSs T ir (startD n ds) S).so (fun _ S' => Q .non (trunc S .non S')) (fun d S' => Q d (trunc S d S')) (fun _ _ => False) (fun _ _ => False)) : (runF T np n ir ds S).so Q := by
  unfold runF
  rw [if_pos hl]
  revert h
  cases semSs T ir (startD n ds) S with
  | nx σ S' => intro h; rw [so_nx] at h; exact cast so_ok.symm h
  | rt d S' => intro h; rw [so_rt] at h; exact cast so_ok.symm h
  | bk σ S' => intro h; rw [so_bk] at h; exact False.elim h
  | ct σ S' => intro h; rw [so_ct] at h; exact False.elim h
  | exc e σ S' => intro h; rw [so_excS] at h; exact False.elim h
  | no => intro h; rw [so_noS] at h; exact False.elim h
end Mq
end

section
set_option maxHeartbeats 8000000
/-! Fv2: one equation for each piece of a text. -/
namespace Mq
open PySem L2 PySem.Spec
section
variable {T : FT} {Q : D → Sto → Prop} {Qt : Bool → Sto → Prop} {Qs : List D → Sto → Prop} {Qi : Itm → Sto → Prop} {Qo : Option Int → Sto → Prop} {σ : Sg} {S : Sto} {a b c e o : E} {as : Es} {i j l n k f cl : Nat} {d : D} {cc : Bool} {N B C : Sg → Sto → Prop} {Rt : D → Sto → Prop}
theorem e_var : (semE T (.var i) σ S).so Q = ∃ d, σ[i]? = some (some d) ∧ Q d S := by
  unfold semE
  split
  · rename_i d h
    exact so_ok.trans (propext ⟨fun q => ⟨d, h, q⟩, fun ⟨_, e, q⟩ => by rw [h] at e; cases e; exact q⟩)
  · rename_i h
    exact so_no.trans (propext ⟨fun q => q.elim, fun ⟨d, e, q⟩ => (h d e).elim⟩)
theorem e_cst : (semE T (.cst d) σ S).so Q = Q d S := so_ok
theorem e_bin {op : Operator} : (semE T (.bin op cc a b) σ S).so Q = (semE T a σ S).so fun x S => (semE T b σ S).so fun y S => (binD op cc x y S).so Q := by
  simp only [semE, so_bind]
theorem e_cmp {op : CmpOp} : (semE T (.cmp op a b) σ S).so Q = (semE T a σ S).so fun x S => (semE T b σ S).so fun y S => (cmpD op x y S).so Q := by
  simp only [semE, so_bind]
/-- a truth is asked for -/
def bls (Q : Bool → Sto → Prop) (r : D) (S : Sto) : Prop := ∃ k, r = .bl k ∧ Q k S
theorem bls_bl {k : Bool} {Q : Bool → Sto → Prop} : bls Q (.bl k) S = Q k S := propext ⟨fun ⟨_, e, q⟩ => by cases e; exact q, fun q => ⟨k, rfl, q⟩⟩
/-- by a truth's two ways -/
def way (k : Bool) (A B : Prop) : Prop := (k = true → A) ∧ (k = false → B)
theorem way_t {A B : Prop} : way true A B = A := by simp [way]
theorem way_f {A B : Prop} : way false A B = B := by simp [way]
theorem way_d {p A B : Prop} [Decidable p] : way (decide p) A B = ((p → A) ∧ (¬p → B)) := by simp [way]
theorem way_n {k : Bool} {A B : Prop} : way (!k) A B = way k B A := by cases k <;> simp [way]
theorem e_chain {o1 o2 : CmpOp} : (semE T (.chain o1 o2 a b c) σ S).so Q = (semE T a σ S).so fun x S => (semE T b σ S).so fun y S => (cmpD o1 x y S).so (bls fun k S => way k ((semE T c σ S).so fun z S => (cmpD o2 y z S).so Q) (Q (.bl false) S)) := by
  simp only [semE, so_bind]
  congr 1; funext x S; congr 1; funext y S; congr 1; funext r S
  cases r with
  | bl k => cases k <;> simp [bls_bl, way_t, way_f, so_bind, so_ok]
  | _ => simp [bls, so_no]
theorem e_and : (semE T (.andv a b) σ S).so Q = (semE T a σ S).so (bls fun k S => way k ((semE T b σ S).so Q) (Q (.bl false) S)) := by
  simp only [semE, so_bind]
  congr 1; funext r S
  cases r with
  | bl k => cases k <;> simp [bls_bl, way_t, way_f, so_bind, so_ok]
  | _ => simp [bls, so_no]
theorem e_or : (semE T (.orv a b) σ S).so Q = (semE T a σ S).so (bls fun k S => way k (Q (.bl true) S) ((semE T b σ S).so Q)) := by
  simp only [semE, so_bind]
  congr 1; funext r S
  cases r with
  | bl k => cases k <;> simp [bls_bl, way_t, way_f, so_bind, so_ok]
  | _ => simp [bls, so_no]
theorem e_not : (semE T (.notv a) σ S).so Q = (semE T a σ S).so (bls fun k S => Q (.bl (!k)) S) := by
  simp only [semE, so_bind]
  congr 1; funext r S
  cases r with
  | bl k => simp [bls_bl, so_ok]
  | _ => simp [bls, so_no]
theorem e_ite {t : Te} : (semE T (.ite t a b) σ S).so Q = (semT T t σ S).so fun k S => way k ((semE T a σ S).so Q) ((semE T b σ S).so Q) := by
  simp only [semE, so_bind]
  congr 1; funext k S
  cases k <;> simp [way_t, way_f]
/-- an int is asked for -/
def ints' (Q : Int → Sto → Prop) (r : D) (S : Sto) : Prop := ∃ k, r = .int k ∧ Q k S
theorem ints_int {k : Int} {Q : Int → Sto → Prop} : ints' Q (.int k) S = Q k S := propext ⟨fun ⟨_, e, q⟩ => by cases e; exact q, fun q => ⟨k, rfl, q⟩⟩
theorem e_neg : (semE T (.neg a) σ S).so Q = (semE T a σ S).so (ints' fun k S => Q (.int (-k)) S) := by
  simp only [semE, so_bind]
  congr 1; funext r S
  cases r with
  | int k => simp [ints_int, so_ok]
  | _ => simp [ints', so_no]
theorem e_tup : (semE T (.tup as) σ S).so Q = (semEs T as σ S).so fun xs S => xs.length ≤ sLine ∧ Q (.tup xs) S := by
  simp only [semE, so_bind, so_if, so_ok]
theorem e_lst : (semE T (.lst cc as) σ S).so Q = (semEs T as σ S).so fun xs S => xs.length ≤ sLine ∧ (alloc cc xs S).so Q := by
  simp only [semE, so_bind, so_if]
theorem alloc_t {xs : List D} : (alloc true xs S).so Q = Q (.cell S.length) (S ++ [.lst xs]) := so_ok
theorem alloc_f {xs : List D} : (alloc false xs S).so Q = Q (.lst xs) S := so_ok
theorem e_idx : (semE T (.idx a b) σ S).so Q = (semE T a σ S).so fun x S => (semE T b σ S).so fun y S => (idxD x y S).so Q := by
  simp only [semE, so_bind]
theorem e_cut {lo hi : O} : (semE T (.cut cc a lo hi) σ S).so Q = (semE T a σ S).so fun x S => (semO T lo σ S).so fun l S => (semO T hi σ S).so fun h S => (cutD cc x l h S).so Q := by
  simp only [semE, so_bind]
theorem o_none : (semO T .none σ S).so Qo = Qo none S := so_ok
theorem o_some : (semO T (.some a) σ S).so Qo = (semE T a σ S).so (ints' fun k S => Qo (some k) S) := by
  simp only [semO, so_bind]
  congr 1; funext r S
  cases r with
  | int k => simp [ints_int, so_ok]
  | _ => simp [ints', so_no]
theorem e_fld : (semE T (.fld cl a k) σ S).so Q = (semE T a σ S).so fun x S => (fldD cl x k S).so Q := by
  simp only [semE, so_bind]
theorem e_call : (semE T (.call f as) σ S).so Q = (semEs T as σ S).so fun xs S => (T f xs S).so Q := by
  simp only [semE, so_bind]
theorem e_bi {bb : Bi} : (semE T (.bi bb cc as) σ S).so Q = (semEs T as σ S).so fun xs S => (biD bb cc xs S).so Q := by
  simp only [semE, so_bind]
theorem e_bm {bb : Bm} : (semE T (.bm bb o as) σ S).so Q = (semE T o σ S).so fun x S => (∃ ys, lstOf x S = some ys) ∧ (semEs T as σ S).so fun xs S => (bmD bb x xs S).so Q := by
  simp only [semE, so_bind]
  congr 1; funext x S
  cases h : lstOf x S with
  | none => simp [so_no]
  | some ys => simp [so_bind]
theorem e_frz : (semE T (.frz k a) σ S).so Q = (semE T a σ S).so fun x S => ∃ d S', frz k x S = some (d, S') ∧ Q d S' := by
  simp only [semE, so_bind]
  congr 1; funext x S
  cases h : frz k x S with
  | none => simp [so_no]
  | some p =>
    obtain ⟨d, S'⟩ := p
    exact so_ok.trans (propext ⟨fun q => ⟨d, S', rfl, q⟩, fun ⟨_, _, e, q⟩ => by cases e; exact q⟩)
theorem e_dict {t : Nat} : (semE T (.dict0 t) σ S).so Q = Q (.cell S.length) (S ++ [newDict t]) := so_ok
theorem e_isi {t : Tn} : (semE T (.isi t a) σ S).so Q = (semE T a σ S).so fun x S => ∃ k, tyD x S = some k ∧ Q (.bl (isT k t)) S := by
  simp only [semE, so_bind]
  congr 1; funext x S
  cases h : tyD x S with
  | none => simp [R.opt, so_no]
  | some p => simp [R.opt, so_ok]
theorem e_rev : (semE T (.rev cc a) σ S).so Q = (semE T a σ S).so fun x S => (revD cc x S).so Q := by
  simp only [semE, so_bind]
theorem e_lrng : (semE T (.lrng cc a) σ S).so Q = (semE T a σ S).so (ints' fun n S => (-(2 ^ 62) ≤ n ∧ n ≤ 16777216) ∧ (alloc cc (rngD 0 n.toNat) S).so Q) := by
  simp only [semE, so_bind]
  congr 1; funext r S
  cases r with
  | int k => simp only [ints_int, so_if]
  | _ => simp [ints', so_no]
theorem e_comp {g : G} {own : List Nat} {it : Mq.It} {t : Te} : (semE T (.comp cc g own it t e) σ S).so Q = (semIt T it σ S).so fun p S => (compL (cBody g own (fun σ S => semT T t σ S) (fun σ S => semE T e σ S) σ) p.g p.xs [] S).so fun ds S => (alloc cc ds S).so Q := by
  simp only [semE, so_bind]
theorem s_nil' : (semEs T .nil σ S).so Qs = Qs [] S := so_ok
theorem s_cons' : (semEs T (.cons a as) σ S).so Qs = (semE T a σ S).so fun x S => (semEs T as σ S).so fun xs S => Qs (x :: xs) S := by
  simp only [semEs, so_bind, so_ok]
theorem t_tr : (semT T (.tr a) σ S).so Qt = (semE T a σ S).so fun x S => ∃ k, truD x S = some k ∧ Qt k S := by
  simp only [semT, so_bind, so_opt]
theorem blR_so {r : D} : (blR r S).so Qt = bls Qt r S := by
  cases r with
  | bl k => exact so_ok.trans bls_bl.symm
  | _ => simp [bls, blR, so_no]
theorem t_tb : (semT T (.tb a) σ S).so Qt = (semE T a σ S).so (bls Qt) := by
  simp only [semT, so_bind, blR_so]
theorem t_cmp {op : CmpOp} : (semT T (.tcmp op a b) σ S).so Qt = (semE T a σ S).so fun x S => (semE T b σ S).so fun y S => (cmpD op x y S).so (bls Qt) := by
  simp only [semT, so_bind, blR_so]
theorem t_chain {o1 o2 : CmpOp} : (semT T (.tchain o1 o2 a b c) σ S).so Qt = (semE T a σ S).so fun x S => (semE T b σ S).so fun y S => (cmpD o1 x y S).so (bls fun k S => way k ((semE T c σ S).so fun z S => (cmpD o2 y z S).so (bls Qt)) (Qt false S)) := by
  simp only [semT, so_bind]
  congr 1; funext x S; congr 1; funext y S; congr 1; funext r S
  cases r with
  | bl k =>
    cases k
    · simp [bls_bl, way_f, so_ok]
    · simp only [bls_bl, way_t, so_bind, blR_so]
  | _ => simp [bls, so_no]
theorem t_and {t u : Te} : (semT T (.tand t u) σ S).so Qt = (semT T t σ S).so fun k S => way k ((semT T u σ S).so Qt) (Qt false S) := by
  simp only [semT, so_bind]
  congr 1; funext k S
  cases k <;> simp [way_t, way_f, so_ok]
theorem t_or {t u : Te} : (semT T (.tor t u) σ S).so Qt = (semT T t σ S).so fun k S => way k (Qt true S) ((semT T u σ S).so Qt) := by
  simp only [semT, so_bind]
  congr 1; funext k S
  cases k <;> simp [way_t, way_f, so_ok]
theorem t_not {t : Te} : (semT T (.tnot t) σ S).so Qt = (semT T t σ S).so fun k S => Qt (!k) S := by
  simp only [semT, so_bind, so_ok]
theorem t_yes : (semT T .tyes σ S).so Qt = Qt true S := so_ok
/-! statements -/
theorem m_nil : (semSs T .nil σ S).so N Rt B C = N σ S := so_nx
theorem m_cons {s : Mq.St} {r : Ss} : (semSs T (.cons s r) σ S).so N Rt B C = (semS T s σ S).so (fun σ S => (semSs T r σ S).so N Rt B C) Rt B C := by
  simp only [semSs, so_seq]
theorem m_asg {t : Tg} : (semS T (.asg t e) σ S).so N Rt B C = (semE T e σ S).so fun d S => (semTg T t d σ S).so N := by
  simp only [semS, so_toS, so_nox, so_nx]
theorem g_name : (semTg T (.name i) d σ S).so N = N (σ.set i (some d)) S := so_ok
theorem g_sub : (semTg T (.sub o a) d σ S).so N = (semE T o σ S).so fun x S => (semE T a σ S).so fun y S => ∃ S', setD x y d S = some S' ∧ N σ S' := by
  simp only [semTg, so_bind]
  congr 1; funext x S; congr 1; funext y S
  cases setD x y d S <;> simp [so_no, so_ok]
theorem g_tup2 {t u : Tg} : (semTg T (.tup2 t u) d σ S).so N = ∃ x y, d = .tup [x, y] ∧ (semTg T t x σ S).so fun σ S => (semTg T u y σ S).so N := by
  rw [tg2_eq]
  split
  · rename_i x y
    rw [so_bind]
    exact propext ⟨fun h => ⟨x, y, rfl, h⟩, fun ⟨_, _, e, h⟩ => by cases e; exact h⟩
  · rename_i h
    exact so_no.trans (propext ⟨fun q => q.elim, fun ⟨x, y, e, _⟩ => (h x y e).elim⟩)
theorem m_par2 : (semS T (.par2 i j a b) σ S).so N Rt B C = (semE T a σ S).so fun x S => (semE T b σ S).so fun y S => N ((σ.set i (some x)).set j (some y)) S := by
  simp only [semS, so_toS, so_nx]
theorem m_par3 : (semS T (.par3 i j l a b c) σ S).so N Rt B C = (semE T a σ S).so fun x S => (semE T b σ S).so fun y S => (semE T c σ S).so fun z S => N (((σ.set i (some x)).set j (some y)).set l (some z)) S := by
  simp only [semS, so_toS, so_nx]
theorem m_augS {op : Operator} : (semS T (.augS o a op e) σ S).so N Rt B C = (semE T o σ S).so fun x S => (semE T a σ S).so fun k S => (idxC x k S).so fun y S => (semE T e σ S).so fun z S => (augD op y z S).so fun w S => ∃ S', setD x k w S = some S' ∧ N σ S' := by
  simp only [semS, so_toS]
  congr 1; funext x S; congr 1; funext k S; congr 1; funext y S; congr 1; funext z S; congr 1; funext w S
  cases setD x k w S with
  | none => simp [so_noS]
  | some S' => simp [so_nx]
theorem m_setF : (semS T (.setF cl o k e) σ S).so N Rt B C = (semE T e σ S).so fun d S => (semE T o σ S).so fun x S => ∃ S', setFD cl x k d S = some S' ∧ N σ S' := by
  simp only [semS, so_toS]
  congr 1; funext d S; congr 1; funext x S
  cases setFD cl x k d S with
  | none => simp [so_noS]
  | some S' => simp [so_nx]
theorem m_expr : (semS T (.expr e) σ S).so N Rt B C = (semE T e σ S).so fun _ S => N σ S := by
  simp only [semS, so_toS, so_nx]
theorem m_ret : (semS T (.ret e) σ S).so N Rt B C = (semE T e σ S).so Rt := by
  simp only [semS, so_toS, so_rt]
theorem m_retN : (semS T .retN σ S).so N Rt B C = Rt .non S := so_rt
theorem m_ite {t : Te} {x y : Ss} : (semS T (.ite t x y) σ S).so N Rt B C = (semT T t σ S).so fun k S => way k ((semSs T x σ S).so N Rt B C) ((semSs T y σ S).so N Rt B C) := by
  simp only [semS, so_toS]
  congr 1; funext k S
  cases k <;> simp [way_t, way_f]
theorem m_for {g : G} {it : Mq.It} {body : Ss} : (semS T (.forS g it body) σ S).so N Rt B C = (semIt T it σ S).so fun p S => (forL g (fun σ S => semSs T body σ S) p.g p.xs σ S).so N Rt B C := by
  simp only [semS, so_toS]
theorem m_while {t : Te} {body : Ss} : (semS T (.while t body) σ S).so N Rt B C = (whileL (fun σ S => semT T t σ S) (fun σ S => semSs T body σ S) fuel σ S).so N Rt B C := rfl
theorem m_pass : (semS T .pass σ S).so N Rt B C = N σ S := so_nx
theorem m_brk : (semS T .brk σ S).so N Rt B C = B σ S := so_bk
theorem m_cont : (semS T .cont σ S).so N Rt B C = C σ S := so_ct
theorem m_never : (semS T .never σ S).so N Rt B C = False := so_noS
end
end Mq
end

section
set_option maxHeartbeats 8000000
/-! Fv3: one equation for each operator on known data. -/
namespace Mq
open PySem L2 PySem.Spec
section
variable {Q : D → Sto → Prop} {S : Sto} {x y : Int} {cc : Bool} {xs ys : List D} {d e : D} {n : Nat} {p q : Bool} {s t : Str}
theorem b_add : (binD .Add cc (.int x) (.int y) S).so Q = Q (.int (x + y)) S := so_ok
theorem b_sub : (binD .Sub cc (.int x) (.int y) S).so Q = Q (.int (x - y)) S := so_ok
theorem b_mul : (binD .Mult cc (.int x) (.int y) S).so Q = (((-(2 ^ 64) < x ∧ x < 2 ^ 64) ∨ (-(2 ^ 64) < y ∧ y < 2 ^ 64)) ∧ Q (.int (x * y)) S) := by
  unfold binD; simp only [so_if, so_ok]
theorem b_div : (binD .FloorDiv cc (.int x) (.int y) S).so Q = ((0 < y ∧ y < 2 ^ 64) ∧ Q (.int (x / y)) S) := by
  unfold binD; simp only [so_if, so_ok]
theorem b_mod : (binD .Mod cc (.int x) (.int y) S).so Q = (0 < y ∧ Q (.int (x % y)) S) := by
  unfold binD; simp only [so_if, so_ok]
theorem b_pow : (binD .Pow cc (.int x) (.int y) S).so Q = ((0 ≤ y ∧ y ≤ 1000000 ∧ x.natAbs < 2 ^ 64) ∧ Q (.int (x ^ y.toNat)) S) := by
  unfold binD; simp only [so_if, so_ok]
theorem b_catL : (binD .Add cc (.lst xs) (.lst ys) S).so Q = (xs.length + ys.length ≤ sLine ∧ (alloc cc (xs ++ ys) S).so Q) := by
  show (if xs.length + ys.length ≤ sLine then alloc cc (xs ++ ys) S else R.no).so Q = _
  rw [so_if]
theorem b_catC : (binD .Add cc (.cell n) (.lst ys) S).so Q = match lstOf (.cell n) S with
    | some xs => xs.length + ys.length ≤ sLine ∧ (alloc cc (xs ++ ys) S).so Q
    | none => False := by
  show (match Operator.Add, lstOf (.cell n) S, some ys with | .Add, some xs, some ys => if xs.length + ys.length ≤ sLine then alloc cc (xs ++ ys) S else R.no | _, _, _ => R.no).so Q = _
  cases lstOf (.cell n) S with
  | none => exact so_no
  | some xs => exact so_if
theorem b_repL : (binD .Mult cc (.lst xs) (.int y) S).so Q = ((-(2 ^ 63) ≤ y ∧ y < 2 ^ 63 ∧ xs.length * y.toNat ≤ sLine) ∧ (alloc cc (List.replicate y.toNat xs).flatten S).so Q) := by
  show (if -(2 ^ 63) ≤ y ∧ y < 2 ^ 63 ∧ xs.length * y.toNat ≤ sLine then alloc cc (List.replicate y.toNat xs).flatten S else R.no).so Q = _
  rw [so_if]
theorem b_repT : (binD .Mult cc (.tup xs) (.int y) S).so Q = ((0 ≤ y ∧ y ≤ 1000 ∧ xs.length ≤ 1000) ∧ Q (.tup (List.replicate y.toNat xs).flatten) S) := by
  show (if 0 ≤ y ∧ y ≤ 1000 ∧ xs.length ≤ 1000 then R.ok (.tup (List.replicate y.toNat xs).flatten) S else R.no).so Q = _
  rw [so_if, so_ok]
theorem c_eq : (cmpD .Eq (.int x) (.int y) S).so Q = Q (.bl (decide (x = y))) S := so_ok
theorem c_ne : (cmpD .NotEq (.int x) (.int y) S).so Q = Q (.bl (!decide (x = y))) S := so_ok
theorem c_eqS : (cmpD .Eq (.str s) (.str t) S).so Q = Q (.bl (decide (s = t))) S := so_ok
theorem c_neS : (cmpD .NotEq (.str s) (.str t) S).so Q = Q (.bl (!decide (s = t))) S := so_ok
theorem c_eqG : (cmpD .Eq d e S).so Q = ∃ k, eqD d e S = some k ∧ Q (.bl k) S := by
  unfold cmpD
  dsimp only
  rw [so_opt]
  cases h : eqD d e S <;> simp
theorem c_neG : (cmpD .NotEq d e S).so Q = ∃ k, eqD d e S = some k ∧ Q (.bl (!k)) S := by
  unfold cmpD
  dsimp only
  rw [so_opt]
  cases h : eqD d e S <;> simp
theorem c_lt : (cmpD .Lt (.int x) (.int y) S).so Q = Q (.bl (decide (x < y))) S := so_ok
theorem c_le : (cmpD .LtE (.int x) (.int y) S).so Q = Q (.bl (decide (x ≤ y))) S := so_ok
theorem c_gt : (cmpD .Gt (.int x) (.int y) S).so Q = Q (.bl (decide (y < x))) S := so_ok
theorem c_ge : (cmpD .GtE (.int x) (.int y) S).so Q = Q (.bl (decide (y ≤ x))) S := so_ok
theorem c_is : (cmpD .Is d .non S).so Q = Q (.bl (isNon d)) S := so_ok
theorem c_isn : (cmpD .IsNot d .non S).so Q = Q (.bl (!isNon d)) S := so_ok
theorem c_in : (cmpD .In d e S).so Q = ∃ k, inD d e S = some k ∧ Q (.bl k) S := by
  unfold cmpD
  dsimp only
  rw [so_opt]
  cases h : inD d e S <;> simp
theorem c_nin : (cmpD .NotIn d e S).so Q = ∃ k, inD d e S = some k ∧ Q (.bl (!k)) S := by
  unfold cmpD
  dsimp only
  rw [so_opt]
  cases h : inD d e S <;> simp
theorem x_opt {o : Option D} : (match o with | some d => R.ok d S | none => .no).so Q = ∃ d, o = some d ∧ Q d S := by
  cases o <;> simp [so_ok, so_no]
theorem x_lst : (idxD (.lst xs) (.int x) S).so Q = ∃ d, atI xs x = some d ∧ Q d S := x_opt
theorem x_tup : (idxD (.tup xs) (.int x) S).so Q = ∃ d, atI xs x = some d ∧ Q d S := x_opt
theorem x_ft : (idxD (.ft xs) (.int x) S).so Q = ∃ d, atI xs x = some d ∧ Q d S := x_opt
theorem x_cell (h : S[n]? = some (.lst xs)) : (idxD (.cell n) (.int x) S).so Q = ∃ d, atI xs x = some d ∧ Q d S := by
  have e : idxD (.cell n) (.int x) S = (match atI xs x with | some d => R.ok d S | none => .no) := by
    unfold idxD
    dsimp only
    rw [h]
    unfold idxS seqOf lstOf
    dsimp only
    rw [h]
    rfl
  rw [e]
  exact x_opt
theorem l_cell (h : S[n]? = some (.lst xs)) : lstOf (.cell n) S = some xs := by
  unfold lstOf
  dsimp only
  rw [h]
theorem l_lst : lstOf (.lst xs) S = some xs := rfl
theorem a_cell (h : S[n]? = some (.lst xs)) : (idxC (.cell n) (.int x) S).so Q = ∃ d, atI xs x = some d ∧ Q d S := by
  unfold idxC
  dsimp only
  rw [h]
  exact so_opt
theorem u_add : (augD .Add (.int x) (.int y) S).so Q = Q (.int (x + y)) S := so_ok
theorem u_sub : (augD .Sub (.int x) (.int y) S).so Q = Q (.int (x - y)) S := so_ok
theorem v_cell (h : S[n]? = some (.lst xs)) : setD (.cell n) (.int x) d S = (ixN xs.length x).map fun j => S.set n (.lst (xs.set j d)) := by
  unfold setD
  dsimp only
  rw [h]
  dsimp only
  cases ixN xs.length x <;> rfl
theorem at_nat {α : Type} {l : List α} {k : Nat} : atI l (k : Int) = l[k]? := by
  unfold atI ixN
  rw [if_pos (by omega)]
  by_cases h : (k : Int) < l.length
  · rw [if_pos h]; simp
  · rw [if_neg h]
    simp
    omega
theorem at_pos {α : Type} {l : List α} (h : 0 ≤ x) : atI l x = l[x.toNat]? := by
  obtain ⟨k, rfl⟩ := Int.eq_ofNat_of_zero_le h
  exact at_nat
theorem at0 {α : Type} {l : List α} : atI l 0 = l[0]? := at_nat (k := 0)
theorem at1 {α : Type} {l : List α} : atI l 1 = l[1]? := at_nat (k := 1)
theorem at2 {α : Type} {l : List α} : atI l 2 = l[2]? := at_nat (k := 2)
theorem at3 {α : Type} {l : List α} : atI l 3 = l[3]? := at_nat (k := 3)
theorem ix_pos {m : Nat} (h : 0 ≤ x) (h2 : x < m) : ixN m x = some x.toNat := by
  unfold ixN
  rw [if_pos h, if_pos h2]
theorem f_len : (biD .len cc [d] S).so Q = ∃ k, lenD d S = some k ∧ Q (.int (k : Nat)) S := by
  show (R.opt S ((lenD d S).map fun n => .int (n : Nat))).so Q = _
  rw [so_opt]
  cases h : lenD d S <;> simp
theorem len_lst : lenD (.lst xs) S = some xs.length := rfl
theorem len_tup : lenD (.tup xs) S = some xs.length := rfl
theorem len_ft : lenD (.ft xs) S = some xs.length := rfl
theorem len_fl : lenD (.fl xs) S = (none : Option Nat) := rfl
theorem len_cell (h : S[n]? = some (.lst xs)) : lenD (.cell n) S = some xs.length := by
  unfold lenD seqOf
  dsimp only
  rw [l_cell h]
  rfl
theorem f_abs : (biD .abs cc [.int x] S).so Q = Q (.int (if x < 0 then -x else x)) S := so_ok
theorem f_min : (biD .min2 cc [.int x, .int y] S).so Q = Q (.int (if y < x then y else x)) S := so_ok
theorem f_max : (biD .max2 cc [.int x, .int y] S).so Q = Q (.int (if y > x then y else x)) S := so_ok
theorem f_int : (biD .int1 cc [.int x] S).so Q = Q (.int x) S := so_ok
theorem f_intB : (biD .int1 cc [.bl p] S).so Q = Q (.int (if p then 1 else 0)) S := so_ok
theorem set_look {c : Cell} (h : n < S.length) : (S.set n c)[n]? = some c := by rw [List.getElem?_set, if_pos rfl, if_pos h]
theorem x_cellS (h : n < S.length) : (idxD (.cell n) (.int x) (S.set n (.lst xs))).so Q = ∃ d, atI xs x = some d ∧ Q d (S.set n (.lst xs)) := x_cell (set_look h)
theorem l_cellS (h : n < S.length) : lstOf (.cell n) (S.set n (.lst xs)) = some xs := l_cell (set_look h)
theorem a_cellS (h : n < S.length) : (idxC (.cell n) (.int x) (S.set n (.lst xs))).so Q = ∃ d, atI xs x = some d ∧ Q d (S.set n (.lst xs)) := a_cell (set_look h)
theorem v_cellS (h : n < S.length) : setD (.cell n) (.int x) d (S.set n (.lst xs)) = (ixN xs.length x).map fun j => S.set n (.lst (xs.set j d)) := by
  rw [v_cell (set_look h)]
  simp only [List.set_set]
theorem len_cellS (h : n < S.length) : lenD (.cell n) (S.set n (.lst xs)) = some xs.length := len_cell (set_look h)
theorem ix_nat {m k : Nat} : ixN m (k : Int) = if k < m then some k else none := by
  unfold ixN
  rw [if_pos (by omega)]
  by_cases h : k < m
  · rw [if_pos h, if_pos (by omega)]; simp
  · rw [if_neg h, if_neg (by omega)]
theorem ix0 {m : Nat} : ixN m 0 = if 0 < m then some 0 else none := ix_nat (k := 0)
theorem ix1 {m : Nat} : ixN m 1 = if 1 < m then some 1 else none := ix_nat (k := 1)
theorem ix2 {m : Nat} : ixN m 2 = if 2 < m then some 2 else none := ix_nat (k := 2)
theorem ix3 {m : Nat} : ixN m 3 = if 3 < m then some 3 else none := ix_nat (k := 3)
/-- a store with one cell changed, cut back: nothing to cut -/
theorem trunc_set {c : Cell} {d : D} : trunc S d (S.set n c) = S.set n c := trunc_same (by rw [List.length_set])
theorem trunc_self {d : D} : trunc S d S = S := trunc_same rfl
end
end Mq
end

section
set_option maxHeartbeats 8000000
/-! Fv4: loops, and stores cut back. -/
namespace Mq
open PySem L2 PySem.Spec
section
variable {N B C : Sg → Sto → Prop} {Rt : D → Sto → Prop} {σ : Sg} {S : Sto}
theorem forL_so {g : G} {body : Sg → Sto → RS} {gd : Option (Nat × List D)} (I : Nat → Sg → Sto → Prop) : ∀ (xs : List D) (k : Nat) (σ : Sg) (S : Sto), I k σ S → (∀ i σ S, I i σ S → Itm.ok gd S) →
    (∀ i d σ S, xs[i]? = some d → I (k + i) σ S → ∃ σ1, asg g d σ = some σ1 ∧ (body σ1 S).so (I (k + i + 1)) Rt N (I (k + i + 1))) → (∀ σ S, I (k + xs.length) σ S → N σ S) → (forL g body gd xs σ S).so N Rt B C
  | [], k, σ, S, h, ok, _, hn => by
    unfold forL
    rw [if_pos (ok _ _ _ h), so_nx]
    exact hn σ S h
  | x :: xs, k, σ, S, h, ok, hs, hn => by
    obtain ⟨σ1, h1, h2⟩ := hs 0 x σ S rfl h
    have ih := fun σ S (q : I (k + 1) σ S) => forL_so (g := g) (body := body) I xs (k + 1) σ S q ok (fun i d σ S e q => by
      have z := hs (i + 1) d σ S (by simpa using e) (by rw [show k + (i + 1) = k + 1 + i by omega]; exact q)
      rw [show k + (i + 1) = k + 1 + i by omega] at z
      exact z) (fun σ S q => hn σ S (by rw [List.length_cons, show k + (xs.length + 1) = k + 1 + xs.length by omega]; exact q))
    unfold forL
    rw [if_pos (ok _ _ _ h), h1]
    dsimp only
    revert h2
    cases body σ1 S with
    | nx σ2 S2 => exact fun q => ih σ2 S2 (by rw [so_nx] at q; exact q)
    | ct σ2 S2 => exact fun q => ih σ2 S2 (by rw [so_ct] at q; exact q)
    | bk σ2 S2 => intro q; rw [so_bk] at q; exact cast so_nx.symm q
    | rt d S2 => intro q; rw [so_rt] at q; exact cast so_rt.symm q
    | exc e σ2 S2 => intro q; rw [so_excS] at q; exact q.elim
    | no => intro q; rw [so_noS] at q; exact q.elim
/-- for over what stays -/
theorem for_so {g : G} {body : Sg → Sto → RS} {xs : List D} (I : Nat → Sg → Sto → Prop) (h : I 0 σ S) (hs : ∀ i d σ S, xs[i]? = some d → I i σ S → ∃ σ1, asg g d σ = some σ1 ∧ (body σ1 S).so (I (i + 1)) Rt N (I (i + 1)))
    (hn : ∀ σ S, I xs.length σ S → N σ S) : (forL g body none xs σ S).so N Rt B C :=
  forL_so I xs 0 σ S h (fun _ _ _ _ => trivial) (fun i d σ S e q => by rw [Nat.zero_add] at q ⊢; exact hs i d σ S e q) (fun σ S q => hn σ S (by rw [Nat.zero_add] at q; exact q))
theorem whileL_so {test : Sg → Sto → R Bool} {body : Sg → Sto → RS} (I : Nat → Sg → Sto → Prop) (hs : ∀ n σ S, I n σ S → (test σ S).so fun k S1 => way k (∃ m, m < n ∧ (body σ S1).so (I m) Rt N (I m)) (N σ S1)) :
    ∀ (f n : Nat) (σ : Sg) (S : Sto), I n σ S → n < f → (whileL test body f σ S).so N Rt B C
  | 0, n, σ, S, _, hf => absurd hf (Nat.not_lt_zero _)
  | f + 1, n, σ, S, h, hf => by
    have h1 := hs n σ S h
    unfold whileL
    revert h1
    cases test σ S with
    | ok k S1 =>
      cases k with
      | true =>
        intro h1
        rw [so_ok] at h1
        obtain ⟨m, hm, h2⟩ := h1.1 rfl
        revert h2
        dsimp only
        cases body σ S1 with
        | nx σ2 S2 => exact fun q => whileL_so I hs f m σ2 S2 (by rw [so_nx] at q; exact q) (by omega)
        | ct σ2 S2 => exact fun q => whileL_so I hs f m σ2 S2 (by rw [so_ct] at q; exact q) (by omega)
        | bk σ2 S2 => intro q; rw [so_bk] at q; exact cast so_nx.symm q
        | rt d S2 => intro q; rw [so_rt] at q; exact cast so_rt.symm q
        | exc e σ2 S2 => intro q; rw [so_excS] at q; exact q.elim
        | no => intro q; rw [so_noS] at q; exact q.elim
      | false =>
        intro h1
        rw [so_ok] at h1
        exact cast so_nx.symm (h1.2 rfl)
    | exc e S1 => intro h1; rw [so_exc] at h1; exact h1.elim
    | no => intro h1; rw [so_no] at h1; exact h1.elim
theorem while_so {test : Sg → Sto → R Bool} {body : Sg → Sto → RS} (I : Nat → Sg → Sto → Prop) {n : Nat} (hn : n < fuel) (h : I n σ S) (hs : ∀ n σ S, I n σ S → (test σ S).so fun k S1 => way k (∃ m, m < n ∧ (body σ S1).so (I m) Rt N (I m)) (N σ S1)) :
    (whileL test body fuel σ S).so N Rt B C := whileL_so I hs fuel n σ S h hn
/-- a comprehension that only computes -/
theorem comp_so {body : D → Sto → R (Option D)} {f : D → D} {Q : List D → Sto → Prop} : ∀ (xs acc : List D), (∀ x ∈ xs, body x S = .ok (some (f x)) S) → acc.length + xs.length ≤ sLine → Q (acc ++ xs.map f) S → (compL body none xs acc S).so Q
  | [], acc, _, _, q => by
    unfold compL
    rw [if_pos (show Itm.ok none S from trivial)]
    rw [so_ok]
    simpa using q
  | x :: xs, acc, h, hl, q => by
    unfold compL
    rw [if_pos (show Itm.ok none S from trivial), h x (.head _)]
    dsimp only
    rw [List.length_cons] at hl
    rw [if_pos (by omega)]
    exact comp_so xs (acc ++ [f x]) (fun y hy => h y (.tail _ hy)) (by rw [List.length_append]; simp; omega) (by simpa using q)
/-- new cells behind the old ones, cut back -/
theorem trunc_app {S1 X : Sto} {d : D} (hl : S1.length = S.length) (hd : noRef S.length d = true) (h : ∀ i, i < S.length → S1[i]? = S[i]? ∨ ∃ c, S1[i]? = some c ∧ noRefC S.length c = true) : trunc S d (S1 ++ X) = S1 := by
  unfold trunc
  rw [if_pos ⟨by rw [List.length_append]; omega, hd, fun i hi => by rw [List.getElem?_append_left (by omega)]; exact h i hi⟩, ← hl, List.take_left']
  rfl
theorem trunc_ext {X : Sto} {d : D} (hd : noRef S.length d = true) : trunc S d (S ++ X) = S := trunc_app rfl hd fun _ _ => .inl rfl
end
end Mq
end

section
set_option maxHeartbeats 8000000
/-! Fv5: what is walked. -/
namespace Mq
open PySem L2 PySem.Spec
section
variable {T : FT} {Qi : Itm → Sto → Prop} {σ : Sg} {S : Sto} {a b c : E} {xs ys : List D} {n : Nat}
def seqI (x : D) (S : Sto) : R Itm := match x with
  | .tup xs => .ok ⟨xs, none⟩ S
  | .ft xs => .ok ⟨xs, none⟩ S
  | _ => itmOf x S id
theorem i_seq : (semIt T (.seq a) σ S).so Qi = (semE T a σ S).so fun x S => (seqI x S).so Qi := by
  simp only [semIt, so_bind]
  congr 1
theorem q_tup : (seqI (.tup xs) S).so Qi = Qi ⟨xs, none⟩ S := so_ok
theorem q_ft : (seqI (.ft xs) S).so Qi = Qi ⟨xs, none⟩ S := so_ok
theorem q_lst : (seqI (.lst xs) S).so Qi = Qi ⟨xs, none⟩ S := so_ok
theorem q_fl : (seqI (.fl xs) S).so Qi = Qi ⟨xs, none⟩ S := so_ok
theorem q_cell (h : S[n]? = some (.lst xs)) : (seqI (.cell n) S).so Qi = Qi ⟨xs, some (n, xs)⟩ S := by
  have e : seqI (.cell n) S = .ok ⟨xs, some (n, xs)⟩ S := by
    unfold seqI itmOf
    dsimp only
    rw [h]
    rfl
  rw [e, so_ok]
theorem i_rng1 : (semIt T (.rng1 a) σ S).so Qi = (semE T a σ S).so (ints' fun n S => rngBig n ∧ Qi ⟨rngD 0 n.toNat, none⟩ S) := by
  simp only [semIt, so_bind]
  congr 1; funext r S
  cases r with
  | int k => simp only [ints_int, so_if, so_ok]
  | _ => simp [ints', so_no]
theorem i_rng2 : (semIt T (.rng2 a b) σ S).so Qi = (semE T a σ S).so fun x S => (semE T b σ S).so fun y S => ∃ i j, x = .int i ∧ y = .int j ∧ (rngBig i ∧ rngBig j) ∧ Qi ⟨rngD i (j - i).toNat, none⟩ S := by
  simp only [semIt, so_bind]
  congr 1; funext x S; congr 1; funext y S
  cases x <;> cases y <;> simp [so_no, so_ok, so_if]
theorem i_rng3 : (semIt T (.rng3 a b c) σ S).so Qi = (semE T a σ S).so fun x S => (semE T b σ S).so fun y S => (semE T c σ S).so fun z S => ∃ i j k, x = .int i ∧ y = .int j ∧ z = .int k ∧ (rngBig i ∧ rngBig j ∧ k = -1) ∧ Qi ⟨rngC i (-1) (i - j).toNat, none⟩ S := by
  simp only [semIt, so_bind]
  congr 1; funext x S; congr 1; funext y S; congr 1; funext z S
  cases x <;> cases y <;> cases z <;> simp [so_no, so_ok, so_if]
theorem i_enum : (semIt T (.enum a) σ S).so Qi = (semE T a σ S).so fun x S => (itmOf x S (enumD 0)).so Qi := by
  simp only [semIt, so_bind]
theorem n_lst {f : List D → List D} : (itmOf (.lst xs) S f).so Qi = Qi ⟨f xs, none⟩ S := so_ok
theorem n_cell {f : List D → List D} (h : S[n]? = some (.lst xs)) : (itmOf (.cell n) S f).so Qi = Qi ⟨f xs, some (n, xs)⟩ S := by
  have e : itmOf (.cell n) S f = .ok ⟨f xs, some (n, xs)⟩ S := by
    unfold itmOf
    dsimp only
    rw [h]
  rw [e, so_ok]
theorem y_ii : isT .intT .intT = true := rfl
theorem y_ib : isT .intT .blT = false := rfl
theorem y_bi : isT .blT .intT = true := rfl
theorem y_bb : isT .blT .blT = true := rfl
theorem y_tt : isT .tupT .tupT = true := rfl
theorem y_ss : isT .strT .strT = true := rfl
theorem y_ll : isT .lstT .lstT = true := rfl
theorem tru_bl {k : Bool} : truD (.bl k) S = some k := rfl
theorem cast0 : ((0 : Nat) : Int) = 0 := rfl
theorem cast1 : ((1 : Nat) : Int) = 1 := rfl
theorem cast2 : ((2 : Nat) : Int) = 2 := rfl
theorem cast3 : ((3 : Nat) : Int) = 3 := rfl
theorem cast4 : ((4 : Nat) : Int) = 4 := rfl
variable {Q : D → Sto → Prop} {cc : Bool} {y : D} {z : Cell}
theorem f_listT : (biD .list1 cc [.tup xs] S).so Q = (alloc cc xs S).so Q := rfl
theorem f_listL : (biD .list1 cc [.lst xs] S).so Q = (alloc cc xs S).so Q := rfl
theorem f_listF : (biD .list1 cc [.ft xs] S).so Q = (alloc cc xs S).so Q := rfl
theorem f_listC (h : S[n]? = some (.lst xs)) : (biD .list1 cc [.cell n] S).so Q = (alloc cc xs S).so Q := by
  show (match seqOf (.cell n) S with | some xs => alloc cc xs S | none => .no).so Q = _
  rw [show seqOf (.cell n) S = lstOf (.cell n) S from rfl, l_cell h]
theorem f_tupT : (biD .tup1 cc [.tup xs] S).so Q = Q (.tup xs) S := so_ok
theorem f_tupL : (biD .tup1 cc [.lst xs] S).so Q = Q (.tup xs) S := so_ok
theorem f_tupC (h : S[n]? = some (.lst xs)) : (biD .tup1 cc [.cell n] S).so Q = Q (.tup xs) S := by
  show (match lstOf (.cell n) S with | some xs => R.ok (D.tup xs) S | none => R.no).so Q = _
  rw [l_cell h]
  exact so_ok
theorem p_append (h : S[n]? = some (.lst xs)) : (bmD .append (.cell n) [y] S).so Q = (xs.length < sLine ∧ Q .non (S.set n (.lst (xs ++ [y])))) := by
  have e : bmD .append (.cell n) [y] S = if xs.length < sLine then .ok .non (S.set n (.lst (xs ++ [y]))) else .no := by
    unfold bmD
    dsimp only
    rw [h]
  rw [e, so_if, so_ok]
theorem p_pop0 (h : S[n]? = some (.lst xs)) (h0 : xs ≠ []) : (bmD .popAt (.cell n) [.int 0] S).so Q = Q (xs.head h0) (S.set n (.lst xs.tail)) := by
  have e : bmD .popAt (.cell n) [.int 0] S = .ok (xs.head h0) (S.set n (.lst xs.tail)) := by
    unfold bmD
    dsimp only
    rw [h]
    dsimp only
    cases xs with
    | nil => exact absurd rfl h0
    | cons a r =>
      rw [if_pos (by omega)]
      have q : seqIndex? 0 (a :: r).length = some 0 := by
        unfold seqIndex?
        simp
      rw [q]
      rfl
  rw [e, so_ok]
theorem app_look : (S ++ [z])[S.length]? = some z := by simp
theorem app_set {z' : Cell} : (S ++ [z]).set S.length z' = S ++ [z'] := by simp
theorem app_len : (S ++ [z]).length = S.length + 1 := by simp
end
end Mq
end

section
set_option maxHeartbeats 8000000
namespace Mq
open PySem L2 PySem.Spec PyProof.Rows
def top (i : Nat) : Stmt := PySem.Challenge.pw_bearsmisses_k86_passed_for_ever.main.body.getD i (.Pass ⟨0, 0, 0, 0⟩)
def cfs : List (List Str) := []
def csL : List (Str × D) := [("MAX_PLACES", (.int 12)), ("MAX_COMPARISONS", (.int 400))]
def bsL : List Str := ["range", "repr", "sum", "tuple", "list", "enumerate", "isinstance", "bool", "int", "len", "str", "abs"]
def nt_0 : Nt := nt0 csL bsL cfs
noncomputable def T_0 : FT := fun _ _ _ => .no
/-! row_after -/
abbrev st_row_after : Stmt := top 11
def N_row_after : List Str := ["block", "row", "now", "step"]
def ir_row_after : Ss := (.cons (.asg (.name 2) (.bi .list1 true (.cons (.var 1) .nil)))
    (.cons (.forS (.name 3) (.seq (.var 0))
    (.cons (.ite (.tcmp .Eq (.idx (.var 3) (.cst (.int 0))) (.cst (.str "arrive")))
    (.cons (.expr (.bm .append (.var 2) (.cons (.cst (.int 0)) .nil)))
    .nil)
    (.cons (.ite (.tcmp .Eq (.idx (.var 3) (.cst (.int 0))) (.cst (.str "serve")))
    (.cons (.expr (.bm .popAt (.var 2) (.cons (.cst (.int 0)) .nil)))
    .nil)
    (.cons (.ite (.tcmp .Gt (.idx (.var 2) (.idx (.var 3) (.cst (.int 1)))) (.idx (.var 2) (.bin .Add false (.idx (.var 3) (.cst (.int 1))) (.cst (.int 1)))))
    (.cons (.asg (.tup2 (.sub (.var 2) (.idx (.var 3) (.cst (.int 1)))) (.sub (.var 2) (.bin .Add false (.idx (.var 3) (.cst (.int 1))) (.cst (.int 1))))) (.tup (.cons (.cst (.int 0)) (.cons (.cst (.int 1)) .nil))))
    .nil)
    .nil)
    .nil))
    .nil))
    .nil))
    (.cons (.ret (.bi .tup1 false (.cons (.var 2) .nil)))
    .nil)))
theorem chk_row_after : chkSs 60 ⟨nt_0, N_row_after, defScope st_row_after, fun _ => true⟩ ir_row_after (defBody st_row_after) = true := by decide +kernel
noncomputable def F_row_after : List D → Sto → R D := runF T_0 2 4 ir_row_after
def nt_1 : Nt := { nt_0 with fs := ("row_after", 0) :: nt_0.fs }
noncomputable def T_1 : FT := tbl T_0 0 (fun ds S => F_row_after (ds ++ []) S)
/-! is_integer -/
abbrev st_is_integer : Stmt := top 6
def N_is_integer : List Str := ["thing"]
def ir_is_integer : Ss := (.cons (.ret (.andv (.isi .intT (.var 0)) (.notv (.isi .blT (.var 0)))))
    .nil)
theorem chk_is_integer : chkSs 60 ⟨nt_1, N_is_integer, defScope st_is_integer, fun _ => true⟩ ir_is_integer (defBody st_is_integer) = true := by decide +kernel
noncomputable def F_is_integer : List D → Sto → R D := runF T_1 1 1 ir_is_integer
def nt_2 : Nt := { nt_1 with fs := ("is_integer", 1) :: nt_1.fs }
noncomputable def T_2 : FT := tbl T_1 1 (fun ds S => F_is_integer (ds ++ []) S)
/-! is_step -/
abbrev st_is_step : Stmt := top 8
def N_is_step : List Str := ["thing"]
def ir_is_step : Ss := (.cons (.ite (.tor (.tnot (.tr (.isi .tupT (.var 0)))) (.tor (.tcmp .Eq (.bi .len false (.cons (.var 0) .nil)) (.cst (.int 0))) (.tnot (.tr (.isi .strT (.idx (.var 0) (.cst (.int 0))))))))
    (.cons (.ret (.cst (.bl false)))
    .nil)
    .nil)
    (.cons (.ite (.tcmp .Eq (.bi .len false (.cons (.var 0) .nil)) (.cst (.int 1)))
    (.cons (.ret (.cmp .In (.idx (.var 0) (.cst (.int 0))) (.tup (.cons (.cst (.str "arrive")) (.cons (.cst (.str "serve")) .nil)))))
    .nil)
    .nil)
    (.cons (.ret (.andv (.cmp .Eq (.bi .len false (.cons (.var 0) .nil)) (.cst (.int 2))) (.andv (.cmp .Eq (.idx (.var 0) (.cst (.int 0))) (.cst (.str "compare"))) (.andv (.call 1 (.cons (.idx (.var 0) (.cst (.int 1))) .nil)) (.cmp .GtE (.idx (.var 0) (.cst (.int 1))) (.cst (.int 0)))))))
    .nil)))
theorem chk_is_step : chkSs 60 ⟨nt_2, N_is_step, defScope st_is_step, fun _ => true⟩ ir_is_step (defBody st_is_step) = true := by decide +kernel
noncomputable def F_is_step : List D → Sto → R D := runF T_2 1 1 ir_is_step
def nt_3 : Nt := { nt_2 with fs := ("is_step", 2) :: nt_2.fs }
noncomputable def T_3 : FT := tbl T_2 2 (fun ds S => F_is_step (ds ++ []) S)
/-! length_after -/
abbrev st_length_after : Stmt := top 9
def N_length_after : List Str := ["step", "length"]
def ir_length_after : Ss := (.cons (.ite (.tcmp .Eq (.idx (.var 0) (.cst (.int 0))) (.cst (.str "arrive")))
    (.cons (.ret (.ite (.tcmp .Lt (.var 1) (.cst (.int 12))) (.bin .Add false (.var 1) (.cst (.int 1))) (.cst .non)))
    .nil)
    .nil)
    (.cons (.ite (.tcmp .Eq (.idx (.var 0) (.cst (.int 0))) (.cst (.str "serve")))
    (.cons (.ret (.ite (.tcmp .Gt (.var 1) (.cst (.int 0))) (.bin .Sub false (.var 1) (.cst (.int 1))) (.cst .non)))
    .nil)
    .nil)
    (.cons (.ret (.ite (.tcmp .LtE (.bin .Add false (.idx (.var 0) (.cst (.int 1))) (.cst (.int 2))) (.var 1)) (.var 1) (.cst .non)))
    .nil)))
theorem chk_length_after : chkSs 60 ⟨nt_3, N_length_after, defScope st_length_after, fun _ => true⟩ ir_length_after (defBody st_length_after) = true := by decide +kernel
noncomputable def F_length_after : List D → Sto → R D := runF T_3 2 2 ir_length_after
def nt_4 : Nt := { nt_3 with fs := ("length_after", 3) :: nt_3.fs }
noncomputable def T_4 : FT := tbl T_3 3 (fun ds S => F_length_after (ds ++ []) S)
/-! need_block -/
abbrev st_need_block : Stmt := top 10
def N_need_block : List Str := ["block", "waiting", "length", "at", "step"]
def ir_need_block : Ss := (.cons (.ite (.tor (.tnot (.tr (.isi .lstT (.var 0)))) (.tcmp .Gt (.bi .len false (.cons (.var 0) .nil)) (.cst (.int 400))))
    (.cons .never
    .nil)
    .nil)
    (.cons (.asg (.name 2) (.var 1))
    (.cons (.forS (.tup2 (.name 3) (.name 4)) (.enum (.var 0))
    (.cons (.asg (.name 2) (.ite (.tr (.call 2 (.cons (.var 4) .nil))) (.call 3 (.cons (.var 4) (.cons (.var 2) .nil))) (.cst .non)))
    (.cons (.ite (.tcmp .Is (.var 2) (.cst .non))
    (.cons .never
    .nil)
    .nil)
    .nil)))
    (.cons (.ite (.tcmp .NotEq (.var 2) (.var 1))
    (.cons .never
    .nil)
    .nil)
    .nil))))
theorem chk_need_block : chkSs 60 ⟨nt_4, N_need_block, defScope st_need_block, fun _ => true⟩ ir_need_block (defBody st_need_block) = true := by decide +kernel
noncomputable def F_need_block : List D → Sto → R D := runF T_4 2 5 ir_need_block
def nt_5 : Nt := { nt_4 with fs := ("need_block", 4) :: nt_4.fs }
noncomputable def T_5 : FT := tbl T_4 4 (fun ds S => F_need_block (ds ++ []) S)
/-! passed_for_ever -/
abbrev st_passed_for_ever : Stmt := top 12
def N_passed_for_ever : List Str := ["block", "waiting", "row", "met"]
def ir_passed_for_ever : Ss := (.cons (.expr (.call 4 (.cons (.var 0) (.cons (.var 1) .nil))))
    (.cons (.par2 2 3 (.bin .Mult false (.tup (.cons (.cst (.int 1)) .nil)) (.var 1)) (.dict0 1))
    (.cons (.while (.tcmp .NotIn (.var 2) (.var 3))
    (.cons (.asg (.sub (.var 3) (.var 2)) (.cst (.bl true)))
    (.cons (.asg (.name 2) (.call 0 (.cons (.var 0) (.cons (.var 2) .nil))))
    .nil)))
    (.cons (.ret (.bi .sum1 false (.cons (.var 2) .nil)))
    .nil))))
theorem chk_passed_for_ever : chkSs 60 ⟨nt_5, N_passed_for_ever, defScope st_passed_for_ever, fun _ => true⟩ ir_passed_for_ever (defBody st_passed_for_ever) = true := by decide +kernel
noncomputable def F_passed_for_ever : List D → Sto → R D := runF T_5 2 4 ir_passed_for_ever
def nt_6 : Nt := { nt_5 with fs := ("passed_for_ever", 5) :: nt_5.fs }
noncomputable def T_6 : FT := tbl T_5 5 (fun ds S => F_passed_for_ever (ds ++ []) S)
/-! law_take -/
abbrev st_law_take : Stmt := top 15
def N_law_take : List Str := ["_law_bag_here", "_law_many", "_law_first", "_law_second", "_law_cell", "_law_value"]
def ir_law_take : Ss := (.cons (.ite (.tcmp .Eq (.idx (.var 0) (.cst (.int 0))) (.cst (.int 0)))
    (.cons (.asg (.name 4) (.cst (.int 0)))
    (.cons (.ite (.tcmp .Lt (.idx (.var 0) (.cst (.int 2))) (.bi .len false (.cons (.idx (.var 0) (.cst (.int 3))) .nil)))
    (.cons (.asg (.name 4) (.idx (.idx (.var 0) (.cst (.int 3))) (.idx (.var 0) (.cst (.int 2)))))
    .nil)
    .nil)
    (.cons (.augS (.var 0) (.cst (.int 2)) .Add (.cst (.int 1)))
    (.cons (.ite (.tcmp .GtE (.var 4) (.cst (.int 1000000000000000000)))
    (.cons (.asg (.sub (.var 0) (.cst (.int 0))) (.var 4))
    .nil)
    .nil)
    (.cons (.asg (.sub (.var 0) (.cst (.int 1))) (.bin .Mod false (.bin .Add false (.bin .Add false (.bin .Mult false (.idx (.var 0) (.cst (.int 1))) (.cst (.int 48271))) (.bin .Mod false (.var 4) (.cst (.int 2147483647)))) (.bin .Mult false (.cst (.int 7919)) (.idx (.var 0) (.cst (.int 2))))) (.cst (.int 2147483647))))
    .nil)))))
    .nil)
    (.cons (.ite (.tcmp .Gt (.idx (.var 0) (.cst (.int 0))) (.cst (.int 0)))
    (.cons (.asg (.name 5) (.bin .Mod false (.idx (.var 0) (.cst (.int 0))) (.var 1)))
    (.cons (.asg (.sub (.var 0) (.cst (.int 0))) (.bin .FloorDiv false (.idx (.var 0) (.cst (.int 0))) (.var 1)))
    (.cons (.ret (.var 5))
    .nil)))
    .nil)
    (.cons (.asg (.name 2) (.bin .Mod false (.bin .Mult false (.bin .Add false (.idx (.var 0) (.cst (.int 1))) (.cst (.int 1))) (.cst (.int 39373))) (.cst (.int 1000000007))))
    (.cons (.asg (.name 3) (.bin .Mod false (.bin .Mult false (.bin .Mod false (.bin .Mult false (.var 2) (.var 2)) (.cst (.int 998244353))) (.cst (.int 30011))) (.cst (.int 998244353))))
    (.cons (.ite (.tcmp .Gt (.var 1) (.cst (.int 1000000)))
    (.cons (.ret (.bin .Mod false (.bin .Add false (.bin .Mult false (.var 3) (.cst (.int 1000000007))) (.var 2)) (.var 1)))
    .nil)
    .nil)
    (.cons (.ret (.bin .Mod false (.bin .FloorDiv false (.var 3) (.cst (.int 7))) (.var 1)))
    .nil))))))
theorem chk_law_take : chkSs 60 ⟨nt_6, N_law_take, defScope st_law_take, fun _ => true⟩ ir_law_take (defBody st_law_take) = true := by decide +kernel
noncomputable def F_law_take : List D → Sto → R D := runF T_6 2 6 ir_law_take
def nt_7 : Nt := { nt_6 with fs := ("_law_take", 6) :: nt_6.fs }
noncomputable def T_7 : FT := tbl T_6 6 (fun ds S => F_law_take (ds ++ []) S)
/-! law_after -/
abbrev st_law_after : Stmt := top 18
def N_law_after : List Str := ["_law_block_here", "_law_row", "_law_now", "_law_step_here", "_law_at"]
def ir_law_after : Ss := (.cons (.asg (.name 2) (.bi .list1 true (.cons (.var 1) .nil)))
    (.cons (.forS (.name 3) (.seq (.var 0))
    (.cons (.ite (.tcmp .Eq (.idx (.var 3) (.cst (.int 0))) (.cst (.str "arrive")))
    (.cons (.expr (.bm .append (.var 2) (.cons (.cst (.bl false)) .nil)))
    .nil)
    (.cons (.ite (.tcmp .Eq (.idx (.var 3) (.cst (.int 0))) (.cst (.str "serve")))
    (.cons (.expr (.bm .popAt (.var 2) (.cons (.cst (.int 0)) .nil)))
    .nil)
    (.cons (.asg (.name 4) (.idx (.var 3) (.cst (.int 1))))
    (.cons (.ite (.tand (.tr (.idx (.var 2) (.var 4))) (.tnot (.tr (.idx (.var 2) (.bin .Add false (.var 4) (.cst (.int 1)))))))
    (.cons (.asg (.tup2 (.sub (.var 2) (.var 4)) (.sub (.var 2) (.bin .Add false (.var 4) (.cst (.int 1))))) (.tup (.cons (.cst (.bl false)) (.cons (.cst (.bl true)) .nil))))
    .nil)
    .nil)
    .nil)))
    .nil))
    .nil))
    (.cons (.ret (.frz 2 (.var 2)))
    .nil)))
theorem chk_law_after : chkSs 60 ⟨nt_7, N_law_after, defScope st_law_after, fun _ => true⟩ ir_law_after (defBody st_law_after) = true := by decide +kernel
noncomputable def F_law_after : List D → Sto → R D := runF T_7 2 5 ir_law_after
def nt_8 : Nt := { nt_7 with fs := ("_law_after", 7) :: nt_7.fs }
noncomputable def T_8 : FT := tbl T_7 7 (fun ds S => F_law_after (ds ++ []) S)
/-! law_due -/
abbrev st_law_due : Stmt := top 19
def N_law_due : List Str := ["_law_block_here", "_law_waiting", "_law_row", "_law_met"]
def ir_law_due : Ss := (.cons (.par2 2 3 (.bin .Mult false (.lst false (.cons (.cst (.bl true)) .nil)) (.var 1)) (.dict0 2))
    (.cons (.while (.tcmp .NotIn (.bi .tup1 false (.cons (.var 2) .nil)) (.var 3))
    (.cons (.asg (.sub (.var 3) (.bi .tup1 false (.cons (.var 2) .nil))) (.cst (.bl true)))
    (.cons (.asg (.name 2) (.call 7 (.cons (.var 0) (.cons (.var 2) .nil))))
    .nil)))
    (.cons (.ret (.bm .count (.var 2) (.cons (.cst (.bl true)) .nil)))
    .nil)))
theorem chk_law_due : chkSs 60 ⟨nt_8, N_law_due, defScope st_law_due, fun _ => true⟩ ir_law_due (defBody st_law_due) = true := by decide +kernel
noncomputable def F_law_due : List D → Sto → R D := runF T_8 2 4 ir_law_due
def nt_9 : Nt := { nt_8 with fs := ("_law_due", 8) :: nt_8.fs }
noncomputable def T_9 : FT := tbl T_8 8 (fun ds S => F_law_due (ds ++ []) S)
/-! law_step -/
abbrev st_law_step : Stmt := top 16
def N_law_step : List Str := ["_law_bag_here", "_law_length", "_law_way"]
def ir_law_step : Ss := (.cons (.asg (.name 2) (.call 6 (.cons (.var 0) (.cons (.cst (.int 6)) .nil))))
    (.cons (.ite (.tand (.tcmp .Eq (.var 2) (.cst (.int 0))) (.tcmp .Lt (.var 1) (.cst (.int 12))))
    (.cons (.ret (.tup (.cons (.tup (.cons (.cst (.str "arrive")) .nil)) (.cons (.bin .Add false (.var 1) (.cst (.int 1))) .nil))))
    .nil)
    .nil)
    (.cons (.ite (.tand (.tcmp .Eq (.var 2) (.cst (.int 1))) (.tcmp .Gt (.var 1) (.cst (.int 0))))
    (.cons (.ret (.tup (.cons (.tup (.cons (.cst (.str "serve")) .nil)) (.cons (.bin .Sub false (.var 1) (.cst (.int 1))) .nil))))
    .nil)
    .nil)
    (.cons (.ite (.tcmp .Gt (.var 1) (.cst (.int 1)))
    (.cons (.ret (.tup (.cons (.tup (.cons (.cst (.str "compare")) (.cons (.idx (.lst false (.cons (.call 6 (.cons (.var 0) (.cons (.bin .Sub false (.var 1) (.cst (.int 1))) .nil))) (.cons (.cst (.int 0)) .nil))) (.bi .int1 false (.cons (.cmp .Eq (.var 2) (.cst (.int 2))) .nil))) .nil))) (.cons (.var 1) .nil))))
    .nil)
    .nil)
    (.cons (.ite (.tcmp .Eq (.var 1) (.cst (.int 0)))
    (.cons (.ret (.tup (.cons (.tup (.cons (.cst (.str "arrive")) .nil)) (.cons (.cst (.int 1)) .nil))))
    .nil)
    .nil)
    (.cons (.ret (.tup (.cons (.tup (.cons (.cst (.str "serve")) .nil)) (.cons (.cst (.int 0)) .nil))))
    .nil))))))
theorem chk_law_step : chkSs 60 ⟨nt_9, N_law_step, defScope st_law_step, fun _ => true⟩ ir_law_step (defBody st_law_step) = true := by decide +kernel
noncomputable def F_law_step : List D → Sto → R D := runF T_9 2 3 ir_law_step
def nt_10 : Nt := { nt_9 with fs := ("_law_step", 9) :: nt_9.fs }
noncomputable def T_10 : FT := tbl T_9 9 (fun ds S => F_law_step (ds ++ []) S)
/-! law_block -/
abbrev st_law_block : Stmt := top 17
def N_law_block : List Str := ["_law_bag_here", "_law_waiting", "_law_k", "_law_found", "_law_lengths", "_law_length", "_law_step_here"]
def ir_law_block : Ss := (.cons (.par3 3 4 5 (.lst true .nil) (.lst true .nil) (.var 1))
    (.cons (.forS (.name 2) (.rng1 (.call 6 (.cons (.var 0) (.cons (.idx (.lst false (.cons (.cst (.int 8)) (.cons (.cst (.int 30)) .nil))) (.call 6 (.cons (.var 0) (.cons (.cst (.int 2)) .nil)))) .nil))))
    (.cons (.expr (.bm .append (.var 4) (.cons (.var 5) .nil)))
    (.cons (.asg (.tup2 (.name 6) (.name 5)) (.call 9 (.cons (.var 0) (.cons (.var 5) .nil))))
    (.cons (.expr (.bm .append (.var 3) (.cons (.var 6) .nil)))
    .nil))))
    (.cons (.while (.tcmp .NotEq (.var 5) (.var 1))
    (.cons (.expr (.bm .append (.var 4) (.cons (.var 5) .nil)))
    (.cons (.expr (.bm .append (.var 3) (.cons (.tup (.cons (.idx (.lst false (.cons (.cst (.str "serve")) (.cons (.cst (.str "arrive")) .nil))) (.bi .int1 false (.cons (.cmp .Lt (.var 5) (.var 1)) .nil))) .nil)) .nil)))
    (.cons (.asg (.name 5) (.bin .Add false (.var 5) (.idx (.lst false (.cons (.neg (.cst (.int 1))) (.cons (.cst (.int 1)) .nil))) (.bi .int1 false (.cons (.cmp .Lt (.var 5) (.var 1)) .nil)))))
    .nil))))
    (.cons (.ret (.frz 4 (.tup (.cons (.var 3) (.cons (.var 4) .nil)))))
    .nil))))
theorem chk_law_block : chkSs 60 ⟨nt_10, N_law_block, defScope st_law_block, fun _ => true⟩ ir_law_block (defBody st_law_block) = true := by decide +kernel
noncomputable def F_law_block : List D → Sto → R D := runF T_10 2 7 ir_law_block
def nt_11 : Nt := { nt_10 with fs := ("_law_block", 10) :: nt_10.fs }
noncomputable def T_11 : FT := tbl T_10 10 (fun ds S => F_law_block (ds ++ []) S)
/-! law_bag -/
abbrev st_law_bag : Stmt := top 14
def N_law_bag : List Str := ["_law_script", "_law_cell"]
def ir_law_bag : Ss := (.cons (.ret (.lst true (.cons (.cst (.int 0)) (.cons (.cst (.int 1234567891)) (.cons (.cst (.int 0)) (.cons (.comp false (.name 1) [1] (.seq (.cut false (.var 0) .none (.some (.cst (.int 63))))) .tyes (.bi .abs false (.cons (.var 1) .nil))) .nil))))))
    .nil)
theorem chk_law_bag : chkSs 60 ⟨nt_11, N_law_bag, defScope st_law_bag, fun _ => true⟩ ir_law_bag (defBody st_law_bag) = true := by decide +kernel
noncomputable def F_law_bag : List D → Sto → R D := runF T_11 1 2 ir_law_bag
def nt_12 : Nt := { nt_11 with fs := ("_law_bag", 11) :: nt_11.fs }
noncomputable def T_12 : FT := tbl T_11 11 (fun ds S => F_law_bag (ds ++ []) S)
/-! law -/
abbrev st_law : Stmt := top 20
def N_law : List Str := ["_law_script", "_law_bag_here", "_law_turn", "_law_waiting", "_law_again", "_law_many", "_law_block_here", "_law_lengths", "_law_due_here", "_law_kept", "_law_at"]
def ir_law : Ss := (.cons (.asg (.name 1) (.call 11 (.cons (.var 0) .nil)))
    (.cons (.forS (.name 2) (.rng1 (.cst (.int 6)))
    (.cons (.asg (.name 3) (.call 6 (.cons (.var 1) (.cons (.cst (.int 13)) .nil))))
    (.cons (.asg (.tup2 (.name 6) (.name 7)) (.call 10 (.cons (.var 1) (.cons (.var 3) .nil))))
    (.cons (.par2 8 9 (.call 8 (.cons (.var 6) (.cons (.var 3) .nil))) (.bi .list1 false (.cons (.var 6) .nil)))
    (.cons (.forS (.name 4) (.rng1 (.cst (.int 2)))
    (.cons (.ite (.tor (.tcmp .NotEq (.bi .repr1 false (.cons (.call 5 (.cons (.var 6) (.cons (.var 3) .nil))) .nil)) (.bi .repr1 false (.cons (.var 8) .nil))) (.tcmp .NotEq (.var 6) (.var 9)))
    (.cons (.ret (.cst (.bl false)))
    .nil)
    .nil)
    .nil))
    (.cons (.asg (.name 5) (.idx (.lst false (.cons (.cst (.int 2)) (.cons (.cst (.int 9)) .nil))) (.bi .int1 false (.cons (.cmp .Eq (.call 6 (.cons (.var 1) (.cons (.cst (.int 8)) .nil))) (.cst (.int 0))) .nil))))
    (.cons (.ite (.tor (.tcmp .Gt (.var 8) (.var 3)) (.tcmp .NotEq (.bi .repr1 false (.cons (.call 5 (.cons (.bin .Mult false (.var 6) (.var 5)) (.cons (.var 3) .nil))) .nil)) (.bi .repr1 false (.cons (.var 8) .nil))))
    (.cons (.ret (.cst (.bl false)))
    .nil)
    .nil)
    (.cons (.ite (.tcmp .NotEq (.var 6) (.lst false .nil))
    (.cons (.asg (.name 10) (.call 6 (.cons (.var 1) (.cons (.bi .len false (.cons (.var 6) .nil)) .nil))))
    (.cons (.ite (.tcmp .NotEq (.bi .repr1 false (.cons (.call 5 (.cons (.bin .Add false (.cut false (.var 6) (.some (.var 10)) .none) (.cut false (.var 6) .none (.some (.var 10)))) (.cons (.idx (.var 7) (.var 10)) .nil))) .nil)) (.bi .repr1 false (.cons (.var 8) .nil)))
    (.cons (.ret (.cst (.bl false)))
    .nil)
    .nil)
    .nil))
    .nil)
    .nil))))))))
    (.cons (.ret (.cst (.bl true)))
    .nil)))
theorem chk_law : chkSs 60 ⟨nt_12, N_law, defScope st_law, fun _ => true⟩ ir_law (defBody st_law) = true := by decide +kernel
noncomputable def F_law : List D → Sto → R D := runF T_12 1 11 ir_law
def nt_13 : Nt := { nt_12 with fs := ("law", 12) :: nt_12.fs }
noncomputable def T_13 : FT := tbl T_12 12 (fun ds S => F_law (ds ++ []) S)
end Mq
end

section
set_option maxHeartbeats 8000000
/-! P86: rows of marks under blocks of steps, with no program in sight. -/
namespace P86
inductive Deed where
  | ar | se | cp (p : Nat)
  deriving DecidableEq
def nxt : Deed → Nat → Option Nat
  | .ar, L => if L < 12 then some (L + 1) else none
  | .se, L => if 0 < L then some (L - 1) else none
  | .cp p, L => if p + 2 ≤ L then some L else none
def run : List Deed → Nat → Option Nat
  | [], L => some L
  | s :: b, L => match nxt s L with
    | some L' => run b L'
    | none => none
def cpR : Nat → List Bool → List Bool
  | 0, x :: y :: v => (x && y) :: (x || y) :: v
  | p + 1, x :: r => x :: cpR p r
  | _, r => r
def stp : Deed → List Bool → List Bool
  | .ar, r => r ++ [false]
  | .se, r => r.tail
  | .cp p, r => cpR p r
def blk (b : List Deed) (r : List Bool) : List Bool := b.foldl (fun r s => stp s r) r
def wt (r : List Bool) : Nat := r.count true
def le : List Bool → List Bool → Prop
  | [], [] => True
  | x :: r, y :: s => (x = true → y = true) ∧ le r s
  | _, _ => False
theorem le_refl : ∀ r : List Bool, le r r
  | [] => trivial
  | _ :: r => ⟨id, le_refl r⟩
theorem le_len : ∀ {r s : List Bool}, le r s → r.length = s.length
  | [], [], _ => rfl
  | _ :: r, _ :: s, h => by simp [le_len h.2]
  | [], _ :: _, h => h.elim
  | _ :: _, [], h => h.elim
theorem le_app : ∀ {r s : List Bool} {z : Bool}, le r s → le (r ++ [z]) (s ++ [z])
  | [], [], z, _ => ⟨id, trivial⟩
  | _ :: r, _ :: s, z, h => ⟨h.1, le_app h.2⟩
  | [], _ :: _, _, h => h.elim
  | _ :: _, [], _, h => h.elim
theorem le_tail : ∀ {r s : List Bool}, le r s → le r.tail s.tail
  | [], [], _ => trivial
  | _ :: r, _ :: s, h => h.2
  | [], _ :: _, h => h.elim
  | _ :: _, [], h => h.elim
theorem le_cp : ∀ (p : Nat) {r s : List Bool}, le r s → le (cpR p r) (cpR p s)
  | 0, [], [], _ => trivial
  | 0, [_], [_], h => h
  | 0, x :: y :: r, z :: w :: s, h => by
    obtain ⟨h1, h2, h3⟩ := h
    refine ⟨?_, ?_, h3⟩
    · cases x <;> cases y <;> cases z <;> cases w <;> simp_all
    · cases x <;> cases y <;> cases z <;> cases w <;> simp_all
  | p + 1, [], [], _ => trivial
  | p + 1, _ :: r, _ :: s, h => ⟨h.1, le_cp p h.2⟩
  | 0, [_], _ :: _ :: _, h => h.2.elim
  | 0, _ :: _ :: _, [_], h => h.2.elim
  | _, [], _ :: _, h => h.elim
  | _, _ :: _, [], h => h.elim
theorem le_stp (s : Deed) {r t : List Bool} (h : le r t) : le (stp s r) (stp s t) := by
  cases s with
  | ar => exact le_app h
  | se => exact le_tail h
  | cp p => exact le_cp p h
theorem le_blk : ∀ (b : List Deed) {r t : List Bool}, le r t → le (blk b r) (blk b t)
  | [], _, _, h => h
  | s :: b, _, _, h => le_blk b (le_stp s h)
theorem len_cp : ∀ (p : Nat) (r : List Bool), (cpR p r).length = r.length
  | 0, [] => rfl
  | 0, [_] => rfl
  | 0, _ :: _ :: _ => rfl
  | p + 1, [] => rfl
  | p + 1, _ :: r => by simp [cpR, len_cp p r]
theorem len_stp {s : Deed} {L L' : Nat} {r : List Bool} (h : nxt s L = some L') (hr : r.length = L) : (stp s r).length = L' := by
  cases s with
  | ar =>
    have h : (if L < 12 then some (L + 1) else none) = some L' := h
    split at h
    · cases h; simp [stp, hr]
    · cases h
  | se =>
    have h : (if 0 < L then some (L - 1) else none) = some L' := h
    split at h
    · cases h; simp [stp, hr]
    · cases h
  | cp p =>
    have h : (if p + 2 ≤ L then some L else none) = some L' := h
    split at h
    · cases h; simp [stp, len_cp, hr]
    · cases h
theorem len_blk : ∀ {b : List Deed} {L L' : Nat} {r : List Bool}, run b L = some L' → r.length = L → (blk b r).length = L'
  | [], L, L', r, h, hr => by cases h; exact hr
  | s :: b, L, L', r, h, hr => by
    unfold run at h
    split at h
    · rename_i M hM
      exact len_blk (b := b) h (len_stp hM hr)
    · cases h
theorem wt_cp : ∀ (p : Nat) (r : List Bool), wt (cpR p r) = wt r
  | 0, [] => rfl
  | 0, [_] => rfl
  | 0, x :: y :: v => by
    unfold wt
    cases x <;> cases y <;> simp [cpR, List.count_cons]
  | p + 1, [] => rfl
  | p + 1, x :: r => by
    have h := wt_cp p r
    unfold wt at h ⊢
    simp only [cpR, List.count_cons, h]
theorem wt_stp (s : Deed) (r : List Bool) : wt (stp s r) ≤ wt r := by
  cases s with
  | ar => simp [stp, wt]
  | se =>
    cases r with
    | nil => exact Nat.le_refl _
    | cons x r => simp [stp, wt, List.count_cons]
  | cp p => exact Nat.le_of_eq (wt_cp p r)
theorem wt_blk : ∀ (b : List Deed) (r : List Bool), wt (blk b r) ≤ wt r
  | [], _ => Nat.le_refl _
  | s :: b, r => Nat.le_trans (wt_blk b (stp s r)) (wt_stp s r)
theorem le_wt : ∀ {r s : List Bool}, le r s → wt r ≤ wt s ∧ (wt r = wt s → r = s)
  | [], [], _ => ⟨Nat.le_refl _, fun _ => rfl⟩
  | x :: r, y :: s, h => by
    obtain ⟨h1, h2⟩ := le_wt h.2
    have h0 := h.1
    unfold wt at *
    simp only [List.count_cons]
    cases x <;> cases y <;> simp_all <;> omega
  | [], _ :: _, h => h.elim
  | _ :: _, [], h => h.elim
theorem le_top : ∀ {r : List Bool}, le r (List.replicate r.length true)
  | [] => trivial
  | _ :: r => ⟨fun _ => rfl, le_top⟩
theorem le_trans : ∀ {r s t : List Bool}, le r s → le s t → le r t
  | [], [], [], _, _ => trivial
  | _ :: r, _ :: s, _ :: t, h, k => ⟨fun e => k.1 (h.1 e), le_trans h.2 k.2⟩
  | [], _ :: _, _, h, _ => h.elim
  | _ :: _, [], _, h, _ => h.elim
  | _, [], _ :: _, _, h => h.elim
  | _, _ :: _, [], _, h => h.elim
/-- n blocks from all marked -/
def it (b : List Deed) (w : Nat) : Nat → List Bool
  | 0 => List.replicate w true
  | n + 1 => blk b (it b w n)
theorem it_len {b : List Deed} {w : Nat} (h : run b w = some w) : ∀ n, (it b w n).length = w
  | 0 => by simp [it]
  | n + 1 => len_blk h (it_len h n)
theorem it_le {b : List Deed} {w : Nat} (h : run b w = some w) : ∀ n, le (it b w (n + 1)) (it b w n)
  | 0 => by
    have e := it_len h 1
    have z := le_top (r := it b w 1)
    rw [e] at z
    exact z
  | n + 1 => le_blk b (it_le h n)
theorem it_wt {b : List Deed} {w : Nat} (h : run b w = some w) (n : Nat) : it b w (n + 1) = it b w n ∨ wt (it b w (n + 1)) < wt (it b w n) := by
  obtain ⟨h1, h2⟩ := le_wt (it_le h n)
  rcases Nat.lt_or_eq_of_le h1 with q | q
  · exact .inr q
  · exact .inl (h2 q)
theorem it_fix {b : List Deed} {w n : Nat} (h : it b w (n + 1) = it b w n) : ∀ m, it b w (n + m) = it b w n
  | 0 => rfl
  | m + 1 => by
    show blk b (it b w (n + m)) = _
    rw [it_fix h m]
    exact h
theorem it_down {b : List Deed} {w : Nat} (h : run b w = some w) : ∀ n, (∃ m, m < n ∧ it b w (m + 1) = it b w m) ∨ wt (it b w n) + n ≤ w
  | 0 => .inr (by simp [it, wt])
  | n + 1 => by
    rcases it_down h n with ⟨m, h1, h2⟩ | q
    · exact .inl ⟨m, by omega, h2⟩
    · rcases it_wt h n with e | e
      · exact .inl ⟨n, by omega, e⟩
      · exact .inr (by omega)
/-- what stays for ever -/
def last (b : List Deed) (w : Nat) : List Bool := it b w (w + 1)
theorem last_fix {b : List Deed} {w : Nat} (h : run b w = some w) : ∀ n, it b w (w + 1 + n) = last b w := by
  rcases it_down h (w + 1) with ⟨m, h1, h2⟩ | q
  · intro n
    unfold last
    have e1 := it_fix h2 (w + 1 - m)
    have e2 := it_fix h2 (w + 1 - m + n)
    rw [show m + (w + 1 - m) = w + 1 by omega] at e1
    rw [show m + (w + 1 - m + n) = w + 1 + n by omega] at e2
    rw [e1, e2]
  · omega
theorem last_blk {b : List Deed} {w : Nat} (h : run b w = some w) : blk b (last b w) = last b w := last_fix h 1
theorem last_wt {b : List Deed} {w : Nat} (h : run b w = some w) : wt (last b w) ≤ w := by
  have e := it_len h (w + 1)
  have q := List.count_le_length (a := true) (l := last b w)
  unfold last at *
  unfold wt
  omega
/-- a row that stays is below -/
theorem below {b : List Deed} {w : Nat} {r : List Bool} (hl : r.length = w) (h : blk b r = r) : ∀ n, le r (it b w n)
  | 0 => by
    have z := le_top (r := r)
    rw [hl] at z
    exact z
  | n + 1 => by
    have z := le_blk b (below hl h n)
    rw [h] at z
    exact z
theorem blk_app (a b : List Deed) (r : List Bool) : blk (a ++ b) r = blk b (blk a r) := List.foldl_append
theorem run_app : ∀ {a b : List Deed} {w : Nat}, run (a ++ b) w = (run a w).bind (run b)
  | [], b, w => rfl
  | s :: a, b, w => by
    show (match nxt s w with | some L' => run (a ++ b) L' | none => none) = _
    cases e : nxt s w with
    | none => simp [run, e]
    | some L =>
      show run (a ++ b) L = _
      rw [run_app]
      simp [run, e]
/-- begun at another place -/
theorem turned {a b : List Deed} {w v : Nat} (h1 : run a w = some v) (h2 : run b v = some w) : wt (last (a ++ b) w) ≤ wt (last (b ++ a) v) := by
  have hf : run (a ++ b) w = some w := by rw [run_app, h1]; exact h2
  have p := last_blk hf
  rw [blk_app] at p
  have hq : blk (b ++ a) (blk a (last (a ++ b) w)) = blk a (last (a ++ b) w) := by rw [blk_app, p]
  have hl : (blk a (last (a ++ b) w)).length = v := len_blk h1 (it_len hf _)
  have z := (le_wt (below hl hq (v + 1))).1
  have y := wt_blk b (blk a (last (a ++ b) w))
  rw [p] at y
  exact Nat.le_trans y z
theorem turned_eq {a b : List Deed} {w v : Nat} (h1 : run a w = some v) (h2 : run b v = some w) : wt (last (a ++ b) w) = wt (last (b ++ a) v) := Nat.le_antisymm (turned h1 h2) (turned h2 h1)
/-- many times -/
def many (b : List Deed) (m : Nat) : List Deed := (List.replicate m b).flatten
theorem many_run {b : List Deed} {w : Nat} (h : run b w = some w) : ∀ m, run (many b m) w = some w
  | 0 => rfl
  | m + 1 => by
    show run (List.replicate (m + 1) b).flatten w = _
    rw [List.replicate_succ, List.flatten_cons, run_app, h]
    exact many_run h m
theorem many_it {b : List Deed} {w : Nat} : ∀ (m n : Nat), blk (many b m) (it b w n) = it b w (n + m)
  | 0, n => rfl
  | m + 1, n => by
    show blk (List.replicate (m + 1) b).flatten (it b w n) = _
    rw [List.replicate_succ, List.flatten_cons, blk_app]
    show blk (many b m) (it b w (n + 1)) = _
    rw [many_it m (n + 1)]
    congr 1
    omega
theorem many_its {b : List Deed} {w m : Nat} : ∀ n, it (many b m) w n = it b w (m * n)
  | 0 => rfl
  | n + 1 => by
    show blk (many b m) (it (many b m) w n) = _
    rw [many_its n, many_it, Nat.mul_succ]
theorem many_last {b : List Deed} {w m : Nat} (h : run b w = some w) (hm : 1 ≤ m) : last (many b m) w = last b w := by
  unfold last
  rw [many_its]
  have z : w + 1 ≤ m * (w + 1) := Nat.le_mul_of_pos_left _ hm
  have e := last_fix h (m * (w + 1) - (w + 1))
  rw [show w + 1 + (m * (w + 1) - (w + 1)) = m * (w + 1) by omega] at e
  exact e
end P86
end

section
set_option maxHeartbeats 8000000
namespace Mq
open PySem L2 PySem.Spec PyProof.Rows
def natInts : List D → Prop
  | [] => True
  | .int i :: r => 0 ≤ i ∧ natInts r
  | _ :: _ => False
theorem natInts_get : ∀ {cs : List D} {i : Nat}, natInts cs → i < cs.length → ∃ k, cs[i]? = some (.int k) ∧ 0 ≤ k
  | [], i, _, h => absurd h (by simp)
  | .int k :: r, 0, h, e => ⟨k, rfl, h.1⟩
  | .int k :: r, i + 1, h, e => by
    obtain ⟨j, h1, h2⟩ := natInts_get (cs := r) (i := i) h.2 (by simpa using e)
    exact ⟨j, by simpa using h1, h2⟩
def Bag (S : Sto) (b : Nat) : Prop := ∃ a x i cs, S[b]? = some (.lst [.int a, .int x, .int i, .lst cs]) ∧ 0 ≤ a ∧ 0 ≤ x ∧ 0 ≤ i ∧ natInts cs
theorem bag_mk {S : Sto} {b : Nat} {a x i : Int} {cs : List D} (h : b < S.length) (h1 : 0 ≤ a) (h2 : 0 ≤ x) (h3 : 0 ≤ i) (h4 : natInts cs) : Bag (S.set b (.lst [.int a, .int x, .int i, .lst cs])) b := ⟨a, x, i, cs, set_look h, h1, h2, h3, h4⟩
theorem take_ok {S : Sto} {b : Nat} {m : Int} {Q : D → Sto → Prop} (B : Bag S b) (h1 : 1 ≤ m) (h2 : m < 2 ^ 64)
    (q : ∀ v c, 0 ≤ v → v < m → Bag (S.set b c) b → Q (.int v) (S.set b c)) : (F_law_take [.cell b, .int m] S).so Q := by
  obtain ⟨a, x, i, cs, hb, ha, hx, hi, hc⟩ := B
  have hlt : b < S.length := (List.getElem?_eq_some_iff.mp hb).1
  have m0 : 0 < m := by omega
  have md : ∀ z : Int, 0 ≤ z % m := fun z => Int.emod_nonneg z (by omega)
  have ml : ∀ z : Int, z % m < m := fun z => Int.emod_lt_of_pos z m0
  have dv : ∀ z : Int, 0 ≤ z → 0 ≤ z / m := fun z h => Int.ediv_nonneg h (by omega)
  have same : S.set b (.lst [.int a, .int x, .int i, .lst cs]) = S := by
    apply List.ext_getElem?
    intro j
    rw [List.getElem?_set]
    by_cases e : b = j
    · subst e; rw [if_pos rfl, if_pos hlt, hb]
    · rw [if_neg e]
  refine runF_so rfl ?_
  unfold startD ir_law_take
  simp only [List.map_cons, List.map_nil, List.length_cons, List.length_nil, List.replicate, List.cons_append, List.nil_append]
  by_cases hik : i < cs.length
  · obtain ⟨k, hk, k0⟩ := natInts_get (cs := cs) (i := i.toNat) hc (by omega)
    have hk' : atI cs i = some (.int k) := by rw [at_pos hi]; exact hk
    simp only [m_nil, m_cons, m_asg, m_par2, m_par3, m_augS, m_setF, m_expr, m_ret, m_retN, m_ite, m_pass, m_brk, m_cont, m_never, g_name, g_sub, g_tup2, e_var, e_cst, e_bin, e_cmp, e_chain, e_and, e_or, e_not, e_ite, e_neg, e_tup, e_lst, e_idx, e_cut, o_none, o_some, e_fld, e_call, e_bi, e_bm, e_frz, e_dict, e_isi, e_rev, e_lrng, s_nil', s_cons', t_tr, t_tb, t_cmp, t_chain, t_and, t_or, t_not, t_yes, m_for, m_while, i_seq, i_rng1, i_rng2, i_rng3, i_enum, q_tup, q_ft, q_lst, q_fl, n_lst, y_ii, y_ib, y_bi, y_bb, y_tt, y_ss, y_ll, f_listT, f_listL, f_listF, f_tupT, f_tupL, Bool.not_true, Bool.not_false, isNon, tru_bl, cast0, cast1, cast2, cast3, cast4, Int.reduceEq, sLine, bls_bl, ints_int, way_t, way_f, way_d, way_n, alloc_t, alloc_f, so_ok, so_no, b_add, b_sub, b_mul, b_div, b_mod, b_pow, b_catL, b_repL, b_repT, c_eq, c_ne, c_eqS, c_neS, c_lt, c_le, c_gt, c_ge, c_is, c_isn, c_in, c_nin, x_lst, x_tup, x_ft, l_lst, u_add, u_sub, at0, at1, at2, at3, f_len, len_lst, len_tup, len_ft, f_abs, f_min, f_max, f_int, f_intB, ix0, ix1, ix2, ix3, trunc_set, trunc_self, List.getElem?_cons_zero, List.getElem?_cons_succ, List.set_cons_zero, List.set_cons_succ, Option.some.injEq, exists_eq_left', exists_eq_left, exists_eq', exists_eq, exists_eq_right, exists_eq_right', D.int.injEq, D.bl.injEq, D.str.injEq, D.tup.injEq, D.lst.injEq, List.cons.injEq, List.length_cons, List.length_nil, List.map_cons, List.map_nil, true_and, and_true, Option.map_some, Option.map_none, Nat.reduceAdd, Nat.reduceLT, Nat.reduceLeDiff, Int.reduceLT, Int.reduceLE, Int.reduceNeg, Int.reducePow, ↓reduceIte, List.length_set, not_true_eq_false, not_false_eq_true, forall_const, false_implies, false_and, and_false, Int.zero_emod, implies_true, or_true, true_or, if_true, if_false, Bool.true_eq_false, Bool.false_eq_true, x_cell hb, l_cell hb, a_cell hb, v_cell hb, x_cellS hlt, l_cellS hlt, a_cellS hlt, v_cellS hlt, hik, hk', m0]
    refine ⟨fun e => ⟨fun g => ?_, fun g => ?_⟩, fun e => ?_⟩
    · refine ⟨fun g2 => ⟨by omega, q _ _ (md _) (ml _) (bag_mk hlt (dv _ (by omega)) (by omega) (by omega) hc)⟩, fun g2 => ?_⟩
      omega
    · refine ⟨fun g2 => ⟨by omega, q _ _ (md _) (ml _) (bag_mk hlt (dv _ (by omega)) (by omega) (by omega) hc)⟩, fun g2 => ⟨by omega, fun g3 => q _ _ (md _) (ml _) (bag_mk hlt (by omega) (by omega) (by omega) hc), fun g3 => q _ _ (md _) (ml _) (bag_mk hlt (by omega) (by omega) (by omega) hc)⟩⟩
    · exact ⟨fun g2 => ⟨by omega, q _ _ (md _) (ml _) (bag_mk hlt (dv _ ha) hx hi hc)⟩, fun g2 => absurd (show 0 < a by omega) g2⟩
  · simp only [m_nil, m_cons, m_asg, m_par2, m_par3, m_augS, m_setF, m_expr, m_ret, m_retN, m_ite, m_pass, m_brk, m_cont, m_never, g_name, g_sub, g_tup2, e_var, e_cst, e_bin, e_cmp, e_chain, e_and, e_or, e_not, e_ite, e_neg, e_tup, e_lst, e_idx, e_cut, o_none, o_some, e_fld, e_call, e_bi, e_bm, e_frz, e_dict, e_isi, e_rev, e_lrng, s_nil', s_cons', t_tr, t_tb, t_cmp, t_chain, t_and, t_or, t_not, t_yes, m_for, m_while, i_seq, i_rng1, i_rng2, i_rng3, i_enum, q_tup, q_ft, q_lst, q_fl, n_lst, y_ii, y_ib, y_bi, y_bb, y_tt, y_ss, y_ll, f_listT, f_listL, f_listF, f_tupT, f_tupL, Bool.not_true, Bool.not_false, isNon, tru_bl, cast0, cast1, cast2, cast3, cast4, Int.reduceEq, sLine, bls_bl, ints_int, way_t, way_f, way_d, way_n, alloc_t, alloc_f, so_ok, so_no, b_add, b_sub, b_mul, b_div, b_mod, b_pow, b_catL, b_repL, b_repT, c_eq, c_ne, c_eqS, c_neS, c_lt, c_le, c_gt, c_ge, c_is, c_isn, c_in, c_nin, x_lst, x_tup, x_ft, l_lst, u_add, u_sub, at0, at1, at2, at3, f_len, len_lst, len_tup, len_ft, f_abs, f_min, f_max, f_int, f_intB, ix0, ix1, ix2, ix3, trunc_set, trunc_self, List.getElem?_cons_zero, List.getElem?_cons_succ, List.set_cons_zero, List.set_cons_succ, Option.some.injEq, exists_eq_left', exists_eq_left, exists_eq', exists_eq, exists_eq_right, exists_eq_right', D.int.injEq, D.bl.injEq, D.str.injEq, D.tup.injEq, D.lst.injEq, List.cons.injEq, List.length_cons, List.length_nil, List.map_cons, List.map_nil, true_and, and_true, Option.map_some, Option.map_none, Nat.reduceAdd, Nat.reduceLT, Nat.reduceLeDiff, Int.reduceLT, Int.reduceLE, Int.reduceNeg, Int.reducePow, ↓reduceIte, List.length_set, not_true_eq_false, not_false_eq_true, forall_const, false_implies, false_and, and_false, Int.zero_emod, implies_true, or_true, true_or, if_true, if_false, Bool.true_eq_false, Bool.false_eq_true, x_cell hb, l_cell hb, a_cell hb, v_cell hb, x_cellS hlt, l_cellS hlt, a_cellS hlt, v_cellS hlt, hik, m0]
    refine ⟨fun e => ?_, fun e => ?_⟩
    · refine ⟨fun g2 => ⟨by omega, q _ _ (md _) (ml _) (bag_mk hlt (dv _ (by omega)) (by omega) (by omega) hc)⟩, fun g2 => ⟨by omega, fun g3 => q _ _ (md _) (ml _) (bag_mk hlt (by omega) (by omega) (by omega) hc), fun g3 => q _ _ (md _) (ml _) (bag_mk hlt (by omega) (by omega) (by omega) hc)⟩⟩
    · exact ⟨fun g2 => ⟨by omega, q _ _ (md _) (ml _) (bag_mk hlt (dv _ ha) hx hi hc)⟩, fun g2 => absurd (show 0 < a by omega) g2⟩
end Mq
end

section
set_option maxHeartbeats 8000000
namespace Mq
open PySem L2 PySem.Spec PyProof.Rows P86
def toD : Deed → D
  | .ar => .tup [.str "arrive"]
  | .se => .tup [.str "serve"]
  | .cp p => .tup [.str "compare", .int p]
section
variable {S : Sto} {Q : D → Sto → Prop}
theorem ne_as : (("arrive" : Str) = "serve") = False := by simp; decide +kernel
theorem ne_sa : (("serve" : Str) = "arrive") = False := by simp; decide +kernel
theorem ne_ca : (("compare" : Str) = "arrive") = False := by simp; decide +kernel
theorem ne_cs : (("compare" : Str) = "serve") = False := by simp; decide +kernel
theorem in_a : inD (.str "arrive") (.tup [.str "arrive", .str "serve"]) S = some true := by
  show some (inV _ _) = _
  decide +kernel
theorem in_s : inD (.str "serve") (.tup [.str "arrive", .str "serve"]) S = some true := by
  show some (inV _ _) = _
  decide +kernel
theorem is_integer_ok {i : Int} (q : Q (.bl true) S) : (F_is_integer [.int i] S).so Q := by
  unfold F_is_integer
  refine runF_so (by rfl) ?_
  unfold startD ir_is_integer
  simp only [List.map_cons, List.map_nil, List.length_cons, List.length_nil, List.replicate, List.cons_append, List.nil_append]
  simp only [m_nil, m_cons, m_asg, m_par2, m_par3, m_augS, m_setF, m_expr, m_ret, m_retN, m_ite, m_pass, m_brk, m_cont, m_never, g_name, g_sub, g_tup2, e_var, e_cst, e_bin, e_cmp, e_chain, e_and, e_or, e_not, e_ite, e_neg, e_tup, e_lst, e_idx, e_cut, o_none, o_some, e_fld, e_call, e_bi, e_bm, e_frz, e_dict, e_isi, e_rev, e_lrng, s_nil', s_cons', t_tr, t_tb, t_cmp, t_chain, t_and, t_or, t_not, t_yes, m_for, m_while, i_seq, i_rng1, i_rng2, i_rng3, i_enum, q_tup, q_ft, q_lst, q_fl, n_lst, y_ii, y_ib, y_bi, y_bb, y_tt, y_ss, y_ll, f_listT, f_listL, f_listF, f_tupT, f_tupL, Bool.not_true, Bool.not_false, isNon, tru_bl, cast0, cast1, cast2, cast3, cast4, Int.reduceEq, sLine, bls_bl, ints_int, way_t, way_f, way_d, way_n, alloc_t, alloc_f, so_ok, so_no, b_add, b_sub, b_mul, b_div, b_mod, b_pow, b_catL, b_repL, b_repT, c_eq, c_ne, c_eqS, c_neS, c_lt, c_le, c_gt, c_ge, c_is, c_isn, c_in, c_nin, x_lst, x_tup, x_ft, l_lst, u_add, u_sub, at0, at1, at2, at3, f_len, len_lst, len_tup, len_ft, f_abs, f_min, f_max, f_int, f_intB, ix0, ix1, ix2, ix3, trunc_set, trunc_self, List.getElem?_cons_zero, List.getElem?_cons_succ, List.set_cons_zero, List.set_cons_succ, Option.some.injEq, exists_eq_left', exists_eq_left, exists_eq', exists_eq, exists_eq_right, exists_eq_right', D.int.injEq, D.bl.injEq, D.str.injEq, D.tup.injEq, D.lst.injEq, List.cons.injEq, List.length_cons, List.length_nil, List.map_cons, List.map_nil, true_and, and_true, Option.map_some, Option.map_none, Nat.reduceAdd, Nat.reduceLT, Nat.reduceLeDiff, Int.reduceLT, Int.reduceLE, Int.reduceNeg, Int.reducePow, ↓reduceIte, List.length_set, not_true_eq_false, not_false_eq_true, forall_const, false_implies, false_and, and_false, Int.zero_emod, implies_true, or_true, true_or, if_true, if_false, Bool.true_eq_false, Bool.false_eq_true, tyD]
  exact q
theorem T2_1 {xs : List D} : T_2 1 xs S = F_is_integer (xs ++ []) S := rfl
theorem is_step_ok {s : Deed} (q : Q (.bl true) S) : (F_is_step [toD s] S).so Q := by
  unfold F_is_step
  refine runF_so (by rfl) ?_
  unfold startD ir_is_step
  simp only [List.map_cons, List.map_nil, List.length_cons, List.length_nil, List.replicate, List.cons_append, List.nil_append]
  cases s with
  | ar =>
    simp only [toD, m_nil, m_cons, m_asg, m_par2, m_par3, m_augS, m_setF, m_expr, m_ret, m_retN, m_ite, m_pass, m_brk, m_cont, m_never, g_name, g_sub, g_tup2, e_var, e_cst, e_bin, e_cmp, e_chain, e_and, e_or, e_not, e_ite, e_neg, e_tup, e_lst, e_idx, e_cut, o_none, o_some, e_fld, e_call, e_bi, e_bm, e_frz, e_dict, e_isi, e_rev, e_lrng, s_nil', s_cons', t_tr, t_tb, t_cmp, t_chain, t_and, t_or, t_not, t_yes, m_for, m_while, i_seq, i_rng1, i_rng2, i_rng3, i_enum, q_tup, q_ft, q_lst, q_fl, n_lst, y_ii, y_ib, y_bi, y_bb, y_tt, y_ss, y_ll, f_listT, f_listL, f_listF, f_tupT, f_tupL, Bool.not_true, Bool.not_false, isNon, tru_bl, cast0, cast1, cast2, cast3, cast4, Int.reduceEq, sLine, bls_bl, ints_int, way_t, way_f, way_d, way_n, alloc_t, alloc_f, so_ok, so_no, b_add, b_sub, b_mul, b_div, b_mod, b_pow, b_catL, b_repL, b_repT, c_eq, c_ne, c_eqS, c_neS, c_lt, c_le, c_gt, c_ge, c_is, c_isn, c_in, c_nin, x_lst, x_tup, x_ft, l_lst, u_add, u_sub, at0, at1, at2, at3, f_len, len_lst, len_tup, len_ft, f_abs, f_min, f_max, f_int, f_intB, ix0, ix1, ix2, ix3, trunc_set, trunc_self, List.getElem?_cons_zero, List.getElem?_cons_succ, List.set_cons_zero, List.set_cons_succ, Option.some.injEq, exists_eq_left', exists_eq_left, exists_eq', exists_eq, exists_eq_right, exists_eq_right', D.int.injEq, D.bl.injEq, D.str.injEq, D.tup.injEq, D.lst.injEq, List.cons.injEq, List.length_cons, List.length_nil, List.map_cons, List.map_nil, true_and, and_true, Option.map_some, Option.map_none, Nat.reduceAdd, Nat.reduceLT, Nat.reduceLeDiff, Int.reduceLT, Int.reduceLE, Int.reduceNeg, Int.reducePow, ↓reduceIte, List.length_set, not_true_eq_false, not_false_eq_true, forall_const, false_implies, false_and, and_false, Int.zero_emod, implies_true, or_true, true_or, if_true, if_false, Bool.true_eq_false, Bool.false_eq_true, tyD, in_a]
    exact q
  | se =>
    simp only [toD, m_nil, m_cons, m_asg, m_par2, m_par3, m_augS, m_setF, m_expr, m_ret, m_retN, m_ite, m_pass, m_brk, m_cont, m_never, g_name, g_sub, g_tup2, e_var, e_cst, e_bin, e_cmp, e_chain, e_and, e_or, e_not, e_ite, e_neg, e_tup, e_lst, e_idx, e_cut, o_none, o_some, e_fld, e_call, e_bi, e_bm, e_frz, e_dict, e_isi, e_rev, e_lrng, s_nil', s_cons', t_tr, t_tb, t_cmp, t_chain, t_and, t_or, t_not, t_yes, m_for, m_while, i_seq, i_rng1, i_rng2, i_rng3, i_enum, q_tup, q_ft, q_lst, q_fl, n_lst, y_ii, y_ib, y_bi, y_bb, y_tt, y_ss, y_ll, f_listT, f_listL, f_listF, f_tupT, f_tupL, Bool.not_true, Bool.not_false, isNon, tru_bl, cast0, cast1, cast2, cast3, cast4, Int.reduceEq, sLine, bls_bl, ints_int, way_t, way_f, way_d, way_n, alloc_t, alloc_f, so_ok, so_no, b_add, b_sub, b_mul, b_div, b_mod, b_pow, b_catL, b_repL, b_repT, c_eq, c_ne, c_eqS, c_neS, c_lt, c_le, c_gt, c_ge, c_is, c_isn, c_in, c_nin, x_lst, x_tup, x_ft, l_lst, u_add, u_sub, at0, at1, at2, at3, f_len, len_lst, len_tup, len_ft, f_abs, f_min, f_max, f_int, f_intB, ix0, ix1, ix2, ix3, trunc_set, trunc_self, List.getElem?_cons_zero, List.getElem?_cons_succ, List.set_cons_zero, List.set_cons_succ, Option.some.injEq, exists_eq_left', exists_eq_left, exists_eq', exists_eq, exists_eq_right, exists_eq_right', D.int.injEq, D.bl.injEq, D.str.injEq, D.tup.injEq, D.lst.injEq, List.cons.injEq, List.length_cons, List.length_nil, List.map_cons, List.map_nil, true_and, and_true, Option.map_some, Option.map_none, Nat.reduceAdd, Nat.reduceLT, Nat.reduceLeDiff, Int.reduceLT, Int.reduceLE, Int.reduceNeg, Int.reducePow, ↓reduceIte, List.length_set, not_true_eq_false, not_false_eq_true, forall_const, false_implies, false_and, and_false, Int.zero_emod, implies_true, or_true, true_or, if_true, if_false, Bool.true_eq_false, Bool.false_eq_true, tyD, in_s]
    exact q
  | cp p =>
    simp only [toD, m_nil, m_cons, m_asg, m_par2, m_par3, m_augS, m_setF, m_expr, m_ret, m_retN, m_ite, m_pass, m_brk, m_cont, m_never, g_name, g_sub, g_tup2, e_var, e_cst, e_bin, e_cmp, e_chain, e_and, e_or, e_not, e_ite, e_neg, e_tup, e_lst, e_idx, e_cut, o_none, o_some, e_fld, e_call, e_bi, e_bm, e_frz, e_dict, e_isi, e_rev, e_lrng, s_nil', s_cons', t_tr, t_tb, t_cmp, t_chain, t_and, t_or, t_not, t_yes, m_for, m_while, i_seq, i_rng1, i_rng2, i_rng3, i_enum, q_tup, q_ft, q_lst, q_fl, n_lst, y_ii, y_ib, y_bi, y_bb, y_tt, y_ss, y_ll, f_listT, f_listL, f_listF, f_tupT, f_tupL, Bool.not_true, Bool.not_false, isNon, tru_bl, cast0, cast1, cast2, cast3, cast4, Int.reduceEq, sLine, bls_bl, ints_int, way_t, way_f, way_d, way_n, alloc_t, alloc_f, so_ok, so_no, b_add, b_sub, b_mul, b_div, b_mod, b_pow, b_catL, b_repL, b_repT, c_eq, c_ne, c_eqS, c_neS, c_lt, c_le, c_gt, c_ge, c_is, c_isn, c_in, c_nin, x_lst, x_tup, x_ft, l_lst, u_add, u_sub, at0, at1, at2, at3, f_len, len_lst, len_tup, len_ft, f_abs, f_min, f_max, f_int, f_intB, ix0, ix1, ix2, ix3, trunc_set, trunc_self, List.getElem?_cons_zero, List.getElem?_cons_succ, List.set_cons_zero, List.set_cons_succ, Option.some.injEq, exists_eq_left', exists_eq_left, exists_eq', exists_eq, exists_eq_right, exists_eq_right', D.int.injEq, D.bl.injEq, D.str.injEq, D.tup.injEq, D.lst.injEq, List.cons.injEq, List.length_cons, List.length_nil, List.map_cons, List.map_nil, true_and, and_true, Option.map_some, Option.map_none, Nat.reduceAdd, Nat.reduceLT, Nat.reduceLeDiff, Int.reduceLT, Int.reduceLE, Int.reduceNeg, Int.reducePow, ↓reduceIte, List.length_set, not_true_eq_false, not_false_eq_true, forall_const, false_implies, false_and, and_false, Int.zero_emod, implies_true, or_true, true_or, if_true, if_false, Bool.true_eq_false, Bool.false_eq_true, tyD, T2_1, List.append_nil]
    refine is_integer_ok ?_
    simp only [m_nil, m_cons, m_asg, m_par2, m_par3, m_augS, m_setF, m_expr, m_ret, m_retN, m_ite, m_pass, m_brk, m_cont, m_never, g_name, g_sub, g_tup2, e_var, e_cst, e_bin, e_cmp, e_chain, e_and, e_or, e_not, e_ite, e_neg, e_tup, e_lst, e_idx, e_cut, o_none, o_some, e_fld, e_call, e_bi, e_bm, e_frz, e_dict, e_isi, e_rev, e_lrng, s_nil', s_cons', t_tr, t_tb, t_cmp, t_chain, t_and, t_or, t_not, t_yes, m_for, m_while, i_seq, i_rng1, i_rng2, i_rng3, i_enum, q_tup, q_ft, q_lst, q_fl, n_lst, y_ii, y_ib, y_bi, y_bb, y_tt, y_ss, y_ll, f_listT, f_listL, f_listF, f_tupT, f_tupL, Bool.not_true, Bool.not_false, isNon, tru_bl, cast0, cast1, cast2, cast3, cast4, Int.reduceEq, sLine, bls_bl, ints_int, way_t, way_f, way_d, way_n, alloc_t, alloc_f, so_ok, so_no, b_add, b_sub, b_mul, b_div, b_mod, b_pow, b_catL, b_repL, b_repT, c_eq, c_ne, c_eqS, c_neS, c_lt, c_le, c_gt, c_ge, c_is, c_isn, c_in, c_nin, x_lst, x_tup, x_ft, l_lst, u_add, u_sub, at0, at1, at2, at3, f_len, len_lst, len_tup, len_ft, f_abs, f_min, f_max, f_int, f_intB, ix0, ix1, ix2, ix3, trunc_set, trunc_self, List.getElem?_cons_zero, List.getElem?_cons_succ, List.set_cons_zero, List.set_cons_succ, Option.some.injEq, exists_eq_left', exists_eq_left, exists_eq', exists_eq, exists_eq_right, exists_eq_right', D.int.injEq, D.bl.injEq, D.str.injEq, D.tup.injEq, D.lst.injEq, List.cons.injEq, List.length_cons, List.length_nil, List.map_cons, List.map_nil, true_and, and_true, Option.map_some, Option.map_none, Nat.reduceAdd, Nat.reduceLT, Nat.reduceLeDiff, Int.reduceLT, Int.reduceLE, Int.reduceNeg, Int.reducePow, ↓reduceIte, List.length_set, not_true_eq_false, not_false_eq_true, forall_const, false_implies, false_and, and_false, Int.zero_emod, implies_true, or_true, true_or, if_true, if_false, Bool.true_eq_false, Bool.false_eq_true]
    rw [decide_eq_true (Int.natCast_nonneg p)]
    exact q
def oD : Option Nat → D
  | some L => .int L
  | none => .non
theorem length_after_ok {s : Deed} {L : Nat} (q : Q (oD (nxt s L)) S) : (F_length_after [toD s, .int L] S).so Q := by
  unfold F_length_after
  refine runF_so (by rfl) ?_
  unfold startD ir_length_after
  simp only [List.map_cons, List.map_nil, List.length_cons, List.length_nil, List.replicate, List.cons_append, List.nil_append]
  cases s with
  | ar =>
    simp only [toD, m_nil, m_cons, m_asg, m_par2, m_par3, m_augS, m_setF, m_expr, m_ret, m_retN, m_ite, m_pass, m_brk, m_cont, m_never, g_name, g_sub, g_tup2, e_var, e_cst, e_bin, e_cmp, e_chain, e_and, e_or, e_not, e_ite, e_neg, e_tup, e_lst, e_idx, e_cut, o_none, o_some, e_fld, e_call, e_bi, e_bm, e_frz, e_dict, e_isi, e_rev, e_lrng, s_nil', s_cons', t_tr, t_tb, t_cmp, t_chain, t_and, t_or, t_not, t_yes, m_for, m_while, i_seq, i_rng1, i_rng2, i_rng3, i_enum, q_tup, q_ft, q_lst, q_fl, n_lst, y_ii, y_ib, y_bi, y_bb, y_tt, y_ss, y_ll, f_listT, f_listL, f_listF, f_tupT, f_tupL, Bool.not_true, Bool.not_false, isNon, tru_bl, cast0, cast1, cast2, cast3, cast4, Int.reduceEq, sLine, bls_bl, ints_int, way_t, way_f, way_d, way_n, alloc_t, alloc_f, so_ok, so_no, b_add, b_sub, b_mul, b_div, b_mod, b_pow, b_catL, b_repL, b_repT, c_eq, c_ne, c_eqS, c_neS, c_lt, c_le, c_gt, c_ge, c_is, c_isn, c_in, c_nin, x_lst, x_tup, x_ft, l_lst, u_add, u_sub, at0, at1, at2, at3, f_len, len_lst, len_tup, len_ft, f_abs, f_min, f_max, f_int, f_intB, ix0, ix1, ix2, ix3, trunc_set, trunc_self, List.getElem?_cons_zero, List.getElem?_cons_succ, List.set_cons_zero, List.set_cons_succ, Option.some.injEq, exists_eq_left', exists_eq_left, exists_eq', exists_eq, exists_eq_right, exists_eq_right', D.int.injEq, D.bl.injEq, D.str.injEq, D.tup.injEq, D.lst.injEq, List.cons.injEq, List.length_cons, List.length_nil, List.map_cons, List.map_nil, true_and, and_true, Option.map_some, Option.map_none, Nat.reduceAdd, Nat.reduceLT, Nat.reduceLeDiff, Int.reduceLT, Int.reduceLE, Int.reduceNeg, Int.reducePow, ↓reduceIte, List.length_set, not_true_eq_false, not_false_eq_true, forall_const, false_implies, false_and, and_false, Int.zero_emod, implies_true, or_true, true_or, if_true, if_false, Bool.true_eq_false, Bool.false_eq_true]
    have q : Q (oD (if L < 12 then some (L + 1) else none)) S := q
    refine ⟨fun h => ?_, fun h => ?_⟩
    · rw [if_pos (by omega)] at q
      exact q
    · rw [if_neg (by omega)] at q
      exact q
  | se =>
    simp only [toD, m_nil, m_cons, m_asg, m_par2, m_par3, m_augS, m_setF, m_expr, m_ret, m_retN, m_ite, m_pass, m_brk, m_cont, m_never, g_name, g_sub, g_tup2, e_var, e_cst, e_bin, e_cmp, e_chain, e_and, e_or, e_not, e_ite, e_neg, e_tup, e_lst, e_idx, e_cut, o_none, o_some, e_fld, e_call, e_bi, e_bm, e_frz, e_dict, e_isi, e_rev, e_lrng, s_nil', s_cons', t_tr, t_tb, t_cmp, t_chain, t_and, t_or, t_not, t_yes, m_for, m_while, i_seq, i_rng1, i_rng2, i_rng3, i_enum, q_tup, q_ft, q_lst, q_fl, n_lst, y_ii, y_ib, y_bi, y_bb, y_tt, y_ss, y_ll, f_listT, f_listL, f_listF, f_tupT, f_tupL, Bool.not_true, Bool.not_false, isNon, tru_bl, cast0, cast1, cast2, cast3, cast4, Int.reduceEq, sLine, bls_bl, ints_int, way_t, way_f, way_d, way_n, alloc_t, alloc_f, so_ok, so_no, b_add, b_sub, b_mul, b_div, b_mod, b_pow, b_catL, b_repL, b_repT, c_eq, c_ne, c_eqS, c_neS, c_lt, c_le, c_gt, c_ge, c_is, c_isn, c_in, c_nin, x_lst, x_tup, x_ft, l_lst, u_add, u_sub, at0, at1, at2, at3, f_len, len_lst, len_tup, len_ft, f_abs, f_min, f_max, f_int, f_intB, ix0, ix1, ix2, ix3, trunc_set, trunc_self, List.getElem?_cons_zero, List.getElem?_cons_succ, List.set_cons_zero, List.set_cons_succ, Option.some.injEq, exists_eq_left', exists_eq_left, exists_eq', exists_eq, exists_eq_right, exists_eq_right', D.int.injEq, D.bl.injEq, D.str.injEq, D.tup.injEq, D.lst.injEq, List.cons.injEq, List.length_cons, List.length_nil, List.map_cons, List.map_nil, true_and, and_true, Option.map_some, Option.map_none, Nat.reduceAdd, Nat.reduceLT, Nat.reduceLeDiff, Int.reduceLT, Int.reduceLE, Int.reduceNeg, Int.reducePow, ↓reduceIte, List.length_set, not_true_eq_false, not_false_eq_true, forall_const, false_implies, false_and, and_false, Int.zero_emod, implies_true, or_true, true_or, if_true, if_false, Bool.true_eq_false, Bool.false_eq_true, ne_sa]
    have q : Q (oD (if 0 < L then some (L - 1) else none)) S := q
    refine ⟨fun h => ?_, fun h => ?_⟩
    · rw [if_pos (by omega)] at q
      have e : ((L - 1 : Nat) : Int) = (L : Int) - 1 := by omega
      have q : Q (.int ((L - 1 : Nat) : Int)) S := q
      rw [e] at q
      exact q
    · rw [if_neg (by omega)] at q
      exact q
  | cp p =>
    simp only [toD, m_nil, m_cons, m_asg, m_par2, m_par3, m_augS, m_setF, m_expr, m_ret, m_retN, m_ite, m_pass, m_brk, m_cont, m_never, g_name, g_sub, g_tup2, e_var, e_cst, e_bin, e_cmp, e_chain, e_and, e_or, e_not, e_ite, e_neg, e_tup, e_lst, e_idx, e_cut, o_none, o_some, e_fld, e_call, e_bi, e_bm, e_frz, e_dict, e_isi, e_rev, e_lrng, s_nil', s_cons', t_tr, t_tb, t_cmp, t_chain, t_and, t_or, t_not, t_yes, m_for, m_while, i_seq, i_rng1, i_rng2, i_rng3, i_enum, q_tup, q_ft, q_lst, q_fl, n_lst, y_ii, y_ib, y_bi, y_bb, y_tt, y_ss, y_ll, f_listT, f_listL, f_listF, f_tupT, f_tupL, Bool.not_true, Bool.not_false, isNon, tru_bl, cast0, cast1, cast2, cast3, cast4, Int.reduceEq, sLine, bls_bl, ints_int, way_t, way_f, way_d, way_n, alloc_t, alloc_f, so_ok, so_no, b_add, b_sub, b_mul, b_div, b_mod, b_pow, b_catL, b_repL, b_repT, c_eq, c_ne, c_eqS, c_neS, c_lt, c_le, c_gt, c_ge, c_is, c_isn, c_in, c_nin, x_lst, x_tup, x_ft, l_lst, u_add, u_sub, at0, at1, at2, at3, f_len, len_lst, len_tup, len_ft, f_abs, f_min, f_max, f_int, f_intB, ix0, ix1, ix2, ix3, trunc_set, trunc_self, List.getElem?_cons_zero, List.getElem?_cons_succ, List.set_cons_zero, List.set_cons_succ, Option.some.injEq, exists_eq_left', exists_eq_left, exists_eq', exists_eq, exists_eq_right, exists_eq_right', D.int.injEq, D.bl.injEq, D.str.injEq, D.tup.injEq, D.lst.injEq, List.cons.injEq, List.length_cons, List.length_nil, List.map_cons, List.map_nil, true_and, and_true, Option.map_some, Option.map_none, Nat.reduceAdd, Nat.reduceLT, Nat.reduceLeDiff, Int.reduceLT, Int.reduceLE, Int.reduceNeg, Int.reducePow, ↓reduceIte, List.length_set, not_true_eq_false, not_false_eq_true, forall_const, false_implies, false_and, and_false, Int.zero_emod, implies_true, or_true, true_or, if_true, if_false, Bool.true_eq_false, Bool.false_eq_true, ne_ca, ne_cs]
    have q : Q (oD (if p + 2 ≤ L then some L else none)) S := q
    refine ⟨fun h => ?_, fun h => ?_⟩
    · rw [if_pos (by omega)] at q
      exact q
    · rw [if_neg (by omega)] at q
      exact q
theorem T4_2 {xs : List D} : T_4 2 xs S = F_is_step (xs ++ []) S := rfl
theorem T4_3 {xs : List D} : T_4 3 xs S = F_length_after (xs ++ []) S := rfl
theorem run_take : ∀ {b : List Deed} {w L : Nat} {i : Nat} {s : Deed}, run (b.take i) w = some L → b[i]? = some s → run (b.take (i + 1)) w = nxt s L := by
  intro b w L i s h e
  rw [List.take_add_one, e, run_app, h]
  show P86.run [s] L = nxt s L
  show (match nxt s L with | some L' => P86.run [] L' | none => none) = _
  cases nxt s L <;> rfl
theorem run_pre : ∀ {b : List Deed} {w v i : Nat}, run b w = some v → ∃ L, run (b.take i) w = some L := by
  intro b w v i h
  have z := run_app (a := b.take i) (b := b.drop i) (w := w)
  rw [List.take_append_drop, h] at z
  cases e : run (b.take i) w with
  | none => rw [e] at z; cases z
  | some L => exact ⟨L, rfl⟩
theorem enum_at {xs : List D} {i : Nat} {d : D} (h : (enumD 0 xs)[i]? = some d) : ∃ e, xs[i]? = some e ∧ d = .tup [.int (i : Nat), e] := by
  have hi := (List.getElem?_eq_some_iff.mp h).1
  rw [enumD_len] at hi
  have e := enumD_get (k := 0) (List.getElem?_eq_getElem hi)
  rw [h] at e
  cases e
  exact ⟨xs[i], by simp [hi], by rw [Nat.zero_add]⟩
theorem need_block_ok {b : List Deed} {w : Nat} (hb : b.length ≤ 400) (hr : run b w = some w) (q : Q .non S) : (F_need_block [.lst (b.map toD), .int w] S).so Q := by
  unfold F_need_block
  refine runF_so (by rfl) ?_
  unfold startD ir_need_block
  simp only [List.map_cons, List.map_nil, List.length_cons, List.length_nil, List.replicate, List.cons_append, List.nil_append]
  simp only [m_nil, m_cons, m_asg, m_par2, m_par3, m_augS, m_setF, m_expr, m_ret, m_retN, m_ite, m_pass, m_brk, m_cont, m_never, g_name, g_sub, g_tup2, e_var, e_cst, e_bin, e_cmp, e_chain, e_and, e_or, e_not, e_ite, e_neg, e_tup, e_lst, e_idx, e_cut, o_none, o_some, e_fld, e_call, e_bi, e_bm, e_frz, e_dict, e_isi, e_rev, e_lrng, s_nil', s_cons', t_tr, t_tb, t_cmp, t_chain, t_and, t_or, t_not, t_yes, m_for, m_while, i_seq, i_rng1, i_rng2, i_rng3, i_enum, q_tup, q_ft, q_lst, q_fl, n_lst, y_ii, y_ib, y_bi, y_bb, y_tt, y_ss, y_ll, f_listT, f_listL, f_listF, f_tupT, f_tupL, Bool.not_true, Bool.not_false, isNon, tru_bl, cast0, cast1, cast2, cast3, cast4, Int.reduceEq, sLine, bls_bl, ints_int, way_t, way_f, way_d, way_n, alloc_t, alloc_f, so_ok, so_no, b_add, b_sub, b_mul, b_div, b_mod, b_pow, b_catL, b_repL, b_repT, c_eq, c_ne, c_eqS, c_neS, c_lt, c_le, c_gt, c_ge, c_is, c_isn, c_in, c_nin, x_lst, x_tup, x_ft, l_lst, u_add, u_sub, at0, at1, at2, at3, f_len, len_lst, len_tup, len_ft, f_abs, f_min, f_max, f_int, f_intB, ix0, ix1, ix2, ix3, trunc_set, trunc_self, List.getElem?_cons_zero, List.getElem?_cons_succ, List.set_cons_zero, List.set_cons_succ, Option.some.injEq, exists_eq_left', exists_eq_left, exists_eq', exists_eq, exists_eq_right, exists_eq_right', D.int.injEq, D.bl.injEq, D.str.injEq, D.tup.injEq, D.lst.injEq, List.cons.injEq, List.length_cons, List.length_nil, List.map_cons, List.map_nil, true_and, and_true, Option.map_some, Option.map_none, Nat.reduceAdd, Nat.reduceLT, Nat.reduceLeDiff, Int.reduceLT, Int.reduceLE, Int.reduceNeg, Int.reducePow, ↓reduceIte, List.length_set, not_true_eq_false, not_false_eq_true, forall_const, false_implies, false_and, and_false, Int.zero_emod, implies_true, or_true, true_or, if_true, if_false, Bool.true_eq_false, Bool.false_eq_true, tyD, List.length_map]
  refine ⟨fun h => absurd h (by omega), fun _ => ?_⟩
  refine for_so (fun i σ S' => S' = S ∧ ∃ L at_ st, run (b.take i) w = some L ∧ σ = [some (.lst (b.map toD)), some (.int w), some (.int L), at_, st]) ⟨rfl, w, _, _, rfl, rfl⟩ ?_ ?_
  · rintro i d σ S' hd ⟨rfl, L, at_, st, hL, rfl⟩
    obtain ⟨e, he, rfl⟩ := enum_at hd
    rw [List.getElem?_map] at he
    obtain ⟨s, hs, rfl⟩ := Option.map_eq_some_iff.mp he
    refine ⟨_, rfl, ?_⟩
    simp only [m_nil, m_cons, m_asg, m_par2, m_par3, m_augS, m_setF, m_expr, m_ret, m_retN, m_ite, m_pass, m_brk, m_cont, m_never, g_name, g_sub, g_tup2, e_var, e_cst, e_bin, e_cmp, e_chain, e_and, e_or, e_not, e_ite, e_neg, e_tup, e_lst, e_idx, e_cut, o_none, o_some, e_fld, e_call, e_bi, e_bm, e_frz, e_dict, e_isi, e_rev, e_lrng, s_nil', s_cons', t_tr, t_tb, t_cmp, t_chain, t_and, t_or, t_not, t_yes, m_for, m_while, i_seq, i_rng1, i_rng2, i_rng3, i_enum, q_tup, q_ft, q_lst, q_fl, n_lst, y_ii, y_ib, y_bi, y_bb, y_tt, y_ss, y_ll, f_listT, f_listL, f_listF, f_tupT, f_tupL, Bool.not_true, Bool.not_false, isNon, tru_bl, cast0, cast1, cast2, cast3, cast4, Int.reduceEq, sLine, bls_bl, ints_int, way_t, way_f, way_d, way_n, alloc_t, alloc_f, so_ok, so_no, b_add, b_sub, b_mul, b_div, b_mod, b_pow, b_catL, b_repL, b_repT, c_eq, c_ne, c_eqS, c_neS, c_lt, c_le, c_gt, c_ge, c_is, c_isn, c_in, c_nin, x_lst, x_tup, x_ft, l_lst, u_add, u_sub, at0, at1, at2, at3, f_len, len_lst, len_tup, len_ft, f_abs, f_min, f_max, f_int, f_intB, ix0, ix1, ix2, ix3, trunc_set, trunc_self, List.getElem?_cons_zero, List.getElem?_cons_succ, List.set_cons_zero, List.set_cons_succ, Option.some.injEq, exists_eq_left', exists_eq_left, exists_eq', exists_eq, exists_eq_right, exists_eq_right', D.int.injEq, D.bl.injEq, D.str.injEq, D.tup.injEq, D.lst.injEq, List.cons.injEq, List.length_cons, List.length_nil, List.map_cons, List.map_nil, true_and, and_true, Option.map_some, Option.map_none, Nat.reduceAdd, Nat.reduceLT, Nat.reduceLeDiff, Int.reduceLT, Int.reduceLE, Int.reduceNeg, Int.reducePow, ↓reduceIte, List.length_set, not_true_eq_false, not_false_eq_true, forall_const, false_implies, false_and, and_false, Int.zero_emod, implies_true, or_true, true_or, if_true, if_false, Bool.true_eq_false, Bool.false_eq_true, T4_2, T4_3, List.append_nil]
    refine is_step_ok ?_
    simp only [m_nil, m_cons, m_asg, m_par2, m_par3, m_augS, m_setF, m_expr, m_ret, m_retN, m_ite, m_pass, m_brk, m_cont, m_never, g_name, g_sub, g_tup2, e_var, e_cst, e_bin, e_cmp, e_chain, e_and, e_or, e_not, e_ite, e_neg, e_tup, e_lst, e_idx, e_cut, o_none, o_some, e_fld, e_call, e_bi, e_bm, e_frz, e_dict, e_isi, e_rev, e_lrng, s_nil', s_cons', t_tr, t_tb, t_cmp, t_chain, t_and, t_or, t_not, t_yes, m_for, m_while, i_seq, i_rng1, i_rng2, i_rng3, i_enum, q_tup, q_ft, q_lst, q_fl, n_lst, y_ii, y_ib, y_bi, y_bb, y_tt, y_ss, y_ll, f_listT, f_listL, f_listF, f_tupT, f_tupL, Bool.not_true, Bool.not_false, isNon, tru_bl, cast0, cast1, cast2, cast3, cast4, Int.reduceEq, sLine, bls_bl, ints_int, way_t, way_f, way_d, way_n, alloc_t, alloc_f, so_ok, so_no, b_add, b_sub, b_mul, b_div, b_mod, b_pow, b_catL, b_repL, b_repT, c_eq, c_ne, c_eqS, c_neS, c_lt, c_le, c_gt, c_ge, c_is, c_isn, c_in, c_nin, x_lst, x_tup, x_ft, l_lst, u_add, u_sub, at0, at1, at2, at3, f_len, len_lst, len_tup, len_ft, f_abs, f_min, f_max, f_int, f_intB, ix0, ix1, ix2, ix3, trunc_set, trunc_self, List.getElem?_cons_zero, List.getElem?_cons_succ, List.set_cons_zero, List.set_cons_succ, Option.some.injEq, exists_eq_left', exists_eq_left, exists_eq', exists_eq, exists_eq_right, exists_eq_right', D.int.injEq, D.bl.injEq, D.str.injEq, D.tup.injEq, D.lst.injEq, List.cons.injEq, List.length_cons, List.length_nil, List.map_cons, List.map_nil, true_and, and_true, Option.map_some, Option.map_none, Nat.reduceAdd, Nat.reduceLT, Nat.reduceLeDiff, Int.reduceLT, Int.reduceLE, Int.reduceNeg, Int.reducePow, ↓reduceIte, List.length_set, not_true_eq_false, not_false_eq_true, forall_const, false_implies, false_and, and_false, Int.zero_emod, implies_true, or_true, true_or, if_true, if_false, Bool.true_eq_false, Bool.false_eq_true, T4_2, T4_3, List.append_nil]
    refine length_after_ok ?_
    have z := run_take hL hs
    obtain ⟨M, hM⟩ := run_pre (i := i + 1) hr
    rw [hM] at z
    rw [← z]
    simp only [m_nil, m_cons, m_asg, m_par2, m_par3, m_augS, m_setF, m_expr, m_ret, m_retN, m_ite, m_pass, m_brk, m_cont, m_never, g_name, g_sub, g_tup2, e_var, e_cst, e_bin, e_cmp, e_chain, e_and, e_or, e_not, e_ite, e_neg, e_tup, e_lst, e_idx, e_cut, o_none, o_some, e_fld, e_call, e_bi, e_bm, e_frz, e_dict, e_isi, e_rev, e_lrng, s_nil', s_cons', t_tr, t_tb, t_cmp, t_chain, t_and, t_or, t_not, t_yes, m_for, m_while, i_seq, i_rng1, i_rng2, i_rng3, i_enum, q_tup, q_ft, q_lst, q_fl, n_lst, y_ii, y_ib, y_bi, y_bb, y_tt, y_ss, y_ll, f_listT, f_listL, f_listF, f_tupT, f_tupL, Bool.not_true, Bool.not_false, isNon, tru_bl, cast0, cast1, cast2, cast3, cast4, Int.reduceEq, sLine, bls_bl, ints_int, way_t, way_f, way_d, way_n, alloc_t, alloc_f, so_ok, so_no, b_add, b_sub, b_mul, b_div, b_mod, b_pow, b_catL, b_repL, b_repT, c_eq, c_ne, c_eqS, c_neS, c_lt, c_le, c_gt, c_ge, c_is, c_isn, c_in, c_nin, x_lst, x_tup, x_ft, l_lst, u_add, u_sub, at0, at1, at2, at3, f_len, len_lst, len_tup, len_ft, f_abs, f_min, f_max, f_int, f_intB, ix0, ix1, ix2, ix3, trunc_set, trunc_self, List.getElem?_cons_zero, List.getElem?_cons_succ, List.set_cons_zero, List.set_cons_succ, Option.some.injEq, exists_eq_left', exists_eq_left, exists_eq', exists_eq, exists_eq_right, exists_eq_right', D.int.injEq, D.bl.injEq, D.str.injEq, D.tup.injEq, D.lst.injEq, List.cons.injEq, List.length_cons, List.length_nil, List.map_cons, List.map_nil, true_and, and_true, Option.map_some, Option.map_none, Nat.reduceAdd, Nat.reduceLT, Nat.reduceLeDiff, Int.reduceLT, Int.reduceLE, Int.reduceNeg, Int.reducePow, ↓reduceIte, List.length_set, not_true_eq_false, not_false_eq_true, forall_const, false_implies, false_and, and_false, Int.zero_emod, implies_true, or_true, true_or, if_true, if_false, Bool.true_eq_false, Bool.false_eq_true, oD]
    exact ⟨M, _, _, hM, rfl, rfl, rfl⟩
  · rintro σ S' ⟨rfl, L, at_, st, hL, rfl⟩
    rw [enumD_len, List.length_map, List.take_length, hr] at hL
    cases hL
    simp only [m_nil, m_cons, m_asg, m_par2, m_par3, m_augS, m_setF, m_expr, m_ret, m_retN, m_ite, m_pass, m_brk, m_cont, m_never, g_name, g_sub, g_tup2, e_var, e_cst, e_bin, e_cmp, e_chain, e_and, e_or, e_not, e_ite, e_neg, e_tup, e_lst, e_idx, e_cut, o_none, o_some, e_fld, e_call, e_bi, e_bm, e_frz, e_dict, e_isi, e_rev, e_lrng, s_nil', s_cons', t_tr, t_tb, t_cmp, t_chain, t_and, t_or, t_not, t_yes, m_for, m_while, i_seq, i_rng1, i_rng2, i_rng3, i_enum, q_tup, q_ft, q_lst, q_fl, n_lst, y_ii, y_ib, y_bi, y_bb, y_tt, y_ss, y_ll, f_listT, f_listL, f_listF, f_tupT, f_tupL, Bool.not_true, Bool.not_false, isNon, tru_bl, cast0, cast1, cast2, cast3, cast4, Int.reduceEq, sLine, bls_bl, ints_int, way_t, way_f, way_d, way_n, alloc_t, alloc_f, so_ok, so_no, b_add, b_sub, b_mul, b_div, b_mod, b_pow, b_catL, b_repL, b_repT, c_eq, c_ne, c_eqS, c_neS, c_lt, c_le, c_gt, c_ge, c_is, c_isn, c_in, c_nin, x_lst, x_tup, x_ft, l_lst, u_add, u_sub, at0, at1, at2, at3, f_len, len_lst, len_tup, len_ft, f_abs, f_min, f_max, f_int, f_intB, ix0, ix1, ix2, ix3, trunc_set, trunc_self, List.getElem?_cons_zero, List.getElem?_cons_succ, List.set_cons_zero, List.set_cons_succ, Option.some.injEq, exists_eq_left', exists_eq_left, exists_eq', exists_eq, exists_eq_right, exists_eq_right', D.int.injEq, D.bl.injEq, D.str.injEq, D.tup.injEq, D.lst.injEq, List.cons.injEq, List.length_cons, List.length_nil, List.map_cons, List.map_nil, true_and, and_true, Option.map_some, Option.map_none, Nat.reduceAdd, Nat.reduceLT, Nat.reduceLeDiff, Int.reduceLT, Int.reduceLE, Int.reduceNeg, Int.reducePow, ↓reduceIte, List.length_set, not_true_eq_false, not_false_eq_true, forall_const, false_implies, false_and, and_false, Int.zero_emod, implies_true, or_true, true_or, if_true, if_false, Bool.true_eq_false, Bool.false_eq_true]
    exact q
end
end Mq
end

section
set_option maxHeartbeats 8000000
namespace Mq
open PySem L2 PySem.Spec PyProof.Rows P86
def rowI (r : List Bool) : List D := r.map fun x => .int (if x then 1 else 0)
def rowB (r : List Bool) : List D := r.map .bl
theorem cp_code : ∀ (p : Nat) (r : List Bool), p + 1 < r.length → ∃ x y, r[p]? = some x ∧ r[p + 1]? = some y ∧ cpR p r = if x = true ∧ y = false then (r.set p false).set (p + 1) true else r
  | 0, x :: y :: v, _ => ⟨x, y, rfl, rfl, by cases x <;> cases y <;> rfl⟩
  | 0, [_], h => absurd h (by simp)
  | 0, [], h => absurd h (by simp)
  | p + 1, [], h => absurd h (by simp)
  | p + 1, z :: r, h => by
    obtain ⟨x, y, h1, h2, h3⟩ := cp_code p r (by simpa using h)
    refine ⟨x, y, by simpa using h1, by simpa using h2, ?_⟩
    show z :: cpR p r = _
    rw [h3]
    split <;> rfl
theorem rowI_set (r : List Bool) (p : Nat) (b : Bool) : (rowI r).set p (.int (if b then 1 else 0)) = rowI (r.set p b) := by
  unfold rowI; rw [List.map_set]
theorem rowB_set (r : List Bool) (p : Nat) (b : Bool) : (rowB r).set p (.bl b) = rowB (r.set p b) := by
  unfold rowB; rw [List.map_set]
theorem blk_take {b : List Deed} {i : Nat} {s : Deed} {r : List Bool} (h : b[i]? = some s) : blk (b.take (i + 1)) r = stp s (blk (b.take i) r) := by
  rw [List.take_add_one, h, blk_app]
  rfl
section
variable {S : Sto} {Q : D → Sto → Prop}
theorem nxt_cp {p L M : Nat} (h : nxt (.cp p) L = some M) : p + 2 ≤ L := by
  have h : (if p + 2 ≤ L then some L else none) = some M := h
  split at h
  · assumption
  · cases h
theorem nxt_se {L M : Nat} (h : nxt .se L = some M) : 0 < L := by
  have h : (if 0 < L then some (L - 1) else none) = some M := h
  split at h
  · assumption
  · cases h
theorem run_le : ∀ {b : List Deed} {w v : Nat}, w ≤ 12 → run b w = some v → v ≤ 12
  | [], w, v, h, e => by cases e; exact h
  | s :: b, w, v, h, e => by
    have e : (match nxt s w with | some L' => P86.run b L' | none => none) = some v := e
    cases q : nxt s w with
    | none => rw [q] at e; cases e
    | some L =>
      rw [q] at e
      refine run_le (b := b) ?_ e
      cases s with
      | ar =>
        have q : (if w < 12 then some (w + 1) else none) = some L := q
        split at q
        · cases q; omega
        · cases q
      | se =>
        have q : (if 0 < w then some (w - 1) else none) = some L := q
        split at q
        · cases q; omega
        · cases q
      | cp p =>
        have q : (if p + 2 ≤ w then some w else none) = some L := q
        split at q
        · cases q; exact h
        · cases q
theorem noRefs_rowI {n : Nat} : ∀ {r : List Bool}, noRefs n (rowI r) = true
  | [] => rfl
  | x :: r => by
    show (noRef n (.int _) && noRefs n (rowI r)) = true
    rw [noRefs_rowI]; rfl
theorem noRef_rowI {n : Nat} {r : List Bool} : noRef n (.tup (rowI r)) = true := noRefs_rowI
theorem noRefs_rowB {n : Nat} : ∀ {r : List Bool}, noRefs n (rowB r) = true
  | [] => rfl
  | x :: r => by
    show (noRef n (.bl _) && noRefs n (rowB r)) = true
    rw [noRefs_rowB]; rfl
theorem row_after_ok {b : List Deed} {w v : Nat} {r : List Bool} (hw : w ≤ 12) (hr : run b w = some v) (hl : r.length = w) (q : Q (.tup (rowI (blk b r))) S) : (F_row_after [.lst (b.map toD), .tup (rowI r)] S).so Q := by
  unfold F_row_after
  refine runF_so (by rfl) ?_
  unfold startD ir_row_after
  simp only [List.map_cons, List.map_nil, List.length_cons, List.length_nil, List.replicate, List.cons_append, List.nil_append]
  simp only [m_nil, m_cons, m_asg, m_par2, m_par3, m_augS, m_setF, m_expr, m_ret, m_retN, m_ite, m_pass, m_brk, m_cont, m_never, g_name, g_sub, g_tup2, e_var, e_cst, e_bin, e_cmp, e_chain, e_and, e_or, e_not, e_ite, e_neg, e_tup, e_lst, e_idx, e_cut, o_none, o_some, e_fld, e_call, e_bi, e_bm, e_frz, e_dict, e_isi, e_rev, e_lrng, s_nil', s_cons', t_tr, t_tb, t_cmp, t_chain, t_and, t_or, t_not, t_yes, m_for, m_while, i_seq, i_rng1, i_rng2, i_rng3, i_enum, q_tup, q_ft, q_lst, q_fl, n_lst, y_ii, y_ib, y_bi, y_bb, y_tt, y_ss, y_ll, f_listT, f_listL, f_listF, f_tupT, f_tupL, Bool.not_true, Bool.not_false, isNon, tru_bl, cast0, cast1, cast2, cast3, cast4, Int.reduceEq, sLine, bls_bl, ints_int, way_t, way_f, way_d, way_n, alloc_t, alloc_f, so_ok, so_no, b_add, b_sub, b_mul, b_div, b_mod, b_pow, b_catL, b_repL, b_repT, c_eq, c_ne, c_eqS, c_neS, c_lt, c_le, c_gt, c_ge, c_is, c_isn, c_in, c_nin, x_lst, x_tup, x_ft, l_lst, u_add, u_sub, at0, at1, at2, at3, f_len, len_lst, len_tup, len_ft, f_abs, f_min, f_max, f_int, f_intB, ix0, ix1, ix2, ix3, trunc_set, trunc_self, List.getElem?_cons_zero, List.getElem?_cons_succ, List.set_cons_zero, List.set_cons_succ, Option.some.injEq, exists_eq_left', exists_eq_left, exists_eq', exists_eq, exists_eq_right, exists_eq_right', D.int.injEq, D.bl.injEq, D.str.injEq, D.tup.injEq, D.lst.injEq, List.cons.injEq, List.length_cons, List.length_nil, List.map_cons, List.map_nil, true_and, and_true, Option.map_some, Option.map_none, Nat.reduceAdd, Nat.reduceLT, Nat.reduceLeDiff, Int.reduceLT, Int.reduceLE, Int.reduceNeg, Int.reducePow, ↓reduceIte, List.length_set, not_true_eq_false, not_false_eq_true, forall_const, false_implies, false_and, and_false, Int.zero_emod, implies_true, or_true, true_or, if_true, if_false, Bool.true_eq_false, Bool.false_eq_true]
  refine for_so (fun i σ S' => S' = S ++ [.lst (rowI (blk (b.take i) r))] ∧ ∃ st, σ = [some (.lst (b.map toD)), some (.tup (rowI r)), some (.cell S.length), st]) ⟨rfl, _, rfl⟩ ?_ ?_
  · rintro i d σ S' hd ⟨rfl, st, rfl⟩
    rw [List.getElem?_map] at hd
    obtain ⟨s, hs, rfl⟩ := Option.map_eq_some_iff.mp hd
    obtain ⟨L, hL⟩ := run_pre (i := i) hr
    obtain ⟨M, hM⟩ := run_pre (i := i + 1) hr
    have z := run_take hL hs
    rw [hM] at z
    have len := len_blk hL hl
    have L12 := run_le hw hL
    generalize hrr : blk (b.take i) r = rr at len ⊢
    refine ⟨_, rfl, ?_⟩
    have e : blk (b.take (i + 1)) r = stp s rr := by rw [blk_take hs, hrr]
    rw [e]
    cases s with
    | ar =>
      simp only [toD, m_nil, m_cons, m_asg, m_par2, m_par3, m_augS, m_setF, m_expr, m_ret, m_retN, m_ite, m_pass, m_brk, m_cont, m_never, g_name, g_sub, g_tup2, e_var, e_cst, e_bin, e_cmp, e_chain, e_and, e_or, e_not, e_ite, e_neg, e_tup, e_lst, e_idx, e_cut, o_none, o_some, e_fld, e_call, e_bi, e_bm, e_frz, e_dict, e_isi, e_rev, e_lrng, s_nil', s_cons', t_tr, t_tb, t_cmp, t_chain, t_and, t_or, t_not, t_yes, m_for, m_while, i_seq, i_rng1, i_rng2, i_rng3, i_enum, q_tup, q_ft, q_lst, q_fl, n_lst, y_ii, y_ib, y_bi, y_bb, y_tt, y_ss, y_ll, f_listT, f_listL, f_listF, f_tupT, f_tupL, Bool.not_true, Bool.not_false, isNon, tru_bl, cast0, cast1, cast2, cast3, cast4, Int.reduceEq, sLine, bls_bl, ints_int, way_t, way_f, way_d, way_n, alloc_t, alloc_f, so_ok, so_no, b_add, b_sub, b_mul, b_div, b_mod, b_pow, b_catL, b_repL, b_repT, c_eq, c_ne, c_eqS, c_neS, c_lt, c_le, c_gt, c_ge, c_is, c_isn, c_in, c_nin, x_lst, x_tup, x_ft, l_lst, u_add, u_sub, at0, at1, at2, at3, f_len, len_lst, len_tup, len_ft, f_abs, f_min, f_max, f_int, f_intB, ix0, ix1, ix2, ix3, trunc_set, trunc_self, List.getElem?_cons_zero, List.getElem?_cons_succ, List.set_cons_zero, List.set_cons_succ, Option.some.injEq, exists_eq_left', exists_eq_left, exists_eq', exists_eq, exists_eq_right, exists_eq_right', D.int.injEq, D.bl.injEq, D.str.injEq, D.tup.injEq, D.lst.injEq, List.cons.injEq, List.length_cons, List.length_nil, List.map_cons, List.map_nil, true_and, and_true, Option.map_some, Option.map_none, Nat.reduceAdd, Nat.reduceLT, Nat.reduceLeDiff, Int.reduceLT, Int.reduceLE, Int.reduceNeg, Int.reducePow, ↓reduceIte, List.length_set, not_true_eq_false, not_false_eq_true, forall_const, false_implies, false_and, and_false, Int.zero_emod, implies_true, or_true, true_or, if_true, if_false, Bool.true_eq_false, Bool.false_eq_true, x_cell app_look, l_cell app_look, a_cell app_look, v_cell app_look, p_append app_look, app_set]
      refine ⟨?_, ?_⟩
      · simp only [rowI, List.length_map]; omega
      · simp [rowI, stp]
    | se =>
      have l0 := nxt_se z.symm
      have h0 : rowI rr ≠ [] := by
        intro e
        have := congrArg List.length e
        simp only [rowI, List.length_map, List.length_nil] at this
        omega
      simp only [toD, m_nil, m_cons, m_asg, m_par2, m_par3, m_augS, m_setF, m_expr, m_ret, m_retN, m_ite, m_pass, m_brk, m_cont, m_never, g_name, g_sub, g_tup2, e_var, e_cst, e_bin, e_cmp, e_chain, e_and, e_or, e_not, e_ite, e_neg, e_tup, e_lst, e_idx, e_cut, o_none, o_some, e_fld, e_call, e_bi, e_bm, e_frz, e_dict, e_isi, e_rev, e_lrng, s_nil', s_cons', t_tr, t_tb, t_cmp, t_chain, t_and, t_or, t_not, t_yes, m_for, m_while, i_seq, i_rng1, i_rng2, i_rng3, i_enum, q_tup, q_ft, q_lst, q_fl, n_lst, y_ii, y_ib, y_bi, y_bb, y_tt, y_ss, y_ll, f_listT, f_listL, f_listF, f_tupT, f_tupL, Bool.not_true, Bool.not_false, isNon, tru_bl, cast0, cast1, cast2, cast3, cast4, Int.reduceEq, sLine, bls_bl, ints_int, way_t, way_f, way_d, way_n, alloc_t, alloc_f, so_ok, so_no, b_add, b_sub, b_mul, b_div, b_mod, b_pow, b_catL, b_repL, b_repT, c_eq, c_ne, c_eqS, c_neS, c_lt, c_le, c_gt, c_ge, c_is, c_isn, c_in, c_nin, x_lst, x_tup, x_ft, l_lst, u_add, u_sub, at0, at1, at2, at3, f_len, len_lst, len_tup, len_ft, f_abs, f_min, f_max, f_int, f_intB, ix0, ix1, ix2, ix3, trunc_set, trunc_self, List.getElem?_cons_zero, List.getElem?_cons_succ, List.set_cons_zero, List.set_cons_succ, Option.some.injEq, exists_eq_left', exists_eq_left, exists_eq', exists_eq, exists_eq_right, exists_eq_right', D.int.injEq, D.bl.injEq, D.str.injEq, D.tup.injEq, D.lst.injEq, List.cons.injEq, List.length_cons, List.length_nil, List.map_cons, List.map_nil, true_and, and_true, Option.map_some, Option.map_none, Nat.reduceAdd, Nat.reduceLT, Nat.reduceLeDiff, Int.reduceLT, Int.reduceLE, Int.reduceNeg, Int.reducePow, ↓reduceIte, List.length_set, not_true_eq_false, not_false_eq_true, forall_const, false_implies, false_and, and_false, Int.zero_emod, implies_true, or_true, true_or, if_true, if_false, Bool.true_eq_false, Bool.false_eq_true, ne_sa, x_cell app_look, l_cell app_look, a_cell app_look, v_cell app_look, p_append app_look, p_pop0 app_look h0, app_set]
      simp [rowI, stp]
    | cp p =>
      have l0 := nxt_cp z.symm
      obtain ⟨x, y, h1, h2, h3⟩ := cp_code p rr (by omega)
      have g1 : atI (rowI rr) (p : Int) = some (.int (if x then 1 else 0)) := by rw [at_nat]; simp [rowI, h1]
      have g2 : atI (rowI rr) ((p : Int) + 1) = some (.int (if y then 1 else 0)) := by rw [show ((p : Int) + 1) = ((p + 1 : Nat) : Int) by simp, at_nat]; simp [rowI, h2]
      simp only [toD, m_nil, m_cons, m_asg, m_par2, m_par3, m_augS, m_setF, m_expr, m_ret, m_retN, m_ite, m_pass, m_brk, m_cont, m_never, g_name, g_sub, g_tup2, e_var, e_cst, e_bin, e_cmp, e_chain, e_and, e_or, e_not, e_ite, e_neg, e_tup, e_lst, e_idx, e_cut, o_none, o_some, e_fld, e_call, e_bi, e_bm, e_frz, e_dict, e_isi, e_rev, e_lrng, s_nil', s_cons', t_tr, t_tb, t_cmp, t_chain, t_and, t_or, t_not, t_yes, m_for, m_while, i_seq, i_rng1, i_rng2, i_rng3, i_enum, q_tup, q_ft, q_lst, q_fl, n_lst, y_ii, y_ib, y_bi, y_bb, y_tt, y_ss, y_ll, f_listT, f_listL, f_listF, f_tupT, f_tupL, Bool.not_true, Bool.not_false, isNon, tru_bl, cast0, cast1, cast2, cast3, cast4, Int.reduceEq, sLine, bls_bl, ints_int, way_t, way_f, way_d, way_n, alloc_t, alloc_f, so_ok, so_no, b_add, b_sub, b_mul, b_div, b_mod, b_pow, b_catL, b_repL, b_repT, c_eq, c_ne, c_eqS, c_neS, c_lt, c_le, c_gt, c_ge, c_is, c_isn, c_in, c_nin, x_lst, x_tup, x_ft, l_lst, u_add, u_sub, at0, at1, at2, at3, f_len, len_lst, len_tup, len_ft, f_abs, f_min, f_max, f_int, f_intB, ix0, ix1, ix2, ix3, trunc_set, trunc_self, List.getElem?_cons_zero, List.getElem?_cons_succ, List.set_cons_zero, List.set_cons_succ, Option.some.injEq, exists_eq_left', exists_eq_left, exists_eq', exists_eq, exists_eq_right, exists_eq_right', D.int.injEq, D.bl.injEq, D.str.injEq, D.tup.injEq, D.lst.injEq, List.cons.injEq, List.length_cons, List.length_nil, List.map_cons, List.map_nil, true_and, and_true, Option.map_some, Option.map_none, Nat.reduceAdd, Nat.reduceLT, Nat.reduceLeDiff, Int.reduceLT, Int.reduceLE, Int.reduceNeg, Int.reducePow, ↓reduceIte, List.length_set, not_true_eq_false, not_false_eq_true, forall_const, false_implies, false_and, and_false, Int.zero_emod, implies_true, or_true, true_or, if_true, if_false, Bool.true_eq_false, Bool.false_eq_true, ne_ca, ne_cs, x_cell app_look, l_cell app_look, a_cell app_look, v_cell app_look, p_append app_look, app_set, g1, g2]
      have lr : (rowI rr).length = L := by simp [rowI, len]
      refine ⟨fun h => ?_, fun h => ?_⟩
      · have hx : x = true ∧ y = false := by cases x <;> cases y <;> simp_all
        rw [if_pos hx] at h3
        refine ⟨_, _, ⟨rfl, rfl⟩, S ++ [.lst ((rowI rr).set p (.int 0))], ?_, ?_⟩
        · rw [ix_nat, if_pos (by omega)]; rfl
        · rw [v_cell app_look, show ((p : Int) + 1) = ((p + 1 : Nat) : Int) by simp, ix_nat, if_pos (by rw [List.length_set]; omega)]
          show some ((S ++ [_]).set S.length _) = _
          rw [app_set]
          show _ = some (S ++ [Cell.lst (rowI (cpR p rr))])
          rw [h3, ← rowI_set, ← rowI_set]
          rfl
      · have hx : ¬(x = true ∧ y = false) := by cases x <;> cases y <;> simp_all
        rw [if_neg hx] at h3
        show _ = S ++ [Cell.lst (rowI (cpR p rr))]
        rw [h3]
  · rintro σ S' ⟨rfl, st, rfl⟩
    simp only [m_nil, m_cons, m_asg, m_par2, m_par3, m_augS, m_setF, m_expr, m_ret, m_retN, m_ite, m_pass, m_brk, m_cont, m_never, g_name, g_sub, g_tup2, e_var, e_cst, e_bin, e_cmp, e_chain, e_and, e_or, e_not, e_ite, e_neg, e_tup, e_lst, e_idx, e_cut, o_none, o_some, e_fld, e_call, e_bi, e_bm, e_frz, e_dict, e_isi, e_rev, e_lrng, s_nil', s_cons', t_tr, t_tb, t_cmp, t_chain, t_and, t_or, t_not, t_yes, m_for, m_while, i_seq, i_rng1, i_rng2, i_rng3, i_enum, q_tup, q_ft, q_lst, q_fl, n_lst, y_ii, y_ib, y_bi, y_bb, y_tt, y_ss, y_ll, f_listT, f_listL, f_listF, f_tupT, f_tupL, Bool.not_true, Bool.not_false, isNon, tru_bl, cast0, cast1, cast2, cast3, cast4, Int.reduceEq, sLine, bls_bl, ints_int, way_t, way_f, way_d, way_n, alloc_t, alloc_f, so_ok, so_no, b_add, b_sub, b_mul, b_div, b_mod, b_pow, b_catL, b_repL, b_repT, c_eq, c_ne, c_eqS, c_neS, c_lt, c_le, c_gt, c_ge, c_is, c_isn, c_in, c_nin, x_lst, x_tup, x_ft, l_lst, u_add, u_sub, at0, at1, at2, at3, f_len, len_lst, len_tup, len_ft, f_abs, f_min, f_max, f_int, f_intB, ix0, ix1, ix2, ix3, trunc_set, trunc_self, List.getElem?_cons_zero, List.getElem?_cons_succ, List.set_cons_zero, List.set_cons_succ, Option.some.injEq, exists_eq_left', exists_eq_left, exists_eq', exists_eq, exists_eq_right, exists_eq_right', D.int.injEq, D.bl.injEq, D.str.injEq, D.tup.injEq, D.lst.injEq, List.cons.injEq, List.length_cons, List.length_nil, List.map_cons, List.map_nil, true_and, and_true, Option.map_some, Option.map_none, Nat.reduceAdd, Nat.reduceLT, Nat.reduceLeDiff, Int.reduceLT, Int.reduceLE, Int.reduceNeg, Int.reducePow, ↓reduceIte, List.length_set, not_true_eq_false, not_false_eq_true, forall_const, false_implies, false_and, and_false, Int.zero_emod, implies_true, or_true, true_or, if_true, if_false, Bool.true_eq_false, Bool.false_eq_true, f_tupC app_look]
    rw [List.length_map, List.take_length]
    rw [trunc_ext (by exact noRef_rowI)]
    exact q
theorem frzL_bl {f : D → Sto → Option (D × Sto)} (hf : ∀ (b : Bool) S, f (.bl b) S = some (.bl b, S)) : ∀ (r : List Bool) (S : Sto), frzL f (rowB r) S = some (rowB r, S)
  | [], S => rfl
  | x :: r, S => by
    show (match f (.bl x) S with | some (y, S1) => (match frzL f (rowB r) S1 with | some (ys, S2) => some (y :: ys, S2) | none => none) | none => none) = _
    rw [hf]
    dsimp only
    rw [frzL_bl hf r S]
    rfl
theorem frz_rowB {r : List Bool} : frz 2 (.cell S.length) (S ++ [.lst (rowB r)]) = some (.lst (rowB r), S ++ [.dead]) := by
  unfold frz
  dsimp only
  rw [app_look]
  dsimp only
  rw [frzL_bl (fun b S => by unfold frz; rfl), app_set]
theorem law_after_ok {b : List Deed} {w v : Nat} {r : List Bool} (hw : w ≤ 12) (hr : run b w = some v) (hl : r.length = w) (q : Q (.lst (rowB (blk b r))) S) : (F_law_after [.lst (b.map toD), .lst (rowB r)] S).so Q := by
  unfold F_law_after
  refine runF_so (by rfl) ?_
  unfold startD ir_law_after
  simp only [List.map_cons, List.map_nil, List.length_cons, List.length_nil, List.replicate, List.cons_append, List.nil_append]
  simp only [m_nil, m_cons, m_asg, m_par2, m_par3, m_augS, m_setF, m_expr, m_ret, m_retN, m_ite, m_pass, m_brk, m_cont, m_never, g_name, g_sub, g_tup2, e_var, e_cst, e_bin, e_cmp, e_chain, e_and, e_or, e_not, e_ite, e_neg, e_tup, e_lst, e_idx, e_cut, o_none, o_some, e_fld, e_call, e_bi, e_bm, e_frz, e_dict, e_isi, e_rev, e_lrng, s_nil', s_cons', t_tr, t_tb, t_cmp, t_chain, t_and, t_or, t_not, t_yes, m_for, m_while, i_seq, i_rng1, i_rng2, i_rng3, i_enum, q_tup, q_ft, q_lst, q_fl, n_lst, y_ii, y_ib, y_bi, y_bb, y_tt, y_ss, y_ll, f_listT, f_listL, f_listF, f_tupT, f_tupL, Bool.not_true, Bool.not_false, isNon, tru_bl, cast0, cast1, cast2, cast3, cast4, Int.reduceEq, sLine, bls_bl, ints_int, way_t, way_f, way_d, way_n, alloc_t, alloc_f, so_ok, so_no, b_add, b_sub, b_mul, b_div, b_mod, b_pow, b_catL, b_repL, b_repT, c_eq, c_ne, c_eqS, c_neS, c_lt, c_le, c_gt, c_ge, c_is, c_isn, c_in, c_nin, x_lst, x_tup, x_ft, l_lst, u_add, u_sub, at0, at1, at2, at3, f_len, len_lst, len_tup, len_ft, f_abs, f_min, f_max, f_int, f_intB, ix0, ix1, ix2, ix3, trunc_set, trunc_self, List.getElem?_cons_zero, List.getElem?_cons_succ, List.set_cons_zero, List.set_cons_succ, Option.some.injEq, exists_eq_left', exists_eq_left, exists_eq', exists_eq, exists_eq_right, exists_eq_right', D.int.injEq, D.bl.injEq, D.str.injEq, D.tup.injEq, D.lst.injEq, List.cons.injEq, List.length_cons, List.length_nil, List.map_cons, List.map_nil, true_and, and_true, Option.map_some, Option.map_none, Nat.reduceAdd, Nat.reduceLT, Nat.reduceLeDiff, Int.reduceLT, Int.reduceLE, Int.reduceNeg, Int.reducePow, ↓reduceIte, List.length_set, not_true_eq_false, not_false_eq_true, forall_const, false_implies, false_and, and_false, Int.zero_emod, implies_true, or_true, true_or, if_true, if_false, Bool.true_eq_false, Bool.false_eq_true]
  refine for_so (fun i σ S' => S' = S ++ [.lst (rowB (blk (b.take i) r))] ∧ ∃ st at_, σ = [some (.lst (b.map toD)), some (.lst (rowB r)), some (.cell S.length), st, at_]) ⟨rfl, _, _, rfl⟩ ?_ ?_
  · rintro i d σ S' hd ⟨rfl, st, at_, rfl⟩
    rw [List.getElem?_map] at hd
    obtain ⟨s, hs, rfl⟩ := Option.map_eq_some_iff.mp hd
    obtain ⟨L, hL⟩ := run_pre (i := i) hr
    obtain ⟨M, hM⟩ := run_pre (i := i + 1) hr
    have z := run_take hL hs
    rw [hM] at z
    have len := len_blk hL hl
    have L12 := run_le hw hL
    generalize hrr : blk (b.take i) r = rr at len ⊢
    refine ⟨_, rfl, ?_⟩
    have e : blk (b.take (i + 1)) r = stp s rr := by rw [blk_take hs, hrr]
    rw [e]
    cases s with
    | ar =>
      simp only [toD, m_nil, m_cons, m_asg, m_par2, m_par3, m_augS, m_setF, m_expr, m_ret, m_retN, m_ite, m_pass, m_brk, m_cont, m_never, g_name, g_sub, g_tup2, e_var, e_cst, e_bin, e_cmp, e_chain, e_and, e_or, e_not, e_ite, e_neg, e_tup, e_lst, e_idx, e_cut, o_none, o_some, e_fld, e_call, e_bi, e_bm, e_frz, e_dict, e_isi, e_rev, e_lrng, s_nil', s_cons', t_tr, t_tb, t_cmp, t_chain, t_and, t_or, t_not, t_yes, m_for, m_while, i_seq, i_rng1, i_rng2, i_rng3, i_enum, q_tup, q_ft, q_lst, q_fl, n_lst, y_ii, y_ib, y_bi, y_bb, y_tt, y_ss, y_ll, f_listT, f_listL, f_listF, f_tupT, f_tupL, Bool.not_true, Bool.not_false, isNon, tru_bl, cast0, cast1, cast2, cast3, cast4, Int.reduceEq, sLine, bls_bl, ints_int, way_t, way_f, way_d, way_n, alloc_t, alloc_f, so_ok, so_no, b_add, b_sub, b_mul, b_div, b_mod, b_pow, b_catL, b_repL, b_repT, c_eq, c_ne, c_eqS, c_neS, c_lt, c_le, c_gt, c_ge, c_is, c_isn, c_in, c_nin, x_lst, x_tup, x_ft, l_lst, u_add, u_sub, at0, at1, at2, at3, f_len, len_lst, len_tup, len_ft, f_abs, f_min, f_max, f_int, f_intB, ix0, ix1, ix2, ix3, trunc_set, trunc_self, List.getElem?_cons_zero, List.getElem?_cons_succ, List.set_cons_zero, List.set_cons_succ, Option.some.injEq, exists_eq_left', exists_eq_left, exists_eq', exists_eq, exists_eq_right, exists_eq_right', D.int.injEq, D.bl.injEq, D.str.injEq, D.tup.injEq, D.lst.injEq, List.cons.injEq, List.length_cons, List.length_nil, List.map_cons, List.map_nil, true_and, and_true, Option.map_some, Option.map_none, Nat.reduceAdd, Nat.reduceLT, Nat.reduceLeDiff, Int.reduceLT, Int.reduceLE, Int.reduceNeg, Int.reducePow, ↓reduceIte, List.length_set, not_true_eq_false, not_false_eq_true, forall_const, false_implies, false_and, and_false, Int.zero_emod, implies_true, or_true, true_or, if_true, if_false, Bool.true_eq_false, Bool.false_eq_true, x_cell app_look, l_cell app_look, a_cell app_look, v_cell app_look, p_append app_look, app_set]
      refine ⟨?_, ?_⟩
      · simp only [rowB, List.length_map]; omega
      · simp [rowB, stp]
    | se =>
      have l0 := nxt_se z.symm
      have h0 : rowB rr ≠ [] := by
        intro e
        have := congrArg List.length e
        simp only [rowB, List.length_map, List.length_nil] at this
        omega
      simp only [toD, m_nil, m_cons, m_asg, m_par2, m_par3, m_augS, m_setF, m_expr, m_ret, m_retN, m_ite, m_pass, m_brk, m_cont, m_never, g_name, g_sub, g_tup2, e_var, e_cst, e_bin, e_cmp, e_chain, e_and, e_or, e_not, e_ite, e_neg, e_tup, e_lst, e_idx, e_cut, o_none, o_some, e_fld, e_call, e_bi, e_bm, e_frz, e_dict, e_isi, e_rev, e_lrng, s_nil', s_cons', t_tr, t_tb, t_cmp, t_chain, t_and, t_or, t_not, t_yes, m_for, m_while, i_seq, i_rng1, i_rng2, i_rng3, i_enum, q_tup, q_ft, q_lst, q_fl, n_lst, y_ii, y_ib, y_bi, y_bb, y_tt, y_ss, y_ll, f_listT, f_listL, f_listF, f_tupT, f_tupL, Bool.not_true, Bool.not_false, isNon, tru_bl, cast0, cast1, cast2, cast3, cast4, Int.reduceEq, sLine, bls_bl, ints_int, way_t, way_f, way_d, way_n, alloc_t, alloc_f, so_ok, so_no, b_add, b_sub, b_mul, b_div, b_mod, b_pow, b_catL, b_repL, b_repT, c_eq, c_ne, c_eqS, c_neS, c_lt, c_le, c_gt, c_ge, c_is, c_isn, c_in, c_nin, x_lst, x_tup, x_ft, l_lst, u_add, u_sub, at0, at1, at2, at3, f_len, len_lst, len_tup, len_ft, f_abs, f_min, f_max, f_int, f_intB, ix0, ix1, ix2, ix3, trunc_set, trunc_self, List.getElem?_cons_zero, List.getElem?_cons_succ, List.set_cons_zero, List.set_cons_succ, Option.some.injEq, exists_eq_left', exists_eq_left, exists_eq', exists_eq, exists_eq_right, exists_eq_right', D.int.injEq, D.bl.injEq, D.str.injEq, D.tup.injEq, D.lst.injEq, List.cons.injEq, List.length_cons, List.length_nil, List.map_cons, List.map_nil, true_and, and_true, Option.map_some, Option.map_none, Nat.reduceAdd, Nat.reduceLT, Nat.reduceLeDiff, Int.reduceLT, Int.reduceLE, Int.reduceNeg, Int.reducePow, ↓reduceIte, List.length_set, not_true_eq_false, not_false_eq_true, forall_const, false_implies, false_and, and_false, Int.zero_emod, implies_true, or_true, true_or, if_true, if_false, Bool.true_eq_false, Bool.false_eq_true, ne_sa, x_cell app_look, l_cell app_look, a_cell app_look, v_cell app_look, p_append app_look, p_pop0 app_look h0, app_set]
      simp [rowB, stp]
    | cp p =>
      have l0 := nxt_cp z.symm
      obtain ⟨x, y, h1, h2, h3⟩ := cp_code p rr (by omega)
      have g1 : atI (rowB rr) (p : Int) = some (.bl x) := by rw [at_nat]; simp [rowB, h1]
      have g2 : atI (rowB rr) ((p : Int) + 1) = some (.bl y) := by rw [show ((p : Int) + 1) = ((p + 1 : Nat) : Int) by simp, at_nat]; simp [rowB, h2]
      have lr : (rowB rr).length = L := by simp [rowB, len]
      simp only [toD, m_nil, m_cons, m_asg, m_par2, m_par3, m_augS, m_setF, m_expr, m_ret, m_retN, m_ite, m_pass, m_brk, m_cont, m_never, g_name, g_sub, g_tup2, e_var, e_cst, e_bin, e_cmp, e_chain, e_and, e_or, e_not, e_ite, e_neg, e_tup, e_lst, e_idx, e_cut, o_none, o_some, e_fld, e_call, e_bi, e_bm, e_frz, e_dict, e_isi, e_rev, e_lrng, s_nil', s_cons', t_tr, t_tb, t_cmp, t_chain, t_and, t_or, t_not, t_yes, m_for, m_while, i_seq, i_rng1, i_rng2, i_rng3, i_enum, q_tup, q_ft, q_lst, q_fl, n_lst, y_ii, y_ib, y_bi, y_bb, y_tt, y_ss, y_ll, f_listT, f_listL, f_listF, f_tupT, f_tupL, Bool.not_true, Bool.not_false, isNon, tru_bl, cast0, cast1, cast2, cast3, cast4, Int.reduceEq, sLine, bls_bl, ints_int, way_t, way_f, way_d, way_n, alloc_t, alloc_f, so_ok, so_no, b_add, b_sub, b_mul, b_div, b_mod, b_pow, b_catL, b_repL, b_repT, c_eq, c_ne, c_eqS, c_neS, c_lt, c_le, c_gt, c_ge, c_is, c_isn, c_in, c_nin, x_lst, x_tup, x_ft, l_lst, u_add, u_sub, at0, at1, at2, at3, f_len, len_lst, len_tup, len_ft, f_abs, f_min, f_max, f_int, f_intB, ix0, ix1, ix2, ix3, trunc_set, trunc_self, List.getElem?_cons_zero, List.getElem?_cons_succ, List.set_cons_zero, List.set_cons_succ, Option.some.injEq, exists_eq_left', exists_eq_left, exists_eq', exists_eq, exists_eq_right, exists_eq_right', D.int.injEq, D.bl.injEq, D.str.injEq, D.tup.injEq, D.lst.injEq, List.cons.injEq, List.length_cons, List.length_nil, List.map_cons, List.map_nil, true_and, and_true, Option.map_some, Option.map_none, Nat.reduceAdd, Nat.reduceLT, Nat.reduceLeDiff, Int.reduceLT, Int.reduceLE, Int.reduceNeg, Int.reducePow, ↓reduceIte, List.length_set, not_true_eq_false, not_false_eq_true, forall_const, false_implies, false_and, and_false, Int.zero_emod, implies_true, or_true, true_or, if_true, if_false, Bool.true_eq_false, Bool.false_eq_true, ne_ca, ne_cs, x_cell app_look, l_cell app_look, a_cell app_look, v_cell app_look, p_append app_look, app_set, g1, g2]
      have same : ¬(x = true ∧ y = false) → S ++ [Cell.lst (rowB rr)] = S ++ [Cell.lst (rowB (stp (.cp p) rr))] := fun hx => by
        rw [if_neg hx] at h3
        show _ = S ++ [Cell.lst (rowB (cpR p rr))]
        rw [h3]
      refine ⟨fun ex => ⟨fun ey => same (by simp [ey]), fun ey => ?_⟩, fun ex => same (by simp [ex])⟩
      rw [if_pos ⟨ex, ey⟩] at h3
      refine ⟨_, _, ⟨rfl, rfl⟩, S ++ [.lst ((rowB rr).set p (.bl false))], ?_, ?_⟩
      · rw [ix_nat, if_pos (by omega)]; rfl
      · rw [v_cell app_look, show ((p : Int) + 1) = ((p + 1 : Nat) : Int) by simp, ix_nat, if_pos (by rw [List.length_set]; omega)]
        show some ((S ++ [_]).set S.length _) = _
        rw [app_set]
        show _ = some (S ++ [Cell.lst (rowB (cpR p rr))])
        rw [h3, ← rowB_set, ← rowB_set]
  · rintro σ S' ⟨rfl, st, at_, rfl⟩
    simp only [m_nil, m_cons, m_asg, m_par2, m_par3, m_augS, m_setF, m_expr, m_ret, m_retN, m_ite, m_pass, m_brk, m_cont, m_never, g_name, g_sub, g_tup2, e_var, e_cst, e_bin, e_cmp, e_chain, e_and, e_or, e_not, e_ite, e_neg, e_tup, e_lst, e_idx, e_cut, o_none, o_some, e_fld, e_call, e_bi, e_bm, e_frz, e_dict, e_isi, e_rev, e_lrng, s_nil', s_cons', t_tr, t_tb, t_cmp, t_chain, t_and, t_or, t_not, t_yes, m_for, m_while, i_seq, i_rng1, i_rng2, i_rng3, i_enum, q_tup, q_ft, q_lst, q_fl, n_lst, y_ii, y_ib, y_bi, y_bb, y_tt, y_ss, y_ll, f_listT, f_listL, f_listF, f_tupT, f_tupL, Bool.not_true, Bool.not_false, isNon, tru_bl, cast0, cast1, cast2, cast3, cast4, Int.reduceEq, sLine, bls_bl, ints_int, way_t, way_f, way_d, way_n, alloc_t, alloc_f, so_ok, so_no, b_add, b_sub, b_mul, b_div, b_mod, b_pow, b_catL, b_repL, b_repT, c_eq, c_ne, c_eqS, c_neS, c_lt, c_le, c_gt, c_ge, c_is, c_isn, c_in, c_nin, x_lst, x_tup, x_ft, l_lst, u_add, u_sub, at0, at1, at2, at3, f_len, len_lst, len_tup, len_ft, f_abs, f_min, f_max, f_int, f_intB, ix0, ix1, ix2, ix3, trunc_set, trunc_self, List.getElem?_cons_zero, List.getElem?_cons_succ, List.set_cons_zero, List.set_cons_succ, Option.some.injEq, exists_eq_left', exists_eq_left, exists_eq', exists_eq, exists_eq_right, exists_eq_right', D.int.injEq, D.bl.injEq, D.str.injEq, D.tup.injEq, D.lst.injEq, List.cons.injEq, List.length_cons, List.length_nil, List.map_cons, List.map_nil, true_and, and_true, Option.map_some, Option.map_none, Nat.reduceAdd, Nat.reduceLT, Nat.reduceLeDiff, Int.reduceLT, Int.reduceLE, Int.reduceNeg, Int.reducePow, ↓reduceIte, List.length_set, not_true_eq_false, not_false_eq_true, forall_const, false_implies, false_and, and_false, Int.zero_emod, implies_true, or_true, true_or, if_true, if_false, Bool.true_eq_false, Bool.false_eq_true, frz_rowB]
    rw [List.length_map, List.take_length]
    refine ⟨_, _, rfl, ?_⟩
    rw [trunc_ext (by exact noRefs_rowB)]
    exact q
end
end Mq
end

section
set_option maxHeartbeats 8000000
namespace Mq
open PySem L2 PySem.Spec PyProof.Rows P86
def rowZ (r : List Bool) : List Int := r.map fun x => if x then 1 else 0
def rowK (r : List Bool) : List Key := r.map fun x => .inl (if x then 1 else 0)
theorem rowZ_inj : ∀ {r s : List Bool}, rowZ r = rowZ s → r = s
  | [], [], _ => rfl
  | [], _ :: _, h => by cases h
  | _ :: _, [], h => by cases h
  | x :: r, y :: s, h => by
    have h : ((if x then 1 else 0 : Int) :: rowZ r) = (if y then 1 else 0) :: rowZ s := h
    simp only [List.cons.injEq] at h
    rw [rowZ_inj h.2]
    cases x <;> cases y <;> simp_all
theorem rowK_inj : ∀ {r s : List Bool}, rowK r = rowK s → r = s
  | [], [], _ => rfl
  | [], _ :: _, h => by cases h
  | _ :: _, [], h => by cases h
  | x :: r, y :: s, h => by
    have h : ((.inl (if x then 1 else 0) : Key) :: rowK r) = .inl (if y then 1 else 0) :: rowK s := h
    simp only [List.cons.injEq] at h
    rw [rowK_inj h.2]
    cases x <;> cases y <;> simp_all
theorem keysD_row : ∀ {r : List Bool}, keysD (rowI r) = some (rowK r)
  | [] => rfl
  | x :: r => by
    show (match keyD (.int _), keysD (rowI r) with | some y, some ys => some (y :: ys) | _, _ => none) = _
    rw [keysD_row]
    rfl
theorem keysB_row : ∀ {r : List Bool}, keysB (rowB r) = some (rowZ r)
  | [] => rfl
  | x :: r => by
    show (match keyB (.bl x), keysB (rowB r) with | some y, some ys => some (y :: ys) | _, _ => none) = _
    rw [keysB_row]
    rfl
theorem intsD_row : ∀ {r : List Bool}, intsD (rowI r) = some (rowZ r)
  | [] => rfl
  | x :: r => by
    show (intsD (rowI r)).map _ = _
    rw [intsD_row]
    rfl
theorem blsD_row : ∀ {r : List Bool}, blsD (rowB r) = some r
  | [] => rfl
  | x :: r => by
    show (blsD (rowB r)).map _ = _
    rw [blsD_row]
    rfl
theorem sum_row : ∀ {r : List Bool}, (rowZ r).sum = (wt r : Int)
  | [] => rfl
  | x :: r => by
    show (if x then 1 else 0 : Int) + (rowZ r).sum = _
    rw [sum_row]
    unfold wt
    cases x <;> simp [List.count_cons] <;> omega
theorem top_I : ∀ (w : Nat), (List.replicate w [D.int 1]).flatten = rowI (List.replicate w true)
  | 0 => rfl
  | w + 1 => by
    rw [List.replicate_succ, List.flatten_cons, top_I w]
    rfl
theorem top_B : ∀ (w : Nat), (List.replicate w [D.bl true]).flatten = rowB (List.replicate w true)
  | 0 => rfl
  | w + 1 => by
    rw [List.replicate_succ, List.flatten_cons, top_B w]
    rfl
/-- falling up to here -/
def Falls (b : List Deed) (w i : Nat) : Prop := ∀ j, j < i → wt (it b w (j + 1)) < wt (it b w j)
theorem falls_lt {b : List Deed} {w i : Nat} (h : Falls b w i) : ∀ j, j < i → wt (it b w i) < wt (it b w j) := by
  induction i with
  | zero => intro j hj; omega
  | succ i ih =>
    intro j hj
    have z := h i (by omega)
    rcases Nat.lt_or_eq_of_le (Nat.le_of_lt_succ hj) with q | q
    · have := ih (fun k hk => h k (by omega)) j q
      omega
    · subst q; exact z
theorem falls_wt {b : List Deed} {w : Nat} : ∀ {i : Nat}, Falls b w i → wt (it b w i) + i ≤ w
  | 0, _ => by simp [it, wt]
  | i + 1, h => by
    have z := falls_wt (i := i) fun k hk => h k (by omega)
    have y := h i (by omega)
    omega
theorem fix_last {b : List Deed} {w i : Nat} (h : Falls b w i) (e : it b w (i + 1) = it b w i) : it b w i = last b w := by
  have z := falls_wt h
  have q := it_fix e (w + 1 - i)
  rw [show i + (w + 1 - i) = w + 1 by omega] at q
  exact q.symm
section
variable {S : Sto} {Q : D → Sto → Prop}
theorem in_dt {n : Nat} {kvs : List (List Key × D)} {r : List Bool} (h : S[n]? = some (.dt kvs)) : inD (.tup (rowI r)) (.cell n) S = some (lookD kvs (rowK r)).isSome := by
  unfold inD
  dsimp only
  rw [h]
  dsimp only
  rw [keysD_row]
theorem in_db {n : Nat} {kvs : List (List Int × D)} {r : List Bool} (h : S[n]? = some (.db kvs)) : inD (.tup (rowB r)) (.cell n) S = some (lookD kvs (rowZ r)).isSome := by
  unfold inD
  dsimp only
  rw [h]
  dsimp only
  rw [keysB_row]
theorem set_dt {n : Nat} {kvs : List (List Key × D)} {r : List Bool} {v : D} (h : S[n]? = some (.dt kvs)) (hl : kvs.length < sLine) (hn : rowK r ∉ kvs.map (·.1)) : setD (.cell n) (.tup (rowI r)) v S = some (S.set n (.dt (kvs ++ [(rowK r, v)]))) := by
  unfold setD
  dsimp only
  rw [h]
  dsimp only
  rw [keysD_row]
  dsimp only
  rw [if_pos hl]
  unfold putD
  rw [if_neg]
  intro q
  obtain ⟨e, h1, h2⟩ := List.any_eq_true.mp q
  exact hn (List.mem_map.mpr ⟨e, h1, of_decide_eq_true h2⟩)
theorem set_db {n : Nat} {kvs : List (List Int × D)} {r : List Bool} {v : D} (h : S[n]? = some (.db kvs)) (hl : kvs.length < sLine) (hn : rowZ r ∉ kvs.map (·.1)) : setD (.cell n) (.tup (rowB r)) v S = some (S.set n (.db (kvs ++ [(rowZ r, v)]))) := by
  unfold setD
  dsimp only
  rw [h]
  dsimp only
  rw [keysB_row]
  dsimp only
  have no : lookD kvs (rowZ r) = none := by
    cases q : lookD kvs (rowZ r) with
    | none => rfl
    | some d => exact absurd (lookD_in.mp (by rw [q]; rfl)) hn
  rw [if_pos ⟨hl, no⟩]
def metT (b : List Deed) (w i : Nat) : List (List Key × D) := (List.range i).map fun j => (rowK (it b w j), .bl true)
def metB (b : List Deed) (w i : Nat) : List (List Int × D) := (List.range i).map fun j => (rowZ (it b w j), .bl true)
theorem metT_in {b : List Deed} {w i : Nat} {r : List Bool} : rowK r ∈ (metT b w i).map (·.1) ↔ ∃ j, j < i ∧ r = it b w j := by
  unfold metT
  rw [List.map_map]
  constructor
  · intro h
    obtain ⟨j, h1, h2⟩ := List.mem_map.mp h
    exact ⟨j, List.mem_range.mp h1, rowK_inj h2.symm⟩
  · rintro ⟨j, h1, rfl⟩
    exact List.mem_map.mpr ⟨j, List.mem_range.mpr h1, rfl⟩
theorem metB_in {b : List Deed} {w i : Nat} {r : List Bool} : rowZ r ∈ (metB b w i).map (·.1) ↔ ∃ j, j < i ∧ r = it b w j := by
  unfold metB
  rw [List.map_map]
  constructor
  · intro h
    obtain ⟨j, h1, h2⟩ := List.mem_map.mp h
    exact ⟨j, List.mem_range.mp h1, rowZ_inj h2.symm⟩
  · rintro ⟨j, h1, rfl⟩
    exact List.mem_map.mpr ⟨j, List.mem_range.mpr h1, rfl⟩
theorem metT_succ {b : List Deed} {w i : Nat} : metT b w i ++ [(rowK (it b w i), .bl true)] = metT b w (i + 1) := by unfold metT; rw [List.range_succ, List.map_append]; rfl
theorem metB_succ {b : List Deed} {w i : Nat} : metB b w i ++ [(rowZ (it b w i), .bl true)] = metB b w (i + 1) := by unfold metB; rw [List.range_succ, List.map_append]; rfl
theorem not_yet {b : List Deed} {w i : Nat} (h : Falls b w i) : ¬ ∃ j, j < i ∧ it b w i = it b w j := by
  rintro ⟨j, h1, h2⟩
  have := falls_lt h j h1
  rw [h2] at this
  omega
theorem T5_4 {xs : List D} : T_5 4 xs S = F_need_block (xs ++ []) S := rfl
theorem T5_0 {xs : List D} : T_5 0 xs S = F_row_after (xs ++ []) S := rfl
theorem f_sumT {cc : Bool} {r : List Bool} : (biD .sum1 cc [.tup (rowI r)] S).so Q = Q (.int (wt r)) S := by
  show (R.opt S ((intsD (rowI r)).map fun ns => .int ns.sum)).so Q = _
  rw [intsD_row]
  refine so_ok.trans ?_
  show Q (.int (rowZ r).sum) S = _
  rw [sum_row]
/-- the walk's state: still falling, or the row has just come again -/
def Loop (b : List Deed) (w n i : Nat) : Prop := (Falls b w i ∧ n + i = w + 2) ∨ ∃ j, j + 1 = i ∧ Falls b w j ∧ it b w i = it b w j
theorem loop_next {b : List Deed} {w n i : Nat} (hr : run b w = some w) (hf : Falls b w i) (hn : n + i = w + 2) (h0 : 0 < n) : Loop b w (n - 1) (i + 1) := by
  rcases it_wt hr i with e | e
  · exact .inr ⟨i, rfl, hf, e⟩
  · refine .inl ⟨fun j hj => ?_, by omega⟩
    rcases Nat.lt_or_eq_of_le (Nat.le_of_lt_succ hj) with q | q
    · exact hf j q
    · subst q; exact e
theorem passed_ok {b : List Deed} {w : Nat} (hb : b.length ≤ 400) (hw : w ≤ 12) (hr : run b w = some w) (q : Q (.int (wt (last b w))) S) : (F_passed_for_ever [.lst (b.map toD), .int w] S).so Q := by
  unfold F_passed_for_ever
  refine runF_so (by rfl) ?_
  unfold startD ir_passed_for_ever
  simp only [List.map_cons, List.map_nil, List.length_cons, List.length_nil, List.replicate, List.cons_append, List.nil_append]
  simp only [m_nil, m_cons, m_asg, m_par2, m_par3, m_augS, m_setF, m_expr, m_ret, m_retN, m_ite, m_pass, m_brk, m_cont, m_never, g_name, g_sub, g_tup2, e_var, e_cst, e_bin, e_cmp, e_chain, e_and, e_or, e_not, e_ite, e_neg, e_tup, e_lst, e_idx, e_cut, o_none, o_some, e_fld, e_call, e_bi, e_bm, e_frz, e_dict, e_isi, e_rev, e_lrng, s_nil', s_cons', t_tr, t_tb, t_cmp, t_chain, t_and, t_or, t_not, t_yes, m_for, m_while, i_seq, i_rng1, i_rng2, i_rng3, i_enum, q_tup, q_ft, q_lst, q_fl, n_lst, y_ii, y_ib, y_bi, y_bb, y_tt, y_ss, y_ll, f_listT, f_listL, f_listF, f_tupT, f_tupL, Bool.not_true, Bool.not_false, isNon, tru_bl, cast0, cast1, cast2, cast3, cast4, Int.reduceEq, sLine, bls_bl, ints_int, way_t, way_f, way_d, way_n, alloc_t, alloc_f, so_ok, so_no, b_add, b_sub, b_mul, b_div, b_mod, b_pow, b_catL, b_repL, b_repT, c_eq, c_ne, c_eqS, c_neS, c_lt, c_le, c_gt, c_ge, c_is, c_isn, c_in, c_nin, x_lst, x_tup, x_ft, l_lst, u_add, u_sub, at0, at1, at2, at3, f_len, len_lst, len_tup, len_ft, f_abs, f_min, f_max, f_int, f_intB, ix0, ix1, ix2, ix3, trunc_set, trunc_self, List.getElem?_cons_zero, List.getElem?_cons_succ, List.set_cons_zero, List.set_cons_succ, Option.some.injEq, exists_eq_left', exists_eq_left, exists_eq', exists_eq, exists_eq_right, exists_eq_right', D.int.injEq, D.bl.injEq, D.str.injEq, D.tup.injEq, D.lst.injEq, List.cons.injEq, List.length_cons, List.length_nil, List.map_cons, List.map_nil, true_and, and_true, Option.map_some, Option.map_none, Nat.reduceAdd, Nat.reduceLT, Nat.reduceLeDiff, Int.reduceLT, Int.reduceLE, Int.reduceNeg, Int.reducePow, ↓reduceIte, List.length_set, not_true_eq_false, not_false_eq_true, forall_const, false_implies, false_and, and_false, Int.zero_emod, implies_true, or_true, true_or, if_true, if_false, Bool.true_eq_false, Bool.false_eq_true, T5_4, List.append_nil]
  refine need_block_ok hb hr ?_
  refine ⟨by omega, ?_⟩
  rw [show ((w : Int).toNat) = w by simp, top_I]
  refine while_so (fun n σ S' => ∃ i, Loop b w n i ∧ S' = S ++ [.dt (metT b w i)] ∧ σ = [some (.lst (b.map toD)), some (.int w), some (.tup (rowI (it b w i))), some (.cell S.length)]) (n := w + 2) (by show w + 2 < 100000; omega) ⟨0, .inl ⟨fun j hj => by omega, by omega⟩, rfl, rfl⟩ ?_
  rintro n σ S' ⟨i, hi, rfl, rfl⟩
  simp only [m_nil, m_cons, m_asg, m_par2, m_par3, m_augS, m_setF, m_expr, m_ret, m_retN, m_ite, m_pass, m_brk, m_cont, m_never, g_name, g_sub, g_tup2, e_var, e_cst, e_bin, e_cmp, e_chain, e_and, e_or, e_not, e_ite, e_neg, e_tup, e_lst, e_idx, e_cut, o_none, o_some, e_fld, e_call, e_bi, e_bm, e_frz, e_dict, e_isi, e_rev, e_lrng, s_nil', s_cons', t_tr, t_tb, t_cmp, t_chain, t_and, t_or, t_not, t_yes, m_for, m_while, i_seq, i_rng1, i_rng2, i_rng3, i_enum, q_tup, q_ft, q_lst, q_fl, n_lst, y_ii, y_ib, y_bi, y_bb, y_tt, y_ss, y_ll, f_listT, f_listL, f_listF, f_tupT, f_tupL, Bool.not_true, Bool.not_false, isNon, tru_bl, cast0, cast1, cast2, cast3, cast4, Int.reduceEq, sLine, bls_bl, ints_int, way_t, way_f, way_d, way_n, alloc_t, alloc_f, so_ok, so_no, b_add, b_sub, b_mul, b_div, b_mod, b_pow, b_catL, b_repL, b_repT, c_eq, c_ne, c_eqS, c_neS, c_lt, c_le, c_gt, c_ge, c_is, c_isn, c_in, c_nin, x_lst, x_tup, x_ft, l_lst, u_add, u_sub, at0, at1, at2, at3, f_len, len_lst, len_tup, len_ft, f_abs, f_min, f_max, f_int, f_intB, ix0, ix1, ix2, ix3, trunc_set, trunc_self, List.getElem?_cons_zero, List.getElem?_cons_succ, List.set_cons_zero, List.set_cons_succ, Option.some.injEq, exists_eq_left', exists_eq_left, exists_eq', exists_eq, exists_eq_right, exists_eq_right', D.int.injEq, D.bl.injEq, D.str.injEq, D.tup.injEq, D.lst.injEq, List.cons.injEq, List.length_cons, List.length_nil, List.map_cons, List.map_nil, true_and, and_true, Option.map_some, Option.map_none, Nat.reduceAdd, Nat.reduceLT, Nat.reduceLeDiff, Int.reduceLT, Int.reduceLE, Int.reduceNeg, Int.reducePow, ↓reduceIte, List.length_set, not_true_eq_false, not_false_eq_true, forall_const, false_implies, false_and, and_false, Int.zero_emod, implies_true, or_true, true_or, if_true, if_false, Bool.true_eq_false, Bool.false_eq_true, in_dt app_look]
  rcases hi with ⟨hf, hn⟩ | ⟨j, rfl, hf, he⟩
  · have no : rowK (it b w i) ∉ (metT b w i).map (·.1) := fun z => not_yet hf (metT_in.mp z)
    have e : (lookD (metT b w i) (rowK (it b w i))).isSome = false := by
      cases z : (lookD (metT b w i) (rowK (it b w i))).isSome with
      | false => rfl
      | true => exact absurd (lookD_in.mp z) no
    have iw := falls_wt hf
    rw [e]
    simp only [bls_bl, ints_int, way_t, way_f, way_d, way_n, alloc_t, alloc_f, so_ok, so_no, b_add, b_sub, b_mul, b_div, b_mod, b_pow, b_catL, b_repL, b_repT, c_eq, c_ne, c_eqS, c_neS, c_lt, c_le, c_gt, c_ge, c_is, c_isn, c_in, c_nin, x_lst, x_tup, x_ft, l_lst, u_add, u_sub, at0, at1, at2, at3, f_len, len_lst, len_tup, len_ft, f_abs, f_min, f_max, f_int, f_intB, ix0, ix1, ix2, ix3, trunc_set, trunc_self, List.getElem?_cons_zero, List.getElem?_cons_succ, List.set_cons_zero, List.set_cons_succ, Option.some.injEq, exists_eq_left', exists_eq_left, exists_eq', exists_eq, exists_eq_right, exists_eq_right', D.int.injEq, D.bl.injEq, D.str.injEq, D.tup.injEq, D.lst.injEq, List.cons.injEq, List.length_cons, List.length_nil, List.map_cons, List.map_nil, true_and, and_true, Option.map_some, Option.map_none, Nat.reduceAdd, Nat.reduceLT, Nat.reduceLeDiff, Int.reduceLT, Int.reduceLE, Int.reduceNeg, Int.reducePow, ↓reduceIte, List.length_set, not_true_eq_false, not_false_eq_true, forall_const, false_implies, false_and, and_false, Int.zero_emod, implies_true, or_true, true_or, if_true, if_false, Bool.true_eq_false, Bool.false_eq_true]
    refine ⟨n - 1, by omega, ?_⟩
    simp only [m_nil, m_cons, m_asg, m_par2, m_par3, m_augS, m_setF, m_expr, m_ret, m_retN, m_ite, m_pass, m_brk, m_cont, m_never, g_name, g_sub, g_tup2, e_var, e_cst, e_bin, e_cmp, e_chain, e_and, e_or, e_not, e_ite, e_neg, e_tup, e_lst, e_idx, e_cut, o_none, o_some, e_fld, e_call, e_bi, e_bm, e_frz, e_dict, e_isi, e_rev, e_lrng, s_nil', s_cons', t_tr, t_tb, t_cmp, t_chain, t_and, t_or, t_not, t_yes, m_for, m_while, i_seq, i_rng1, i_rng2, i_rng3, i_enum, q_tup, q_ft, q_lst, q_fl, n_lst, y_ii, y_ib, y_bi, y_bb, y_tt, y_ss, y_ll, f_listT, f_listL, f_listF, f_tupT, f_tupL, Bool.not_true, Bool.not_false, isNon, tru_bl, cast0, cast1, cast2, cast3, cast4, Int.reduceEq, sLine, bls_bl, ints_int, way_t, way_f, way_d, way_n, alloc_t, alloc_f, so_ok, so_no, b_add, b_sub, b_mul, b_div, b_mod, b_pow, b_catL, b_repL, b_repT, c_eq, c_ne, c_eqS, c_neS, c_lt, c_le, c_gt, c_ge, c_is, c_isn, c_in, c_nin, x_lst, x_tup, x_ft, l_lst, u_add, u_sub, at0, at1, at2, at3, f_len, len_lst, len_tup, len_ft, f_abs, f_min, f_max, f_int, f_intB, ix0, ix1, ix2, ix3, trunc_set, trunc_self, List.getElem?_cons_zero, List.getElem?_cons_succ, List.set_cons_zero, List.set_cons_succ, Option.some.injEq, exists_eq_left', exists_eq_left, exists_eq', exists_eq, exists_eq_right, exists_eq_right', D.int.injEq, D.bl.injEq, D.str.injEq, D.tup.injEq, D.lst.injEq, List.cons.injEq, List.length_cons, List.length_nil, List.map_cons, List.map_nil, true_and, and_true, Option.map_some, Option.map_none, Nat.reduceAdd, Nat.reduceLT, Nat.reduceLeDiff, Int.reduceLT, Int.reduceLE, Int.reduceNeg, Int.reducePow, ↓reduceIte, List.length_set, not_true_eq_false, not_false_eq_true, forall_const, false_implies, false_and, and_false, Int.zero_emod, implies_true, or_true, true_or, if_true, if_false, Bool.true_eq_false, Bool.false_eq_true, T5_0, List.append_nil, set_dt app_look (show (metT b w i).length < sLine by unfold metT sLine; rw [List.length_map, List.length_range]; omega) no, app_set, metT_succ]
    refine row_after_ok hw hr (it_len hr i) ?_
    exact ⟨i + 1, loop_next hr hf hn (by omega), rfl, rfl⟩
  · have e : (lookD (metT b w (j + 1)) (rowK (it b w (j + 1)))).isSome = true := lookD_in.mpr (metT_in.mpr ⟨j, by omega, he⟩)
    rw [e]
    simp only [bls_bl, ints_int, way_t, way_f, way_d, way_n, alloc_t, alloc_f, so_ok, so_no, b_add, b_sub, b_mul, b_div, b_mod, b_pow, b_catL, b_repL, b_repT, c_eq, c_ne, c_eqS, c_neS, c_lt, c_le, c_gt, c_ge, c_is, c_isn, c_in, c_nin, x_lst, x_tup, x_ft, l_lst, u_add, u_sub, at0, at1, at2, at3, f_len, len_lst, len_tup, len_ft, f_abs, f_min, f_max, f_int, f_intB, ix0, ix1, ix2, ix3, trunc_set, trunc_self, f_sumT]
    rw [trunc_ext rfl, he, fix_last hf he]
    exact q
theorem T8_7 {xs : List D} : T_8 7 xs S = F_law_after (xs ++ []) S := rfl
theorem p_count {r : List Bool} : (bmD .count (.lst (rowB r)) [.bl true] S).so Q = Q (.int (wt r)) S := by
  show (match (some (rowB r)).bind blsD with | some ns => R.ok (D.int (ns.count true : Nat)) S | none => R.no).so Q = _
  rw [Option.bind_some, blsD_row]
  exact so_ok
theorem due_ok {b : List Deed} {w : Nat} (hw : w ≤ 12) (hr : run b w = some w) (q : Q (.int (wt (last b w))) S) : (F_law_due [.lst (b.map toD), .int w] S).so Q := by
  unfold F_law_due
  refine runF_so (by rfl) ?_
  unfold startD ir_law_due
  simp only [List.map_cons, List.map_nil, List.length_cons, List.length_nil, List.replicate, List.cons_append, List.nil_append]
  simp only [m_nil, m_cons, m_asg, m_par2, m_par3, m_augS, m_setF, m_expr, m_ret, m_retN, m_ite, m_pass, m_brk, m_cont, m_never, g_name, g_sub, g_tup2, e_var, e_cst, e_bin, e_cmp, e_chain, e_and, e_or, e_not, e_ite, e_neg, e_tup, e_lst, e_idx, e_cut, o_none, o_some, e_fld, e_call, e_bi, e_bm, e_frz, e_dict, e_isi, e_rev, e_lrng, s_nil', s_cons', t_tr, t_tb, t_cmp, t_chain, t_and, t_or, t_not, t_yes, m_for, m_while, i_seq, i_rng1, i_rng2, i_rng3, i_enum, q_tup, q_ft, q_lst, q_fl, n_lst, y_ii, y_ib, y_bi, y_bb, y_tt, y_ss, y_ll, f_listT, f_listL, f_listF, f_tupT, f_tupL, Bool.not_true, Bool.not_false, isNon, tru_bl, cast0, cast1, cast2, cast3, cast4, Int.reduceEq, sLine, bls_bl, ints_int, way_t, way_f, way_d, way_n, alloc_t, alloc_f, so_ok, so_no, b_add, b_sub, b_mul, b_div, b_mod, b_pow, b_catL, b_repL, b_repT, c_eq, c_ne, c_eqS, c_neS, c_lt, c_le, c_gt, c_ge, c_is, c_isn, c_in, c_nin, x_lst, x_tup, x_ft, l_lst, u_add, u_sub, at0, at1, at2, at3, f_len, len_lst, len_tup, len_ft, f_abs, f_min, f_max, f_int, f_intB, ix0, ix1, ix2, ix3, trunc_set, trunc_self, List.getElem?_cons_zero, List.getElem?_cons_succ, List.set_cons_zero, List.set_cons_succ, Option.some.injEq, exists_eq_left', exists_eq_left, exists_eq', exists_eq, exists_eq_right, exists_eq_right', D.int.injEq, D.bl.injEq, D.str.injEq, D.tup.injEq, D.lst.injEq, List.cons.injEq, List.length_cons, List.length_nil, List.map_cons, List.map_nil, true_and, and_true, Option.map_some, Option.map_none, Nat.reduceAdd, Nat.reduceLT, Nat.reduceLeDiff, Int.reduceLT, Int.reduceLE, Int.reduceNeg, Int.reducePow, ↓reduceIte, List.length_set, not_true_eq_false, not_false_eq_true, forall_const, false_implies, false_and, and_false, Int.zero_emod, implies_true, or_true, true_or, if_true, if_false, Bool.true_eq_false, Bool.false_eq_true, List.append_nil]
  refine ⟨by omega, ?_⟩
  rw [show ((w : Int).toNat) = w by simp, top_B]
  refine while_so (fun n σ S' => ∃ i, Loop b w n i ∧ S' = S ++ [.db (metB b w i)] ∧ σ = [some (.lst (b.map toD)), some (.int w), some (.lst (rowB (it b w i))), some (.cell S.length)]) (n := w + 2) (by show w + 2 < 100000; omega) ⟨0, .inl ⟨fun j hj => by omega, by omega⟩, rfl, rfl⟩ ?_
  rintro n σ S' ⟨i, hi, rfl, rfl⟩
  simp only [m_nil, m_cons, m_asg, m_par2, m_par3, m_augS, m_setF, m_expr, m_ret, m_retN, m_ite, m_pass, m_brk, m_cont, m_never, g_name, g_sub, g_tup2, e_var, e_cst, e_bin, e_cmp, e_chain, e_and, e_or, e_not, e_ite, e_neg, e_tup, e_lst, e_idx, e_cut, o_none, o_some, e_fld, e_call, e_bi, e_bm, e_frz, e_dict, e_isi, e_rev, e_lrng, s_nil', s_cons', t_tr, t_tb, t_cmp, t_chain, t_and, t_or, t_not, t_yes, m_for, m_while, i_seq, i_rng1, i_rng2, i_rng3, i_enum, q_tup, q_ft, q_lst, q_fl, n_lst, y_ii, y_ib, y_bi, y_bb, y_tt, y_ss, y_ll, f_listT, f_listL, f_listF, f_tupT, f_tupL, Bool.not_true, Bool.not_false, isNon, tru_bl, cast0, cast1, cast2, cast3, cast4, Int.reduceEq, sLine, bls_bl, ints_int, way_t, way_f, way_d, way_n, alloc_t, alloc_f, so_ok, so_no, b_add, b_sub, b_mul, b_div, b_mod, b_pow, b_catL, b_repL, b_repT, c_eq, c_ne, c_eqS, c_neS, c_lt, c_le, c_gt, c_ge, c_is, c_isn, c_in, c_nin, x_lst, x_tup, x_ft, l_lst, u_add, u_sub, at0, at1, at2, at3, f_len, len_lst, len_tup, len_ft, f_abs, f_min, f_max, f_int, f_intB, ix0, ix1, ix2, ix3, trunc_set, trunc_self, List.getElem?_cons_zero, List.getElem?_cons_succ, List.set_cons_zero, List.set_cons_succ, Option.some.injEq, exists_eq_left', exists_eq_left, exists_eq', exists_eq, exists_eq_right, exists_eq_right', D.int.injEq, D.bl.injEq, D.str.injEq, D.tup.injEq, D.lst.injEq, List.cons.injEq, List.length_cons, List.length_nil, List.map_cons, List.map_nil, true_and, and_true, Option.map_some, Option.map_none, Nat.reduceAdd, Nat.reduceLT, Nat.reduceLeDiff, Int.reduceLT, Int.reduceLE, Int.reduceNeg, Int.reducePow, ↓reduceIte, List.length_set, not_true_eq_false, not_false_eq_true, forall_const, false_implies, false_and, and_false, Int.zero_emod, implies_true, or_true, true_or, if_true, if_false, Bool.true_eq_false, Bool.false_eq_true, in_db app_look]
  rcases hi with ⟨hf, hn⟩ | ⟨j, rfl, hf, he⟩
  · have no : rowZ (it b w i) ∉ (metB b w i).map (·.1) := fun z => not_yet hf (metB_in.mp z)
    have e : (lookD (metB b w i) (rowZ (it b w i))).isSome = false := by
      cases z : (lookD (metB b w i) (rowZ (it b w i))).isSome with
      | false => rfl
      | true => exact absurd (lookD_in.mp z) no
    have iw := falls_wt hf
    rw [e]
    simp only [bls_bl, ints_int, way_t, way_f, way_d, way_n, alloc_t, alloc_f, so_ok, so_no, b_add, b_sub, b_mul, b_div, b_mod, b_pow, b_catL, b_repL, b_repT, c_eq, c_ne, c_eqS, c_neS, c_lt, c_le, c_gt, c_ge, c_is, c_isn, c_in, c_nin, x_lst, x_tup, x_ft, l_lst, u_add, u_sub, at0, at1, at2, at3, f_len, len_lst, len_tup, len_ft, f_abs, f_min, f_max, f_int, f_intB, ix0, ix1, ix2, ix3, trunc_set, trunc_self, List.getElem?_cons_zero, List.getElem?_cons_succ, List.set_cons_zero, List.set_cons_succ, Option.some.injEq, exists_eq_left', exists_eq_left, exists_eq', exists_eq, exists_eq_right, exists_eq_right', D.int.injEq, D.bl.injEq, D.str.injEq, D.tup.injEq, D.lst.injEq, List.cons.injEq, List.length_cons, List.length_nil, List.map_cons, List.map_nil, true_and, and_true, Option.map_some, Option.map_none, Nat.reduceAdd, Nat.reduceLT, Nat.reduceLeDiff, Int.reduceLT, Int.reduceLE, Int.reduceNeg, Int.reducePow, ↓reduceIte, List.length_set, not_true_eq_false, not_false_eq_true, forall_const, false_implies, false_and, and_false, Int.zero_emod, implies_true, or_true, true_or, if_true, if_false, Bool.true_eq_false, Bool.false_eq_true]
    refine ⟨n - 1, by omega, ?_⟩
    simp only [m_nil, m_cons, m_asg, m_par2, m_par3, m_augS, m_setF, m_expr, m_ret, m_retN, m_ite, m_pass, m_brk, m_cont, m_never, g_name, g_sub, g_tup2, e_var, e_cst, e_bin, e_cmp, e_chain, e_and, e_or, e_not, e_ite, e_neg, e_tup, e_lst, e_idx, e_cut, o_none, o_some, e_fld, e_call, e_bi, e_bm, e_frz, e_dict, e_isi, e_rev, e_lrng, s_nil', s_cons', t_tr, t_tb, t_cmp, t_chain, t_and, t_or, t_not, t_yes, m_for, m_while, i_seq, i_rng1, i_rng2, i_rng3, i_enum, q_tup, q_ft, q_lst, q_fl, n_lst, y_ii, y_ib, y_bi, y_bb, y_tt, y_ss, y_ll, f_listT, f_listL, f_listF, f_tupT, f_tupL, Bool.not_true, Bool.not_false, isNon, tru_bl, cast0, cast1, cast2, cast3, cast4, Int.reduceEq, sLine, bls_bl, ints_int, way_t, way_f, way_d, way_n, alloc_t, alloc_f, so_ok, so_no, b_add, b_sub, b_mul, b_div, b_mod, b_pow, b_catL, b_repL, b_repT, c_eq, c_ne, c_eqS, c_neS, c_lt, c_le, c_gt, c_ge, c_is, c_isn, c_in, c_nin, x_lst, x_tup, x_ft, l_lst, u_add, u_sub, at0, at1, at2, at3, f_len, len_lst, len_tup, len_ft, f_abs, f_min, f_max, f_int, f_intB, ix0, ix1, ix2, ix3, trunc_set, trunc_self, List.getElem?_cons_zero, List.getElem?_cons_succ, List.set_cons_zero, List.set_cons_succ, Option.some.injEq, exists_eq_left', exists_eq_left, exists_eq', exists_eq, exists_eq_right, exists_eq_right', D.int.injEq, D.bl.injEq, D.str.injEq, D.tup.injEq, D.lst.injEq, List.cons.injEq, List.length_cons, List.length_nil, List.map_cons, List.map_nil, true_and, and_true, Option.map_some, Option.map_none, Nat.reduceAdd, Nat.reduceLT, Nat.reduceLeDiff, Int.reduceLT, Int.reduceLE, Int.reduceNeg, Int.reducePow, ↓reduceIte, List.length_set, not_true_eq_false, not_false_eq_true, forall_const, false_implies, false_and, and_false, Int.zero_emod, implies_true, or_true, true_or, if_true, if_false, Bool.true_eq_false, Bool.false_eq_true, T8_7, List.append_nil, set_db app_look (show (metB b w i).length < sLine by unfold metB sLine; rw [List.length_map, List.length_range]; omega) no, app_set, metB_succ]
    refine law_after_ok hw hr (it_len hr i) ?_
    exact ⟨i + 1, loop_next hr hf hn (by omega), rfl, rfl⟩
  · have e : (lookD (metB b w (j + 1)) (rowZ (it b w (j + 1)))).isSome = true := lookD_in.mpr (metB_in.mpr ⟨j, by omega, he⟩)
    rw [e]
    simp only [m_nil, m_cons, m_asg, m_par2, m_par3, m_augS, m_setF, m_expr, m_ret, m_retN, m_ite, m_pass, m_brk, m_cont, m_never, g_name, g_sub, g_tup2, e_var, e_cst, e_bin, e_cmp, e_chain, e_and, e_or, e_not, e_ite, e_neg, e_tup, e_lst, e_idx, e_cut, o_none, o_some, e_fld, e_call, e_bi, e_bm, e_frz, e_dict, e_isi, e_rev, e_lrng, s_nil', s_cons', t_tr, t_tb, t_cmp, t_chain, t_and, t_or, t_not, t_yes, m_for, m_while, i_seq, i_rng1, i_rng2, i_rng3, i_enum, q_tup, q_ft, q_lst, q_fl, n_lst, y_ii, y_ib, y_bi, y_bb, y_tt, y_ss, y_ll, f_listT, f_listL, f_listF, f_tupT, f_tupL, Bool.not_true, Bool.not_false, isNon, tru_bl, cast0, cast1, cast2, cast3, cast4, Int.reduceEq, sLine, bls_bl, ints_int, way_t, way_f, way_d, way_n, alloc_t, alloc_f, so_ok, so_no, b_add, b_sub, b_mul, b_div, b_mod, b_pow, b_catL, b_repL, b_repT, c_eq, c_ne, c_eqS, c_neS, c_lt, c_le, c_gt, c_ge, c_is, c_isn, c_in, c_nin, x_lst, x_tup, x_ft, l_lst, u_add, u_sub, at0, at1, at2, at3, f_len, len_lst, len_tup, len_ft, f_abs, f_min, f_max, f_int, f_intB, ix0, ix1, ix2, ix3, trunc_set, trunc_self, List.getElem?_cons_zero, List.getElem?_cons_succ, List.set_cons_zero, List.set_cons_succ, Option.some.injEq, exists_eq_left', exists_eq_left, exists_eq', exists_eq, exists_eq_right, exists_eq_right', D.int.injEq, D.bl.injEq, D.str.injEq, D.tup.injEq, D.lst.injEq, List.cons.injEq, List.length_cons, List.length_nil, List.map_cons, List.map_nil, true_and, and_true, Option.map_some, Option.map_none, Nat.reduceAdd, Nat.reduceLT, Nat.reduceLeDiff, Int.reduceLT, Int.reduceLE, Int.reduceNeg, Int.reducePow, ↓reduceIte, List.length_set, not_true_eq_false, not_false_eq_true, forall_const, false_implies, false_and, and_false, Int.zero_emod, implies_true, or_true, true_or, if_true, if_false, Bool.true_eq_false, Bool.false_eq_true, p_count]
    rw [trunc_ext rfl, he, fix_last hf he]
    exact q
end
end Mq
end

section
set_option maxHeartbeats 8000000
namespace Mq
open PySem L2 PySem.Spec PyProof.Rows P86
section
variable {S : Sto} {Q : D → Sto → Prop}
theorem T9_6 {xs : List D} : T_9 6 xs S = F_law_take (xs ++ []) S := rfl
theorem bag_lt {b : Nat} (B : Bag S b) : b < S.length := by
  obtain ⟨a, x, i, cs, hb, _⟩ := B
  exact (List.getElem?_eq_some_iff.mp hb).1
/-- the bag has changed, nothing else -/
def Same (b : Nat) (S S' : Sto) : Prop := S'.length = S.length ∧ ∀ j, j ≠ b → S'[j]? = S[j]?
theorem same_set {b : Nat} {c : Cell} : Same b S (S.set b c) := ⟨by rw [List.length_set], fun j hj => by rw [List.getElem?_set, if_neg (Ne.symm hj)]⟩
theorem Same.refl {b : Nat} : Same b S S := ⟨rfl, fun _ _ => rfl⟩
theorem Same.trans {b : Nat} {S1 S2 : Sto} (h : Same b S S1) (k : Same b S1 S2) : Same b S S2 := ⟨k.1.trans h.1, fun j hj => (k.2 j hj).trans (h.2 j hj)⟩
theorem step_ok {k : Nat} {L : Nat} (B : Bag S k) (hL : L ≤ 12) (q : ∀ s L' S', nxt s L = some L' → L' ≤ 12 → Bag S' k → Same k S S' → Q (.tup [toD s, .int (L' : Nat)]) S') : (F_law_step [.cell k, .int L] S).so Q := by
  unfold F_law_step
  refine runF_so (by rfl) ?_
  unfold startD ir_law_step
  simp only [List.map_cons, List.map_nil, List.length_cons, List.length_nil, List.replicate, List.cons_append, List.nil_append]
  simp only [m_nil, m_cons, m_asg, m_par2, m_par3, m_augS, m_setF, m_expr, m_ret, m_retN, m_ite, m_pass, m_brk, m_cont, m_never, g_name, g_sub, g_tup2, e_var, e_cst, e_bin, e_cmp, e_chain, e_and, e_or, e_not, e_ite, e_neg, e_tup, e_lst, e_idx, e_cut, o_none, o_some, e_fld, e_call, e_bi, e_bm, e_frz, e_dict, e_isi, e_rev, e_lrng, s_nil', s_cons', t_tr, t_tb, t_cmp, t_chain, t_and, t_or, t_not, t_yes, m_for, m_while, i_seq, i_rng1, i_rng2, i_rng3, i_enum, q_tup, q_ft, q_lst, q_fl, n_lst, y_ii, y_ib, y_bi, y_bb, y_tt, y_ss, y_ll, f_listT, f_listL, f_listF, f_tupT, f_tupL, Bool.not_true, Bool.not_false, isNon, tru_bl, cast0, cast1, cast2, cast3, cast4, Int.reduceEq, sLine, bls_bl, ints_int, way_t, way_f, way_d, way_n, alloc_t, alloc_f, so_ok, so_no, b_add, b_sub, b_mul, b_div, b_mod, b_pow, b_catL, b_repL, b_repT, c_eq, c_ne, c_eqS, c_neS, c_lt, c_le, c_gt, c_ge, c_is, c_isn, c_in, c_nin, x_lst, x_tup, x_ft, l_lst, u_add, u_sub, at0, at1, at2, at3, f_len, len_lst, len_tup, len_ft, f_abs, f_min, f_max, f_int, f_intB, ix0, ix1, ix2, ix3, trunc_set, trunc_self, List.getElem?_cons_zero, List.getElem?_cons_succ, List.set_cons_zero, List.set_cons_succ, Option.some.injEq, exists_eq_left', exists_eq_left, exists_eq', exists_eq, exists_eq_right, exists_eq_right', D.int.injEq, D.bl.injEq, D.str.injEq, D.tup.injEq, D.lst.injEq, List.cons.injEq, List.length_cons, List.length_nil, List.map_cons, List.map_nil, true_and, and_true, Option.map_some, Option.map_none, Nat.reduceAdd, Nat.reduceLT, Nat.reduceLeDiff, Int.reduceLT, Int.reduceLE, Int.reduceNeg, Int.reducePow, ↓reduceIte, List.length_set, not_true_eq_false, not_false_eq_true, forall_const, false_implies, false_and, and_false, Int.zero_emod, implies_true, or_true, true_or, if_true, if_false, Bool.true_eq_false, Bool.false_eq_true, T9_6, List.append_nil]
  refine take_ok B (by omega) (by omega) fun way_ c v0 v1 B1 => ?_
  simp only [m_nil, m_cons, m_asg, m_par2, m_par3, m_augS, m_setF, m_expr, m_ret, m_retN, m_ite, m_pass, m_brk, m_cont, m_never, g_name, g_sub, g_tup2, e_var, e_cst, e_bin, e_cmp, e_chain, e_and, e_or, e_not, e_ite, e_neg, e_tup, e_lst, e_idx, e_cut, o_none, o_some, e_fld, e_call, e_bi, e_bm, e_frz, e_dict, e_isi, e_rev, e_lrng, s_nil', s_cons', t_tr, t_tb, t_cmp, t_chain, t_and, t_or, t_not, t_yes, m_for, m_while, i_seq, i_rng1, i_rng2, i_rng3, i_enum, q_tup, q_ft, q_lst, q_fl, n_lst, y_ii, y_ib, y_bi, y_bb, y_tt, y_ss, y_ll, f_listT, f_listL, f_listF, f_tupT, f_tupL, Bool.not_true, Bool.not_false, isNon, tru_bl, cast0, cast1, cast2, cast3, cast4, Int.reduceEq, sLine, bls_bl, ints_int, way_t, way_f, way_d, way_n, alloc_t, alloc_f, so_ok, so_no, b_add, b_sub, b_mul, b_div, b_mod, b_pow, b_catL, b_repL, b_repT, c_eq, c_ne, c_eqS, c_neS, c_lt, c_le, c_gt, c_ge, c_is, c_isn, c_in, c_nin, x_lst, x_tup, x_ft, l_lst, u_add, u_sub, at0, at1, at2, at3, f_len, len_lst, len_tup, len_ft, f_abs, f_min, f_max, f_int, f_intB, ix0, ix1, ix2, ix3, trunc_set, trunc_self, List.getElem?_cons_zero, List.getElem?_cons_succ, List.set_cons_zero, List.set_cons_succ, Option.some.injEq, exists_eq_left', exists_eq_left, exists_eq', exists_eq, exists_eq_right, exists_eq_right', D.int.injEq, D.bl.injEq, D.str.injEq, D.tup.injEq, D.lst.injEq, List.cons.injEq, List.length_cons, List.length_nil, List.map_cons, List.map_nil, true_and, and_true, Option.map_some, Option.map_none, Nat.reduceAdd, Nat.reduceLT, Nat.reduceLeDiff, Int.reduceLT, Int.reduceLE, Int.reduceNeg, Int.reducePow, ↓reduceIte, List.length_set, not_true_eq_false, not_false_eq_true, forall_const, false_implies, false_and, and_false, Int.zero_emod, implies_true, or_true, true_or, if_true, if_false, Bool.true_eq_false, Bool.false_eq_true, T9_6, List.append_nil]
  have qa : (L : Int) < 12 → Q (.tup [.tup [.str "arrive"], .int ((L : Int) + 1)]) (S.set k c) := fun h =>
    q .ar (L + 1) _ (if_pos (by omega)) (by omega) B1 same_set
  have qs : 0 < (L : Int) → Q (.tup [.tup [.str "serve"], .int ((L : Int) - 1)]) (S.set k c) := fun h => by
    have z := q .se (L - 1) _ (if_pos (by omega)) (by omega) B1 same_set
    rw [show ((L - 1 : Nat) : Int) = (L : Int) - 1 by omega] at z
    exact z
  have qc : 1 < (L : Int) → (F_law_take [.cell k, .int ((L : Int) - 1)] (S.set k c)).so fun x S_1 =>
      ∃ d, atI [x, .int 0] (if decide (way_ = 2) = true then 1 else 0) = some d ∧ Q (.tup [.tup [.str "compare", d], .int (L : Nat)]) (trunc S (.tup [.tup [.str "compare", d], .int (L : Nat)]) S_1) := fun h => by
    refine take_ok B1 (by omega) (by omega) fun v c' h0 h1 B2 => ?_
    rw [List.set_set] at B2 ⊢
    by_cases e : way_ = 2
    · rw [if_pos (decide_eq_true e)]
      refine ⟨.int 0, rfl, ?_⟩
      rw [trunc_set]
      exact q (.cp 0) L _ (if_pos (by omega)) hL B2 same_set
    · rw [if_neg (by simp [e])]
      refine ⟨.int v, rfl, ?_⟩
      rw [trunc_set]
      have z := q (.cp v.toNat) L _ (if_pos (by omega)) hL B2 same_set
      have z : Q (.tup [.tup [.str "compare", .int ((v.toNat : Nat) : Int)], .int (L : Nat)]) (S.set k c') := z
      rw [Int.toNat_of_nonneg h0] at z
      exact z
  have q0 : (L : Int) = 0 → Q (.tup [.tup [.str "arrive"], .int 1]) (S.set k c) := fun h => by
    have e : L = 0 := by omega
    subst e
    exact qa (by omega)
  have q1 : ¬1 < (L : Int) → ¬(L : Int) = 0 → Q (.tup [.tup [.str "serve"], .int 0]) (S.set k c) := fun h h2 => by
    have e : L = 1 := by omega
    subst e
    exact qs (by omega)
  exact ⟨fun _ => ⟨qa, fun _ => ⟨fun _ => ⟨qs, fun _ => ⟨qc, fun h => ⟨q0, q1 h⟩⟩⟩, fun _ => ⟨qc, fun h => ⟨q0, q1 h⟩⟩⟩⟩, fun _ => ⟨fun _ => ⟨qs, fun _ => ⟨qc, fun h => ⟨q0, q1 h⟩⟩⟩, fun _ => ⟨qc, fun h => ⟨q0, q1 h⟩⟩⟩⟩
theorem T10_6 {xs : List D} : T_10 6 xs S = F_law_take (xs ++ []) S := rfl
theorem T10_9 {xs : List D} : T_10 9 xs S = F_law_step (xs ++ []) S := rfl
/-- lengths ahead of each step -/
def Ahead (b : List Deed) (w : Nat) (ls : List Nat) : Prop := ls.length = b.length ∧ ∀ i l, ls[i]? = some l → run (b.take i) w = some l
def lenD' (ls : List Nat) : List D := ls.map fun l => .int (l : Nat)
/-- the block and its lengths in the two cells behind the old ones -/
structure Two (S S' : Sto) (k : Nat) (b : List Deed) (ls : List Nat) : Prop where
  len : S'.length = S.length + 2
  one : S'[S.length]? = some (.lst (b.map toD))
  two : S'[S.length + 1]? = some (.lst (lenD' ls))
  old : ∀ j, j < S.length → j ≠ k → S'[j]? = S[j]?
  bag : Bag S' k
theorem Two.same {S S' S'' : Sto} {k : Nat} {b : List Deed} {ls : List Nat} (t : Two S S' k b ls) (hk : k < S.length) (h : Same k S' S'') (B : Bag S'' k) : Two S S'' k b ls :=
  ⟨h.1.trans t.len, (h.2 _ (by omega)).trans t.one, (h.2 _ (by omega)).trans t.two, fun j h1 h2 => (h.2 j h2).trans (t.old j h1 h2), B⟩
theorem bag_keep {S S' : Sto} {k : Nat} (B : Bag S k) (h : S'[k]? = S[k]?) : Bag S' k := by
  obtain ⟨a, x, i, cs, hb, r⟩ := B
  exact ⟨a, x, i, cs, h.trans hb, r⟩
theorem Two.put1 {S S' : Sto} {k : Nat} {b : List Deed} {ls : List Nat} {s : Deed} (t : Two S S' k b ls) (hk : k < S.length) : Two S (S'.set S.length (.lst (b.map toD ++ [toD s]))) k (b ++ [s]) ls := by
  refine ⟨by rw [List.length_set]; exact t.len, ?_, ?_, fun j h1 h2 => ?_, bag_keep t.bag ?_⟩
  · rw [set_look (by rw [t.len]; omega), List.map_append]; rfl
  · rw [List.getElem?_set, if_neg (by omega)]; exact t.two
  · rw [List.getElem?_set, if_neg (by omega)]; exact t.old j h1 h2
  · rw [List.getElem?_set, if_neg (by omega)]
theorem Two.put2 {S S' : Sto} {k : Nat} {b : List Deed} {ls : List Nat} {l : Nat} (t : Two S S' k b ls) (hk : k < S.length) : Two S (S'.set (S.length + 1) (.lst (lenD' ls ++ [.int (l : Nat)]))) k b (ls ++ [l]) := by
  refine ⟨by rw [List.length_set]; exact t.len, ?_, ?_, fun j h1 h2 => ?_, bag_keep t.bag ?_⟩
  · rw [List.getElem?_set, if_neg (by omega)]; exact t.one
  · rw [set_look (by rw [t.len]; omega)]; unfold lenD'; rw [List.map_append]; rfl
  · rw [List.getElem?_set, if_neg (by omega)]; exact t.old j h1 h2
  · rw [List.getElem?_set, if_neg (by omega)]
theorem ahead_put {b : List Deed} {w L : Nat} {ls : List Nat} {s : Deed} (h : Ahead b w ls) (hr : run b w = some L) : Ahead (b ++ [s]) w (ls ++ [L]) := by
  refine ⟨by simp [h.1], fun i l e => ?_⟩
  by_cases hi : i < ls.length
  · rw [List.getElem?_append_left hi] at e
    rw [List.take_append_of_le_length (by rw [← h.1]; omega)]
    exact h.2 i l e
  · rw [List.getElem?_append_right (by omega)] at e
    have hi2 : i = ls.length := by
      have := (List.getElem?_eq_some_iff.mp e).1
      simp at this
      omega
    subst hi2
    rw [Nat.sub_self] at e
    cases e
    rw [List.take_append_of_le_length (by rw [h.1]; omega), h.1, List.take_length]
    exact hr
theorem run_put {b : List Deed} {w L M : Nat} {s : Deed} (hr : run b w = some L) (h : nxt s L = some M) : run (b ++ [s]) w = some M := by
  rw [run_app, hr]
  show (match nxt s L with | some L' => P86.run [] L' | none => none) = _
  rw [h]
  rfl
theorem noRefs_nat {n : Nat} : ∀ {cs : List D}, natInts cs → noRefs n cs = true
  | [], _ => rfl
  | .int i :: r, h => by
    show (noRef n (.int i) && noRefs n r) = true
    rw [noRefs_nat h.2]; rfl
theorem noRefs_toD {n : Nat} : ∀ {b : List Deed}, noRefs n (b.map toD) = true
  | [] => rfl
  | s :: b => by
    show (noRef n (toD s) && noRefs n (b.map toD)) = true
    rw [noRefs_toD]
    cases s <;> rfl
theorem noRefs_len {n : Nat} : ∀ {ls : List Nat}, noRefs n (lenD' ls) = true
  | [] => rfl
  | s :: b => by
    show (noRef n (.int _) && noRefs n (lenD' b)) = true
    rw [noRefs_len]; rfl
/-- cut back to the old cells, of which only the bag has changed -/
theorem cut_bag {S S' : Sto} {k : Nat} {d : D} (hk : k < S.length) (hl : S.length ≤ S'.length) (hd : noRef S.length d = true) (old : ∀ j, j < S.length → j ≠ k → S'[j]? = S[j]?) (B : Bag S' k) : ∃ S2, trunc S d S' = S2 ∧ Same k S S2 ∧ Bag S2 k := by
  have e : trunc S d S' = S'.take S.length := by
    unfold trunc
    rw [if_pos]
    refine ⟨hl, hd, fun i hi => ?_⟩
    by_cases q : i = k
    · subst q
      obtain ⟨a, x, j, cs, hb, _, _, _, hc⟩ := B
      refine .inr ⟨_, hb, ?_⟩
      show (noRef S.length (.int a) && (noRef S.length (.int x) && (noRef S.length (.int j) && (noRefs S.length cs && true)))) = true
      rw [noRefs_nat hc]; rfl
    · exact .inl (old i hi q)
  refine ⟨_, e, ⟨by rw [List.length_take]; omega, fun j hj => ?_⟩, bag_keep B ?_⟩
  · by_cases q : j < S.length
    · rw [List.getElem?_take, if_pos q]; exact old j q hj
    · rw [List.getElem?_eq_none (by rw [List.length_take]; omega), List.getElem?_eq_none (by omega)]
  · rw [List.getElem?_take, if_pos hk]
theorem frzL_id {f : D → Sto → Option (D × Sto)} : ∀ {xs : List D} {S : Sto}, (∀ x ∈ xs, ∀ S, f x S = some (x, S)) → frzL f xs S = some (xs, S)
  | [], S, _ => rfl
  | x :: xs, S, h => by
    show (match f x S with | some (y, S1) => (match frzL f xs S1 with | some (ys, S2) => some (y :: ys, S2) | none => none) | none => none) = _
    rw [h x (.head _) S]
    dsimp only
    rw [frzL_id fun y hy => h y (.tail _ hy)]
theorem frz_toD (s : Deed) (S : Sto) : frz 2 (toD s) S = some (toD s, S) := by cases s <;> rfl
theorem frz_cell {j n : Nat} {xs : List D} {S : Sto} (h : S[n]? = some (.lst xs)) (hx : ∀ x ∈ xs, ∀ S, frz j x S = some (x, S)) : frz (j + 1) (.cell n) S = some (.lst xs, S.set n .dead) := by
  unfold frz
  dsimp only
  rw [h]
  dsimp only
  rw [frzL_id hx]
theorem frz_two {S S' : Sto} {k : Nat} {b : List Deed} {ls : List Nat} (hk : k < S.length) (t : Two S S' k b ls) : frz 4 (.tup [.cell S.length, .cell (S.length + 1)]) S' = some (.tup [.lst (b.map toD), .lst (lenD' ls)], (S'.set S.length .dead).set (S.length + 1) .dead) := by
  have h1 := frz_cell (j := 2) t.one fun x hx S => by
    obtain ⟨s, _, rfl⟩ := List.mem_map.mp hx
    exact frz_toD s S
  have h2 := frz_cell (j := 2) (S := S'.set S.length .dead) (n := S.length + 1) (xs := lenD' ls) (by rw [List.getElem?_set, if_neg (by omega)]; exact t.two) fun x hx S => by
    obtain ⟨s, _, rfl⟩ := List.mem_map.mp hx
    rfl
  show (match frzL (frz 3) [.cell S.length, .cell (S.length + 1)] S' with | some (ys, S') => some (D.tup ys, S') | none => none) = _
  unfold frzL
  rw [h1]
  dsimp only
  unfold frzL
  rw [h2]
  rfl
theorem block_ok {k : Nat} {w : Nat} (B : Bag S k) (hw : w ≤ 12) (q : ∀ b ls S', b.length ≤ 41 → run b w = some w → Ahead b w ls → Bag S' k → Same k S S' → Q (.tup [.lst (b.map toD), .lst (lenD' ls)]) S') : (F_law_block [.cell k, .int w] S).so Q := by
  have hk := bag_lt B
  unfold F_law_block
  refine runF_so (by rfl) ?_
  unfold startD ir_law_block
  simp only [List.map_cons, List.map_nil, List.length_cons, List.length_nil, List.replicate, List.cons_append, List.nil_append]
  simp only [m_nil, m_cons, m_asg, m_par2, m_par3, m_augS, m_setF, m_expr, m_ret, m_retN, m_ite, m_pass, m_brk, m_cont, m_never, g_name, g_sub, g_tup2, e_var, e_cst, e_bin, e_cmp, e_chain, e_and, e_or, e_not, e_ite, e_neg, e_tup, e_lst, e_idx, e_cut, o_none, o_some, e_fld, e_call, e_bi, e_bm, e_frz, e_dict, e_isi, e_rev, e_lrng, s_nil', s_cons', t_tr, t_tb, t_cmp, t_chain, t_and, t_or, t_not, t_yes, m_for, m_while, i_seq, i_rng1, i_rng2, i_rng3, i_enum, q_tup, q_ft, q_lst, q_fl, n_lst, y_ii, y_ib, y_bi, y_bb, y_tt, y_ss, y_ll, f_listT, f_listL, f_listF, f_tupT, f_tupL, Bool.not_true, Bool.not_false, isNon, tru_bl, cast0, cast1, cast2, cast3, cast4, Int.reduceEq, sLine, bls_bl, ints_int, way_t, way_f, way_d, way_n, alloc_t, alloc_f, so_ok, so_no, b_add, b_sub, b_mul, b_div, b_mod, b_pow, b_catL, b_repL, b_repT, c_eq, c_ne, c_eqS, c_neS, c_lt, c_le, c_gt, c_ge, c_is, c_isn, c_in, c_nin, x_lst, x_tup, x_ft, l_lst, u_add, u_sub, at0, at1, at2, at3, f_len, len_lst, len_tup, len_ft, f_abs, f_min, f_max, f_int, f_intB, ix0, ix1, ix2, ix3, trunc_set, trunc_self, List.getElem?_cons_zero, List.getElem?_cons_succ, List.set_cons_zero, List.set_cons_succ, Option.some.injEq, exists_eq_left', exists_eq_left, exists_eq', exists_eq, exists_eq_right, exists_eq_right', D.int.injEq, D.bl.injEq, D.str.injEq, D.tup.injEq, D.lst.injEq, List.cons.injEq, List.length_cons, List.length_nil, List.map_cons, List.map_nil, true_and, and_true, Option.map_some, Option.map_none, Nat.reduceAdd, Nat.reduceLT, Nat.reduceLeDiff, Int.reduceLT, Int.reduceLE, Int.reduceNeg, Int.reducePow, ↓reduceIte, List.length_set, not_true_eq_false, not_false_eq_true, forall_const, false_implies, false_and, and_false, Int.zero_emod, implies_true, or_true, true_or, if_true, if_false, Bool.true_eq_false, Bool.false_eq_true, T10_6, T10_9, List.append_nil, app_len]
  have t0 : Two S (S ++ [.lst []] ++ [.lst []]) k [] [] := by
    refine ⟨by simp, by simp, by simp [lenD'], fun j h1 _ => by simp [List.getElem?_append_left, h1], bag_keep B (by simp [List.getElem?_append_left, hk])⟩
  refine take_ok t0.bag (by omega) (by omega) fun v c v0 v1 B1 => ?_
  have t1 := t0.same hk same_set B1
  generalize (S ++ [Cell.lst []] ++ [Cell.lst []]).set k c = S1 at t1 B1 ⊢
  simp only [m_nil, m_cons, m_asg, m_par2, m_par3, m_augS, m_setF, m_expr, m_ret, m_retN, m_ite, m_pass, m_brk, m_cont, m_never, g_name, g_sub, g_tup2, e_var, e_cst, e_bin, e_cmp, e_chain, e_and, e_or, e_not, e_ite, e_neg, e_tup, e_lst, e_idx, e_cut, o_none, o_some, e_fld, e_call, e_bi, e_bm, e_frz, e_dict, e_isi, e_rev, e_lrng, s_nil', s_cons', t_tr, t_tb, t_cmp, t_chain, t_and, t_or, t_not, t_yes, m_for, m_while, i_seq, i_rng1, i_rng2, i_rng3, i_enum, q_tup, q_ft, q_lst, q_fl, n_lst, y_ii, y_ib, y_bi, y_bb, y_tt, y_ss, y_ll, f_listT, f_listL, f_listF, f_tupT, f_tupL, Bool.not_true, Bool.not_false, isNon, tru_bl, cast0, cast1, cast2, cast3, cast4, Int.reduceEq, sLine, bls_bl, ints_int, way_t, way_f, way_d, way_n, alloc_t, alloc_f, so_ok, so_no, b_add, b_sub, b_mul, b_div, b_mod, b_pow, b_catL, b_repL, b_repT, c_eq, c_ne, c_eqS, c_neS, c_lt, c_le, c_gt, c_ge, c_is, c_isn, c_in, c_nin, x_lst, x_tup, x_ft, l_lst, u_add, u_sub, at0, at1, at2, at3, f_len, len_lst, len_tup, len_ft, f_abs, f_min, f_max, f_int, f_intB, ix0, ix1, ix2, ix3, trunc_set, trunc_self, List.getElem?_cons_zero, List.getElem?_cons_succ, List.set_cons_zero, List.set_cons_succ, Option.some.injEq, exists_eq_left', exists_eq_left, exists_eq', exists_eq, exists_eq_right, exists_eq_right', D.int.injEq, D.bl.injEq, D.str.injEq, D.tup.injEq, D.lst.injEq, List.cons.injEq, List.length_cons, List.length_nil, List.map_cons, List.map_nil, true_and, and_true, Option.map_some, Option.map_none, Nat.reduceAdd, Nat.reduceLT, Nat.reduceLeDiff, Int.reduceLT, Int.reduceLE, Int.reduceNeg, Int.reducePow, ↓reduceIte, List.length_set, not_true_eq_false, not_false_eq_true, forall_const, false_implies, false_and, and_false, Int.zero_emod, implies_true, or_true, true_or, if_true, if_false, Bool.true_eq_false, Bool.false_eq_true]
  have hv : ∃ m : Int, atI [D.int 8, D.int 30] v = some (.int m) ∧ 1 ≤ m ∧ m ≤ 30 := by
    have : v = 0 ∨ v = 1 := by omega
    rcases this with rfl | rfl
    · exact ⟨8, rfl, by omega, by omega⟩
    · exact ⟨30, rfl, by omega, by omega⟩
  obtain ⟨m, hm, m0, m1⟩ := hv
  refine ⟨_, hm, ?_⟩
  refine take_ok B1 (by omega) (by omega) fun n c2 n0 n1 B2 => ?_
  have t2 := t1.same hk same_set B2
  generalize S1.set k c2 = S2 at t2 B2 ⊢
  simp only [m_nil, m_cons, m_asg, m_par2, m_par3, m_augS, m_setF, m_expr, m_ret, m_retN, m_ite, m_pass, m_brk, m_cont, m_never, g_name, g_sub, g_tup2, e_var, e_cst, e_bin, e_cmp, e_chain, e_and, e_or, e_not, e_ite, e_neg, e_tup, e_lst, e_idx, e_cut, o_none, o_some, e_fld, e_call, e_bi, e_bm, e_frz, e_dict, e_isi, e_rev, e_lrng, s_nil', s_cons', t_tr, t_tb, t_cmp, t_chain, t_and, t_or, t_not, t_yes, m_for, m_while, i_seq, i_rng1, i_rng2, i_rng3, i_enum, q_tup, q_ft, q_lst, q_fl, n_lst, y_ii, y_ib, y_bi, y_bb, y_tt, y_ss, y_ll, f_listT, f_listL, f_listF, f_tupT, f_tupL, Bool.not_true, Bool.not_false, isNon, tru_bl, cast0, cast1, cast2, cast3, cast4, Int.reduceEq, sLine, bls_bl, ints_int, way_t, way_f, way_d, way_n, alloc_t, alloc_f, so_ok, so_no, b_add, b_sub, b_mul, b_div, b_mod, b_pow, b_catL, b_repL, b_repT, c_eq, c_ne, c_eqS, c_neS, c_lt, c_le, c_gt, c_ge, c_is, c_isn, c_in, c_nin, x_lst, x_tup, x_ft, l_lst, u_add, u_sub, at0, at1, at2, at3, f_len, len_lst, len_tup, len_ft, f_abs, f_min, f_max, f_int, f_intB, ix0, ix1, ix2, ix3, trunc_set, trunc_self, List.getElem?_cons_zero, List.getElem?_cons_succ, List.set_cons_zero, List.set_cons_succ, Option.some.injEq, exists_eq_left', exists_eq_left, exists_eq', exists_eq, exists_eq_right, exists_eq_right', D.int.injEq, D.bl.injEq, D.str.injEq, D.tup.injEq, D.lst.injEq, List.cons.injEq, List.length_cons, List.length_nil, List.map_cons, List.map_nil, true_and, and_true, Option.map_some, Option.map_none, Nat.reduceAdd, Nat.reduceLT, Nat.reduceLeDiff, Int.reduceLT, Int.reduceLE, Int.reduceNeg, Int.reducePow, ↓reduceIte, List.length_set, not_true_eq_false, not_false_eq_true, forall_const, false_implies, false_and, and_false, Int.zero_emod, implies_true, or_true, true_or, if_true, if_false, Bool.true_eq_false, Bool.false_eq_true]
  refine ⟨⟨by omega, by omega⟩, ?_⟩
  refine for_so (fun i σ S' => ∃ b ls L, Two S S' k b ls ∧ run b w = some L ∧ L ≤ 12 ∧ Ahead b w ls ∧ b.length = i ∧ ∃ x s, σ = [some (.cell k), some (.int w), x, some (.cell S.length), some (.cell (S.length + 1)), some (.int (L : Nat)), s]) ⟨[], [], w, t2, rfl, hw, ⟨rfl, fun i l h => by simp at h⟩, rfl, _, _, rfl⟩ ?_ ?_
  · rintro i d σ S' hd ⟨b, ls, L, t, hr, hL, ha, hb, x, s, rfl⟩
    refine ⟨_, rfl, ?_⟩
    have ln : (lenD' ls).length < sLine := by
      unfold lenD'
      rw [List.length_map, ha.1, hb]
      have := (List.getElem?_eq_some_iff.mp hd).1
      rw [rngD_len] at this
      show i < 16777216
      omega
    simp only [m_nil, m_cons, m_asg, m_par2, m_par3, m_augS, m_setF, m_expr, m_ret, m_retN, m_ite, m_pass, m_brk, m_cont, m_never, g_name, g_sub, g_tup2, e_var, e_cst, e_bin, e_cmp, e_chain, e_and, e_or, e_not, e_ite, e_neg, e_tup, e_lst, e_idx, e_cut, o_none, o_some, e_fld, e_call, e_bi, e_bm, e_frz, e_dict, e_isi, e_rev, e_lrng, s_nil', s_cons', t_tr, t_tb, t_cmp, t_chain, t_and, t_or, t_not, t_yes, m_for, m_while, i_seq, i_rng1, i_rng2, i_rng3, i_enum, q_tup, q_ft, q_lst, q_fl, n_lst, y_ii, y_ib, y_bi, y_bb, y_tt, y_ss, y_ll, f_listT, f_listL, f_listF, f_tupT, f_tupL, Bool.not_true, Bool.not_false, isNon, tru_bl, cast0, cast1, cast2, cast3, cast4, Int.reduceEq, sLine, bls_bl, ints_int, way_t, way_f, way_d, way_n, alloc_t, alloc_f, so_ok, so_no, b_add, b_sub, b_mul, b_div, b_mod, b_pow, b_catL, b_repL, b_repT, c_eq, c_ne, c_eqS, c_neS, c_lt, c_le, c_gt, c_ge, c_is, c_isn, c_in, c_nin, x_lst, x_tup, x_ft, l_lst, u_add, u_sub, at0, at1, at2, at3, f_len, len_lst, len_tup, len_ft, f_abs, f_min, f_max, f_int, f_intB, ix0, ix1, ix2, ix3, trunc_set, trunc_self, List.getElem?_cons_zero, List.getElem?_cons_succ, List.set_cons_zero, List.set_cons_succ, Option.some.injEq, exists_eq_left', exists_eq_left, exists_eq', exists_eq, exists_eq_right, exists_eq_right', D.int.injEq, D.bl.injEq, D.str.injEq, D.tup.injEq, D.lst.injEq, List.cons.injEq, List.length_cons, List.length_nil, List.map_cons, List.map_nil, true_and, and_true, Option.map_some, Option.map_none, Nat.reduceAdd, Nat.reduceLT, Nat.reduceLeDiff, Int.reduceLT, Int.reduceLE, Int.reduceNeg, Int.reducePow, ↓reduceIte, List.length_set, not_true_eq_false, not_false_eq_true, forall_const, false_implies, false_and, and_false, Int.zero_emod, implies_true, or_true, true_or, if_true, if_false, Bool.true_eq_false, Bool.false_eq_true, l_cell t.two, p_append t.two, T10_9, List.append_nil]
    refine ⟨ln, ?_⟩
    have t3 := t.put2 (l := L) hk
    generalize S'.set (S.length + 1) (.lst (lenD' ls ++ [.int (L : Nat)])) = S3 at t3 ⊢
    refine step_ok t3.bag hL fun s' L' S4 h1 h2 B4 same => ?_
    have t4 := t3.same hk same B4
    simp only [m_nil, m_cons, m_asg, m_par2, m_par3, m_augS, m_setF, m_expr, m_ret, m_retN, m_ite, m_pass, m_brk, m_cont, m_never, g_name, g_sub, g_tup2, e_var, e_cst, e_bin, e_cmp, e_chain, e_and, e_or, e_not, e_ite, e_neg, e_tup, e_lst, e_idx, e_cut, o_none, o_some, e_fld, e_call, e_bi, e_bm, e_frz, e_dict, e_isi, e_rev, e_lrng, s_nil', s_cons', t_tr, t_tb, t_cmp, t_chain, t_and, t_or, t_not, t_yes, m_for, m_while, i_seq, i_rng1, i_rng2, i_rng3, i_enum, q_tup, q_ft, q_lst, q_fl, n_lst, y_ii, y_ib, y_bi, y_bb, y_tt, y_ss, y_ll, f_listT, f_listL, f_listF, f_tupT, f_tupL, Bool.not_true, Bool.not_false, isNon, tru_bl, cast0, cast1, cast2, cast3, cast4, Int.reduceEq, sLine, bls_bl, ints_int, way_t, way_f, way_d, way_n, alloc_t, alloc_f, so_ok, so_no, b_add, b_sub, b_mul, b_div, b_mod, b_pow, b_catL, b_repL, b_repT, c_eq, c_ne, c_eqS, c_neS, c_lt, c_le, c_gt, c_ge, c_is, c_isn, c_in, c_nin, x_lst, x_tup, x_ft, l_lst, u_add, u_sub, at0, at1, at2, at3, f_len, len_lst, len_tup, len_ft, f_abs, f_min, f_max, f_int, f_intB, ix0, ix1, ix2, ix3, trunc_set, trunc_self, List.getElem?_cons_zero, List.getElem?_cons_succ, List.set_cons_zero, List.set_cons_succ, Option.some.injEq, exists_eq_left', exists_eq_left, exists_eq', exists_eq, exists_eq_right, exists_eq_right', D.int.injEq, D.bl.injEq, D.str.injEq, D.tup.injEq, D.lst.injEq, List.cons.injEq, List.length_cons, List.length_nil, List.map_cons, List.map_nil, true_and, and_true, Option.map_some, Option.map_none, Nat.reduceAdd, Nat.reduceLT, Nat.reduceLeDiff, Int.reduceLT, Int.reduceLE, Int.reduceNeg, Int.reducePow, ↓reduceIte, List.length_set, not_true_eq_false, not_false_eq_true, forall_const, false_implies, false_and, and_false, Int.zero_emod, implies_true, or_true, true_or, if_true, if_false, Bool.true_eq_false, Bool.false_eq_true, l_cell t4.one, p_append t4.one]
    refine ⟨_, _, ⟨rfl, rfl⟩, ?_⟩
    simp only [m_nil, m_cons, m_asg, m_par2, m_par3, m_augS, m_setF, m_expr, m_ret, m_retN, m_ite, m_pass, m_brk, m_cont, m_never, g_name, g_sub, g_tup2, e_var, e_cst, e_bin, e_cmp, e_chain, e_and, e_or, e_not, e_ite, e_neg, e_tup, e_lst, e_idx, e_cut, o_none, o_some, e_fld, e_call, e_bi, e_bm, e_frz, e_dict, e_isi, e_rev, e_lrng, s_nil', s_cons', t_tr, t_tb, t_cmp, t_chain, t_and, t_or, t_not, t_yes, m_for, m_while, i_seq, i_rng1, i_rng2, i_rng3, i_enum, q_tup, q_ft, q_lst, q_fl, n_lst, y_ii, y_ib, y_bi, y_bb, y_tt, y_ss, y_ll, f_listT, f_listL, f_listF, f_tupT, f_tupL, Bool.not_true, Bool.not_false, isNon, tru_bl, cast0, cast1, cast2, cast3, cast4, Int.reduceEq, sLine, bls_bl, ints_int, way_t, way_f, way_d, way_n, alloc_t, alloc_f, so_ok, so_no, b_add, b_sub, b_mul, b_div, b_mod, b_pow, b_catL, b_repL, b_repT, c_eq, c_ne, c_eqS, c_neS, c_lt, c_le, c_gt, c_ge, c_is, c_isn, c_in, c_nin, x_lst, x_tup, x_ft, l_lst, u_add, u_sub, at0, at1, at2, at3, f_len, len_lst, len_tup, len_ft, f_abs, f_min, f_max, f_int, f_intB, ix0, ix1, ix2, ix3, trunc_set, trunc_self, List.getElem?_cons_zero, List.getElem?_cons_succ, List.set_cons_zero, List.set_cons_succ, Option.some.injEq, exists_eq_left', exists_eq_left, exists_eq', exists_eq, exists_eq_right, exists_eq_right', D.int.injEq, D.bl.injEq, D.str.injEq, D.tup.injEq, D.lst.injEq, List.cons.injEq, List.length_cons, List.length_nil, List.map_cons, List.map_nil, true_and, and_true, Option.map_some, Option.map_none, Nat.reduceAdd, Nat.reduceLT, Nat.reduceLeDiff, Int.reduceLT, Int.reduceLE, Int.reduceNeg, Int.reducePow, ↓reduceIte, List.length_set, not_true_eq_false, not_false_eq_true, forall_const, false_implies, false_and, and_false, Int.zero_emod, implies_true, or_true, true_or, if_true, if_false, Bool.true_eq_false, Bool.false_eq_true, l_cell t4.one, p_append t4.one]
    refine ⟨?_, b ++ [s'], ls ++ [L], L', t4.put1 hk, run_put hr h1, h2, ahead_put ha hr, ?_, ?_⟩
    · have := (List.getElem?_eq_some_iff.mp hd).1
      rw [rngD_len] at this
      rw [List.length_map]
      omega
    · simp [hb]
    · exact ⟨_, _, rfl, rfl, rfl⟩
  · rintro σ S' ⟨b, ls, L, t, hr, hL, ha, hb, x, s, rfl⟩
    rw [rngD_len] at hb
    refine while_so (fun n σ S' => ∃ b ls L, Two S S' k b ls ∧ run b w = some L ∧ L ≤ 12 ∧ Ahead b w ls ∧ b.length + n ≤ 41 ∧ n = (if L < w then w - L else L - w) ∧ ∃ x s, σ = [some (.cell k), some (.int w), x, some (.cell S.length), some (.cell (S.length + 1)), some (.int (L : Nat)), s]) (n := if L < w then w - L else L - w) (by show _ < 100000; split <;> omega) ⟨b, ls, L, t, hr, hL, ha, by split <;> omega, rfl, x, s, rfl⟩ ?_
    rintro n σ S' ⟨b, ls, L, t, hr, hL, ha, hb, hn, x, s, rfl⟩
    simp only [m_nil, m_cons, m_asg, m_par2, m_par3, m_augS, m_setF, m_expr, m_ret, m_retN, m_ite, m_pass, m_brk, m_cont, m_never, g_name, g_sub, g_tup2, e_var, e_cst, e_bin, e_cmp, e_chain, e_and, e_or, e_not, e_ite, e_neg, e_tup, e_lst, e_idx, e_cut, o_none, o_some, e_fld, e_call, e_bi, e_bm, e_frz, e_dict, e_isi, e_rev, e_lrng, s_nil', s_cons', t_tr, t_tb, t_cmp, t_chain, t_and, t_or, t_not, t_yes, m_for, m_while, i_seq, i_rng1, i_rng2, i_rng3, i_enum, q_tup, q_ft, q_lst, q_fl, n_lst, y_ii, y_ib, y_bi, y_bb, y_tt, y_ss, y_ll, f_listT, f_listL, f_listF, f_tupT, f_tupL, Bool.not_true, Bool.not_false, isNon, tru_bl, cast0, cast1, cast2, cast3, cast4, Int.reduceEq, sLine, bls_bl, ints_int, way_t, way_f, way_d, way_n, alloc_t, alloc_f, so_ok, so_no, b_add, b_sub, b_mul, b_div, b_mod, b_pow, b_catL, b_repL, b_repT, c_eq, c_ne, c_eqS, c_neS, c_lt, c_le, c_gt, c_ge, c_is, c_isn, c_in, c_nin, x_lst, x_tup, x_ft, l_lst, u_add, u_sub, at0, at1, at2, at3, f_len, len_lst, len_tup, len_ft, f_abs, f_min, f_max, f_int, f_intB, ix0, ix1, ix2, ix3, trunc_set, trunc_self, List.getElem?_cons_zero, List.getElem?_cons_succ, List.set_cons_zero, List.set_cons_succ, Option.some.injEq, exists_eq_left', exists_eq_left, exists_eq', exists_eq, exists_eq_right, exists_eq_right', D.int.injEq, D.bl.injEq, D.str.injEq, D.tup.injEq, D.lst.injEq, List.cons.injEq, List.length_cons, List.length_nil, List.map_cons, List.map_nil, true_and, and_true, Option.map_some, Option.map_none, Nat.reduceAdd, Nat.reduceLT, Nat.reduceLeDiff, Int.reduceLT, Int.reduceLE, Int.reduceNeg, Int.reducePow, ↓reduceIte, List.length_set, not_true_eq_false, not_false_eq_true, forall_const, false_implies, false_and, and_false, Int.zero_emod, implies_true, or_true, true_or, if_true, if_false, Bool.true_eq_false, Bool.false_eq_true]
    refine ⟨fun e => ?_, fun e => ?_⟩
    · have e : L = w := by omega
      subst e
      refine ⟨_, _, frz_two hk t, ?_⟩
      obtain ⟨S5, e5, s5, B5⟩ := cut_bag (S' := (S'.set S.length .dead).set (S.length + 1) .dead) (d := .tup [.lst (b.map toD), .lst (lenD' ls)]) hk (by rw [List.length_set, List.length_set, t.len]; omega) (by
        show (noRefs S.length (b.map toD) && (noRefs S.length (lenD' ls) && true)) = true
        rw [noRefs_toD, noRefs_len]; rfl) (fun j h1 h2 => by rw [List.getElem?_set, if_neg (by omega), List.getElem?_set, if_neg (by omega)]; exact t.old j h1 h2) (bag_keep t.bag (by rw [List.getElem?_set, if_neg (by omega), List.getElem?_set, if_neg (by omega)]))
      rw [e5]
      exact q b ls S5 (by omega) hr ha B5 s5
    · have lb : (lenD' ls).length < sLine := by
        unfold lenD'
        rw [List.length_map, ha.1]
        show _ < 16777216
        omega
      by_cases h : L < w
      · rw [if_pos h] at hn
        have hd : decide ((L : Int) < (w : Int)) = true := decide_eq_true (by omega)
        refine ⟨n - 1, by omega, ?_⟩
        simp only [m_nil, m_cons, m_asg, m_par2, m_par3, m_augS, m_setF, m_expr, m_ret, m_retN, m_ite, m_pass, m_brk, m_cont, m_never, g_name, g_sub, g_tup2, e_var, e_cst, e_bin, e_cmp, e_chain, e_and, e_or, e_not, e_ite, e_neg, e_tup, e_lst, e_idx, e_cut, o_none, o_some, e_fld, e_call, e_bi, e_bm, e_frz, e_dict, e_isi, e_rev, e_lrng, s_nil', s_cons', t_tr, t_tb, t_cmp, t_chain, t_and, t_or, t_not, t_yes, m_for, m_while, i_seq, i_rng1, i_rng2, i_rng3, i_enum, q_tup, q_ft, q_lst, q_fl, n_lst, y_ii, y_ib, y_bi, y_bb, y_tt, y_ss, y_ll, f_listT, f_listL, f_listF, f_tupT, f_tupL, Bool.not_true, Bool.not_false, isNon, tru_bl, cast0, cast1, cast2, cast3, cast4, Int.reduceEq, sLine, bls_bl, ints_int, way_t, way_f, way_d, way_n, alloc_t, alloc_f, so_ok, so_no, b_add, b_sub, b_mul, b_div, b_mod, b_pow, b_catL, b_repL, b_repT, c_eq, c_ne, c_eqS, c_neS, c_lt, c_le, c_gt, c_ge, c_is, c_isn, c_in, c_nin, x_lst, x_tup, x_ft, l_lst, u_add, u_sub, at0, at1, at2, at3, f_len, len_lst, len_tup, len_ft, f_abs, f_min, f_max, f_int, f_intB, ix0, ix1, ix2, ix3, trunc_set, trunc_self, List.getElem?_cons_zero, List.getElem?_cons_succ, List.set_cons_zero, List.set_cons_succ, Option.some.injEq, exists_eq_left', exists_eq_left, exists_eq', exists_eq, exists_eq_right, exists_eq_right', D.int.injEq, D.bl.injEq, D.str.injEq, D.tup.injEq, D.lst.injEq, List.cons.injEq, List.length_cons, List.length_nil, List.map_cons, List.map_nil, true_and, and_true, Option.map_some, Option.map_none, Nat.reduceAdd, Nat.reduceLT, Nat.reduceLeDiff, Int.reduceLT, Int.reduceLE, Int.reduceNeg, Int.reducePow, ↓reduceIte, List.length_set, not_true_eq_false, not_false_eq_true, forall_const, false_implies, false_and, and_false, Int.zero_emod, implies_true, or_true, true_or, if_true, if_false, Bool.true_eq_false, Bool.false_eq_true, l_cell t.two, p_append t.two]
        refine ⟨lb, ?_⟩
        have t3 := t.put2 (l := L) hk
        generalize S'.set (S.length + 1) (.lst (lenD' ls ++ [.int (L : Nat)])) = S3 at t3 ⊢
        simp only [m_nil, m_cons, m_asg, m_par2, m_par3, m_augS, m_setF, m_expr, m_ret, m_retN, m_ite, m_pass, m_brk, m_cont, m_never, g_name, g_sub, g_tup2, e_var, e_cst, e_bin, e_cmp, e_chain, e_and, e_or, e_not, e_ite, e_neg, e_tup, e_lst, e_idx, e_cut, o_none, o_some, e_fld, e_call, e_bi, e_bm, e_frz, e_dict, e_isi, e_rev, e_lrng, s_nil', s_cons', t_tr, t_tb, t_cmp, t_chain, t_and, t_or, t_not, t_yes, m_for, m_while, i_seq, i_rng1, i_rng2, i_rng3, i_enum, q_tup, q_ft, q_lst, q_fl, n_lst, y_ii, y_ib, y_bi, y_bb, y_tt, y_ss, y_ll, f_listT, f_listL, f_listF, f_tupT, f_tupL, Bool.not_true, Bool.not_false, isNon, tru_bl, cast0, cast1, cast2, cast3, cast4, Int.reduceEq, sLine, bls_bl, ints_int, way_t, way_f, way_d, way_n, alloc_t, alloc_f, so_ok, so_no, b_add, b_sub, b_mul, b_div, b_mod, b_pow, b_catL, b_repL, b_repT, c_eq, c_ne, c_eqS, c_neS, c_lt, c_le, c_gt, c_ge, c_is, c_isn, c_in, c_nin, x_lst, x_tup, x_ft, l_lst, u_add, u_sub, at0, at1, at2, at3, f_len, len_lst, len_tup, len_ft, f_abs, f_min, f_max, f_int, f_intB, ix0, ix1, ix2, ix3, trunc_set, trunc_self, List.getElem?_cons_zero, List.getElem?_cons_succ, List.set_cons_zero, List.set_cons_succ, Option.some.injEq, exists_eq_left', exists_eq_left, exists_eq', exists_eq, exists_eq_right, exists_eq_right', D.int.injEq, D.bl.injEq, D.str.injEq, D.tup.injEq, D.lst.injEq, List.cons.injEq, List.length_cons, List.length_nil, List.map_cons, List.map_nil, true_and, and_true, Option.map_some, Option.map_none, Nat.reduceAdd, Nat.reduceLT, Nat.reduceLeDiff, Int.reduceLT, Int.reduceLE, Int.reduceNeg, Int.reducePow, ↓reduceIte, List.length_set, not_true_eq_false, not_false_eq_true, forall_const, false_implies, false_and, and_false, Int.zero_emod, implies_true, or_true, true_or, if_true, if_false, Bool.true_eq_false, Bool.false_eq_true, l_cell t3.one, p_append t3.one, hd]
        have z : Two S (S3.set S.length (.lst (b.map toD ++ [.tup [.str "arrive"]]))) k (b ++ [Deed.ar]) (ls ++ [L]) := t3.put1 (s := Deed.ar) hk
        have y : nxt Deed.ar L = some (L + 1) := if_pos (by omega)
        refine ⟨by rw [List.length_map]; show _ < 16777216; omega, b ++ [Deed.ar], ls ++ [L], L + 1, z, run_put (s := Deed.ar) hr y, by omega, ahead_put ha hr, by simp; omega, by split <;> omega, _, _, rfl, rfl, rfl⟩
      · rw [if_neg h] at hn
        have hd : decide ((L : Int) < (w : Int)) = false := decide_eq_false (by omega)
        refine ⟨n - 1, by omega, ?_⟩
        simp only [m_nil, m_cons, m_asg, m_par2, m_par3, m_augS, m_setF, m_expr, m_ret, m_retN, m_ite, m_pass, m_brk, m_cont, m_never, g_name, g_sub, g_tup2, e_var, e_cst, e_bin, e_cmp, e_chain, e_and, e_or, e_not, e_ite, e_neg, e_tup, e_lst, e_idx, e_cut, o_none, o_some, e_fld, e_call, e_bi, e_bm, e_frz, e_dict, e_isi, e_rev, e_lrng, s_nil', s_cons', t_tr, t_tb, t_cmp, t_chain, t_and, t_or, t_not, t_yes, m_for, m_while, i_seq, i_rng1, i_rng2, i_rng3, i_enum, q_tup, q_ft, q_lst, q_fl, n_lst, y_ii, y_ib, y_bi, y_bb, y_tt, y_ss, y_ll, f_listT, f_listL, f_listF, f_tupT, f_tupL, Bool.not_true, Bool.not_false, isNon, tru_bl, cast0, cast1, cast2, cast3, cast4, Int.reduceEq, sLine, bls_bl, ints_int, way_t, way_f, way_d, way_n, alloc_t, alloc_f, so_ok, so_no, b_add, b_sub, b_mul, b_div, b_mod, b_pow, b_catL, b_repL, b_repT, c_eq, c_ne, c_eqS, c_neS, c_lt, c_le, c_gt, c_ge, c_is, c_isn, c_in, c_nin, x_lst, x_tup, x_ft, l_lst, u_add, u_sub, at0, at1, at2, at3, f_len, len_lst, len_tup, len_ft, f_abs, f_min, f_max, f_int, f_intB, ix0, ix1, ix2, ix3, trunc_set, trunc_self, List.getElem?_cons_zero, List.getElem?_cons_succ, List.set_cons_zero, List.set_cons_succ, Option.some.injEq, exists_eq_left', exists_eq_left, exists_eq', exists_eq, exists_eq_right, exists_eq_right', D.int.injEq, D.bl.injEq, D.str.injEq, D.tup.injEq, D.lst.injEq, List.cons.injEq, List.length_cons, List.length_nil, List.map_cons, List.map_nil, true_and, and_true, Option.map_some, Option.map_none, Nat.reduceAdd, Nat.reduceLT, Nat.reduceLeDiff, Int.reduceLT, Int.reduceLE, Int.reduceNeg, Int.reducePow, ↓reduceIte, List.length_set, not_true_eq_false, not_false_eq_true, forall_const, false_implies, false_and, and_false, Int.zero_emod, implies_true, or_true, true_or, if_true, if_false, Bool.true_eq_false, Bool.false_eq_true, l_cell t.two, p_append t.two]
        refine ⟨lb, ?_⟩
        have t3 := t.put2 (l := L) hk
        generalize S'.set (S.length + 1) (.lst (lenD' ls ++ [.int (L : Nat)])) = S3 at t3 ⊢
        simp only [m_nil, m_cons, m_asg, m_par2, m_par3, m_augS, m_setF, m_expr, m_ret, m_retN, m_ite, m_pass, m_brk, m_cont, m_never, g_name, g_sub, g_tup2, e_var, e_cst, e_bin, e_cmp, e_chain, e_and, e_or, e_not, e_ite, e_neg, e_tup, e_lst, e_idx, e_cut, o_none, o_some, e_fld, e_call, e_bi, e_bm, e_frz, e_dict, e_isi, e_rev, e_lrng, s_nil', s_cons', t_tr, t_tb, t_cmp, t_chain, t_and, t_or, t_not, t_yes, m_for, m_while, i_seq, i_rng1, i_rng2, i_rng3, i_enum, q_tup, q_ft, q_lst, q_fl, n_lst, y_ii, y_ib, y_bi, y_bb, y_tt, y_ss, y_ll, f_listT, f_listL, f_listF, f_tupT, f_tupL, Bool.not_true, Bool.not_false, isNon, tru_bl, cast0, cast1, cast2, cast3, cast4, Int.reduceEq, sLine, bls_bl, ints_int, way_t, way_f, way_d, way_n, alloc_t, alloc_f, so_ok, so_no, b_add, b_sub, b_mul, b_div, b_mod, b_pow, b_catL, b_repL, b_repT, c_eq, c_ne, c_eqS, c_neS, c_lt, c_le, c_gt, c_ge, c_is, c_isn, c_in, c_nin, x_lst, x_tup, x_ft, l_lst, u_add, u_sub, at0, at1, at2, at3, f_len, len_lst, len_tup, len_ft, f_abs, f_min, f_max, f_int, f_intB, ix0, ix1, ix2, ix3, trunc_set, trunc_self, List.getElem?_cons_zero, List.getElem?_cons_succ, List.set_cons_zero, List.set_cons_succ, Option.some.injEq, exists_eq_left', exists_eq_left, exists_eq', exists_eq, exists_eq_right, exists_eq_right', D.int.injEq, D.bl.injEq, D.str.injEq, D.tup.injEq, D.lst.injEq, List.cons.injEq, List.length_cons, List.length_nil, List.map_cons, List.map_nil, true_and, and_true, Option.map_some, Option.map_none, Nat.reduceAdd, Nat.reduceLT, Nat.reduceLeDiff, Int.reduceLT, Int.reduceLE, Int.reduceNeg, Int.reducePow, ↓reduceIte, List.length_set, not_true_eq_false, not_false_eq_true, forall_const, false_implies, false_and, and_false, Int.zero_emod, implies_true, or_true, true_or, if_true, if_false, Bool.true_eq_false, Bool.false_eq_true, l_cell t3.one, p_append t3.one, hd]
        have z : Two S (S3.set S.length (.lst (b.map toD ++ [.tup [.str "serve"]]))) k (b ++ [Deed.se]) (ls ++ [L]) := t3.put1 (s := Deed.se) hk
        have y : nxt Deed.se L = some (L - 1) := if_pos (by omega)
        refine ⟨by rw [List.length_map]; show _ < 16777216; omega, b ++ [Deed.se], ls ++ [L], L - 1, z, run_put (s := Deed.se) hr y, by omega, ahead_put ha hr, by simp; omega, by split <;> omega, _, _, rfl, by omega, rfl⟩
end
end Mq
end

section
set_option maxHeartbeats 8000000
namespace Mq
open PySem L2 PySem.Spec PyProof.Rows P86
section
variable {S : Sto} {Q : D → Sto → Prop}
def absD : D → D
  | .int x => .int (if x < 0 then -x else x)
  | d => d
theorem nat_abs : ∀ {ns : List Int}, natInts ((ns.map D.int).map absD)
  | [] => trivial
  | n :: ns => ⟨by show 0 ≤ (if n < 0 then -n else n); split <;> omega, nat_abs⟩
theorem bag_ok {ns : List Int} (q : ∀ cs, natInts cs → Q (.cell S.length) (S ++ [.lst [.int 0, .int 1234567891, .int 0, .lst cs]])) : (F_law_bag [.fl (ns.map .int)] S).so Q := by
  unfold F_law_bag
  refine runF_so (by rfl) ?_
  unfold startD ir_law_bag
  simp only [List.map_cons, List.map_nil, List.length_cons, List.length_nil, List.replicate, List.cons_append, List.nil_append]
  simp only [m_nil, m_cons, m_asg, m_par2, m_par3, m_augS, m_setF, m_expr, m_ret, m_retN, m_ite, m_pass, m_brk, m_cont, m_never, g_name, g_sub, g_tup2, e_var, e_cst, e_bin, e_cmp, e_chain, e_and, e_or, e_not, e_ite, e_neg, e_tup, e_lst, e_idx, e_cut, o_none, o_some, e_fld, e_call, e_bi, e_bm, e_frz, e_dict, e_isi, e_rev, e_lrng, s_nil', s_cons', t_tr, t_tb, t_cmp, t_chain, t_and, t_or, t_not, t_yes, m_for, m_while, i_seq, i_rng1, i_rng2, i_rng3, i_enum, q_tup, q_ft, q_lst, q_fl, n_lst, y_ii, y_ib, y_bi, y_bb, y_tt, y_ss, y_ll, f_listT, f_listL, f_listF, f_tupT, f_tupL, Bool.not_true, Bool.not_false, isNon, tru_bl, cast0, cast1, cast2, cast3, cast4, Int.reduceEq, sLine, bls_bl, ints_int, way_t, way_f, way_d, way_n, alloc_t, alloc_f, so_ok, so_no, b_add, b_sub, b_mul, b_div, b_mod, b_pow, b_catL, b_repL, b_repT, c_eq, c_ne, c_eqS, c_neS, c_lt, c_le, c_gt, c_ge, c_is, c_isn, c_in, c_nin, x_lst, x_tup, x_ft, l_lst, u_add, u_sub, at0, at1, at2, at3, f_len, len_lst, len_tup, len_ft, f_abs, f_min, f_max, f_int, f_intB, ix0, ix1, ix2, ix3, trunc_set, trunc_self, List.getElem?_cons_zero, List.getElem?_cons_succ, List.set_cons_zero, List.set_cons_succ, Option.some.injEq, exists_eq_left', exists_eq_left, exists_eq', exists_eq, exists_eq_right, exists_eq_right', D.int.injEq, D.bl.injEq, D.str.injEq, D.tup.injEq, D.lst.injEq, List.cons.injEq, List.length_cons, List.length_nil, List.map_cons, List.map_nil, true_and, and_true, Option.map_some, Option.map_none, Nat.reduceAdd, Nat.reduceLT, Nat.reduceLeDiff, Int.reduceLT, Int.reduceLE, Int.reduceNeg, Int.reducePow, ↓reduceIte, List.length_set, not_true_eq_false, not_false_eq_true, forall_const, false_implies, false_and, and_false, Int.zero_emod, implies_true, or_true, true_or, if_true, if_false, Bool.true_eq_false, Bool.false_eq_true, e_comp]
  have hc : ∀ {Qd : D → Sto → Prop}, (cutD false (.fl (ns.map .int)) none (some 63) S).so Qd = Qd (.lst (cut (ns.map .int) none (some 63))) S := fun {Qd} => so_ok
  rw [hc]
  have e : ∃ ms : List Int, cut (ns.map D.int) none (some 63) = ms.map D.int ∧ ms.length ≤ 63 := by
    refine ⟨cut ns none (some 63), ?_, ?_⟩
    · unfold cut
      rw [List.length_map, List.map_take, List.map_drop]
    · unfold cut
      refine Nat.le_trans (List.length_take_le _ _) ?_
      rw [HT.sIx_none, show (some 63 : Option Int) = some ((63 : Nat) : Int) from rfl, HT.sIx_nat]
      omega
  obtain ⟨ms, e, hm⟩ := e
  rw [e, q_lst]
  refine comp_so (f := absD) (ms.map D.int) [] (fun x hx => ?_) (by rw [List.length_map]; show 0 + _ ≤ 16777216; omega) ?_
  · obtain ⟨z, _, rfl⟩ := List.mem_map.mp hx
    rfl
  · have no : ∀ X : Sto, trunc S (.cell S.length) X = X := fun X => by
      unfold trunc
      rw [if_neg]
      rintro ⟨_, h, _⟩
      have h := of_decide_eq_true h
      omega
    rw [no, List.nil_append]
    exact q _ nat_abs
def stepP : Deed → PyData
  | .ar => .tuple [.str "arrive"]
  | .se => .tuple [.str "serve"]
  | .cp p => .tuple [.str "compare", .int p]
theorem py_toD (s : Deed) : toPy 7 (toD s) S = some (stepP s) := by cases s <;> rfl
theorem pys_toD : ∀ {b : List Deed}, pys (fun x => toPy 7 x S) (b.map toD) = some (b.map stepP)
  | [] => rfl
  | s :: b => by
    show (match toPy 7 (toD s) S, pys (fun x => toPy 7 x S) (b.map toD) with | some y, some ys => some (y :: ys) | _, _ => none) = _
    rw [py_toD, pys_toD]
    rfl
theorem py_block {b : List Deed} : toPy 8 (.lst (b.map toD)) S = some (.list (b.map stepP)) := by
  show (pys (fun x => toPy 7 x S) (b.map toD)).map PyData.list = _
  rw [pys_toD]; rfl
theorem lay_block : ∀ {b : List Deed}, PyData.canLayAll0 (b.map stepP) = true
  | [] => rfl
  | s :: b => by
    show (PyData.canLay0 (stepP s) && PyData.canLayAll0 (b.map stepP)) = true
    rw [lay_block]
    cases s
    · show (PyData.canLay0 (.tuple [.str "arrive"]) && true) = true; decide +kernel
    · show (PyData.canLay0 (.tuple [.str "serve"]) && true) = true; decide +kernel
    · rename_i p
      show ((PyData.canLay0 (.str "compare") && true) && true) = true
      decide +kernel
theorem deep_block : ∀ {b : List Deed}, PyData.depthAll (b.map stepP) ≤ 1
  | [] => Nat.zero_le _
  | s :: b => by
    have z : PyData.depth (stepP s) ≤ 1 := by cases s <;> exact Nat.le_refl 1
    exact Nat.max_le.mpr ⟨z, deep_block⟩
theorem shaped_block {b : List Deed} : SeqAt.shaped (.list (b.map stepP)) = true := by
  unfold SeqAt.shaped
  rw [Bool.and_eq_true]
  refine ⟨lay_block, decide_eq_true ?_⟩
  show PyData.depthAll (b.map stepP) + 1 ≤ 64
  have := deep_block (b := b)
  omega
theorem eqv_step (s : Deed) : PyData.eqv (stepP s) (stepP s) = true := by
  cases s <;> simp [stepP, PyData.eqv, PyData.eqvAll]
theorem eqv_block : ∀ {b : List Deed}, PyData.eqvAll (b.map stepP) (b.map stepP) = true
  | [] => rfl
  | s :: b => by
    show PyData.eqvAll (stepP s :: b.map stepP) (stepP s :: b.map stepP) = true
    rw [PyData.eqvAll, eqv_step, eqv_block]; rfl
theorem eq_block {b : List Deed} : eqD (.lst (b.map toD)) (.lst (b.map toD)) S = some true := by
  unfold eqD
  rw [show eqSc (.lst (b.map toD)) (.lst (b.map toD)) = none from rfl]
  dsimp only
  rw [py_block]
  dsimp only
  rw [if_pos ⟨shaped_block, shaped_block⟩, PyData.eqv, eqv_block]
theorem eq_nil {b : List Deed} : eqD (.lst (b.map toD)) (.lst []) S = some b.isEmpty := by
  unfold eqD
  rw [show eqSc (.lst (b.map toD)) (.lst []) = none from rfl]
  dsimp only
  rw [py_block, show toPy 8 (.lst []) S = some (.list []) from rfl]
  dsimp only
  rw [if_pos ⟨shaped_block, rfl⟩]
  cases b <;> simp [PyData.eqv, PyData.eqvAll]
theorem f_repr {n : Nat} (h : n ≤ 12) : (biD .repr1 false [.int (n : Nat)] S).so Q = Q (.str (PyData.shown (.int n))) S := by
  have z : ∀ m : Fin 13, PyData.showable (.int ((m.val : Nat) : Int)) = true ∧ PyData.hasDict (.int ((m.val : Nat) : Int)) = false ∧ (PyData.int ((m.val : Nat) : Int)).depth ≤ 50 ∧ (PyData.shown (.int ((m.val : Nat) : Int))).length ≤ sLine := by decide +kernel
  show (match toPy 8 (.int (n : Nat)) S with
    | some p => if PyData.showable p = true ∧ PyData.hasDict p = false ∧ p.depth ≤ 50 ∧ (PyData.shown p).length ≤ sLine then R.ok (D.str (PyData.shown p)) S else R.no
    | none => R.no).so Q = _
  rw [show toPy 8 (.int (n : Nat)) S = some (.int (n : Nat)) from rfl]
  dsimp only
  rw [if_pos (z ⟨n, by omega⟩)]
  exact so_ok
end
end Mq
end

section
set_option maxHeartbeats 8000000
namespace Mq
open PySem L2 PySem.Spec PyProof.Rows P86
section
variable {S : Sto} {Q : D → Sto → Prop}
theorem T12_5 {xs : List D} : T_12 5 xs S = F_passed_for_ever (xs ++ []) S := rfl
theorem T12_6 {xs : List D} : T_12 6 xs S = F_law_take (xs ++ []) S := rfl
theorem T12_8 {xs : List D} : T_12 8 xs S = F_law_due (xs ++ []) S := rfl
theorem T12_10 {xs : List D} : T_12 10 xs S = F_law_block (xs ++ []) S := rfl
theorem T12_11 {xs : List D} : T_12 11 xs S = F_law_bag (xs ++ []) S := rfl
theorem rep_ok {b : List Deed} {w W : Nat} {Q2 : D → Sto → Prop} (hb : b.length ≤ 400) (hw : w ≤ 12) (hr : run b w = some w) (e : wt (last b w) = W) (hW : W ≤ 12) (q : Q2 (.str (PyData.shown (.int (W : Nat)))) S) :
    ((F_passed_for_ever [.lst (b.map toD), .int w] S).so fun x S => (biD .repr1 false [x] S).so Q2) := by
  refine passed_ok hb hw hr ?_
  rw [e, f_repr hW]
  exact q
theorem many_toD (b : List Deed) (m : Nat) : (List.replicate m (b.map toD)).flatten = (many b m).map toD := by
  unfold many
  rw [List.map_flatten, List.map_replicate]
theorem many_len (b : List Deed) (m : Nat) : (many b m).length = m * b.length := by
  unfold many
  simp
theorem c_neB {b : List Deed} : (cmpD .NotEq (.lst (b.map toD)) (.lst (b.map toD)) S).so Q = Q (.bl false) S := by
  rw [c_neG]
  simp only [eq_block, Option.some.injEq, exists_eq_left']
  rfl
theorem c_neN {b : List Deed} : (cmpD .NotEq (.lst (b.map toD)) (.lst []) S).so Q = Q (.bl (!b.isEmpty)) S := by
  rw [c_neG]
  simp only [eq_nil, Option.some.injEq, exists_eq_left']
def goBody : Ss := (.cons (.ite (.tor (.tcmp .NotEq (.bi .repr1 false (.cons (.call 5 (.cons (.var 6) (.cons (.var 3) .nil))) .nil)) (.bi .repr1 false (.cons (.var 8) .nil))) (.tcmp .NotEq (.var 6) (.var 9)))
    (.cons (.ret (.cst (.bl false)))
    .nil)
    .nil)
    .nil)
theorem go_ok {b : List Deed} {w W : Nat} {s0 s1 s2 s4 s5 s7 s10 : Option D} {N B C : Sg → Sto → Prop} {Rt : D → Sto → Prop} (hb : b.length ≤ 400) (hw : w ≤ 12) (hr : run b w = some w) (e : wt (last b w) = W) (hW : W ≤ 12)
    (q : N [s0, s1, s2, some (.int w), s4, s5, some (.lst (b.map toD)), s7, some (.int W), some (.lst (b.map toD)), s10] S) :
    (semSs T_12 goBody [s0, s1, s2, some (.int w), s4, s5, some (.lst (b.map toD)), s7, some (.int W), some (.lst (b.map toD)), s10] S).so N Rt B C := by
  unfold goBody
  simp only [m_nil, m_cons, m_asg, m_par2, m_par3, m_augS, m_setF, m_expr, m_ret, m_retN, m_ite, m_pass, m_brk, m_cont, m_never, g_name, g_sub, g_tup2, e_var, e_cst, e_bin, e_cmp, e_chain, e_and, e_or, e_not, e_ite, e_neg, e_tup, e_lst, e_idx, e_cut, o_none, o_some, e_fld, e_call, e_bi, e_bm, e_frz, e_dict, e_isi, e_rev, e_lrng, s_nil', s_cons', t_tr, t_tb, t_cmp, t_chain, t_and, t_or, t_not, t_yes, m_for, m_while, i_seq, i_rng1, i_rng2, i_rng3, i_enum, q_tup, q_ft, q_lst, q_fl, n_lst, y_ii, y_ib, y_bi, y_bb, y_tt, y_ss, y_ll, f_listT, f_listL, f_listF, f_tupT, f_tupL, Bool.not_true, Bool.not_false, isNon, tru_bl, cast0, cast1, cast2, cast3, cast4, Int.reduceEq, sLine, bls_bl, ints_int, way_t, way_f, way_d, way_n, alloc_t, alloc_f, so_ok, so_no, b_add, b_sub, b_mul, b_div, b_mod, b_pow, b_catL, b_repL, b_repT, c_eq, c_ne, c_eqS, c_neS, c_lt, c_le, c_gt, c_ge, c_is, c_isn, c_in, c_nin, x_lst, x_tup, x_ft, l_lst, u_add, u_sub, at0, at1, at2, at3, f_len, len_lst, len_tup, len_ft, f_abs, f_min, f_max, f_int, f_intB, ix0, ix1, ix2, ix3, trunc_set, trunc_self, List.getElem?_cons_zero, List.getElem?_cons_succ, List.set_cons_zero, List.set_cons_succ, Option.some.injEq, exists_eq_left', exists_eq_left, exists_eq', exists_eq, exists_eq_right, exists_eq_right', D.int.injEq, D.bl.injEq, D.str.injEq, D.tup.injEq, D.lst.injEq, List.cons.injEq, List.length_cons, List.length_nil, List.map_cons, List.map_nil, true_and, and_true, Option.map_some, Option.map_none, Nat.reduceAdd, Nat.reduceLT, Nat.reduceLeDiff, Int.reduceLT, Int.reduceLE, Int.reduceNeg, Int.reducePow, ↓reduceIte, List.length_set, not_true_eq_false, not_false_eq_true, forall_const, false_implies, false_and, and_false, Int.zero_emod, implies_true, or_true, true_or, if_true, if_false, Bool.true_eq_false, Bool.false_eq_true, T12_5, List.append_nil]
  refine passed_ok hb hw hr ?_
  rw [e]
  simp only [m_nil, m_cons, m_asg, m_par2, m_par3, m_augS, m_setF, m_expr, m_ret, m_retN, m_ite, m_pass, m_brk, m_cont, m_never, g_name, g_sub, g_tup2, e_var, e_cst, e_bin, e_cmp, e_chain, e_and, e_or, e_not, e_ite, e_neg, e_tup, e_lst, e_idx, e_cut, o_none, o_some, e_fld, e_call, e_bi, e_bm, e_frz, e_dict, e_isi, e_rev, e_lrng, s_nil', s_cons', t_tr, t_tb, t_cmp, t_chain, t_and, t_or, t_not, t_yes, m_for, m_while, i_seq, i_rng1, i_rng2, i_rng3, i_enum, q_tup, q_ft, q_lst, q_fl, n_lst, y_ii, y_ib, y_bi, y_bb, y_tt, y_ss, y_ll, f_listT, f_listL, f_listF, f_tupT, f_tupL, Bool.not_true, Bool.not_false, isNon, tru_bl, cast0, cast1, cast2, cast3, cast4, Int.reduceEq, sLine, bls_bl, ints_int, way_t, way_f, way_d, way_n, alloc_t, alloc_f, so_ok, so_no, b_add, b_sub, b_mul, b_div, b_mod, b_pow, b_catL, b_repL, b_repT, c_eq, c_ne, c_eqS, c_neS, c_lt, c_le, c_gt, c_ge, c_is, c_isn, c_in, c_nin, x_lst, x_tup, x_ft, l_lst, u_add, u_sub, at0, at1, at2, at3, f_len, len_lst, len_tup, len_ft, f_abs, f_min, f_max, f_int, f_intB, ix0, ix1, ix2, ix3, trunc_set, trunc_self, List.getElem?_cons_zero, List.getElem?_cons_succ, List.set_cons_zero, List.set_cons_succ, Option.some.injEq, exists_eq_left', exists_eq_left, exists_eq', exists_eq, exists_eq_right, exists_eq_right', D.int.injEq, D.bl.injEq, D.str.injEq, D.tup.injEq, D.lst.injEq, List.cons.injEq, List.length_cons, List.length_nil, List.map_cons, List.map_nil, true_and, and_true, Option.map_some, Option.map_none, Nat.reduceAdd, Nat.reduceLT, Nat.reduceLeDiff, Int.reduceLT, Int.reduceLE, Int.reduceNeg, Int.reducePow, ↓reduceIte, List.length_set, not_true_eq_false, not_false_eq_true, forall_const, false_implies, false_and, and_false, Int.zero_emod, implies_true, or_true, true_or, if_true, if_false, Bool.true_eq_false, Bool.false_eq_true, f_repr hW, c_neB, eq_self, decide_true]
  exact q
theorem cut_lst {xs : List D} {lo hi : Option Int} : (cutD false (.lst xs) lo hi S).so Q = Q (.lst (cut xs lo hi)) S := so_ok
theorem cut_from {xs : List D} {p : Nat} (h : p ≤ xs.length) : cut xs (some (p : Int)) none = xs.drop p := by
  unfold cut
  rw [HT.sIx_none, HT.sIx_nat, Nat.min_eq_left h, List.take_of_length_le]
  rw [List.length_drop]
  exact Nat.le_refl _
theorem cut_to {xs : List D} {p : Nat} (h : p ≤ xs.length) : cut xs none (some (p : Int)) = xs.take p := by
  unfold cut
  rw [HT.sIx_none, HT.sIx_nat, Nat.min_eq_left h]
  rfl
def restBody : Ss := (.cons (.asg (.name 5) (.idx (.lst false (.cons (.cst (.int 2)) (.cons (.cst (.int 9)) .nil))) (.bi .int1 false (.cons (.cmp .Eq (.call 6 (.cons (.var 1) (.cons (.cst (.int 8)) .nil))) (.cst (.int 0))) .nil))))
    (.cons (.ite (.tor (.tcmp .Gt (.var 8) (.var 3)) (.tcmp .NotEq (.bi .repr1 false (.cons (.call 5 (.cons (.bin .Mult false (.var 6) (.var 5)) (.cons (.var 3) .nil))) .nil)) (.bi .repr1 false (.cons (.var 8) .nil))))
    (.cons (.ret (.cst (.bl false)))
    .nil)
    .nil)
    (.cons (.ite (.tcmp .NotEq (.var 6) (.lst false .nil))
    (.cons (.asg (.name 10) (.call 6 (.cons (.var 1) (.cons (.bi .len false (.cons (.var 6) .nil)) .nil))))
    (.cons (.ite (.tcmp .NotEq (.bi .repr1 false (.cons (.call 5 (.cons (.bin .Add false (.cut false (.var 6) (.some (.var 10)) .none) (.cut false (.var 6) .none (.some (.var 10)))) (.cons (.idx (.var 7) (.var 10)) .nil))) .nil)) (.bi .repr1 false (.cons (.var 8) .nil)))
    (.cons (.ret (.cst (.bl false)))
    .nil)
    .nil)
    .nil))
    .nil)
    .nil)))
theorem rest_ok {b : List Deed} {ls : List Nat} {w W : Nat} {s0 s2 s4 s5 s9 s10 : Option D} {N B C : Sg → Sto → Prop} {Rt : D → Sto → Prop} (Bg : Bag S 0) (hb : b.length ≤ 41) (hw : w ≤ 12) (hr : run b w = some w) (ha : Ahead b w ls) (e : wt (last b w) = W) (hW : W ≤ w)
    (q : ∀ S' s5 s10, Bag S' 0 → N [s0, some (.cell 0), s2, some (.int w), s4, s5, some (.lst (b.map toD)), some (.lst (lenD' ls)), some (.int W), s9, s10] S') :
    (semSs T_12 restBody [s0, some (.cell 0), s2, some (.int w), s4, s5, some (.lst (b.map toD)), some (.lst (lenD' ls)), some (.int W), s9, s10] S).so N Rt B C := by
  unfold restBody
  simp only [m_nil, m_cons, m_asg, m_par2, m_par3, m_augS, m_setF, m_expr, m_ret, m_retN, m_ite, m_pass, m_brk, m_cont, m_never, g_name, g_sub, g_tup2, e_var, e_cst, e_bin, e_cmp, e_chain, e_and, e_or, e_not, e_ite, e_neg, e_tup, e_lst, e_idx, e_cut, o_none, o_some, e_fld, e_call, e_bi, e_bm, e_frz, e_dict, e_isi, e_rev, e_lrng, s_nil', s_cons', t_tr, t_tb, t_cmp, t_chain, t_and, t_or, t_not, t_yes, m_for, m_while, i_seq, i_rng1, i_rng2, i_rng3, i_enum, q_tup, q_ft, q_lst, q_fl, n_lst, y_ii, y_ib, y_bi, y_bb, y_tt, y_ss, y_ll, f_listT, f_listL, f_listF, f_tupT, f_tupL, Bool.not_true, Bool.not_false, isNon, tru_bl, cast0, cast1, cast2, cast3, cast4, Int.reduceEq, sLine, bls_bl, ints_int, way_t, way_f, way_d, way_n, alloc_t, alloc_f, so_ok, so_no, b_add, b_sub, b_mul, b_div, b_mod, b_pow, b_catL, b_repL, b_repT, c_eq, c_ne, c_eqS, c_neS, c_lt, c_le, c_gt, c_ge, c_is, c_isn, c_in, c_nin, x_lst, x_tup, x_ft, l_lst, u_add, u_sub, at0, at1, at2, at3, f_len, len_lst, len_tup, len_ft, f_abs, f_min, f_max, f_int, f_intB, ix0, ix1, ix2, ix3, trunc_set, trunc_self, List.getElem?_cons_zero, List.getElem?_cons_succ, List.set_cons_zero, List.set_cons_succ, Option.some.injEq, exists_eq_left', exists_eq_left, exists_eq', exists_eq, exists_eq_right, exists_eq_right', D.int.injEq, D.bl.injEq, D.str.injEq, D.tup.injEq, D.lst.injEq, List.cons.injEq, List.length_cons, List.length_nil, List.map_cons, List.map_nil, true_and, and_true, Option.map_some, Option.map_none, Nat.reduceAdd, Nat.reduceLT, Nat.reduceLeDiff, Int.reduceLT, Int.reduceLE, Int.reduceNeg, Int.reducePow, ↓reduceIte, List.length_set, not_true_eq_false, not_false_eq_true, forall_const, false_implies, false_and, and_false, Int.zero_emod, implies_true, or_true, true_or, if_true, if_false, Bool.true_eq_false, Bool.false_eq_true, T12_6, List.append_nil]
  refine take_ok Bg (by omega) (by omega) fun v c v0 v1 B1 => ?_
  generalize S.set 0 c = S1 at B1 ⊢
  simp only [m_nil, m_cons, m_asg, m_par2, m_par3, m_augS, m_setF, m_expr, m_ret, m_retN, m_ite, m_pass, m_brk, m_cont, m_never, g_name, g_sub, g_tup2, e_var, e_cst, e_bin, e_cmp, e_chain, e_and, e_or, e_not, e_ite, e_neg, e_tup, e_lst, e_idx, e_cut, o_none, o_some, e_fld, e_call, e_bi, e_bm, e_frz, e_dict, e_isi, e_rev, e_lrng, s_nil', s_cons', t_tr, t_tb, t_cmp, t_chain, t_and, t_or, t_not, t_yes, m_for, m_while, i_seq, i_rng1, i_rng2, i_rng3, i_enum, q_tup, q_ft, q_lst, q_fl, n_lst, y_ii, y_ib, y_bi, y_bb, y_tt, y_ss, y_ll, f_listT, f_listL, f_listF, f_tupT, f_tupL, Bool.not_true, Bool.not_false, isNon, tru_bl, cast0, cast1, cast2, cast3, cast4, Int.reduceEq, sLine, bls_bl, ints_int, way_t, way_f, way_d, way_n, alloc_t, alloc_f, so_ok, so_no, b_add, b_sub, b_mul, b_div, b_mod, b_pow, b_catL, b_repL, b_repT, c_eq, c_ne, c_eqS, c_neS, c_lt, c_le, c_gt, c_ge, c_is, c_isn, c_in, c_nin, x_lst, x_tup, x_ft, l_lst, u_add, u_sub, at0, at1, at2, at3, f_len, len_lst, len_tup, len_ft, f_abs, f_min, f_max, f_int, f_intB, ix0, ix1, ix2, ix3, trunc_set, trunc_self, List.getElem?_cons_zero, List.getElem?_cons_succ, List.set_cons_zero, List.set_cons_succ, Option.some.injEq, exists_eq_left', exists_eq_left, exists_eq', exists_eq, exists_eq_right, exists_eq_right', D.int.injEq, D.bl.injEq, D.str.injEq, D.tup.injEq, D.lst.injEq, List.cons.injEq, List.length_cons, List.length_nil, List.map_cons, List.map_nil, true_and, and_true, Option.map_some, Option.map_none, Nat.reduceAdd, Nat.reduceLT, Nat.reduceLeDiff, Int.reduceLT, Int.reduceLE, Int.reduceNeg, Int.reducePow, ↓reduceIte, List.length_set, not_true_eq_false, not_false_eq_true, forall_const, false_implies, false_and, and_false, Int.zero_emod, implies_true, or_true, true_or, if_true, if_false, Bool.true_eq_false, Bool.false_eq_true, T12_5, List.append_nil]
  have hm : ∃ m : Nat, atI [D.int 2, D.int 9] (if decide (v = 0) = true then 1 else 0) = some (.int (m : Nat)) ∧ 1 ≤ m ∧ m ≤ 9 := by
    by_cases h : v = 0
    · rw [if_pos (decide_eq_true h)]; exact ⟨9, rfl, by omega, by omega⟩
    · rw [if_neg (by simp [h])]; exact ⟨2, rfl, by omega, by omega⟩
  obtain ⟨m, hm, m0, m1⟩ := hm
  refine ⟨_, hm, ?_⟩
  refine ⟨fun h => absurd h (by omega), fun _ => ?_⟩
  have lm : (many b m).length ≤ 400 := by
    rw [many_len]
    exact Nat.le_trans (Nat.mul_le_mul m1 hb) (by decide)
  rw [b_repL]
  refine ⟨⟨by omega, by omega, ?_⟩, ?_⟩
  · rw [List.length_map, show ((m : Int)).toNat = m by simp]
    have := Nat.mul_le_mul hb m1
    show _ ≤ 16777216
    omega
  rw [alloc_f, show ((m : Int)).toNat = m by simp, many_toD]
  refine passed_ok lm hw (many_run hr m) ?_
  rw [many_last hr m0, e, f_repr (by omega), f_repr (by omega), c_neS]
  simp only [bls_bl, ints_int, way_t, way_f, way_d, way_n, alloc_t, alloc_f, so_ok, so_no, b_add, b_sub, b_mul, b_div, b_mod, b_pow, b_catL, b_repL, b_repT, c_eq, c_ne, c_eqS, c_neS, c_lt, c_le, c_gt, c_ge, c_is, c_isn, c_in, c_nin, x_lst, x_tup, x_ft, l_lst, u_add, u_sub, at0, at1, at2, at3, f_len, len_lst, len_tup, len_ft, f_abs, f_min, f_max, f_int, f_intB, ix0, ix1, ix2, ix3, trunc_set, trunc_self, List.getElem?_cons_zero, List.getElem?_cons_succ, List.set_cons_zero, List.set_cons_succ, Option.some.injEq, exists_eq_left', exists_eq_left, exists_eq', exists_eq, exists_eq_right, exists_eq_right', D.int.injEq, D.bl.injEq, D.str.injEq, D.tup.injEq, D.lst.injEq, List.cons.injEq, List.length_cons, List.length_nil, List.map_cons, List.map_nil, true_and, and_true, Option.map_some, Option.map_none, Nat.reduceAdd, Nat.reduceLT, Nat.reduceLeDiff, Int.reduceLT, Int.reduceLE, Int.reduceNeg, Int.reducePow, ↓reduceIte, List.length_set, not_true_eq_false, not_false_eq_true, forall_const, false_implies, false_and, and_false, Int.zero_emod, implies_true, or_true, true_or, if_true, if_false, Bool.true_eq_false, Bool.false_eq_true, eq_self, decide_true, c_neN]
  cases hbe : b with
  | nil =>
    subst hbe
    simp only [bls_bl, ints_int, way_t, way_f, way_d, way_n, alloc_t, alloc_f, so_ok, so_no, b_add, b_sub, b_mul, b_div, b_mod, b_pow, b_catL, b_repL, b_repT, c_eq, c_ne, c_eqS, c_neS, c_lt, c_le, c_gt, c_ge, c_is, c_isn, c_in, c_nin, x_lst, x_tup, x_ft, l_lst, u_add, u_sub, at0, at1, at2, at3, f_len, len_lst, len_tup, len_ft, f_abs, f_min, f_max, f_int, f_intB, ix0, ix1, ix2, ix3, trunc_set, trunc_self, List.getElem?_cons_zero, List.getElem?_cons_succ, List.set_cons_zero, List.set_cons_succ, Option.some.injEq, exists_eq_left', exists_eq_left, exists_eq', exists_eq, exists_eq_right, exists_eq_right', D.int.injEq, D.bl.injEq, D.str.injEq, D.tup.injEq, D.lst.injEq, List.cons.injEq, List.length_cons, List.length_nil, List.map_cons, List.map_nil, true_and, and_true, Option.map_some, Option.map_none, Nat.reduceAdd, Nat.reduceLT, Nat.reduceLeDiff, Int.reduceLT, Int.reduceLE, Int.reduceNeg, Int.reducePow, ↓reduceIte, List.length_set, not_true_eq_false, not_false_eq_true, forall_const, false_implies, false_and, and_false, Int.zero_emod, implies_true, or_true, true_or, if_true, if_false, Bool.true_eq_false, Bool.false_eq_true, List.isEmpty_nil]
    exact q _ _ _ B1
  | cons s r =>
    rw [← hbe]
    have hne : b.isEmpty = false := by rw [hbe]; rfl
    have hpos : 0 < b.length := by rw [hbe]; simp
    rw [hne]
    simp only [bls_bl, ints_int, way_t, way_f, way_d, way_n, alloc_t, alloc_f, so_ok, so_no, b_add, b_sub, b_mul, b_div, b_mod, b_pow, b_catL, b_repL, b_repT, c_eq, c_ne, c_eqS, c_neS, c_lt, c_le, c_gt, c_ge, c_is, c_isn, c_in, c_nin, x_lst, x_tup, x_ft, l_lst, u_add, u_sub, at0, at1, at2, at3, f_len, len_lst, len_tup, len_ft, f_abs, f_min, f_max, f_int, f_intB, ix0, ix1, ix2, ix3, trunc_set, trunc_self, List.getElem?_cons_zero, List.getElem?_cons_succ, List.set_cons_zero, List.set_cons_succ, Option.some.injEq, exists_eq_left', exists_eq_left, exists_eq', exists_eq, exists_eq_right, exists_eq_right', D.int.injEq, D.bl.injEq, D.str.injEq, D.tup.injEq, D.lst.injEq, List.cons.injEq, List.length_cons, List.length_nil, List.map_cons, List.map_nil, true_and, and_true, Option.map_some, Option.map_none, Nat.reduceAdd, Nat.reduceLT, Nat.reduceLeDiff, Int.reduceLT, Int.reduceLE, Int.reduceNeg, Int.reducePow, ↓reduceIte, List.length_set, not_true_eq_false, not_false_eq_true, forall_const, false_implies, false_and, and_false, Int.zero_emod, implies_true, or_true, true_or, if_true, if_false, Bool.true_eq_false, Bool.false_eq_true]
    refine take_ok B1 (by rw [List.length_map]; omega) (by rw [List.length_map]; omega) fun at_ c2 a0 a1 B2 => ?_
    generalize S1.set 0 c2 = S2 at B2 ⊢
    rw [List.length_map] at a1
    obtain ⟨p, rfl⟩ := Int.eq_ofNat_of_zero_le a0
    have hp : p < b.length := by omega
    obtain ⟨v2, hv2⟩ := run_pre (i := p) hr
    have hrun : run (b.drop p) v2 = some w := by
      have z := run_app (a := b.take p) (b := b.drop p) (w := w)
      rw [List.take_append_drop, hr, hv2] at z
      exact z.symm
    have hix : atI (lenD' ls) (p : Int) = some (.int (v2 : Nat)) := by
      rw [at_nat]
      unfold lenD'
      rw [List.getElem?_map]
      have hl : p < ls.length := by rw [ha.1]; exact hp
      rw [List.getElem?_eq_getElem hl]
      have := ha.2 p _ (List.getElem?_eq_getElem hl)
      rw [hv2] at this
      cases this
      rfl
    simp only [bls_bl, ints_int, way_t, way_f, way_d, way_n, alloc_t, alloc_f, so_ok, so_no, b_add, b_sub, b_mul, b_div, b_mod, b_pow, b_catL, b_repL, b_repT, c_eq, c_ne, c_eqS, c_neS, c_lt, c_le, c_gt, c_ge, c_is, c_isn, c_in, c_nin, x_lst, x_tup, x_ft, l_lst, u_add, u_sub, at0, at1, at2, at3, f_len, len_lst, len_tup, len_ft, f_abs, f_min, f_max, f_int, f_intB, ix0, ix1, ix2, ix3, trunc_set, trunc_self, List.getElem?_cons_zero, List.getElem?_cons_succ, List.set_cons_zero, List.set_cons_succ, Option.some.injEq, exists_eq_left', exists_eq_left, exists_eq', exists_eq, exists_eq_right, exists_eq_right', D.int.injEq, D.bl.injEq, D.str.injEq, D.tup.injEq, D.lst.injEq, List.cons.injEq, List.length_cons, List.length_nil, List.map_cons, List.map_nil, true_and, and_true, Option.map_some, Option.map_none, Nat.reduceAdd, Nat.reduceLT, Nat.reduceLeDiff, Int.reduceLT, Int.reduceLE, Int.reduceNeg, Int.reducePow, ↓reduceIte, List.length_set, not_true_eq_false, not_false_eq_true, forall_const, false_implies, false_and, and_false, Int.zero_emod, implies_true, or_true, true_or, if_true, if_false, Bool.true_eq_false, Bool.false_eq_true, hix]
    rw [cut_lst, cut_from (by rw [List.length_map]; omega), cut_lst, cut_to (by rw [List.length_map]; omega), b_catL, alloc_f, ← List.map_drop, ← List.map_take, ← List.map_append]
    have lw : (b.drop p ++ b.take p).length = b.length := by rw [List.length_append, List.length_drop, List.length_take]; omega
    refine ⟨by rw [List.length_map, List.length_map, List.length_drop, List.length_take]; show _ ≤ 16777216; omega, ?_⟩
    have hr2 : run (b.drop p ++ b.take p) v2 = some v2 := by rw [run_app, hrun]; exact hv2
    have tt : wt (last (b.drop p ++ b.take p) v2) = W := by
      rw [← turned_eq hv2 hrun, List.take_append_drop]
      exact e
    refine passed_ok (by omega) (run_le hw hv2) hr2 ?_
    rw [tt, f_repr (by omega), f_repr (by omega), c_neS]
    simp only [bls_bl, ints_int, way_t, way_f, way_d, way_n, alloc_t, alloc_f, so_ok, so_no, b_add, b_sub, b_mul, b_div, b_mod, b_pow, b_catL, b_repL, b_repT, c_eq, c_ne, c_eqS, c_neS, c_lt, c_le, c_gt, c_ge, c_is, c_isn, c_in, c_nin, x_lst, x_tup, x_ft, l_lst, u_add, u_sub, at0, at1, at2, at3, f_len, len_lst, len_tup, len_ft, f_abs, f_min, f_max, f_int, f_intB, ix0, ix1, ix2, ix3, trunc_set, trunc_self, List.getElem?_cons_zero, List.getElem?_cons_succ, List.set_cons_zero, List.set_cons_succ, Option.some.injEq, exists_eq_left', exists_eq_left, exists_eq', exists_eq, exists_eq_right, exists_eq_right', D.int.injEq, D.bl.injEq, D.str.injEq, D.tup.injEq, D.lst.injEq, List.cons.injEq, List.length_cons, List.length_nil, List.map_cons, List.map_nil, true_and, and_true, Option.map_some, Option.map_none, Nat.reduceAdd, Nat.reduceLT, Nat.reduceLeDiff, Int.reduceLT, Int.reduceLE, Int.reduceNeg, Int.reducePow, ↓reduceIte, List.length_set, not_true_eq_false, not_false_eq_true, forall_const, false_implies, false_and, and_false, Int.zero_emod, implies_true, or_true, true_or, if_true, if_false, Bool.true_eq_false, Bool.false_eq_true, eq_self, decide_true]
    exact q _ _ _ B2
theorem law_so {ns : List Int} : (F_law [.fl (ns.map .int)] []).so fun d _ => d = .bl true := by
  unfold F_law
  refine runF_so (by rfl) ?_
  unfold startD ir_law
  simp only [List.map_cons, List.map_nil, List.length_cons, List.length_nil, List.replicate, List.cons_append, List.nil_append]
  simp only [m_nil, m_cons, m_asg, m_par2, m_par3, m_augS, m_setF, m_expr, m_ret, m_retN, m_ite, m_pass, m_brk, m_cont, m_never, g_name, g_sub, g_tup2, e_var, e_cst, e_bin, e_cmp, e_chain, e_and, e_or, e_not, e_ite, e_neg, e_tup, e_lst, e_idx, e_cut, o_none, o_some, e_fld, e_call, e_bi, e_bm, e_frz, e_dict, e_isi, e_rev, e_lrng, s_nil', s_cons', t_tr, t_tb, t_cmp, t_chain, t_and, t_or, t_not, t_yes, m_for, m_while, i_seq, i_rng1, i_rng2, i_rng3, i_enum, q_tup, q_ft, q_lst, q_fl, n_lst, y_ii, y_ib, y_bi, y_bb, y_tt, y_ss, y_ll, f_listT, f_listL, f_listF, f_tupT, f_tupL, Bool.not_true, Bool.not_false, isNon, tru_bl, cast0, cast1, cast2, cast3, cast4, Int.reduceEq, sLine, bls_bl, ints_int, way_t, way_f, way_d, way_n, alloc_t, alloc_f, so_ok, so_no, b_add, b_sub, b_mul, b_div, b_mod, b_pow, b_catL, b_repL, b_repT, c_eq, c_ne, c_eqS, c_neS, c_lt, c_le, c_gt, c_ge, c_is, c_isn, c_in, c_nin, x_lst, x_tup, x_ft, l_lst, u_add, u_sub, at0, at1, at2, at3, f_len, len_lst, len_tup, len_ft, f_abs, f_min, f_max, f_int, f_intB, ix0, ix1, ix2, ix3, trunc_set, trunc_self, List.getElem?_cons_zero, List.getElem?_cons_succ, List.set_cons_zero, List.set_cons_succ, Option.some.injEq, exists_eq_left', exists_eq_left, exists_eq', exists_eq, exists_eq_right, exists_eq_right', D.int.injEq, D.bl.injEq, D.str.injEq, D.tup.injEq, D.lst.injEq, List.cons.injEq, List.length_cons, List.length_nil, List.map_cons, List.map_nil, true_and, and_true, Option.map_some, Option.map_none, Nat.reduceAdd, Nat.reduceLT, Nat.reduceLeDiff, Int.reduceLT, Int.reduceLE, Int.reduceNeg, Int.reducePow, ↓reduceIte, List.length_set, not_true_eq_false, not_false_eq_true, forall_const, false_implies, false_and, and_false, Int.zero_emod, implies_true, or_true, true_or, if_true, if_false, Bool.true_eq_false, Bool.false_eq_true, T12_11, List.append_nil]
  refine bag_ok fun cs hcs => ?_
  simp only [m_nil, m_cons, m_asg, m_par2, m_par3, m_augS, m_setF, m_expr, m_ret, m_retN, m_ite, m_pass, m_brk, m_cont, m_never, g_name, g_sub, g_tup2, e_var, e_cst, e_bin, e_cmp, e_chain, e_and, e_or, e_not, e_ite, e_neg, e_tup, e_lst, e_idx, e_cut, o_none, o_some, e_fld, e_call, e_bi, e_bm, e_frz, e_dict, e_isi, e_rev, e_lrng, s_nil', s_cons', t_tr, t_tb, t_cmp, t_chain, t_and, t_or, t_not, t_yes, m_for, m_while, i_seq, i_rng1, i_rng2, i_rng3, i_enum, q_tup, q_ft, q_lst, q_fl, n_lst, y_ii, y_ib, y_bi, y_bb, y_tt, y_ss, y_ll, f_listT, f_listL, f_listF, f_tupT, f_tupL, Bool.not_true, Bool.not_false, isNon, tru_bl, cast0, cast1, cast2, cast3, cast4, Int.reduceEq, sLine, bls_bl, ints_int, way_t, way_f, way_d, way_n, alloc_t, alloc_f, so_ok, so_no, b_add, b_sub, b_mul, b_div, b_mod, b_pow, b_catL, b_repL, b_repT, c_eq, c_ne, c_eqS, c_neS, c_lt, c_le, c_gt, c_ge, c_is, c_isn, c_in, c_nin, x_lst, x_tup, x_ft, l_lst, u_add, u_sub, at0, at1, at2, at3, f_len, len_lst, len_tup, len_ft, f_abs, f_min, f_max, f_int, f_intB, ix0, ix1, ix2, ix3, trunc_set, trunc_self, List.getElem?_cons_zero, List.getElem?_cons_succ, List.set_cons_zero, List.set_cons_succ, Option.some.injEq, exists_eq_left', exists_eq_left, exists_eq', exists_eq, exists_eq_right, exists_eq_right', D.int.injEq, D.bl.injEq, D.str.injEq, D.tup.injEq, D.lst.injEq, List.cons.injEq, List.length_cons, List.length_nil, List.map_cons, List.map_nil, true_and, and_true, Option.map_some, Option.map_none, Nat.reduceAdd, Nat.reduceLT, Nat.reduceLeDiff, Int.reduceLT, Int.reduceLE, Int.reduceNeg, Int.reducePow, ↓reduceIte, List.length_set, not_true_eq_false, not_false_eq_true, forall_const, false_implies, false_and, and_false, Int.zero_emod, implies_true, or_true, true_or, if_true, if_false, Bool.true_eq_false, Bool.false_eq_true, List.nil_append]
  refine ⟨⟨by omega, by omega⟩, ?_⟩
  have B0 : Bag [Cell.lst [.int 0, .int 1234567891, .int 0, .lst cs]] 0 := ⟨0, _, 0, cs, rfl, by omega, by omega, by omega, hcs⟩
  refine for_so (fun i σ S' => Bag S' 0 ∧ ∃ a b c d e f g h j, σ = [some (.fl (ns.map .int)), some (.cell 0), a, b, c, d, e, f, g, h, j]) ⟨B0, _, _, _, _, _, _, _, _, _, rfl⟩ ?_ ?_
  · rintro i d σ S' hd ⟨B, a1, a2, a3, a4, a5, a6, a7, a8, a9, rfl⟩
    refine ⟨_, rfl, ?_⟩
    have E6 : (6 : Int).toNat = 6 := rfl
    rw [m_cons, m_asg]
    simp only [e_call, s_cons', s_nil', e_var, e_cst, g_name, List.getElem?_cons_zero, List.getElem?_cons_succ, List.set_cons_zero, List.set_cons_succ, Option.some.injEq, exists_eq_left', exists_eq_left, exists_eq', exists_eq, exists_eq_right, exists_eq_right', D.int.injEq, D.bl.injEq, D.str.injEq, D.tup.injEq, D.lst.injEq, List.cons.injEq, List.length_cons, List.length_nil, List.map_cons, List.map_nil, true_and, and_true, Option.map_some, Option.map_none, Nat.reduceAdd, Nat.reduceLT, Nat.reduceLeDiff, Int.reduceLT, Int.reduceLE, Int.reduceNeg, Int.reducePow, ↓reduceIte, List.length_set, not_true_eq_false, not_false_eq_true, forall_const, false_implies, false_and, and_false, Int.zero_emod, implies_true, or_true, true_or, if_true, if_false, Bool.true_eq_false, Bool.false_eq_true, T12_6, List.append_nil]
    refine take_ok B (by omega) (by omega) fun w' c w0 w1 B1 => ?_
    obtain ⟨w, rfl⟩ := Int.eq_ofNat_of_zero_le w0
    have hw : w ≤ 12 := by omega
    generalize S'.set 0 c = S1 at B1 ⊢
    rw [m_cons, m_asg]
    simp only [e_call, s_cons', s_nil', e_var, e_cst, g_name, g_tup2, List.getElem?_cons_zero, List.getElem?_cons_succ, List.set_cons_zero, List.set_cons_succ, Option.some.injEq, exists_eq_left', exists_eq_left, exists_eq', exists_eq, exists_eq_right, exists_eq_right', D.int.injEq, D.bl.injEq, D.str.injEq, D.tup.injEq, D.lst.injEq, List.cons.injEq, List.length_cons, List.length_nil, List.map_cons, List.map_nil, true_and, and_true, Option.map_some, Option.map_none, Nat.reduceAdd, Nat.reduceLT, Nat.reduceLeDiff, Int.reduceLT, Int.reduceLE, Int.reduceNeg, Int.reducePow, ↓reduceIte, List.length_set, not_true_eq_false, not_false_eq_true, forall_const, false_implies, false_and, and_false, Int.zero_emod, implies_true, or_true, true_or, if_true, if_false, Bool.true_eq_false, Bool.false_eq_true, T12_10, List.append_nil]
    refine block_ok B1 hw fun b ls S2 hb hr ha B2 _ => ?_
    refine ⟨_, _, rfl, ?_⟩
    rw [m_cons, m_par2]
    simp only [e_call, e_bi, s_cons', s_nil', e_var, e_cst, g_name, List.getElem?_cons_zero, List.getElem?_cons_succ, List.set_cons_zero, List.set_cons_succ, Option.some.injEq, exists_eq_left', exists_eq_left, exists_eq', exists_eq, exists_eq_right, exists_eq_right', D.int.injEq, D.bl.injEq, D.str.injEq, D.tup.injEq, D.lst.injEq, List.cons.injEq, List.length_cons, List.length_nil, List.map_cons, List.map_nil, true_and, and_true, Option.map_some, Option.map_none, Nat.reduceAdd, Nat.reduceLT, Nat.reduceLeDiff, Int.reduceLT, Int.reduceLE, Int.reduceNeg, Int.reducePow, ↓reduceIte, List.length_set, not_true_eq_false, not_false_eq_true, forall_const, false_implies, false_and, and_false, Int.zero_emod, implies_true, or_true, true_or, if_true, if_false, Bool.true_eq_false, Bool.false_eq_true, T12_8, List.append_nil]
    refine due_ok hw hr ?_
    have hW := last_wt hr
    generalize hWW : wt (last b w) = W at hW ⊢
    simp only [f_listL, alloc_f, List.getElem?_cons_zero, List.getElem?_cons_succ, List.set_cons_zero, List.set_cons_succ, Option.some.injEq, exists_eq_left', exists_eq_left, exists_eq', exists_eq, exists_eq_right, exists_eq_right', D.int.injEq, D.bl.injEq, D.str.injEq, D.tup.injEq, D.lst.injEq, List.cons.injEq, List.length_cons, List.length_nil, List.map_cons, List.map_nil, true_and, and_true, Option.map_some, Option.map_none, Nat.reduceAdd, Nat.reduceLT, Nat.reduceLeDiff, Int.reduceLT, Int.reduceLE, Int.reduceNeg, Int.reducePow, ↓reduceIte, List.length_set, not_true_eq_false, not_false_eq_true, forall_const, false_implies, false_and, and_false, Int.zero_emod, implies_true, or_true, true_or, if_true, if_false, Bool.true_eq_false, Bool.false_eq_true]
    rw [m_cons, m_for]
    simp only [i_rng1, e_cst, ints_int]
    refine ⟨⟨by decide, by decide⟩, ?_⟩
    refine for_so (fun i σ S' => S' = S2 ∧ ∃ x, σ = [some (.fl (ns.map .int)), some (.cell 0), some d, some (.int w), x, a4, some (.lst (b.map toD)), some (.lst (lenD' ls)), some (.int W), some (.lst (b.map toD)), a9]) ⟨rfl, _, rfl⟩ ?_ ?_
    · rintro i d σ S' hd ⟨rfl, x, rfl⟩
      refine ⟨_, rfl, ?_⟩
      exact go_ok (by omega) hw hr hWW (by omega) ⟨rfl, _, rfl⟩
    · rintro σ S' ⟨rfl, x, rfl⟩
      exact rest_ok B2 hb hw hr ha hWW hW fun S' s5 s10 B => ⟨B, _, _, _, _, _, _, _, _, _, rfl⟩
  · rintro σ S' ⟨B, a1, a2, a3, a4, a5, a6, a7, a8, a9, rfl⟩
    simp only [m_nil, m_cons, m_asg, m_par2, m_par3, m_augS, m_setF, m_expr, m_ret, m_retN, m_ite, m_pass, m_brk, m_cont, m_never, g_name, g_sub, g_tup2, e_var, e_cst, e_bin, e_cmp, e_chain, e_and, e_or, e_not, e_ite, e_neg, e_tup, e_lst, e_idx, e_cut, o_none, o_some, e_fld, e_call, e_bi, e_bm, e_frz, e_dict, e_isi, e_rev, e_lrng, s_nil', s_cons', t_tr, t_tb, t_cmp, t_chain, t_and, t_or, t_not, t_yes, m_for, m_while, i_seq, i_rng1, i_rng2, i_rng3, i_enum, q_tup, q_ft, q_lst, q_fl, n_lst, y_ii, y_ib, y_bi, y_bb, y_tt, y_ss, y_ll, f_listT, f_listL, f_listF, f_tupT, f_tupL, Bool.not_true, Bool.not_false, isNon, tru_bl, cast0, cast1, cast2, cast3, cast4, Int.reduceEq, sLine, bls_bl, ints_int, way_t, way_f, way_d, way_n, alloc_t, alloc_f, so_ok, so_no, b_add, b_sub, b_mul, b_div, b_mod, b_pow, b_catL, b_repL, b_repT, c_eq, c_ne, c_eqS, c_neS, c_lt, c_le, c_gt, c_ge, c_is, c_isn, c_in, c_nin, x_lst, x_tup, x_ft, l_lst, u_add, u_sub, at0, at1, at2, at3, f_len, len_lst, len_tup, len_ft, f_abs, f_min, f_max, f_int, f_intB, ix0, ix1, ix2, ix3, trunc_set, trunc_self, List.getElem?_cons_zero, List.getElem?_cons_succ, List.set_cons_zero, List.set_cons_succ, Option.some.injEq, exists_eq_left', exists_eq_left, exists_eq', exists_eq, exists_eq_right, exists_eq_right', D.int.injEq, D.bl.injEq, D.str.injEq, D.tup.injEq, D.lst.injEq, List.cons.injEq, List.length_cons, List.length_nil, List.map_cons, List.map_nil, true_and, and_true, Option.map_some, Option.map_none, Nat.reduceAdd, Nat.reduceLT, Nat.reduceLeDiff, Int.reduceLT, Int.reduceLE, Int.reduceNeg, Int.reducePow, ↓reduceIte, List.length_set, not_true_eq_false, not_false_eq_true, forall_const, false_implies, false_and, and_false, Int.zero_emod, implies_true, or_true, true_or, if_true, if_false, Bool.true_eq_false, Bool.false_eq_true]
end
theorem law_holds : ∀ ns : List Int, ns.length ≤ 63 → ∃ S, F_law [.fl (ns.map D.int)] [] = .ok (.bl true) S := fun ns _ => by
  obtain ⟨d, S, h, e⟩ := law_so (ns := ns)
  rw [e] at h
  exact ⟨S, h⟩
end Mq
end

section
set_option maxHeartbeats 8000000
namespace Mq
open PySem L2 PySem.Spec PyProof.Rows
theorem all_mk {P : Program} {w : World} {K : PySem.W.Frag} {h : Heap} {mg : Str → Option Value} {fa : Addr} (X : K.In h) (G : h.Ns mainGlobals mg) (hfa : mg "law" = some (.ref fa))
    {f0 : Addr} {od0 an0 : Option Addr} {sl0 : Array (Option Value)} {oc0 kV0 dc0 pm0 cd0 ct0 : Value}
    {f1 : Addr} {od1 an1 : Option Addr} {sl1 : Array (Option Value)} {oc1 kV1 dc1 pm1 cd1 ct1 : Value}
    {f2 : Addr} {od2 an2 : Option Addr} {sl2 : Array (Option Value)} {oc2 kV2 dc2 pm2 cd2 ct2 : Value}
    {f3 : Addr} {od3 an3 : Option Addr} {sl3 : Array (Option Value)} {oc3 kV3 dc3 pm3 cd3 ct3 : Value}
    {f4 : Addr} {od4 an4 : Option Addr} {sl4 : Array (Option Value)} {oc4 kV4 dc4 pm4 cd4 ct4 : Value}
    {f5 : Addr} {od5 an5 : Option Addr} {sl5 : Array (Option Value)} {oc5 kV5 dc5 pm5 cd5 ct5 : Value}
    {f6 : Addr} {od6 an6 : Option Addr} {sl6 : Array (Option Value)} {oc6 kV6 dc6 pm6 cd6 ct6 : Value}
    {f7 : Addr} {od7 an7 : Option Addr} {sl7 : Array (Option Value)} {oc7 kV7 dc7 pm7 cd7 ct7 : Value}
    {f8 : Addr} {od8 an8 : Option Addr} {sl8 : Array (Option Value)} {oc8 kV8 dc8 pm8 cd8 ct8 : Value}
    {f9 : Addr} {od9 an9 : Option Addr} {sl9 : Array (Option Value)} {oc9 kV9 dc9 pm9 cd9 ct9 : Value}
    {f10 : Addr} {od10 an10 : Option Addr} {sl10 : Array (Option Value)} {oc10 kV10 dc10 pm10 cd10 ct10 : Value}
    {f11 : Addr} {od11 an11 : Option Addr} {sl11 : Array (Option Value)} {oc11 kV11 dc11 pm11 cd11 ct11 : Value}
    {f12 : Addr} {od12 an12 : Option Addr} {sl12 : Array (Option Value)} {oc12 kV12 dc12 pm12 cd12 ct12 : Value}
    {ct_0 : Tok}
    {ct_1 : Tok}
    (a0 : PySem.W.nsIn K mainGlobals "row_after" = some (some (.ref f0)))
    (l0 : K.lookup f0 = some ⟨oc0, od0, .func (PySem.W.fnOf "row_after" "row_after" (defArgs st_row_after) (defBody st_row_after) (defScope st_row_after) .none kV0 dc0 pm0 an0 cd0 ct0), sl0⟩)
    (c0 : PySem.W.codeIn K cd0 "row_after" = true)
    (k0 : PySem.W.keepIn K (.ref f0) = true)
    (a1 : PySem.W.nsIn K mainGlobals "is_integer" = some (some (.ref f1)))
    (l1 : K.lookup f1 = some ⟨oc1, od1, .func (PySem.W.fnOf "is_integer" "is_integer" (defArgs st_is_integer) (defBody st_is_integer) (defScope st_is_integer) .none kV1 dc1 pm1 an1 cd1 ct1), sl1⟩)
    (c1 : PySem.W.codeIn K cd1 "is_integer" = true)
    (k1 : PySem.W.keepIn K (.ref f1) = true)
    (a2 : PySem.W.nsIn K mainGlobals "is_step" = some (some (.ref f2)))
    (l2 : K.lookup f2 = some ⟨oc2, od2, .func (PySem.W.fnOf "is_step" "is_step" (defArgs st_is_step) (defBody st_is_step) (defScope st_is_step) .none kV2 dc2 pm2 an2 cd2 ct2), sl2⟩)
    (c2 : PySem.W.codeIn K cd2 "is_step" = true)
    (k2 : PySem.W.keepIn K (.ref f2) = true)
    (a3 : PySem.W.nsIn K mainGlobals "length_after" = some (some (.ref f3)))
    (l3 : K.lookup f3 = some ⟨oc3, od3, .func (PySem.W.fnOf "length_after" "length_after" (defArgs st_length_after) (defBody st_length_after) (defScope st_length_after) .none kV3 dc3 pm3 an3 cd3 ct3), sl3⟩)
    (c3 : PySem.W.codeIn K cd3 "length_after" = true)
    (k3 : PySem.W.keepIn K (.ref f3) = true)
    (a4 : PySem.W.nsIn K mainGlobals "need_block" = some (some (.ref f4)))
    (l4 : K.lookup f4 = some ⟨oc4, od4, .func (PySem.W.fnOf "need_block" "need_block" (defArgs st_need_block) (defBody st_need_block) (defScope st_need_block) .none kV4 dc4 pm4 an4 cd4 ct4), sl4⟩)
    (c4 : PySem.W.codeIn K cd4 "need_block" = true)
    (k4 : PySem.W.keepIn K (.ref f4) = true)
    (a5 : PySem.W.nsIn K mainGlobals "passed_for_ever" = some (some (.ref f5)))
    (l5 : K.lookup f5 = some ⟨oc5, od5, .func (PySem.W.fnOf "passed_for_ever" "passed_for_ever" (defArgs st_passed_for_ever) (defBody st_passed_for_ever) (defScope st_passed_for_ever) .none kV5 dc5 pm5 an5 cd5 ct5), sl5⟩)
    (c5 : PySem.W.codeIn K cd5 "passed_for_ever" = true)
    (k5 : PySem.W.keepIn K (.ref f5) = true)
    (a6 : PySem.W.nsIn K mainGlobals "_law_take" = some (some (.ref f6)))
    (l6 : K.lookup f6 = some ⟨oc6, od6, .func (PySem.W.fnOf "_law_take" "_law_take" (defArgs st_law_take) (defBody st_law_take) (defScope st_law_take) .none kV6 dc6 pm6 an6 cd6 ct6), sl6⟩)
    (c6 : PySem.W.codeIn K cd6 "_law_take" = true)
    (k6 : PySem.W.keepIn K (.ref f6) = true)
    (a7 : PySem.W.nsIn K mainGlobals "_law_after" = some (some (.ref f7)))
    (l7 : K.lookup f7 = some ⟨oc7, od7, .func (PySem.W.fnOf "_law_after" "_law_after" (defArgs st_law_after) (defBody st_law_after) (defScope st_law_after) .none kV7 dc7 pm7 an7 cd7 ct7), sl7⟩)
    (c7 : PySem.W.codeIn K cd7 "_law_after" = true)
    (k7 : PySem.W.keepIn K (.ref f7) = true)
    (a8 : PySem.W.nsIn K mainGlobals "_law_due" = some (some (.ref f8)))
    (l8 : K.lookup f8 = some ⟨oc8, od8, .func (PySem.W.fnOf "_law_due" "_law_due" (defArgs st_law_due) (defBody st_law_due) (defScope st_law_due) .none kV8 dc8 pm8 an8 cd8 ct8), sl8⟩)
    (c8 : PySem.W.codeIn K cd8 "_law_due" = true)
    (k8 : PySem.W.keepIn K (.ref f8) = true)
    (a9 : PySem.W.nsIn K mainGlobals "_law_step" = some (some (.ref f9)))
    (l9 : K.lookup f9 = some ⟨oc9, od9, .func (PySem.W.fnOf "_law_step" "_law_step" (defArgs st_law_step) (defBody st_law_step) (defScope st_law_step) .none kV9 dc9 pm9 an9 cd9 ct9), sl9⟩)
    (c9 : PySem.W.codeIn K cd9 "_law_step" = true)
    (k9 : PySem.W.keepIn K (.ref f9) = true)
    (a10 : PySem.W.nsIn K mainGlobals "_law_block" = some (some (.ref f10)))
    (l10 : K.lookup f10 = some ⟨oc10, od10, .func (PySem.W.fnOf "_law_block" "_law_block" (defArgs st_law_block) (defBody st_law_block) (defScope st_law_block) .none kV10 dc10 pm10 an10 cd10 ct10), sl10⟩)
    (c10 : PySem.W.codeIn K cd10 "_law_block" = true)
    (k10 : PySem.W.keepIn K (.ref f10) = true)
    (a11 : PySem.W.nsIn K mainGlobals "_law_bag" = some (some (.ref f11)))
    (l11 : K.lookup f11 = some ⟨oc11, od11, .func (PySem.W.fnOf "_law_bag" "_law_bag" (defArgs st_law_bag) (defBody st_law_bag) (defScope st_law_bag) .none kV11 dc11 pm11 an11 cd11 ct11), sl11⟩)
    (c11 : PySem.W.codeIn K cd11 "_law_bag" = true)
    (k11 : PySem.W.keepIn K (.ref f11) = true)
    (a12 : PySem.W.nsIn K mainGlobals "law" = some (some (.ref f12)))
    (l12 : K.lookup f12 = some ⟨oc12, od12, .func (PySem.W.fnOf "law" "law" (defArgs st_law) (defBody st_law) (defScope st_law) .none kV12 dc12 pm12 an12 cd12 ct12), sl12⟩)
    (c12 : PySem.W.codeIn K cd12 "law" = true)
    (k12 : PySem.W.keepIn K (.ref f12) = true)
    (v0 : PySem.W.nsIn K mainGlobals "MAX_PLACES" = some (some (.int 12 ct_0)))
    (v1 : PySem.W.nsIn K mainGlobals "MAX_COMPARISONS" = some (some (.int 400 ct_1)))
    (z0 : PySem.W.nsIn K mainGlobals "range" = some none)
    (z1 : PySem.W.nsIn K mainGlobals "repr" = some none)
    (z2 : PySem.W.nsIn K mainGlobals "sum" = some none)
    (z3 : PySem.W.nsIn K mainGlobals "tuple" = some none)
    (z4 : PySem.W.nsIn K mainGlobals "list" = some none)
    (z5 : PySem.W.nsIn K mainGlobals "enumerate" = some none)
    (z6 : PySem.W.nsIn K mainGlobals "isinstance" = some none)
    (z7 : PySem.W.nsIn K mainGlobals "bool" = some none)
    (z8 : PySem.W.nsIn K mainGlobals "int" = some none)
    (z9 : PySem.W.nsIn K mainGlobals "len" = some none)
    (z10 : PySem.W.nsIn K mainGlobals "str" = some none)
    (z11 : PySem.W.nsIn K mainGlobals "abs" = some none) :
    ∃ fd : FuncData, (∀ (s : Shared) (u : Value), BindsTo s fd ⟨[u], []⟩ [("_law_script", u)]) ∧ ∀ base : Heap, K.In base → base.Ns mainGlobals mg → ∃ (W : Wd) (g : List D → Sto → R D), W.K = K ∧ FnG P w K mg base 13 fa fd ["_law_script"] (spD W g) ∧ ∀ ns : List Int, ns.length ≤ 63 → ∃ S, g [.fl (ns.map D.int)] [] = .ok (.bl true) S := by
  have e := hfa.symm.trans (PySem.W.mg_of X G a12)
  cases e
  have F0 := fun_mk (st := st_row_after) l0 c0 k0
  have F1 := fun_mk (st := st_is_integer) l1 c1 k1
  have F2 := fun_mk (st := st_is_step) l2 c2 k2
  have F3 := fun_mk (st := st_length_after) l3 c3 k3
  have F4 := fun_mk (st := st_need_block) l4 c4 k4
  have F5 := fun_mk (st := st_passed_for_ever) l5 c5 k5
  have F6 := fun_mk (st := st_law_take) l6 c6 k6
  have F7 := fun_mk (st := st_law_after) l7 c7 k7
  have F8 := fun_mk (st := st_law_due) l8 c8 k8
  have F9 := fun_mk (st := st_law_step) l9 c9 k9
  have F10 := fun_mk (st := st_law_block) l10 c10 k10
  have F11 := fun_mk (st := st_law_bag) l11 c11 k11
  have F12 := fun_mk (st := st_law) l12 c12 k12
  refine ⟨PySem.W.fnOf "law" "law" (defArgs st_law) (defBody st_law) (defScope st_law) .none kV12 dc12 pm12 an12 cd12 ct12, fun s v => .of_eq rfl, fun base _ _ => ⟨wd K [] cfs, F_law, rfl, ?_, law_holds⟩⟩
  have fc0 : Facts nt_0 T_0 0 P w K mg base (wd K [] cfs) := facts0 (by decide +kernel) ⟨cs_int (PySem.W.mg_of X G v0), ⟨cs_int (PySem.W.mg_of X G v1), trivial⟩⟩ ⟨PySem.W.mg_none_of X G z0, ⟨PySem.W.mg_none_of X G z1, ⟨PySem.W.mg_none_of X G z2, ⟨PySem.W.mg_none_of X G z3, ⟨PySem.W.mg_none_of X G z4, ⟨PySem.W.mg_none_of X G z5, ⟨PySem.W.mg_none_of X G z6, ⟨PySem.W.mg_none_of X G z7, ⟨PySem.W.mg_none_of X G z8, ⟨PySem.W.mg_none_of X G z9, ⟨PySem.W.mg_none_of X G z10, ⟨PySem.W.mg_none_of X G z11, trivial⟩⟩⟩⟩⟩⟩⟩⟩⟩⟩⟩⟩ trivial
  have g0 : FnG P w K mg base 1 f0 _ ["block", "row"] (spD (wd K [] cfs) F_row_after) := fn_ok F0 (scope_ok (by decide +kernel)) rfl fc0 chk_row_after
  have b0 := F0.binds (ps := ["block", "row"]) fun _ _ _ _ _ _ us hl => match us, hl with | [_, _], _ => rfl
  have fc1 : Facts nt_1 T_1 1 P w K mg base (wd K [] cfs) := fc0.addFn (by decide +kernel) (PySem.W.mg_of X G a0) k0 (g0.hs b0)
  have g1 : FnG P w K mg base 2 f1 _ ["thing"] (spD (wd K [] cfs) F_is_integer) := fn_ok F1 (scope_ok (by decide +kernel)) rfl fc1 chk_is_integer
  have b1 := F1.binds (ps := ["thing"]) fun _ _ _ _ _ _ us hl => match us, hl with | [_], _ => rfl
  have fc2 : Facts nt_2 T_2 2 P w K mg base (wd K [] cfs) := fc1.addFn (by decide +kernel) (PySem.W.mg_of X G a1) k1 (g1.hs b1)
  have g2 : FnG P w K mg base 3 f2 _ ["thing"] (spD (wd K [] cfs) F_is_step) := fn_ok F2 (scope_ok (by decide +kernel)) rfl fc2 chk_is_step
  have b2 := F2.binds (ps := ["thing"]) fun _ _ _ _ _ _ us hl => match us, hl with | [_], _ => rfl
  have fc3 : Facts nt_3 T_3 3 P w K mg base (wd K [] cfs) := fc2.addFn (by decide +kernel) (PySem.W.mg_of X G a2) k2 (g2.hs b2)
  have g3 : FnG P w K mg base 4 f3 _ ["step", "length"] (spD (wd K [] cfs) F_length_after) := fn_ok F3 (scope_ok (by decide +kernel)) rfl fc3 chk_length_after
  have b3 := F3.binds (ps := ["step", "length"]) fun _ _ _ _ _ _ us hl => match us, hl with | [_, _], _ => rfl
  have fc4 : Facts nt_4 T_4 4 P w K mg base (wd K [] cfs) := fc3.addFn (by decide +kernel) (PySem.W.mg_of X G a3) k3 (g3.hs b3)
  have g4 : FnG P w K mg base 5 f4 _ ["block", "waiting"] (spD (wd K [] cfs) F_need_block) := fn_ok F4 (scope_ok (by decide +kernel)) rfl fc4 chk_need_block
  have b4 := F4.binds (ps := ["block", "waiting"]) fun _ _ _ _ _ _ us hl => match us, hl with | [_, _], _ => rfl
  have fc5 : Facts nt_5 T_5 5 P w K mg base (wd K [] cfs) := fc4.addFn (by decide +kernel) (PySem.W.mg_of X G a4) k4 (g4.hs b4)
  have g5 : FnG P w K mg base 6 f5 _ ["block", "waiting"] (spD (wd K [] cfs) F_passed_for_ever) := fn_ok F5 (scope_ok (by decide +kernel)) rfl fc5 chk_passed_for_ever
  have b5 := F5.binds (ps := ["block", "waiting"]) fun _ _ _ _ _ _ us hl => match us, hl with | [_, _], _ => rfl
  have fc6 : Facts nt_6 T_6 6 P w K mg base (wd K [] cfs) := fc5.addFn (by decide +kernel) (PySem.W.mg_of X G a5) k5 (g5.hs b5)
  have g6 : FnG P w K mg base 7 f6 _ ["_law_bag_here", "_law_many"] (spD (wd K [] cfs) F_law_take) := fn_ok F6 (scope_ok (by decide +kernel)) rfl fc6 chk_law_take
  have b6 := F6.binds (ps := ["_law_bag_here", "_law_many"]) fun _ _ _ _ _ _ us hl => match us, hl with | [_, _], _ => rfl
  have fc7 : Facts nt_7 T_7 7 P w K mg base (wd K [] cfs) := fc6.addFn (by decide +kernel) (PySem.W.mg_of X G a6) k6 (g6.hs b6)
  have g7 : FnG P w K mg base 8 f7 _ ["_law_block_here", "_law_row"] (spD (wd K [] cfs) F_law_after) := fn_ok F7 (scope_ok (by decide +kernel)) rfl fc7 chk_law_after
  have b7 := F7.binds (ps := ["_law_block_here", "_law_row"]) fun _ _ _ _ _ _ us hl => match us, hl with | [_, _], _ => rfl
  have fc8 : Facts nt_8 T_8 8 P w K mg base (wd K [] cfs) := fc7.addFn (by decide +kernel) (PySem.W.mg_of X G a7) k7 (g7.hs b7)
  have g8 : FnG P w K mg base 9 f8 _ ["_law_block_here", "_law_waiting"] (spD (wd K [] cfs) F_law_due) := fn_ok F8 (scope_ok (by decide +kernel)) rfl fc8 chk_law_due
  have b8 := F8.binds (ps := ["_law_block_here", "_law_waiting"]) fun _ _ _ _ _ _ us hl => match us, hl with | [_, _], _ => rfl
  have fc9 : Facts nt_9 T_9 9 P w K mg base (wd K [] cfs) := fc8.addFn (by decide +kernel) (PySem.W.mg_of X G a8) k8 (g8.hs b8)
  have g9 : FnG P w K mg base 10 f9 _ ["_law_bag_here", "_law_length"] (spD (wd K [] cfs) F_law_step) := fn_ok F9 (scope_ok (by decide +kernel)) rfl fc9 chk_law_step
  have b9 := F9.binds (ps := ["_law_bag_here", "_law_length"]) fun _ _ _ _ _ _ us hl => match us, hl with | [_, _], _ => rfl
  have fc10 : Facts nt_10 T_10 10 P w K mg base (wd K [] cfs) := fc9.addFn (by decide +kernel) (PySem.W.mg_of X G a9) k9 (g9.hs b9)
  have g10 : FnG P w K mg base 11 f10 _ ["_law_bag_here", "_law_waiting"] (spD (wd K [] cfs) F_law_block) := fn_ok F10 (scope_ok (by decide +kernel)) rfl fc10 chk_law_block
  have b10 := F10.binds (ps := ["_law_bag_here", "_law_waiting"]) fun _ _ _ _ _ _ us hl => match us, hl with | [_, _], _ => rfl
  have fc11 : Facts nt_11 T_11 11 P w K mg base (wd K [] cfs) := fc10.addFn (by decide +kernel) (PySem.W.mg_of X G a10) k10 (g10.hs b10)
  have g11 : FnG P w K mg base 12 f11 _ ["_law_script"] (spD (wd K [] cfs) F_law_bag) := fn_ok F11 (scope_ok (by decide +kernel)) rfl fc11 chk_law_bag
  have b11 := F11.binds (ps := ["_law_script"]) fun _ _ _ _ _ _ us hl => match us, hl with | [_], _ => rfl
  have fc12 : Facts nt_12 T_12 12 P w K mg base (wd K [] cfs) := fc11.addFn (by decide +kernel) (PySem.W.mg_of X G a11) k11 (g11.hs b11)
  have g12 : FnG P w K mg base 13 fa _ ["_law_script"] (spD (wd K [] cfs) F_law) := fn_ok F12 (scope_ok (by decide +kernel)) rfl fc12 chk_law
  exact g12
end Mq
end
open PySem PySem.W PyProof.Rows in
set_option maxRecDepth 100000 in
set_option maxHeartbeats 0 in
theorem PySem.Challenge.cw_bearsmisses_k86_passed_for_ever_holds : PySem.Challenge.rw_bearsmisses_k86_passed_for_ever.Holds := by
  w_on; o_law; k_head; (case hw => w_witness2)
  k_fill
  refine Mq.walk_g (l := PySem.Challenge.rw_bearsmisses_k86_passed_for_ever) (n := 63) (k := 13) (x := "_law_script") rfl (by decide) rfl ⟨rfl, by decide, by decide⟩ (fun w h Y => PySem.W.kIn_of Y) ?F
  case F =>
    intro w mg fa h KX G hmg
    refine' Mq.all_mk KX G hmg ?a0 ?l0 ?c0 ?k0 ?a1 ?l1 ?c1 ?k1 ?a2 ?l2 ?c2 ?k2 ?a3 ?l3 ?c3 ?k3 ?a4 ?l4 ?c4 ?k4 ?a5 ?l5 ?c5 ?k5 ?a6 ?l6 ?c6 ?k6 ?a7 ?l7 ?c7 ?k7 ?a8 ?l8 ?c8 ?k8 ?a9 ?l9 ?c9 ?k9 ?a10 ?l10 ?c10 ?k10 ?a11 ?l11 ?c11 ?k11 ?a12 ?l12 ?c12 ?k12 ?v0 ?v1 ?z0 ?z1 ?z2 ?z3 ?z4 ?z5 ?z6 ?z7 ?z8 ?z9 ?z10 ?z11
    (case a0 => k_is)
    (case l0 => k_is)
    (case c0 => k_is)
    (case k0 => k_is)
    (case a1 => k_is)
    (case l1 => k_is)
    (case c1 => k_is)
    (case k1 => k_is)
    (case a2 => k_is)
    (case l2 => k_is)
    (case c2 => k_is)
    (case k2 => k_is)
    (case a3 => k_is)
    (case l3 => k_is)
    (case c3 => k_is)
    (case k3 => k_is)
    (case a4 => k_is)
    (case l4 => k_is)
    (case c4 => k_is)
    (case k4 => k_is)
    (case a5 => k_is)
    (case l5 => k_is)
    (case c5 => k_is)
    (case k5 => k_is)
    (case a6 => k_is)
    (case l6 => k_is)
    (case c6 => k_is)
    (case k6 => k_is)
    (case a7 => k_is)
    (case l7 => k_is)
    (case c7 => k_is)
    (case k7 => k_is)
    (case a8 => k_is)
    (case l8 => k_is)
    (case c8 => k_is)
    (case k8 => k_is)
    (case a9 => k_is)
    (case l9 => k_is)
    (case c9 => k_is)
    (case k9 => k_is)
    (case a10 => k_is)
    (case l10 => k_is)
    (case c10 => k_is)
    (case k10 => k_is)
    (case a11 => k_is)
    (case l11 => k_is)
    (case c11 => k_is)
    (case k11 => k_is)
    (case a12 => k_is)
    (case l12 => k_is)
    (case c12 => k_is)
    (case k12 => k_is)
    (case v0 => k_is)
    (case v1 => k_is)
    (case z0 => k_is)
    (case z1 => k_is)
    (case z2 => k_is)
    (case z3 => k_is)
    (case z4 => k_is)
    (case z5 => k_is)
    (case z6 => k_is)
    (case z7 => k_is)
    (case z8 => k_is)
    (case z9 => k_is)
    (case z10 => k_is)
    (case z11 => k_is)
#print axioms PySem.Challenge.cw_bearsmisses_k86_passed_for_ever_holds

