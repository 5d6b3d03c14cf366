import PyProof.Rows.All
import Wide.All
import OpenK.AllK
import Wide.FinOn
import KE.DataEq
import KE.DataCmp
import KE.DataFind
import KE.DataMinMax
import KE.DataAny
import KE.SortData
import PyProof.ReprRoads
import HandS.ForMost
import HandS.TupAny
import HandS.TupMul
import HandS.Zip
import HandS.Style
import HandS.Wide
import HandS.IsInst
import HandS.Exc
import HandS.Defaults
import HandS.RaiseMore
import KE.DataIsa
import HandS.Head0
import HandS.Head1
import HandS.Head2
import HandS.HeadEnd
import HandS.HeadHook1
import HandS.HeadHook2
import HandS.Ends
import HandS.More
import HandS.Words
import HandS.WordsExc
import PyProof.ReprLen
import PySem.Challenge.RW_etaparts_k31_any_value_as_parts
set_option Elab.async false
set_option linter.all false
set_option maxRecDepth 100000
/-! A small language and its interpreter. -/
namespace Mi
open PySem

/-- a value: data; an object of the store; the list of a slot of the frame (in passing) -/
inductive MV where
  | d (x : PyData)
  | ref (p : Nat)
  | own (i : Nat)
/-- what stands in a slot -/
inductive SV where
  | v (x : MV)
  | own (xs : List PyData)
/-- an object of the store -/
inductive MO where
  | lst (xs : List MV)
  | dead
abbrev Sl := List (Option SV)
abbrev Store := List MO
/-- what an expression yields: a value, or a new list that nobody else holds -/
inductive PV where
  | val (x : MV)
  | new (xs : List PyData)
inductive R where
  | ok (x : MV) (S : Store)
  | err (c : Nat) (xs : List PyData) (S : Store)
  | stuck

inductive BOp where | add | sub | mul | fdiv | mod | pow
  deriving DecidableEq
inductive COp where | eq | ne | lt | le | gt | ge | is | isnot | mem | nmem
  deriving DecidableEq
inductive BI where | len | abs | int | max2 | min2 | max1 | min1 | sum | all | any | sorted | sortedR | sortedSet | tuple | list | divmod | repr
  deriving DecidableEq
inductive MM where | count | index
  deriving DecidableEq
inductive Ty where | int | bool | str | tuple | list
  deriving DecidableEq
mutual
inductive ME where
  | const (x : PyData)
  | var (i : Nat)
  | glob (g : Nat)
  | tup (es : List ME)
  | list (es : List ME)
  | bin (op : BOp) (a b : ME)
  | neg (a : ME)
  | not (a : ME)
  | and (es : List ME)
  | or (es : List ME)
  | cmp (op : COp) (a b : ME)
  | chain (o1 o2 : COp) (a b c : ME)
  | ite (c a b : ME)
  | idx (a b : ME)
  | slice (a : ME) (lo hi : Option ME)
  | rev (a : ME)
  | call (f : Nat) (es : List ME) (perm : List Nat)
  | bi (b : BI) (es : List ME)
  | meth (m : MM) (o : ME) (es : List ME)
  | isin (a : ME) (tys : List Ty)
  | comp (elt : ME) (tg : MT) (it : MI) (cs : List ME) (vs : List Nat)
  | rangeL (es : List ME)
  | dict0
  | frz (a : ME)
  | newRef (a : ME)
inductive MI where
  | val (e : ME)
  | range (es : List ME)
  | enum (e : ME)
  | zip (a b : ME)
inductive MT where
  | name (i : Nat)
  | sub (o i : ME)
  | tup (ts : List MT)
end
inductive MS where
  | set (i : Nat) (e : ME)
  | setOwn (i : Nat) (e : ME)
  | asg (t : MT) (e : ME)
  | par (is : List Nat) (es : List ME)
  | expr (e : ME)
  | append (o e : ME)
  | extend (o e : ME)
  | ret (e : ME)
  | retN
  | ite (c : ME) (a b : List MS)
  | while (c : ME) (b : List MS)
  | for (t : MT) (it : MI) (b : List MS)
  | pass | brk | cont
  | raise (c : Nat) (es : List ME)
  | never

/-! ### plain parts -/
def PV.seal : PV → MV
  | .val v => v
  | .new xs => .d (.list xs)
/-- data of a value -/
def MV.dat : MV → Option PyData
  | .d x => some x
  | _ => none
def MV.noOwn : MV → Bool
  | .own _ => false
  | _ => true
def datL : List MV → Option (List PyData)
  | [] => some []
  | v :: r => match v.dat, datL r with
    | some x, some xs => some (x :: xs)
    | _, _ => none
/-- the items of a list, whatever holds it -/
def lstV (μ : Sl) (S : Store) : MV → Option (List PyData)
  | .d (.list xs) => some xs
  | .own i => match μ[i]? with
    | some (some (.own xs)) => some xs
    | _ => none
  | .ref p => match S[p]? with
    | some (.lst xs) => datL xs
    | _ => none
  | _ => none
/-- the items of a list or a tuple -/
def seqV (μ : Sl) (S : Store) : MV → Option (List PyData)
  | .d (.tuple xs) => some xs
  | v => lstV μ S v
/-- the data that a value is now -/
def datV (μ : Sl) (S : Store) : MV → Option PyData
  | .d x => some x
  | v => (lstV μ S v).map .list
def bigOk (i j : Int) : Bool := decide (i.natAbs.log2 + j.natAbs.log2 < 1000000)
def size0 : Nat := 16777216
def bopD : BOp → PyData → PyData → Option PV
  | .add, .int i, .int j => some (.val (.d (.int (i + j))))
  | .add, .str x, .str y => if x.length + y.length ≤ size0 then some (.val (.d (.str (x ++ y)))) else none
  | .add, .tuple xs, .tuple ys => if xs.length + ys.length ≤ size0 then some (.val (.d (.tuple (xs ++ ys)))) else none
  | .add, .list xs, .list ys => if xs.length + ys.length ≤ size0 then some (.new (xs ++ ys)) else none
  | .sub, .int i, .int j => some (.val (.d (.int (i - j))))
  | .mul, .int i, .int j => if bigOk i j then some (.val (.d (.int (i * j)))) else none
  | .mul, .tuple xs, .int k => if xs.isEmpty = false ∧ 2 ≤ k ∧ k ≤ 1000 ∧ xs.length ≤ 1000 then some (.val (.d (.tuple (List.replicate k.toNat xs).flatten))) else none
  | .mul, .list xs, .int k => if -(2 ^ 63) ≤ k ∧ k < 2 ^ 63 ∧ xs.length * k.toNat ≤ size0 then some (.new (List.replicate k.toNat xs).flatten) else none
  | .fdiv, .int i, .int j => if 0 < j ∧ j.natAbs.log2 < 9000 then some (.val (.d (.int (i / j)))) else none
  | .mod, .int i, .int j => if 0 < j then some (.val (.d (.int (i % j)))) else none
  | .pow, .int i, .int j => if 0 ≤ j ∧ j ≤ 1000000 ∧ i.natAbs < 2 ^ 64 then some (.val (.d (.int (i ^ j.toNat)))) else none
  | _, _, _ => none
def smallD (a b : PyData) : Bool := decide (min a.depth b.depth ≤ 64)
def isNoneD : PyData → Bool
  | .none => true
  | _ => false
/-- `a is b` for the written None, True, False -/
def isD : PyData → PyData → Option Bool
  | a, .none => some (isNoneD a)
  | .bool a, .bool b => some (a == b)
  | _, _ => none
def ordD (a b : PyData) : Option Bool := if (W.alike a b && smallD a b && !isNoneD a) = true then some (W.dataLt a b) else none
def memD (a b : PyData) : Option Bool :=
  match b with
  | .list xs | .tuple xs => if PyData.plainAll xs = true ∧ a.plain = true ∧ min (PyData.depthAll xs) a.depth ≤ 64 then some (xs.any fun y => PyData.eqv y a) else none
  | .str y => match a with
    | .str x => some (!(Builtin.Str.occurrences y x 0 y.length 1).isEmpty)
    | _ => none
  | _ => none
def cmpD : COp → PyData → PyData → Option Bool
  | .eq, a, b => if a.plain = true ∧ b.plain = true ∧ smallD a b = true then some (a.eqv b) else none
  | .ne, a, b => if a.plain = true ∧ b.plain = true ∧ smallD a b = true then some (!a.eqv b) else none
  | .lt, .int i, .int j => some (decide (i < j))
  | .le, .int i, .int j => some (decide (i ≤ j))
  | .gt, .int i, .int j => some (decide (j < i))
  | .ge, .int i, .int j => some (decide (j ≤ i))
  | .lt, a, b => ordD a b
  | .gt, a, b => ordD b a
  | .le, a, b => (ordD b a).map (!·)
  | .ge, a, b => (ordD a b).map (!·)
  | .is, a, b => isD a b
  | .isnot, a, b => (isD a b).map (!·)
  | .mem, a, b => memD a b
  | .nmem, a, b => (memD a b).map (!·)
def cutL {α : Type} (xs : List α) (lo hi : Option Int) : List α := (xs.drop (HT.sIx xs.length 0 lo)).take (HT.sIx xs.length xs.length hi - HT.sIx xs.length 0 lo)
def idxD : PyData → Int → Option PyData
  | .list xs, i => L2.atI xs i
  | .tuple xs, i => L2.atI xs i
  | .str z, i => if z.length ≤ size0 then (L2.atI z.cps.toList i).map fun c => .str ⟨#[c]⟩ else none
  | _, _ => none
def sliceD : PyData → Option Int → Option Int → Option PV
  | .list xs, lo, hi => some (.new (cutL xs lo hi))
  | .tuple xs, lo, hi => some (.val (.d (.tuple (cutL xs lo hi))))
  | .str z, lo, hi => if z.length ≤ size0 then some (.val (.d (.str ⟨(cutL z.cps.toList lo hi).toArray⟩))) else none
  | _, _, _ => none
def revD : PyData → Option PV
  | .list xs => some (.new xs.reverse)
  | .tuple xs => some (.val (.d (.tuple xs.reverse)))
  | _ => none
def intsD : List PyData → Option (List Int)
  | [] => some []
  | .int i :: r => (intsD r).map (i :: ·)
  | _ :: _ => none
def boolsD : List PyData → Option (List Bool)
  | [] => some []
  | .bool b :: r => (boolsD r).map (b :: ·)
  | _ :: _ => none
def pairAlike (xs : List PyData) : Bool := xs.all fun x => xs.all fun y => W.alike x y
def tupD : PyData → Bool
  | .tuple (_ :: _) => true
  | _ => false
def flatD : PyData → Bool
  | .none => false
  | .tuple _ => false
  | _ => true
def sortOk (xs : List PyData) : Bool := (intsD xs).isSome || (pairAlike xs && (xs.all tupD || xs.all flatD) && decide (PyData.depthAll xs ≤ 64))
def seqOf : PyData → Option (List PyData)
  | .list xs => some xs
  | .tuple xs => some xs
  | _ => none
/-- the elements of a list without repeats, as sorted(set(..)) has them: whole numbers -/
def dedupI : List Int → List Int
  | [] => []
  | x :: r => if x ∈ dedupI r then dedupI r else x :: dedupI r
def leI (a b : Int) : Bool := decide (a ≤ b)
def noKv : PyData → Bool
  | .dict [] => true
  | _ => false
def maxI : List Int → Option PV
  | n :: ns => some (.val (.d (.int (ns.foldl max n))))
  | [] => none
def minI : List Int → Option PV
  | n :: ns => some (.val (.d (.int (ns.foldl min n))))
  | [] => none
def biD : BI → List PyData → Option PV
  | .len, [.str z] => if z.length ≤ size0 then some (.val (.d (.int z.length))) else none
  | .len, [x] => (seqOf x).map fun xs => .val (.d (.int xs.length))
  | .abs, [.int i] => some (.val (.d (.int (if i < 0 then -i else i))))
  | .int, [.int i] => some (.val (.d (.int i)))
  | .int, [.bool b] => some (.val (.d (.int (if b then 1 else 0))))
  | .max2, [.int i, .int j] => some (.val (.d (.int (if j > i then j else i))))
  | .min2, [.int i, .int j] => some (.val (.d (.int (if j < i then j else i))))
  | .max1, [.list xs] => (intsD xs).bind maxI
  | .min1, [.list xs] => (intsD xs).bind minI
  | .sum, [x] => ((seqOf x).bind intsD).map fun ns => .val (.d (.int ns.sum))
  | .all, [.list xs] => (boolsD xs).map fun bs => .val (.d (.bool (bs.all id)))
  | .any, [.list xs] => (boolsD xs).map fun bs => .val (.d (.bool (bs.any id)))
  | .sorted, [x] => (seqOf x).bind fun xs => if sortOk xs = true then some (.new (xs.mergeSort (W.dataLe false id))) else none
  | .sortedR, [x] => (seqOf x).bind fun xs => if sortOk xs = true then some (.new (xs.mergeSort (W.dataLe true id))) else none
  | .sortedSet, [x] => ((seqOf x).bind intsD).map fun ns => .new (((dedupI ns).mergeSort leI).map .int)
  | .tuple, [x] => (seqOf x).map fun xs => .val (.d (.tuple xs))
  | .list, [x] => (seqOf x).map fun xs => .new xs
  | .divmod, [.int i, .int j] => if 0 < j ∧ j < 1073741824 then some (.val (.d (.tuple [.int (i / j), .int (i % j)]))) else none
  | .repr, [x] => if x.showable = true ∧ (x.hasDict = false ∨ noKv x = true) ∧ x.depth ≤ 64 ∧ x.shown.length ≤ size0 then some (.val (.d (.str x.shown))) else none
  | _, _ => none
def mmD : MM → PyData → List PyData → Option PV
  | .count, x, [y] => (seqOf x).bind fun xs => if PyData.plainAll xs = true ∧ y.plain = true ∧ min (PyData.depthAll xs) y.depth ≤ 64 then some (.val (.d (.int (xs.countP fun z => PyData.eqv z y)))) else none
  | .index, x, [y] => (seqOf x).bind fun xs => if PyData.plainAll xs = true ∧ y.plain = true ∧ min (PyData.depthAll xs) y.depth ≤ 64 then (xs.findIdx? fun z => PyData.eqv z y).map fun j => .val (.d (.int j)) else none
  | _, _, _ => none
def isTy : PyData → Ty → Bool
  | .int _, .int => true
  | .bool _, .int => true
  | .bool _, .bool => true
  | .str _, .str => true
  | .tuple _, .tuple => true
  | .list _, .list => true
  | _, _ => false
def rangeD : List PyData → Option (List Int)
  | [.int n] => if n < 2 ^ 62 ∧ -(2 ^ 62) ≤ n then some ((List.range n.toNat).map fun (i : Nat) => (i : Int)) else none
  | [.int a, .int b] => if -(2 ^ 62) ≤ a ∧ a < 2 ^ 62 ∧ -(2 ^ 62) ≤ b ∧ b < 2 ^ 62 then some ((List.range (b - a).toNat).map fun (i : Nat) => a + (i : Int)) else none
  | [.int a, .int b, .int c] => if -(2 ^ 62) ≤ a ∧ a < 2 ^ 62 ∧ -(2 ^ 62) ≤ b ∧ b < 2 ^ 62 then
      (if 0 < c ∧ c < 2 ^ 30 then some ((List.range ((b - a + c - 1) / c).toNat).map fun (i : Nat) => a + (i : Int) * c)
       else if c < 0 ∧ -(2 ^ 30) < c then some ((List.range ((a - b - c - 1) / (-c)).toNat).map fun (i : Nat) => a + (i : Int) * c) else none) else none
  | _ => none
def permute {α : Type} (vs : List α) : List Nat → Option (List α)
  | [] => some []
  | i :: r => match vs[i]?, permute vs r with
    | some v, some ws => some (v :: ws)
    | _, _ => none
def enumD (xs : List PyData) : List PyData := xs.zipIdx.map fun p => .tuple [.int p.2, p.1]
def zipD (xs ys : List PyData) : List PyData := (xs.zip ys).map fun p => .tuple [p.1, p.2]
def zipO : PyData → PyData → Option (List PyData)
  | .list xs, .list ys => some (zipD xs ys)
  | .tuple xs, .tuple ys => some (zipD xs ys)
  | _, _ => none

/-! ### loops -/
def forL (body : MV → Sl → Store → (Sl → Store → R) → R) : List MV → Sl → Store → (Sl → Store → R) → R
  | [], μ, S, k => k μ S
  | x :: r, μ, S, k => body x μ S fun μ S => forL body r μ S k
/-- over a list that a slot or the store holds, as it stands at each turn -/
def forV (get : Sl → Store → Option (List MV)) (body : MV → Sl → Store → (Sl → Store → R) → R) : Nat → Nat → Sl → Store → (Sl → Store → R) → R
  | 0, _, _, _, _ => .stuck
  | n + 1, i, μ, S, k => match get μ S with
    | none => .stuck
    | some xs => match xs[i]? with
      | none => k μ S
      | some x => body x μ S fun μ S => forV get body n (i + 1) μ S k
def whileL (c : Sl → Store → (Bool → Sl → Store → R) → R) (body : Sl → Store → (Sl → Store → R) → R) : Nat → Sl → Store → (Sl → Store → R) → R
  | 0, _, _, _ => .stuck
  | n + 1, μ, S, k => c μ S fun b μ S => if b then body μ S fun μ S => whileL c body n μ S k else k μ S
def compL (body : MV → Sl → Store → (Option PyData → Sl → Store → R) → R) : List MV → List PyData → Sl → Store → (List PyData → Sl → Store → R) → R
  | [], acc, μ, S, k => k acc μ S
  | x :: r, acc, μ, S, k => body x μ S fun o μ S => match o with
    | some y => if acc.length < size0 then compL body r (acc ++ [y]) μ S k else .stuck
    | none => compL body r acc μ S k
def fuel0 : Nat := 18446744073709551616
/-- what is walked -/
inductive IV where
  | items (xs : List MV)
  | live (v : MV)
def liveL (v : MV) (μ : Sl) (S : Store) : Option (List MV) :=
  match v with
  | .ref p => match S[p]? with
    | some (.lst xs) => some xs
    | _ => none
  | _ => none
def iterV (S : Store) : MV → Option IV
  | .d (.list xs) => some (.items (xs.map .d))
  | .d (.tuple xs) => some (.items (xs.map .d))
  | .d (.str z) => some (.items (z.cps.toList.map fun c => .d (.str ⟨#[c]⟩)))
  | .ref p => match S[p]? with
    | some (.lst _) => some (.live (.ref p))
    | _ => none
  | _ => none
/-- a list that is held -/
def lstS (μ : Sl) (S : Store) : MV → Bool
  | .own i => match μ[i]? with
    | some (some (.own _)) => true
    | _ => false
  | .ref p => match S[p]? with
    | some (.lst _) => true
    | _ => false
  | _ => false
/-- slots of a comprehension's own names are empty within -/
def wipeS (μ : Sl) : List Nat → Sl
  | [] => μ
  | v :: vs => (wipeS μ vs).set v none
def backS (μ0 μ : Sl) : List Nat → Sl
  | [] => μ
  | v :: vs => (backS μ0 μ vs).set v (μ0.getD v none)
def noOwnIn (vs : List Nat) (μ : Sl) : Bool := vs.all fun i => match μ[i]? with
  | some (some (.own _)) => false
  | _ => true

/-! ### the interpreter -/
/-- the texts' surroundings: the calls, the module's constants -/
structure Ga where
  call : Nat → List MV → Store → R
  glob : Nat → Option PyData
abbrev KE := PV → Sl → Store → R
abbrev KV := MV → Sl → Store → R
abbrev KN := Sl → Store → R
def ofO (μ : Sl) (S : Store) (k : KE) : Option PV → R
  | some v => k v μ S
  | none => .stuck
def ofB (μ : Sl) (S : Store) (k : KE) : Option Bool → R
  | some b => k (.val (.d (.bool b))) μ S
  | none => .stuck
/-- a call's end; within a comprehension nothing is let out -/
def callK (c : Bool) (μ : Sl) (k : KE) : R → R
  | .ok v S => k (.val v) μ S
  | .err n xs S => if c then .stuck else .err n xs S
  | .stuck => .stuck
/-- with the data of a value -/
def withD (v : MV) (k : PyData → R) : R :=
  match v with
  | .d x => k x
  | _ => .stuck
def withDs (vs : List MV) (k : List PyData → R) : R :=
  match datL vs with
  | some xs => k xs
  | none => .stuck
/-- with the data that a value is now -/
def withL (v : MV) (μ : Sl) (S : Store) (k : PyData → R) : R :=
  match datV μ S v with
  | some x => k x
  | none => .stuck
def withB (pv : PV) (k : Bool → R) : R :=
  match pv with
  | .val (.d (.bool b)) => k b
  | _ => .stuck
def withI (v : MV) (k : Int → R) : R :=
  match v with
  | .d (.int i) => k i
  | _ => .stuck
def setSlot (i : Nat) (x : SV) (μ : Sl) (k : Sl → R) : R :=
  match μ[i]? with
  | some _ => k (μ.set i (some x))
  | none => .stuck
/-- o[i] = x, o a list that is held -/
def storeAt (o : MV) (j : Int) (x : MV) (μ : Sl) (S : Store) (k : KN) : R :=
  match o with
  | .own i => match μ[i]?, x with
    | some (some (.own xs)), .d y => match L2.ixN xs.length j with
      | some n => k (μ.set i (some (.own (xs.set n y)))) S
      | none => .stuck
    | _, _ => .stuck
  | .ref p => match S[p]? with
    | some (.lst xs) => if x.noOwn then (match L2.ixN xs.length j with
      | some n => k μ (S.set p (.lst (xs.set n x)))
      | none => .stuck) else .stuck
    | _ => .stuck
  | _ => .stuck
def appendTo (o : MV) (x : MV) (μ : Sl) (S : Store) (k : KN) : R :=
  match o with
  | .own i => match μ[i]?, x with
    | some (some (.own xs)), .d y => if xs.length < size0 then k (μ.set i (some (.own (xs ++ [y])))) S else .stuck
    | _, _ => .stuck
  | .ref p => match S[p]? with
    | some (.lst xs) => if x.noOwn && decide (xs.length < size0) then k μ (S.set p (.lst (xs ++ [x]))) else .stuck
    | _ => .stuck
  | _ => .stuck
def extendTo (o : MV) (ys : List PyData) (μ : Sl) (S : Store) (k : KN) : R :=
  match o with
  | .own i => match μ[i]? with
    | some (some (.own xs)) => if xs.length + ys.length ≤ size0 then k (μ.set i (some (.own (xs ++ ys)))) S else .stuck
    | _ => .stuck
  | _ => .stuck
/-- a held list is held no more: it is data from now on -/
def freeze (v : MV) (μ : Sl) (S : Store) (k : KE) : R :=
  match v with
  | .own i => match μ[i]? with
    | some (some (.own xs)) => k (.val (.d (.list xs))) (μ.set i (some (.v (.d (.list xs))))) S
    | _ => .stuck
  | .ref p => match S[p]? with
    | some (.lst xs) => match datL xs with
      | some ds => k (.val (.d (.list ds))) μ (S.set p .dead)
      | none => .stuck
    | _ => .stuck
  | v => k (.val v) μ S
def forIV (body : MV → Sl → Store → (Sl → Store → R) → R) (it : IV) (μ : Sl) (S : Store) (k : Sl → Store → R) : R :=
  match it with
  | .items xs => forL body xs μ S k
  | .live v => forV (liveL v) body fuel0 0 μ S k

mutual
def evE (Γ : Ga) (c : Bool) : ME → Sl → Store → KE → R
  | .const x, μ, S, k => k (.val (.d x)) μ S
  | .var i, μ, S, k => match μ[i]? with
    | some (some (.v x)) => k (.val x) μ S
    | some (some (.own _)) => k (.val (.own i)) μ S
    | _ => .stuck
  | .glob g, μ, S, k => match Γ.glob g with
    | some x => k (.val (.d x)) μ S
    | none => .stuck
  | .tup es, μ, S, k => evLs Γ c es μ S fun vs μ S => withDs vs fun xs => if xs.length ≤ size0 then k (.val (.d (.tuple xs))) μ S else .stuck
  | .list es, μ, S, k => evLs Γ c es μ S fun vs μ S => withDs vs fun xs => if xs.length ≤ size0 then k (.new xs) μ S else .stuck
  | .bin op a b, μ, S, k => evE Γ c a μ S fun x μ S => evE Γ c b μ S fun y μ S =>
      withL x.seal μ S fun x => withL y.seal μ S fun y => ofO μ S k (bopD op x y)
  | .neg a, μ, S, k => evE Γ c a μ S fun x μ S => withI x.seal fun i => k (.val (.d (.int (-i)))) μ S
  | .not a, μ, S, k => evE Γ c a μ S fun x μ S => withB x fun b => k (.val (.d (.bool (!b)))) μ S
  | .and es, μ, S, k => evAnd Γ c es μ S k
  | .or es, μ, S, k => evOr Γ c es μ S k
  | .cmp op a b, μ, S, k => evE Γ c a μ S fun x μ S => evE Γ c b μ S fun y μ S =>
      withL x.seal μ S fun x => withL y.seal μ S fun y => ofB μ S k (cmpD op x y)
  | .chain o1 o2 a b e, μ, S, k => evE Γ c a μ S fun x μ S => evE Γ c b μ S fun y μ S =>
      withD x.seal fun x => withD y.seal fun y => match cmpD o1 x y with
        | some true => evE Γ c e μ S fun z μ S => withD z.seal fun z => ofB μ S k (cmpD o2 y z)
        | some false => k (.val (.d (.bool false))) μ S
        | none => .stuck
  | .ite t a b, μ, S, k => evE Γ c t μ S fun x μ S => withB x fun d => if d then evE Γ c a μ S k else evE Γ c b μ S k
  | .idx a b, μ, S, k => evE Γ c a μ S fun x μ S => evE Γ c b μ S fun y μ S => withI y.seal fun i =>
      match x.seal with
      | .ref p => (match S[p]? with
        | some (.lst xs) => (match L2.atI xs i with
          | some v => k (.val v) μ S
          | none => .stuck)
        | _ => .stuck)
      | v => withL v μ S fun x => match idxD x i with
        | some z => k (.val (.d z)) μ S
        | none => .stuck
  | .slice a lo hi, μ, S, k => evE Γ c a μ S fun x μ S => evOpt Γ c lo μ S fun lo μ S => evOpt Γ c hi μ S fun hi μ S =>
      withL x.seal μ S fun x => ofO μ S k (sliceD x lo hi)
  | .rev a, μ, S, k => evE Γ c a μ S fun x μ S => withL x.seal μ S fun x => ofO μ S k (revD x)
  | .call f es perm, μ, S, k => evLs Γ c es μ S fun vs μ S =>
      if vs.all MV.noOwn then (match (if perm.isEmpty then some vs else permute vs perm) with
      | some ws => callK c μ k (Γ.call f ws S)
      | none => .stuck) else .stuck
  | .bi b es, μ, S, k => evLs Γ c es μ S fun vs μ S =>
      match vs.mapM (datV μ S) with
      | some xs => ofO μ S k (biD b xs)
      | none => .stuck
  | .meth m o es, μ, S, k => evE Γ c o μ S fun x μ S => if (seqV μ S x.seal).isSome then evLs Γ c es μ S fun vs μ S =>
      withL x.seal μ S fun x => match vs.mapM (datV μ S) with
      | some xs => ofO μ S k (mmD m x xs)
      | none => .stuck
      else .stuck
  | .isin a tys, μ, S, k => evE Γ c a μ S fun x μ S => withL x.seal μ S fun x => k (.val (.d (.bool (tys.any (isTy x))))) μ S
  | .comp elt tg it cs vs, μ, S, k => evI Γ c it μ S fun iv μ S =>
      if noOwnIn vs μ then (match iv with
        | .items xs => compL (fun x μ S k => asg Γ true tg x μ S fun μ S => evConds Γ true cs μ S fun b μ S =>
            if b then evE Γ true elt μ S fun y μ S => withD y.seal fun y => k (some y) (wipeS μ vs) S else k none (wipeS μ vs) S) xs [] (wipeS μ vs) S
            fun ys μ' S => k (.new ys) (backS μ μ' vs) S
        | .live _ => .stuck) else .stuck
  | .rangeL es, μ, S, k => evLs Γ c es μ S fun vs μ S => withDs vs fun xs => match rangeD xs with
      | some ns => if ns.length ≤ size0 then k (.new (ns.map .int)) μ S else .stuck
      | none => .stuck
  | .dict0, μ, S, k => k (.val (.d (.dict []))) μ S
  | .frz a, μ, S, k => evE Γ c a μ S fun x μ S => freeze x.seal μ S k
  | .newRef a, μ, S, k => evE Γ c a μ S fun x μ S => match x with
      | .new xs => k (.val (.ref S.length)) μ (S ++ [.lst (xs.map .d)])
      | _ => .stuck
def evOpt (Γ : Ga) (c : Bool) : Option ME → Sl → Store → (Option Int → Sl → Store → R) → R
  | none, μ, S, k => k none μ S
  | some e, μ, S, k => evE Γ c e μ S fun x μ S => withI x.seal fun i => k (some i) μ S
/-- values to be looked at -/
def evLs (Γ : Ga) (c : Bool) : List ME → Sl → Store → (List MV → Sl → Store → R) → R
  | [], μ, S, k => k [] μ S
  | e :: r, μ, S, k => evE Γ c e μ S fun x μ S => evLs Γ c r μ S fun xs μ S => k (x.seal :: xs) μ S
def evAnd (Γ : Ga) (c : Bool) : List ME → Sl → Store → KE → R
  | [], _, _, _ => .stuck
  | e :: r, μ, S, k => match r with
    | [] => evE Γ c e μ S fun x μ S => k (.val x.seal) μ S
    | _ :: _ => evE Γ c e μ S fun x μ S => withB x fun b => if b then evAnd Γ c r μ S k else k (.val (.d (.bool false))) μ S
def evOr (Γ : Ga) (c : Bool) : List ME → Sl → Store → KE → R
  | [], _, _, _ => .stuck
  | e :: r, μ, S, k => match r with
    | [] => evE Γ c e μ S fun x μ S => k (.val x.seal) μ S
    | _ :: _ => evE Γ c e μ S fun x μ S => withB x fun b => if b then k (.val (.d (.bool true))) μ S else evOr Γ c r μ S k
def evConds (Γ : Ga) (c : Bool) : List ME → Sl → Store → (Bool → Sl → Store → R) → R
  | [], μ, S, k => k true μ S
  | e :: r, μ, S, k => evE Γ c e μ S fun x μ S => withB x fun b => if b then evConds Γ c r μ S k else k false μ S
def evI (Γ : Ga) (c : Bool) : MI → Sl → Store → (IV → Sl → Store → R) → R
  | .val e, μ, S, k => evE Γ c e μ S fun x μ S => match iterV S x.seal with
      | some iv => k iv μ S
      | none => .stuck
  | .range es, μ, S, k => evLs Γ c es μ S fun vs μ S => if vs.length = es.length then withDs vs fun xs => match rangeD xs with
      | some ns => k (.items (ns.map fun n => .d (.int n))) μ S
      | none => .stuck else .stuck
  | .enum e, μ, S, k => evE Γ c e μ S fun x μ S => withD x.seal fun x => match x with
      | .list xs => k (.items ((enumD xs).map .d)) μ S
      | _ => .stuck
  | .zip a b, μ, S, k => evE Γ c a μ S fun x μ S => evE Γ c b μ S fun y μ S => withD x.seal fun x => withD y.seal fun y => match zipO x y with
      | some zs => k (.items (zs.map .d)) μ S
      | none => .stuck
def asg (Γ : Ga) (c : Bool) : MT → MV → Sl → Store → KN → R
  | .name i, x, μ, S, k => if x.noOwn then setSlot i (.v x) μ fun μ => k μ S else .stuck
  | .sub o j, x, μ, S, k => evE Γ c o μ S fun ov μ S => evE Γ c j μ S fun jv μ S => withI jv.seal fun i => storeAt ov.seal i x μ S k
  | .tup ts, x, μ, S, k => match x with
    | .d (.tuple xs) => if xs.length = ts.length then asgs Γ c ts xs μ S k else .stuck
    | _ => .stuck
def asgs (Γ : Ga) (c : Bool) : List MT → List PyData → Sl → Store → KN → R
  | [], [], μ, S, k => k μ S
  | t :: ts, x :: xs, μ, S, k => asg Γ c t (.d x) μ S fun μ S => asgs Γ c ts xs μ S k
  | _, _, _, _, _ => .stuck
end
/-- values that are kept apart until all are there -/
def evPs (Γ : Ga) (c : Bool) : List ME → Sl → Store → (List PV → Sl → Store → R) → R
  | [], μ, S, k => k [] μ S
  | e :: r, μ, S, k => evE Γ c e μ S fun x μ S => evPs Γ c r μ S fun xs μ S => k (x :: xs) μ S
/-- several slots at once -/
def setAll : List Nat → List PV → Sl → (Sl → R) → R
  | [], [], μ, k => k μ
  | i :: is, .val x :: xs, μ, k => if x.noOwn then setSlot i (.v x) μ fun μ => setAll is xs μ k else .stuck
  | i :: is, .new x :: xs, μ, k => setSlot i (.own x) μ fun μ => setAll is xs μ k
  | _, _, _, _ => .stuck
mutual
def exS (Γ : Ga) : MS → Sl → Store → (nx : KN) → (rt : MV → Store → R) → (bk ct : KN) → R
  | .set i e, μ, S, nx, _, _, _ => evE Γ false e μ S fun x μ S => if x.seal.noOwn then setSlot i (.v x.seal) μ fun μ => nx μ S else .stuck
  | .setOwn i e, μ, S, nx, _, _, _ => evE Γ false e μ S fun x μ S => match x with
      | .new xs => setSlot i (.own xs) μ fun μ => nx μ S
      | _ => .stuck
  | .asg t e, μ, S, nx, _, _, _ => evE Γ false e μ S fun x μ S => asg Γ false t x.seal μ S nx
  | .par is es, μ, S, nx, _, _, _ => evPs Γ false es μ S fun xs μ S => setAll is xs μ fun μ => nx μ S
  | .expr e, μ, S, nx, _, _, _ => evE Γ false e μ S fun _ μ S => nx μ S
  | .append o e, μ, S, nx, _, _, _ => evE Γ false o μ S fun ov μ S => if lstS μ S ov.seal then evE Γ false e μ S fun x μ S => appendTo ov.seal x.seal μ S nx else .stuck
  | .extend o e, μ, S, nx, _, _, _ => evE Γ false o μ S fun ov μ S => if lstS μ S ov.seal then evE Γ false e μ S fun x μ S => withD x.seal fun x => match x with
      | .list ys => extendTo ov.seal ys μ S nx
      | _ => .stuck
      else .stuck
  | .ret e, μ, S, _, rt, _, _ => evE Γ false e μ S fun x _ S => if x.seal.noOwn then rt x.seal S else .stuck
  | .retN, _, S, _, rt, _, _ => rt (.d .none) S
  | .ite t a b, μ, S, nx, rt, bk, ct => evE Γ false t μ S fun x μ S => withB x fun d => if d then exSs Γ a μ S nx rt bk ct else exSs Γ b μ S nx rt bk ct
  | .while t b, μ, S, nx, rt, _, _ => whileL (fun μ S k => evE Γ false t μ S fun x μ S => withB x fun d => k d μ S)
      (fun μ S k => exSs Γ b μ S k rt nx k) fuel0 μ S nx
  | .for t it b, μ, S, nx, rt, _, _ => evI Γ false it μ S fun iv μ S =>
      forIV (fun x μ S k => asg Γ false t x μ S fun μ S => exSs Γ b μ S k rt nx k) iv μ S nx
  | .pass, μ, S, nx, _, _, _ => nx μ S
  | .brk, μ, S, _, _, bk, _ => bk μ S
  | .cont, μ, S, _, _, _, ct => ct μ S
  | .raise n es, μ, S, _, _, _, _ => evLs Γ false es μ S fun vs _ S => withDs vs fun xs => .err n xs S
  | .never, _, _, _, _, _, _ => .stuck
def exSs (Γ : Ga) : List MS → Sl → Store → (nx : KN) → (rt : MV → Store → R) → (bk ct : KN) → R
  | [], μ, S, nx, _, _, _ => nx μ S
  | s :: r, μ, S, nx, rt, bk, ct => exS Γ s μ S (fun μ S => exSs Γ r μ S nx rt bk ct) rt bk ct
end
/-- a def: how many parameters, how many slots, its body -/
structure Df where
  ps : Nat
  ns : Nat
  body : List MS
def startS (d : Df) (vs : List MV) : Sl := vs.map (fun v => some (.v v)) ++ List.replicate (d.ns - vs.length) none
def noBr : KN := fun _ _ => .stuck
/-- the calls of a text, n deep -/
def run (fs : List Df) (gl : Nat → Option PyData) : Nat → Nat → List MV → Store → R
  | 0, _, _, _ => .stuck
  | n + 1, f, vs, S => match fs[f]? with
    | some d => if vs.length = d.ps ∧ d.ps ≤ d.ns then exSs ⟨run fs gl n, gl⟩ d.body (startS d vs) S (fun _ S => .ok (.d .none) S) (fun v S => .ok v S) noBr noBr else .stuck
    | none => .stuck
end Mi

set_option maxHeartbeats 4000000
/-! How the small language's states stand for the model's. -/
namespace Mi
open PySem PySem.Spec PyProof.Rows L2

theorem size0_eq : size0 = sizeLine := by rw [sizeLine_eq]; rfl
/-! ### data -/
/-- a tuple that stands for good, without a dict of its own -/
def TupK (K : W.Frag) (F : Hp) (a : Addr) (vs : List V) : Prop := (∃ o, F a = some (.frz o (.tup vs)) ∧ o.dict = none) ∨
  ∃ (o : Obj) (its : Array Value) (n : Nat), K.lookup a = some o ∧ o.cls = .type "tuple" ∧ o.data = .seq its n ∧ its.size ≤ sizeLine ∧ Vals vs its.toList ∧ o.dict = none
theorem TupK.sqT {K : W.Frag} {F : Hp} {a : Addr} {vs : List V} (h : TupK K F a vs) : SqT K F a vs := by
  rcases h with ⟨o, h, _⟩ | ⟨o, its, n, h1, h2, h3, h4, h5, _⟩
  · exact .inl (.inr ⟨o, h⟩)
  · exact .inr ⟨o, its, n, h1, h2, h3, h4, h5⟩
/-- a list that stands for good -/
def LstK (K : W.Frag) (F : Hp) (a : Addr) (vs : List V) : Prop := Rd F a (.lst vs) ∨
  ∃ (its : Array Value) (n : Nat), K.lookup a = some { cls := .type "list", data := .seq its n } ∧ its.size ≤ sizeLine ∧ Vals vs its.toList
theorem LstK.sqL {K : W.Frag} {F : Hp} {a : Addr} {vs : List V} (h : LstK K F a vs) : SqL K F a vs := by
  rcases h with h | ⟨its, n, h1, h2, h3⟩
  · exact .inl h
  · exact .inr ⟨_, its, n, h1, rfl, rfl, rfl, h2, h3⟩
theorem LstK.of {K : W.Frag} {F : Hp} {a : Addr} {vs : List V} (h : F a = some (.lst vs)) : LstK K F a vs := .inl (.inl h)
mutual
inductive DR (K : W.Frag) (F : Hp) : V → PyData → Prop
  | non : DR K F .non .none
  | bl (b : Bool) : DR K F (.bl b) (.bool b)
  | int (i : Int) : DR K F (.int i) (.int i)
  | str (x : Str) : DR K F (.str x) (.str x)
  | lst {a : Addr} {vs : List V} {xs : List PyData} : LstK K F a vs → DRs K F vs xs → DR K F (.ref a) (.list xs)
  | tup {a : Addr} {vs : List V} {xs : List PyData} : TupK K F a vs → DRs K F vs xs → DR K F (.ref a) (.tuple xs)
  | dct {a : Addr} : F a = some (.dK []) → DR K F (.ref a) (.dict [])
inductive DRs (K : W.Frag) (F : Hp) : List V → List PyData → Prop
  | nil : DRs K F [] []
  | cons {v : V} {vs : List V} {x : PyData} {xs : List PyData} : DR K F v x → DRs K F vs xs → DRs K F (v :: vs) (x :: xs)
end
abbrev Sub (F H : Hp) : Prop := ∀ a o, F a = some o → H a = some o
section
variable {K : W.Frag} {F G : Hp}
theorem Sub.rd (h : Sub F G) {a : Addr} {u : HO} (r : Rd F a u) : Rd G a u := by
  rcases r with r | ⟨o, r⟩
  · exact .inl (h _ _ r)
  · exact .inr ⟨o, h _ _ r⟩
theorem Sub.sqL (h : Sub F G) {a : Addr} {xs : List V} (r : SqL K F a xs) : SqL K G a xs := r.imp h.rd id
theorem Sub.tupK (h : Sub F G) {a : Addr} {xs : List V} (r : TupK K F a xs) : TupK K G a xs := by
  rcases r with ⟨o, r, d⟩ | r
  · exact .inl ⟨o, h _ _ r, d⟩
  · exact .inr r
theorem Sub.sqT (h : Sub F G) {a : Addr} {xs : List V} (r : SqT K F a xs) : SqT K G a xs := r.imp h.rd id
mutual
theorem DR.mono (h : Sub F G) : ∀ {v : V} {x : PyData}, DR K F v x → DR K G v x
  | _, _, .non => .non
  | _, _, .bl b => .bl b
  | _, _, .int i => .int i
  | _, _, .str x => .str x
  | _, _, .lst a b => .lst (a.imp h.rd id) (DRs.mono h b)
  | _, _, .tup a b => .tup (h.tupK a) (DRs.mono h b)
  | _, _, .dct a => .dct (h _ _ a)
theorem DRs.mono (h : Sub F G) : ∀ {vs : List V} {xs : List PyData}, DRs K F vs xs → DRs K G vs xs
  | _, _, .nil => .nil
  | _, _, .cons a b => .cons (DR.mono h a) (DRs.mono h b)
end
theorem DRs.length {vs : List V} : ∀ {xs : List PyData}, DRs K F vs xs → vs.length = xs.length := by
  induction vs with
  | nil => intro xs h; cases h; rfl
  | cons v vs ih =>
    intro xs h
    cases h with
    | cons a b => simp [ih b]
theorem DRs.append : ∀ {vs ws : List V} {xs ys : List PyData}, DRs K F vs xs → DRs K F ws ys → DRs K F (vs ++ ws) (xs ++ ys)
  | _, _, _, _, .nil, h => h
  | _, _, _, _, .cons a b, h => .cons a (DRs.append b h)
theorem DRs.get {i : Nat} : ∀ {i : Nat} {vs : List V} {xs : List PyData} {x : PyData}, DRs K F vs xs → xs[i]? = some x → ∃ v, vs[i]? = some v ∧ DR K F v x
  | _, _, _, _, .nil, e => by simp at e
  | 0, _, _, _, .cons a _, e => by simp at e; subst e; exact ⟨_, rfl, a⟩
  | i + 1, _, _, x, .cons _ b, e => by
    obtain ⟨v, h1, h2⟩ := DRs.get (i := 0) b (by simpa using e)
    exact ⟨v, by simpa using h1, h2⟩
theorem DRs.getV : ∀ {i : Nat} {vs : List V} {xs : List PyData} {v : V}, DRs K F vs xs → vs[i]? = some v → ∃ x, xs[i]? = some x ∧ DR K F v x
  | _, _, _, _, .nil, e => by simp at e
  | 0, _, _, _, .cons a _, e => by simp at e; subst e; exact ⟨_, rfl, a⟩
  | i + 1, _, _, x, .cons _ b, e => by
    obtain ⟨v, h1, h2⟩ := DRs.getV b (by simpa using e)
    exact ⟨v, by simpa using h1, h2⟩
theorem DRs.take : ∀ {vs : List V} {xs : List PyData} (n : Nat), DRs K F vs xs → DRs K F (vs.take n) (xs.take n)
  | _, _, 0, _ => by simp; exact .nil
  | _, _, _ + 1, .nil => by simp; exact .nil
  | _, _, n + 1, .cons a b => by simpa using DRs.cons a (DRs.take n b)
theorem DRs.drop : ∀ {vs : List V} {xs : List PyData} (n : Nat), DRs K F vs xs → DRs K F (vs.drop n) (xs.drop n)
  | _, _, 0, h => h
  | _, _, _ + 1, .nil => .nil
  | _, _, n + 1, .cons a b => DRs.drop n b
theorem DRs.set {v : V} {x : PyData} (r : DR K F v x) : ∀ {vs : List V} {xs : List PyData} (n : Nat), DRs K F vs xs → DRs K F (vs.set n v) (xs.set n x)
  | _, _, _, .nil => .nil
  | _, _, 0, .cons _ b => .cons r b
  | _, _, n + 1, .cons a b => .cons a (DRs.set r n b)
theorem DRs.reverse {vs : List V} {xs : List PyData} (h : DRs K F vs xs) : DRs K F vs.reverse xs.reverse := by
  induction vs generalizing xs with
  | nil => cases h; exact .nil
  | cons v vs ih =>
    cases h with
    | cons a b => rw [List.reverse_cons, List.reverse_cons]; exact (ih b).append (.cons a .nil)
theorem DRs.rep {vs : List V} {xs : List PyData} (h : DRs K F vs xs) : ∀ n : Nat, DRs K F (List.replicate n vs).flatten (List.replicate n xs).flatten
  | 0 => .nil
  | n + 1 => by rw [List.replicate_succ, List.replicate_succ, List.flatten_cons, List.flatten_cons]; exact h.append (DRs.rep h n)
theorem DRs.ints {vs : List V} : ∀ {xs : List PyData} {ns : List Int}, DRs K F vs xs → intsD xs = some ns → vs = ns.map V.int ∧ xs = ns.map PyData.int := by
  induction vs with
  | nil => intro xs ns h e; cases h; simp [intsD] at e; subst e; exact ⟨rfl, rfl⟩
  | cons v vs ih =>
    intro xs ns h e
    cases h with
    | @cons _ _ x xs a b =>
      cases a with
      | int i =>
        rw [intsD] at e
        obtain ⟨ms, e1, rfl⟩ := Option.map_eq_some_iff.mp e
        obtain ⟨r1, r2⟩ := ih b e1
        exact ⟨by rw [r1]; rfl, by rw [r2]; rfl⟩
      | _ => simp [intsD] at e
theorem DRs.of_ints : ∀ ns : List Int, DRs K F (ns.map V.int) (ns.map PyData.int)
  | [] => .nil
  | n :: ns => .cons (.int n) (DRs.of_ints ns)
end

/-! ### states -/
/-- a value of the language; σ: the frame's slots -/
def VR (K : W.Frag) (F : Hp) (m : List Addr) (σ : L2.St) : MV → V → Prop
  | .d x, v => DR K F v x
  | .ref p, v => ∃ a, m[p]? = some a ∧ v = .ref a
  | .own i, v => σ[i]? = some (some v)
inductive VRs (K : W.Frag) (F : Hp) (m : List Addr) (σ : L2.St) : List MV → List V → Prop
  | nil : VRs K F m σ [] []
  | cons {x : MV} {xs : List MV} {v : V} {vs : List V} : VR K F m σ x v → VRs K F m σ xs vs → VRs K F m σ (x :: xs) (v :: vs)
/-- what a frame may hold, and hand on: no list of a slot -/
def VR0 (K : W.Frag) (F : Hp) (m : List Addr) (x : MV) (v : V) : Prop := x.noOwn = true ∧ VR K F m [] x v
inductive VR0s (K : W.Frag) (F : Hp) (m : List Addr) : List MV → List V → Prop
  | nil : VR0s K F m [] []
  | cons {x : MV} {xs : List MV} {v : V} {vs : List V} : VR0 K F m x v → VR0s K F m xs vs → VR0s K F m (x :: xs) (v :: vs)
structure HR (K : W.Frag) (F B : Hp) (m : List Addr) (H : Hp) (S : Store) : Prop where
  fF : Sub F H
  fB : Sub B H
  nF : ∀ a, B a ≠ none → F a = none
  nB : ∀ a ∈ m, B a = none
  mH : ∀ a ∈ m, H a ≠ none
  len : m.length = S.length
  nd : m.Nodup
  st : ∀ (p : Nat) (xs : List MV), S[p]? = some (.lst xs) → ∃ a vs, m[p]? = some a ∧ F a = none ∧ H a = some (.lst vs) ∧ VR0s K F m xs vs
structure SR (K : W.Frag) (F B : Hp) (m : List Addr) (σ : L2.St) (H : Hp) (μ : Sl) (S : Store) : Prop where
  hr : HR K F B m H S
  len : μ.length = σ.length
  val : ∀ (i : Nat) (x : MV), μ[i]? = some (some (.v x)) → ∃ v, σ[i]? = some (some v) ∧ VR0 K F m x v
  own : ∀ (i : Nat) (xs : List PyData), μ[i]? = some (some (.own xs)) → ∃ a vs, σ[i]? = some (some (.ref a)) ∧ H a = some (.lst vs) ∧ DRs K F vs xs ∧ F a = none ∧ B a = none ∧ a ∉ m
  ownd : ∀ (i j : Nat) (xs ys : List PyData) (v : V), μ[i]? = some (some (.own xs)) → μ[j]? = some (some (.own ys)) → σ[i]? = some (some v) → σ[j]? = some (some v) → i = j
/-- later -/
structure Ext (F : Hp) (m : List Addr) (F' : Hp) (m' : List Addr) : Prop where
  f : Sub F F'
  m : m <+: m'
theorem Ext.refl {F : Hp} {m : List Addr} : Ext F m F m := ⟨fun _ _ e => e, List.prefix_refl _⟩
theorem Ext.trans {F F1 F2 : Hp} {m m1 m2 : List Addr} (a : Ext F m F1 m1) (b : Ext F1 m1 F2 m2) : Ext F m F2 m2 := ⟨fun _ _ e => b.f _ _ (a.f _ _ e), a.m.trans b.m⟩
section
variable {K : W.Frag} {F F' B H H' : Hp} {m m' : List Addr} {σ σ' : L2.St} {μ : Sl} {S : Store}
theorem pre_get {α : Type} {l l' : List α} {i : Nat} {a : α} (h : l <+: l') (e : l[i]? = some a) : l'[i]? = some a := by
  obtain ⟨t, rfl⟩ := h
  rw [List.getElem?_append_left (List.getElem?_eq_some_iff.mp e).1]
  exact e
theorem VR.mono (h : Ext F m F' m') {x : MV} {v : V} (r : VR K F m σ x v) : VR K F' m' σ x v := by
  cases x with
  | d x => exact DR.mono h.f r
  | ref p => obtain ⟨a, e, rfl⟩ := r; exact ⟨a, pre_get h.m e, rfl⟩
  | own i => exact r
theorem VRs.mono (h : Ext F m F' m') {xs : List MV} {vs : List V} (r : VRs K F m σ xs vs) : VRs K F' m' σ xs vs := by
  induction r with
  | nil => exact .nil
  | cons a _ ih => exact .cons (a.mono h) ih
theorem VR0.mono (h : Ext F m F' m') {x : MV} {v : V} (r : VR0 K F m x v) : VR0 K F' m' x v := ⟨r.1, r.2.mono h⟩
theorem VR0s.mono (h : Ext F m F' m') {xs : List MV} {vs : List V} (r : VR0s K F m xs vs) : VR0s K F' m' xs vs := by
  induction r with
  | nil => exact .nil
  | cons a _ ih => exact .cons (a.mono h) ih
theorem VR.any {x : MV} {v : V} (n : x.noOwn = true) (r : VR K F m σ x v) : VR K F m σ' x v := by
  cases x with
  | d x => exact r
  | ref p => exact r
  | own i => exact absurd (show false = true from n) Bool.false_ne_true
theorem VR.to0 {x : MV} {v : V} (n : x.noOwn = true) (r : VR K F m σ x v) : VR0 K F m x v := ⟨n, r.any n⟩
theorem VR0.vr {x : MV} {v : V} (r : VR0 K F m x v) : VR K F m σ x v := r.2.any r.1
theorem VRs.to0 {xs : List MV} {vs : List V} (n : xs.all MV.noOwn = true) (r : VRs K F m σ xs vs) : VR0s K F m xs vs := by
  induction r with
  | nil => exact .nil
  | cons a _ ih =>
    rw [List.all_cons, Bool.and_eq_true] at n
    exact .cons (a.to0 n.1) (ih n.2)
theorem VRs.length {xs : List MV} {vs : List V} (r : VRs K F m σ xs vs) : xs.length = vs.length := by
  induction r with
  | nil => rfl
  | cons _ _ ih => simp [ih]
theorem VR0s.length {xs : List MV} {vs : List V} (r : VR0s K F m xs vs) : xs.length = vs.length := by
  induction r with
  | nil => rfl
  | cons _ _ ih => simp [ih]
theorem VR0s.get {xs : List MV} {vs : List V} (r : VR0s K F m xs vs) : ∀ {i : Nat} {x : MV}, xs[i]? = some x → ∃ v, vs[i]? = some v ∧ VR0 K F m x v := by
  induction r with
  | nil => intro i x e; simp at e
  | cons a _ ih =>
    intro i x e
    cases i with
    | zero => simp at e; subst e; exact ⟨_, rfl, a⟩
    | succ i => simpa using ih (by simpa using e)
theorem VR0s.getV {xs : List MV} {vs : List V} (r : VR0s K F m xs vs) : ∀ {i : Nat} {v : V}, vs[i]? = some v → ∃ x, xs[i]? = some x ∧ VR0 K F m x v := by
  induction r with
  | nil => intro i x e; simp at e
  | cons a _ ih =>
    intro i x e
    cases i with
    | zero => simp at e; subst e; exact ⟨_, rfl, a⟩
    | succ i => simpa using ih (by simpa using e)
theorem VRs.dats {xs : List MV} {vs : List V} (r : VRs K F m σ xs vs) : ∀ {ds : List PyData}, datL xs = some ds → DRs K F vs ds := by
  induction r with
  | nil => intro ds e; simp [datL] at e; subst e; exact .nil
  | @cons x xs v vs a _ ih =>
    intro ds e
    cases x with
    | d y =>
      rw [datL] at e
      cases q : datL xs with
      | none => rw [q] at e; cases e
      | some ys =>
        rw [q] at e
        cases e
        exact .cons a (ih q)
    | ref p => simp [datL, MV.dat] at e
    | own i => simp [datL, MV.dat] at e
theorem VR0s.vrs {xs : List MV} {vs : List V} (r : VR0s K F m xs vs) : VRs K F m σ xs vs := by
  induction r with
  | nil => exact .nil
  | cons a _ ih => exact .cons a.vr ih
theorem DRs.vr0s {vs : List V} : ∀ {ds : List PyData}, DRs K F vs ds → VR0s K F m (ds.map .d) vs := by
  induction vs with
  | nil => intro ds h; cases h; exact .nil
  | cons v vs ih =>
    intro ds h
    cases h with
    | cons a b => exact .cons ⟨rfl, a⟩ (ih b)
/-- new objects alone have come -/
structure Grow (F H F' H' : Hp) : Prop where
  hh : Sub H H'
  ff : Sub F F'
  nf : ∀ a o, F' a = some o → F a = some o ∨ (H a = none ∧ H' a = some o)
theorem Grow.refl : Grow F H F H := ⟨fun _ _ e => e, fun _ _ e => e, fun _ _ e => .inl e⟩
theorem Grow.fresh (g : Grow F H F' H') {a : Addr} (h : H a ≠ none) (n : F a = none) : F' a = none := by
  cases q : F' a with
  | none => rfl
  | some o =>
    rcases g.nf a o q with e | ⟨e, _⟩
    · rw [n] at e; cases e
    · exact absurd e h
theorem sub_upd {p : Addr} {o : HO} (n : H p = none) : Sub H (upd H p o) := fun b u e => by rw [upd_ne (ne_of_none e n)]; exact e
/-- a new object, for good -/
theorem Grow.new (s : Sub F H) {p : Addr} {o : HO} (n : H p = none) : Grow F H (upd F p o) (upd H p o) := by
  have nF : F p = none := by
    cases q : F p with
    | none => rfl
    | some u => rw [s _ _ q] at n; cases n
  refine ⟨sub_upd n, sub_upd nF, fun a u e => ?_⟩
  by_cases h : a = p
  · subst h; rw [upd_same] at e; exact .inr ⟨n, by rw [upd_same]; exact e⟩
  · rw [upd_ne h] at e; exact .inl e
/-- a new object, held by nobody yet -/
theorem Grow.loose {p : Addr} {o : HO} (n : H p = none) : Grow F H F (upd H p o) := ⟨sub_upd n, fun _ _ e => e, fun _ _ e => .inl e⟩
theorem Grow.trans {F1 H1 F2 H2 : Hp} (a : Grow F H F1 H1) (b : Grow F1 H1 F2 H2) : Grow F H F2 H2 := by
  refine ⟨fun x o e => b.hh _ _ (a.hh _ _ e), fun x o e => b.ff _ _ (a.ff _ _ e), fun x o e => ?_⟩
  rcases b.nf x o e with h | ⟨h1, h2⟩
  · rcases a.nf x o h with h | ⟨h1, h2⟩
    · exact .inl h
    · exact .inr ⟨h1, b.hh _ _ h2⟩
  · refine .inr ⟨?_, h2⟩
    cases q : H x with
    | none => rfl
    | some u => rw [a.hh _ _ q] at h1; cases h1
theorem HR.grow (r : HR K F B m H S) (g : Grow F H F' H') : HR K F' B m H' S where
  fF := fun a o e => by
    rcases g.nf a o e with h | ⟨_, h⟩
    · exact g.hh _ _ (r.fF _ _ h)
    · exact h
  fB := fun a o e => g.hh _ _ (r.fB _ _ e)
  nF := fun a h => by
    obtain ⟨o, e⟩ := Option.ne_none_iff_exists'.mp h
    exact g.fresh (by rw [r.fB _ _ e]; simp) (r.nF a h)
  nB := r.nB
  mH := fun a h => by
    obtain ⟨o, e⟩ := Option.ne_none_iff_exists'.mp (r.mH a h)
    rw [g.hh _ _ e]
    simp
  len := r.len
  nd := r.nd
  st := fun p xs e => by
    obtain ⟨a, vs, h1, h2, h3, h4⟩ := r.st p xs e
    exact ⟨a, vs, h1, g.fresh (by rw [h3]; simp) h2, g.hh _ _ h3, h4.mono ⟨g.ff, List.prefix_refl _⟩⟩
theorem SR.grow (r : SR K F B m σ H μ S) (g : Grow F H F' H') : SR K F' B m σ H' μ S where
  hr := r.hr.grow g
  len := r.len
  val := fun i x e => by
    obtain ⟨v, h1, h2⟩ := r.val i x e
    exact ⟨v, h1, h2.mono ⟨g.ff, List.prefix_refl _⟩⟩
  own := fun i xs e => by
    obtain ⟨a, vs, h1, h2, h3, h4, h5, h6⟩ := r.own i xs e
    exact ⟨a, vs, h1, g.hh _ _ h2, h3.mono g.ff, g.fresh (by rw [h2]; simp) h4, h5, h6⟩
  ownd := r.ownd
end
/-- what an expression has yielded -/
def PR (K : W.Frag) (F B : Hp) (m : List Addr) (σ : L2.St) (H : Hp) (μ : Sl) : PV → V → Prop
  | .val x, v => VR K F m σ x v
  | .new xs, v => ∃ a vs, v = .ref a ∧ H a = some (.lst vs) ∧ DRs K F vs xs ∧ F a = none ∧ B a = none ∧ a ∉ m ∧ ∀ (i : Nat) (ys : List PyData), μ[i]? = some (some (.own ys)) → σ[i]? ≠ some (some (.ref a))
/-- what an operation has yielded -/
def NR (K : W.Frag) (H F' H' : Hp) : PV → V → Prop
  | .val (.d z), v => DR K F' v z
  | .val _, _ => False
  | .new xs, v => ∃ a vs, v = .ref a ∧ H a = none ∧ F' a = none ∧ H' a = some (.lst vs) ∧ DRs K F' vs xs
section
variable {K : W.Frag} {F F' B H H' : Hp} {m m' : List Addr} {σ σ' : L2.St} {μ : Sl} {S : Store}
theorem NR.pr (r : SR K F B m σ H μ S) (g : Grow F H F' H') {pv : PV} {v : V} (n : NR K H F' H' pv v) : PR K F' B m σ H' μ pv v := by
  cases pv with
  | val x =>
    cases x with
    | d z => exact n
    | ref p => exact n.elim
    | own i => exact n.elim
  | new xs =>
    obtain ⟨a, vs, rfl, h1, h2, h3, h4⟩ := n
    refine ⟨a, vs, rfl, h3, h4, h2, ?_, fun h => ?_, fun i ys e q => ?_⟩
    · cases q : B a with
      | none => rfl
      | some o => rw [r.hr.fB _ _ q] at h1; cases h1
    · exact r.hr.mH a h h1
    · obtain ⟨b, ws, k1, k2, _⟩ := r.own i ys e
      rw [k1] at q
      cases q
      rw [k2] at h1
      cases h1
/-- a new list becomes data -/
theorem PR.seal (r : SR K F B m σ H μ S) {pv : PV} {v : V} (p : PR K F B m σ H μ pv v) : ∃ F', SR K F' B m σ H μ S ∧ Sub F F' ∧ VR K F' m σ pv.seal v := by
  cases pv with
  | val x => exact ⟨F, r, fun _ _ e => e, p⟩
  | new xs =>
    obtain ⟨a, vs, rfl, h1, h2, h3, h4, h5, h6⟩ := p
    have sF : Sub F (upd F a (.lst vs)) := sub_upd h3
    refine ⟨upd F a (.lst vs), ⟨⟨fun b o e => ?_, r.hr.fB, fun b h => ?_, r.hr.nB, r.hr.mH, r.hr.len, r.hr.nd, fun p xs e => ?_⟩, r.len, fun i x e => ?_, fun i ys e => ?_, r.ownd⟩, sF, .lst (.of upd_same) (h2.mono sF)⟩
    · by_cases q : b = a
      · subst q; rw [upd_same] at e; cases e; exact h1
      · rw [upd_ne q] at e; exact r.hr.fF _ _ e
    · rw [upd_ne (fun e => by rw [e] at h; exact h h4)]
      exact r.hr.nF b h
    · obtain ⟨b, ws, k1, k2, k3, k4⟩ := r.hr.st p xs e
      refine ⟨b, ws, k1, ?_, k3, k4.mono ⟨sF, List.prefix_refl _⟩⟩
      rw [upd_ne (fun q => by rw [← q] at h5; exact h5 (List.mem_of_getElem? k1))]
      exact k2
    · obtain ⟨v, k1, k2⟩ := r.val i x e
      exact ⟨v, k1, k2.mono ⟨sF, List.prefix_refl _⟩⟩
    · obtain ⟨b, ws, k1, k2, k3, k4, k5, k6⟩ := r.own i ys e
      refine ⟨b, ws, k1, k2, k3.mono sF, ?_, k5, k6⟩
      rw [upd_ne (fun q => by rw [q] at k1; exact h6 i ys e k1)]
      exact k4
/-- a value's data, as it is now -/
inductive LR (K : W.Frag) (F H : Hp) : V → PyData → Prop
  | dr {v : V} {x : PyData} : DR K F v x → LR K F H v x
  | lst {a : Addr} {vs : List V} {xs : List PyData} : H a = some (.lst vs) → DRs K F vs xs → LR K F H (.ref a) (.list xs)
theorem LR.sq {a : V} {xs : List PyData} (f : Sub F H) (h : LR K F H a (.list xs)) : ∃ p vs, a = .ref p ∧ SqL K H p vs ∧ DRs K F vs xs := by
  cases h with
  | dr h =>
    cases h with
    | lst h1 h2 => exact ⟨_, _, rfl, f.sqL h1.sqL, h2⟩
  | lst h1 h2 => exact ⟨_, _, rfl, .of h1, h2⟩
theorem LR.tp {a : V} {xs : List PyData} (f : Sub F H) (h : LR K F H a (.tuple xs)) : ∃ p vs, a = .ref p ∧ SqT K H p vs ∧ DRs K F vs xs ∧ TupK K F p vs := by
  cases h with
  | dr h =>
    cases h with
    | tup h1 h2 => exact ⟨_, _, rfl, f.sqT h1.sqT, h2, h1⟩
theorem LR.gr {a : V} {x : PyData} (g : Grow F H F' H') (h : LR K F H a x) : LR K F' H' a x := by
  cases h with
  | dr h => exact .dr (h.mono g.ff)
  | lst h1 h2 => exact .lst (g.hh _ _ h1) (h2.mono g.ff)
theorem VR.lr (r : SR K F B m σ H μ S) {x : MV} {v : V} (h : VR K F m σ x v) {y : PyData} (e : datV μ S x = some y) : LR K F H v y := by
  cases x with
  | d z => cases e; exact .dr h
  | ref p =>
    obtain ⟨a, h1, rfl⟩ := h
    simp only [datV, lstV] at e
    cases q : S[p]? with
    | none => rw [q] at e; cases e
    | some o =>
      rw [q] at e
      cases o with
      | dead => cases e
      | lst xs =>
        obtain ⟨ds, e1, rfl⟩ := Option.map_eq_some_iff.mp e
        obtain ⟨b, vs, k1, k2, k3, k4⟩ := r.hr.st p xs q
        rw [h1] at k1
        cases k1
        exact .lst k3 ((k4.vrs (σ := σ)).dats e1)
  | own i =>
    simp only [datV, lstV] at e
    cases q : μ[i]? with
    | none => rw [q] at e; cases e
    | some o =>
      rw [q] at e
      cases o with
      | none => cases e
      | some sv =>
        cases sv with
        | v _ => cases e
        | own xs =>
          cases e
          obtain ⟨a, vs, k1, k2, k3, _⟩ := r.own i xs q
          have k : σ[i]? = some (some v) := h
          rw [k1] at k
          cases k
          exact .lst k2 k3
end

/-! ### what the model's heap reads -/
section
variable {X : Cx} {pins : List (Addr × Obj)} {σ : L2.St} {H F : Hp} {s : Shared}
mutual
theorem DR.reads (I : Inv X pins σ H s) (f : Sub F H) : ∀ (d : PyData) (v : V) (u : Value), DR X.K F v d → RelV v u → ∃ as, Reads s.heap u d as
  | .none, _, _, h, r => by cases h; cases r; exact ⟨_, Reads.none⟩
  | .bool b, _, _, h, r => by cases h; cases r; exact ⟨_, Reads.bool b⟩
  | .int i, _, _, h, r => by cases h; obtain ⟨t, rfl⟩ := r; exact ⟨_, Reads.int i t⟩
  | .str x, _, _, h, r => by cases h; obtain ⟨t, rfl⟩ := r; exact ⟨_, Reads.str x t⟩
  | .list ds, _, _, h, r => by
    cases h with
    | lst hs ha =>
      cases r
      obtain ⟨its, rv, ⟨o, n, ho, hc, _, hd⟩, _⟩ := I.list (f.sqL hs.sqL)
      obtain ⟨as, hr⟩ := DRs.reads I f ds _ its ha rv
      exact ⟨_, Reads.list ho hc hd hr⟩
  | .tuple ds, _, _, h, r => by
    cases h with
    | tup hs ha =>
      cases r
      obtain ⟨its, rv, ⟨o, ho, hc, n, hd⟩, _⟩ := I.tuple (f.sqT hs.sqT)
      obtain ⟨as, hr⟩ := DRs.reads I f ds _ its ha rv
      exact ⟨_, Reads.tuple ho hc hd hr⟩
  | .dict kvs, _, _, h, r => by
    cases h with
    | dct ha =>
      cases r
      obtain ⟨_, _, vs, rk, o, es, ep, ho, hx, hd, hk⟩ := I.hok _ _ (f _ _ ha)
      cases rk
      have e : es = #[] := by
        have q := hk.2.1.length
        simpa using q
      subst e
      exact ⟨_, Reads.dict (kvs := []) ho hx.1 hd .nil .nil⟩
theorem DRs.reads (I : Inv X pins σ H s) (f : Sub F H) : ∀ (ds : List PyData) (vs : List V) (us : List Value), DRs X.K F vs ds → Vals vs us → ∃ as, ReadsAll s.heap us ds as
  | [], _, _, h, r => by cases h; cases r; exact ⟨_, ReadsAll.nil⟩
  | d :: ds, _, _, h, r => by
    cases h with
    | cons h1 h2 =>
      cases r with
      | cons r1 r2 =>
        obtain ⟨as, k1⟩ := DR.reads I f d _ _ h1 r1
        obtain ⟨bs, k2⟩ := DRs.reads I f ds _ _ h2 r2
        exact ⟨_, ReadsAll.cons k1 k2⟩
end
theorem LR.reads (I : Inv X pins σ H s) (f : Sub F H) {d : PyData} {v : V} {u : Value} (h : LR X.K F H v d) (r : RelV v u) : ∃ as, Reads s.heap u d as := by
  cases h with
  | dr h => exact DR.reads I f _ _ _ h r
  | lst h1 h2 =>
    cases r
    obtain ⟨its, rv, ⟨o, n, ho, hc, _, hd⟩, _⟩ := I.list (.of h1)
    obtain ⟨as, hr⟩ := DRs.reads I f _ _ its h2 rv
    exact ⟨_, Reads.list ho hc hd hr⟩
end
end Mi

set_option maxHeartbeats 4000000
/-! Operators by values. -/
namespace Mi
open PySem PySem.Spec PyProof.Rows L2
section
variable {X : Cx} {pins : List (Addr × Obj)} {σ : L2.St} {H F : Hp} {s : Shared} {Q : VK}

/-- the end of an operation that yields data without a new object -/
theorem fin_flat {z : PyData} {v : V} {u : Value} {tk : Nat} (I : Inv X pins σ H s) (r : RelV v u) (d : DR X.K F v z) (q : ∀ F' H' v, Grow F H F' H' → NR X.K H F' H' (.val (.d z)) v → Q v H') :
    EP X pins σ Q u { s with toks := tk } := ⟨v, H, I.tok tk, r, q F H v .refl d⟩
theorem fin_flat' {z : PyData} {v : V} {u : Value} (I : Inv X pins σ H s) (r : RelV v u) (d : DR X.K F v z) (q : ∀ F' H' v, Grow F H F' H' → NR X.K H F' H' (.val (.d z)) v → Q v H') :
    EP X pins σ Q u s := ⟨v, H, I, r, q F H v .refl d⟩
/-- .. a new tuple -/
abbrev tupObj (its : List Value) : Obj := { cls := .type "tuple", data := .seq its.toArray }
theorem lay_tup {its : List Value} {vs : List V} {t : Nat} (I : Inv X pins σ H s) (r : Vals vs its) (hz : vs.length ≤ sizeLine) :
    Inv X pins σ (upd H s.heap.objs.size (.frz (tupObj its) (.tup vs))) { s with heap := s.heap.push (tupObj its), toks := t } :=
  I.laid (fun _ _ q => Heap.get?_push_of_some _ q) (Nat.le_refl _) ⟨Heap.get?_push_size _ rfl, hz, its, r, ⟨_, Heap.get?_push_size _ rfl, rfl, _, rfl⟩⟩
theorem fin_tup {zs : List PyData} {vs : List V} {its : List Value} {t : Nat} (I : Inv X pins σ H s) (f : Sub F H) (r : Vals vs its) (hz : vs.length ≤ sizeLine) (d : DRs X.K F vs zs)
    (q : ∀ F' H' v, Grow F H F' H' → NR X.K H F' H' (.val (.d (.tuple zs))) v → Q v H') :
    EP X pins σ Q (.ref s.heap.objs.size) { s with heap := s.heap.push (tupObj its), toks := t } := by
  have n : H s.heap.objs.size = none := I.hok.fresh (Nat.le_refl _)
  have g := Grow.new f (p := s.heap.objs.size) (o := .frz (tupObj its) (.tup vs)) n
  exact ⟨.ref _, _, lay_tup I r hz, rfl, q _ _ _ g (.tup (.inl ⟨_, upd_same, rfl⟩) (d.mono g.ff))⟩
theorem tup_cat {a b : Addr} {xs ys : List V} {zs : List PyData} (I : Inv X pins σ H s) (f : Sub F H) (ha : SqT X.K H a xs) (hb : SqT X.K H b ys) (h1 : xs ≠ []) (h2 : ys ≠ []) (hz : xs.length + ys.length ≤ sizeLine) (d : DRs X.K F (xs ++ ys) zs)
    (q : ∀ F' H' v, Grow F H F' H' → NR X.K H F' H' (.val (.d (.tuple zs))) v → Q v H') : wpAny (model X.prog X.w) X.A (binaryOp .Add (.ref a) (.ref b)) (EP X pins σ Q) X.xe s := by
  obtain ⟨us, ru, pu, _⟩ := I.tuple ha
  obtain ⟨ws, rw', pw, _⟩ := I.tuple hb
  obtain ⟨⟨c1, d1, t1, l1⟩, g1, e1, n1, k1⟩ := id pu
  obtain ⟨⟨c2, d2, t2, l2⟩, g2, e2, n2, k2⟩ := id pw
  simp only at e1 k1 e2 k2
  subst e1 k1 e2 k2
  have hl := ru.length
  have hl2 := rw'.length
  have n0 : ∀ {xs : List V} {us : List Value}, xs.length = us.length → xs ≠ [] → ¬ us.toArray.isEmpty = true := fun {xs us} h n e => by
    have e2 : us = [] := by simpa using e
    subst e2
    exact n (List.eq_nil_of_length_eq_zero h)
  refine concat_meets ⟨_, g1, rfl⟩ ⟨_, g2, rfl⟩ noFill_tuple_add seq_tuple_add PySem.F.slot_tuple_add PySem.F.entry_tuple_add (PySem.F.args_tuple_add_2 _ _)
    (tuple_addW2 a b us.toArray ws.toArray n1 n2 d1 d2 l1 l2 (n0 hl h1) (n0 hl2 h2) (by simp only [List.size_toArray]; omega)) ⟨g1, g2, ?_⟩
  rw [show us.toArray ++ ws.toArray = (us ++ ws).toArray by simp]
  exact fin_tup I f (ru.append rw') (by rw [List.length_append]; exact hz) d q
theorem tup_rep {a : Addr} {xs : List V} {zs : List PyData} {k : Int} {t : Tok} (I : Inv X pins σ H s) (f : Sub F H) (ha : SqT X.K H a xs) (h0 : xs ≠ []) (h1 : 2 ≤ k) (h2 : k ≤ 1000) (h3 : xs.length ≤ 1000) (d : DRs X.K F (List.replicate k.toNat xs).flatten zs)
    (q : ∀ F' H' v, Grow F H F' H' → NR X.K H F' H' (.val (.d (.tuple zs))) v → Q v H') : wpAny (model X.prog X.w) X.A (binaryOp .Mult (.ref a) (.int k t)) (EP X pins σ Q) X.xe s := by
  obtain ⟨us, ru, pu, _⟩ := I.tuple ha
  obtain ⟨⟨c1, d1, t1, l1⟩, g1, e1, n1, k1⟩ := id pu
  simp only at e1 k1
  subst e1 k1
  have hl := ru.length
  have ne : us.toArray.isEmpty = false := by
    cases us with
    | nil => exact absurd (List.eq_nil_of_length_eq_zero hl) h0
    | cons _ _ => rfl
  have sz : us.toArray.size = xs.length := by rw [List.size_toArray, hl]
  have pr : ((us.toArray.size : Nat) : Int) * k ≤ 1000000 := by
    rw [sz]
    have u : ((xs.length : Nat) : Int) * k ≤ 1000 * k := Int.mul_le_mul_of_nonneg_right (by omega) (by omega)
    omega
  have fl : (List.replicate k.toNat us).flatten.length ≤ sizeLine := by
    rw [lm_len_rep_flat, ← hl, sizeLine_eq]
    have := Nat.mul_le_mul (show k.toNat ≤ 1000 by omega) h3
    omega
  have c0 : (decide (k < -(2 ^ 63)) || decide (k ≥ 2 ^ 63)) = false := by rw [decide_eq_false (by omega), decide_eq_false (by omega)] <;> rfl
  have c1 : (us.toArray.isEmpty || k == 1) = false := by rw [ne, Bool.false_or]; exact beq_eq_false_iff_ne.mpr (by omega)
  have c2 : (decide (k ≤ 0) || us.toArray.isEmpty) = false := by rw [ne, Bool.or_false]; exact decide_eq_false (by omega)
  have c4 : Builtin.Tuple.tupleTooMany (((us.toArray.size : Nat) : Int) * k) = false := by
    unfold Builtin.Tuple.tupleTooMany
    exact decide_eq_false (by rw [sizeLine_eq]; omega)
  refine wpAny_binaryOp_repeat_ref (T := "tuple") (U := "int") (by decide) ⟨_, g1, rfl⟩ (fun s' => typeIs_int s' k t) L2.noFill_tuple_mul PySem.F.fills_int_mul PySem.F.slot_int_rmul L2.repeat_tuple PySem.F.slot_int_index.lookup
    (call_meets PySem.F.slot_int_rmul (typeIs_int s k t) PySem.F.entry_int_rmul (PySem.F.args_int_rmul_2 _ _) (L2.int_rmul_tuple k t a us.toArray n1 d1 l1)
      ⟨g1, rfl, ⟨_, g1, rfl⟩, call_meets PySem.F.slot_tuple_mul ⟨_, g1, rfl⟩ PySem.F.entry_tuple_mul (PySem.F.args_tuple_mul_2 _ _)
        (L2.tuple_mulW a us.toArray n1 d1 l1 k t c0 c1 c2 (by omega) c4 (by rw [L2.size_rep, List.size_toArray]; exact fl)) ⟨g1, ?_⟩⟩)
  rw [L2.size_rep]
  exact fin_tup I f (ru.rep k.toNat) (by rw [(ru.rep k.toNat).length]; exact fl) d q
/-- .. a new list -/
theorem fin_new {zs : List PyData} {vs : List V} {p : Addr} (f : Sub F H) (n : H p = none) (d : DRs X.K F vs zs) (q : ∀ F' H' v, Grow F H F' H' → NR X.K H F' H' (.new zs) v → Q v H') :
    Q (.ref p) (upd H p (.lst vs)) := by
  have g : Grow F H F (upd H p (.lst vs)) := .loose n
  refine q _ _ _ g ⟨p, vs, rfl, n, ?_, upd_same, d⟩
  cases e : F p with
  | none => rfl
  | some o => rw [f _ _ e] at n; cases n
theorem DR.int_inv {K : W.Frag} {v : V} {i : Int} (h : DR K F v (.int i)) : v = .int i := by cases h; rfl
theorem LR.int_inv {K : W.Frag} {v : V} {i : Int} (h : LR K F H v (.int i)) : v = .int i := by
  cases h with
  | dr h => exact h.int_inv
theorem LR.str_inv {K : W.Frag} {v : V} {i : Str} (h : LR K F H v (.str i)) : v = .str i := by
  cases h with
  | dr h => cases h; rfl
theorem LR.bool_inv {K : W.Frag} {v : V} {i : Bool} (h : LR K F H v (.bool i)) : v = .bl i := by
  cases h with
  | dr h => cases h; rfl
theorem LR.none_inv {K : W.Frag} {v : V} (h : LR K F H v .none) : v = .non := by
  cases h with
  | dr h => cases h; rfl

/-! ### list + list, list * int, of any list that is read -/
theorem add_any {a b : Addr} {xs ys : List V} (I : Inv X pins σ H s) (ha : SqL X.K H a xs) (hb : SqL X.K H b ys) (hz : xs.length + ys.length ≤ sizeLine) (q : ∀ p, H p = none → Q (.ref p) (upd H p (.lst (xs ++ ys)))) :
    wpAny (model X.prog X.w) X.A (binaryOp .Add (.ref a) (.ref b)) (EP X pins σ Q) X.xe s := by
  obtain ⟨us, ru, pu, _⟩ := I.list ha
  obtain ⟨ws, rw', pw, _⟩ := I.list hb
  obtain ⟨⟨c1, d1, t1, l1⟩, g1, e1, n1, k1⟩ := id pu.isList
  obtain ⟨⟨c2, d2, t2, l2⟩, g2, e2, n2, k2⟩ := id pw.isList
  simp only at e1 k1 e2 k2
  subst e1 k1 e2 k2
  have hl := ru.length
  have hl2 := rw'.length
  refine concat_meets ⟨_, g1, rfl⟩ ⟨_, g2, rfl⟩ noFill_list_add seq_list_add PySem.F.slot_list_add PySem.F.entry_list_add (PySem.F.args_list_add_2 _ _)
    (list_addW a b us.toArray ws.toArray n1 n2 d1 d2 l1 l2 (by simp only [List.size_toArray]; omega)) ⟨g1, g2, ?_⟩
  rw [show us.toArray ++ ws.toArray = (us ++ ws).toArray by simp]
  exact ⟨.ref _, _, I.lnew (t' := s.toks) (ru.append rw') (by rw [List.length_append]; exact hz), rfl, q _ I.fresh⟩
theorem rep_any {a : Addr} {xs : List V} {k : Int} {t : Tok} (I : Inv X pins σ H s) (ha : SqL X.K H a xs) (h1 : -(2 ^ 63) ≤ k) (h2 : k < 2 ^ 63) (hz : xs.length * k.toNat ≤ sizeLine)
    (q : ∀ p, H p = none → Q (.ref p) (upd H p (.lst (List.replicate k.toNat xs).flatten))) :
    wpAny (model X.prog X.w) X.A (binaryOp .Mult (.ref a) (.int k t)) (EP X pins σ Q) X.xe s := by
  obtain ⟨us, ru, pu, _⟩ := I.list ha
  obtain ⟨⟨c1, d1, t1, l1⟩, g1, e1, n1, k1⟩ := id pu.isList
  simp only at e1 k1
  subst e1 k1
  have hl := ru.length
  have hs : us.toArray.size * k.toNat ≤ 2 ^ 24 := by
    rw [List.size_toArray, ← hl]
    rw [sizeLine_eq] at hz
    exact hz
  refine wpAny_binaryOp_repeat_ref (T := "list") (U := "int") (by decide) ⟨_, g1, rfl⟩ (fun s' => typeIs_int s' k t) noFill_list_mul F.fills_int_mul F.slot_int_rmul repeat_list F.slot_int_index.lookup
    (call_meets F.slot_int_rmul (typeIs_int s k t) F.entry_int_rmul (F.args_int_rmul_2 _ _) (lm_int_rmul_list_any k t a us.toArray n1 d1 l1)
      ⟨g1, rfl, ⟨_, g1, rfl⟩, call_meets F.slot_list_mul ⟨_, g1, rfl⟩ F.entry_list_mul (F.args_list_mul_2 _ _)
        (lm_list_mul_any a us.toArray n1 d1 l1 k t (by simp [Builtin.List.listFitsIndex]; omega) (by omega) (by simp [Builtin.List.listTooLong, sizeLine]; omega)) ⟨g1, ?_⟩⟩)
  rw [listMul_foldl_if]
  exact ⟨.ref _, _, I.lnew (t' := s.toks) (ru.rep k.toNat) (by rw [lm_len_rep_flat, Nat.mul_comm]; exact hz), rfl, q _ I.fresh⟩

def boM : BOp → Operator
  | .add => .Add
  | .sub => .Sub
  | .mul => .Mult
  | .fdiv => .FloorDiv
  | .mod => .Mod
  | .pow => .Pow
def rBop (K : W.Frag) (op : BOp) : R2 := fun x y H Q => ∃ F dx dy pv, Sub F H ∧ LR K F H x dx ∧ LR K F H y dy ∧ bopD op dx dy = some pv ∧ ∀ F' H' v, Grow F H F' H' → NR K H F' H' pv v → Q v H'
theorem bop_ok (op : BOp) : OpR X (binaryOp (boM op)) (rBop X.K op) := by
  intro pins s σ H x y v u Q I rx ry h
  obtain ⟨F, dx, dy, pv, f, hx, hy, e, q⟩ := h
  have qi : ∀ k : Int, pv = .val (.d (.int k)) → Q (.int k) H := fun k e => by subst e; exact q F H _ .refl (.int k)
  unfold bopD at e
  split at e
  · -- int + int
    cases e
    rw [hx.int_inv] at rx
    rw [hy.int_inv] at ry
    exact op_add pins s σ H _ _ v u Q I rx ry ⟨_, _, rfl, rfl, qi _ rfl⟩
  · -- str + str
    split at e
    · cases e
      rename_i hz
      rw [hx.str_inv] at rx
      rw [hy.str_inv] at ry
      exact op_add_str pins s σ H _ _ v u Q I rx ry ⟨_, _, rfl, rfl, by rw [← size0_eq]; exact hz, q F H _ .refl (.str _)⟩
    · cases e
  · -- tuple + tuple
    split at e
    · cases e
      rename_i hz
      obtain ⟨a, vs, rfl, k1, k2, k2'⟩ := hx.tp f
      obtain ⟨b, ws, rfl, k3, k4, k4'⟩ := hy.tp f
      have l1 := k2.length
      have l2 := k4.length
      have hz' : vs.length + ws.length ≤ sizeLine := by rw [← size0_eq, l1, l2]; exact hz
      by_cases e1 : vs = []
      · subst e1
        cases k2
        exact op_catA pins s σ H _ _ v u Q I rx ry ⟨a, b, [], ws, rfl, rfl, k1, k3, hz', fun _ => q F H _ .refl (.tup k4' k4), fun n => absurd rfl n, fun n => absurd rfl n⟩
      · by_cases e2 : ws = []
        · subst e2
          cases k4
          rw [List.append_nil] at q
          exact op_catA pins s σ H _ _ v u Q I rx ry ⟨a, b, vs, [], rfl, rfl, k1, k3, hz', fun n => absurd n e1, fun _ _ => q F H _ .refl (.tup k2' k2), fun _ n => absurd rfl n⟩
        · cases rx
          cases ry
          exact tup_cat I f k1 k3 e1 e2 hz' (k2.append k4) q
    · cases e
  · -- list + list
    split at e
    · cases e
      rename_i hz
      obtain ⟨a, vs, rfl, k1, k2⟩ := hx.sq f
      obtain ⟨b, ws, rfl, k3, k4⟩ := hy.sq f
      have l1 := k2.length
      have l2 := k4.length
      cases rx
      cases ry
      exact add_any I k1 k3 (by rw [← size0_eq, l1, l2]; exact hz) fun p n => fin_new f n (k2.append k4) q
    · cases e
  · -- int - int
    cases e
    rw [hx.int_inv] at rx
    rw [hy.int_inv] at ry
    exact op_sub pins s σ H _ _ v u Q I rx ry ⟨_, _, rfl, rfl, qi _ rfl⟩
  · -- int * int
    split at e
    · cases e
      rename_i hz
      rw [hx.int_inv] at rx
      rw [hy.int_inv] at ry
      exact op_mulW pins s σ H _ _ v u Q I rx ry ⟨_, _, rfl, rfl, (by unfold CMulW; exact of_decide_eq_true hz), qi _ rfl⟩
    · cases e
  · -- tuple * int
    split at e
    · cases e
      rename_i hz
      obtain ⟨z1, z2, z3, z4⟩ := hz
      obtain ⟨a, vs, rfl, k1, k2, _⟩ := hx.tp f
      have l1 := k2.length
      rw [hy.int_inv] at ry
      cases rx
      obtain ⟨t, rfl⟩ := ry
      refine tup_rep I f k1 (fun e => ?_) z2 z3 (by rw [l1]; exact z4) (k2.rep _) q
      subst e
      cases k2
      cases z1
    · cases e
  · -- list * int
    split at e
    · cases e
      rename_i hz
      obtain ⟨z1, z2, z3⟩ := hz
      obtain ⟨a, vs, rfl, k1, k2⟩ := hx.sq f
      have l1 := k2.length
      rw [hy.int_inv] at ry
      cases rx
      obtain ⟨t, rfl⟩ := ry
      exact rep_any I k1 z1 z2 (by rw [← size0_eq, l1]; exact z3) fun p n => fin_new f n (k2.rep _) q
    · cases e
  · split at e
    · cases e
      rename_i hz
      rw [hx.int_inv] at rx
      rw [hy.int_inv] at ry
      exact op_fdivW pins s σ H _ _ v u Q I rx ry ⟨_, _, rfl, rfl, hz, qi _ rfl⟩
    · cases e
  · split at e
    · cases e
      rename_i hz
      rw [hx.int_inv] at rx
      rw [hy.int_inv] at ry
      exact op_mod pins s σ H _ _ v u Q I rx ry ⟨_, _, rfl, rfl, hz, qi _ rfl⟩
    · cases e
  · split at e
    · cases e
      rename_i hz
      rw [hx.int_inv] at rx
      rw [hy.int_inv] at ry
      exact op_pow pins s σ H _ _ v u Q I rx ry ⟨_, _, rfl, rfl, hz, qi _ rfl⟩
    · cases e
  · cases e
/-! ### comparisons -/
def coM : COp → CmpOp
  | .eq => .Eq
  | .ne => .NotEq
  | .lt => .Lt
  | .le => .LtE
  | .gt => .Gt
  | .ge => .GtE
  | .is => .Is
  | .isnot => .IsNot
  | .mem => .In
  | .nmem => .NotIn
def rCmp (K : W.Frag) (op : COp) : R2 := fun x y H Q => ∃ F dx dy b, Sub F H ∧ LR K F H x dx ∧ LR K F H y dy ∧ cmpD op dx dy = some b ∧ Q (.bl b) H
theorem epb {b : Bool} (I : Inv X pins σ H s) (q : Q (.bl b) H) : EP X pins σ Q (.bool b) s := ⟨.bl b, H, I, rfl, q⟩
theorem ord_ok (hu : X.A.units + 200 < cLine) {x y : V} {v u : Value} {dx dy : PyData} {b : Bool} (I : Inv X pins σ H s) (f : Sub F H) (hx : LR X.K F H x dx) (hy : LR X.K F H y dy) (rx : RelV x v) (ry : RelV y u)
    (e : ordD dx dy = some b) : ∃ as bs, Reads s.heap v dx as ∧ Reads s.heap u dy bs ∧ W.alike dx dy = true ∧ dx ≠ .none ∧ X.A.units + min dx.depth dy.depth < cLine ∧ b = W.dataLt dx dy := by
  unfold ordD at e
  split at e
  · rename_i h
    rw [Bool.and_eq_true, Bool.and_eq_true] at h
    obtain ⟨⟨h1, h2⟩, h3⟩ := h
    obtain ⟨as, ra⟩ := hx.reads I f rx
    obtain ⟨bs, rb⟩ := hy.reads I f ry
    have h2' : min dx.depth dy.depth ≤ 64 := of_decide_eq_true h2
    exact ⟨as, bs, ra, rb, h1, fun e => (by subst e; cases h3), by omega, (Option.some.inj e).symm⟩
  · cases e
theorem alike_symm : ∀ (n : Nat) (x y : PyData), sizeOf x ≤ n → W.alike x y = true → W.alike y x = true := by
  intro n
  induction n with
  | zero => intro x y h; cases x <;> simp at h
  | succ n ih =>
    have all : ∀ xs ys : List PyData, sizeOf xs ≤ n → W.alikeAll xs ys = true → W.alikeAll ys xs = true := by
      intro xs
      induction xs with
      | nil => intro ys _ _; cases ys <;> simp [W.alikeAll]
      | cons x xs ihl =>
        intro ys h e
        cases ys with
        | nil => simp [W.alikeAll]
        | cons y ys =>
          simp only [List.cons.sizeOf_spec] at h
          simp only [W.alikeAll, Bool.and_eq_true] at e ⊢
          exact ⟨ih x y (by omega) e.1, ihl ys (by omega) e.2⟩
    intro x y h e
    cases x <;> cases y <;> simp only [W.alike] at e ⊢ <;> first | rfl | (cases e; done) | skip
    all_goals
      (refine all _ _ ?_ e
       first
        | (simp only [PyData.list.sizeOf_spec] at h; omega)
        | (simp only [PyData.tuple.sizeOf_spec] at h; omega))

theorem depth_list (xs : List PyData) : (PyData.list xs).depth = PyData.depthAll xs + 1 := by simp only [PyData.depth]
theorem depth_tuple (xs : List PyData) : (PyData.tuple xs).depth = PyData.depthAll xs + 1 := by simp only [PyData.depth]
theorem mem_ok (hu : X.A.units + 200 < cLine) {x y : V} {v u : Value} {dx dy : PyData} {b : Bool} (I : Inv X pins σ H s) (f : Sub F H) (hx : LR X.K F H x dx) (hy : LR X.K F H y dy) (rx : RelV x v) (ry : RelV y u)
    (e : memD dx dy = some b) : (Q (.bl b) H → wpAny (model X.prog X.w) X.A (compareOp .In v u) (EP X pins σ Q) X.xe s) ∧ (Q (.bl (!b)) H → wpAny (model X.prog X.w) X.A (compareOp .NotIn v u) (EP X pins σ Q) X.xe s) := by
  unfold memD at e
  split at e
  · split at e
    · rename_i h
      obtain ⟨h1, h2, h3⟩ := h
      cases e
      obtain ⟨as, ra⟩ := hx.reads I f rx
      obtain ⟨bs, rb⟩ := hy.reads I f ry
      exact ⟨fun q => SeqAt.in_list_data rb ra h1 h2 (by omega) (epb I q), fun q => SeqAt.notIn_list_data rb ra h1 h2 (by omega) (epb I q)⟩
    · cases e
  · split at e
    · rename_i h
      obtain ⟨h1, h2, h3⟩ := h
      cases e
      obtain ⟨as, ra⟩ := hx.reads I f rx
      obtain ⟨bs, rb⟩ := hy.reads I f ry
      exact ⟨fun q => SeqAt.in_tuple_data rb ra h1 h2 (by omega) (epb I q), fun q => SeqAt.notIn_tuple_data rb ra h1 h2 (by omega) (epb I q)⟩
    · cases e
  · split at e
    · cases e
      rw [hx.str_inv] at rx
      rw [hy.str_inv] at ry
      exact ⟨fun q => op_in_str pins s σ H _ _ v u Q I rx ry ⟨_, _, rfl, rfl, q⟩, fun q => op_notIn_str pins s σ H _ _ v u Q I rx ry ⟨_, _, rfl, rfl, q⟩⟩
    · cases e
  · cases e
theorem is_ok {x y : V} {v u : Value} {dx dy : PyData} {b : Bool} (I : Inv X pins σ H s) (f : Sub F H) (hx : LR X.K F H x dx) (hy : LR X.K F H y dy) (rx : RelV x v) (ry : RelV y u)
    (e : isD dx dy = some b) : (Q (.bl b) H → wpAny (model X.prog X.w) X.A (compareOp .Is v u) (EP X pins σ Q) X.xe s) ∧ (Q (.bl (!b)) H → wpAny (model X.prog X.w) X.A (compareOp .IsNot v u) (EP X pins σ Q) X.xe s) := by
  unfold isD at e
  split at e
  · cases e
    have ey := hy.none_inv
    subst ey
    have ed : decide (x = .non) = isNoneD dx := by
      cases hx with
      | dr hx => cases hx <;> simp [isNoneD]
      | lst _ _ => simp [isNoneD]
    exact ⟨fun q => op_isN pins s σ H _ _ v u Q I rx ry ⟨rfl, by rw [ed]; exact q⟩, fun q => op_notN pins s σ H _ _ v u Q I rx ry ⟨rfl, by rw [ed]; exact q⟩⟩
  · cases e
    rw [hx.bool_inv] at rx
    rw [hy.bool_inv] at ry
    refine ⟨fun q => op_isBl pins s σ H _ _ v u Q I rx ry ⟨_, _, rfl, rfl, ?_⟩, fun q => op_notBl pins s σ H _ _ v u Q I rx ry ⟨_, _, rfl, rfl, ?_⟩⟩
    · rw [← Bool.beq_eq_decide_eq]; exact q
    · rw [← Bool.beq_eq_decide_eq]; exact q
  · cases e
theorem min_comm' (a b : Nat) : min a b = min b a := Nat.min_comm a b
theorem cmp_ok (hu : X.A.units + 200 < cLine) (op : COp) : OpR X (compareOp (coM op)) (rCmp X.K op) := by
  intro pins s σ H x y v u Q I rx ry h
  obtain ⟨F, dx, dy, b, f, hx, hy, e, q⟩ := h
  have ordL : ∀ b, ordD dx dy = some b → Q (.bl b) H → wpAny (model X.prog X.w) X.A (compareOp .Lt v u) (EP X pins σ Q) X.xe s := fun b e q => by
    obtain ⟨as, bs, ra, rb, h1, h2, h3, rfl⟩ := ord_ok hu I f hx hy rx ry e
    exact W.lt_data ra rb h1 h2 h3 (epb I q)
  have ordGe : ∀ b, ordD dx dy = some b → Q (.bl (!b)) H → wpAny (model X.prog X.w) X.A (compareOp .GtE v u) (EP X pins σ Q) X.xe s := fun b e q => by
    obtain ⟨as, bs, ra, rb, h1, h2, h3, rfl⟩ := ord_ok hu I f hx hy rx ry e
    exact W.ge_data ra rb h1 h2 h3 (epb I q)
  have nn : ∀ {a b : PyData}, W.alike a b = true → b ≠ .none → a ≠ .none := fun {a b} h n e => by
    subst e
    cases b <;> first | exact n rfl | simp [W.alike] at h
  have ordG : ∀ b, ordD dy dx = some b → Q (.bl b) H → wpAny (model X.prog X.w) X.A (compareOp .Gt v u) (EP X pins σ Q) X.xe s := fun b e q => by
    obtain ⟨as, bs, ra, rb, h1, h2, h3, rfl⟩ := ord_ok hu I f hy hx ry rx e
    have h1' := alike_symm _ _ _ (Nat.le_refl _) h1
    exact W.gt_data rb ra h1' (nn h1' h2) (by rw [min_comm']; exact h3) (epb I q)
  have ordLe : ∀ b, ordD dy dx = some b → Q (.bl (!b)) H → wpAny (model X.prog X.w) X.A (compareOp .LtE v u) (EP X pins σ Q) X.xe s := fun b e q => by
    obtain ⟨as, bs, ra, rb, h1, h2, h3, rfl⟩ := ord_ok hu I f hy hx ry rx e
    have h1' := alike_symm _ _ _ (Nat.le_refl _) h1
    exact W.le_data rb ra h1' (nn h1' h2) (by rw [min_comm']; exact h3) (epb I q)
  unfold cmpD at e
  split at e
  · split at e
    · rename_i h
      obtain ⟨h1, h2, h3⟩ := h
      cases e
      obtain ⟨as, ra⟩ := hx.reads I f rx
      obtain ⟨bs, rb⟩ := hy.reads I f ry
      have h3' : min dx.depth dy.depth ≤ 64 := of_decide_eq_true h3
      exact SeqAt.eq_plain ra rb h1 h2 (by omega) (epb I q)
    · cases e
  · split at e
    · rename_i h
      obtain ⟨h1, h2, h3⟩ := h
      cases e
      obtain ⟨as, ra⟩ := hx.reads I f rx
      obtain ⟨bs, rb⟩ := hy.reads I f ry
      have h3' : min dx.depth dy.depth ≤ 64 := of_decide_eq_true h3
      exact SeqAt.ne_plain ra rb h1 h2 (by omega) (epb I q)
    · cases e
  · cases e
    rw [hx.int_inv] at rx
    rw [hy.int_inv] at ry
    exact op_lt pins s σ H _ _ v u Q I rx ry ⟨_, _, rfl, rfl, q⟩
  · cases e
    rw [hx.int_inv] at rx
    rw [hy.int_inv] at ry
    exact op_le pins s σ H _ _ v u Q I rx ry ⟨_, _, rfl, rfl, q⟩
  · cases e
    rw [hx.int_inv] at rx
    rw [hy.int_inv] at ry
    exact op_gt pins s σ H _ _ v u Q I rx ry ⟨_, _, rfl, rfl, q⟩
  · cases e
    rw [hx.int_inv] at rx
    rw [hy.int_inv] at ry
    exact op_ge pins s σ H _ _ v u Q I rx ry ⟨_, _, rfl, rfl, q⟩
  · exact ordL b e q
  · exact ordG b e q
  · obtain ⟨c, e1, rfl⟩ := Option.map_eq_some_iff.mp e
    exact ordLe c e1 q
  · obtain ⟨c, e1, rfl⟩ := Option.map_eq_some_iff.mp e
    exact ordGe c e1 q
  · exact (is_ok I f hx hy rx ry e).1 q
  · obtain ⟨c, e1, rfl⟩ := Option.map_eq_some_iff.mp e
    exact (is_ok I f hx hy rx ry e1).2 q
  · exact (mem_ok hu I f hx hy rx ry e).1 q
  · obtain ⟨c, e1, rfl⟩ := Option.map_eq_some_iff.mp e
    exact (mem_ok hu I f hx hy rx ry e1).2 q
end
end Mi

set_option maxHeartbeats 4000000
/-! Subscripts, built-ins, methods by values. -/
namespace Mi
open PySem PySem.Spec PyProof.Rows L2
section
variable {X : Cx} {pins : List (Addr × Obj)} {σ : L2.St} {H F : Hp} {s : Shared} {Q : VK}

/-! ### o[i] -/
theorem atI_rel {α β : Type} {xs : List α} {ys : List β} {R : α → β → Prop} (hl : xs.length = ys.length) (g : ∀ {j : Nat} {y : β}, ys[j]? = some y → ∃ x, xs[j]? = some x ∧ R x y) {i : Int} {y : β} (e : atI ys i = some y) : ∃ x, atI xs i = some x ∧ R x y := by
  unfold atI at e ⊢
  rw [hl]
  cases q : ixN ys.length i with
  | none => rw [q] at e; cases e
  | some j =>
    rw [q] at e
    exact g e
def rIdx (K : W.Frag) : R2 := fun x y H Q => ∃ F dx i z, Sub F H ∧ LR K F H x dx ∧ y = .int i ∧ idxD dx i = some z ∧ ∀ v, DR K F v z → Q v H
theorem idx_ok : IxR X (rIdx X.K) := by
  intro value slice pins s σ H x y v u Q I rx ry h hs
  obtain ⟨F, dx, i, z, f, hx, rfl, e, q⟩ := h
  unfold idxD at e
  split at e
  · obtain ⟨a, vs, rfl, k1, k2⟩ := hx.sq f
    obtain ⟨w, k3, k4⟩ := atI_rel k2.length (fun e => k2.get (i := 0) e) e
    exact ix_list value slice pins s σ H _ _ v u Q I rx ry ⟨a, vs, i, w, rfl, rfl, k1, k3, q w k4⟩ hs
  · obtain ⟨a, vs, rfl, k1, k2, _⟩ := hx.tp f
    obtain ⟨w, k3, k4⟩ := atI_rel k2.length (fun e => k2.get (i := 0) e) e
    exact ix_tup value slice pins s σ H _ _ v u Q I rx ry ⟨a, vs, i, w, rfl, rfl, k1, k3, q w k4⟩ hs
  · split at e
    · rename_i hz
      obtain ⟨c, e1, rfl⟩ := Option.map_eq_some_iff.mp e
      rw [hx.str_inv] at rx
      exact ix_str value slice pins s σ H _ _ v u Q I rx ry ⟨_, i, c, rfl, rfl, by rw [← size0_eq]; exact hz, e1, q _ (.str _)⟩ hs
    · cases e
  · cases e
/-- .. of a list of the store -/
def rIdxM (K : W.Frag) : R2 := fun x y H Q => ∃ p vs i w, x = .ref p ∧ H p = some (.lst vs) ∧ y = .int i ∧ atI vs i = some w ∧ Q w H
theorem idxM_ok : IxR X (rIdxM X.K) := by
  intro value slice pins s σ H x y v u Q I rx ry h hs
  obtain ⟨p, vs, i, w, rfl, hp, rfl, e, q⟩ := h
  exact ix_list value slice pins s σ H _ _ v u Q I rx ry ⟨p, vs, i, w, rfl, rfl, .of hp, e, q⟩ hs

/-! ### o[i:j] -/
def rSli (K : W.Frag) : V → Option Int → Option Int → Hp → VK → Prop := fun x lo hi H Q => ∃ F dx pv, Sub F H ∧ LR K F H x dx ∧ sliceD dx lo hi = some pv ∧ ∀ F' H' v, Grow F H F' H' → NR K H F' H' pv v → Q v H'
theorem cut_eq (vs : List V) (lo hi : Option Int) : cutV vs lo hi = cutL vs lo hi := rfl
theorem DRs.cut {K : W.Frag} {vs : List V} {xs : List PyData} (h : DRs K F vs xs) (lo hi : Option Int) : DRs K F (cutL vs lo hi) (cutL xs lo hi) := by
  unfold cutL
  rw [h.length]
  exact (h.drop _).take _
theorem cutL_all {α : Type} {xs : List α} {lo hi : Option Int} (h : HT.sIx xs.length 0 lo = 0 ∧ HT.sIx xs.length xs.length hi = xs.length) : cutL xs lo hi = xs := by
  unfold cutL
  rw [h.1, h.2]
  simp
theorem sli_ok : SlR X (rSli X.K) := by
  intro pins s σ H x v vl vu lo hi sl Q I rx hs pl pu h
  obtain ⟨F, dx, pv, f, hx, e, q⟩ := h
  unfold sliceD at e
  split at e
  · cases e
    obtain ⟨a, vs, rfl, k1, k2⟩ := hx.sq f
    exact sl_list pins s σ H _ v vl vu lo hi sl Q I rx hs pl pu ⟨a, vs, rfl, k1, fun p n => fin_new f n (k2.cut lo hi) q⟩
  · cases e
    obtain ⟨a, vs, rfl, k1, k2, k3⟩ := hx.tp f
    have hl := k2.length
    by_cases hw : HT.sIx vs.length 0 lo = 0 ∧ HT.sIx vs.length vs.length hi = vs.length
    · refine sl_tupA pins s σ H _ v vl vu lo hi sl Q I rx hs pl pu ⟨a, vs, rfl, k1, fun _ => q F H _ .refl ?_, fun n => absurd hw n⟩
      rw [cutL_all (by rw [← hl]; exact hw)]
      exact .tup k3 k2
    · cases rx
      obtain ⟨its, r, ht, hz⟩ := I.tuple k1
      have hlen : its.toArray.size = vs.length := by rw [List.size_toArray]; exact r.length.symm
      refine ⟨"tuple", _, PyProof.Rows.slot_tuple_getitem.lookup, ht.typeIs, ?_⟩
      refine HT.getItem_tuple_cut ht hs pl pu (by rw [hlen]; exact hw) ?_ (by rw [hlen]; exact hz)
      rw [hlen]
      have r' : Vals (cutL vs lo hi) ((its.drop (HT.sIx vs.length 0 lo)).take (HT.sIx vs.length vs.length hi - HT.sIx vs.length 0 lo)) := (r.drop _).take _
      exact fin_tup I f r' (Nat.le_trans (cutV_length vs lo hi) hz) (k2.cut lo hi) q
  · split at e
    · cases e
      rename_i hz
      rw [hx.str_inv] at rx
      exact sl_str pins s σ H _ v vl vu lo hi sl Q I rx hs pl pu ⟨_, rfl, by rw [← size0_eq]; exact hz, q F H _ .refl (.str _)⟩
    · cases e
  · cases e

/-! ### o[::-1] -/
theorem places_back (n : Nat) : Builtin.Slice.slicePlaces ((n : Int) - 1) (-1) (-1) = n := by
  unfold Builtin.Slice.slicePlaces
  have h1 : ¬ ((-1 : Int) > 0) := by omega
  simp only [h1, if_false]
  split
  · simp only [Int.neg_neg, Int.ediv_one]; omega
  · omega
theorem adjust_back (n : Nat) : Builtin.Slice.sliceAdjust none none (-1) (n : Int) = ((n : Int) - 1, -1) := by
  unfold Builtin.Slice.sliceAdjust
  simp
theorem applied_back {A : Around} {E : Value → Shared → Prop} {prog : Program} {w : World} {sl : Addr} {vl vu vs : Value} {n : Nat} {Q : Int × Int × Nat → Shared → Prop} (hs : s.heap.IsSliceOf sl vl vu vs) (pl : IsPart vl none) (pu : IsPart vu none) (ps : IsPart vs (some (-1)))
    (h : Q ((n : Int) - 1, -1, n) s) : wpAny (model prog w) A (Builtin.Slice.sliceApplied (.ref sl) (pure (n : Int))) Q E s := by
  obtain ⟨os, hos, hcs, hds⟩ := id hs
  unfold Builtin.Slice.sliceApplied Builtin.Slice.sliceFields
  refine wpAny_bind (wpAny_bind (wpAny_field hos hds (x := vl) rfl (wpAny_bind (wpAny_field hos hds (x := vu) rfl (wpAny_bind (wpAny_field hos hds (x := vs) rfl (wpAny_pure ?_)))))))
  refine wpAny_bind (HT.slicePart_ ps ?_)
  show wpAny _ _ (if ((-1 : Int) == 0) = true then _ else _) _ _ s
  rw [if_neg (by decide)]
  refine wpAny_bind (HT.slicePart_ pl (wpAny_bind (HT.slicePart_ pu (wpAny_bind (wpAny_pure ?_)))))
  show wpAny _ _ (match Builtin.Slice.sliceAdjust none none (-1) (n : Int) with | (lo, hi) => pure (lo, (-1 : Int), Builtin.Slice.slicePlaces lo hi (-1))) _ _ s
  rw [adjust_back n]
  show wpAny _ _ (pure ((n : Int) - 1, (-1 : Int), Builtin.Slice.slicePlaces ((n : Int) - 1) (-1) (-1))) _ _ s
  rw [places_back]
  exact wpAny_pure h
theorem fm_congr {α β : Type} {f g : α → Option β} : ∀ {l : List α}, (∀ a ∈ l, f a = g a) → l.filterMap f = l.filterMap g
  | [], _ => rfl
  | a :: l, h => by
    rw [List.filterMap_cons, List.filterMap_cons, h a List.mem_cons_self, fm_congr fun b hb => h b (List.mem_cons_of_mem _ hb)]
theorem pick_back (xs : List Value) : ((List.range xs.length).filterMap fun (m : Nat) => xs.toArray[(((xs.length : Int) - 1) + (m : Int) * (-1)).toNat]?).toArray = xs.reverse.toArray := by
  congr 1
  have e : ∀ m ∈ List.range xs.length, xs.toArray[(((xs.length : Int) - 1) + (m : Int) * (-1)).toNat]? = xs.reverse[m]? := fun m hm => by
    have hm := List.mem_range.mp hm
    rw [List.getElem?_reverse hm]
    have e2 : (((xs.length : Int) - 1) + (m : Int) * (-1)).toNat = xs.length - 1 - m := by omega
    rw [e2]
    simp
  rw [fm_congr e]
  have hr : xs.length = xs.reverse.length := by simp
  rw [hr]
  generalize xs.reverse = ys
  induction ys with
  | nil => rfl
  | cons y ys ih =>
    rw [List.length_cons, List.range_succ_eq_map, List.filterMap_cons]
    simp only [List.getElem?_cons_zero, List.filterMap_map]
    congr 1
theorem rev_tuple {A : Around} {E : Value → Shared → Prop} {prog : Program} {w : World} {t sl : Addr} {its : List Value} {vl vu vs : Value} {Q : Value → Shared → Prop} (ht : IsTup s.heap t its.toArray) (hs : s.heap.IsSliceOf sl vl vu vs) (pl : IsPart vl none) (pu : IsPart vu none) (ps : IsPart vs (some (-1)))
    (hsz : its.length ≤ sizeLine) (h : Q (.ref s.heap.objs.size) { s with heap := s.heap.push (tupObj its.reverse) }) : wpAny (model prog w) A (getItem (.ref t) (.ref sl)) Q E s := by
  have htake : sizeOk (.seq its.reverse.toArray) := by
    show its.reverse.toArray.size ≤ sizeLine
    rw [List.size_toArray, List.length_reverse]
    exact hsz
  obtain ⟨os, hos, hcs, hds⟩ := id hs
  have hTs : s.TypeIs (.ref sl) "slice" := ⟨os, hos, hcs⟩
  unfold getItem
  try with_reducible refine wpAny_holding ?_
  first | refine wpAny_bind (wpAny_pure ?_) | skip
  refine wpAny_bind (wpAny_sequenceKey ht.typeIs (by decide) ?_)
  refine wpAny_bind (wpAny_callSpecial?_slot (name := Str.ofString "__getitem__") ht.typeIs PyProof.Rows.slot_tuple_getitem
    (wpAny_call_entry PyProof.Rows.slot_tuple_getitem ht.typeIs entry_tuple_getitem ?_ (args_tuple_getitem _ _)))
  show wpAny _ _ (Builtin.Tuple.tupleItemsOf (.ref t) >>= _) _ _ s
  refine wpAny_bind (tupleItemsOf_ ht ?_)
  refine wpAny_bind (wpAny_typeOf hTs ?_)
  rw [if_pos (by decide)]
  have hn : its.toArray.size = its.length := List.size_toArray ..
  refine wpAny_bind (applied_back (n := its.toArray.size) hs pl pu ps ?_)
  have hno : ¬ (((((its.toArray.size : Nat) : Int) - 1) == 0 && (-1 : Int) == 1 && its.toArray.size == its.toArray.size) = true) := by
    rw [show ((-1 : Int) == 1) = false by decide, Bool.and_false, Bool.false_and]
    exact Bool.false_ne_true
  show wpAny _ _ (if ((((its.toArray.size : Nat) : Int) - 1) == 0 && (-1 : Int) == 1 && its.toArray.size == its.toArray.size) = true then _ else _) _ _ s
  rw [if_neg hno, hn, pick_back]
  first
    | exact wpAny_bind (m := Builtin.Tuple.tupleExact _) (wpAny_newObj_type (wpAny_pure ⟨_, rfl, wpAny_pure h⟩) htake)
    | exact wpAny_bind (m := Builtin.Tuple.tupleExact _) (wpAny_newObj_type (wpAny_bind (wpAny_pure (wpAny_pure ⟨_, rfl, wpAny_pure h⟩))) htake)
    | exact wpAny_bind (wpAny_bind (m := Builtin.Tuple.tupleExact _) (wpAny_newObj_type (wpAny_pure (wpAny_pure ⟨_, rfl, wpAny_pure h⟩)) htake))
    | exact wpAny_bind (wpAny_bind (m := Builtin.Tuple.tupleExact _) (wpAny_newObj_type (wpAny_pure ⟨_, rfl, wpAny_pure h⟩) htake))
def tRev (K : W.Frag) (te : TE) : TE := fun σ H Q => te σ H fun x H1 => ∃ F dx pv, Sub F H1 ∧ LR K F H1 x dx ∧ revD dx = some pv ∧ ∀ F' H' v, Grow F H1 F' H' → NR K H1 F' H' pv v → Q v H'
theorem pe_rev {e : Expr} {te : TE} {k : Nat} {p1 p2 p3 pos : Pos} (he : PE X e te) : PE X (.Subscript e (.Slice none none (some (.UnaryOp .USub (.Constant (.int 1) k p1) p2)) p3) pos) (tRev X.K te) := by
  refine ⟨fun pins s σ H Q I h => ?_⟩
  refine Subscript_ (thn (he.run pins s σ H _ I h) fun v s1 ⟨x, H1, I1, r1, q1⟩ => ?_)
  obtain ⟨F, dx, pv, f, hx, er, q⟩ := q1
  have hst : PO X (some (.UnaryOp .USub (.Constant (.int 1) k p1) p2)) (tPart (tUn (rU fun i => .int (-i)) (tC (.int 1)))) := po_some (pe_un un_neg pe_int)
  refine wpAny_Slice (thn (po_none.run pins s1 σ H1 (fun o H2 => o = none ∧ H2 = H1) I1 ⟨rfl, rfl⟩) fun vl s2 ⟨l, H2, I2, pl, el, e2⟩ => ?_)
  subst el e2
  refine thn (po_none.run pins s2 σ H2 (fun o H3 => o = none ∧ H3 = H2) I2 ⟨rfl, rfl⟩) fun vu s3 ⟨u, H3, I3, pu, eu, e3⟩ => ?_
  subst eu e3
  refine thn (hst.run pins s3 σ H3 (fun o H4 => o = some (-1) ∧ H4 = H3) I3 ⟨1, rfl, -1, rfl, rfl, rfl⟩) fun vs s4 ⟨o, H4, I4, ps, eo, e4⟩ => ?_
  subst eo e4
  have I5 : Inv X pins σ H4 { s4 with heap := s4.heap.push { cls := .type "slice", data := .fields #[vl, vu, vs] } } := I4.kept (t' := s4.toks) fun b ob q => Heap.get?_push_of_some _ q
  show wpAny (model X.prog X.w) X.A (subscriptTail e (.Slice none none (some (.UnaryOp .USub (.Constant (.int 1) k p1) p2)) p3) v (.ref s4.heap.objs.size)) (EP X pins σ Q) X.xe { s4 with heap := s4.heap.push { cls := .type "slice", data := .fields #[vl, vu, vs] } }
  unfold revD at er
  split at er
  · cases er
    obtain ⟨a, ws, rfl, k1, k2⟩ := hx.sq f
    cases r1
    obtain ⟨its, r, ht, hz⟩ := I5.list k1
    have hlen := r.length
    refine tail_any (ops := [.ref a, .ref s4.heap.objs.size]) ht.isList.typeIs (PySem.slot_list_getitem.lookup) ?_ (by with_unfolding_all rfl)
    refine wpAny_getItem_list_slice ht.isList (Heap.IsSliceOf.new _ vl vu vs) pl pu ps (by decide) ?_ (by rw [List.size_toArray]; omega)
    rw [PySem.W.krv_pick]
    exact ⟨.ref _, _, I5.lnew (t' := s4.toks) r.reverse (by rw [List.length_reverse]; exact hz), rfl, fin_new f I5.fresh k2.reverse q⟩
  · cases er
    obtain ⟨a, ws, rfl, k1, k2, _⟩ := hx.tp f
    cases r1
    obtain ⟨its, r, ht, hz⟩ := I5.tuple k1
    have hlen := r.length
    refine tail_any (ops := [.ref a, .ref s4.heap.objs.size]) ht.typeIs PyProof.Rows.slot_tuple_getitem.lookup ?_ (by with_unfolding_all rfl)
    refine rev_tuple ht (Heap.IsSliceOf.new _ vl vu vs) pl pu ps (by omega) ?_
    exact fin_tup (t := s4.toks) I5 f r.reverse (by rw [List.length_reverse]; exact hz) k2.reverse q
  · cases er
end
end Mi

set_option maxHeartbeats 4000000
/-! Built-ins by values. -/
namespace Mi
open PySem PySem.Spec PyProof.Rows L2
inductive LRs (K : W.Frag) (F H : Hp) : List V → List PyData → Prop
  | nil : LRs K F H [] []
  | cons {v : V} {vs : List V} {x : PyData} {xs : List PyData} : LR K F H v x → LRs K F H vs xs → LRs K F H (v :: vs) (x :: xs)
section
variable {X : Cx} {pins : List (Addr × Obj)} {σ : L2.St} {H F : Hp} {s : Shared} {Q : VK}
theorem LRs.one {K : W.Frag} {vs : List V} {x : PyData} (h : LRs K F H vs [x]) : ∃ v, vs = [v] ∧ LR K F H v x := by
  cases h with
  | cons a b => cases b; exact ⟨_, rfl, a⟩
theorem LRs.two {K : W.Frag} {vs : List V} {x y : PyData} (h : LRs K F H vs [x, y]) : ∃ v w, vs = [v, w] ∧ LR K F H v x ∧ LR K F H w y := by
  cases h with
  | cons a b =>
    obtain ⟨w, rfl, c⟩ := b.one
    exact ⟨_, _, rfl, a, c⟩
/-- a list or a tuple -/
theorem LR.seq {x : PyData} {xs : List PyData} {v : V} (f : Sub F H) (h : LR X.K F H v x) (e : seqOf x = some xs) : ∃ p vs, v = .ref p ∧ (SqL X.K H p vs ∨ SqT X.K H p vs) ∧ DRs X.K F vs xs ∧ (x = .list xs ∧ SqL X.K H p vs ∨ x = .tuple xs ∧ SqT X.K H p vs ∧ TupK X.K F p vs) := by
  cases x with
  | list ys =>
    cases e
    obtain ⟨p, vs, rfl, k1, k2⟩ := h.sq f
    exact ⟨p, vs, rfl, .inl k1, k2, .inl ⟨rfl, k1⟩⟩
  | tuple ys =>
    cases e
    obtain ⟨p, vs, rfl, k1, k2, k3⟩ := h.tp f
    exact ⟨p, vs, rfl, .inr k1, k2, .inr ⟨rfl, k1, k3⟩⟩
  | _ => cases e
theorem DRs.bools {K : W.Frag} {vs : List V} : ∀ {xs : List PyData} {bs : List Bool}, DRs K F vs xs → boolsD xs = some bs → vs = bs.map V.bl := by
  induction vs with
  | nil => intro xs bs h e; cases h; simp [boolsD] at e; subst e; rfl
  | cons v vs ih =>
    intro xs bs h e
    cases h with
    | @cons _ _ x xs a b =>
      cases a with
      | bl i =>
        rw [boolsD] at e
        obtain ⟨ms, e1, rfl⟩ := Option.map_eq_some_iff.mp e
        rw [ih b e1]
        rfl
      | _ => simp [boolsD] at e
theorem foldl_max {ns : List Int} : ∀ {n : Int}, (∀ m, m ∈ n :: ns → m ≤ ns.foldl max n) ∧ ns.foldl max n ∈ n :: ns := by
  induction ns with
  | nil => intro n; simp
  | cons a ns ih =>
    intro n
    obtain ⟨h1, h2⟩ := ih (n := max n a)
    refine ⟨fun m hm => ?_, ?_⟩
    · have h0 := h1 (max n a) (by simp)
      simp only [List.mem_cons] at hm
      rcases hm with rfl | rfl | hm
      · exact Int.le_trans (Int.le_max_left _ _) h0
      · exact Int.le_trans (Int.le_max_right _ _) h0
      · exact h1 m (by simp [hm])
    · simp only [List.mem_cons] at h2 ⊢
      rcases h2 with h2 | h2
      · rw [List.foldl_cons, h2]
        rcases Int.le_total n a with h | h
        · exact .inr (.inl (Int.max_eq_right h))
        · exact .inl (Int.max_eq_left h)
      · exact .inr (.inr h2)
theorem foldl_min {ns : List Int} : ∀ {n : Int}, (∀ m, m ∈ n :: ns → ns.foldl min n ≤ m) ∧ ns.foldl min n ∈ n :: ns := by
  induction ns with
  | nil => intro n; simp
  | cons a ns ih =>
    intro n
    obtain ⟨h1, h2⟩ := ih (n := min n a)
    refine ⟨fun m hm => ?_, ?_⟩
    · have h0 := h1 (min n a) (by simp)
      simp only [List.mem_cons] at hm
      rcases hm with rfl | rfl | hm
      · exact Int.le_trans h0 (Int.min_le_left _ _)
      · exact Int.le_trans h0 (Int.min_le_right _ _)
      · exact h1 m (by simp [hm])
    · simp only [List.mem_cons] at h2 ⊢
      rcases h2 with h2 | h2
      · rw [List.foldl_cons, h2]
        rcases Int.le_total n a with h | h
        · exact .inl (Int.min_eq_left h)
        · exact .inr (.inl (Int.min_eq_right h))
      · exact .inr (.inr h2)
theorem preSum_get (ns : List Int) : ∀ j, preSum (fun i => ns.getD i 0) j = (ns.take j).sum
  | 0 => by simp [preSum]
  | j + 1 => by
    rw [preSum, preSum_get ns j]
    by_cases h : j < ns.length
    · rw [List.take_succ_eq_append_getElem h, List.sum_append]
      simp [List.getD_eq_getElem?_getD, h]
    · rw [List.take_of_length_le (by omega), List.take_of_length_le (by omega)]
      simp [List.getD_eq_getElem?_getD, List.getElem?_eq_none (show ns.length ≤ j by omega)]
theorem sum_tup (hc : X.calm = true) {a : Addr} {ns : List Int} (I : Inv X pins σ H s) (ht : SqT X.K H a (ns.map V.int)) (q : Q (.int ns.sum) H) :
    wpAny (model X.prog X.w) X.A (call (.builtin "sum") [.ref a]) (EP X pins σ Q) X.xe s := by
  obtain ⟨its, rv, pt, _⟩ := I.tuple ht
  have hi := intsAre_of rv
  refine call_sum_walkAnyS (PySem.W.iter_tupleW (A := X.A.in1) (I.ok.hd hc) (show s.heap.IsTuple a its.toArray from pt) fun s₂ e W st hfp hw hk => ?_)
  refine ⟨_, _, _, _, _, _, _, fun i => ns.getD i 0, rfl, W, st, hfp, fun i v hv => ?_, fun s' t' m => ?_⟩
  · have hv' : its[i]? = some v := by simpa using hv
    have hl := rv.length
    rw [List.length_map] at hl
    have hlt : i < ns.length := by rw [hl]; exact (List.getElem?_eq_some_iff.mp hv').1
    obtain ⟨u, h1, h2⟩ := rv.get (i := i) (x := V.int (ns.getD i 0)) (by simp [List.getD_eq_getElem?_getD, hlt])
    rw [hv'] at h1
    cases h1
    exact h2
  · obtain ⟨h', tk, rfl, hk'⟩ := PySem.W.moved_old e rfl m
    refine ⟨.int _, H, I.kept hk', ⟨t', ?_⟩, q⟩
    have hl := rv.length
    rw [List.length_map] at hl
    rw [preSum_get, List.take_of_length_le (by rw [List.size_toArray]; omega)]
theorem vals_one {v : V} {us : List Value} (r : Vals [v] us) : ∃ u, us = [u] ∧ RelV v u := vals1 r
theorem tuple_ok {p : Addr} {vs : List V} {xs : List PyData} (I : Inv X pins σ H s) (f : Sub F H) (hl : SqL X.K H p vs) (d : DRs X.K F vs xs) (q : ∀ F' H' v, Grow F H F' H' → NR X.K H F' H' (.val (.d (.tuple xs))) v → Q v H') :
    wpAny (model X.prog X.w) X.A (call (.type "tuple") [.ref p]) (EP X pins σ Q) X.xe s := by
  obtain ⟨its, r', pl, hz⟩ := I.list hl
  have hlen := r'.length
  refine call_tuple_list pl.isList (fun h' kp => ?_) (by simp only [List.size_toArray] <;> omega)
  have I1 : Inv X pins σ H { s with heap := h' } := I.kept (t' := s.toks) kp
  exact fin_tup (t := s.toks) I1 f r' hz d q
theorem divmod_ok {i j : Int} {u w' : Value} (I : Inv X pins σ H s) (f : Sub F H) (h1 : 0 < j) (h2 : j < 1073741824) (r1 : RelV (.int i) u) (r2 : RelV (.int j) w') (q : ∀ F' H' v, Grow F H F' H' → NR X.K H F' H' (.val (.d (.tuple [.int (i / j), .int (i % j)]))) v → Q v H') :
    wpAny (model X.prog X.w) X.A (call (.builtin "divmod") [u, w']) (EP X pins σ Q) X.xe s := by
  obtain ⟨t, rfl⟩ := r1
  obtain ⟨t', rfl⟩ := r2
  refine divmod_int (by omega) ?_ (.inl (PyProof.noPylong_small (by omega)))
  rw [Int.fdiv_eq_ediv_of_nonneg i (by omega), Int.fmod_eq_emod_of_nonneg i (by omega)]
  exact fin_tup (its := [.int (i / j) s.toks, .int (i % j) (s.toks + 1)]) I f (vs := [.int (i / j), .int (i % j)]) (.cons ⟨_, rfl⟩ (.cons ⟨_, rfl⟩ .nil)) (by rw [sizeLine_eq]; simp only [List.length_cons, List.length_nil]; omega) (.cons (.int _) (.cons (.int _) .nil)) q
theorem readsAll_nil {h : Heap} {us : List Value} {as : List Addr} (r : ReadsAll h us [] as) : as = [] := by cases r; rfl
theorem repr_ok (hu : X.A.units + 200 < cLine) (hg : X.A.guards = some []) {x : PyData} {v : V} {u : Value} (I : Inv X pins σ H s) (f : Sub F H) (hx : LR X.K F H v x) (r : RelV v u) (h1 : x.showable = true) (h2 : x.hasDict = false ∨ noKv x = true) (h3 : x.depth ≤ 64) (h4 : x.shown.length ≤ sizeLine)
    (q : Q (.str x.shown) H) : wpAny (model X.prog X.w) X.A (call (.builtin "repr") [u]) (EP X pins σ Q) X.xe s := by
  have box : ∀ {a : Addr}, u = .ref a → wpAny (model X.prog X.w) X.A (call (.builtin "repr") [u]) (EP X pins σ Q) X.xe s := fun {a} e => by
    subst e
    obtain ⟨as, ra⟩ := hx.reads I f r
    refine repr_of_reads' ra h1 (fun hd => ?_) hg (by omega) (fun _ _ e => e) (fun h' t tk hk => ⟨.str _, H, I.kept hk, ⟨t, rfl⟩, q⟩) h4
    rcases h2 with h2 | h2
    · rw [h2] at hd; cases hd
    · cases x with
      | dict kvs =>
        cases kvs with
        | nil =>
          cases ra with
          | dict k1 k2 k3 k4 k5 =>
            have e4 := readsAll_nil k4
            have e5 := readsAll_nil k5
            subst e4 e5
            cases hx with
            | dr hx =>
              cases hx with
              | dct ha =>
                cases r
                obtain ⟨_, ns, _⟩ := I.hok _ _ (f _ _ ha)
                simp only [List.append_nil, List.mem_singleton]
                intro e
                rw [← e] at ns
                simp at ns
        | cons _ _ => cases h2
      | _ => cases h2
  cases x with
  | none =>
    rw [hx.none_inv] at r
    cases r
    exact PySem.P.repr_of_none ⟨.str _, H, I.tok _, ⟨_, rfl⟩, q⟩
  | bool b =>
    rw [hx.bool_inv] at r
    cases r
    exact PySem.P.repr_of_bool ⟨.str _, H, I.tok _, ⟨_, rfl⟩, q⟩
  | int i =>
    rw [hx.int_inv] at r
    obtain ⟨t, rfl⟩ := r
    exact PySem.P.repr_of_int (by simpa [PyData.showable] using h1) ⟨.str _, H, I.tok _, ⟨_, rfl⟩, q⟩
  | str z =>
    rw [hx.str_inv] at r
    obtain ⟨t, rfl⟩ := r
    exact PySem.P.repr_of_str ⟨.str _, H, I.tok _, ⟨_, rfl⟩, q⟩ h4
  | list xs =>
    obtain ⟨p, vs, rfl, _⟩ := hx.sq f
    exact box (show u = .ref p from r)
  | tuple xs =>
    obtain ⟨p, vs, rfl, _⟩ := hx.tp f
    exact box (show u = .ref p from r)
  | dict kvs =>
    cases hx with
    | dr hx =>
      cases hx with
      | @dct a ha => exact box (show u = .ref a from r)
end
end Mi

set_option maxHeartbeats 4000000
/-! sorted(x). -/
namespace Mi
open PySem PySem.Spec PyProof.Rows L2
open Sem (wp)
mutual
theorem reads_there {h : Heap} : ∀ {v : Value} {d : PyData} {as : List Addr}, Reads h v d as → ∀ b ∈ as, ∃ o, h.get? b = some o
  | _, _, _, .none => fun _ hb => by cases hb
  | _, _, _, .bool _ => fun _ hb => by cases hb
  | _, _, _, .int _ _ => fun _ hb => by cases hb
  | _, _, _, .str _ _ => fun _ hb => by cases hb
  | _, _, _, .list h1 _ _ h4 => fun b hb => by
    rcases List.mem_cons.mp hb with rfl | hb
    · exact ⟨_, h1⟩
    · exact readsAll_there h4 b hb
  | _, _, _, .tuple _ _ _ h4 => fun b hb => readsAll_there h4 b hb
  | _, _, _, .dict h1 _ _ h4 h5 => fun b hb => by
    rcases List.mem_append.mp hb with hb | hb
    · rcases List.mem_cons.mp hb with rfl | hb
      · exact ⟨_, h1⟩
      · exact readsAll_there h4 b hb
    · exact readsAll_there h5 b hb
theorem readsAll_there {h : Heap} : ∀ {vs : List Value} {ds : List PyData} {as : List Addr}, ReadsAll h vs ds as → ∀ b ∈ as, ∃ o, h.get? b = some o
  | _, _, _, .nil => fun _ hb => by cases hb
  | _, _, _, .cons h1 h2 => fun b hb => by
    rcases List.mem_append.mp hb with hb | hb
    · exact reads_there h1 b hb
    · exact readsAll_there h2 b hb
end
section
variable {prog : Program} {w : World} {A : Around} {E : Value → Shared → Prop} {s : Shared}
/-- what list(x) has laid ahead of the sort -/
def colHeap (h : Heap) (items : Array Value) : Heap := (h.push { cls := .type "list", data := .seq ([] : List Value).toArray }).update h.objs.size (Obj.mapSeq (· ++ items))
theorem col_size (h : Heap) (items : Array Value) : (colHeap h items).objs.size = h.objs.size + 1 := by unfold colHeap; rw [Heap.size_update, Heap.size_push]
theorem col_old {h : Heap} {items : Array Value} {b : Addr} {o : Obj} (e : h.get? b = some o) : (colHeap h items).get? b = some o :=
  (Heap.get?_update_other _ _ (Nat.ne_of_gt (Heap.lt_size e))).trans (Heap.get?_push_of_some _ e)
theorem collect_any {Q : List Value → Shared → Prop} (it : Addr) {T : String} {o : Obj} {items : Array Value} {n : Nat} (hT : T = "list" ∨ T = "tuple") (ho : s.heap.get? it = some o) (hc : o.cls = .type T) (hd : o.data = .seq items n)
    (hQ : Q items.toList { s with heap := colHeap s.heap items }) (hsz : items.size ≤ sizeLine) : wpAny (model prog w) A (collect (.ref it)) Q E s := by
  unfold collect
  refine wpAny_bind (wpAny_runValue (codeAny_builtin PySem.F.entry_proto_collect ?_))
  rw [Around.under_plainId PySem.F.plain_proto_collect _]
  show wpAny _ A.in1 (newList [] >>= fun l => again (.builtin "list.__iadd__" ⟨[l, .ref it], []⟩)) _ _ s
  refine wpAny_bind (wpAny_newObj_type ?_)
  refine wpAny_pure ⟨plainId_quiet PySem.F.plain_list_iadd _, codeAny_builtin PySem.F.entry_list_iadd ?_⟩
  rw [Around.under_plainId PySem.F.plain_list_iadd _]
  show wpAny _ A.in1 (Builtin.List.listExtendWith (.ref s.heap.objs.size) (.ref it) (.ref s.heap.objs.size)) _ _ _
  have e0 : (s.heap.push { cls := .type "list", data := .seq ([] : List Value).toArray }).get? s.heap.objs.size = some { cls := .type "list", data := .seq #[] 0 } := Heap.get?_push_size _ rfl
  have e1 := Heap.get?_update_self (Obj.mapSeq (· ++ items)) e0 rfl
  have out : wpAny (model prog w) A (match Value.ref s.heap.objs.size with
      | Value.ref a => do
        match (← load a).data with
          | Data.seq xs _ => pure xs.toList
          | _ => unsupported "internal:collect"
      | _ => unsupported "internal:collect") Q E { s with heap := colHeap s.heap items } := by
    show wpAny _ A (load s.heap.objs.size >>= _) _ _ _
    refine wpAny_bind (wpAny_load e1 (wpAny_pure ?_))
    show Q ((#[] : Array Value) ++ items).toList _
    rw [show ((#[] : Array Value) ++ items).toList = items.toList by simp]
    exact hQ
  refine wpAny_mono (wpAny_extend_seq (hsz := hsz) (A := A) (R := fun r s' => r = .ok (.ret (.ref s.heap.objs.size)) ∧ s' = { s with heap := colHeap s.heap items })
    (s := { s with heap := s.heap.push { cls := .type "list", data := .seq ([] : List Value).toArray } }) _ it _ 0 hT e0 (Heap.get?_push_of_some _ ho) hc hd ⟨rfl, rfl⟩) (fun fin s' h => ?_) (fun e s' h => ?_)
  · cases fin with
    | done f =>
      obtain ⟨e, rfl⟩ := h
      cases e
      exact out
    | again c' => exact ⟨h.1, codeAny_mono h.2 fun r s'' hr => by obtain ⟨rfl, rfl⟩ := hr; exact out⟩
  · exact absurd h.1 (by simp)
end
section
variable {X : Cx} {pins : List (Addr × Obj)} {σ : L2.St} {H F : Hp} {s : Shared} {Q : VK}
def Stands (K : W.Frag) (F : Hp) (u : Value) (x : PyData) : Prop := ∃ v, RelV v u ∧ DR K F v x
theorem stands_of {K : W.Frag} {vs : List V} : ∀ {us : List Value} {xs : List PyData}, Vals vs us → DRs K F vs xs → W.EachIs (Stands K F) us xs := by
  induction vs with
  | nil => intro us xs r d; cases r; cases d; exact .nil
  | cons v vs ih =>
    intro us xs r d
    cases r with
    | cons r1 r2 =>
      cases d with
      | cons d1 d2 => exact .cons ⟨v, r1, d1⟩ (ih r2 d2)
theorem stands_to {K : W.Frag} {us : List Value} {xs : List PyData} (h : W.EachIs (Stands K F) us xs) : ∃ vs, Vals vs us ∧ DRs K F vs xs := by
  induction h with
  | nil => exact ⟨[], .nil, .nil⟩
  | cons h1 _ ih =>
    obtain ⟨v, r, d⟩ := h1
    obtain ⟨vs, rs, ds⟩ := ih
    exact ⟨v :: vs, .cons r rs, .cons d ds⟩
theorem ints_of : ∀ {xs : List PyData} {ns : List Int}, intsD xs = some ns → xs = ns.map PyData.int
  | [], ns, e => by simp [intsD] at e; subst e; rfl
  | .int i :: r, ns, e => by
    rw [intsD] at e
    obtain ⟨ms, e1, rfl⟩ := Option.map_eq_some_iff.mp e
    rw [ints_of e1]
    rfl
  | .none :: _, _, e => by simp [intsD] at e
  | .bool _ :: _, _, e => by simp [intsD] at e
  | .str _ :: _, _, e => by simp [intsD] at e
  | .list _ :: _, _, e => by simp [intsD] at e
  | .tuple _ :: _, _, e => by simp [intsD] at e
  | .dict _ :: _, _, e => by simp [intsD] at e
theorem depth_mem : ∀ {xs : List PyData} {x : PyData}, x ∈ xs → x.depth ≤ PyData.depthAll xs
  | y :: ys, x, h => by
    rw [PyData.depthAll]
    rcases List.mem_cons.mp h with rfl | h
    · exact Nat.le_max_left _ _
    · exact Nat.le_trans (depth_mem h) (Nat.le_max_right _ _)
theorem sortOk_use {xs : List PyData} (h : sortOk xs = true) : W.AllAlike xs ∧ W.Sortable xs ∧ ∀ x ∈ xs, x.depth ≤ 64 := by
  unfold sortOk at h
  rw [Bool.or_eq_true] at h
  rcases h with h | h
  · obtain ⟨ns, e⟩ := Option.isSome_iff_exists.mp h
    have e2 := ints_of e
    subst e2
    refine ⟨W.AllAlike.of (enc := PyData.int) fun _ _ => by simp [W.alike], W.Sortable.others fun n => ⟨by simp, by simp⟩, fun x hx => ?_⟩
    obtain ⟨n, _, rfl⟩ := List.mem_map.mp hx
    simp [PyData.depth]
  · simp only [Bool.and_eq_true, Bool.or_eq_true, pairAlike, List.all_eq_true, decide_eq_true_eq] at h
    obtain ⟨⟨h1, h2⟩, h3⟩ := h
    refine ⟨fun x hx y hy => h1 x hx y hy, ?_, fun x hx => Nat.le_trans (depth_mem hx) h3⟩
    rcases h2 with h2 | h2
    · refine .inl fun x hx => ?_
      have := h2 x hx
      cases x with
      | tuple ys =>
        cases ys with
        | nil => cases this
        | cons y r => exact ⟨y, r, rfl⟩
      | _ => cases this
    · refine .inr fun x hx => ⟨fun e => ?_, fun ys e => ?_⟩
      · have := h2 x hx
        rw [e] at this
        cases this
      · have := h2 x hx
        rw [e] at this
        cases this
theorem sort_any (hu : X.A.units + 200 < cLine) (rev : Bool) {kw : List (Str × Value)} (hkw : kw = [] ∧ rev = false ∨ kw = [(Str.ofString "reverse", .bool rev)]) {p : Addr} {vs : List V} {xs : List PyData} (I : Inv X pins σ H s) (f : Sub F H)
    (hq : SqL X.K H p vs ∨ SqT X.K H p vs) (d : DRs X.K F vs xs) (ok : sortOk xs = true) (q : ∀ F' H' v, Grow F H F' H' → NR X.K H F' H' (.new (xs.mergeSort (W.dataLe rev id))) v → Q v H') :
    wpAny (model X.prog X.w) X.A (call (.builtin "sorted") [.ref p] kw) (EP X pins σ Q) X.xe s := by
  obtain ⟨hal, hk, hdp⟩ := sortOk_use ok
  obtain ⟨T, o, its, n, hT, ho, hc, hd, r, hz⟩ : ∃ (T : String) (o : Obj) (its : List Value) (n : Nat), (T = "list" ∨ T = "tuple") ∧ s.heap.get? p = some o ∧ o.cls = .type T ∧ o.data = .seq its.toArray n ∧ Vals vs its ∧ vs.length ≤ sizeLine := by
    rcases hq with hq | hq
    · obtain ⟨its, r, ⟨o, n, ho, hc, _, hd⟩, hz⟩ := I.list hq
      exact ⟨"list", o, its, n, .inl rfl, ho, hc, hd, r, hz⟩
    · obtain ⟨its, r, ⟨o, ho, hc, n, hd⟩, hz⟩ := I.tuple hq
      exact ⟨"tuple", o, its, n, .inr rfl, ho, hc, hd, r, hz⟩
  have hlen := r.length
  have hl2 := d.length
  have hL : its.length ≤ sizeLine := by omega
  have ha1 : argsOk "sorted" ⟨[.ref p], kw⟩ := by
    rcases hkw with ⟨rfl, _⟩ | rfl
    · exact args_sorted1 _
    · exact args_sorted_rev _ _
  refine call_function_entry_kw kind_sorted plain_sorted entry_sorted ha1 ?_
  unfold Builtin.«sorted»
  refine wpAny_bind (m := checkCount "sorted" 1 1 _) (wpAny_pure ?_)
  refine wpAny_bind (collect_any p hT ho hc hd ?_ (by rw [List.size_toArray]; exact hL))
  refine wpAny_bind (wpAny_newList ?_ hL)
  generalize hh1 : colHeap s.heap its.toArray = h1
  have hs1 : h1.objs.size = s.heap.objs.size + 1 := by rw [← hh1]; exact col_size _ _
  have k1 : ∀ b o, s.heap.get? b = some o → h1.get? b = some o := fun b o e => by rw [← hh1]; exact col_old e
  have at1 : (h1.push { cls := .type "list", data := .seq its.toArray }).get? h1.objs.size = some (seqObj "list" its.toArray 0) := Heap.get?_push_size _ rfl
  obtain ⟨as0, rd⟩ := DRs.reads I f xs vs its d r
  have e0 := stands_of r d
  have er : W.EachIs (fun v b => ∃ as, Reads (h1.push { cls := .type "list", data := .seq its.toArray }) v (id b) as ∧ h1.objs.size ∉ as) its xs := by
    have go : ∀ {us : List Value} {ds : List PyData} {as : List Addr}, ReadsAll s.heap us ds as → W.EachIs (fun v b => ∃ as, Reads (h1.push { cls := .type "list", data := .seq its.toArray }) v (id b) as ∧ h1.objs.size ∉ as) us ds := by
      intro us
      induction us with
      | nil => intro ds as h; cases h; exact .nil
      | cons u us ih =>
        intro ds as h
        cases h with
        | cons h1' h2' =>
          refine .cons ⟨_, PyProof.Rows.Reads.keeps (fun b o e => Heap.get?_push_of_some _ (k1 b o e)) h1', fun hm => ?_⟩ (ih h2')
          obtain ⟨o, eo⟩ := reads_there h1' _ hm
          have hlt := Heap.lt_size eo
          rw [hs1] at hlt
          exact absurd hlt (Nat.not_lt.mpr (Nat.le_succ _))
    exact go rd
  have fin : ∀ out : List Value, W.EachIs (Stands X.K F) out (xs.mergeSort (W.dataLe rev id)) → EP X pins σ Q (.ref h1.objs.size) { s with heap := sortedHeap (h1.push { cls := .type "list", data := .seq its.toArray }) h1.objs.size its (List.toArray out) } := fun out ho => by
    obtain ⟨vs', r', d'⟩ := stands_to ho
    obtain ⟨c, e2⟩ := sortedHeap_at (out := List.toArray out) at1
    have hl3 := d'.length
    have hz' : vs'.length ≤ sizeLine := by rw [hl3, List.length_mergeSort]; omega
    have hp : s.heap.objs.size ≤ h1.objs.size := by omega
    refine ⟨.ref h1.objs.size, upd H h1.objs.size (.lst vs'), I.laid (t' := s.toks) (fun b o e => ?_) hp ⟨hz', out, c, r', e2⟩, rfl, fin_new f (I.hok.fresh hp) d' q⟩
    have hlt := Nat.lt_of_lt_of_le (Heap.lt_size e) hp
    rw [sortedHeap_old (Nat.ne_of_lt hlt) (by rw [Heap.size_push]; exact Nat.lt_succ_of_lt hlt)]
    exact Heap.get?_push_of_some _ (k1 b o e)
  rcases hkw with ⟨rfl, rfl⟩ | rfl
  · refine wpAny_bind (wpAny_holding (W.list_sort_data (a := h1.objs.size) (n := 0) at1 e0 er (by simpa using hal) (by simpa using hk) (by omega) (fun b hb => ?_) fun out _ ho => ?_))
    · have := hdp b hb
      show X.A.units + 1 + 1 + (id b).depth < cLine
      simp only [id]
      omega
    · exact wpAny_pure ⟨_, rfl, fin out ho⟩
  · refine wpAny_bind (wpAny_holding (W.list_sort_rev_data (a := h1.objs.size) (n := 0) at1 e0 er (by simpa using hal) (by simpa using hk) (by omega) (fun b hb => ?_) fun out _ ho => ?_))
    · have := hdp b hb
      show X.A.units + 1 + 1 + (id b).depth < cLine
      simp only [id]
      omega
    · exact wpAny_pure ⟨_, rfl, fin out ho⟩
end
end Mi

set_option maxHeartbeats 4000000
/-! Built-ins, methods, isinstance: by values. -/
namespace Mi
open PySem PySem.Spec PyProof.Rows L2
section
variable {X : Cx} {pins : List (Addr × Obj)} {σ : L2.St} {H F : Hp} {s : Shared} {Q : VK}
def biV : BI → Value
  | .len => .builtin "len"
  | .abs => .builtin "abs"
  | .int => .type "int"
  | .max2 => .builtin "max"
  | .max1 => .builtin "max"
  | .min2 => .builtin "min"
  | .min1 => .builtin "min"
  | .sum => .builtin "sum"
  | .all => .builtin "all"
  | .any => .builtin "any"
  | .sorted => .builtin "sorted"
  | .sortedR => .builtin "sorted"
  | .sortedSet => .none
  | .tuple => .type "tuple"
  | .list => .type "list"
  | .divmod => .builtin "divmod"
  | .repr => .builtin "repr"
def biPlain : BI → Bool
  | .sortedR => false
  | .sortedSet => false
  | _ => true
def rBi (K : W.Frag) (b : BI) : List V → Hp → VK → Prop := fun vs H Q => ∃ F ds pv, Sub F H ∧ LRs K F H vs ds ∧ biD b ds = some pv ∧ ∀ F' H' v, Grow F H F' H' → NR K H F' H' pv v → Q v H'
theorem bi_ok (hu : X.A.units + 200 < cLine) (hg : X.A.guards = some []) (hc : X.calm = true) (b : BI) (hb : biPlain b = true) : CallR X (biV b) (rBi X.K b) := by
  intro pins s σ H vs us Q I r h
  obtain ⟨F, ds, pv, f, hx, e, q⟩ := h
  have qi : ∀ k : Int, pv = .val (.d (.int k)) → Q (.int k) H := fun k e => by subst e; exact q F H _ .refl (.int k)
  have qb : ∀ k : Bool, pv = .val (.d (.bool k)) → Q (.bl k) H := fun k e => by subst e; exact q F H _ .refl (.bl k)
  unfold biD at e
  split at e
  · -- len of a text
    split at e
    · cases e
      rename_i hz
      obtain ⟨v, rfl, k⟩ := hx.one
      rw [k.str_inv] at r
      exact call_len_str pins s σ H _ us Q I r ⟨_, rfl, by rw [← size0_eq]; exact hz, qi _ rfl⟩
    · cases e
  · -- len
    obtain ⟨xs, e1, rfl⟩ := Option.map_eq_some_iff.mp e
    obtain ⟨v, rfl, k⟩ := hx.one
    obtain ⟨p, ws, rfl, k1, k2, _⟩ := k.seq f e1
    exact call_len_seq pins s σ H _ us Q I r ⟨p, ws, rfl, k1, by rw [k2.length]; exact qi _ rfl⟩
  · cases e
    obtain ⟨v, rfl, k⟩ := hx.one
    rw [k.int_inv] at r
    exact call_abs pins s σ H _ us Q I r ⟨_, rfl, qi _ rfl⟩
  · cases e
    obtain ⟨v, rfl, k⟩ := hx.one
    rw [k.int_inv] at r
    exact call_int1 pins s σ H _ us Q I r (.inl ⟨_, rfl, qi _ rfl⟩)
  · cases e
    obtain ⟨v, rfl, k⟩ := hx.one
    rw [k.bool_inv] at r
    exact call_int1 pins s σ H _ us Q I r (.inr ⟨_, rfl, qi _ rfl⟩)
  · cases e
    obtain ⟨v, w', rfl, k, k'⟩ := hx.two
    rw [k.int_inv, k'.int_inv] at r
    exact call_max2 hc pins s σ H _ us Q I r ⟨_, _, rfl, qi _ rfl⟩
  · cases e
    obtain ⟨v, w', rfl, k, k'⟩ := hx.two
    rw [k.int_inv, k'.int_inv] at r
    exact call_min2 hc pins s σ H _ us Q I r ⟨_, _, rfl, qi _ rfl⟩
  · -- max of a list
    obtain ⟨ns, e1, e2⟩ := Option.bind_eq_some_iff.mp e
    cases ns with
    | nil => cases e2
    | cons n ns =>
      cases e2
      obtain ⟨v, rfl, k⟩ := hx.one
      obtain ⟨p, ws, rfl, k1, k2⟩ := k.sq f
      obtain ⟨rfl, _⟩ := k2.ints e1
      obtain ⟨h1, h2⟩ := foldl_max (ns := ns) (n := n)
      refine cr_max hc pins s σ H _ us Q I r ⟨p, n :: ns, rfl, k1, by simp, fun m h3 h4 => ?_⟩
      rw [show m = ns.foldl max n from Int.le_antisymm (h1 m h3) (h4 _ h2)]
      exact qi _ rfl
  · obtain ⟨ns, e1, e2⟩ := Option.bind_eq_some_iff.mp e
    cases ns with
    | nil => cases e2
    | cons n ns =>
      cases e2
      obtain ⟨v, rfl, k⟩ := hx.one
      obtain ⟨p, ws, rfl, k1, k2⟩ := k.sq f
      obtain ⟨rfl, _⟩ := k2.ints e1
      obtain ⟨h1, h2⟩ := foldl_min (ns := ns) (n := n)
      refine cr_min hc pins s σ H _ us Q I r ⟨p, n :: ns, rfl, k1, by simp, fun m h3 h4 => ?_⟩
      rw [show m = ns.foldl min n from Int.le_antisymm (h4 _ h2) (h1 m h3)]
      exact qi _ rfl
  · -- sum
    obtain ⟨ns, e1, rfl⟩ := Option.map_eq_some_iff.mp e
    obtain ⟨xs, e2, e3⟩ := Option.bind_eq_some_iff.mp e1
    obtain ⟨v, rfl, k⟩ := hx.one
    obtain ⟨p, ws, rfl, k1, k2, _⟩ := k.seq f e2
    obtain ⟨rfl, _⟩ := k2.ints e3
    obtain ⟨u, rfl, ru⟩ := vals1 r
    rcases k1 with k1 | k1
    · exact cr_sum hc pins s σ H _ _ Q I r ⟨p, ns, rfl, k1, qi _ rfl⟩
    · cases ru
      exact sum_tup hc I k1 (qi _ rfl)
  · obtain ⟨bs, e1, rfl⟩ := Option.map_eq_some_iff.mp e
    obtain ⟨v, rfl, k⟩ := hx.one
    obtain ⟨p, ws, rfl, k1, k2⟩ := k.sq f
    have e2 := k2.bools e1
    subst e2
    exact cr_all hc pins s σ H _ us Q I r ⟨p, bs, rfl, k1, qb _ rfl⟩
  · obtain ⟨bs, e1, rfl⟩ := Option.map_eq_some_iff.mp e
    obtain ⟨v, rfl, k⟩ := hx.one
    obtain ⟨p, ws, rfl, k1, k2⟩ := k.sq f
    have e2 := k2.bools e1
    subst e2
    exact cr_any hc pins s σ H _ us Q I r ⟨p, bs, rfl, k1, qb _ rfl⟩
  · -- sorted
    obtain ⟨xs, e1, e2⟩ := Option.bind_eq_some_iff.mp e
    split at e2
    · cases e2
      rename_i ok
      obtain ⟨v, rfl, k⟩ := hx.one
      obtain ⟨p, ws, rfl, k1, k2, _⟩ := k.seq f e1
      obtain ⟨u, rfl, ru⟩ := vals1 r
      cases ru
      exact sort_any hu false (.inl ⟨rfl, rfl⟩) I f k1 k2 ok q
    · cases e2
  · cases hb
  · cases hb
  · -- tuple
    obtain ⟨xs, e1, rfl⟩ := Option.map_eq_some_iff.mp e
    obtain ⟨v, rfl, k⟩ := hx.one
    obtain ⟨p, ws, rfl, k1, k2, k3⟩ := k.seq f e1
    obtain ⟨u, rfl, ru⟩ := vals1 r
    rcases k3 with ⟨_, k3⟩ | ⟨_, k3, k4⟩
    · cases ru
      exact tuple_ok I f k3 k2 q
    · exact call_tupleT pins s σ H _ _ Q I r ⟨p, ws, rfl, k3, q F H _ .refl (.tup k4 k2)⟩
  · -- list
    obtain ⟨xs, e1, rfl⟩ := Option.map_eq_some_iff.mp e
    obtain ⟨v, rfl, k⟩ := hx.one
    obtain ⟨p, ws, rfl, k1, k2, _⟩ := k.seq f e1
    exact call_list_of pins s σ H _ us Q I r ⟨p, ws, rfl, k1, fun l n => fin_new f n k2 q⟩
  · split at e
    · cases e
      rename_i hz
      obtain ⟨v, w', rfl, k, k'⟩ := hx.two
      obtain ⟨u, u', rfl, r1, r2⟩ := vals2 r
      rw [k.int_inv] at r1
      rw [k'.int_inv] at r2
      exact divmod_ok I f hz.1 hz.2 r1 r2 q
    · cases e
  · split at e
    · cases e
      rename_i hz
      obtain ⟨v, rfl, k⟩ := hx.one
      obtain ⟨u, rfl, r1⟩ := vals1 r
      exact repr_ok hu hg I f k r1 hz.1 hz.2.1 hz.2.2.1 (by rw [← size0_eq]; exact hz.2.2.2) (q F H _ .refl (.str _))
    · cases e
  · cases e

/-! ### o.count(x), o.index(x) -/
theorem place_idx {xs : List PyData} {y : PyData} {j : Nat} (e : (xs.findIdx? fun z => PyData.eqv z y) = some j) : j < xs.length ∧ (∃ z, xs[j]? = some z ∧ PyData.eqv z y = true) ∧ ∀ i z, i < j → xs[i]? = some z → PyData.eqv z y = false := by
  rw [List.findIdx?_eq_some_iff_getElem] at e
  obtain ⟨h1, h2, h3⟩ := e
  refine ⟨h1, ⟨xs[j], by simp [h1], h2⟩, fun i z hi hz => ?_⟩
  have hi' : i < xs.length := Nat.lt_trans hi h1
  have := h3 i hi
  rw [List.getElem?_eq_getElem hi'] at hz
  cases hz
  simpa using this
def mmT : MM → String → String
  | .count, T => T ++ ".count"
  | .index, T => T ++ ".index"
def rMm (K : W.Frag) (m : MM) (T : Bool) : V → List V → Hp → VK → Prop := fun x vs H Q => ∃ F dx xs ys pv, Sub F H ∧ LR K F H x dx ∧ (T = false ∧ dx = .list xs ∨ T = true ∧ dx = .tuple xs) ∧ LRs K F H vs ys ∧ mmD m dx ys = some pv ∧ ∀ F' H' v, Grow F H F' H' → NR K H F' H' pv v → Q v H'
theorem count_ok (hu : X.A.units + 200 < cLine) {T : Bool} {id : String} (hid : id = (if T then "tuple.count" else "list.count")) : MtR X id (rMm X.K .count T) := by
  intro pins s σ H x vs v us Q I rx rv h
  obtain ⟨F, dx, xs, ys, pv, f, hx, hT, hy, e, q⟩ := h
  unfold mmD at e
  split at e
  · obtain ⟨zs, e1, e2⟩ := Option.bind_eq_some_iff.mp e
    split at e2
    · cases e2
      rename_i hz
      obtain ⟨z1, z2, z3⟩ := hz
      obtain ⟨y, rfl, ky⟩ := hy.one
      obtain ⟨u, rfl, ru⟩ := vals1 rv
      obtain ⟨bs, rb⟩ := ky.reads I f ru
      rcases hT with ⟨rfl, rfl⟩ | ⟨rfl, rfl⟩
      · cases e1
        obtain ⟨p, ws, rfl, k1, k2⟩ := hx.sq f
        obtain ⟨its, r', pl, _⟩ := I.list k1
        obtain ⟨as, ra⟩ := DRs.reads I f _ _ _ k2 r'
        cases rx
        subst hid
        exact SeqAt.count_list_data pl.isList ra rb z1 z2 (by omega) ⟨.int _, H, I.tok _, ⟨_, rfl⟩, q F H _ .refl (.int _)⟩
      · cases e1
        obtain ⟨p, ws, rfl, k1, k2, _⟩ := hx.tp f
        obtain ⟨its, r', pl, _⟩ := I.tuple k1
        obtain ⟨as, ra⟩ := DRs.reads I f _ _ _ k2 r'
        cases rx
        subst hid
        exact SeqAt.count_tuple_data (show s.heap.IsTuple p its.toArray from pl) ra rb z1 z2 (by omega) ⟨.int _, H, I.tok _, ⟨_, rfl⟩, q F H _ .refl (.int _)⟩
    · cases e2
  · rename_i h
    cases h
  · cases e
/-! ### isinstance -/
def tyN : Ty → String
  | .int => "int"
  | .bool => "bool"
  | .str => "str"
  | .tuple => "tuple"
  | .list => "list"
theorem isi_ok {T : Ty} {x : PyData} {v : V} {u : Value} (I : Inv X pins σ H s) (f : Sub F H) (hx : LR X.K F H v x) (r : RelV v u) (q : Q (.bl (isTy x T)) H) :
    wpAny (model X.prog X.w) X.A (call (.builtin "isinstance") [u, .type (tyN T)]) (EP X pins σ Q) X.xe s := by
  obtain ⟨as, ra⟩ := hx.reads I f r
  cases T with
  | int => exact W.isinstance_int_data ra fun tk _ => ⟨.bl _, H, I.tok tk, by (cases x <;> rfl), q⟩
  | bool => exact W.isinstance_bool_data ra fun tk _ => ⟨.bl _, H, I.tok tk, by (cases x <;> rfl), q⟩
  | str => exact W.isinstance_str_data ra fun tk _ => ⟨.bl _, H, I.tok tk, by (cases x <;> rfl), q⟩
  | tuple => exact W.isinstance_tuple_data ra fun tk _ => ⟨.bl _, H, I.tok tk, by (cases x <;> rfl), q⟩
  | list => exact W.isinstance_list_data ra fun tk _ => ⟨.bl _, H, I.tok tk, by (cases x <;> rfl), q⟩
end
end Mi

set_option maxHeartbeats 4000000
/-! Readings. -/
namespace Mi
open PySem PySem.Spec PyProof.Rows L2

/-- how an exception of a text stands: which class of the text, its arguments; the class's value, the exception's own dict, the heap -/
abbrev XRel := Nat → List PyData → Hp → Value → Option Addr → Hp → Prop
structure Wish (K : W.Frag) (XR : XRel) (c : Bool) (W : XK) (G : R → Prop) (F B : Hp) (m : List Addr) : Prop where
  st : ¬ G .stuck
  er : c = false → ∀ n xs S' F' m' H' cls d, G (.err n xs S') → Ext F m F' m' → HR K F' B m' H' S' → XR n xs F' cls d H' → W cls d H'
theorem Wish.mono {K : W.Frag} {XR : XRel} {c : Bool} {W : XK} {G : R → Prop} {F B F' : Hp} {m m' : List Addr} (w : Wish K XR c W G F B m) (e : Ext F m F' m') : Wish K XR c W G F' B m' :=
  ⟨w.st, fun hc n xs S' F2 m2 H2 cls d g e2 => w.er hc n xs S' F2 m2 H2 cls d g (e.trans e2)⟩
/-- an expression -/
def tE (K : W.Frag) (XR : XRel) (c : Bool) (W : XK) (ev : Sl → Store → KE → R) : TE := fun σ H Q => ∃ (G : R → Prop) (F B : Hp) (m : List Addr) (μ : Sl) (S : Store) (k : KE), Wish K XR c W G F B m ∧ SR K F B m σ H μ S ∧ G (ev μ S k) ∧
  ∀ F' m' μ' S' pv v H', Ext F m F' m' → SR K F' B m' σ H' μ' S' → PR K F' B m' σ H' μ' pv v → G (k pv μ' S') → Q v H'
/-- a list of arguments -/
def tA (K : W.Frag) (XR : XRel) (c : Bool) (W : XK) (ev : Sl → Store → (List MV → Sl → Store → R) → R) : TA := fun σ H Q => ∃ (G : R → Prop) (F B : Hp) (m : List Addr) (μ : Sl) (S : Store) (k : List MV → Sl → Store → R), Wish K XR c W G F B m ∧ SR K F B m σ H μ S ∧ G (ev μ S k) ∧
  ∀ F' m' μ' S' xs vs H', Ext F m F' m' → SR K F' B m' σ H' μ' S' → VRs K F' m' σ xs vs → G (k xs μ' S') → Q vs H'
/-- a test -/
def tT (K : W.Frag) (XR : XRel) (c : Bool) (W : XK) (ev : Sl → Store → (Bool → Sl → Store → R) → R) : TT := fun σ H Q => ∃ (G : R → Prop) (F B : Hp) (m : List Addr) (μ : Sl) (S : Store) (k : Bool → Sl → Store → R), Wish K XR c W G F B m ∧ SR K F B m σ H μ S ∧ G (ev μ S k) ∧
  ∀ F' m' μ' S' b H', Ext F m F' m' → SR K F' B m' σ H' μ' S' → G (k b μ' S') → Q b H'
/-- an optional int -/
def tO (K : W.Frag) (XR : XRel) (c : Bool) (W : XK) (ev : Sl → Store → (Option Int → Sl → Store → R) → R) : TO := fun σ H Q => ∃ (G : R → Prop) (F B : Hp) (m : List Addr) (μ : Sl) (S : Store) (k : Option Int → Sl → Store → R), Wish K XR c W G F B m ∧ SR K F B m σ H μ S ∧ G (ev μ S k) ∧
  ∀ F' m' μ' S' o H', Ext F m F' m' → SR K F' B m' σ H' μ' S' → G (k o μ' S') → Q o H'
/-- a target -/
def tG (K : W.Frag) (XR : XRel) (c : Bool) (W : XK) (as : MV → Sl → Store → KN → R) : TG := fun v σ H Q => ∃ (G : R → Prop) (F B : Hp) (m : List Addr) (μ : Sl) (S : Store) (k : KN) (x : MV), Wish K XR c W G F B m ∧ SR K F B m σ H μ S ∧ VR K F m σ x v ∧ G (as x μ S k) ∧
  ∀ F' m' μ' S' σ' H', Ext F m F' m' → SR K F' B m' σ' H' μ' S' → G (k μ' S') → Q σ' H'
def tGs (K : W.Frag) (XR : XRel) (c : Bool) (W : XK) (as : List PyData → Sl → Store → KN → R) : TGs := fun vs σ H Q => ∃ (G : R → Prop) (F B : Hp) (m : List Addr) (μ : Sl) (S : Store) (k : KN) (xs : List PyData), Wish K XR c W G F B m ∧ SR K F B m σ H μ S ∧ DRs K F vs xs ∧ G (as xs μ S k) ∧
  ∀ F' m' μ' S' σ' H', Ext F m F' m' → SR K F' B m' σ' H' μ' S' → G (k μ' S') → Q σ' H'

/-! ### what a run that is not stuck tells -/
section
variable {G : R → Prop} (st : ¬ G .stuck)
include st
theorem un_withD {v : MV} {k : PyData → R} (h : G (withD v k)) : ∃ x, v = .d x ∧ G (k x) := by
  cases v with
  | d x => exact ⟨x, rfl, h⟩
  | ref p => exact absurd h st
  | own i => exact absurd h st
theorem un_withDs {vs : List MV} {k : List PyData → R} (h : G (withDs vs k)) : ∃ xs, datL vs = some xs ∧ G (k xs) := by
  unfold withDs at h
  cases q : datL vs with
  | none => rw [q] at h; exact absurd h st
  | some xs => rw [q] at h; exact ⟨xs, rfl, h⟩
theorem un_withL {v : MV} {μ : Sl} {S : Store} {k : PyData → R} (h : G (withL v μ S k)) : ∃ x, datV μ S v = some x ∧ G (k x) := by
  unfold withL at h
  cases q : datV μ S v with
  | none => rw [q] at h; exact absurd h st
  | some x => rw [q] at h; exact ⟨x, rfl, h⟩
theorem un_withB {pv : PV} {k : Bool → R} (h : G (withB pv k)) : ∃ b, pv = .val (.d (.bool b)) ∧ G (k b) := by
  cases pv with
  | new xs => exact absurd h st
  | val x =>
    cases x with
    | d y =>
      cases y with
      | bool b => exact ⟨b, rfl, h⟩
      | _ => exact absurd h st
    | _ => exact absurd h st
theorem un_withI {v : MV} {k : Int → R} (h : G (withI v k)) : ∃ i, v = .d (.int i) ∧ G (k i) := by
  cases v with
  | d y =>
    cases y with
    | int b => exact ⟨b, rfl, h⟩
    | _ => exact absurd h st
  | _ => exact absurd h st
theorem un_ofO {o : Option PV} {μ : Sl} {S : Store} {k : KE} (h : G (ofO μ S k o)) : ∃ pv, o = some pv ∧ G (k pv μ S) := by
  cases o with
  | none => exact absurd h st
  | some pv => exact ⟨pv, rfl, h⟩
theorem un_ofB {o : Option Bool} {μ : Sl} {S : Store} {k : KE} (h : G (ofB μ S k o)) : ∃ b, o = some b ∧ G (k (.val (.d (.bool b))) μ S) := by
  cases o with
  | none => exact absurd h st
  | some b => exact ⟨b, rfl, h⟩
theorem un_if {p : Prop} [Decidable p] {r : R} (h : G (if p then r else .stuck)) : p ∧ G r := by
  by_cases hp : p
  · rw [if_pos hp] at h; exact ⟨hp, h⟩
  · rw [if_neg hp] at h; exact absurd h st
end
section
variable {K : W.Frag} {XR : XRel} {c : Bool} {W : XK}
/-- the end of an operation, back among the states -/
theorem back {G : R → Prop} {F B H : Hp} {m : List Addr} {σ : L2.St} {μ : Sl} {S : Store} {k : KE} {Q : VK} {pv : PV} (r : SR K F B m σ H μ S)
    (q : ∀ F' m' μ' S' pv v H', Ext F m F' m' → SR K F' B m' σ H' μ' S' → PR K F' B m' σ H' μ' pv v → G (k pv μ' S') → Q v H') (g : G (k pv μ S)) :
    ∀ F' H' v, Grow F H F' H' → NR K H F' H' pv v → Q v H' := fun F' H' v gr nr => q F' m μ S pv v H' ⟨gr.ff, List.prefix_refl _⟩ (r.grow gr) (nr.pr r gr) g
theorem wipe_lenS (μ : Sl) : ∀ vs : List Nat, (wipeS μ vs).length = μ.length
  | [] => rfl
  | v :: vs => by unfold wipeS; rw [List.length_set, wipe_lenS μ vs]
theorem wipe_getS {μ : Sl} {i : Nat} {x : SV} : ∀ {vs : List Nat}, (wipeS μ vs)[i]? = some (some x) → μ[i]? = some (some x) ∧ i ∉ vs
  | [], h => ⟨h, by simp⟩
  | v :: vs, h => by
    unfold wipeS at h
    by_cases hi : v = i
    · subst hi
      by_cases hv : v < (wipeS μ vs).length
      · rw [List.getElem?_set_self hv] at h; cases h
      · rw [List.getElem?_eq_none (by simpa using hv)] at h; cases h
    · rw [List.getElem?_set_ne hi] at h
      obtain ⟨h1, h2⟩ := wipe_getS h
      exact ⟨h1, by simp only [List.mem_cons, not_or]; exact ⟨fun e => hi e.symm, h2⟩⟩
theorem wipe_keep {σ : L2.St} {i : Nat} : ∀ {vs : List Nat}, i ∉ vs → (wipe σ vs)[i]? = σ[i]?
  | [], _ => rfl
  | v :: vs, h => by
    simp only [List.mem_cons, not_or] at h
    unfold wipe
    rw [List.getElem?_set_ne (Ne.symm h.1), wipe_keep h.2]
theorem SR.wiped {F B H : Hp} {m : List Addr} {σ : L2.St} {μ : Sl} {S : Store} (r : SR K F B m σ H μ S) (vs : List Nat) : SR K F B m (wipe σ vs) H (wipeS μ vs) S where
  hr := r.hr
  len := by rw [wipe_lenS, wipe_length, r.len]
  val := fun i x e => by
    obtain ⟨h1, h2⟩ := wipe_getS e
    obtain ⟨v, k1, k2⟩ := r.val i x h1
    exact ⟨v, by rw [wipe_keep h2]; exact k1, k2⟩
  own := fun i xs e => by
    obtain ⟨h1, h2⟩ := wipe_getS e
    obtain ⟨a, vs', k1, k2⟩ := r.own i xs h1
    exact ⟨a, vs', by rw [wipe_keep h2]; exact k1, k2⟩
  ownd := fun i j xs ys v e1 e2 e3 e4 => by
    obtain ⟨h1, h2⟩ := wipe_getS e1
    obtain ⟨h3, h4⟩ := wipe_getS e2
    rw [wipe_keep h2] at e3
    rw [wipe_keep h4] at e4
    exact r.ownd i j xs ys v h1 h3 e3 e4
theorem back_len (μ0 μ : Sl) : ∀ vs : List Nat, (backS μ0 μ vs).length = μ.length
  | [] => rfl
  | v :: vs => by unfold backS; rw [List.length_set, back_len μ0 μ vs]
theorem back_get {μ0 μ : Sl} {i : Nat} {x : Option SV} : ∀ {vs : List Nat}, (backS μ0 μ vs)[i]? = some x → (i ∈ vs ∧ μ0.getD i none = x) ∨ (i ∉ vs ∧ μ[i]? = some x)
  | [], h => .inr ⟨by simp, h⟩
  | v :: vs, h => by
    unfold backS at h
    by_cases hi : v = i
    · subst hi
      by_cases hv : v < (backS μ0 μ vs).length
      · rw [List.getElem?_set_self hv] at h
        exact .inl ⟨List.mem_cons_self, Option.some.inj h⟩
      · rw [List.getElem?_eq_none (by simpa using hv)] at h; cases h
    · rw [List.getElem?_set_ne hi] at h
      rcases back_get h with ⟨h1, h2⟩ | ⟨h1, h2⟩
      · exact .inl ⟨List.mem_cons_of_mem _ h1, h2⟩
      · exact .inr ⟨by simp only [List.mem_cons, not_or]; exact ⟨fun e => hi e.symm, h1⟩, h2⟩
theorem wipe_keepS {μ : Sl} {i : Nat} : ∀ {vs : List Nat}, i ∉ vs → (wipeS μ vs)[i]? = μ[i]?
  | [], _ => rfl
  | v :: vs, h => by
    simp only [List.mem_cons, not_or] at h
    unfold wipeS
    rw [List.getElem?_set_ne (Ne.symm h.1), wipe_keepS h.2]
theorem noOwn_at {vs : List Nat} {μ : Sl} {i : Nat} {xs : List PyData} (h : noOwnIn vs μ = true) (hi : i ∈ vs) : μ.getD i none ≠ some (.own xs) := by
  unfold noOwnIn at h
  rw [List.all_eq_true] at h
  have q := h i hi
  intro e
  rw [List.getD_eq_getElem?_getD] at e
  cases k : μ[i]? with
  | none => rw [k] at e; cases e
  | some o =>
    rw [k] at e q
    have e : o = some (.own xs) := e
    subst e
    cases q
theorem SR.backed {F0 F B0 B H0 H : Hp} {m0 m : List Addr} {σ : L2.St} {μ0 μ : Sl} {S0 S : Store} {vs : List Nat} (r0 : SR K F0 B0 m0 σ H0 μ0 S0) (e : Ext F0 m0 F m) (no : noOwnIn vs μ0 = true) (r : SR K F B m (wipe σ vs) H (wipeS μ vs) S) : SR K F B m σ H (backS μ0 μ vs) S where
  hr := r.hr
  len := by rw [back_len, ← wipe_lenS μ vs, r.len, wipe_length]
  val := fun i x q => by
    rcases back_get q with ⟨h1, h2⟩ | ⟨h1, h2⟩
    · rw [List.getD_eq_getElem?_getD] at h2
      cases k : μ0[i]? with
      | none => rw [k] at h2; cases h2
      | some o =>
        rw [k] at h2
        have h2 : o = some (.v x) := h2
        subst h2
        obtain ⟨v, k1, k2⟩ := r0.val i x k
        exact ⟨v, k1, k2.mono e⟩
    · rw [← wipe_keepS h1] at h2
      obtain ⟨v, k1, k2⟩ := r.val i x h2
      rw [wipe_keep h1] at k1
      exact ⟨v, k1, k2⟩
  own := fun i xs q => by
    rcases back_get q with ⟨h1, h2⟩ | ⟨h1, h2⟩
    · exact absurd h2 (noOwn_at no h1)
    · rw [← wipe_keepS h1] at h2
      obtain ⟨a, ws, k1, k2⟩ := r.own i xs h2
      rw [wipe_keep h1] at k1
      exact ⟨a, ws, k1, k2⟩
  ownd := fun i j xs ys v q1 q2 q3 q4 => by
    rcases back_get q1 with ⟨h1, h2⟩ | ⟨h1, h2⟩
    · exact absurd h2 (noOwn_at no h1)
    · rcases back_get q2 with ⟨h3, h4⟩ | ⟨h3, h4⟩
      · exact absurd h4 (noOwn_at no h3)
      · rw [← wipe_keepS h1] at h2
        rw [← wipe_keepS h3] at h4
        exact r.ownd i j xs ys v h2 h4 (by rw [wipe_keep h1]; exact q3) (by rw [wipe_keep h3]; exact q4)
end
end Mi

set_option maxHeartbeats 4000000
/-! The rules for expressions, one by one. -/
namespace Mi
open PySem PySem.Spec PyProof.Rows L2

abbrev EvE := Sl → Store → KE → R
abbrev EvT := Sl → Store → (Bool → Sl → Store → R) → R
abbrev EvA := Sl → Store → (List MV → Sl → Store → R) → R
abbrev EvO := Sl → Store → (Option Int → Sl → Store → R) → R
/-- an expression as a test -/
def tst (ev : EvE) : EvT := fun μ S k => ev μ S fun x μ S => withB x fun b => k b μ S
section
variable {K : W.Frag} {XR : XRel} {c : Bool} {W : XK} {G : R → Prop} {F B : Hp} {m : List Addr} {σ : L2.St} {H : Hp} {μ : Sl} {S : Store}
theorem VR.extF {F' : Hp} (s : Sub F F') {x : MV} {v : V} (r : VR K F m σ x v) : VR K F' m σ x v := r.mono ⟨s, List.prefix_refl _⟩
theorem tE_go {ev : EvE} {k : KE} {P : VK} (w : Wish K XR c W G F B m) (r : SR K F B m σ H μ S) (g : G (ev μ S k))
    (q : ∀ F' m' μ' S' pv v H', Ext F m F' m' → Wish K XR c W G F' B m' → SR K F' B m' σ H' μ' S' → VR K F' m' σ pv.seal v → G (k pv μ' S') → P v H') : tE K XR c W ev σ H P := by
  refine ⟨G, F, B, m, μ, S, k, w, r, g, fun F' m' μ' S' pv v H' e r' p g' => ?_⟩
  obtain ⟨F2, r2, s2, v2⟩ := p.seal r'
  have e2 : Ext F m F2 m' := e.trans ⟨s2, List.prefix_refl _⟩
  exact q F2 m' μ' S' pv v H' e2 (w.mono e2) r2 v2 g'
theorem tA_go {ev : EvA} {k : List MV → Sl → Store → R} {P : List V → Hp → Prop} (w : Wish K XR c W G F B m) (r : SR K F B m σ H μ S) (g : G (ev μ S k))
    (q : ∀ F' m' μ' S' xs vs H', Ext F m F' m' → Wish K XR c W G F' B m' → SR K F' B m' σ H' μ' S' → VRs K F' m' σ xs vs → G (k xs μ' S') → P vs H') : tA K XR c W ev σ H P :=
  ⟨G, F, B, m, μ, S, k, w, r, g, fun F' m' μ' S' xs vs H' e r' p g' => q F' m' μ' S' xs vs H' e (w.mono e) r' p g'⟩
theorem tT_go {ev : EvT} {k : Bool → Sl → Store → R} {P : Bool → Hp → Prop} (w : Wish K XR c W G F B m) (r : SR K F B m σ H μ S) (g : G (ev μ S k))
    (q : ∀ F' m' μ' S' b H', Ext F m F' m' → Wish K XR c W G F' B m' → SR K F' B m' σ H' μ' S' → G (k b μ' S') → P b H') : tT K XR c W ev σ H P :=
  ⟨G, F, B, m, μ, S, k, w, r, g, fun F' m' μ' S' b H' e r' g' => q F' m' μ' S' b H' e (w.mono e) r' g'⟩
theorem tO_go {ev : EvO} {k : Option Int → Sl → Store → R} {P : Option Int → Hp → Prop} (w : Wish K XR c W G F B m) (r : SR K F B m σ H μ S) (g : G (ev μ S k))
    (q : ∀ F' m' μ' S' b H', Ext F m F' m' → Wish K XR c W G F' B m' → SR K F' B m' σ H' μ' S' → G (k b μ' S') → P b H') : tO K XR c W ev σ H P :=
  ⟨G, F, B, m, μ, S, k, w, r, g, fun F' m' μ' S' b H' e r' g' => q F' m' μ' S' b H' e (w.mono e) r' g'⟩
theorem dr_int {v : V} {i : Int} (h : DR K F v (.int i)) : v = .int i := by cases h; rfl
theorem dr_bool {v : V} {i : Bool} (h : DR K F v (.bool i)) : v = .bl i := by cases h; rfl
theorem vr_int {v : V} {i : Int} (h : VR K F m σ (.d (.int i)) v) : v = .int i := dr_int h
theorem vr_bool {v : V} {i : Bool} (h : VR K F m σ (.d (.bool i)) v) : v = .bl i := dr_bool h
theorem VR.lr' (r : SR K F B m σ H μ S) {x : MV} {v : V} (h : VR K F m σ x v) {y : PyData} (e : datV μ S x = some y) : ∃ F, Sub F H ∧ LR K F H v y := ⟨F, r.hr.fF, h.lr r e⟩
theorem prI {i : Int} : PR K F B m σ H μ (.val (.d (.int i))) (.int i) := DR.int i
theorem prB {i : Bool} : PR K F B m σ H μ (.val (.d (.bool i))) (.bl i) := DR.bl i
/-- a test's own -/
theorem tst_tE {ev : EvE} {Q : Bool → Hp → Prop} (h : tT K XR c W (tst ev) σ H Q) : tE K XR c W ev σ H fun x H1 => ∃ k, x = .bl k ∧ Q k H1 := by
  obtain ⟨G, F, B, m, μ, S, k, w, r, g, q⟩ := h
  refine ⟨G, F, B, m, μ, S, _, w, r, g, fun F' m' μ' S' pv v H' e r' p g' => ?_⟩
  obtain ⟨b, rfl, g2⟩ := un_withB w.st g'
  exact ⟨b, dr_bool p, q F' m' μ' S' b H' e r' g2⟩
end
section
variable {X : Cx} {XR : XRel} {c : Bool} {W : XK} {a b e : Expr} {eva evb evc ev : EvE} {pos : Pos}
theorem pe_imp {t t' : TE} (h : PE X e t) (i : ∀ σ H Q, t' σ H Q → t σ H Q) : PE X e t' := ⟨fun pins s σ H Q I w => h.run pins s σ H Q I (i _ _ _ w)⟩
theorem pt_imp {t t' : TT} (h : PT X e t) (i : ∀ σ H Q, t' σ H Q → t σ H Q) : PT X e t' := ⟨fun pins s σ H Q I w => h.run pins s σ H Q I (i _ _ _ w)⟩
theorem pw_imp {t t' : TT} (h : PW X e t) (i : ∀ σ H Q, t' σ H Q → t σ H Q) : PW X e t' := ⟨fun wh pins s σ H Q I w => h.run wh pins s σ H Q I (i _ _ _ w)⟩
/-- an expression that is its own test -/
def plainT : Expr → Bool
  | .UnaryOp .Not .. | .BoolOp .. | .IfExp .. | .Compare .. => false
  | _ => true
theorem plainT_eq (h : plainT e = true) {env : Env} : ∀ whole, isTrue e env whole = (do let v ← whole; standAt e.pos; holding [v] (truthy v)) := by
  intro whole
  cases e with
  | UnaryOp op x p => cases op with
    | Not => exact absurd (show false = true from h) Bool.false_ne_true
    | _ => rfl
  | BoolOp => exact absurd (show false = true from h) Bool.false_ne_true
  | IfExp => exact absurd (show false = true from h) Bool.false_ne_true
  | Compare => exact absurd (show false = true from h) Bool.false_ne_true
  | _ => rfl
theorem st_plain (hp : plainT e = true) (h : PE X e (tE X.K XR c W ev)) : PT X e (tT X.K XR c W (tst ev)) :=
  pt_imp (pt_val h (plainT_eq hp)) fun σ H Q hq => tst_tE hq

/-! ### constants, names -/
theorem se_const {x : PyData} {v : V} (h : PE X e (tC v)) (d : ∀ F, DR X.K F v x) : PE X e (tE X.K XR c W fun μ S k => k (.val (.d x)) μ S) :=
  pe_imp h fun σ H Q ⟨G, F, B, m, μ, S, k, w, r, g, q⟩ => q F m μ S (.val (.d x)) v H .refl r (d F) g
theorem se_var {i : Nat} {x : Str} (hN : X.N[i]? = some x) (hv : Vis X.env.scope x) (hd : (x == ("__debug__" : Str)) = false) (hcd : (x == ("__classdict__" : Str)) = false) :
    PE X (.Name x pos) (tE X.K XR c W fun μ S k => match μ[i]? with
      | some (some (.v x)) => k (.val x) μ S
      | some (some (.own _)) => k (.val (.own i)) μ S
      | _ => .stuck) := by
  refine pe_imp (pe_var hN hv hd hcd) fun σ H Q ⟨G, F, B, m, μ, S, k, w, r, g, q⟩ => ?_
  dsimp only at g
  cases q1 : μ[i]? with
  | none => rw [q1] at g; exact absurd g w.st
  | some o =>
    rw [q1] at g
    cases o with
    | none => exact absurd g w.st
    | some sv =>
      cases sv with
      | v x =>
        obtain ⟨v, h1, h2⟩ := r.val i x q1
        exact ⟨v, h1, q F m μ S (.val x) v H .refl r h2.vr g⟩
      | own xs =>
        obtain ⟨a, vs, h1, _⟩ := r.own i xs q1
        exact ⟨_, h1, q F m μ S (.val (.own i)) _ H .refl r h1 g⟩

/-! ### operators -/
/-- two operands -/
theorem two {r : R2} {σ : L2.St} {H : Hp} {Q : VK} {ek : PV → PV → Sl → Store → KE → R}
    (h : tE X.K XR c W (fun μ S k => eva μ S fun x μ S => evb μ S fun y μ S => ek x y μ S k) σ H Q)
    (f : ∀ (G : R → Prop) (F B : Hp) (m : List Addr) (μ : Sl) (S : Store) (k : KE) (p1 p2 : PV) (v1 v2 : V) (H2 : Hp), Wish X.K XR c W G F B m → SR X.K F B m σ H2 μ S → VR X.K F m σ p1.seal v1 → VR X.K F m σ p2.seal v2 → G (ek p1 p2 μ S k) →
      (∀ F' m' μ' S' pv v H', Ext F m F' m' → SR X.K F' B m' σ H' μ' S' → PR X.K F' B m' σ H' μ' pv v → G (k pv μ' S') → Q v H') → r v1 v2 H2 Q) :
    tOp r (tE X.K XR c W eva) (tE X.K XR c W evb) σ H Q := by
  obtain ⟨G, F, B, m, μ, S, k, w, r, g, q⟩ := h
  refine tE_go w r g fun F1 m1 μ1 S1 p1 v1 H1 e1 w1 r1 vr1 g1 => ?_
  refine tE_go w1 r1 g1 fun F2 m2 μ2 S2 p2 v2 H2 e2 w2 r2 vr2 g2 => ?_
  exact f G F2 B m2 μ2 S2 k p1 p2 v1 v2 H2 w2 r2 (vr1.mono e2) vr2 g2 fun F' m' μ' S' pv v H' e => q F' m' μ' S' pv v H' ((e1.trans e2).trans e)
theorem se_bin (op : BOp) (ha : PE X a (tE X.K XR c W eva)) (hb : PE X b (tE X.K XR c W evb)) :
    PE X (.BinOp a (boM op) b pos) (tE X.K XR c W fun μ S k => eva μ S fun x μ S => evb μ S fun y μ S => withL x.seal μ S fun x => withL y.seal μ S fun y => ofO μ S k (bopD op x y)) := by
  refine pe_imp (pe_op (bop_ok op) ha hb) fun σ H Q h => two (ek := fun x y μ S k => withL x.seal μ S fun x => withL y.seal μ S fun y => ofO μ S k (bopD op x y)) h fun G F B m μ S k p1 p2 v1 v2 H2 w r vr1 vr2 g q => ?_
  obtain ⟨dx, ex, g⟩ := un_withL w.st g
  obtain ⟨dy, ey, g⟩ := un_withL w.st g
  obtain ⟨pv, eo, g⟩ := un_ofO w.st g
  exact ⟨F, dx, dy, pv, r.hr.fF, vr1.lr r ex, vr2.lr r ey, eo, back r q g⟩
theorem se_neg (ha : PE X a (tE X.K XR c W eva)) :
    PE X (.UnaryOp .USub a pos) (tE X.K XR c W fun μ S k => eva μ S fun x μ S => withI x.seal fun i => k (.val (.d (.int (-i)))) μ S) := by
  refine pe_imp (pe_un un_neg ha) fun σ H Q ⟨G, F, B, m, μ, S, k, w, r, g, q⟩ => ?_
  refine tE_go w r g fun F1 m1 μ1 S1 p1 v1 H1 e1 w1 r1 vr1 g1 => ?_
  obtain ⟨i, ei, g2⟩ := un_withI w.st g1
  rw [ei] at vr1
  exact ⟨i, vr_int vr1, q F1 m1 μ1 S1 _ _ H1 e1 r1 prI g2⟩
theorem se_not (ha : PE X a (tE X.K XR c W eva)) :
    PE X (.UnaryOp .Not a pos) (tE X.K XR c W fun μ S k => eva μ S fun x μ S => withB x fun b => k (.val (.d (.bool (!b)))) μ S) := by
  refine pe_imp (pe_not ha) fun σ H Q ⟨G, F, B, m, μ, S, k, w, r, g, q⟩ => ?_
  refine tE_go w r g fun F1 m1 μ1 S1 p1 v1 H1 e1 w1 r1 vr1 g1 => ?_
  obtain ⟨b, rfl, g2⟩ := un_withB w.st g1
  exact ⟨b, vr_bool vr1, q F1 m1 μ1 S1 _ _ H1 e1 r1 prB g2⟩
theorem st_not (ha : PT X a (tT X.K XR c W (tst eva))) :
    PT X (.UnaryOp .Not a pos) (tT X.K XR c W (tst fun μ S k => eva μ S fun x μ S => withB x fun b => k (.val (.d (.bool (!b)))) μ S)) := by
  refine pt_imp (pt_not ha) fun σ H Q ⟨G, F, B, m, μ, S, k, w, r, g, q⟩ => ?_
  exact tT_go (k := fun b μ S => k (!b) μ S) w r g fun F' m' μ' S' b H' e w' r' g' => q F' m' μ' S' (!b) H' e r' g'

/-! ### comparisons -/
theorem se_cmp (hu : X.A.units + 200 < cLine) (op : COp) (hm : behindInMarks (coM op) b = false) (ha : PE X a (tE X.K XR c W eva)) (hb : PE X b (tE X.K XR c W evb)) :
    PE X (.Compare a [coM op] [b] pos) (tE X.K XR c W fun μ S k => eva μ S fun x μ S => evb μ S fun y μ S => withL x.seal μ S fun x => withL y.seal μ S fun y => ofB μ S k (cmpD op x y)) ∧
    PT X (.Compare a [coM op] [b] pos) (tT X.K XR c W (tst fun μ S k => eva μ S fun x μ S => evb μ S fun y μ S => withL x.seal μ S fun x => withL y.seal μ S fun y => ofB μ S k (cmpD op x y))) := by
  have key : ∀ σ H Q, tE X.K XR c W (fun μ S k => eva μ S fun x μ S => evb μ S fun y μ S => withL x.seal μ S fun x => withL y.seal μ S fun y => ofB μ S k (cmpD op x y)) σ H Q → tOp (rCmp X.K op) (tE X.K XR c W eva) (tE X.K XR c W evb) σ H Q := by
    refine fun σ H Q h => two (ek := fun x y μ S k => withL x.seal μ S fun x => withL y.seal μ S fun y => ofB μ S k (cmpD op x y)) h fun G F B m μ S k p1 p2 v1 v2 H2 w r vr1 vr2 g q => ?_
    obtain ⟨dx, ex, g⟩ := un_withL w.st g
    obtain ⟨dy, ey, g⟩ := un_withL w.st g
    obtain ⟨b, eo, g⟩ := un_ofB w.st g
    exact ⟨F, dx, dy, b, r.hr.fF, vr1.lr r ex, vr2.lr r ey, eo, q F m μ S _ _ H2 .refl r prB g⟩
  exact ⟨pe_imp (pe_cmpR (cmp_ok hu op) ha hb hm) key, pt_imp (pt_cmpR (cmp_ok hu op) ha hb hm) fun σ H Q h => key σ H _ (tst_tE h)⟩
theorem se_chain {d : Expr} (hu : X.A.units + 200 < cLine) (o1 o2 : COp) (hm : lastMarks [coM o1, coM o2] [b, d] = false) (ha : PE X a (tE X.K XR c W eva)) (hb : PE X b (tE X.K XR c W evb)) (hc : PE X d (tE X.K XR c W evc)) :
    PE X (.Compare a [coM o1, coM o2] [b, d] pos) (tE X.K XR c W fun μ S k => eva μ S fun x μ S => evb μ S fun y μ S =>
      withD x.seal fun x => withD y.seal fun y => match cmpD o1 x y with
        | some true => evc μ S fun z μ S => withD z.seal fun z => ofB μ S k (cmpD o2 y z)
        | some false => k (.val (.d (.bool false))) μ S
        | none => .stuck) ∧
    PT X (.Compare a [coM o1, coM o2] [b, d] pos) (tT X.K XR c W (tst fun μ S k => eva μ S fun x μ S => evb μ S fun y μ S =>
      withD x.seal fun x => withD y.seal fun y => match cmpD o1 x y with
        | some true => evc μ S fun z μ S => withD z.seal fun z => ofB μ S k (cmpD o2 y z)
        | some false => k (.val (.d (.bool false))) μ S
        | none => .stuck)) := by
  have key : ∀ σ H Q, tE X.K XR c W (fun μ S k => eva μ S fun x μ S => evb μ S fun y μ S =>
      withD x.seal fun x => withD y.seal fun y => match cmpD o1 x y with
        | some true => evc μ S fun z μ S => withD z.seal fun z => ofB μ S k (cmpD o2 y z)
        | some false => k (.val (.d (.bool false))) μ S
        | none => .stuck) σ H Q → tChain (rCmp X.K o1) (rCmp X.K o2) (tE X.K XR c W eva) (tE X.K XR c W evb) (tE X.K XR c W evc) σ H Q := by
    rintro σ H Q ⟨G, F, B, m, μ, S, k, w, r, g, q⟩
    refine tE_go w r g fun F1 m1 μ1 S1 p1 v1 H1 e1 w1 r1 vr1 g1 => ?_
    refine tE_go w1 r1 g1 fun F2 m2 μ2 S2 p2 v2 H2 e2 w2 r2 vr2 g2 => ?_
    have vr1 := vr1.mono e2
    obtain ⟨dx, ex, g2⟩ := un_withD w.st g2
    obtain ⟨dy, ey, g2⟩ := un_withD w.st g2
    rw [ex] at vr1
    rw [ey] at vr2
    cases ec : cmpD o1 dx dy with
    | none => rw [ec] at g2; exact absurd g2 w.st
    | some t =>
      rw [ec] at g2
      refine ⟨F2, dx, dy, t, r2.hr.fF, .dr vr1, .dr vr2, ec, t, rfl, ?_⟩
      cases t with
      | false => exact q F2 m2 μ2 S2 _ _ H2 (e1.trans e2) r2 prB g2
      | true =>
        refine tE_go w2 r2 g2 fun F3 m3 μ3 S3 p3 v3 H3 e3 w3 r3 vr3 g3 => ?_
        obtain ⟨dz, ez, g3⟩ := un_withD w.st g3
        rw [ez] at vr3
        obtain ⟨b, eb, g3⟩ := un_ofB w.st g3
        exact ⟨F3, dy, dz, b, r3.hr.fF, .dr (DR.mono e3.f vr2), .dr vr3, eb, q F3 m3 μ3 S3 _ _ H3 ((e1.trans e2).trans e3) r3 prB g3⟩
  exact ⟨pe_imp (pe_chain (cmp_ok hu o1) (cmp_ok hu o2) ha hb hc hm) key, pt_imp (pt_chain (cmp_ok hu o1) (cmp_ok hu o2) ha hb hc hm) fun σ H Q h => key σ H _ (tst_tE h)⟩
/-! ### a if t else b -/
theorem se_ite {d : Expr} (ht : PT X a (tT X.K XR c W (tst eva))) (ha : PE X b (tE X.K XR c W evb)) (hb : PE X d (tE X.K XR c W evc)) :
    PE X (.IfExp a b d pos) (tE X.K XR c W fun μ S k => eva μ S fun x μ S => withB x fun t => if t then evb μ S k else evc μ S k) := by
  refine pe_imp (pe_ifExp ht ha hb) fun σ H Q ⟨G, F, B, m, μ, S, k, w, r, g, q⟩ => ?_
  refine tT_go (k := fun t μ S => if t then evb μ S k else evc μ S k) w r g fun F1 m1 μ1 S1 t H1 e1 w1 r1 g1 => ?_
  cases t with
  | true => exact ⟨G, F1, B, m1, μ1, S1, k, w1, r1, g1, fun F' m' μ' S' pv v H' e => q F' m' μ' S' pv v H' (e1.trans e)⟩
  | false => exact ⟨G, F1, B, m1, μ1, S1, k, w1, r1, g1, fun F' m' μ' S' pv v H' e => q F' m' μ' S' pv v H' (e1.trans e)⟩
/-! ### subscripts -/
theorem se_idx (hs : PlainIx b) (ha : PE X a (tE X.K XR c W eva)) (hb : PE X b (tE X.K XR c W evb)) :
    PE X (.Subscript a b pos) (tE X.K XR c W fun μ S k => eva μ S fun x μ S => evb μ S fun y μ S => withI y.seal fun i =>
      match x.seal with
      | .ref p => (match S[p]? with
        | some (.lst xs) => (match L2.atI xs i with
          | some v => k (.val v) μ S
          | none => .stuck)
        | _ => .stuck)
      | v => withL v μ S fun x => match idxD x i with
        | some z => k (.val (.d z)) μ S
        | none => .stuck) := by
  refine pe_imp (pe_ix (IxR.or idx_ok idxM_ok) ha hb hs) fun σ H Q h => two (ek := fun x y μ S k => withI y.seal fun i =>
      match x.seal with
      | .ref p => (match S[p]? with
        | some (.lst xs) => (match L2.atI xs i with
          | some v => k (.val v) μ S
          | none => .stuck)
        | _ => .stuck)
      | v => withL v μ S fun x => match idxD x i with
        | some z => k (.val (.d z)) μ S
        | none => .stuck) h fun G F B m μ S k p1 p2 v1 v2 H2 w r vr1 vr2 g q => ?_
  obtain ⟨i, ei, g⟩ := un_withI w.st g
  rw [ei] at vr2
  obtain rfl := vr_int vr2
  have other : G (withL p1.seal μ S fun x => match idxD x i with
        | some z => k (.val (.d z)) μ S
        | none => .stuck) → (rIdx X.K v1 (.int i) H2 Q ∨ rIdxM X.K v1 (.int i) H2 Q) := fun g => by
    obtain ⟨dx, ex, g⟩ := un_withL w.st g
    cases ez : idxD dx i with
    | none => rw [ez] at g; exact absurd g w.st
    | some z =>
      rw [ez] at g
      exact .inl ⟨F, dx, i, z, r.hr.fF, vr1.lr r ex, rfl, ez, fun v d => q F m μ S (.val (.d z)) v H2 .refl r d g⟩
  cases eq : p1.seal with
  | d x => rw [eq] at g other; exact other g
  | own j => rw [eq] at g other; exact other g
  | ref p =>
    rw [eq] at g vr1
    obtain ⟨a', h1, rfl⟩ := vr1
    cases eS : S[p]? with
    | none => simp only [eS] at g; exact absurd g w.st
    | some o =>
      simp only [eS] at g
      cases o with
      | dead => exact absurd g w.st
      | lst xs =>
        cases ea : L2.atI xs i with
        | none => simp only [ea] at g; exact absurd g w.st
        | some z =>
          simp only [ea] at g
          obtain ⟨a2, vs, k1, k2, k3, k4⟩ := r.hr.st p xs eS
          rw [h1] at k1
          cases k1
          have : ∃ v, L2.atI vs i = some v ∧ VR0 X.K F m z v := by
            unfold L2.atI at ea ⊢
            rw [← k4.length]
            obtain ⟨n, hn, hx⟩ := Option.bind_eq_some_iff.mp ea
            obtain ⟨v, h3, h4⟩ := k4.get hx
            exact ⟨v, by rw [hn]; exact h3, h4⟩
          obtain ⟨v, hv, hr⟩ := this
          exact .inr ⟨a', vs, i, v, rfl, k3, rfl, hv, q F m μ S (.val z) v H2 .refl r hr.vr g⟩
theorem so_none : PO X none (tO X.K XR c W fun μ S k => k none μ S) :=
  ⟨fun pins s σ H Q I ⟨G, F, B, m, μ, S, k, w, r, g, q⟩ => po_none.run pins s σ H Q I (q F m μ S none H .refl r g)⟩
theorem so_some (h : PE X e (tE X.K XR c W ev)) : PO X (some e) (tO X.K XR c W fun μ S k => ev μ S fun x μ S => withI x.seal fun i => k (some i) μ S) :=
  ⟨fun pins s σ H Q I ⟨G, F, B, m, μ, S, k, w, r, g, q⟩ => (po_some h).run pins s σ H Q I (by
    refine tE_go w r g fun F1 m1 μ1 S1 p1 v1 H1 e1 w1 r1 vr1 g1 => ?_
    obtain ⟨i, ei, g2⟩ := un_withI w.st g1
    rw [ei] at vr1
    exact ⟨i, vr_int vr1, q F1 m1 μ1 S1 (some i) H1 e1 r1 g2⟩)⟩
theorem se_slice {lo hi : Option Expr} {evl evh : EvO} {p2 : Pos} (ha : PE X a (tE X.K XR c W eva)) (hl : PO X lo (tO X.K XR c W evl)) (hh : PO X hi (tO X.K XR c W evh)) :
    PE X (.Subscript a (.Slice lo hi none p2) pos) (tE X.K XR c W fun μ S k => eva μ S fun x μ S => evl μ S fun lo μ S => evh μ S fun hi μ S => withL x.seal μ S fun x => ofO μ S k (sliceD x lo hi)) := by
  refine pe_imp (pe_slice sli_ok ha hl hh) fun σ H Q ⟨G, F, B, m, μ, S, k, w, r, g, q⟩ => ?_
  refine tE_go w r g fun F1 m1 μ1 S1 p1 v1 H1 e1 w1 r1 vr1 g1 => ?_
  refine tO_go w1 r1 g1 fun F2 m2 μ2 S2 lo H2 e2 w2 r2 g2 => ?_
  refine tO_go w2 r2 g2 fun F3 m3 μ3 S3 hi H3 e3 w3 r3 g3 => ?_
  obtain ⟨dx, ex, g⟩ := un_withL w.st g3
  obtain ⟨pv, eo, g⟩ := un_ofO w.st g
  exact ⟨F3, dx, pv, r3.hr.fF, ((vr1.mono e2).mono e3).lr r3 ex, eo, back r3 (fun F' m' μ' S' pv v H' e => q F' m' μ' S' pv v H' (((e1.trans e2).trans e3).trans e)) g⟩
theorem se_rev {k0 : Nat} {p1 p2 p3 : Pos} (ha : PE X a (tE X.K XR c W eva)) :
    PE X (.Subscript a (.Slice none none (some (.UnaryOp .USub (.Constant (.int 1) k0 p1) p2)) p3) pos) (tE X.K XR c W fun μ S k => eva μ S fun x μ S => withL x.seal μ S fun x => ofO μ S k (revD x)) := by
  refine pe_imp (pe_rev ha) fun σ H Q ⟨G, F, B, m, μ, S, k, w, r, g, q⟩ => ?_
  refine tE_go w r g fun F1 m1 μ1 S1 p1 v1 H1 e1 w1 r1 vr1 g1 => ?_
  obtain ⟨dx, ex, g⟩ := un_withL w.st g1
  obtain ⟨pv, eo, g⟩ := un_ofO w.st g
  exact ⟨F1, dx, pv, r1.hr.fF, vr1.lr r1 ex, eo, back r1 (fun F' m' μ' S' pv v H' e => q F' m' μ' S' pv v H' (e1.trans e)) g⟩
end
end Mi

set_option maxHeartbeats 4000000
/-! The rules for expressions, second part: and, or, displays, built-ins, what the states do on the side. -/
namespace Mi
open PySem PySem.Spec PyProof.Rows L2
section
variable {X : Cx} {XR : XRel} {c : Bool} {W : XK} {a b e : Expr} {es : List Expr} {eva evb evc ev : EvE} {evl : EvA} {pos : Pos}
/-! ### and, or -/
theorem tst_one {σ : L2.St} {H : Hp} {Q : Bool → Hp → Prop} (h : tT X.K XR c W (tst fun μ S k => ev μ S fun x μ S => k (.val x.seal) μ S) σ H Q) : tT X.K XR c W (tst ev) σ H Q := by
  obtain ⟨G, F, B, m, μ, S, k, w, r, g, q⟩ := h
  refine ⟨G, F, B, m, μ, S, k, w, r, ?_, q⟩
  have e : (tst fun μ S k => ev μ S fun x μ S => k (.val x.seal) μ S) μ S k = tst ev μ S k := by
    unfold tst
    show ev μ S _ = ev μ S _
    congr 1
    funext x μ S
    cases x with
    | val x => rfl
    | new xs => rfl
  rw [← e]
  exact g
theorem se_one {op : BoolOp} (h : PE X e (tE X.K XR c W ev)) : PE X (.BoolOp op [e] pos) (tE X.K XR c W fun μ S k => ev μ S fun x μ S => k (.val x.seal) μ S) := by
  refine pe_imp (pe_one h) fun σ H Q ⟨G, F, B, m, μ, S, k, w, r, g, q⟩ => ?_
  exact tE_go w r g fun F1 m1 μ1 S1 p1 v1 H1 e1 w1 r1 vr1 g1 => q F1 m1 μ1 S1 (.val p1.seal) v1 H1 e1 r1 vr1 g1
theorem sw_and1 (h : PT X e (tT X.K XR c W (tst ev))) : PW X (.BoolOp .And [e] pos) (tT X.K XR c W (tst fun μ S k => ev μ S fun x μ S => k (.val x.seal) μ S)) :=
  pw_imp (pw_and1 h) fun σ H Q q => tst_one q
theorem sw_or1 (h : PT X e (tT X.K XR c W (tst ev))) : PW X (.BoolOp .Or [e] pos) (tT X.K XR c W (tst fun μ S k => ev μ S fun x μ S => k (.val x.seal) μ S)) :=
  pw_imp (pw_or1 h) fun σ H Q q => tst_one q
theorem se_and (ha : PE X a (tE X.K XR c W eva)) (hb : PE X (.BoolOp .And (b :: es) pos) (tE X.K XR c W evb)) :
    PE X (.BoolOp .And (a :: b :: es) pos) (tE X.K XR c W fun μ S k => eva μ S fun x μ S => withB x fun t => if t then evb μ S k else k (.val (.d (.bool false))) μ S) := by
  refine pe_imp (pe_and ha hb) fun σ H Q ⟨G, F, B, m, μ, S, k, w, r, g, q⟩ => ?_
  refine tE_go w r g fun F1 m1 μ1 S1 p1 v1 H1 e1 w1 r1 vr1 g1 => ?_
  obtain ⟨t, rfl, g2⟩ := un_withB w.st g1
  refine ⟨t, vr_bool vr1, ?_⟩
  cases t with
  | true => exact ⟨G, F1, B, m1, μ1, S1, k, w1, r1, g2, fun F' m' μ' S' pv v H' e => q F' m' μ' S' pv v H' (e1.trans e)⟩
  | false => exact q F1 m1 μ1 S1 _ _ H1 e1 r1 prB g2
theorem se_or (ha : PE X a (tE X.K XR c W eva)) (hb : PE X (.BoolOp .Or (b :: es) pos) (tE X.K XR c W evb)) :
    PE X (.BoolOp .Or (a :: b :: es) pos) (tE X.K XR c W fun μ S k => eva μ S fun x μ S => withB x fun t => if t then k (.val (.d (.bool true))) μ S else evb μ S k) := by
  refine pe_imp (pe_or ha hb) fun σ H Q ⟨G, F, B, m, μ, S, k, w, r, g, q⟩ => ?_
  refine tE_go w r g fun F1 m1 μ1 S1 p1 v1 H1 e1 w1 r1 vr1 g1 => ?_
  obtain ⟨t, rfl, g2⟩ := un_withB w.st g1
  refine ⟨t, vr_bool vr1, ?_⟩
  cases t with
  | false => exact ⟨G, F1, B, m1, μ1, S1, k, w1, r1, g2, fun F' m' μ' S' pv v H' e => q F' m' μ' S' pv v H' (e1.trans e)⟩
  | true => exact q F1 m1 μ1 S1 _ _ H1 e1 r1 prB g2
theorem sw_and (ha : PT X a (tT X.K XR c W (tst eva))) (hb : PW X (.BoolOp .And (b :: es) pos) (tT X.K XR c W (tst evb))) :
    PW X (.BoolOp .And (a :: b :: es) pos) (tT X.K XR c W (tst fun μ S k => eva μ S fun x μ S => withB x fun t => if t then evb μ S k else k (.val (.d (.bool false))) μ S)) := by
  refine pw_imp (pw_and ha hb) fun σ H Q ⟨G, F, B, m, μ, S, k, w, r, g, q⟩ => ?_
  refine tT_go (k := fun t μ S => if t then tst evb μ S k else k false μ S) w r (by
    have e : (tst eva μ S fun t μ S => if t then tst evb μ S k else k false μ S) = (tst fun μ S k => eva μ S fun x μ S => withB x fun t => if t then evb μ S k else k (.val (.d (.bool false))) μ S) μ S k := by
      unfold tst
      show eva μ S _ = eva μ S _
      first | rfl | (congr 1; funext x μ S; first | rfl | (congr 1; funext t; cases t <;> rfl))
    rw [e]
    exact g) fun F1 m1 μ1 S1 t H1 e1 w1 r1 g1 => ?_
  cases t with
  | true => exact ⟨G, F1, B, m1, μ1, S1, k, w1, r1, g1, fun F' m' μ' S' b H' e => q F' m' μ' S' b H' (e1.trans e)⟩
  | false => exact q F1 m1 μ1 S1 false H1 e1 r1 g1
theorem sw_or (ha : PT X a (tT X.K XR c W (tst eva))) (hb : PW X (.BoolOp .Or (b :: es) pos) (tT X.K XR c W (tst evb))) :
    PW X (.BoolOp .Or (a :: b :: es) pos) (tT X.K XR c W (tst fun μ S k => eva μ S fun x μ S => withB x fun t => if t then k (.val (.d (.bool true))) μ S else evb μ S k)) := by
  refine pw_imp (pw_or ha hb) fun σ H Q ⟨G, F, B, m, μ, S, k, w, r, g, q⟩ => ?_
  refine tT_go (k := fun t μ S => if t then k true μ S else tst evb μ S k) w r (by
    have e : (tst eva μ S fun t μ S => if t then k true μ S else tst evb μ S k) = (tst fun μ S k => eva μ S fun x μ S => withB x fun t => if t then k (.val (.d (.bool true))) μ S else evb μ S k) μ S k := by
      unfold tst
      show eva μ S _ = eva μ S _
      first | rfl | (congr 1; funext x μ S; first | rfl | (congr 1; funext t; cases t <;> rfl))
    rw [e]
    exact g) fun F1 m1 μ1 S1 t H1 e1 w1 r1 g1 => ?_
  cases t with
  | false => exact ⟨G, F1, B, m1, μ1, S1, k, w1, r1, g1, fun F' m' μ' S' b H' e => q F' m' μ' S' b H' (e1.trans e)⟩
  | true => exact q F1 m1 μ1 S1 true H1 e1 r1 g1
theorem st_ite {d : Expr} (ht : PT X a (tT X.K XR c W (tst eva))) (ha : PT X b (tT X.K XR c W (tst evb))) (hb : PT X d (tT X.K XR c W (tst evc))) :
    PT X (.IfExp a b d pos) (tT X.K XR c W (tst fun μ S k => eva μ S fun x μ S => withB x fun t => if t then evb μ S k else evc μ S k)) := by
  refine ⟨fun pins s σ H Q I ⟨G, F, B, m, μ, S, k, w, r, g, q⟩ => ?_⟩
  show wpAny _ X.A (do if ← isTrue a X.env (eval a X.env) then isTrue b X.env (eval b X.env) else isTrue d X.env (eval d X.env)) _ _ s
  refine wpAny_bind (thn (ht.run pins s σ H _ I (tT_go (k := fun t μ S => if t then tst evb μ S k else tst evc μ S k) w r (by
    have e : (tst eva μ S fun t μ S => if t then tst evb μ S k else tst evc μ S k) = (tst fun μ S k => eva μ S fun x μ S => withB x fun t => if t then evb μ S k else evc μ S k) μ S k := by
      unfold tst
      show eva μ S _ = eva μ S _
      first | rfl | (congr 1; funext x μ S; first | rfl | (congr 1; funext t; cases t <;> rfl))
    rw [e]
    exact g) fun F1 m1 μ1 S1 t H1 e1 w1 r1 g1 => (show (fun t H1 => if t = true then tT X.K XR c W (tst evb) σ H1 Q else tT X.K XR c W (tst evc) σ H1 Q) t H1 by
      cases t with
      | true => exact ⟨G, F1, B, m1, μ1, S1, k, w1, r1, g1, fun F' m' μ' S' b H' e => q F' m' μ' S' b H' (e1.trans e)⟩
      | false => exact ⟨G, F1, B, m1, μ1, S1, k, w1, r1, g1, fun F' m' μ' S' b H' e => q F' m' μ' S' b H' (e1.trans e)⟩))) fun t s1 ⟨H1, I1, q1⟩ => ?_)
  cases t with
  | true => exact ha.run pins s1 σ H1 Q I1 q1
  | false => exact hb.run pins s1 σ H1 Q I1 q1

/-! ### argument lists, displays -/
def notStar : Expr → Bool
  | .Starred .. => false
  | _ => true
theorem star_cons (h : notStar e = true) {env : Env} : starEach (e :: es) env = (false, eval e env) :: starEach es env := by
  cases e with
  | Starred => exact absurd (show false = true from h) Bool.false_ne_true
  | _ => rfl
theorem star_all {env : Env} {p : Pos} : ∀ {es : List Expr}, es.all notStar = true → (backTo p (starEach es env)).any (·.1) = false
  | [], _ => by rfl
  | e :: es, h => by
    rw [List.all_cons, Bool.and_eq_true] at h
    rw [star_cons h.1]
    show (false || (backTo p (starEach es env)).any (·.1)) = false
    rw [star_all h.2]; rfl
theorem sa_nil : PA X [] (tA X.K XR c W fun μ S k => k [] μ S) :=
  ⟨fun pos pins s σ H Q I ⟨G, F, B, m, μ, S, k, w, r, g, q⟩ => pa_nil.run pos pins s σ H Q I (q F m μ S [] [] H .refl r .nil g)⟩
theorem sa_cons (hs : notStar e = true) (he : PE X e (tE X.K XR c W ev)) (hr : PA X es (tA X.K XR c W evl)) :
    PA X (e :: es) (tA X.K XR c W fun μ S k => ev μ S fun x μ S => evl μ S fun xs μ S => k (x.seal :: xs) μ S) :=
  ⟨fun pos pins s σ H Q I ⟨G, F, B, m, μ, S, k, w, r, g, q⟩ => (pa_cons he hr (star_cons hs)).run pos pins s σ H Q I (by
    refine tE_go w r g fun F1 m1 μ1 S1 p1 v1 H1 e1 w1 r1 vr1 g1 => ?_
    refine tA_go w1 r1 g1 fun F2 m2 μ2 S2 xs vs H2 e2 w2 r2 vr2 g2 => ?_
    exact q F2 m2 μ2 S2 (p1.seal :: xs) (v1 :: vs) H2 (e1.trans e2) r2 (.cons (vr1.mono e2) vr2) g2)⟩
theorem se_tup {x1 : Nat} (h : PA X es (tA X.K XR c W evl)) :
    PE X (.Tuple es x1 pos) (tE X.K XR c W fun μ S k => evl μ S fun vs μ S => withDs vs fun xs => if xs.length ≤ size0 then k (.val (.d (.tuple xs))) μ S else .stuck) := by
  refine ⟨fun pins s σ H Q I ⟨G, F, B, m, μ, S, k, w, r, g, q⟩ => ?_⟩
  refine wpAny_Tuple_spliced (thn (h.run pos pins s σ H (fun vs H1 => ∃ F xs, vs.length ≤ sizeLine ∧ Sub F H1 ∧ DRs X.K F vs xs ∧ ∀ F' H' v, Grow F H1 F' H' → NR X.K H1 F' H' (.val (.d (.tuple xs))) v → Q v H') I
    (tA_go w r g fun F1 m1 μ1 S1 xs vs H1 e1 w1 r1 vr1 g1 => ?_)) fun us s1 ⟨vs, H1, I1, r1, F1, xs, hz, f1, d1, q1⟩ => ⟨by rw [← r1.length]; exact hz, ?_⟩)
  · obtain ⟨ds, ed, g2⟩ := un_withDs w.st g1
    obtain ⟨hz, g2⟩ := un_if w.st g2
    have d := vr1.dats ed
    exact ⟨F1, ds, by rw [d.length, ← size0_eq]; exact hz, r1.hr.fF, d, back r1 (fun F' m' μ' S' pv v H' e => q F' m' μ' S' pv v H' (e1.trans e)) g2⟩
  · exact fin_tup I1 f1 r1 hz d1 q1
theorem se_lst (h : PA X es (tA X.K XR c W evl)) :
    PE X (.List es pos) (tE X.K XR c W fun μ S k => evl μ S fun vs μ S => withDs vs fun xs => if xs.length ≤ size0 then k (.new xs) μ S else .stuck) := by
  refine pe_imp (pe_lst h) fun σ H Q ⟨G, F, B, m, μ, S, k, w, r, g, q⟩ => ?_
  refine tA_go w r g fun F1 m1 μ1 S1 xs vs H1 e1 w1 r1 vr1 g1 => ?_
  obtain ⟨ds, ed, g2⟩ := un_withDs w.st g1
  obtain ⟨hz, g2⟩ := un_if w.st g2
  have d := vr1.dats ed
  refine ⟨by rw [d.length, ← size0_eq]; exact hz, fun p hp => ?_⟩
  refine back r1 (fun F' m' μ' S' pv v H' e => q F' m' μ' S' pv v H' (e1.trans e)) g2 F1 _ _ (Grow.loose hp) ⟨p, vs, rfl, hp, ?_, upd_same, d⟩
  cases k : F1 p with
  | none => rfl
  | some o => rw [r1.hr.fF _ _ k] at hp; cases hp
theorem se_dict0 : PE X (.Dict [] [] pos) (tE X.K XR c W fun μ S k => k (.val (.d (.dict []))) μ S) := by
  refine pe_imp pe_dnewK fun σ H Q ⟨G, F, B, m, μ, S, k, w, r, g, q⟩ => fun p hp => ?_
  have gr := Grow.new r.hr.fF (o := .dK []) hp
  exact q _ m μ S (.val (.d (.dict []))) (.ref p) _ ⟨gr.ff, List.prefix_refl _⟩ (r.grow gr) (DR.dct upd_same) g
/-! ### built-ins -/
theorem VRs.lrs {K : PySem.W.Frag} {F B : Hp} {m : List Addr} {σ : L2.St} {H : Hp} {μ : Sl} {S : Store} (r : SR K F B m σ H μ S) {xs : List MV} {vs : List V} (h : VRs K F m σ xs vs) : ∀ {ds : List PyData}, xs.mapM (datV μ S) = some ds → LRs K F H vs ds := by
  induction h with
  | nil => intro ds e; simp at e; subst e; exact .nil
  | @cons x xs v vs a _ ih =>
    intro ds e
    rw [List.mapM_cons] at e
    obtain ⟨y, e1, e⟩ := Option.bind_eq_some_iff.mp e
    obtain ⟨ys, e2, e⟩ := Option.bind_eq_some_iff.mp e
    cases e
    exact .cons (a.lr r e1) (ih e2)
theorem bi_key (f : BI) {σ : L2.St} {H : Hp} {Q : VK} (h : tE X.K XR c W (fun μ S k => evl μ S fun vs μ S =>
      match vs.mapM (datV μ S) with
      | some xs => ofO μ S k (biD f xs)
      | none => .stuck) σ H Q) : tCB (rBi X.K f) (tA X.K XR c W evl) σ H Q := by
  obtain ⟨G, F, B, m, μ, S, k, w, r, g, q⟩ := h
  refine tA_go w r g fun F1 m1 μ1 S1 xs vs H1 e1 w1 r1 vr1 g1 => ?_
  cases ed : xs.mapM (datV μ1 S1) with
  | none => rw [ed] at g1; exact absurd g1 w.st
  | some ds =>
    rw [ed] at g1
    obtain ⟨pv, eo, g2⟩ := un_ofO w.st g1
    exact ⟨F1, ds, pv, r1.hr.fF, vr1.lrs r1 ed, eo, back r1 (fun F' m' μ' S' pv v H' e => q F' m' μ' S' pv v H' (e1.trans e)) g2⟩
def biTy : BI → Option String
  | .int => some "int"
  | .tuple => some "tuple"
  | .list => some "list"
  | _ => none
def biNm : BI → Str
  | .len => "len"
  | .abs => "abs"
  | .int => "int"
  | .max2 | .max1 => "max"
  | .min2 | .min1 => "min"
  | .sum => "sum"
  | .all => "all"
  | .any => "any"
  | .sorted | .sortedR | .sortedSet => "sorted"
  | .tuple => "tuple"
  | .list => "list"
  | .divmod => "divmod"
  | .repr => "repr"
theorem bi_boot (f : BI) (hf : biPlain f = true) : bootBuiltins (biNm f) = some (biV f) := by
  cases f <;> first | rfl | exact absurd (show false = true from hf) Bool.false_ne_true
theorem se_bi {p : Pos} (hu : X.A.units + 200 < cLine) (hg : X.A.guards = some []) (hc : X.calm = true) (f : BI) (hf : biPlain f = true) (gl : Gl X (biNm f)) (hm : X.mg (biNm f) = none) (hs : (e :: es).all notStar = true) (ha : PA X (e :: es) (tA X.K XR c W evl)) :
    PE X (.Call (.Name (biNm f) p) (e :: es) [] pos) (tE X.K XR c W fun μ S k => evl μ S fun vs μ S =>
      match vs.mapM (datV μ S) with
      | some xs => ofO μ S k (biD f xs)
      | none => .stuck) := by
  rw [List.all_cons, Bool.and_eq_true] at hs
  have ok := bi_ok (X := X) hu hg hc f hf
  have bt := bi_boot f hf
  have n1 : biNm f ≠ "__name__" := by cases f <;> decide
  have n2 : (biNm f == ("__debug__" : Str)) = false := by cases f <;> decide
  have s1 := star_cons (es := es) hs.1 (env := X.env)
  have s2 := star_all (env := X.env) (p := pos) hs.2
  cases f with
  | int => exact pe_imp (pe_callTy (T := "int") ok gl hm bt ha n1 n2 s1 s2) fun σ H Q h => bi_key _ h
  | tuple => exact pe_imp (pe_callTy (T := "tuple") ok gl hm bt ha n1 n2 s1 s2) fun σ H Q h => bi_key _ h
  | list => exact pe_imp (pe_callTy (T := "list") ok gl hm bt ha n1 n2 s1 s2) fun σ H Q h => bi_key _ h
  | sortedR => exact absurd (show false = true from hf) Bool.false_ne_true
  | sortedSet => exact absurd (show false = true from hf) Bool.false_ne_true
  | len => exact pe_imp (pe_callB (id := "len") ok gl hm bt ha n1 n2 s1 s2) fun σ H Q h => bi_key _ h
  | abs => exact pe_imp (pe_callB (id := "abs") ok gl hm bt ha n1 n2 s1 s2) fun σ H Q h => bi_key _ h
  | max2 => exact pe_imp (pe_callB (id := "max") ok gl hm bt ha n1 n2 s1 s2) fun σ H Q h => bi_key _ h
  | min2 => exact pe_imp (pe_callB (id := "min") ok gl hm bt ha n1 n2 s1 s2) fun σ H Q h => bi_key _ h
  | max1 => exact pe_imp (pe_callB (id := "max") ok gl hm bt ha n1 n2 s1 s2) fun σ H Q h => bi_key _ h
  | min1 => exact pe_imp (pe_callB (id := "min") ok gl hm bt ha n1 n2 s1 s2) fun σ H Q h => bi_key _ h
  | sum => exact pe_imp (pe_callB (id := "sum") ok gl hm bt ha n1 n2 s1 s2) fun σ H Q h => bi_key _ h
  | all => exact pe_imp (pe_callB (id := "all") ok gl hm bt ha n1 n2 s1 s2) fun σ H Q h => bi_key _ h
  | any => exact pe_imp (pe_callB (id := "any") ok gl hm bt ha n1 n2 s1 s2) fun σ H Q h => bi_key _ h
  | sorted => exact pe_imp (pe_callB (id := "sorted") ok gl hm bt ha n1 n2 s1 s2) fun σ H Q h => bi_key _ h
  | divmod => exact pe_imp (pe_callB (id := "divmod") ok gl hm bt ha n1 n2 s1 s2) fun σ H Q h => bi_key _ h
  | repr => exact pe_imp (pe_callB (id := "repr") ok gl hm bt ha n1 n2 s1 s2) fun σ H Q h => bi_key _ h
end
end Mi

set_option maxHeartbeats 4000000
/-! The rules for expressions, third part: methods, isinstance, what the states do on the side. -/
namespace Mi
open PySem PySem.Spec PyProof.Rows L2
section
variable {K : PySem.W.Frag} {XR : XRel} {c : Bool} {W : XK} {G : R → Prop} {F B : Hp} {m : List Addr} {σ : L2.St} {H : Hp} {μ : Sl} {S : Store}
/-- a list of a slot becomes data -/
theorem SR.frzOwn (r : SR K F B m σ H μ S) {i : Nat} {xs : List PyData} (e : μ[i]? = some (some (.own xs))) {v : V} (ev : σ[i]? = some (some v)) :
    ∃ F', Sub F F' ∧ SR K F' B m σ H (μ.set i (some (.v (.d (.list xs))))) S ∧ DR K F' v (.list xs) := by
  obtain ⟨a, vs, h1, h2, h3, h4, h5, h6⟩ := r.own i xs e
  rw [ev] at h1
  cases h1
  have sF : Sub F (upd F a (.lst vs)) := sub_upd h4
  have hi : i < μ.length := (List.getElem?_eq_some_iff.mp e).1
  refine ⟨upd F a (.lst vs), sF, ⟨⟨fun b o e => ?_, r.hr.fB, fun b h => ?_, r.hr.nB, r.hr.mH, r.hr.len, r.hr.nd, fun p xs e => ?_⟩, by rw [List.length_set]; exact r.len, fun j x q => ?_, fun j ys q => ?_, fun j l ys zs u q1 q2 q3 q4 => ?_⟩, .lst (.of upd_same) (h3.mono sF)⟩
  · by_cases q : b = a
    · subst q; rw [upd_same] at e; cases e; exact h2
    · rw [upd_ne q] at e; exact r.hr.fF _ _ e
  · rw [upd_ne (fun e => by rw [e] at h; exact h h5)]
    exact r.hr.nF b h
  · obtain ⟨b, ws, k1, k2, k3, k4⟩ := r.hr.st p xs e
    refine ⟨b, ws, k1, ?_, k3, k4.mono ⟨sF, List.prefix_refl _⟩⟩
    rw [upd_ne (fun q => by rw [← q] at h6; exact h6 (List.mem_of_getElem? k1))]
    exact k2
  · by_cases hj : i = j
    · subst hj
      rw [List.getElem?_set_self hi] at q
      cases q
      exact ⟨_, ev, rfl, .lst (.of upd_same) (h3.mono sF)⟩
    · rw [List.getElem?_set_ne hj] at q
      obtain ⟨v, k1, k2⟩ := r.val j x q
      exact ⟨v, k1, k2.mono ⟨sF, List.prefix_refl _⟩⟩
  · by_cases hj : i = j
    · subst hj
      rw [List.getElem?_set_self hi] at q
      cases q
    · rw [List.getElem?_set_ne hj] at q
      obtain ⟨b, ws, k1, k2, k3, k4, k5, k6⟩ := r.own j ys q
      refine ⟨b, ws, k1, k2, k3.mono sF, ?_, k5, k6⟩
      rw [upd_ne (fun z => hj (by subst z; exact r.ownd i j xs ys _ e q ev k1))]
      exact k4
  · have n : ∀ {j : Nat} {ys : List PyData}, (μ.set i (some (.v (.d (.list xs)))))[j]? = some (some (.own ys)) → μ[j]? = some (some (.own ys)) := fun {j ys} q => by
      by_cases hj : i = j
      · subst hj; rw [List.getElem?_set_self hi] at q; cases q
      · rw [List.getElem?_set_ne hj] at q; exact q
    exact r.ownd j l ys zs u (n q1) (n q2) q3 q4
theorem datL_of {xs : List MV} {ds : List PyData} {vs : List V} (e : datL xs = some ds) (h : VR0s K F m xs vs) : DRs K F vs ds := (h.vrs (σ := [])).dats e
/-- a list of the store becomes data -/
theorem SR.frzRef (r : SR K F B m σ H μ S) {p : Nat} {xs : List MV} {ds : List PyData} (e : S[p]? = some (.lst xs)) (ed : datL xs = some ds) {a : Addr} (ea : m[p]? = some a) :
    ∃ F', Sub F F' ∧ SR K F' B m σ H μ (S.set p .dead) ∧ DR K F' (.ref a) (.list ds) := by
  obtain ⟨a', vs, h1, h2, h3, h4⟩ := r.hr.st p xs e
  rw [ea] at h1
  cases h1
  have d := datL_of ed h4
  have sF : Sub F (upd F a (.lst vs)) := sub_upd h2
  have am : a ∈ m := List.mem_of_getElem? ea
  have hp : p < S.length := (List.getElem?_eq_some_iff.mp e).1
  refine ⟨upd F a (.lst vs), sF, ⟨⟨fun b o e => ?_, r.hr.fB, fun b h => ?_, r.hr.nB, r.hr.mH, by rw [List.length_set]; exact r.hr.len, r.hr.nd, fun p' xs' e' => ?_⟩, r.len, fun j x q => ?_, fun j ys q => ?_, r.ownd⟩, .lst (.of upd_same) (d.mono sF)⟩
  · by_cases q : b = a
    · subst q; rw [upd_same] at e; cases e; exact h3
    · rw [upd_ne q] at e; exact r.hr.fF _ _ e
  · rw [upd_ne (fun e => by rw [e] at h; exact h (r.hr.nB _ am))]
    exact r.hr.nF b h
  · by_cases hpp : p = p'
    · subst hpp; rw [List.getElem?_set_self hp] at e'; cases e'
    · rw [List.getElem?_set_ne hpp] at e'
      obtain ⟨b, ws, k1, k2, k3, k4⟩ := r.hr.st p' xs' e'
      refine ⟨b, ws, k1, ?_, k3, k4.mono ⟨sF, List.prefix_refl _⟩⟩
      rw [upd_ne (fun q => ?_)]
      · exact k2
      · subst q
        have l1 := (List.getElem?_eq_some_iff.mp k1)
        have l2 := (List.getElem?_eq_some_iff.mp ea)
        exact hpp ((List.getElem_inj r.hr.nd).mp (l2.2.trans l1.2.symm))
  · obtain ⟨v, k1, k2⟩ := r.val j x q
    exact ⟨v, k1, k2.mono ⟨sF, List.prefix_refl _⟩⟩
  · obtain ⟨b, ws, k1, k2, k3, k4, k5, k6⟩ := r.own j ys q
    refine ⟨b, ws, k1, k2, k3.mono sF, ?_, k5, k6⟩
    rw [upd_ne (fun z => by subst z; exact k6 am)]
    exact k4
/-- a new list goes to the store -/
theorem SR.toStore (r : SR K F B m σ H μ S) {xs : List PyData} {v : V} (p : PR K F B m σ H μ (.new xs) v) : ∃ a, v = .ref a ∧ SR K F B (m ++ [a]) σ H μ (S ++ [.lst (xs.map .d)]) := by
  obtain ⟨a, vs, rfl, h1, h2, h3, h4, h5, h6⟩ := p
  refine ⟨a, rfl, ⟨⟨r.hr.fF, r.hr.fB, r.hr.nF, fun b hb => ?_, fun b hb => ?_, ?_, ?_, fun q ys e => ?_⟩, r.len, fun i x e => ?_, fun i ys e => ?_, r.ownd⟩⟩
  · rcases List.mem_append.mp hb with z | z
    · exact r.hr.nB b z
    · rw [List.mem_singleton.mp z]; exact h4
  · rcases List.mem_append.mp hb with z | z
    · exact r.hr.mH b z
    · rw [List.mem_singleton.mp z, h1]; simp
  · simp [r.hr.len]
  · rw [List.nodup_append]
    exact ⟨r.hr.nd, by simp, fun x hx y hy => by rw [List.mem_singleton.mp hy]; exact fun e => h5 (e ▸ hx)⟩
  · have em : Ext F m F (m ++ [a]) := ⟨fun _ _ e => e, List.prefix_append _ _⟩
    by_cases hq : q < S.length
    · rw [List.getElem?_append_left hq] at e
      obtain ⟨b, ws, k1, k2, k3, k4⟩ := r.hr.st q ys e
      exact ⟨b, ws, pre_get em.m k1, k2, k3, k4.mono em⟩
    · rw [List.getElem?_append_right (by omega)] at e
      have : q - S.length = 0 := by
        cases z : q - S.length with
        | zero => rfl
        | succ n => rw [z] at e; simp at e
      rw [this] at e
      cases e
      refine ⟨a, vs, ?_, h3, h1, (h2.vr0s (m := m)).mono em⟩
      rw [List.getElem?_append_right (by rw [r.hr.len]; omega), r.hr.len, this]
      rfl
  · obtain ⟨v, k1, k2⟩ := r.val i x e
    exact ⟨v, k1, k2.mono ⟨fun _ _ e => e, List.prefix_append _ _⟩⟩
  · obtain ⟨b, ws, k1, k2, k3, k4, k5, k6⟩ := r.own i ys e
    refine ⟨b, ws, k1, k2, k3, k4, k5, fun hb => ?_⟩
    rcases List.mem_append.mp hb with z | z
    · exact k6 z
    · rw [List.mem_singleton.mp z] at k1; exact h6 i ys e k1
/-- an object kept for another is let go -/
theorem SR.unB {a : Addr} {o : HO} (r : SR K F (upd B a o) m σ H μ S) (n : B a = none) : SR K F B m σ H μ S ∧ H a = some o ∧ F a = none ∧ a ∉ m ∧ ∀ (i : Nat) (ys : List PyData), μ[i]? = some (some (.own ys)) → σ[i]? ≠ some (some (.ref a)) := by
  have sB : Sub B (upd B a o) := sub_upd n
  refine ⟨⟨⟨r.hr.fF, fun b u e => r.hr.fB _ _ (sB _ _ e), fun b h => r.hr.nF b (fun e => ?_), fun b hb => ?_, r.hr.mH, r.hr.len, r.hr.nd, r.hr.st⟩, r.len, r.val, fun i ys e => ?_, r.ownd⟩, r.hr.fB _ _ upd_same, r.hr.nF a (by rw [upd_same]; simp), fun h => ?_, fun i ys e q => ?_⟩
  · cases z : B b with
    | none => exact h z
    | some u => rw [sB _ _ z] at e; cases e
  · cases z : B b with
    | none => rfl
    | some u => have := r.hr.nB b hb; rw [sB _ _ z] at this; cases this
  · obtain ⟨b, ws, k1, k2, k3, k4, k5, k6⟩ := r.own i ys e
    refine ⟨b, ws, k1, k2, k3, k4, ?_, k6⟩
    cases z : B b with
    | none => rfl
    | some u => rw [sB _ _ z] at k5; cases k5
  · have := r.hr.nB a h; rw [upd_same] at this; cases this
  · obtain ⟨b, ws, k1, k2, k3, k4, k5, k6⟩ := r.own i ys e
    rw [q] at k1
    cases k1
    rw [upd_same] at k5
    cases k5
end
section
variable {X : Cx} {XR : XRel} {c : Bool} {W : XK} {a b e : Expr} {es : List Expr} {eva evb evc ev : EvE} {evl : EvA} {pos : Pos}
theorem se_frz (h : PE X e (tE X.K XR c W ev)) : PE X e (tE X.K XR c W fun μ S k => ev μ S fun x μ S => freeze x.seal μ S k) := by
  refine pe_imp h fun σ H Q ⟨G, F, B, m, μ, S, k, w, r, g, q⟩ => ?_
  refine tE_go w r g fun F1 m1 μ1 S1 p1 v1 H1 e1 w1 r1 vr1 g1 => ?_
  unfold freeze at g1
  split at g1
  · rename_i i ei
    rw [ei] at vr1
    split at g1
    · rename_i xs ex
      obtain ⟨F2, sF, r2, d2⟩ := r1.frzOwn ex vr1
      exact q F2 m1 _ S1 (.val (.d (.list xs))) v1 H1 (e1.trans ⟨sF, List.prefix_refl _⟩) r2 d2 g1
    · exact absurd g1 w.st
  · rename_i p ep
    rw [ep] at vr1
    obtain ⟨a, ha, rfl⟩ := vr1
    split at g1
    · rename_i xs ex
      split at g1
      · rename_i ds ed
        obtain ⟨F2, sF, r2, d2⟩ := r1.frzRef ex ed ha
        exact q F2 m1 _ _ (.val (.d (.list ds))) _ H1 (e1.trans ⟨sF, List.prefix_refl _⟩) r2 d2 g1
      · exact absurd g1 w.st
    · exact absurd g1 w.st
  · exact q F1 m1 μ1 S1 (.val p1.seal) v1 H1 e1 r1 vr1 g1
theorem se_newRef (h : PE X e (tE X.K XR c W ev)) : PE X e (tE X.K XR c W fun μ S k => ev μ S fun x μ S => match x with
      | .new xs => k (.val (.ref S.length)) μ (S ++ [.lst (xs.map .d)])
      | _ => .stuck) := by
  refine pe_imp h fun σ H Q ⟨G, F, B, m, μ, S, k, w, r, g, q⟩ => ?_
  refine ⟨G, F, B, m, μ, S, _, w, r, g, fun F1 m1 μ1 S1 p1 v1 H1 e1 r1 pr1 g1 => ?_⟩
  cases p1 with
  | val x => exact absurd g1 w.st
  | new xs =>
    obtain ⟨a, rfl, r2⟩ := r1.toStore pr1
    refine q F1 (m1 ++ [a]) μ1 _ (.val (.ref S1.length)) (.ref a) H1 (e1.trans ⟨fun _ _ e => e, List.prefix_append _ _⟩) r2 ⟨a, ?_, rfl⟩ g1
    rw [← r1.hr.len, List.getElem?_append_right (Nat.le_refl _)]
    simp
/-! ### isinstance -/
theorem isi_call : CallR X (.builtin "isinstance") (fun vs H Q => ∃ F v T x, vs = [v, .ty (tyN T)] ∧ Sub F H ∧ LR X.K F H v x ∧ Q (.bl (isTy x T)) H) := by
  intro pins s σ H vs us Q I r h
  obtain ⟨F, v, T, x, rfl, f, hx, q⟩ := h
  cases r with
  | cons r1 r2 =>
    cases r2 with
    | cons r2 r3 =>
      cases r3
      cases r2
      exact isi_ok I f hx r1 q
def tyS : Ty → Str
  | .int => "int"
  | .bool => "bool"
  | .str => "str"
  | .tuple => "tuple"
  | .list => "list"
theorem se_isin {p p' : Pos} (T : Ty) (hn : notStar a = true) (gl : Gl X "isinstance") (hm : X.mg "isinstance" = none) (gl2 : Gl X (tyS T)) (hm2 : X.mg (tyS T) = none) (ha : PE X a (tE X.K XR c W eva)) :
    PE X (.Call (.Name "isinstance" p) [a, .Name (tyS T) p'] [] pos) (tE X.K XR c W fun μ S k => eva μ S fun x μ S => withL x.seal μ S fun x => k (.val (.d (.bool ([T].any (isTy x))))) μ S) := by
  have hT : PE X (.Name (tyS T) p') (tC (.ty (tyN T))) := pe_bltn gl2 hm2 (by cases T <;> rfl) rfl (by cases T <;> decide) (by cases T <;> decide)
  have h2 : PA X [a, .Name (tyS T) p'] (tCons (tE X.K XR c W eva) (tCons (tC (.ty (tyN T))) tNil)) := pa_cons ha (pa_cons hT pa_nil) (star_cons hn)
  refine pe_imp (pe_callB isi_call gl hm rfl h2 (by decide) (by decide) (star_cons hn) rfl) fun σ H Q ⟨G, F, B, m, μ, S, k, w, r, g, q⟩ => ?_
  refine tE_go w r g fun F1 m1 μ1 S1 p1 v1 H1 e1 w1 r1 vr1 g1 => ?_
  obtain ⟨x, ex, g2⟩ := un_withL w.st g1
  refine ⟨F1, v1, T, x, rfl, r1.hr.fF, vr1.lr r1 ex, ?_⟩
  have e : ([T].any (isTy x)) = isTy x T := by simp
  rw [e] at g2
  exact q F1 m1 μ1 S1 _ _ H1 e1 r1 prB g2
/-! ### o.count(x) -/
def notCall : Expr → Bool
  | .Call .. => false
  | _ => true
theorem att_base (h : notCall e = true) {n : Str} {env : Env} {whole : Sem Value} : attributeBase e n env whole = whole := by
  cases e with
  | Call => exact absurd (show false = true from h) Bool.false_ne_true
  | _ => rfl
theorem few_ok {cpos : Pos} {env : Env} (hs : es.all notStar = true) (hl : es.length < 29) : ((backTo cpos (starEach es env)).all (fun x => !x.1) && (backToKw cpos (keywordEach [] env)).all (fun x => x.1.isSome)
      && decide (es.length + ([] : List Keyword).length + (if ([] : List Keyword).isEmpty then 0 else 1) < 30)) = true := by
  have h1 : (backTo cpos (starEach es env)).all (fun x => !x.1) = true := by
    have := star_all (env := env) (p := cpos) hs
    rw [List.all_eq_true]
    intro x hx
    rw [List.any_eq_false] at this
    simpa using this x hx
  have h2 : (backToKw cpos (keywordEach [] env)).all (fun x => x.1.isSome) = true := rfl
  rw [h1, h2]
  have : decide (es.length + ([] : List Keyword).length + (if ([] : List Keyword).isEmpty then 0 else 1) < 30) = true := by
    apply decide_eq_true
    show es.length + 0 + 0 < 30
    omega
  rw [this]
  rfl
def mmS : MM → Str
  | .count => "count"
  | .index => "index"
theorem seqV_kind {K : PySem.W.Frag} {F B : Hp} {m : List Addr} {σ : L2.St} {H : Hp} {μ : Sl} {S : Store} (r : SR K F B m σ H μ S) {x : MV} {v : V} (h : VR K F m σ x v) {xs : List PyData} (e : seqV μ S x = some xs) :
    (∃ y, datV μ S x = some (.list y) ∧ ∃ p vs, v = .ref p ∧ SqL K H p vs) ∨ (x = .d (.tuple xs) ∧ ∃ p vs, v = .ref p ∧ TupK K F p vs) := by
  have lst : ∀ ys, lstV μ S x = some ys → ∃ y, datV μ S x = some (.list y) ∧ ∃ p vs, v = .ref p ∧ SqL K H p vs := fun ys e => by
    have hd : datV μ S x = some (.list ys) := by
      cases x with
      | d z =>
        cases z with
        | list zs => have e : some zs = some ys := e; cases e; rfl
        | _ => exact nomatch (show (none : Option (List PyData)) = some ys from e)
      | ref p => show (lstV μ S (.ref p)).map PyData.list = _; rw [e]; rfl
      | own p => show (lstV μ S (.own p)).map PyData.list = _; rw [e]; rfl
    obtain ⟨p, vs, h1, h2, _⟩ := (h.lr r hd).sq r.hr.fF
    exact ⟨ys, hd, p, vs, h1, h2⟩
  unfold seqV at e
  split at e
  · rename_i zs
    cases e
    have h : DR K F v (.tuple xs) := h
    cases h with
    | tup h1 h2 => exact .inr ⟨rfl, _, _, rfl, h1⟩
  · exact .inl (lst _ e)
theorem tupK_at {pins : List (Addr × Obj)} {σ : L2.St} {H F : Hp} {s : Shared} {p : Addr} {vs : List V} (I : Inv X pins σ H s) (f : Sub F H) (t : TupK X.K F p vs) : s.TypeIs (.ref p) "tuple" ∧ ∀ a, Value.ref p = .ref a → ∃ ob, s.heap.get? a = some ob ∧ ob.dict = none := by
  obtain ⟨its, rv, pl, _⟩ := I.tuple (f.sqT t.sqT)
  have pl' : s.heap.IsTuple p its.toArray := pl
  refine ⟨let ⟨o, ho, hc, _⟩ := pl'; ⟨o, ho, hc⟩, fun a e => ?_⟩
  cases e
  rcases t with ⟨o, h, d⟩ | ⟨o, i2, n, h1, _, _, _, _, d⟩
  · obtain ⟨h1, _⟩ := I.hok p _ (f _ _ h)
    exact ⟨o, h1, d⟩
  · exact ⟨o, I.kIn p o h1, d⟩
theorem se_count {apos : Pos} (hu : X.A.units + 200 < cLine) (h1 : notCall a = true) (h2 : (e :: es).all notStar = true) (h3 : (e :: es).length < 29) (hl : (apos.endLine == pos.line) = true) (ha : PE X a (tE X.K XR c W eva)) (hb : PA X (e :: es) (tA X.K XR c W evl)) :
    PE X (.Call (.Attribute a "count" apos) (e :: es) [] pos) (tE X.K XR c W fun μ S k => eva μ S fun x μ S => if (seqV μ S x.seal).isSome then evl μ S fun vs μ S =>
      withL x.seal μ S fun x => match vs.mapM (datV μ S) with
      | some xs => ofO μ S k (mmD .count x xs)
      | none => .stuck
      else .stuck) := by
  refine ⟨fun pins s σ H Q I ⟨G, F, B, m, μ, S, k, w, r, g, q⟩ => ?_⟩
  have hs := h2
  rw [List.all_cons, Bool.and_eq_true] at hs
  refine wpAny_Call_method_late (att_base h1) (few_ok h2 h3) hl rfl (thn (ha.run pins s σ H (fun v H1 => ∃ F1 m1 μ1 S1 x, Ext F m F1 m1 ∧ Wish X.K XR c W G F1 B m1 ∧ SR X.K F1 B m1 σ H1 μ1 S1 ∧ VR X.K F1 m1 σ x v ∧ (seqV μ1 S1 x).isSome = true ∧ G (evl μ1 S1 fun vs μ S =>
      withL x μ S fun x => match vs.mapM (datV μ S) with
      | some xs => ofO μ S k (mmD .count x xs)
      | none => .stuck)) I (tE_go w r g fun F1 m1 μ1 S1 p1 v1 H1 e1 w1 r1 vr1 g1 => ?_)) fun u s1 ⟨v, H1, I1, rv, F1, m1, μ1, S1, x, e1, w1, r1, vr1, hx, g1⟩ => ?_)
  · obtain ⟨h, g2⟩ := un_if w.st g1
    exact ⟨F1, m1, μ1, S1, p1.seal, e1, w1, r1, vr1, h, g2⟩
  · obtain ⟨xs, ex⟩ := Option.isSome_iff_exists.mp hx
    have args : ∀ T : Bool, (∀ F2 m2 μ2 S2 H2 dx, Ext F1 m1 F2 m2 → SR X.K F2 B m2 σ H2 μ2 S2 → VR X.K F2 m2 σ x v → datV μ2 S2 x = some dx → ∃ xs, (T = false ∧ dx = .list xs ∨ T = true ∧ dx = .tuple xs)) →
        wpAny (model X.prog X.w) X.A (spliced (backTo pos (starEach (e :: es) X.env))) (fun us s2 => wpAny (model X.prog X.w) X.A (call (.builtin (if T then "tuple.count" else "list.count")) (u :: us)) (EP X pins σ Q) X.xe s2) X.xe s1 := fun T hT => by
      refine thn (hb.run pos pins s1 σ H1 (fun vs H2 => rMm X.K .count T v vs H2 Q) I1 (tA_go w1 r1 g1 fun F2 m2 μ2 S2 xs vs H2 e2 w2 r2 vr2 g2 => ?_)) fun us s2 ⟨vs, H2, I2, r2, q2⟩ => count_ok hu rfl pins s2 σ H2 v vs u us Q I2 rv r2 q2
      obtain ⟨dx, ed, g3⟩ := un_withL w.st g2
      cases em : xs.mapM (datV μ2 S2) with
      | none => rw [em] at g3; exact absurd g3 w.st
      | some ds =>
        rw [em] at g3
        obtain ⟨pv, eo, g4⟩ := un_ofO w.st g3
        obtain ⟨zs, hz⟩ := hT F2 m2 μ2 S2 H2 dx e2 r2 (vr1.mono e2) ed
        exact ⟨F2, dx, zs, ds, pv, r2.hr.fF, (vr1.mono e2).lr r2 ed, hz, vr2.lrs r2 em, eo, back r2 (fun F' m' μ' S' pv v H' e => q F' m' μ' S' pv v H' ((e1.trans e2).trans e)) g4⟩
    have fin : ∀ {id : String}, wpAny (model X.prog X.w) X.A (spliced (backTo pos (starEach (e :: es) X.env))) (fun us s2 => wpAny (model X.prog X.w) X.A (call (.builtin id) (u :: us)) (EP X pins σ Q) X.xe s2) X.xe s1 →
        wpAny (model X.prog X.w) X.A (callWith pos (.builtin id) [u] (backTo pos (starEach (e :: es) X.env)) []) (EP X pins σ Q) X.xe s1 := fun {id} hA => by
      rw [star_cons hs.1] at hA ⊢
      refine Calls.callWith_builtin (by show (false || (backTo pos (starEach es X.env)).any (·.1)) = false; rw [star_all hs.2] <;> rfl) (Calls.evalArgs_plain ?_)
      exact hA
    rcases seqV_kind r1 vr1 ex with ⟨ys, hy, p, vs, rfl, hp⟩ | ⟨rfl, p, vs, rfl, hp⟩
    · cases rv
      obtain ⟨t1, t2⟩ := tyV_is (T := "list") (x := .ref p) (v := .ref p) I1 rfl (show tyV X.K "list" (.ref p) H1 from .inl ⟨rfl, vs, hp⟩)
      refine ⟨"list", "list.count", PySem.F.plainAttrs_list, PySem.F.slot_list_count, PySem.F.type_list_count, t1, t2, fin (args false fun F2 m2 μ2 S2 H2 dx e2 r2 vr2 ed => ?_)⟩
      cases x with
      | d z => cases hy; cases ed; exact ⟨_, .inl ⟨rfl, rfl⟩⟩
      | ref j => obtain ⟨zs, _, rfl⟩ := Option.map_eq_some_iff.mp (show (lstV μ2 S2 (.ref j)).map PyData.list = some dx from ed); exact ⟨zs, .inl ⟨rfl, rfl⟩⟩
      | own j => obtain ⟨zs, _, rfl⟩ := Option.map_eq_some_iff.mp (show (lstV μ2 S2 (.own j)).map PyData.list = some dx from ed); exact ⟨zs, .inl ⟨rfl, rfl⟩⟩
    · cases rv
      obtain ⟨t1, t2⟩ := tupK_at I1 r1.hr.fF hp
      exact ⟨"tuple", "tuple.count", PySem.F.plainAttrs_tuple, PySem.F.slot_tuple_count, PySem.F.type_tuple_count, t1, t2, fin (args true fun F2 m2 μ2 S2 H2 dx e2 r2 vr2 ed => by cases ed; exact ⟨_, .inr ⟨rfl, rfl⟩⟩)⟩
end
end Mi

set_option maxHeartbeats 4000000
/-! What is walked. -/
namespace Mi
open PySem PySem.Spec PyProof.Rows L2 RZ
abbrev EvI := Sl → Store → (IV → Sl → Store → R) → R
/-- a value as a walk yields it: data; where tp, a pair that is not kept -/
def WR (tp : Bool) (K : PySem.W.Frag) (F H : Hp) (x : PyData) (v : V) : Prop :=
  if tp = true then ∃ a vs ds, x = .tuple ds ∧ v = .ref a ∧ SqT K H a vs ∧ DRs K F vs ds else DR K F v x
structure ItI (tp : Bool) (K : PySem.W.Frag) (F : Hp) (xs : List PyData) (J : It) : Prop where
  go : ∀ F2 H i, Sub F F2 → Sub F2 H → i < xs.length → J.go i H
  stop : ∀ F2 H i, Sub F F2 → Sub F2 H → xs.length ≤ i → J.stop i H
  yld : ∀ F2 H i v H', Sub F F2 → Sub F2 H → J.yld i H v H' → i < xs.length → Grow F2 H F2 H' ∧ ∃ x, xs[i]? = some x ∧ WR tp K F2 H' x v
/-- the walk of a value that is walked -/
inductive ItR (tp : Bool) (K : PySem.W.Frag) (F : Hp) (m : List Addr) : IV → It → Prop
  | items {xs : List PyData} {J : It} : ItI tp K F xs J → ItR tp K F m (.items (xs.map .d)) J
  | live {p : Nat} {a : Addr} : tp = false → m[p]? = some a → ItR tp K F m (.live (.ref p)) (Itl K a)
def tI (tp : Bool) (K : PySem.W.Frag) (XR : XRel) (c : Bool) (W : XK) (ev : EvI) : TI := fun σ H R' => ∃ (G : R → Prop) (F B : Hp) (m : List Addr) (μ : Sl) (S : Store) (k : IV → Sl → Store → R), Wish K XR c W G F B m ∧ SR K F B m σ H μ S ∧ G (ev μ S k) ∧
  ∀ F' m' μ' S' iv J H', Ext F m F' m' → SR K F' B m' σ H' μ' S' → ItR tp K F' m' iv J → G (k iv μ' S') → R' J H'
section
variable {K : PySem.W.Frag} {F H : Hp}
theorem iti_list {a : Addr} {vs : List V} {xs : List PyData} (h : SqL K F a vs) (d : DRs K F vs xs) (inj : ∀ H, Sub F H → ∀ ys, SqL K H a ys → True) : ItI false K F xs (Itl K a) where
  go := fun F2 H i f1 f2 hi => by
    obtain ⟨v, e, _⟩ := d.get (i := 0) (show xs[i]? = some xs[i] by simp [hi])
    exact ⟨vs, v, f2.sqL (f1.sqL h), e⟩
  stop := fun F2 H i f1 f2 hi => ⟨vs, f2.sqL (f1.sqL h), by rw [d.length]; exact hi⟩
  yld := fun F2 H i v H' f1 f2 y hi => by
    obtain ⟨rfl, y⟩ := y
    have e := y vs (f2.sqL (f1.sqL h))
    obtain ⟨x, h1, h2⟩ := d.getV e
    exact ⟨.refl, x, h1, h2.mono f1⟩
theorem iti_tup {a : Addr} {vs : List V} {xs : List PyData} (h : SqT K F a vs) (d : DRs K F vs xs) : ItI false K F xs (Itt K a) where
  go := fun F2 H i f1 f2 hi => by
    obtain ⟨v, e, _⟩ := d.get (i := 0) (show xs[i]? = some xs[i] by simp [hi])
    exact ⟨vs, v, f2.sqT (f1.sqT h), e⟩
  stop := fun F2 H i f1 f2 hi => ⟨vs, f2.sqT (f1.sqT h), by rw [d.length]; exact hi⟩
  yld := fun F2 H i v H' f1 f2 y hi => by
    obtain ⟨rfl, y⟩ := y
    have e := y vs (f2.sqT (f1.sqT h))
    obtain ⟨x, h1, h2⟩ := d.getV e
    exact ⟨.refl, x, h1, h2.mono f1⟩
theorem iti_str {z : Str} : ItI false K F (z.cps.toList.map fun c => .str ⟨#[c]⟩) (Its z) where
  go := fun F2 H i f1 f2 hi => by rw [List.length_map, Array.length_toList] at hi; exact hi
  stop := fun F2 H i f1 f2 hi => by rw [List.length_map, Array.length_toList] at hi; exact hi
  yld := fun F2 H i v H' f1 f2 y hi => by
    obtain ⟨rfl, c, e, rfl⟩ := y
    refine ⟨.refl, .str ⟨#[c]⟩, ?_, .str _⟩
    rw [List.getElem?_map, Array.getElem?_toList, e]
    rfl
theorem iti_range {lo : Int} {n : Nat} : ItI false K F ((List.range n).map fun (i : Nat) => .int (lo + (i : Int))) (Itr lo n) where
  go := fun F2 H i f1 f2 hi => by rw [List.length_map, List.length_range] at hi; exact hi
  stop := fun F2 H i f1 f2 hi => by rw [List.length_map, List.length_range] at hi; exact hi
  yld := fun F2 H i v H' f1 f2 y hi => by
    rw [List.length_map, List.length_range] at hi
    obtain ⟨rfl, rfl⟩ := y
    refine ⟨.refl, .int (lo + (i : Int)), ?_, .int _⟩
    rw [List.getElem?_map, List.getElem?_range hi]
    rfl
theorem iti_rangeC {lo c : Int} {n : Nat} : ItI false K F ((List.range n).map fun (i : Nat) => .int (lo + (i : Int) * c)) (Itc lo c n) where
  go := fun F2 H i f1 f2 hi => by rw [List.length_map, List.length_range] at hi; exact hi
  stop := fun F2 H i f1 f2 hi => by rw [List.length_map, List.length_range] at hi; exact hi
  yld := fun F2 H i v H' f1 f2 y hi => by
    rw [List.length_map, List.length_range] at hi
    obtain ⟨rfl, rfl⟩ := y
    refine ⟨.refl, .int (lo + (i : Int) * c), ?_, .int _⟩
    rw [List.getElem?_map, List.getElem?_range hi]
    rfl
theorem iti_enum {a : Addr} {vs : List V} {xs : List PyData} (h : SqL K F a vs) (d : DRs K F vs xs) : ItI true K F (enumD xs) (Ite K a) where
  go := fun F2 H i f1 f2 hi => by
    have hi : i < xs.length := by simpa [enumD] using hi
    obtain ⟨v, e, _⟩ := d.get (i := 0) (show xs[i]? = some xs[i] by simp [hi])
    exact ⟨vs, v, f2.sqL (f1.sqL h), e⟩
  stop := fun F2 H i f1 f2 hi => ⟨vs, f2.sqL (f1.sqL h), by rw [d.length]; simpa [enumD] using hi⟩
  yld := fun F2 H i v H' f1 f2 y hi => by
    obtain ⟨T, x, rfl, hT, rfl, y⟩ := y
    have e := y vs (f2.sqL (f1.sqL h))
    obtain ⟨x', h1, h2⟩ := d.getV e
    refine ⟨.loose hT, .tuple [.int i, x'], ?_, ?_⟩
    · simp [enumD, h1]
    · show ∃ a vs ds, _
      exact ⟨T, _, _, rfl, rfl, .of upd_same, .cons (.int _) (.cons (h2.mono f1) .nil)⟩
theorem DRs.zip {vs ws : List V} {xs ys : List PyData} (h1 : DRs K F vs xs) (h2 : DRs K F ws ys) {i : Nat} {v w : V} (e1 : vs[i]? = some v) (e2 : ws[i]? = some w) : ∃ x y, (zipD xs ys)[i]? = some (.tuple [x, y]) ∧ DR K F v x ∧ DR K F w y := by
  obtain ⟨x, k1, k2⟩ := h1.getV e1
  obtain ⟨y, k3, k4⟩ := h2.getV e2
  refine ⟨x, y, ?_, k2, k4⟩
  unfold zipD
  rw [List.getElem?_map]
  have : (xs.zip ys)[i]? = some (x, y) := by rw [List.getElem?_zip_eq_some]; exact ⟨k1, k3⟩
  rw [this]
  rfl
theorem zip_len {xs ys : List PyData} : (zipD xs ys).length = min xs.length ys.length := by simp [zipD]
theorem iti_zipL {a b : Addr} {vs ws : List V} {xs ys : List PyData} (h : SqL K F a vs) (d : DRs K F vs xs) (h' : SqL K F b ws) (d' : DRs K F ws ys) : ItI true K F (zipD xs ys) (Itz K a b) where
  go := fun F2 H i f1 f2 hi => by
    rw [zip_len] at hi
    obtain ⟨v, e, _⟩ := d.get (i := 0) (show xs[i]? = some (xs[i]'(by omega)) by simp)
    obtain ⟨v', e', _⟩ := d'.get (i := 0) (show ys[i]? = some (ys[i]'(by omega)) by simp)
    exact ⟨vs, ws, v, v', f2.sqL (f1.sqL h), f2.sqL (f1.sqL h'), e, e'⟩
  stop := fun F2 H i f1 f2 hi => ⟨vs, ws, f2.sqL (f1.sqL h), f2.sqL (f1.sqL h'), by rw [zip_len] at hi; rw [d.length, d'.length]; omega⟩
  yld := fun F2 H i v H' f1 f2 y hi => by
    obtain ⟨T, x, x2, rfl, hT, rfl, y1, y2⟩ := y
    obtain ⟨z1, z2, k1, k2, k3⟩ := d.zip d' (y1 vs (f2.sqL (f1.sqL h))) (y2 ws (f2.sqL (f1.sqL h')))
    refine ⟨.loose hT, _, k1, ?_⟩
    show ∃ a vs ds, _
    exact ⟨T, _, _, rfl, rfl, .of upd_same, .cons (k2.mono f1) (.cons (k3.mono f1) .nil)⟩
theorem iti_zipT {a b : Addr} {vs ws : List V} {xs ys : List PyData} (h : SqT K F a vs) (d : DRs K F vs xs) (h' : SqT K F b ws) (d' : DRs K F ws ys) : ItI true K F (zipD xs ys) (ItzT K a b) where
  go := fun F2 H i f1 f2 hi => by
    rw [zip_len] at hi
    obtain ⟨v, e, _⟩ := d.get (i := 0) (show xs[i]? = some (xs[i]'(by omega)) by simp)
    obtain ⟨v', e', _⟩ := d'.get (i := 0) (show ys[i]? = some (ys[i]'(by omega)) by simp)
    exact ⟨vs, ws, v, v', f2.sqT (f1.sqT h), f2.sqT (f1.sqT h'), e, e'⟩
  stop := fun F2 H i f1 f2 hi => ⟨vs, ws, f2.sqT (f1.sqT h), f2.sqT (f1.sqT h'), by rw [zip_len] at hi; rw [d.length, d'.length]; omega⟩
  yld := fun F2 H i v H' f1 f2 y hi => by
    obtain ⟨T, x, x2, rfl, hT, rfl, y1, y2⟩ := y
    obtain ⟨z1, z2, k1, k2, k3⟩ := d.zip d' (y1 vs (f2.sqT (f1.sqT h))) (y2 ws (f2.sqT (f1.sqT h')))
    refine ⟨.loose hT, _, k1, ?_⟩
    show ∃ a vs ds, _
    exact ⟨T, _, _, rfl, rfl, .of upd_same, .cons (k2.mono f1) (.cons (k3.mono f1) .nil)⟩
end
section
variable {X : Cx} {XR : XRel} {c : Bool} {W : XK} {a b e tg : Expr} {es : List Expr} {eva evb ev : EvE} {evl : EvA} {p pos tpos : Pos}
def iAny (K : PySem.W.Frag) (te : TE) : TI := fun σ H R => te σ H fun x H1 => (∃ a xs, x = .ref a ∧ SqL K H1 a xs ∧ R (Itl K a) H1) ∨ (∃ a xs, x = .ref a ∧ SqT K H1 a xs ∧ R (Itt K a) H1) ∨ ∃ z, x = .str z ∧ R (Its z) H1
theorem pi_any {te : TE} (he : PE X e te) : PI X tg e (iAny X.K te) := by
  refine ⟨fun pins s σ H R I h => ?_⟩
  refine thn (he.run pins s σ H _ I h) fun v s1 ⟨y, H1, I1, r1, q⟩ => ?_
  rcases q with ⟨a, xs, rfl, hq, q⟩ | ⟨a, xs, rfl, hq, q⟩ | ⟨x, rfl, q⟩
  · cases r1
    obtain ⟨its, rv, pl, hz⟩ := I1.list hq
    exact wpAny_pyIter_list pl.isList (pi_one (tk := s1.toks) I1 _ (turn_list a _) ⟨_, Heap.get?_push_size _ rfl, rfl, rfl⟩ q)
  · cases r1
    obtain ⟨its, rv, pl, hz⟩ := I1.tuple hq
    exact wpAny_pyIter_tuple (show s1.heap.IsTuple a its.toArray from pl) (pi_one (tk := s1.toks) I1 _ (turn_tuple a _) ⟨_, Heap.get?_push_size _ rfl, rfl, rfl⟩ q)
  · obtain ⟨t, rfl⟩ := r1
    cases ha : x.cps.all (· < 128)
    · exact wpAny_pyIter_wide ha (pi_one (tk := s1.toks) I1 _ (turn_str _ x t "str_iterator" (.inr rfl)) ⟨_, Heap.get?_push_size _ rfl, rfl, rfl⟩ q)
    · exact wpAny_pyIter_ascii ha (pi_one (tk := s1.toks) I1 _ (turn_str _ x t "str_ascii_iterator" (.inl rfl)) ⟨_, Heap.get?_push_size _ rfl, rfl, rfl⟩ q)
theorem pi_imp {t t' : TI} (h : PI X tg e t) (i : ∀ σ H R, t' σ H R → t σ H R) : PI X tg e t' := ⟨fun pins s σ H Q I w => h.run pins s σ H Q I (i _ _ _ w)⟩
theorem si_val (he : PE X e (tE X.K XR c W ev)) : PI X tg e (tI false X.K XR c W fun μ S k => ev μ S fun x μ S => match iterV S x.seal with
      | some iv => k iv μ S
      | none => .stuck) := by
  refine pi_imp (pi_any he) fun σ H R ⟨G, F, B, m, μ, S, k, w, r, g, q⟩ => ?_
  refine tE_go w r g fun F1 m1 μ1 S1 p1 v1 H1 e1 w1 r1 vr1 g1 => ?_
  cases ei : iterV S1 p1.seal with
  | none => rw [ei] at g1; exact absurd g1 w.st
  | some iv =>
    rw [ei] at g1
    unfold iterV at ei
    split at ei
    · rename_i xs ex
      rw [ex] at vr1
      cases ei
      have vr1 : DR X.K F1 v1 (.list xs) := vr1
      cases vr1 with
      | lst h1 h2 => exact .inl ⟨_, _, rfl, r1.hr.fF.sqL h1.sqL, q F1 m1 μ1 S1 _ _ H1 e1 r1 (.items (iti_list h1.sqL h2 fun _ _ _ _ => trivial)) g1⟩
    · rename_i xs ex
      rw [ex] at vr1
      cases ei
      have vr1 : DR X.K F1 v1 (.tuple xs) := vr1
      cases vr1 with
      | tup h1 h2 => exact .inr (.inl ⟨_, _, rfl, r1.hr.fF.sqT h1.sqT, q F1 m1 μ1 S1 _ _ H1 e1 r1 (.items (iti_tup h1.sqT h2)) g1⟩)
    · rename_i z ex
      rw [ex] at vr1
      cases ei
      have vr1 : DR X.K F1 v1 (.str z) := vr1
      cases vr1
      refine .inr (.inr ⟨z, rfl, q F1 m1 μ1 S1 _ _ H1 e1 r1 ?_ g1⟩)
      have := ItR.items (m := m1) (iti_str (K := X.K) (F := F1) (z := z))
      rw [List.map_map] at this
      exact this
    · rename_i p ex
      rw [ex] at vr1
      split at ei
      · rename_i xs es
        cases ei
        obtain ⟨a, ha, rfl⟩ := vr1
        obtain ⟨a', vs, k1, k2, k3, k4⟩ := r1.hr.st p xs es
        rw [ha] at k1
        cases k1
        exact .inl ⟨a, vs, rfl, .of k3, q F1 m1 μ1 S1 _ _ H1 e1 r1 (.live rfl ha) g1⟩
      · cases ei
    · cases ei
/-! ### range, enumerate, zip -/
theorem dr_ints {K : PySem.W.Frag} {F : Hp} {vs : List V} {i : Int} {xs : List PyData} (h : DRs K F vs (.int i :: xs)) : ∃ ws, vs = .int i :: ws ∧ DRs K F ws xs := by
  cases h with
  | cons h1 h2 => cases h1; exact ⟨_, rfl, h2⟩
theorem dr_nil {K : PySem.W.Frag} {F : Hp} {vs : List V} (h : DRs K F vs []) : vs = [] := by cases h; rfl
def EvR (evl : EvA) : EvI := fun μ S k => evl μ S fun vs μ S => withDs vs fun xs => match rangeD xs with
      | some ns => k (.items (ns.map fun n => .d (.int n))) μ S
      | none => .stuck
theorem items_ints {tp : Bool} {K : PySem.W.Frag} {F : Hp} {m : List Addr} {ns : List Int} {J : It} (h : ItI tp K F (ns.map .int) J) : ItR tp K F m (.items (ns.map fun n => .d (.int n))) J := by
  have := ItR.items (m := m) h
  rw [List.map_map] at this
  exact this
theorem si_range1 {n : Nat} (hn : n = 1) (hs : [a].all notStar = true) (hg : Gl X "range") (hm : X.mg "range" = none) (ha : PA X [a] (tA X.K XR c W evl)) : PI X tg (.Call (.Name "range" p) [a] [] pos) (tI false X.K XR c W (fun μ S k => evl μ S fun vs μ S => if vs.length = n then withDs vs fun xs => match rangeD xs with
      | some ns => k (.items (ns.map fun n => .d (.int n))) μ S
      | none => .stuck else .stuck)) := by
  subst hn
  rw [List.all_cons, Bool.and_eq_true] at hs
  refine pi_imp (pi_range1 hg hm ha (star_cons hs.1)) fun σ H R ⟨G, F, B, m, μ, S, k, w, r, g, q⟩ => ?_
  refine tA_go w r g fun F1 m1 μ1 S1 xs vs H1 e1 w1 r1 vr1 g1 => ?_
  obtain ⟨hl, g1⟩ := un_if w.st g1
  obtain ⟨ds, ed, g2⟩ := un_withDs w.st g1
  have d := vr1.dats ed
  have hl : ds.length = 1 := by rw [← d.length, ← vr1.length]; exact hl
  cases en : rangeD ds with
  | none => rw [en] at g2; exact absurd g2 w.st
  | some ns =>
    rw [en] at g2
    unfold rangeD at en
    split at en
    · rename_i n
      split at en
      · rename_i hn
        cases en
        obtain ⟨ws, rfl, da⟩ := dr_ints d
        cases dr_nil da
        refine ⟨n, rfl, hn.2, hn.1, q F1 m1 μ1 S1 _ _ H1 e1 r1 (items_ints ?_) g2⟩
        have := iti_range (K := X.K) (F := F1) (lo := 0) (n := n.toNat)
        simp only [Int.zero_add] at this
        rw [List.map_map]
        exact this
      · cases en
    · simp at hl
    · simp at hl
    · cases en
theorem si_range2 {n : Nat} (hn : n = 2) (hs : [a, b].all notStar = true) (hg : Gl X "range") (hm : X.mg "range" = none) (ha : PA X [a, b] (tA X.K XR c W evl)) : PI X tg (.Call (.Name "range" p) [a, b] [] pos) (tI false X.K XR c W (fun μ S k => evl μ S fun vs μ S => if vs.length = n then withDs vs fun xs => match rangeD xs with
      | some ns => k (.items (ns.map fun n => .d (.int n))) μ S
      | none => .stuck else .stuck)) := by
  subst hn
  rw [List.all_cons, List.all_cons, Bool.and_eq_true, Bool.and_eq_true] at hs
  have s1 : starEach [a, b] X.env = [(false, eval a X.env), (false, eval b X.env)] := by rw [star_cons hs.1, star_cons hs.2.1]; rfl
  refine pi_imp (pi_range2 hg hm ha s1 (star_cons hs.2.1)) fun σ H R ⟨G, F, B, m, μ, S, k, w, r, g, q⟩ => ?_
  refine tA_go w r g fun F1 m1 μ1 S1 xs vs H1 e1 w1 r1 vr1 g1 => ?_
  obtain ⟨hl, g1⟩ := un_if w.st g1
  obtain ⟨ds, ed, g2⟩ := un_withDs w.st g1
  have d := vr1.dats ed
  have hl : ds.length = 2 := by rw [← d.length, ← vr1.length]; exact hl
  cases en : rangeD ds with
  | none => rw [en] at g2; exact absurd g2 w.st
  | some ns =>
    rw [en] at g2
    unfold rangeD at en
    split at en
    · simp at hl
    · rename_i i j
      split at en
      · rename_i hn
        cases en
        obtain ⟨ws, rfl, da⟩ := dr_ints d
        obtain ⟨ws2, rfl, db⟩ := dr_ints da
        cases dr_nil db
        refine ⟨i, j, rfl, hn, q F1 m1 μ1 S1 _ _ H1 e1 r1 (items_ints ?_) g2⟩
        have := iti_range (K := X.K) (F := F1) (lo := i) (n := (j - i).toNat)
        rw [List.map_map]
        exact this
      · cases en
    · simp at hl
    · cases en
theorem si_enum {elts : List Expr} {kk : Nat} (hs : notStar e = true) (hg : Gl X "enumerate") (hm : X.mg "enumerate" = none) (he : PE X e (tE X.K XR c W ev)) :
    PI X (.Tuple elts kk tpos) (.Call (.Name "enumerate" p) [e] [] pos) (tI true X.K XR c W (fun μ S k => ev μ S fun x μ S => withD x.seal fun x => match x with
      | .list xs => k (.items ((enumD xs).map .d)) μ S
      | _ => .stuck)) := by
  refine pi_imp (pi_enum hg hm (pa_cons he pa_nil (star_cons hs)) (star_cons hs)) fun σ H R ⟨G, F, B, m, μ, S, k, w, r, g, q⟩ => ?_
  refine tE_go w r g fun F1 m1 μ1 S1 p1 v1 H1 e1 w1 r1 vr1 g1 => ?_
  obtain ⟨x, ex, g2⟩ := un_withD w.st g1
  rw [ex] at vr1
  split at g2
  · rename_i xs
    have vr1 : DR X.K F1 v1 (.list xs) := vr1
    cases vr1 with
    | lst h1 h2 => exact ⟨_, _, rfl, r1.hr.fF.sqL h1.sqL, q F1 m1 μ1 S1 _ _ H1 e1 r1 (.items (iti_enum h1.sqL h2)) g2⟩
  · exact absurd g2 w.st
theorem si_zip {elts : List Expr} {kk : Nat} (hs : notStar a = true) (hs2 : notStar b = true) (hg : Gl X "zip") (hm : X.mg "zip" = none) (ha : PE X a (tE X.K XR c W eva)) (hb : PE X b (tE X.K XR c W evb)) :
    PI X (.Tuple elts kk tpos) (.Call (.Name "zip" p) [a, b] [] pos) (tI true X.K XR c W (fun μ S k => eva μ S fun x μ S => evb μ S fun y μ S => withD x.seal fun x => withD y.seal fun y => match zipO x y with
      | some zs => k (.items (zs.map .d)) μ S
      | none => .stuck)) := by
  refine pi_imp (pi_zipA hg hm (pa_cons ha (pa_cons hb pa_nil (star_cons hs2)) (star_cons hs)) (star_cons hs) (star_all (by simp [hs2]))) fun σ H R ⟨G, F, B, m, μ, S, k, w, r, g, q⟩ => ?_
  refine tE_go w r g fun F1 m1 μ1 S1 p1 v1 H1 e1 w1 r1 vr1 g1 => ?_
  refine tE_go w1 r1 g1 fun F2 m2 μ2 S2 p2 v2 H2 e2 w2 r2 vr2 g2 => ?_
  have vr1 := vr1.mono e2
  obtain ⟨x, ex, g2⟩ := un_withD w.st g2
  obtain ⟨y, ey, g2⟩ := un_withD w.st g2
  rw [ex] at vr1
  rw [ey] at vr2
  cases ez : zipO x y with
  | none => rw [ez] at g2; exact absurd g2 w.st
  | some zs =>
    rw [ez] at g2
    unfold zipO at ez
    split at ez
    · rename_i xs ys
      cases ez
      have vr1 : DR X.K F2 v1 (.list xs) := vr1
      have vr2 : DR X.K F2 v2 (.list ys) := vr2
      cases vr1 with
      | lst h1 h2 =>
        cases vr2 with
        | lst h3 h4 => exact ⟨_, _, _, _, rfl, .inl ⟨r2.hr.fF.sqL h1.sqL, r2.hr.fF.sqL h3.sqL, q F2 m2 μ2 S2 _ _ H2 (e1.trans e2) r2 (.items (iti_zipL h1.sqL h2 h3.sqL h4)) g2⟩⟩
    · rename_i xs ys
      cases ez
      have vr1 : DR X.K F2 v1 (.tuple xs) := vr1
      have vr2 : DR X.K F2 v2 (.tuple ys) := vr2
      cases vr1 with
      | tup h1 h2 =>
        cases vr2 with
        | tup h3 h4 => exact ⟨_, _, _, _, rfl, .inr ⟨r2.hr.fF.sqT h1.sqT, r2.hr.fF.sqT h3.sqT, q F2 m2 μ2 S2 _ _ H2 (e1.trans e2) r2 (.items (iti_zipT h1.sqT h2 h3.sqT h4)) g2⟩⟩
    · cases ez
end
end Mi

set_option maxHeartbeats 4000000
/-! Writes, targets. -/
namespace Mi
open PySem PySem.Spec PyProof.Rows L2
section
variable {K : PySem.W.Frag} {XR : XRel} {c : Bool} {W : XK} {G : R → Prop} {F B : Hp} {m : List Addr} {σ : L2.St} {H : Hp} {μ : Sl} {S : Store}
theorem SR.setV (r : SR K F B m σ H μ S) {i : Nat} (hi : i < μ.length) {x : MV} {v : V} (h : VR0 K F m x v) : SR K F B m (σ.set i (some v)) H (μ.set i (some (.v x))) S where
  hr := r.hr
  len := by rw [List.length_set, List.length_set, r.len]
  val := fun j y q => by
    by_cases hj : i = j
    · subst hj
      rw [List.getElem?_set_self hi] at q
      cases q
      exact ⟨v, List.getElem?_set_self (by rw [← r.len]; exact hi), h⟩
    · rw [List.getElem?_set_ne hj] at q ⊢
      exact r.val j y q
  own := fun j ys q => by
    by_cases hj : i = j
    · subst hj
      rw [List.getElem?_set_self hi] at q
      cases q
    · rw [List.getElem?_set_ne hj] at q ⊢
      exact r.own j ys q
  ownd := fun j l ys zs u q1 q2 q3 q4 => by
    have n : ∀ {j : Nat} {ys : List PyData}, (μ.set i (some (.v x)))[j]? = some (some (.own ys)) → i ≠ j ∧ μ[j]? = some (some (.own ys)) := fun {j ys} q => by
      by_cases hj : i = j
      · subst hj; rw [List.getElem?_set_self hi] at q; cases q
      · rw [List.getElem?_set_ne hj] at q; exact ⟨hj, q⟩
    obtain ⟨n1, q1⟩ := n q1
    obtain ⟨n2, q2⟩ := n q2
    rw [List.getElem?_set_ne n1] at q3
    rw [List.getElem?_set_ne n2] at q4
    exact r.ownd j l ys zs u q1 q2 q3 q4
theorem SR.setO (r : SR K F B m σ H μ S) {i : Nat} (hi : i < μ.length) {xs : List PyData} {v : V} (h : PR K F B m σ H μ (.new xs) v) : SR K F B m (σ.set i (some v)) H (μ.set i (some (.own xs))) S := by
  obtain ⟨a, vs, rfl, h1, h2, h3, h4, h5, h6⟩ := h
  have hσ : i < σ.length := by rw [← r.len]; exact hi
  refine ⟨r.hr, by rw [List.length_set, List.length_set, r.len], fun j y q => ?_, fun j ys q => ?_, fun j l ys zs u q1 q2 q3 q4 => ?_⟩
  · by_cases hj : i = j
    · subst hj
      rw [List.getElem?_set_self hi] at q
      cases q
    · rw [List.getElem?_set_ne hj] at q ⊢
      exact r.val j y q
  · by_cases hj : i = j
    · subst hj
      rw [List.getElem?_set_self hi] at q
      cases q
      exact ⟨a, vs, List.getElem?_set_self hσ, h1, h2, h3, h4, h5⟩
    · rw [List.getElem?_set_ne hj] at q ⊢
      exact r.own j ys q
  · by_cases hj : i = j
    · by_cases hl : i = l
      · exact hj.symm.trans hl
      · subst hj
        rw [List.getElem?_set_self hσ] at q3
        rw [List.getElem?_set_ne hl] at q2 q4
        cases q3
        exact absurd q4 (h6 l zs q2)
    · by_cases hl : i = l
      · subst hl
        rw [List.getElem?_set_self hσ] at q4
        rw [List.getElem?_set_ne hj] at q1 q3
        cases q4
        exact absurd q3 (h6 j ys q1)
      · rw [List.getElem?_set_ne hj] at q1 q3
        rw [List.getElem?_set_ne hl] at q2 q4
        exact r.ownd j l ys zs u q1 q2 q3 q4
/-- the heap changed at one list that is not for good -/
theorem HR.at {a : Addr} {o : HO} (r : HR K F B m H S) (nF : F a = none) (nB : B a = none) : Sub F (upd H a o) ∧ Sub B (upd H a o) :=
  ⟨fun b u e => by rw [upd_ne (fun q => by rw [q, nF] at e; cases e)]; exact r.fF _ _ e, fun b u e => by rw [upd_ne (fun q => by rw [q, nB] at e; cases e)]; exact r.fB _ _ e⟩
theorem upd_some {a b : Addr} {o : HO} (h : H b ≠ none) : (upd H a o) b ≠ none := by
  by_cases q : b = a
  · subst q; rw [upd_same]; simp
  · rw [upd_ne q]; exact h
theorem SR.writeOwn (r : SR K F B m σ H μ S) {i : Nat} {xs ys : List PyData} (e : μ[i]? = some (some (.own xs))) {a : Addr} (ea : σ[i]? = some (some (.ref a))) {ws : List V} (d : DRs K F ws ys) :
    SR K F B m σ (upd H a (.lst ws)) (μ.set i (some (.own ys))) S := by
  obtain ⟨a', vs, h1, h2, h3, h4, h5, h6⟩ := r.own i xs e
  rw [ea] at h1
  cases h1
  have hi : i < μ.length := (List.getElem?_eq_some_iff.mp e).1
  obtain ⟨sF, sB⟩ := r.hr.at (o := .lst ws) h4 h5
  refine ⟨⟨sF, sB, r.hr.nF, r.hr.nB, fun b hb => upd_some (r.hr.mH b hb), r.hr.len, r.hr.nd, fun p zs q => ?_⟩, by rw [List.length_set]; exact r.len, fun j y q => ?_, fun j zs q => ?_, fun j l zs zs' u q1 q2 q3 q4 => ?_⟩
  · obtain ⟨b, us, k1, k2, k3, k4⟩ := r.hr.st p zs q
    exact ⟨b, us, k1, k2, by rw [upd_ne (fun z => by subst z; exact h6 (List.mem_of_getElem? k1))]; exact k3, k4⟩
  · by_cases hj : i = j
    · subst hj; rw [List.getElem?_set_self hi] at q; cases q
    · rw [List.getElem?_set_ne hj] at q; exact r.val j y q
  · by_cases hj : i = j
    · subst hj
      rw [List.getElem?_set_self hi] at q
      cases q
      exact ⟨a, ws, ea, upd_same, d, h4, h5, h6⟩
    · rw [List.getElem?_set_ne hj] at q
      obtain ⟨b, us, k1, k2, k3, k4, k5, k6⟩ := r.own j zs q
      exact ⟨b, us, k1, by rw [upd_ne (fun z => hj (by subst z; exact r.ownd i j xs zs _ e q ea k1))]; exact k2, k3, k4, k5, k6⟩
  · have n : ∀ {j : Nat} {zs : List PyData}, (μ.set i (some (.own ys)))[j]? = some (some (.own zs)) → ∃ zs, μ[j]? = some (some (.own zs)) := fun {j zs} q => by
      by_cases hj : i = j
      · subst hj; exact ⟨xs, e⟩
      · rw [List.getElem?_set_ne hj] at q; exact ⟨zs, q⟩
    obtain ⟨_, q1⟩ := n q1
    obtain ⟨_, q2⟩ := n q2
    exact r.ownd j l _ _ u q1 q2 q3 q4
theorem SR.writeRef (r : SR K F B m σ H μ S) {p : Nat} {xs ys : List MV} (e : S[p]? = some (.lst xs)) {a : Addr} (ea : m[p]? = some a) {ws : List V} (d : VR0s K F m ys ws) :
    SR K F B m σ (upd H a (.lst ws)) μ (S.set p (.lst ys)) := by
  obtain ⟨a', vs, h1, h2, h3, h4⟩ := r.hr.st p xs e
  rw [ea] at h1
  cases h1
  have am : a ∈ m := List.mem_of_getElem? ea
  have hp : p < S.length := (List.getElem?_eq_some_iff.mp e).1
  obtain ⟨sF, sB⟩ := r.hr.at (o := .lst ws) h2 (r.hr.nB a am)
  refine ⟨⟨sF, sB, r.hr.nF, r.hr.nB, fun b hb => upd_some (r.hr.mH b hb), by rw [List.length_set]; exact r.hr.len, r.hr.nd, fun p' zs q => ?_⟩, r.len, r.val, fun j zs q => ?_, r.ownd⟩
  · by_cases hpp : p = p'
    · subst hpp
      rw [List.getElem?_set_self hp] at q
      cases q
      exact ⟨a, ws, ea, h2, upd_same, d⟩
    · rw [List.getElem?_set_ne hpp] at q
      obtain ⟨b, us, k1, k2, k3, k4⟩ := r.hr.st p' zs q
      refine ⟨b, us, k1, k2, ?_, k4⟩
      rw [upd_ne (fun z => ?_)]
      · exact k3
      · subst z
        have l1 := (List.getElem?_eq_some_iff.mp k1)
        have l2 := (List.getElem?_eq_some_iff.mp ea)
        exact hpp ((List.getElem_inj r.hr.nd).mp (l2.2.trans l1.2.symm))
  · obtain ⟨b, us, k1, k2, k3, k4, k5, k6⟩ := r.own j zs q
    exact ⟨b, us, k1, by rw [upd_ne (fun z => by subst z; exact k6 am)]; exact k2, k3, k4, k5, k6⟩
theorem VR0s.append {xs ys : List MV} {vs ws : List V} (h : VR0s K F m xs vs) (h' : VR0s K F m ys ws) : VR0s K F m (xs ++ ys) (vs ++ ws) := by
  induction h with
  | nil => exact h'
  | cons a _ ih => exact .cons a ih
theorem VR0s.set {x : MV} {v : V} (hx : VR0 K F m x v) {xs : List MV} {vs : List V} (h : VR0s K F m xs vs) : ∀ n : Nat, VR0s K F m (xs.set n x) (vs.set n v) := by
  induction h with
  | nil => intro n; exact .nil
  | cons a b ih =>
    intro n
    cases n with
    | zero => exact .cons hx b
    | succ n => exact .cons a (ih n)
/-- what a store at o[j] does -/
theorem un_storeAt (st : ¬ G .stuck) (r : SR K F B m σ H μ S) {o x : MV} {vo vx : V} (ho : VR K F m σ o vo) (hx : VR K F m σ x vx) {j : Int} {k : KN} (g : G (storeAt o j x μ S k)) :
    ∃ a vs n μ' S', vo = .ref a ∧ H a = some (.lst vs) ∧ L2.ixN vs.length j = some n ∧ SR K F B m σ (upd H a (.lst (vs.set n vx))) μ' S' ∧ G (k μ' S') := by
  unfold storeAt at g
  cases o with
  | d y => exact absurd g st
  | own i =>
    have ho : σ[i]? = some (some vo) := ho
    dsimp only at g
    split at g
    · rename_i xs y e
      obtain ⟨a, vs, k1, k2, k3, _⟩ := r.own i xs e
      rw [ho] at k1
      cases k1
      cases en : L2.ixN xs.length j with
      | none => rw [en] at g; exact absurd g st
      | some n =>
        rw [en] at g
        exact ⟨a, vs, n, _, _, rfl, k2, by rw [k3.length]; exact en, r.writeOwn e ho (k3.set hx n), g⟩
    · exact absurd g st
  | ref p =>
    obtain ⟨a, ha, rfl⟩ := ho
    dsimp only at g
    split at g
    · rename_i xs e
      obtain ⟨no, g⟩ := un_if st g
      obtain ⟨a', vs, k1, k2, k3, k4⟩ := r.hr.st p xs e
      rw [ha] at k1
      cases k1
      cases en : L2.ixN xs.length j with
      | none => rw [en] at g; exact absurd g st
      | some n =>
        rw [en] at g
        exact ⟨a, vs, n, _, _, rfl, k3, by rw [← k4.length]; exact en, r.writeRef e ha (k4.set (hx.to0 no) n), g⟩
    · exact absurd g st
theorem un_appendTo (st : ¬ G .stuck) (r : SR K F B m σ H μ S) {o x : MV} {vo vx : V} (ho : VR K F m σ o vo) (hx : VR K F m σ x vx) {k : KN} (g : G (appendTo o x μ S k)) :
    ∃ a vs μ' S', vo = .ref a ∧ H a = some (.lst vs) ∧ vs.length < sizeLine ∧ SR K F B m σ (upd H a (.lst (vs ++ [vx]))) μ' S' ∧ G (k μ' S') := by
  unfold appendTo at g
  cases o with
  | d y => exact absurd g st
  | own i =>
    have ho : σ[i]? = some (some vo) := ho
    dsimp only at g
    split at g
    · rename_i xs y e
      obtain ⟨a, vs, k1, k2, k3, _⟩ := r.own i xs e
      rw [ho] at k1
      cases k1
      obtain ⟨hl, g⟩ := un_if st g
      exact ⟨a, vs, _, _, rfl, k2, by rw [k3.length, ← size0_eq]; exact hl, r.writeOwn e ho (k3.append (.cons hx .nil)), g⟩
    · exact absurd g st
  | ref p =>
    obtain ⟨a, ha, rfl⟩ := ho
    dsimp only at g
    split at g
    · rename_i xs e
      obtain ⟨no, g⟩ := un_if st g
      rw [Bool.and_eq_true, decide_eq_true_eq] at no
      obtain ⟨a', vs, k1, k2, k3, k4⟩ := r.hr.st p xs e
      rw [ha] at k1
      cases k1
      exact ⟨a, vs, _, _, rfl, k3, by rw [← k4.length, ← size0_eq]; exact no.2, r.writeRef e ha (k4.append (.cons (hx.to0 no.1) .nil)), g⟩
    · exact absurd g st
theorem un_extendTo (st : ¬ G .stuck) (r : SR K F B m σ H μ S) {o : MV} {vo : V} (ho : VR K F m σ o vo) {ys : List PyData} {ws : List V} (hx : DRs K F ws ys) {k : KN} (g : G (extendTo o ys μ S k)) :
    ∃ a vs μ' S', vo = .ref a ∧ H a = some (.lst vs) ∧ vs.length + ws.length ≤ sizeLine ∧ SR K F B m σ (upd H a (.lst (vs ++ ws))) μ' S' ∧ G (k μ' S') := by
  unfold extendTo at g
  cases o with
  | d y => exact absurd g st
  | own i =>
    have ho : σ[i]? = some (some vo) := ho
    dsimp only at g
    split at g
    · rename_i xs e
      obtain ⟨a, vs, k1, k2, k3, _⟩ := r.own i xs e
      rw [ho] at k1
      cases k1
      obtain ⟨hl, g⟩ := un_if st g
      exact ⟨a, vs, _, _, rfl, k2, by rw [k3.length, hx.length, ← size0_eq]; exact hl, r.writeOwn e ho (k3.append hx), g⟩
    · exact absurd g st
  | ref p => exact absurd g st
theorem un_setSlot (st : ¬ G .stuck) {i : Nat} {x : SV} {k : Sl → R} (g : G (setSlot i x μ k)) : i < μ.length ∧ G (k (μ.set i (some x))) := by
  unfold setSlot at g
  cases e : μ[i]? with
  | none => rw [e] at g; exact absurd g st
  | some o => rw [e] at g; exact ⟨(List.getElem?_eq_some_iff.mp e).1, g⟩
end
/-! ### targets -/
/-- what comes to a target -/
def TR (tp : Bool) (K : PySem.W.Frag) (F : Hp) (m : List Addr) (σ : L2.St) (H : Hp) (x : MV) (v : V) : Prop :=
  if tp = true then ∃ ds a vs, x = .d (.tuple ds) ∧ v = .ref a ∧ SqT K H a vs ∧ DRs K F vs ds else VR K F m σ x v
abbrev EvG := MV → Sl → Store → KN → R
abbrev EvGs := List PyData → Sl → Store → KN → R
def sG (tp : Bool) (vs : List Nat) (K : PySem.W.Frag) (XR : XRel) (c : Bool) (W : XK) (as : EvG) : TG := fun v σ H Q => ∃ (G : R → Prop) (F B : Hp) (m : List Addr) (μ : Sl) (S : Store) (k : KN) (x : MV), Wish K XR c W G F B m ∧ SR K F B m σ H μ S ∧ TR tp K F m σ H x v ∧ G (as x μ S k) ∧
  ∀ F' m' μ' S' σ' H', Ext F m F' m' → SR K F' B m' σ' H' μ' S' → wipe σ' vs = wipe σ vs → G (k μ' S') → Q σ' H'
def sGs (vs : List Nat) (K : PySem.W.Frag) (XR : XRel) (c : Bool) (W : XK) (as : EvGs) : TGs := fun ws σ H Q => ∃ (G : R → Prop) (F B : Hp) (m : List Addr) (μ : Sl) (S : Store) (k : KN) (xs : List PyData), Wish K XR c W G F B m ∧ SR K F B m σ H μ S ∧ DRs K F ws xs ∧ G (as xs μ S k) ∧
  ∀ F' m' μ' S' σ' H', Ext F m F' m' → SR K F' B m' σ' H' μ' S' → wipe σ' vs = wipe σ vs → G (k μ' S') → Q σ' H'
theorem wipe_set {σ : L2.St} {i : Nat} {v : Option V} : ∀ {vs : List Nat}, i ∈ vs → wipe (σ.set i v) vs = wipe σ vs
  | w :: vs, h => by
    unfold wipe
    by_cases e : i ∈ vs
    · rw [wipe_set e]
    · have hw : w = i := by
        rcases List.mem_cons.mp h with z | z
        · exact z.symm
        · exact absurd z e
      subst hw
      have : ∀ {vs : List Nat}, w ∉ vs → wipe (σ.set w v) vs = (wipe σ vs).set w v := by
        intro vs
        induction vs with
        | nil => intro _; rfl
        | cons u vs ih =>
          intro h
          simp only [List.mem_cons, not_or] at h
          unfold wipe
          rw [ih h.2, List.set_comm _ _ h.1]
      rw [this e, List.set_set]
section
variable {X : Cx} {XR : XRel} {c : Bool} {W : XK} {a b e : Expr} {es : List Expr} {eva evb ev : EvE} {evl : EvA} {pos : Pos} {vs : List Nat}
theorem pg_imp {t t' : TG} (h : PG X e t) (i : ∀ v σ H Q, t' v σ H Q → t v σ H Q) : PG X e t' := ⟨fun pins s σ H v u Q I r w => h.run pins s σ H v u Q I r (i _ _ _ _ w)⟩
theorem pgs_imp {t t' : TGs} (h : PGs X es t) (i : ∀ v σ H Q, t' v σ H Q → t v σ H Q) : PGs X es t' := ⟨fun pins s σ H v u Q I r w => h.run pins s σ H v u Q I r (i _ _ _ _ w)⟩
theorem sg_name {i : Nat} {x : Str} (hN : X.N.Nodup) (hi : X.N[i]? = some x) (hx : Loc X.env.scope x) (hf : X.fn x = true ∨ X.env.scope.names.lookup x = some .local) (hv : i ∈ vs) :
    PG X (.Name x pos) (sG false vs X.K XR c W fun x μ S k => if x.noOwn then setSlot i (.v x) μ fun μ => k μ S else .stuck) := by
  refine pg_imp (pg_name hN hi hx hf) fun v σ H Q ⟨G, F, B, m, μ, S, k, x, w, r, hr, g, q⟩ => ?_
  obtain ⟨no, g⟩ := un_if w.st g
  obtain ⟨hi, g⟩ := un_setSlot w.st g
  have hr : VR X.K F m σ x v := hr
  exact q F m _ S _ H .refl (r.setV hi (hr.to0 no)) (wipe_set hv) g
theorem sg_sub (ho : PE X a (tE X.K XR c W eva)) (hi : PE X b (tE X.K XR c W evb)) (hs : ∀ v, assign (.Subscript a b pos) X.env v = (do
      let ov ← holding [v] (eval a X.env)
      let iv ← holding [v, ov] (eval b X.env)
      standAt pos
      holding [v, ov, iv] (setItem ov iv v)
      release [v, ov, iv] [])) : PG X (.Subscript a b pos) (sG false vs X.K XR c W fun x μ S k => eva μ S fun ov μ S => evb μ S fun jv μ S => withI jv.seal fun i => storeAt ov.seal i x μ S k) := by
  refine pg_imp (pg_sub ho hi set_list hs) fun v σ H Q ⟨G, F, B, m, μ, S, k, x, w, r, hr, g, q⟩ => ?_
  have hr : VR X.K F m σ x v := hr
  refine tE_go w r g fun F1 m1 μ1 S1 p1 v1 H1 e1 w1 r1 vr1 g1 => ?_
  refine tE_go w1 r1 g1 fun F2 m2 μ2 S2 p2 v2 H2 e2 w2 r2 vr2 g2 => ?_
  obtain ⟨i, ei, g2⟩ := un_withI w.st g2
  rw [ei] at vr2
  obtain rfl := vr_int vr2
  obtain ⟨a', ws, n, μ3, S3, rfl, h1, h2, r3, g3⟩ := un_storeAt w.st r2 (vr1.mono e2) (hr.mono (e1.trans e2)) g2
  exact ⟨a', ws, i, n, rfl, rfl, h1, h2, q F2 m2 μ3 S3 σ _ (e1.trans e2) r3 rfl g3⟩
theorem sgs_nil : PGs X [] (sGs vs X.K XR c W fun xs μ S k => match xs with
    | [] => k μ S
    | _ => .stuck) := by
  refine pgs_imp pgs_nil fun v σ H Q ⟨G, F, B, m, μ, S, k, xs, w, r, d, g, q⟩ => ?_
  cases xs with
  | nil => exact ⟨dr_nil d, q F m μ S σ H .refl r rfl g⟩
  | cons x xs => exact absurd g w.st
theorem sgs_cons {ag : EvG} {ags : EvGs} (h1 : PG X e (sG false vs X.K XR c W ag)) (h2 : PGs X es (sGs vs X.K XR c W ags)) (hs : (assignEach (e :: es) X.env).map (·.2) = assign e X.env :: (assignEach es X.env).map (·.2)) :
    PGs X (e :: es) (sGs vs X.K XR c W fun xs μ S k => match xs with
      | x :: xs => ag (.d x) μ S fun μ S => ags xs μ S k
      | _ => .stuck) := by
  refine pgs_imp (pgs_cons h1 h2 hs) fun ws σ H Q ⟨G, F, B, m, μ, S, k, xs, w, r, d, g, q⟩ => ?_
  cases xs with
  | nil => exact absurd g w.st
  | cons x xs =>
    cases d with
    | @cons v vs' _ _ d1 d2 =>
      refine ⟨v, vs', rfl, G, F, B, m, μ, S, _, .d x, w, r, d1, g, fun F1 m1 μ1 S1 σ1 H1 e1 r1 hw1 g1 => ?_⟩
      exact ⟨G, F1, B, m1, μ1, S1, k, xs, w.mono e1, r1, d2.mono e1.f, g1, fun F2 m2 μ2 S2 σ2 H2 e2 r2 hw2 g2 => q F2 m2 μ2 S2 σ2 H2 (e1.trans e2) r2 (hw2.trans hw1) g2⟩
theorem sg_tup {tp : Bool} {kk n : Nat} {ags : EvGs} (hc : X.calm = true) (h : PGs X es (sGs vs X.K XR c W ags)) (hn : (assignEach es X.env).length = n) (hst : (assignEach es X.env).findIdx? (·.1) = none) :
    PG X (.Tuple es kk pos) (sG tp vs X.K XR c W fun x μ S k => match x with
      | .d (.tuple xs) => if xs.length = n then ags xs μ S k else .stuck
      | _ => .stuck) := by
  refine pg_imp (pg_tup hc h hn hst) fun v σ H Q ⟨G, F, B, m, μ, S, k, x, w, r, hr, g, q⟩ => ?_
  have key : ∃ ds a vs, x = .d (.tuple ds) ∧ v = .ref a ∧ SqT X.K H a vs ∧ DRs X.K F vs ds := by
    cases tp with
    | true => exact hr
    | false =>
      have hr : VR X.K F m σ x v := hr
      cases x with
      | ref p => exact absurd g w.st
      | own p => exact absurd g w.st
      | d y =>
        cases y with
        | tuple ds =>
          have hr : DR X.K F v (.tuple ds) := hr
          cases hr with
          | tup h1 h2 => exact ⟨ds, _, _, rfl, rfl, r.hr.fF.sqT h1.sqT, h2⟩
        | _ => exact absurd g w.st
  obtain ⟨ds, p, ws, rfl, rfl, hq, d⟩ := key
  obtain ⟨hl, g⟩ := un_if w.st g
  exact ⟨p, ws, rfl, hq, by rw [d.length]; exact hl, G, F, B, m, μ, S, k, ds, w, r, d, g, q⟩
end
end Mi

set_option maxHeartbeats 4000000
/-! Comprehensions. -/
namespace Mi
open PySem PySem.Spec PyProof.Rows L2
section
variable {K : PySem.W.Frag} {XR : XRel} {c : Bool} {W : XK} {G : R → Prop} {F B : Hp} {m : List Addr} {σ : L2.St} {H : Hp} {μ : Sl} {S : Store}
/-- an object that nobody writes is kept -/
theorem SR.keepB {a : Addr} {o : HO} (r : SR K F B m σ H μ S) (h1 : H a = some o) (h2 : F a = none) (h3 : B a = none) (h4 : a ∉ m) (h5 : ∀ (i : Nat) (ys : List PyData), μ[i]? = some (some (.own ys)) → σ[i]? ≠ some (some (.ref a))) :
    SR K F (upd B a o) m σ H μ S := by
  refine ⟨⟨r.hr.fF, fun b u e => ?_, fun b h => ?_, fun b hb => ?_, r.hr.mH, r.hr.len, r.hr.nd, r.hr.st⟩, r.len, r.val, fun i ys e => ?_, r.ownd⟩
  · by_cases q : b = a
    · subst q; rw [upd_same] at e; cases e; exact h1
    · rw [upd_ne q] at e; exact r.hr.fB _ _ e
  · by_cases q : b = a
    · subst q; exact h2
    · rw [upd_ne q] at h; exact r.hr.nF b h
  · rw [upd_ne (fun q => by subst q; exact h4 hb)]; exact r.hr.nB b hb
  · obtain ⟨b, ws, k1, k2, k3, k4, k5, k6⟩ := r.own i ys e
    exact ⟨b, ws, k1, k2, k3, k4, by rw [upd_ne (fun q => by subst q; exact h5 i ys e k1)]; exact k5, k6⟩
theorem SR.newB {a : Addr} {o : HO} (r : SR K F B m σ H μ S) (h : H a = none) : SR K F (upd B a o) m σ (upd H a o) μ S := by
  have nF : F a = none := by
    cases q : F a with
    | none => rfl
    | some u => rw [r.hr.fF _ _ q] at h; cases h
  have nB : B a = none := by
    cases q : B a with
    | none => rfl
    | some u => rw [r.hr.fB _ _ q] at h; cases h
  refine (r.grow (Grow.loose (o := o) h)).keepB upd_same nF nB (fun hm => r.hr.mH a hm h) fun i ys e q => ?_
  obtain ⟨b, ws, k1, k2, _⟩ := r.own i ys e
  rw [q] at k1
  cases k1
  rw [h] at k2
  cases k2
theorem SR.reB {a : Addr} {o o' : HO} (r : SR K F (upd B a o) m σ H μ S) (n : B a = none) : SR K F (upd B a o') m σ (upd H a o') μ S := by
  obtain ⟨r1, h1, h2, h3, h4⟩ := r.unB n
  obtain ⟨sF, sB⟩ := r1.hr.at (o := o') h2 n
  refine SR.keepB ⟨⟨sF, sB, r1.hr.nF, r1.hr.nB, fun b hb => upd_some (r1.hr.mH b hb), r1.hr.len, r1.hr.nd, fun p xs e => ?_⟩, r1.len, r1.val, fun i ys e => ?_, r1.ownd⟩ upd_same h2 n h3 h4
  · obtain ⟨b, ws, k1, k2, k3, k4⟩ := r1.hr.st p xs e
    exact ⟨b, ws, k1, k2, by rw [upd_ne (fun q => by subst q; exact h3 (List.mem_of_getElem? k1))]; exact k3, k4⟩
  · obtain ⟨b, ws, k1, k2, k3, k4, k5, k6⟩ := r1.own i ys e
    exact ⟨b, ws, k1, by rw [upd_ne (fun q => by subst q; exact h4 i ys e k1)]; exact k2, k3, k4, k5, k6⟩
theorem wipeS_set {μ : Sl} {i : Nat} {v : Option SV} : ∀ {vs : List Nat}, i ∈ vs → wipeS (μ.set i v) vs = wipeS μ vs
  | w :: vs, h => by
    unfold wipeS
    by_cases e : i ∈ vs
    · rw [wipeS_set e]
    · have hw : w = i := by
        rcases List.mem_cons.mp h with z | z
        · exact z.symm
        · exact absurd z e
      subst hw
      have : ∀ {vs : List Nat}, w ∉ vs → wipeS (μ.set w v) vs = (wipeS μ vs).set w v := by
        intro vs
        induction vs with
        | nil => intro _; rfl
        | cons u vs ih =>
          intro h
          simp only [List.mem_cons, not_or] at h
          unfold wipeS
          rw [ih h.2, List.set_comm _ _ h.1]
      rw [this e, List.set_set]
theorem wipeS_sub {μ : Sl} {ws : List Nat} : ∀ {vs : List Nat}, (∀ x ∈ vs, x ∈ ws) → wipeS (wipeS μ vs) ws = wipeS μ ws
  | [], _ => rfl
  | v :: vs, h => by
    show wipeS ((wipeS μ vs).set v none) ws = _
    rw [wipeS_set (h v List.mem_cons_self), wipeS_sub fun x hx => h x (List.mem_cons_of_mem _ hx)]
theorem wipeS_idem {vs : List Nat} : wipeS (wipeS μ vs) vs = wipeS μ vs := wipeS_sub fun _ h => h
theorem wipe_sub {ws : List Nat} : ∀ {vs : List Nat}, (∀ x ∈ vs, x ∈ ws) → wipe (wipe σ vs) ws = wipe σ ws
  | [], _ => rfl
  | v :: vs, h => by
    show wipe ((wipe σ vs).set v none) ws = _
    rw [wipe_set (h v List.mem_cons_self), wipe_sub fun x hx => h x (List.mem_cons_of_mem _ hx)]
theorem wipe_idem {vs : List Nat} : wipe (wipe σ vs) vs = wipe σ vs := wipe_sub fun _ h => h
abbrev W0 : XK := fun _ _ _ => False
theorem wish0 (st : ¬ G .stuck) : Wish K XR true W0 G F B m := ⟨st, fun h => nomatch h⟩
def compB (ag : EvG) (cond : EvT) (elt : EvE) (vs : List Nat) : MV → Sl → Store → (Option PyData → Sl → Store → R) → R := fun x μ S k => ag x μ S fun μ S => cond μ S fun b μ S =>
  if b then elt μ S fun y μ S => withD y.seal fun y => k (some y) (wipeS μ vs) S else k none (wipeS μ vs) S
def compE (evi : EvI) (ag : EvG) (cond : EvT) (elt : EvE) (vs : List Nat) : EvE := fun μ S k => evi μ S fun iv μ S =>
  if noOwnIn vs μ then (match iv with
    | .items xs => compL (compB ag cond elt vs) xs [] (wipeS μ vs) S fun ys μ' S => k (.new ys) (backS μ μ' vs) S
    | .live _ => .stuck) else .stuck
theorem comp_key {tp : Bool} {evi : EvI} {ag : EvG} {cond : EvT} {elt : EvE} {vs : List Nat} {Q : VK} (h : tE K XR c W (compE evi ag cond elt vs) σ H Q) :
    tLc (tI tp K XR c W evi) (sG tp vs K XR true W0 ag) (tT K XR true W0 cond) (tE K XR true W0 elt) vs σ H Q := by
  obtain ⟨G, F, B, m, μ, S, k, w, r, g, q⟩ := h
  refine ⟨G, F, B, m, μ, S, _, w, r, g, fun F1 m1 μ1 S1 iv J H1 e1 r1 it g1 => ?_⟩
  obtain ⟨no, g1⟩ := un_if w.st g1
  cases it with
  | live _ _ => exact absurd g1 w.st
  | @items xs J it =>
    intro D hD
    have nB : B D = none := by
      cases z : B D with
      | none => rfl
      | some u => rw [r1.hr.fB _ _ z] at hD; cases hD
    let Pv : Nat → Hp → Prop := fun i H => ∃ F2 m2 μ2 S2 acc accd, Ext F1 m1 F2 m2 ∧ SR K F2 (upd B D (.lst acc)) m2 (wipe σ vs) H μ2 S2 ∧ wipeS μ2 vs = μ2 ∧ DRs K F2 acc accd ∧
      G (compL (compB ag cond elt vs) ((xs.drop i).map .d) accd μ2 S2 fun ys μ' S => k (.new ys) (backS μ1 μ' vs) S)
    refine ⟨fun i n H => n = xs.length - i ∧ i ≤ xs.length ∧ Pv i H, ⟨xs.length, by simp, Nat.zero_le _, F1, m1, wipeS μ1 vs, S1, [], [], .refl, (r1.wiped vs).newB hD, wipeS_idem, .nil, g1⟩, ?_⟩
    rintro i n H2 ⟨rfl, hi, F2, m2, μ2, S2, acc, accd, e2, r2, hw, d2, g2⟩
    by_cases hlt : i < xs.length
    · refine .inr ⟨it.go F2 H2 i e2.f r2.hr.fF hlt, Pv (i + 1), fun H' p' => ⟨xs.length - (i + 1), by omega, rfl, hlt, p'⟩, fun x H' y => ?_⟩
      obtain ⟨gr, z, hz, hr⟩ := it.yld F2 H2 i x H' e2.f r2.hr.fF y hlt
      have ed : xs.drop i = z :: xs.drop (i + 1) := by
        rw [List.drop_eq_getElem_cons hlt]
        rw [List.getElem?_eq_getElem hlt] at hz
        cases hz
        rfl
      rw [ed] at g2
      have r3 := r2.grow gr
      refine ⟨G, F2, upd B D (.lst acc), m2, μ2, S2, _, .d z, wish0 w.st, r3, ?_, g2, fun F4 m4 μ4 S4 σ4 H4 e4 r4 hw4 g4 => ⟨by rw [hw4, wipe_idem], ?_⟩⟩
      · cases tp with
        | false => exact hr
        | true => obtain ⟨a, ws, ds, rfl, rfl, h1, h2⟩ := hr; exact ⟨ds, a, ws, rfl, rfl, h1, h2⟩
      · have w4 : wipe σ4 vs = wipe σ vs := by rw [hw4, wipe_idem]
        refine ⟨G, F4, _, m4, μ4, S4, _, wish0 w.st, r4, g4, fun F5 m5 μ5 S5 b H5 e5 r5 g5 => ?_⟩
        cases b with
        | false =>
          rw [if_neg Bool.false_ne_true] at g5 ⊢
          refine ⟨F5, m5, wipeS μ5 vs, S5, acc, accd, e2.trans (e4.trans e5), ?_, wipeS_idem, (d2.mono e4.f).mono e5.f, g5⟩
          rw [← w4]
          exact r5.wiped vs
        | true =>
          rw [if_pos rfl] at g5 ⊢
          refine tE_go (wish0 w.st) r5 g5 fun F6 m6 μ6 S6 p6 v6 H6 e6 w6 r6 vr6 g6 => ?_
          obtain ⟨y, ey, g6⟩ := un_withD w.st g6
          rw [ey] at vr6
          obtain ⟨hl, g6⟩ := un_if w.st g6
          refine ⟨acc, r6.hr.fB _ _ upd_same, by rw [d2.length, ← size0_eq]; exact hl, F6, m6, wipeS μ6 vs, S6, acc ++ [v6], accd ++ [y], e2.trans (e4.trans (e5.trans e6)), ?_, wipeS_idem,
            (((d2.mono e4.f).mono e5.f).mono e6.f).append (.cons vr6 .nil), g6⟩
          rw [← w4]
          exact (r6.wiped vs).reB nB
    · have ei : i = xs.length := by omega
      subst ei
      refine .inl ⟨it.stop F2 H2 _ e2.f r2.hr.fF (Nat.le_refl _), ?_⟩
      rw [List.drop_length] at g2
      obtain ⟨r3, h1, h2, h3, h4⟩ := r2.unB nB
      have r4 := SR.backed (vs := vs) (μ := μ2) r1 e2 no (by rw [hw]; exact r3)
      refine q F2 m2 _ S2 (.new accd) (.ref D) H2 (e1.trans e2) r4 ⟨D, acc, rfl, h1, d2, h2, nB, h3, fun i ys ei z => ?_⟩ g2
      rcases back_get ei with ⟨k1, k2⟩ | ⟨k1, k2⟩
      · exact noOwn_at no k1 k2
      · refine h4 i ys k2 ?_
        rw [wipe_keep k1]
        exact z
end
section
variable {X : Cx} {XR : XRel} {c : Bool} {W : XK}
theorem cond_none : PTs X [] (tT X.K XR c W fun μ S k => k true μ S) :=
  ⟨fun pins s σ H Q I ⟨G, F, B, m, μ, S, k, w, r, g, q⟩ => pts_nil.run pins s σ H Q I (q F m μ S true H .refl r g)⟩
theorem cond_one {e : Expr} {ev : EvE} (h : PT X e (tT X.K XR c W (tst ev))) : PTs X [e] (tT X.K XR c W fun μ S k => ev μ S fun x μ S => withB x fun b => if b then k true μ S else k false μ S) := by
  refine ⟨fun pins s σ H Q I ⟨G, F, B, m, μ, S, k, w, r, g, q⟩ => (pts_one h).run pins s σ H Q I ⟨G, F, B, m, μ, S, k, w, r, ?_, q⟩⟩
  have e : (tst ev μ S k) = ev μ S fun x μ S => withB x fun b => if b then k true μ S else k false μ S := by
    unfold tst
    congr 1
    funext x μ S
    congr 1
    funext b
    cases b <;> rfl
  rw [e]
  exact g
variable {elt tg iter : Expr} {ifs : List Expr} {scope : Scope} {own : List (Str × Nat)} {pos : Pos} {tp : Bool} {evi : EvI} {ag : EvG} {cond : EvT} {ee : EvE}
theorem se_comp (hc : X.calm = true) (hN : X.N.Nodup) (hi : PI X tg iter (tI tp X.K XR c W evi)) (ok : BlkOk X.N X.env.scope scope own)
    (hg : ∀ (s : Shared) (H : Hp) (C : Addr) (cl : List (Str × Addr)) (fp : List Addr), PG (X.blk s H scope (compEnvC scope cl C X.env) fp) tg (sG tp (own.map (·.2)) X.K XR true W0 ag))
    (ht : ∀ (s : Shared) (H : Hp) (C : Addr) (cl : List (Str × Addr)) (fp : List Addr), PTs (X.blk s H scope (compEnvC scope cl C X.env) fp) ifs (tT X.K XR true W0 cond))
    (he : ∀ (s : Shared) (H : Hp) (C : Addr) (cl : List (Str × Addr)) (fp : List Addr), PE (X.blk s H scope (compEnvC scope cl C X.env) fp) elt (tE X.K XR true W0 ee)) (hs : ∀ x, foldedSetIterable iter X.env x = pure x) :
    PE X (.ListComp elt [⟨tg, iter, ifs, 0⟩] scope pos) (tE X.K XR c W (compE evi ag cond ee (own.map (·.2)))) :=
  pe_imp (pe_lc hc hN hi ok hg ht he hs) fun σ H Q h => comp_key h
theorem ss_comp {i : Nat} {y : Str} {py spos : Pos} (hc : X.calm = true) (hN : X.N.Nodup) (hy : X.N[i]? = some y) (hyl : X.env.scope.names.lookup y = some .local)
    (hsw : swapsWith (.ListComp elt [⟨tg, iter, ifs, 0⟩] scope pos) (some (.Name y py)) spos.line X.env = pure true) (hi : PI X tg iter (tI tp X.K XR c W evi)) (ok : BlkOk X.N X.env.scope scope own)
    (hg : ∀ (s : Shared) (H : Hp) (C : Addr) (cl : List (Str × Addr)) (fp : List Addr), PG (X.blk s H scope (compEnvC scope cl C X.env) fp) tg (sG tp (own.map (·.2)) X.K XR true W0 ag))
    (ht : ∀ (s : Shared) (H : Hp) (C : Addr) (cl : List (Str × Addr)) (fp : List Addr), PTs (X.blk s H scope (compEnvC scope cl C X.env) fp) ifs (tT X.K XR true W0 cond))
    (he : ∀ (s : Shared) (H : Hp) (C : Addr) (cl : List (Str × Addr)) (fp : List Addr), PE (X.blk s H scope (compEnvC scope cl C X.env) fp) elt (tE X.K XR true W0 ee)) (hs : ∀ x, foldedSetIterable iter X.env x = pure x) :
    PS X (.Assign [.Name y py] (.ListComp elt [⟨tg, iter, ifs, 0⟩] scope pos) spos) (tAsg (tE X.K XR c W (compE evi ag cond ee (own.map (·.2)))) (gName i)) :=
  ⟨fun pins s σ H D I h => (ps_setLc hc hN hy hyl hsw hi ok hg ht he hs).run pins s σ H D I (comp_key (tp := tp) h)⟩
end
end Mi

set_option maxHeartbeats 4000000
/-! Calls of the text's own defs. -/
namespace Mi
open PySem PySem.Spec PyProof.Rows L2
section
variable {K : PySem.W.Frag} {XR : XRel} {c : Bool} {W : XK} {G : R → Prop} {F B : Hp} {m : List Addr} {σ : L2.St} {H : Hp} {μ : Sl} {S : Store}
open Classical in
/-- the lists of the slots are kept through a call -/
theorem SR.toCall (r : SR K F B m σ H μ S) : ∃ B1, HR K F B1 m H S ∧ ∀ F' m' H' S', Ext F m F' m' → HR K F' B1 m' H' S' → SR K F' B m' σ H' μ S' := by
  let P : Addr → Prop := fun a => ∃ (i : Nat) (xs : List PyData), μ[i]? = some (some (SV.own xs)) ∧ σ[i]? = some (some (V.ref a))
  let B1 : Hp := fun a => if P a then H a else B a
  have p1 : ∀ a, P a → B1 a = H a := fun a h => if_pos h
  have p2 : ∀ a, ¬ P a → B1 a = B a := fun a h => if_neg h
  have pn : ∀ a, P a → (∃ vs, H a = some (.lst vs)) ∧ F a = none ∧ B a = none ∧ a ∉ m := fun a ⟨i, xs, h1, h2⟩ => by
    obtain ⟨b, vs, k1, k2, k3, k4, k5, k6⟩ := r.own i xs h1
    rw [h2] at k1
    cases k1
    exact ⟨⟨vs, k2⟩, k4, k5, k6⟩
  have sub : Sub B B1 := fun a o e => by
    by_cases h : P a
    · rw [(pn a h).2.2.1] at e; cases e
    · rw [p2 a h]; exact e
  refine ⟨B1, ⟨r.hr.fF, fun a o e => ?_, fun a e => ?_, fun a ha => ?_, r.hr.mH, r.hr.len, r.hr.nd, r.hr.st⟩, fun F' m' H' S' e h => ?_⟩
  · by_cases hP : P a
    · rw [p1 a hP] at e; exact e
    · rw [p2 a hP] at e; exact r.hr.fB _ _ e
  · by_cases hP : P a
    · exact (pn a hP).2.1
    · rw [p2 a hP] at e; exact r.hr.nF a e
  · by_cases hP : P a
    · exact absurd ha (pn a hP).2.2.2
    · rw [p2 a hP]; exact r.hr.nB a ha
  · refine ⟨⟨h.fF, fun a o q => h.fB _ _ (sub _ _ q), fun a q => h.nF a fun z => ?_, fun a ha => ?_, h.mH, h.len, h.nd, h.st⟩, r.len, fun i x q => ?_, fun i xs q => ?_, r.ownd⟩
    · cases k : B a with
      | none => exact q k
      | some o => rw [sub _ _ k] at z; cases z
    · have := h.nB a ha
      cases k : B a with
      | none => rfl
      | some o => rw [sub _ _ k] at this; cases this
    · obtain ⟨v, k1, k2⟩ := r.val i x q
      exact ⟨v, k1, k2.mono e⟩
    · obtain ⟨b, vs, k1, k2, k3, k4, k5, k6⟩ := r.own i xs q
      have hP : P b := ⟨i, xs, q, k1⟩
      have hB : B1 b = some (.lst vs) := (p1 b hP).trans k2
      exact ⟨b, vs, k1, h.fB _ _ hB, k3.mono e.f, h.nF b (by rw [hB]; simp), k5, fun hm => by have := h.nB b hm; rw [hB] at this; cases this⟩
theorem VRs.get {xs : List MV} {vs : List V} (r : VRs K F m σ xs vs) : ∀ {i : Nat} {x : MV}, xs[i]? = some x → ∃ v, vs[i]? = some v ∧ VR K F m σ x v := by
  induction r with
  | nil => intro i x e; simp at e
  | cons a _ ih =>
    intro i x e
    cases i with
    | zero => simp at e; subst e; exact ⟨_, rfl, a⟩
    | succ i => simpa using ih (by simpa using e)
theorem VRs.append {xs ys : List MV} {vs ws : List V} (h : VRs K F m σ xs vs) (h' : VRs K F m σ ys ws) : VRs K F m σ (xs ++ ys) (vs ++ ws) := by
  induction h with
  | nil => exact h'
  | cons a _ ih => exact .cons a ih
def permO {α : Type} (l : List α) (perm : List Nat) : Option (List α) := if perm.isEmpty then some l else permute l perm
theorem VRs.permute {xs : List MV} {vs : List V} (r : VRs K F m σ xs vs) : ∀ {perm : List Nat} {ys : List MV}, permute xs perm = some ys → ∃ ws, permute vs perm = some ws ∧ VRs K F m σ ys ws
  | [], ys, e => by cases e; exact ⟨[], rfl, .nil⟩
  | i :: p, ys, e => by
    unfold Mi.permute at e
    cases h1 : xs[i]? with
    | none => rw [h1] at e; cases e
    | some x =>
      cases h2 : Mi.permute xs p with
      | none => rw [h1, h2] at e; cases e
      | some zs =>
        rw [h1, h2] at e
        cases e
        obtain ⟨v, k1, k2⟩ := r.get h1
        obtain ⟨ws, k3, k4⟩ := VRs.permute r h2
        exact ⟨v :: ws, by unfold Mi.permute; rw [k1, k3], .cons k2 k4⟩
theorem VRs.permO {xs : List MV} {vs : List V} (r : VRs K F m σ xs vs) {perm : List Nat} {ys : List MV} (e : permO xs perm = some ys) : ∃ ws, permO vs perm = some ws ∧ VRs K F m σ ys ws := by
  unfold Mi.permO at e ⊢
  by_cases h : perm.isEmpty = true
  · rw [if_pos h] at e ⊢; cases e; exact ⟨_, rfl, r⟩
  · rw [if_neg h] at e ⊢; exact r.permute e
theorem vals_permute {vs : List V} {us : List Value} (r : Vals vs us) : ∀ {perm : List Nat} {ws : List V}, permute vs perm = some ws → ∃ zs, permute us perm = some zs ∧ Vals ws zs
  | [], ys, e => by cases e; exact ⟨[], rfl, .nil⟩
  | i :: p, ys, e => by
    unfold Mi.permute at e
    cases h1 : vs[i]? with
    | none => rw [h1] at e; cases e
    | some x =>
      cases h2 : Mi.permute vs p with
      | none => rw [h1, h2] at e; cases e
      | some zs =>
        rw [h1, h2] at e
        cases e
        obtain ⟨v, k1, k2⟩ := r.get h1
        obtain ⟨ws, k3, k4⟩ := vals_permute r h2
        exact ⟨v :: ws, by unfold Mi.permute; rw [k1, k3], .cons k2 k4⟩
theorem vals_permO {vs : List V} {us : List Value} (r : Vals vs us) {perm : List Nat} {ws : List V} (e : permO vs perm = some ws) : ∃ zs, permO us perm = some zs ∧ Vals ws zs := by
  unfold Mi.permO at e ⊢
  by_cases h : perm.isEmpty = true
  · rw [if_pos h] at e ⊢; cases e; exact ⟨_, rfl, r⟩
  · rw [if_neg h] at e ⊢; exact vals_permute r e
end
/-- what a def promises, by its run -/
def spC (K : PySem.W.Frag) (XR : XRel) (call : List MV → Store → R) : Sp := fun vs H Q E => ∃ (G : R → Prop) (F B : Hp) (m : List Addr) (S : Store) (xs : List MV), (¬ G .stuck) ∧ HR K F B m H S ∧ VR0s K F m xs vs ∧ G (call xs S) ∧
  (∀ F' m' S' x v H', Ext F m F' m' → HR K F' B m' H' S' → VR0 K F' m' x v → G (.ok x S') → Q v H') ∧
  (∀ n ys S' F' m' H' cls d, G (.err n ys S') → Ext F m F' m' → HR K F' B m' H' S' → XR n ys F' cls d H' → E cls d H')
/-- .. a def keeps it, where no guard stands -/
def GOk (P : Program) (w : World) (K : PySem.W.Frag) (mg : Str → Option Value) (base : Heap) (CX : CXT) (k : Nat) (f : Addr) (fd : FuncData) (ps : List Str) (sp : Sp) : Prop :=
  ∀ (A : Around) (outer : List Env) (s : Shared) (H : Hp) (args : Args) (us : List Value) (vs : List V) (Q : VK) (E : XK), Room k A → A.guards = some [] → Env0 P w K mg base A outer s H → BindsTo s fd args (ps.zip us) → us.length = ps.length → Vals vs us → sp vs H Q E →
    codeAny (model P w) A (.call (.ref f) args) (CR CX outer P w H s Q E) s
structure Pat where
  np : Nat
  ks : List Str
  perm : List Nat
  deriving DecidableEq
def PatOk (K : PySem.W.Frag) (fd : FuncData) (ps : List Str) (p : Pat) : Prop := ∀ (s : Shared) (us ws zs : List Value), K.In s.heap → us.length = p.np → ws.length = p.ks.length → permO (us ++ ws) p.perm = some zs → zs.length = ps.length → BindsTo s fd ⟨us, p.ks.zip ws⟩ (ps.zip zs)
def callP (c : Bool) (perm : List Nat) (np : Nat) (call : List MV → Store → R) : List MV → Sl → Store → KE → R := fun vs μ S k =>
  if vs.all MV.noOwn then (match permO vs perm with
    | some ws => if ws.length = np then callK c μ k (call ws S) else .stuck
    | none => .stuck) else .stuck
section
variable {X : Cx} {XR : XRel} {c : Bool} {W : XK} {a b e : Expr} {es : List Expr} {kws : List Keyword} {eva evb ev : EvE} {evl evk : EvA} {p pos : Pos} {CX : CXT} {k : Nat} {f : Addr} {fd : FuncData} {ps : List Str} {call : List MV → Store → R} {perm : List Nat} {x : Str}
theorem vals_len {vs : List V} {us : List Value} (r : Vals vs us) : vs.length = us.length := r.length
theorem run_g {pins : List (Addr × Obj)} {σ : L2.St} {H : Hp} {s : Shared} {Q : VK} {us ws zs : List Value} {vs : List V} {E : XK} {sp : Sp} {pt : Pat} (F : GOk X.prog X.w X.K X.mg X.base CX k f fd ps sp) (hr : Room k X.A) (hg : X.A.guards = some []) (hb : PatOk X.K fd ps pt) (hx : Passes CX X E)
    (I : Inv X pins σ H s) (h1 : us.length = pt.np) (h2 : ws.length = pt.ks.length) (h3 : permO (us ++ ws) pt.perm = some zs) (h4 : zs.length = ps.length) (r : Vals vs zs) (h : sp vs H Q E) : wpAny (model X.prog X.w) X.A (PySem.call (.ref f) us (pt.ks.zip ws)) (EP X pins σ Q) X.xe s := by
  refine wpAny_call (codeAny_mono (F X.A X.stack s H ⟨us, pt.ks.zip ws⟩ zs vs Q E hr hg I.env0 (hb s us ws zs I.kIn h1 h2 h3 h4) h4 r h) fun r s' hq => ?_)
  cases r with
  | error e => exact hx pins σ H s e s' I hq
  | ok fl =>
    cases fl with
    | ret u => exact I.after hq
    | next => exact False.elim hq
    | brk => exact False.elim hq
    | cont => exact False.elim hq
/-- the promise, out of a run -/
theorem spC_of {G : R → Prop} {F B : Hp} {m : List Addr} {σ : L2.St} {H : Hp} {μ : Sl} {S : Store} {kk : KE} {Q : VK} {xs : List MV} {vs : List V} (w : Wish X.K XR c W G F B m) (r : SR X.K F B m σ H μ S) (hv : VR0s X.K F m xs vs) (g : G (callK c μ kk (call xs S)))
    (q : ∀ F' m' μ' S' pv v H', Ext F m F' m' → SR X.K F' B m' σ H' μ' S' → PR X.K F' B m' σ H' μ' pv v → G (kk pv μ' S') → Q v H') : spC X.K XR call vs H Q (if c = true then W0 else W) := by
  obtain ⟨B1, h1, h2⟩ := r.toCall
  refine ⟨fun r => G (callK c μ kk r), F, B1, m, S, xs, w.st, h1, hv, g, fun F' m' S' x v H' e h hx g' => ?_, fun n ys S' F' m' H' cls d g' e h hx => ?_⟩
  · exact q F' m' μ S' (.val x) v H' e (h2 F' m' H' S' e h) (VR0.vr hx) g'
  · cases c with
    | true => exact absurd g' w.st
    | false =>
      have hs := h2 F' m' H' S' e h
      exact w.er rfl n ys S' F' m' H' cls d g' e hs.hr hx
theorem kw_some {env : Env} : ∀ {kws : List Keyword}, kws.all (·.arg.isSome) = true → (backToKw pos (keywordEach kws env)).all (·.1.isSome) = true ∧ (backToKw pos (keywordEach kws env)).filterMap (·.1) = kws.filterMap (·.arg) ∧ (backToKw pos (keywordEach kws env)).any (·.1.isNone) = false
  | [], _ => ⟨rfl, rfl, rfl⟩
  | ⟨none, v, p⟩ :: r, h => by simp at h
  | ⟨some n, v, p⟩ :: r, h => by
    rw [List.all_cons, Bool.and_eq_true] at h
    obtain ⟨h1, h2, h3⟩ := kw_some (env := env) h.2
    refine ⟨?_, ?_, ?_⟩
    · show (true && (backToKw pos (keywordEach r env)).all (·.1.isSome)) = true
      rw [h1]; rfl
    · show n :: (backToKw pos (keywordEach r env)).filterMap (·.1) = _
      rw [h2]; rfl
    · show (false || (backToKw pos (keywordEach r env)).any (·.1.isNone)) = false
      rw [h3]; rfl
theorem se_call (F : GOk X.prog X.w X.K X.mg X.base CX k f fd ps (spC X.K XR call)) (hr : Room k X.A) (hg : X.A.guards = some []) (gl : Gl X x) (hm : X.mg x = some (.ref f)) (hk : PySem.W.keepIn X.K (.ref f) = true)
    (hb : PatOk X.K fd ps ⟨es.length, kws.filterMap (·.arg), perm⟩) (hx : Passes CX X (if c = true then W0 else W)) (hs : es.all notStar = true) (hkw : kws.all (·.arg.isSome) = true) (hdb : (x == ("__debug__" : Str)) = false)
    (ha : PA X es (tA X.K XR c W evl)) (ht : PK X kws (tA X.K XR c W evk)) (l0 : es = [] → ∀ μ S k, evl μ S k = k [] μ S) (l1 : ∀ μ S k, evl μ S k = evl μ S fun xs μ S => if xs.length = es.length then k xs μ S else .stuck) (l2 : ∀ μ S k, evk μ S k = evk μ S fun xs μ S => if xs.length = kws.length then k xs μ S else .stuck) :
    PE X (.Call (.Name x p) es kws pos) (tE X.K XR c W fun μ S k => evl μ S fun xs μ S => evk μ S fun ys μ S => callP c perm ps.length call (xs ++ ys) μ S k) := by
  refine ⟨fun pins s σ H Q I ⟨G, F0, B, m, μ, S, kk, w, r, g, q⟩ => ?_⟩
  obtain ⟨k1, k2, k3⟩ := kw_some (env := X.env) (pos := pos) hkw
  have kl : (kws.filterMap (·.arg)).length = kws.length := by
    clear k1 k2 k3 hb ht l2
    induction kws with
    | nil => rfl
    | cons a r ih =>
      rw [List.all_cons, Bool.and_eq_true] at hkw
      obtain ⟨n, hn⟩ := Option.isSome_iff_exists.mp hkw.1
      rw [List.filterMap_cons, hn]
      simp [ih hkw.2]
  have g : G (evl μ S fun xs μ S => evk μ S fun ys μ S => callP c perm ps.length call (xs ++ ys) μ S kk) := g
  rw [l1] at g
  have after : ∀ F1 m1 μ1 S1 xs vs H1, Ext F0 m F1 m1 → Wish X.K XR c W G F1 B m1 → SR X.K F1 B m1 σ H1 μ1 S1 → VRs X.K F1 m1 σ xs vs → G (evk μ1 S1 fun ys μ S => callP c perm ps.length call (xs ++ ys) μ S kk) →
      tA X.K XR c W evk σ H1 fun zs H2 => zs.length = kws.length ∧ ∃ ts, permO (vs ++ zs) perm = some ts ∧ ts.length = ps.length ∧ spC X.K XR call ts H2 Q (if c = true then W0 else W) := by
    intro F1 m1 μ1 S1 xs vs H1 e1 w1 r1 vr1 g1
    rw [l2] at g1
    refine tA_go w1 r1 g1 fun F2 m2 μ2 S2 ys zs H2 e2 w2 r2 vr2 g2 => ?_
    obtain ⟨hl2, g2⟩ := un_if w.st g2
    refine ⟨by rw [← vr2.length]; exact hl2, ?_⟩
    unfold callP at g2
    obtain ⟨no, g2⟩ := un_if w.st g2
    cases ep : permO (xs ++ ys) perm with
    | none => rw [ep] at g2; exact absurd g2 w.st
    | some ws =>
      rw [ep] at g2
      obtain ⟨hl3, g2⟩ := un_if w.st g2
      have v12 : VRs X.K F2 m2 σ (xs ++ ys) (vs ++ zs) := (vr1.mono e2).append vr2
      obtain ⟨ts, h1, h2⟩ := v12.permO ep
      have no' : ws.all MV.noOwn = true := by
        have : ∀ {perm : List Nat} {l ws : List MV}, l.all MV.noOwn = true → permute l perm = some ws → ws.all MV.noOwn = true := by
          intro perm
          induction perm with
          | nil => intro l ws _ e; cases e; rfl
          | cons i p ih =>
            intro l ws h e
            unfold Mi.permute at e
            cases h1 : l[i]? with
            | none => rw [h1] at e; cases e
            | some x =>
              cases h2 : Mi.permute l p with
              | none => rw [h1, h2] at e; cases e
              | some zs =>
                rw [h1, h2] at e
                cases e
                rw [List.all_cons, ih h h2, Bool.and_true]
                exact List.all_eq_true.mp h x (List.mem_of_getElem? h1)
        unfold permO at ep
        by_cases hp : perm.isEmpty = true
        · rw [if_pos hp] at ep; cases ep; exact no
        · rw [if_neg hp] at ep; exact this no ep
      exact ⟨ts, h1, by rw [← h2.length]; exact hl3, spC_of w2 r2 (h2.to0 no') g2 fun F' m' μ' S' pv v H' e => q F' m' μ' S' pv v H' ((e1.trans e2).trans e)⟩
  have step1 : tA X.K XR c W evl σ H fun vs H1 => vs.length = es.length ∧ tA X.K XR c W evk σ H1 fun zs H2 => zs.length = kws.length ∧ ∃ ts, permO (vs ++ zs) perm = some ts ∧ ts.length = ps.length ∧ spC X.K XR call ts H2 Q (if c = true then W0 else W) := by
    refine tA_go w r g fun F1 m1 μ1 S1 xs vs H1 e1 w1 r1 vr1 g1 => ?_
    obtain ⟨hl1, g1⟩ := un_if w.st g1
    exact ⟨by rw [← vr1.length]; exact hl1, after F1 m1 μ1 S1 xs vs H1 e1 w1 r1 vr1 g1⟩
  refine wpAny_Call_Name_kw (ld_glob I gl hm ?_ hdb)
  have body : ∀ us s1, AP X pins σ (fun vs H1 => vs.length = es.length ∧ tA X.K XR c W evk σ H1 fun zs H2 => zs.length = kws.length ∧ ∃ ts, permO (vs ++ zs) perm = some ts ∧ ts.length = ps.length ∧ spC X.K XR call ts H2 Q (if c = true then W0 else W)) us s1 →
      wpAny (model X.prog X.w) X.A (evalAll ((backToKw pos (keywordEach kws X.env)).map (·.2))) (fun ks s₂ => X.K.In s₂.heap ∧ wpAny (model X.prog X.w) X.A (PySem.call (.ref f) ([] ++ us) (((backToKw pos (keywordEach kws X.env)).filterMap (·.1)).zip ks)) (EP X pins σ Q) X.xe s₂) X.xe s1 := fun us s1 ⟨vs, H1, I1, r1, hl1, q1⟩ => by
    refine thn (ht.run pos pins s1 σ H1 _ I1 q1) fun ws s2 ⟨zs, H2, I2, r2, hl2, ts, hp, hl3, hsp⟩ => ⟨I2.kIn, ?_⟩
    rw [k2]
    obtain ⟨us2, hp2, r3⟩ := vals_permO (r1.append r2) hp
    exact run_g (us := us) (pt := ⟨es.length, kws.filterMap (·.arg), perm⟩) F hr hg hb hx I2 (by rw [← r1.length]; exact hl1) (by rw [← r2.length]; exact hl2.trans kl.symm) hp2 (by rw [← r3.length]; exact hl3) r3 hsp
  cases es with
  | nil =>
    refine PySem.W.callWith_KW0 (h₀ := X.base) I.ok.mod.kin hk k1 (body [] s ⟨[], H, I, .nil, rfl, ?_⟩) (by rw [k3]; rfl)
    rw [l0 rfl] at g
    refine after F0 m μ S [] [] H .refl w r .nil ?_
    exact (un_if w.st g).2
  | cons e es =>
    rw [List.all_cons, Bool.and_eq_true] at hs
    refine PySem.W.callWith_KW (h₀ := X.base) I.ok.mod.kin hk k1 (thn (ha.run pos pins s σ H _ I step1) body) (by rw [k3, star_all (by rw [List.all_cons, hs.1, hs.2]; rfl)]; rfl) (star_cons hs.1)
end
end Mi

set_option maxHeartbeats 4000000
/-! Statements. -/
namespace Mi
open PySem PySem.Spec PyProof.Rows L2
abbrev EvS := Sl → Store → KN → (MV → Store → R) → KN → KN → R
/-- a statement -/
def tS (K : PySem.W.Frag) (XR : XRel) (W : XK) (ex : EvS) : TS := fun D σ H => ∃ (G : R → Prop) (F B : Hp) (m : List Addr) (μ : Sl) (S : Store) (nx : KN) (rt : MV → Store → R) (bk ct : KN), Wish K XR false W G F B m ∧ SR K F B m σ H μ S ∧ G (ex μ S nx rt bk ct) ∧
  (∀ F' m' μ' S' σ' H', Ext F m F' m' → SR K F' B m' σ' H' μ' S' → G (nx μ' S') → D.nx σ' H') ∧
  (∀ F' m' S' x v H', Ext F m F' m' → HR K F' B m' H' S' → VR0 K F' m' x v → G (rt x S') → D.rt v H') ∧
  (∀ F' m' μ' S' σ' H', Ext F m F' m' → SR K F' B m' σ' H' μ' S' → G (bk μ' S') → D.bk σ' H') ∧
  (∀ F' m' μ' S' σ' H', Ext F m F' m' → SR K F' B m' σ' H' μ' S' → G (ct μ' S') → D.ct σ' H')
theorem lstS_ty {K : PySem.W.Frag} {F B : Hp} {m : List Addr} {σ : L2.St} {H : Hp} {μ : Sl} {S : Store} (r : SR K F B m σ H μ S) {x : MV} {v : V} (h : VR K F m σ x v) (e : lstS μ S x = true) : tyV K "list" v H := by
  cases x with
  | d y => cases e
  | own i =>
    have h : σ[i]? = some (some v) := h
    unfold lstS at e
    dsimp only at e
    split at e
    · rename_i xs q
      obtain ⟨a, vs, k1, k2, _⟩ := r.own i xs q
      rw [h] at k1
      cases k1
      exact .inl ⟨rfl, vs, .of k2⟩
    · cases e
  | ref p =>
    obtain ⟨a, ha, rfl⟩ := h
    unfold lstS at e
    dsimp only at e
    split at e
    · rename_i xs q
      obtain ⟨b, vs, k1, k2, k3, _⟩ := r.hr.st p xs q
      rw [ha] at k1
      cases k1
      exact .inl ⟨rfl, vs, .of k3⟩
    · cases e
section
variable {X : Cx} {XR : XRel} {W : XK} {e : Expr} {ev : EvE} {s s' : Stmt} {ss : List Stmt} {pos : Pos} {x1 x2 : EvS}
theorem ps_imp {t t' : TS} (h : PS X s t) (i : ∀ D σ H, t' D σ H → t D σ H) : PS X s t' := ⟨fun pins s σ H D I w => h.run pins s σ H D I (i _ _ _ w)⟩
theorem pss_imp {t t' : TS} (h : PSs X ss t) (i : ∀ D σ H, t' D σ H → t D σ H) : PSs X ss t' := ⟨fun pins s σ H D I w => h.run pins s σ H D I (i _ _ _ w)⟩
theorem ss_nil : PSs X [] (tS X.K XR W fun μ S nx _ _ _ => nx μ S) :=
  pss_imp pss_nil fun D σ H ⟨G, F, B, m, μ, S, nx, rt, bk, ct, w, r, g, q1, q2, q3, q4⟩ => q1 F m μ S σ H .refl r g
theorem ss_cons (h1 : PS X s (tS X.K XR W x1)) (h2 : PSs X ss (tS X.K XR W x2)) : PSs X (s :: ss) (tS X.K XR W fun μ S nx rt bk ct => x1 μ S (fun μ S => x2 μ S nx rt bk ct) rt bk ct) :=
  pss_imp (pss_cons h1 h2) fun D σ H ⟨G, F, B, m, μ, S, nx, rt, bk, ct, w, r, g, q1, q2, q3, q4⟩ =>
    ⟨G, F, B, m, μ, S, _, rt, bk, ct, w, r, g, fun F' m' μ' S' σ' H' e' r' g' => ⟨G, F', B, m', μ', S', nx, rt, bk, ct, w.mono e', r', g', fun F2 m2 μ2 S2 σ2 H2 e2 => q1 F2 m2 μ2 S2 σ2 H2 (e'.trans e2), fun F2 m2 S2 x v H2 e2 => q2 F2 m2 S2 x v H2 (e'.trans e2),
      fun F2 m2 μ2 S2 σ2 H2 e2 => q3 F2 m2 μ2 S2 σ2 H2 (e'.trans e2), fun F2 m2 μ2 S2 σ2 H2 e2 => q4 F2 m2 μ2 S2 σ2 H2 (e'.trans e2)⟩, q2, q3, q4⟩
theorem ss_pass : PS X (.Pass pos) (tS X.K XR W fun μ S nx _ _ _ => nx μ S) :=
  ps_imp ps_pass fun D σ H ⟨G, F, B, m, μ, S, nx, rt, bk, ct, w, r, g, q1, q2, q3, q4⟩ => q1 F m μ S σ H .refl r g
theorem ss_brk : PS X (.Break pos) (tS X.K XR W fun μ S _ _ bk _ => bk μ S) :=
  ps_imp ps_break fun D σ H ⟨G, F, B, m, μ, S, nx, rt, bk, ct, w, r, g, q1, q2, q3, q4⟩ => q3 F m μ S σ H .refl r g
theorem ss_cont : PS X (.Continue pos) (tS X.K XR W fun μ S _ _ _ ct => ct μ S) :=
  ps_imp ps_continue fun D σ H ⟨G, F, B, m, μ, S, nx, rt, bk, ct, w, r, g, q1, q2, q3, q4⟩ => q4 F m μ S σ H .refl r g
theorem ss_never : PS X s (tS X.K XR W fun _ _ _ _ _ _ => .stuck) :=
  ps_imp ps_never fun D σ H ⟨G, F, B, m, μ, S, nx, rt, bk, ct, w, r, g, q1, q2, q3, q4⟩ => w.st g
theorem ss_retN : PS X (.Return none pos) (tS X.K XR W fun _ S _ rt _ _ => rt (.d .none) S) :=
  ps_imp ps_retN fun D σ H ⟨G, F, B, m, μ, S, nx, rt, bk, ct, w, r, g, q1, q2, q3, q4⟩ => q2 F m S (.d .none) .non H .refl r.hr ⟨rfl, DR.non⟩ g
theorem ss_ret (he : PE X e (tE X.K XR false W ev)) : PS X (.Return (some e) pos) (tS X.K XR W fun μ S _ rt _ _ => ev μ S fun x _ S => if x.seal.noOwn then rt x.seal S else .stuck) := by
  refine ps_imp (ps_ret he) fun D σ H ⟨G, F, B, m, μ, S, nx, rt, bk, ct, w, r, g, q1, q2, q3, q4⟩ => ?_
  refine tE_go w r g fun F1 m1 μ1 S1 p1 v1 H1 e1 w1 r1 vr1 g1 => ?_
  obtain ⟨no, g2⟩ := un_if w.st g1
  exact q2 F1 m1 S1 p1.seal v1 H1 e1 r1.hr (vr1.to0 no) g2
/-- a head that is no comprehension -/
def noComp : Expr → Bool
  | .ListComp .. | .SetComp .. | .DictComp .. => false
  | _ => true
theorem sw_false (h : noComp e = true) {t : Option Expr} {l : Nat} {env : Env} : swapsWith e t l env = pure false := by
  cases e with
  | ListComp => exact absurd (show false = true from h) Bool.false_ne_true
  | SetComp => exact absurd (show false = true from h) Bool.false_ne_true
  | DictComp => exact absurd (show false = true from h) Bool.false_ne_true
  | _ => rfl
theorem ss_expr (hs : noComp e = true) (he : PE X e (tE X.K XR false W ev)) : PS X (.Expr e pos) (tS X.K XR W fun μ S nx _ _ _ => ev μ S fun _ μ S => nx μ S) := by
  refine ps_imp (ps_expr he (sw_false hs)) fun D σ H ⟨G, F, B, m, μ, S, nx, rt, bk, ct, w, r, g, q1, q2, q3, q4⟩ => ?_
  exact ⟨G, F, B, m, μ, S, _, w, r, g, fun F1 m1 μ1 S1 p1 v1 H1 e1 r1 pr g1 => q1 F1 m1 μ1 S1 σ H1 e1 r1 g1⟩
theorem ss_if {t : Expr} {et : EvE} {a b : List Stmt} {xa xb : EvS} (ht : PT X t (tT X.K XR false W (tst et))) (ha : PSs X a (tS X.K XR W xa)) (hb : PSs X b (tS X.K XR W xb)) :
    PS X (.If t a b pos) (tS X.K XR W fun μ S nx rt bk ct => et μ S fun x μ S => withB x fun d => if d then xa μ S nx rt bk ct else xb μ S nx rt bk ct) := by
  refine ps_imp (ps_if ht ha hb) fun D σ H ⟨G, F, B, m, μ, S, nx, rt, bk, ct, w, r, g, q1, q2, q3, q4⟩ => ?_
  refine tT_go (k := fun d μ S => if d then xa μ S nx rt bk ct else xb μ S nx rt bk ct) w r g fun F1 m1 μ1 S1 t H1 e1 w1 r1 g1 => ?_
  cases t with
  | true => exact ⟨G, F1, B, m1, μ1, S1, nx, rt, bk, ct, w1, r1, g1, fun F2 m2 μ2 S2 σ2 H2 e2 => q1 F2 m2 μ2 S2 σ2 H2 (e1.trans e2), fun F2 m2 S2 x v H2 e2 => q2 F2 m2 S2 x v H2 (e1.trans e2),
      fun F2 m2 μ2 S2 σ2 H2 e2 => q3 F2 m2 μ2 S2 σ2 H2 (e1.trans e2), fun F2 m2 μ2 S2 σ2 H2 e2 => q4 F2 m2 μ2 S2 σ2 H2 (e1.trans e2)⟩
  | false => exact ⟨G, F1, B, m1, μ1, S1, nx, rt, bk, ct, w1, r1, g1, fun F2 m2 μ2 S2 σ2 H2 e2 => q1 F2 m2 μ2 S2 σ2 H2 (e1.trans e2), fun F2 m2 S2 x v H2 e2 => q2 F2 m2 S2 x v H2 (e1.trans e2),
      fun F2 m2 μ2 S2 σ2 H2 e2 => q3 F2 m2 μ2 S2 σ2 H2 (e1.trans e2), fun F2 m2 μ2 S2 σ2 H2 e2 => q4 F2 m2 μ2 S2 σ2 H2 (e1.trans e2)⟩
/-! ### name = value -/
def exSet (i : Nat) (ev : EvE) : EvS := fun μ S nx _ _ _ => ev μ S fun x μ S => if x.seal.noOwn then setSlot i (.v x.seal) μ fun μ => nx μ S else .stuck
def exOwn (i : Nat) (ev : EvE) : EvS := fun μ S nx _ _ _ => ev μ S fun x μ S => match x with
      | .new xs => setSlot i (.own xs) μ fun μ => nx μ S
      | _ => .stuck
theorem set_key {i : Nat} (D : Ends) (σ : L2.St) (H : Hp) (h : tS X.K XR W (exSet i ev) D σ H) : tAsg (tE X.K XR false W ev) (gName i) D σ H := by
  obtain ⟨G, F, B, m, μ, S, nx, rt, bk, ct, w, r, g, q1, q2, q3, q4⟩ := h
  refine tE_go w r g fun F1 m1 μ1 S1 p1 v1 H1 e1 w1 r1 vr1 g1 => ?_
  obtain ⟨no, g2⟩ := un_if w.st g1
  obtain ⟨hi, g2⟩ := un_setSlot w.st g2
  exact q1 F1 m1 _ S1 _ H1 e1 (r1.setV hi (vr1.to0 no)) g2
theorem own_key {i : Nat} (D : Ends) (σ : L2.St) (H : Hp) (h : tS X.K XR W (exOwn i ev) D σ H) : tAsg (tE X.K XR false W ev) (gName i) D σ H := by
  obtain ⟨G, F, B, m, μ, S, nx, rt, bk, ct, w, r, g, q1, q2, q3, q4⟩ := h
  refine ⟨G, F, B, m, μ, S, _, w, r, g, fun F1 m1 μ1 S1 p1 v1 H1 e1 r1 pr1 g1 => ?_⟩
  cases p1 with
  | val x => exact absurd g1 w.st
  | new xs =>
    obtain ⟨hi, g2⟩ := un_setSlot w.st g1
    exact q1 F1 m1 _ S1 _ H1 e1 (r1.setO hi pr1) g2
/-! ### target = value -/
theorem ss_asg {tg : Expr} {vs : List Nat} {ag : EvG} (he : PE X e (tE X.K XR false W ev)) (hg : PG X tg (sG false vs X.K XR false W ag)) (hs : swapsWithSole [tg] e pos.line X.env = pure false) (hw : swappedStores [tg] e X.env = pure none)
    (h1 : (assignEach [tg] X.env).map (·.2) = [assign tg X.env]) : PS X (.Assign [tg] e pos) (tS X.K XR W fun μ S nx _ _ _ => ev μ S fun x μ S => ag x.seal μ S nx) := by
  refine ps_imp (ps_asg he hg hs hw h1) fun D σ H ⟨G, F, B, m, μ, S, nx, rt, bk, ct, w, r, g, q1, q2, q3, q4⟩ => ?_
  refine tE_go w r g fun F1 m1 μ1 S1 p1 v1 H1 e1 w1 r1 vr1 g1 => ?_
  exact ⟨G, F1, B, m1, μ1, S1, nx, p1.seal, w1, r1, vr1, g1, fun F2 m2 μ2 S2 σ2 H2 e2 r2 _ g2 => q1 F2 m2 μ2 S2 σ2 H2 (e1.trans e2) r2 g2⟩
/-! ### o.append(e), o.extend(e) -/
theorem ss_append {o : Expr} {evo : EvE} {apos cpos : Pos} (h1 : notCall o = true) (h2 : notStar e = true) (hl : (apos.endLine == cpos.line) = true) (ho : PE X o (tE X.K XR false W evo)) (he : PE X e (tE X.K XR false W ev)) :
    PS X (.Expr (.Call (.Attribute o "append" apos) [e] [] cpos) pos) (tS X.K XR W fun μ S nx _ _ _ => evo μ S fun ov μ S => if (lstS μ S ov.seal) then ev μ S fun x μ S => appendTo ov.seal x.seal μ S nx else .stuck) := by
  have hp := pe_bm (X := X) (cpos := cpos) (apos := apos) (name := "append") PySem.F.plainAttrs_list PySem.F.slot_list_append PySem.F.type_list_append (mt_append) ho (pa_cons he pa_nil (star_cons h2)) (att_base h1) (few_ok (by simp [h2]) (by simp)) hl (star_cons h2) rfl
  refine ps_imp (ps_expr hp rfl) fun D σ H ⟨G, F, B, m, μ, S, nx, rt, bk, ct, w, r, g, q1, q2, q3, q4⟩ => ?_
  refine tE_go w r g fun F1 m1 μ1 S1 p1 v1 H1 e1 w1 r1 vr1 g1 => ?_
  obtain ⟨hs, g1⟩ := un_if w.st g1
  refine ⟨lstS_ty r1 vr1 hs, ?_⟩
  refine tE_go w1 r1 g1 fun F2 m2 μ2 S2 p2 v2 H2 e2 w2 r2 vr2 g2 => ?_
  obtain ⟨a, vs, μ3, S3, rfl, k1, k2, r3, g3⟩ := un_appendTo w.st r2 (vr1.mono e2) vr2 g2
  exact ⟨a, vs, v2, rfl, rfl, k1, k2, q1 F2 m2 μ3 S3 σ _ (e1.trans e2) r3 g3⟩
end
end Mi

set_option maxHeartbeats 4000000
/-! Statements, second part: extend, several names at once, loops. -/
namespace Mi
open PySem PySem.Spec PyProof.Rows L2
section
variable {X : Cx}
def rExt (K : PySem.W.Frag) : V → List V → Hp → VK → Prop := fun x vs H Q => ∃ l b xs zs, x = .ref l ∧ vs = [.ref b] ∧ H l = some (.lst xs) ∧ LstK K H b zs ∧ xs.length + zs.length ≤ sizeLine ∧ Q .non (upd H l (.lst (xs ++ zs)))
theorem ext_ok : MtR X "list.extend" (rExt X.K) := by
  intro pins s σ H x vs v us Q I rx rv h
  obtain ⟨l, b, xs, zs, rfl, rfl, hH, hB, hz, q⟩ := h
  cases rx
  obtain ⟨u, rfl, ru⟩ := rv.one
  cases ru
  obtain ⟨z, its, n, r, hl, e⟩ := I.lstM hH
  obtain ⟨its2, n2, r2, e2⟩ : ∃ (its : List Value) (n : Nat), Vals zs its ∧ s.heap.get? b = some { cls := .type "list", data := .seq its.toArray n } := by
    rcases hB with hB | ⟨its, n, k1, k2, k3⟩
    · obtain ⟨_, its2, n2, r2, e2⟩ := hB.ok I.hok
      exact ⟨its2, n2, r2, e2⟩
    · exact ⟨its.toList, n, k3, by rw [Array.toArray_toList]; exact I.kIn _ _ k1⟩
  have hl2 := r2.length
  have hsz : its.toArray.size + its2.toArray.size ≤ sizeLine := by rw [List.size_toArray, List.size_toArray]; omega
  have nolong : ¬ (!its.toArray.isEmpty && Builtin.List.listTooLong (its.toArray.size + its2.toArray.size)) = true := by
    rw [notLongL hsz, Bool.and_false]
    exact Bool.false_ne_true
  refine call_meets F.slot_list_extend ⟨_, e, rfl⟩ F.entry_list_extend (F.args_list_extend_2 _ _)
    (AutoSeq1.list_extend_list_list_0 l its.toArray n b its2.toArray n2 nolong (by rw [List.size_toArray]; omega) (by omega)) ⟨e, e2, ?_⟩
  exact ⟨.non, _, I.lset (its' := its ++ its2) hH e (by simp) (r.append r2) (by rw [List.length_append]; omega), rfl, q⟩
end
section
variable {X : Cx} {XR : XRel} {W : XK} {e : Expr} {ev : EvE} {s s' : Stmt} {ss : List Stmt} {pos : Pos} {x1 x2 : EvS}
theorem ss_extend {o : Expr} {evo : EvE} {apos cpos : Pos} (h1 : notCall o = true) (h2 : notStar e = true) (hl : (apos.endLine == cpos.line) = true) (ho : PE X o (tE X.K XR false W evo)) (he : PE X e (tE X.K XR false W ev)) :
    PS X (.Expr (.Call (.Attribute o "extend" apos) [e] [] cpos) pos) (tS X.K XR W fun μ S nx _ _ _ => evo μ S fun ov μ S => if (lstS μ S ov.seal) then ev μ S fun x μ S => withD x.seal fun x => match x with
      | .list ys => extendTo ov.seal ys μ S nx
      | _ => .stuck
      else .stuck) := by
  have hp := pe_bm (X := X) (cpos := cpos) (apos := apos) (name := "extend") PySem.F.plainAttrs_list PySem.F.slot_list_extend PySem.F.type_list_extend ext_ok ho (pa_cons he pa_nil (star_cons h2)) (att_base h1) (few_ok (by simp [h2]) (by simp)) hl (star_cons h2) rfl
  refine ps_imp (ps_expr hp rfl) fun D σ H ⟨G, F, B, m, μ, S, nx, rt, bk, ct, w, r, g, q1, q2, q3, q4⟩ => ?_
  refine tE_go w r g fun F1 m1 μ1 S1 p1 v1 H1 e1 w1 r1 vr1 g1 => ?_
  obtain ⟨hs, g1⟩ := un_if w.st g1
  refine ⟨lstS_ty r1 vr1 hs, ?_⟩
  refine tE_go w1 r1 g1 fun F2 m2 μ2 S2 p2 v2 H2 e2 w2 r2 vr2 g2 => ?_
  obtain ⟨x, ex, g2⟩ := un_withD w.st g2
  rw [ex] at vr2
  split at g2
  · rename_i ys
    have vr2 : DR X.K F2 v2 (.list ys) := vr2
    cases vr2 with
    | lst h1 h2 =>
      obtain ⟨a, vs, μ3, S3, rfl, k1, k2, r3, g3⟩ := un_extendTo w.st r2 (vr1.mono e2) h2 g2
      exact ⟨a, _, vs, _, rfl, rfl, k1, h1.imp r2.hr.fF.rd id, k2, q1 F2 m2 μ3 S3 σ _ (e1.trans e2) r3 g3⟩
  · exact absurd g2 w.st
/-! ### loops -/
theorem ss_while {t : Expr} {et : EvE} {b : List Stmt} {xb : EvS} (hp : PassesOwn (model X.prog X.w) X.A X.env X.xe) (ht : PT X t (tT X.K XR false W (tst et))) (hb : PSs X b (tS X.K XR W xb)) :
    PS X (.While t b [] pos) (tS X.K XR W fun μ S nx rt _ _ => whileL (fun μ S k => et μ S fun x μ S => withB x fun d => k d μ S) (fun μ S k => xb μ S k rt nx k) fuel0 μ S nx) := by
  refine ps_imp (ps_while hp ht hb) fun D σ H ⟨G, F, B, m, μ, S, nx, rt, bk, ct, w, r, g, q1, q2, q3, q4⟩ => ?_
  refine ⟨fun n σ H => ∃ F1 m1 μ1 S1, Ext F m F1 m1 ∧ SR X.K F1 B m1 σ H μ1 S1 ∧ G (whileL (fun μ S k => et μ S fun x μ S => withB x fun d => k d μ S) (fun μ S k => xb μ S k rt nx k) n μ1 S1 nx), ⟨fuel0, F, m, μ, S, .refl, r, g⟩, ?_⟩
  rintro n σ H ⟨F1, m1, μ1, S1, e1, r1, g1⟩
  cases n with
  | zero => exact absurd g1 w.st
  | succ n =>
    have g1 : G (tst et μ1 S1 fun d μ S => if d then xb μ S (fun μ S => whileL (fun μ S k => et μ S fun x μ S => withB x fun d => k d μ S) (fun μ S k => xb μ S k rt nx k) n μ S nx) rt nx (fun μ S => whileL (fun μ S k => et μ S fun x μ S => withB x fun d => k d μ S) (fun μ S k => xb μ S k rt nx k) n μ S nx) else nx μ S) := g1
    refine tT_go (w.mono e1) r1 g1 fun F2 m2 μ2 S2 d H2 e2 w2 r2 g2 => ?_
    cases d with
    | false => exact q1 F2 m2 μ2 S2 σ H2 (e1.trans e2) r2 g2
    | true =>
      refine ⟨fun σ' H' => ∃ F1 m1 μ1 S1, Ext F m F1 m1 ∧ SR X.K F1 B m1 σ' H' μ1 S1 ∧ G (whileL (fun μ S k => et μ S fun x μ S => withB x fun d => k d μ S) (fun μ S k => xb μ S k rt nx k) n μ1 S1 nx), fun σ' H' h => ⟨n, Nat.lt_succ_self n, h⟩, ?_⟩
      exact ⟨G, F2, B, m2, μ2, S2, _, rt, nx, _, w2, r2, g2, fun F' m' μ' S' σ' H' e' r' g' => ⟨F', m', μ', S', (e1.trans e2).trans e', r', g'⟩, fun F' m' S' x v H' e' => q2 F' m' S' x v H' ((e1.trans e2).trans e'),
        fun F' m' μ' S' σ' H' e' => q1 F' m' μ' S' σ' H' ((e1.trans e2).trans e'), fun F' m' μ' S' σ' H' e' r' g' => ⟨F', m', μ', S', (e1.trans e2).trans e', r', g'⟩⟩
def exFor (evi : EvI) (ag : EvG) (xb : EvS) : EvS := fun μ S nx rt _ _ => evi μ S fun iv μ S => forIV (fun x μ S k => ag x μ S fun μ S => xb μ S k rt nx k) iv μ S nx
theorem ss_for {tp : Bool} {vs : List Nat} {tg it : Expr} {evi : EvI} {ag : EvG} {b : List Stmt} {xb : EvS} (hp : PassesOwn (model X.prog X.w) X.A X.env X.xe) (hc : X.calm = true) (hi : PI X tg it (tI tp X.K XR false W evi)) (hg : PG X tg (sG tp vs X.K XR false W ag)) (hb : PSs X b (tS X.K XR W xb))
    (hs : ∀ x, foldedSetIterable it X.env x = pure x) : PS X (.For tg it b [] pos) (tS X.K XR W (exFor evi ag xb)) := by
  refine ps_imp (ps_for hp hc hi hg hb hs) fun D σ H ⟨G, F, B, m, μ, S, nx, rt, bk, ct, w, r, g, q1, q2, q3, q4⟩ => ?_
  refine ⟨G, F, B, m, μ, S, _, w, r, g, fun F1 m1 μ1 S1 iv J H1 e1 r1 it g1 => ?_⟩
  cases it with
  | @items xs J it =>
    let Pv : Nat → L2.St → Hp → Prop := fun i σ H => ∃ F2 m2 μ2 S2, Ext F1 m1 F2 m2 ∧ SR X.K F2 B m2 σ H μ2 S2 ∧ G (forL (fun x μ S k => ag x μ S fun μ S => xb μ S k rt nx k) ((xs.drop i).map .d) μ2 S2 nx)
    refine ⟨fun i n σ H => n = xs.length - i ∧ i ≤ xs.length ∧ Pv i σ H, ⟨xs.length, by simp, Nat.zero_le _, F1, m1, μ1, S1, .refl, r1, g1⟩, ?_⟩
    rintro i n σ2 H2 ⟨rfl, hi, F2, m2, μ2, S2, e2, r2, g2⟩
    by_cases hlt : i < xs.length
    · refine .inr ⟨it.go F2 H2 i e2.f r2.hr.fF hlt, Pv (i + 1), fun σ' H' p' => ⟨xs.length - (i + 1), by omega, rfl, hlt, p'⟩, fun x H' y => ?_⟩
      obtain ⟨gr, z, hz, hr⟩ := it.yld F2 H2 i x H' e2.f r2.hr.fF y hlt
      have ed : xs.drop i = z :: xs.drop (i + 1) := by
        rw [List.drop_eq_getElem_cons hlt]
        rw [List.getElem?_eq_getElem hlt] at hz
        cases hz
        rfl
      rw [ed] at g2
      have e12 := e1.trans e2
      refine ⟨G, F2, B, m2, μ2, S2, _, .d z, w.mono e12, r2.grow gr, ?_, g2, fun F4 m4 μ4 S4 σ4 H4 e4 r4 _ g4 => ?_⟩
      · cases tp with
        | false => exact hr
        | true => obtain ⟨a, ws, ds, rfl, rfl, h1, h2⟩ := hr; exact ⟨ds, a, ws, rfl, rfl, h1, h2⟩
      · exact ⟨G, F4, B, m4, μ4, S4, _, rt, nx, _, w.mono (e12.trans e4), r4, g4, fun F' m' μ' S' σ' H' e' r' g' => ⟨F', m', μ', S', (e2.trans e4).trans e', r', g'⟩, fun F' m' S' x v H' e' => q2 F' m' S' x v H' ((e12.trans e4).trans e'),
          fun F' m' μ' S' σ' H' e' => q1 F' m' μ' S' σ' H' ((e12.trans e4).trans e'), fun F' m' μ' S' σ' H' e' r' g' => ⟨F', m', μ', S', (e2.trans e4).trans e', r', g'⟩⟩
    · have ei : i = xs.length := by omega
      subst ei
      rw [List.drop_length] at g2
      exact .inl ⟨it.stop F2 H2 _ e2.f r2.hr.fF (Nat.le_refl _), q1 F2 m2 μ2 S2 σ2 H2 (e1.trans e2) r2 g2⟩
  | @live p a htp ha =>
    subst htp
    let body : MV → Sl → Store → (Sl → Store → R) → R := fun x μ S k => ag x μ S fun μ S => xb μ S k rt nx k
    let Pv : Nat → Nat → L2.St → Hp → Prop := fun n i σ H => ∃ F2 m2 μ2 S2, Ext F1 m1 F2 m2 ∧ SR X.K F2 B m2 σ H μ2 S2 ∧ G (forV (liveL (.ref p)) body n i μ2 S2 nx)
    refine ⟨fun i n σ H => Pv n i σ H, ⟨fuel0, F1, m1, μ1, S1, .refl, r1, g1⟩, ?_⟩
    rintro i n σ2 H2 ⟨F2, m2, μ2, S2, e2, r2, g2⟩
    cases n with
    | zero => exact absurd g2 w.st
    | succ n =>
      have ha2 := pre_get e2.m ha
      cases eS : S2[p]? with
      | none => simp only [forV, liveL, eS] at g2; exact absurd g2 w.st
      | some o =>
        cases o with
        | dead => simp only [forV, liveL, eS] at g2; exact absurd g2 w.st
        | lst xs =>
          obtain ⟨a', vs, k1, k2, k3, k4⟩ := r2.hr.st p xs eS
          rw [ha2] at k1
          cases k1
          cases ex : xs[i]? with
          | none =>
            simp only [forV, liveL, eS, ex] at g2
            refine .inl ⟨⟨vs, .of k3, ?_⟩, q1 F2 m2 μ2 S2 σ2 H2 (e1.trans e2) r2 g2⟩
            rw [← k4.length]
            exact List.getElem?_eq_none_iff.mp ex
          | some x =>
            simp only [forV, liveL, eS, ex] at g2
            obtain ⟨v, hv, hr⟩ := k4.get ex
            have e12 := e1.trans e2
            refine .inr ⟨⟨vs, v, .of k3, hv⟩, Pv n (i + 1), fun σ' H' p' => ⟨n, Nat.lt_succ_self n, p'⟩, fun y H' yy => ?_⟩
            obtain ⟨rfl, yy⟩ := yy
            have := yy vs (.of k3)
            rw [hv] at this
            cases this
            refine ⟨G, F2, B, m2, μ2, S2, _, x, w.mono e12, r2, hr.vr, g2, fun F4 m4 μ4 S4 σ4 H4 e4 r4 _ g4 => ?_⟩
            exact ⟨G, F4, B, m4, μ4, S4, _, rt, nx, _, w.mono (e12.trans e4), r4, g4, fun F' m' μ' S' σ' H' e' r' g' => ⟨F', m', μ', S', (e2.trans e4).trans e', r', g'⟩, fun F' m' S' x v H' e' => q2 F' m' S' x v H' ((e12.trans e4).trans e'),
              fun F' m' μ' S' σ' H' e' => q1 F' m' μ' S' σ' H' ((e12.trans e4).trans e'), fun F' m' μ' S' σ' H' e' r' g' => ⟨F', m', μ', S', (e2.trans e4).trans e', r', g'⟩⟩
end
end Mi

set_option maxHeartbeats 4000000
/-! Several names at once. -/
namespace Mi
open PySem PySem.Spec PyProof.Rows L2
abbrev EvP := Sl → Store → (List PV → Sl → Store → R) → R
section
variable {K : PySem.W.Frag} {XR : XRel} {c : Bool} {W : XK} {G : R → Prop} {F B : Hp} {m : List Addr} {σ : L2.St} {H : Hp} {μ : Sl} {S : Store}
theorem HR.unB {a : Addr} {o : HO} (r : HR K F (upd B a o) m H S) (n : B a = none) : HR K F B m H S := by
  have sB : Sub B (upd B a o) := sub_upd n
  refine ⟨r.fF, fun b u e => r.fB _ _ (sB _ _ e), fun b h => r.nF b (fun e => ?_), fun b hb => ?_, r.mH, r.len, r.nd, r.st⟩
  · cases z : B b with
    | none => exact h z
    | some u => rw [sB _ _ z] at e; cases e
  · cases z : B b with
    | none => rfl
    | some u => have := r.nB b hb; rw [sB _ _ z] at this; cases this
theorem Wish.toB {a : Addr} {o : HO} (w : Wish K XR c W G F B m) (n : B a = none) : Wish K XR c W G F (upd B a o) m :=
  ⟨w.st, fun hc n' xs S' F' m' H' cls d g e h x => w.er hc n' xs S' F' m' H' cls d g e (h.unB n) x⟩
/-- values kept apart -/
def PR' (K : PySem.W.Frag) (F B : Hp) (m : List Addr) (σ : L2.St) (H : Hp) (μ : Sl) : PV → V → Prop
  | .val x, v => x.noOwn = true → VR0 K F m x v
  | .new xs, v => PR K F B m σ H μ (.new xs) v
inductive PRs (K : PySem.W.Frag) (F B : Hp) (m : List Addr) (σ : L2.St) (H : Hp) (μ : Sl) : List PV → List V → Prop
  | nil : PRs K F B m σ H μ [] []
  | cons {p : PV} {v : V} {ps : List PV} {vs : List V} : PR' K F B m σ H μ p v → PRs K F B m σ H μ ps vs → (∀ xs, p = .new xs → ∀ (j : Nat) (ys : List PyData), ps[j]? = some (.new ys) → vs[j]? ≠ some v) → PRs K F B m σ H μ (p :: ps) (v :: vs)
theorem PRs.length {ps : List PV} {vs : List V} (h : PRs K F B m σ H μ ps vs) : ps.length = vs.length := by
  induction h with
  | nil => rfl
  | cons _ _ _ ih => simp [ih]
theorem PRs.new_at {ps : List PV} {vs : List V} (h : PRs K F B m σ H μ ps vs) : ∀ {j : Nat} {ys : List PyData}, ps[j]? = some (.new ys) → ∃ v, vs[j]? = some v ∧ PR K F B m σ H μ (.new ys) v := by
  induction h with
  | nil => intro j ys e; simp at e
  | cons a _ _ ih =>
    intro j ys e
    cases j with
    | zero => simp at e; subst e; exact ⟨_, rfl, a⟩
    | succ j => simpa using ih (by simpa using e)
theorem PRs.unB {a : Addr} {o : HO} {ps : List PV} {vs : List V} (n : B a = none) (h : PRs K F (upd B a o) m σ H μ ps vs) : PRs K F B m σ H μ ps vs := by
  induction h with
  | nil => exact .nil
  | @cons p v ps vs h1 _ h3 ih =>
    refine .cons ?_ ih h3
    cases p with
    | val x => exact h1
    | new xs =>
      obtain ⟨b, ws, k1, k2, k3, k4, k5, k6⟩ := h1
      refine ⟨b, ws, k1, k2, k3, k4, ?_, k6⟩
      cases z : B b with
      | none => rfl
      | some u => rw [sub_upd n _ _ z] at k5; cases k5
def tP (K : PySem.W.Frag) (XR : XRel) (c : Bool) (W : XK) (ev : EvP) : TA := fun σ H Q => ∃ (G : R → Prop) (F B : Hp) (m : List Addr) (μ : Sl) (S : Store) (k : List PV → Sl → Store → R), Wish K XR c W G F B m ∧ SR K F B m σ H μ S ∧ G (ev μ S k) ∧
  ∀ F' m' μ' S' ps vs H', Ext F m F' m' → SR K F' B m' σ H' μ' S' → PRs K F' B m' σ H' μ' ps vs → G (k ps μ' S') → Q vs H'
/-- storing one of them leaves the others -/
theorem PRs.setV {i : Nat} (hi : i < μ.length) {x : MV} {u : V} {ps : List PV} {vs : List V} (h : PRs K F B m σ H μ ps vs) : PRs K F B m (σ.set i (some u)) H (μ.set i (some (.v x))) ps vs := by
  induction h with
  | nil => exact .nil
  | @cons p v ps vs h1 _ h3 ih =>
    refine .cons ?_ ih h3
    cases p with
    | val x => exact h1
    | new xs =>
      obtain ⟨b, ws, k1, k2, k3, k4, k5, k6, k7⟩ := h1
      refine ⟨b, ws, k1, k2, k3, k4, k5, k6, fun j ys e => ?_⟩
      by_cases hj : i = j
      · subst hj; rw [List.getElem?_set_self hi] at e; cases e
      · rw [List.getElem?_set_ne hj] at e ⊢; exact k7 j ys e
theorem PRs.setO {i : Nat} (hi : i < μ.length) (hl : μ.length = σ.length) {zs : List PyData} {a : Addr} {ps : List PV} {vs : List V} (h : PRs K F B m σ H μ ps vs) (ne : ∀ (j : Nat) (ys : List PyData), ps[j]? = some (.new ys) → vs[j]? ≠ some (V.ref a)) :
    PRs K F B m (σ.set i (some (.ref a))) H (μ.set i (some (.own zs))) ps vs := by
  induction h with
  | nil => exact .nil
  | @cons p v ps vs h1 _ h3 ih =>
    refine .cons ?_ (ih fun j ys e => by simpa using ne (j + 1) ys (by simpa using e)) h3
    cases p with
    | val x => exact h1
    | new xs =>
      obtain ⟨b, ws, k1, k2, k3, k4, k5, k6, k7⟩ := h1
      refine ⟨b, ws, k1, k2, k3, k4, k5, k6, fun j ys e => ?_⟩
      by_cases hj : i = j
      · subst hj
        rw [List.getElem?_set_self (by rw [← hl]; exact hi)]
        intro q
        cases q
        subst k1
        exact ne 0 xs rfl rfl
      · rw [List.getElem?_set_ne hj] at e ⊢; exact k7 j ys e
def setσ : List Nat → List V → L2.St → L2.St
  | i :: is, v :: vs, σ => setσ is vs (σ.set i (some v))
  | _, _, σ => σ
theorem un_setAll (st : ¬ G .stuck) : ∀ {is : List Nat} {ps : List PV} {vs : List V} {σ : L2.St} {μ : Sl} {k : Sl → R}, SR K F B m σ H μ S → PRs K F B m σ H μ ps vs → G (setAll is ps μ k) → ∃ μ', SR K F B m (setσ is vs σ) H μ' S ∧ G (k μ')
  | [], [], vs, σ, μ, k, r, h, g => by cases h; exact ⟨μ, r, g⟩
  | [], _ :: _, vs, σ, μ, k, r, h, g => absurd g st
  | _ :: _, [], vs, σ, μ, k, r, h, g => absurd g st
  | i :: is, p :: ps, _, σ, μ, k, r, .cons (v := v) (vs := vs) h1 h2 h3, g => by
    cases p with
    | val x =>
      obtain ⟨no, g⟩ := un_if st (show G (if x.noOwn then setSlot i (.v x) μ fun μ => setAll is ps μ k else .stuck) from g)
      obtain ⟨hi, g⟩ := un_setSlot st g
      have := un_setAll st (is := is) (r.setV hi (h1 no)) (h2.setV hi) g
      exact this
    | new xs =>
      obtain ⟨hi, g⟩ := un_setSlot st (show G (setSlot i (.own xs) μ fun μ => setAll is ps μ k) from g)
      obtain ⟨a, ws, rfl, _⟩ := id h1
      have := un_setAll st (is := is) (r.setO hi h1) (h2.setO hi r.len (h3 xs rfl)) g
      exact this
end
section
variable {X : Cx} {XR : XRel} {c : Bool} {W : XK} {e : Expr} {ev : EvE} {es : List Expr} {evp : EvP} {pos : Pos}
theorem sp_nil : PA X [] (tP X.K XR c W fun μ S k => k [] μ S) :=
  ⟨fun pos pins s σ H Q I ⟨G, F, B, m, μ, S, k, w, r, g, q⟩ => pa_nil.run pos pins s σ H Q I (q F m μ S [] [] H .refl r .nil g)⟩
theorem sp_cons (hs : notStar e = true) (he : PE X e (tE X.K XR c W ev)) (hr : PA X es (tP X.K XR c W evp)) :
    PA X (e :: es) (tP X.K XR c W fun μ S k => ev μ S fun x μ S => evp μ S fun xs μ S => k (x :: xs) μ S) :=
  ⟨fun pos pins s σ H Q I ⟨G, F, B, m, μ, S, k, w, r, g, q⟩ => (pa_cons he hr (star_cons hs)).run pos pins s σ H Q I (by
    refine ⟨G, F, B, m, μ, S, _, w, r, g, fun F1 m1 μ1 S1 p1 v1 H1 e1 r1 pr1 g1 => ?_⟩
    have w1 := w.mono e1
    cases p1 with
    | val x =>
      refine ⟨G, F1, B, m1, μ1, S1, _, w1, r1, g1, fun F2 m2 μ2 S2 ps vs H2 e2 r2 h2 g2 => ?_⟩
      exact q F2 m2 μ2 S2 (.val x :: ps) (v1 :: vs) H2 (e1.trans e2) r2 (.cons (fun no => (VR.to0 no pr1).mono e2) h2 fun xs e => nomatch e) g2
    | new xs =>
      obtain ⟨a, ws, rfl, k2, k3, k4, k5, k6, k7⟩ := pr1
      have r1' := r1.keepB k2 k4 k5 k6 k7
      refine ⟨G, F1, upd B a (.lst ws), m1, μ1, S1, _, w1.toB k5, r1', g1, fun F2 m2 μ2 S2 ps vs H2 e2 r2 h2 g2 => ?_⟩
      obtain ⟨r3, t1, t2, t3, t4⟩ := r2.unB k5
      refine q F2 m2 μ2 S2 (.new xs :: ps) (.ref a :: vs) H2 (e1.trans e2) r3 (.cons ⟨a, ws, rfl, t1, k3.mono e2.f, t2, k5, t3, t4⟩ (h2.unB k5) fun xs' _ j ys e z => ?_) g2
      obtain ⟨v, h4, b, us, rfl, _, _, _, h5, _⟩ := h2.new_at e
      rw [h4] at z
      cases z
      rw [upd_same] at h5
      cases h5)⟩
theorem par_key {is : List Nat} {D : Ends} {σ : L2.St} {H : Hp} (h : tS X.K XR W (fun μ S nx _ _ _ => evp μ S fun xs μ S => setAll is xs μ fun μ => nx μ S) D σ H) : tP X.K XR false W evp σ H fun vs H1 => D.nx (setσ is vs σ) H1 ∧ vs.length = is.length := by
  obtain ⟨G, F, B, m, μ, S, nx, rt, bk, ct, w, r, g, q1, q2, q3, q4⟩ := h
  refine ⟨G, F, B, m, μ, S, _, w, r, g, fun F1 m1 μ1 S1 ps vs H1 e1 r1 h1 g1 => ?_⟩
  have hl : ps.length = is.length := by
    have : ∀ {is : List Nat} {ps : List PV} {μ : Sl} {k : Sl → R}, G (setAll is ps μ k) → ps.length = is.length := by
      intro is
      induction is with
      | nil => intro ps μ k g; cases ps with
        | nil => rfl
        | cons p ps => exact absurd g w.st
      | cons i is ih => intro ps μ k g; cases ps with
        | nil => exact absurd g w.st
        | cons p ps =>
          cases p with
          | val x =>
            have := (un_setSlot w.st (un_if w.st (show G (if x.noOwn then setSlot i (.v x) μ fun μ => setAll is ps μ k else .stuck) from g)).2).2
            simp [ih this]
          | new xs =>
            have := (un_setSlot w.st (show G (setSlot i (.own xs) μ fun μ => setAll is ps μ k) from g)).2
            simp [ih this]
    exact this g1
  obtain ⟨μ2, r2, g2⟩ := un_setAll w.st r1 h1 g1
  exact ⟨q1 F1 m1 μ2 S1 _ H1 e1 r2 g2, by rw [← h1.length]; exact hl⟩
theorem ss_par2 {i j : Nat} {x y : Str} {a b : Expr} {px py pt : Pos} {kt k2 pt2} (hc : X.calm = true) (hN : X.N.Nodup) (hi : X.N[i]? = some x) (hj : X.N[j]? = some y) (hij : i ≠ j)
    (hx : X.env.scope.names.lookup x = some .local) (hy : X.env.scope.names.lookup y = some .local) (ha : PA X [a, b] (tP X.K XR false W evp))
    (hw : swappedStores [.Tuple [.Name x px, .Name y py] kt pt] (.Tuple [a, b] k2 pt2) X.env = pure (some [x, y])) :
    PS X (.Assign [.Tuple [.Name x px, .Name y py] kt pt] (.Tuple [a, b] k2 pt2) pos) (tS X.K XR W fun μ S nx _ _ _ => evp μ S fun xs μ S => setAll [i, j] xs μ fun μ => nx μ S) := by
  refine ⟨fun pins s σ H D I h => (ps_par hc hN hi hj hij hx hy (ta := fun σ H Q => tP X.K XR false W evp σ H fun vs H1 => Q vs H1) ha hw rfl).run pins s σ H D I ?_⟩
  obtain ⟨G, F, B, m, μ, S, k, w, r, g, q⟩ := par_key h
  refine ⟨G, F, B, m, μ, S, k, w, r, g, fun F' m' μ' S' ps vs H' e r h g => ?_⟩
  obtain ⟨q1, q2⟩ := q F' m' μ' S' ps vs H' e r h g
  match vs, q2, q1 with
  | [v, u], _, q1 => exact ⟨v, u, rfl, q1⟩
theorem ss_par3 {i j l : Nat} {x y z : Str} {a b d : Expr} {px py pz pt : Pos} {kt k2 pt2} (hc : X.calm = true) (hN : X.N.Nodup) (hi : X.N[i]? = some x) (hj : X.N[j]? = some y) (hl : X.N[l]? = some z) (hij : i ≠ j) (hil : i ≠ l) (hjl : j ≠ l)
    (hx : X.env.scope.names.lookup x = some .local) (hy : X.env.scope.names.lookup y = some .local) (hz : X.env.scope.names.lookup z = some .local) (ha : PA X [a, b, d] (tP X.K XR false W evp))
    (hw : swappedStores [.Tuple [.Name x px, .Name y py, .Name z pz] kt pt] (.Tuple [a, b, d] k2 pt2) X.env = pure (some [x, y, z])) :
    PS X (.Assign [.Tuple [.Name x px, .Name y py, .Name z pz] kt pt] (.Tuple [a, b, d] k2 pt2) pos) (tS X.K XR W fun μ S nx _ _ _ => evp μ S fun xs μ S => setAll [i, j, l] xs μ fun μ => nx μ S) := by
  refine ⟨fun pins s σ H D I h => (ps_par3 hc hN hi hj hl hij hil hjl hx hy hz (ta := fun σ H Q => tP X.K XR false W evp σ H fun vs H1 => Q vs H1) ha hw rfl).run pins s σ H D I ?_⟩
  obtain ⟨G, F, B, m, μ, S, k, w, r, g, q⟩ := par_key h
  refine ⟨G, F, B, m, μ, S, k, w, r, g, fun F' m' μ' S' ps vs H' e r h g => ?_⟩
  obtain ⟨q1, q2⟩ := q F' m' μ' S' ps vs H' e r h g
  match vs, q2, q1 with
  | [v, u, t], _, q1 => exact ⟨v, u, t, rfl, q1⟩
end
end Mi

set_option maxHeartbeats 4000000
/-! The checker: does a text of the small language stand for a text of the program? -/
namespace Mi
open PySem PySem.Spec PyProof.Rows L2
/-- the text's names: of the frame's slots; of the defs (with their numbers of parameters, with the ways they are called); of the constants; names that the module does not have -/
structure Tx where
  N : List Str
  fn : List (Str × Nat × List Pat)
  gl : List Str
  no : List Str
def visB (sc : Scope) (x : Str) : Bool := match sc.names.lookup x with
  | some .local | some .cell | some .free => true
  | _ => false
def locB (sc : Scope) (x : Str) : Bool := match sc.names.lookup x with
  | some .local | some .cell => true
  | _ => false
def lclB (sc : Scope) (x : Str) : Bool := match sc.names.lookup x with
  | some .local => true
  | _ => false
def cellB (sc : Scope) (x : Str) : Bool := match sc.names.lookup x with
  | some .cell => true
  | _ => false
def glB (sc : Scope) (x : Str) : Bool := match sc.names.lookup x with
  | some .globalImplicit => true
  | _ => false
def nmB (x : Str) : Bool := (x != ("__debug__" : Str)) && (x != ("__classdict__" : Str))
def noSlice : Expr → Bool
  | .Slice .. => false
  | _ => true
def noSet : Expr → Bool
  | .Set .. => false
  | _ => true
def cC : PyData → Expr → Bool
  | .int i, .Constant (.int j) _ _ => decide (i = j)
  | .bool i, .Constant (.bool j) _ _ => decide (i = j)
  | .none, .Constant .none _ _ => true
  | .str i, .Constant (.str j) _ _ => decide (i = j)
  | _, _ => false
def ownOf (N : List Str) (vs : List Nat) : List (Str × Nat) := vs.filterMap fun i => N[i]?.map fun x => (x, i)
def pairIt : MI → Bool
  | .enum _ => true
  | .zip _ _ => true
  | _ => false
def isTup : Expr → Bool
  | .Tuple .. => true
  | _ => false
def isNameT : MT → Bool
  | .name _ => true
  | _ => false
mutual
def cE (T : Tx) (sc : Scope) : ME → Expr → Bool
  | .const x, e => cC x e
  | .var i, e => match e with
    | .Name x _ => decide (T.N[i]? = some x) && visB sc x && nmB x
    | _ => false
  | .glob g, e => match e with
    | .Name x _ => decide (T.gl[g]? = some x) && glB sc x && nmB x
    | _ => false
  | .tup es, e => match e with
    | .Tuple as _ _ => cEs T sc es as
    | _ => false
  | .list es, e => match e with
    | .List as _ => cEs T sc es as
    | _ => false
  | .bin op a b, e => match e with
    | .BinOp x o y _ => decide (o = boM op) && cE T sc a x && cE T sc b y
    | _ => false
  | .neg a, e => match e with
    | .UnaryOp .USub x _ => cE T sc a x
    | _ => false
  | .not a, e => match e with
    | .UnaryOp .Not x _ => cE T sc a x
    | _ => false
  | .and es, e => match e with
    | .BoolOp .And as _ => !as.isEmpty && cEs T sc es as
    | _ => false
  | .or es, e => match e with
    | .BoolOp .Or as _ => !as.isEmpty && cEs T sc es as
    | _ => false
  | .cmp op a b, e => match e with
    | .Compare x [o] [y] _ => decide (o = coM op) && noSet y && cE T sc a x && cE T sc b y
    | _ => false
  | .chain o1 o2 a b c, e => match e with
    | .Compare x [p1, p2] [y, z] _ => decide (p1 = coM o1) && decide (p2 = coM o2) && noSet y && noSet z && cE T sc a x && cE T sc b y && cE T sc c z
    | _ => false
  | .ite t a b, e => match e with
    | .IfExp t' a' b' _ => cE T sc t t' && cE T sc a a' && cE T sc b b'
    | _ => false
  | .idx a b, e => match e with
    | .Subscript x y _ => noSlice y && cE T sc a x && cE T sc b y
    | _ => false
  | .slice a lo hi, e => match e with
    | .Subscript x (.Slice l h none _) _ => cE T sc a x && cO T sc lo l && cO T sc hi h
    | _ => false
  | .rev a, e => match e with
    | .Subscript x (.Slice none none (some (.UnaryOp .USub (.Constant (.int j) _ _) _)) _) _ => decide (j = 1) && cE T sc a x
    | _ => false
  | .call f es perm, e => match e with
    | .Call (.Name x _) as kws _ => (match T.fn[f]? with
      | some q => decide (q.1 = x) && glB sc x && nmB x && as.all notStar && kws.all (·.arg.isSome) && decide (Pat.mk as.length (kws.filterMap (·.arg)) perm ∈ q.2.2) && decide (es.length = as.length + kws.length) && cEs T sc es (as ++ kws.map (·.value))
      | none => false)
    | _ => false
  | .bi b es, e => match e with
    | .Call (.Name x _) as [] _ => decide (x = biNm b) && biPlain b && glB sc x && decide (x ∈ T.no) && !as.isEmpty && as.all notStar && cEs T sc es as
    | _ => false
  | .meth m o es, e => match m, e with
    | .count, .Call (.Attribute x n ap) as [] p => decide (n = "count") && notCall x && !as.isEmpty && as.all notStar && decide (as.length < 29) && (ap.endLine == p.line) && cE T sc o x && cEs T sc es as
    | _, _ => false
  | .isin a tys, e => match tys, e with
    | [ty], .Call (.Name n _) [x, .Name t _] [] _ => decide (n = "isinstance") && decide (t = tyS ty) && notStar x && glB sc n && glB sc t && decide (n ∈ T.no) && decide (t ∈ T.no) && cE T sc a x
    | _, _ => false
  | .comp elt tg it cs vs, e => match e with
    | .ListComp e' [⟨tg', it', ifs, 0⟩] scope _ => blkC T.N sc scope (ownOf T.N vs) && decide ((ownOf T.N vs).map (·.2) = vs) && noSet it' && decide (ifs.length ≤ 1) &&
        (if pairIt it then isTup tg' && !isNameT tg else true) && cI T sc it it' && cT T (relS scope sc) scope vs tg tg' && cEs T (relS scope sc) cs ifs && cE T (relS scope sc) elt e'
    | _ => false
  | .rangeL _, _ => false
  | .dict0, e => match e with
    | .Dict [] [] _ => true
    | _ => false
  | .frz a, e => plainT e && cE T sc a e
  | .newRef a, e => plainT e && cE T sc a e
def cO (T : Tx) (sc : Scope) : Option ME → Option Expr → Bool
  | none, e => match e with
    | none => true
    | some _ => false
  | some a, e => match e with
    | none => false
    | some x => cE T sc a x
def cEs (T : Tx) (sc : Scope) : List ME → List Expr → Bool
  | [], es => match es with
    | [] => true
    | _ :: _ => false
  | a :: r, es => match es with
    | [] => false
    | x :: xs => notStar x && cE T sc a x && cEs T sc r xs
def cI (T : Tx) (sc : Scope) : MI → Expr → Bool
  | .val a, e => cE T sc a e
  | .range es, e => match e with
    | .Call (.Name n _) as [] _ => decide (n = "range") && glB sc n && decide (n ∈ T.no) && decide (as.length = 1 ∨ as.length = 2) && decide (es.length = as.length) && cEs T sc es as
    | _ => false
  | .enum a, e => match e with
    | .Call (.Name n _) [x] [] _ => decide (n = "enumerate") && glB sc n && decide (n ∈ T.no) && notStar x && cE T sc a x
    | _ => false
  | .zip a b, e => match e with
    | .Call (.Name n _) [x, y] [] _ => decide (n = "zip") && glB sc n && decide (n ∈ T.no) && notStar x && notStar y && cE T sc a x && cE T sc b y
    | _ => false
/-- sc: the scope that runs; wsc: the written one -/
def cT (T : Tx) (sc wsc : Scope) (vs : List Nat) : MT → Expr → Bool
  | .name i, e => match e with
    | .Name x _ => decide (T.N[i]? = some x) && locB wsc x && decide (i ∈ vs)
    | _ => false
  | .sub o j, e => match e with
    | .Subscript x y _ => noSlice y && cE T sc o x && cE T sc j y
    | _ => false
  | .tup ts, e => match e with
    | .Tuple es _ _ => es.all notStar && decide (es.length = ts.length) && cTs T sc wsc vs ts es
    | _ => false
def cTs (T : Tx) (sc wsc : Scope) (vs : List Nat) : List MT → List Expr → Bool
  | [], es => match es with
    | [] => true
    | _ :: _ => false
  | t :: r, es => match es with
    | [] => false
    | x :: xs => cT T sc wsc vs t x && cTs T sc wsc vs r xs
end
def noTup : Expr → Bool
  | .Tuple .. => false
  | _ => true
def nmOf : Expr → Str
  | .Name x _ => x
  | _ => ""
def isComp : ME → Bool
  | .comp .. => true
  | _ => false
/-- name = a comprehension: the store is the comprehension's own -/
def swB (sc : Scope) (x : Str) (px : Pos) (e : Expr) : Bool :=
  match e with
  | .ListComp _ _ scope p => lclB sc x && (px.line == p.line) && !(scope.names.any fun (n, k) => n == x && (k == .local || k == .cell))
  | _ => false
def setB (T : Tx) (sc : Scope) (i : Nat) (a : ME) (x : Str) (px : Pos) (e : Expr) : Bool :=
  decide (T.N[i]? = some x) && locB sc x && cE T sc a e && (noComp e || (isComp a && swB sc x px e) || cellB sc x)
def allVs (T : Tx) : List Nat := List.range T.N.length
mutual
def cS (T : Tx) (sc : Scope) : MS → Stmt → Bool
  | .set i a, s => match s with
    | .Assign [.Name x px] e _ => setB T sc i a x px e
    | _ => false
  | .setOwn i a, s => match s with
    | .Assign [.Name x px] e _ => setB T sc i a x px e
    | _ => false
  | .asg t a, s => match s with
    | .Assign [tg] e p => !isNameT t && noTup e && noComp e && notStar tg && cT T sc sc (allVs T) t tg && cE T sc a e
    | _ => false
  | .par is es, s => match s with
    | .Assign [.Tuple [.Name x px, .Name y py] _ _] (.Tuple as _ _) _ => (match is, as with
      | [i, j], [a, b] => decide (T.N[i]? = some x) && decide (T.N[j]? = some y) && decide (i ≠ j) && decide (x ≠ y) && lclB sc x && lclB sc y && (px.line == py.line) && !([a, b].all (foldedForSure 8)) && !([a, b].all (constantsAlone 8)) && cEs T sc es [a, b]
      | _, _ => false)
    | .Assign [.Tuple [.Name x px, .Name y py, .Name z pz] _ _] (.Tuple as _ _) _ => (match is, as with
      | [i, j, l], [a, b, d] => decide (T.N[i]? = some x) && decide (T.N[j]? = some y) && decide (T.N[l]? = some z) && decide (i ≠ j) && decide (i ≠ l) && decide (j ≠ l) && decide (x ≠ y) && decide (x ≠ z) && decide (y ≠ z) && lclB sc x && lclB sc y && lclB sc z && (px.line == py.line) && (px.line == pz.line)
          && !([a, b, d].all (foldedForSure 8)) && !([a, b, d].all (constantsAlone 8)) && cEs T sc es [a, b, d]
      | _, _ => false)
    | _ => false
  | .expr a, s => match s with
    | .Expr e _ => noComp e && cE T sc a e
    | _ => false
  | .append o a, s => match s with
    | .Expr (.Call (.Attribute x n ap) [y] [] cp) _ => decide (n = "append") && notCall x && notStar y && (ap.endLine == cp.line) && cE T sc o x && cE T sc a y
    | _ => false
  | .extend o a, s => match s with
    | .Expr (.Call (.Attribute x n ap) [y] [] cp) _ => decide (n = "extend") && notCall x && notStar y && (ap.endLine == cp.line) && cE T sc o x && cE T sc a y
    | _ => false
  | .ret a, s => match s with
    | .Return (some e) _ => cE T sc a e
    | _ => false
  | .retN, s => match s with
    | .Return none _ => true
    | _ => false
  | .ite t a b, s => match s with
    | .If t' a' b' _ => cE T sc t t' && cSs T sc a a' && cSs T sc b b'
    | _ => false
  | .while t b, s => match s with
    | .While t' b' [] _ => cE T sc t t' && cSs T sc b b'
    | _ => false
  | .for t it b, s => match s with
    | .For tg it' b' [] _ => (if pairIt it then isTup tg && !isNameT t else true) && noSet it' && cI T sc it it' && cT T sc sc (allVs T) t tg && cSs T sc b b'
    | _ => false
  | .pass, s => match s with
    | .Pass _ => true
    | _ => false
  | .brk, s => match s with
    | .Break _ => true
    | _ => false
  | .cont, s => match s with
    | .Continue _ => true
    | _ => false
  | .raise _ _, _ => false
  | .never, _ => true
def cSs (T : Tx) (sc : Scope) : List MS → List Stmt → Bool
  | [], ss => match ss with
    | [] => true
    | _ :: _ => false
  | a :: r, ss => match ss with
    | [] => false
    | x :: xs => cS T sc a x && cSs T sc r xs
end
/-! ### the surroundings -/
structure GF (X : Cx) (T : Tx) (CX : CXT) (XR : XRel) (k : Nat) (Γ : Ga) : Prop where
  fns : ∀ f n np pats, T.fn[f]? = some (n, np, pats) → ∃ fa fd ps, X.mg n = some (.ref fa) ∧ PySem.W.keepIn X.K (.ref fa) = true ∧ ps.length = np ∧ (∀ pt ∈ pats, PatOk X.K fd ps pt) ∧ GOk X.prog X.w X.K X.mg X.base CX k fa fd ps (spC X.K XR (Γ.call f)) ∧
    ∀ ws S, ws.length ≠ np → Γ.call f ws S = .stuck
  gls : ∀ g n x, T.gl[g]? = some n → Γ.glob g = some x → ∃ v u, X.mg n = some u ∧ RelV v u ∧ ∀ F, DR X.K F v x
  nos : ∀ n ∈ T.no, X.mg n = none
structure XOk (X : Cx) (T : Tx) (CX : CXT) (XR : XRel) (k : Nat) (Γ : Ga) (sc wsc : Scope) (c : Bool) (W : XK) : Prop where
  n : X.N = T.N
  nd : X.N.Nodup
  scp : X.env.scope = sc
  calm : X.calm = true
  room : Room k X.A
  grd : X.A.guards = some []
  wc : ∀ x, wsc.names.lookup x = some .cell → sc.names.lookup x = some .cell ∧ X.fn x = true
  wl : ∀ x, wsc.names.lookup x = some .local → sc.names.lookup x = some .local
  fk : sc.kind = .function
  own : c = false → PassesOwn (model X.prog X.w) X.A X.env X.xe
  pas : Passes CX X (if c = true then W0 else W)
  gf : GF X T CX XR k Γ
theorem XOk.blk {X : Cx} {T : Tx} {CX : CXT} {XR : XRel} {k : Nat} {Γ : Ga} {sc wsc : Scope} {c : Bool} {W : XK} (no : ∀ outer H s u s', ¬ CX outer H s W0 u s') (h : XOk X T CX XR k Γ sc wsc c W) {own : List (Str × Nat)} {scope : Scope} (ok : BlkOk X.N X.env.scope scope own)
    (s : Shared) (H : Hp) (C : Addr) (cl : List (Str × Addr)) (fp : List Addr) : XOk (X.blk s H scope (compEnvC scope cl C X.env) fp) T CX XR k Γ (relS scope sc) scope true W0 where
  n := h.n
  nd := h.nd
  scp := by show relS scope X.env.scope = _; rw [h.scp]
  calm := h.calm
  room := h.room
  grd := h.grd
  wc := fun x e => ⟨lookup_relS_keep (by decide) e, by show (scope.names.lookup x == some .cell) = true; rw [e]; rfl⟩
  wl := fun x e => lookup_relS_keep (by decide) e
  fk := ok.kind
  own := fun e => nomatch e
  pas := fun pins σ H s e s' I cx => absurd cx (no _ _ _ _ _)
  gf := ⟨h.gf.fns, h.gf.gls, h.gf.nos⟩
end Mi

set_option maxHeartbeats 4000000
/-! The checker is right: expressions. -/
namespace Mi
open PySem PySem.Spec PyProof.Rows L2
section
variable {X : Cx} {sc : Scope} {x : Str}
theorem vis_of (hs : X.env.scope = sc) (h : visB sc x = true) : Vis X.env.scope x := by
  rw [hs]
  unfold visB at h
  split at h
  · exact .inl (by assumption)
  · exact .inr (.inl (by assumption))
  · exact .inr (.inr (by assumption))
  · cases h
theorem gl_of (hs : X.env.scope = sc) (h : glB sc x = true) : Gl X x := by
  unfold glB at h
  split at h
  · show X.env.scope.names.lookup x = _
    rw [hs]
    assumption
  · cases h
theorem loc_of (h : locB sc x = true) : sc.names.lookup x = some .local ∨ sc.names.lookup x = some .cell := by
  unfold locB at h
  split at h
  · exact .inl (by assumption)
  · exact .inr (by assumption)
  · cases h
theorem lcl_of (h : lclB sc x = true) : sc.names.lookup x = some .local := by
  unfold lclB at h
  split at h
  · assumption
  · cases h
theorem cell_of (h : cellB sc x = true) : sc.names.lookup x = some .cell := by
  unfold cellB at h
  split at h
  · assumption
  · cases h
theorem nm_of (h : nmB x = true) : (x == ("__debug__" : Str)) = false ∧ (x == ("__classdict__" : Str)) = false := by
  unfold nmB at h
  rw [Bool.and_eq_true] at h
  exact ⟨by simpa using h.1, by simpa using h.2⟩
theorem plainIx_of {e : Expr} (h : noSlice e = true) : PlainIx e := by
  intro o i
  cases e with
  | Slice => exact absurd (show false = true from h) Bool.false_ne_true
  | _ => rfl
theorem noBehind {op : CmpOp} {e : Expr} (h : noSet e = true) : behindInMarks op e = false := by
  cases e with
  | Set => exact absurd (show false = true from h) Bool.false_ne_true
  | _ => rfl
theorem noFold {e : Expr} {env : Env} (h : noSet e = true) : ∀ x, foldedSetIterable e env x = pure x := by
  intro x
  cases e with
  | Set => exact absurd (show false = true from h) Bool.false_ne_true
  | _ => rfl
end
theorem evLs_len (Γ : Ga) (c : Bool) : ∀ (es : List ME) (μ : Sl) (S : Store) (k : List MV → Sl → Store → R), evLs Γ c es μ S k = evLs Γ c es μ S fun xs μ S => if xs.length = es.length then k xs μ S else .stuck
  | [], μ, S, k => by simp only [evLs]; rfl
  | e :: r, μ, S, k => by
    simp only [evLs]
    congr 1
    funext x μ S
    rw [evLs_len Γ c r]
    congr 1
    funext xs μ S
    by_cases h : xs.length = r.length
    · rw [if_pos h, if_pos (by simp [h])]
    · rw [if_neg h, if_neg (by simpa using h)]
theorem evLs_append (Γ : Ga) (c : Bool) : ∀ (a b : List ME) (μ : Sl) (S : Store) (k : List MV → Sl → Store → R), evLs Γ c (a ++ b) μ S k = evLs Γ c a μ S fun xs μ S => evLs Γ c b μ S fun ys μ S => k (xs ++ ys) μ S
  | [], b, μ, S, k => by simp only [evLs, List.nil_append]
  | e :: r, b, μ, S, k => by
    simp only [evLs, List.cons_append]
    congr 1
    funext x μ S
    rw [evLs_append Γ c r b]
theorem cEs_split {T : Tx} {sc : Scope} : ∀ {es : List ME} {a b : List Expr}, cEs T sc es (a ++ b) = true → cEs T sc (es.take a.length) a = true ∧ cEs T sc (es.drop a.length) b = true
  | es, [], b, h => ⟨by simp [cEs], by simpa using h⟩
  | [], x :: a, b, h => by simp [cEs] at h
  | e :: es, x :: a, b, h => by
    simp only [List.cons_append, cEs, Bool.and_eq_true] at h
    obtain ⟨h1, h2⟩ := cEs_split h.2
    simp only [List.length_cons, List.take_succ_cons, List.drop_succ_cons, cEs, Bool.and_eq_true]
    exact ⟨⟨h.1, h1⟩, h2⟩
theorem cEs_len {T : Tx} {sc : Scope} : ∀ {es : List ME} {a : List Expr}, cEs T sc es a = true → es.length = a.length
  | [], [], h => rfl
  | [], x :: a, h => by simp [cEs] at h
  | e :: es, [], h => by simp [cEs] at h
  | e :: es, x :: a, h => by
    simp only [cEs, Bool.and_eq_true] at h
    simp [cEs_len h.2]
section
variable {T : Tx} {CX : CXT} {XR : XRel} {k : Nat} {Γ : Ga} {sc wsc : Scope} {c : Bool} {W : XK} {X : Cx} {e : Expr}
/-- an expression, as a value and as a test -/
def SE (X : Cx) (XR : XRel) (c : Bool) (W : XK) (e : Expr) (ev : EvE) : Prop := PE X e (tE X.K XR c W ev) ∧ PT X e (tT X.K XR c W (tst ev))
theorem both {ev : EvE} (hp : plainT e = true) (h : PE X e (tE X.K XR c W ev)) : SE X XR c W e ev := ⟨h, st_plain hp h⟩
theorem hu_of (h : XOk X T CX XR k Γ sc wsc c W) : X.A.units + 200 < cLine := by have := h.room.un; omega
theorem const_of {x : PyData} (h : cC x e = true) : plainT e = true ∧ PE X e (tE X.K XR c W fun μ S k => k (.val (.d x)) μ S) := by
  unfold cC at h
  split at h
  · have := of_decide_eq_true h; subst this; exact ⟨rfl, se_const pe_int fun _ => .int _⟩
  · have := of_decide_eq_true h; subst this; exact ⟨rfl, se_const pe_bl fun _ => .bl _⟩
  · exact ⟨rfl, se_const pe_non fun _ => .non⟩
  · have := of_decide_eq_true h; subst this; exact ⟨rfl, se_const pe_str fun _ => .str _⟩
  · cases h
theorem glob_of (h : XOk X T CX XR k Γ sc wsc c W) {g : Nat} {x : Str} {pos : Pos} (h1 : T.gl[g]? = some x) (h2 : glB sc x = true) (h3 : nmB x = true) : PE X (.Name x pos) (tE X.K XR c W fun μ S k => match Γ.glob g with
    | some x => k (.val (.d x)) μ S
    | none => .stuck) := by
  cases eg : Γ.glob g with
  | none =>
    exact ⟨fun pins s σ H Q I ⟨G, F, B, m, μ, S, k, w, r, g, q⟩ => absurd g w.st⟩
  | some d =>
    obtain ⟨v, u, k1, k2, k3⟩ := h.gf.gls g x d h1 eg
    exact se_const (pe_glob (gl_of h.scp h2) k1 k2 (nm_of h3).1) k3
theorem pk_of {ev : EvE} {evl : EvA} {kw : Keyword} {kws : List Keyword} (he : PE X kw.value (tE X.K XR c W ev)) (hr : PK X kws (tA X.K XR c W evl)) :
    PK X (kw :: kws) (tA X.K XR c W fun μ S k => ev μ S fun x μ S => evl μ S fun xs μ S => k (x.seal :: xs) μ S) := by
  obtain ⟨n, v, p⟩ := kw
  refine ⟨fun pos pins s σ H Q I ⟨G, F, B, m, μ, S, k, w, r, g, q⟩ => (pk_cons he hr).run pos pins s σ H Q I (by
    refine tE_go w r g fun F1 m1 μ1 S1 p1 v1 H1 e1 w1 r1 vr1 g1 => ?_
    refine tA_go w1 r1 g1 fun F2 m2 μ2 S2 xs vs H2 e2 w2 r2 vr2 g2 => ?_
    exact q F2 m2 μ2 S2 (p1.seal :: xs) (v1 :: vs) H2 (e1.trans e2) r2 (.cons (vr1.mono e2) vr2) g2)⟩
theorem pk_nil' : PK X [] (tA X.K XR c W fun μ S k => k [] μ S) :=
  ⟨fun pos pins s σ H Q I ⟨G, F, B, m, μ, S, k, w, r, g, q⟩ => pk_nil.run pos pins s σ H Q I (q F m μ S [] [] H .refl r .nil g)⟩
theorem call_of (h : XOk X T CX XR k Γ sc wsc c W) {f : Nat} {es : List ME} {perm : List Nat} {x : Str} {as : List Expr} {kws : List Keyword} {p pos : Pos} {n : Str} {np : Nat} {pats : List Pat}
    (hf : T.fn[f]? = some (n, np, pats)) (hn : n = x) (hg : glB sc x = true) (hd : nmB x = true) (hs : as.all notStar = true) (hk : kws.all (·.arg.isSome) = true) (hp : Pat.mk as.length (kws.filterMap (·.arg)) perm ∈ pats) (hl : es.length = as.length + kws.length)
    (ha : PA X as (tA X.K XR c W (evLs Γ c (es.take as.length)))) (hkw : PK X kws (tA X.K XR c W (evLs Γ c (es.drop as.length)))) :
    PE X (.Call (.Name x p) as kws pos) (tE X.K XR c W fun μ S kk => evLs Γ c es μ S fun vs μ S =>
      if vs.all MV.noOwn then (match (if perm.isEmpty then some vs else permute vs perm) with
      | some ws => callK c μ kk (Γ.call f ws S)
      | none => .stuck) else .stuck) := by
  subst hn
  obtain ⟨fa, fd, ps, k1, k2, k3, k4, k5, k6⟩ := h.gf.fns f n np pats hf
  have l1 : (es.take as.length).length = as.length := by rw [List.length_take]; omega
  have l2 : (es.drop as.length).length = kws.length := by rw [List.length_drop]; omega
  have main := se_call (p := p) (pos := pos) (es := as) (kws := kws) (perm := perm) k5 h.room h.grd (gl_of h.scp hg) k1 k2 (k4 _ hp) h.pas hs hk (nm_of hd).1 ha hkw
    (fun e => by subst e; intro μ S k; simp [evLs]) (fun μ S k => by rw [evLs_len, l1]) (fun μ S k => by rw [evLs_len, l2])
  refine pe_imp main fun σ H Q ⟨G, F, B, m, μ, S, kk, w, r, g, q⟩ => ⟨G, F, B, m, μ, S, kk, w, r, ?_, q⟩
  have e1 : es = es.take as.length ++ es.drop as.length := (List.take_append_drop _ _).symm
  dsimp only at g
  rw [e1, evLs_append] at g
  have e2 : (fun (vs : List MV) (μ : Sl) (S : Store) => (if vs.all MV.noOwn then (match (if perm.isEmpty then some vs else permute vs perm) with
      | some ws => callK c μ kk (Γ.call f ws S)
      | none => .stuck) else .stuck : R)) = fun vs μ S => callP c perm ps.length (Γ.call f) vs μ S kk := by
    funext vs μ S
    unfold callP permO
    by_cases hv : vs.all MV.noOwn = true
    · rw [if_pos hv, if_pos hv]
      cases ep : (if perm.isEmpty = true then some vs else permute vs perm) with
      | none => rfl
      | some ws =>
        show callK c μ kk (Γ.call f ws S) = if ws.length = ps.length then callK c μ kk (Γ.call f ws S) else .stuck
        rw [k3]
        by_cases hw : ws.length = np
        · rw [if_pos hw]
        · rw [if_neg hw, k6 ws S hw]; rfl
    · rw [if_neg hv, if_neg hv]
  have e3 : ∀ xs ys μ S, (if (xs ++ ys).all MV.noOwn = true then (match (if perm.isEmpty = true then some (xs ++ ys) else permute (xs ++ ys) perm) with
      | some ws => callK c μ kk (Γ.call f ws S)
      | none => .stuck) else .stuck : R) = callP c perm ps.length (Γ.call f) (xs ++ ys) μ S kk := fun xs ys μ S => congrFun (congrFun (congrFun e2 (xs ++ ys)) μ) S
  simp only [e3] at g
  exact g
end
end Mi

set_option maxHeartbeats 4000000
/-! The checker is right: the induction over expressions. -/
namespace Mi
open PySem PySem.Spec PyProof.Rows L2
section
variable {T : Tx} {CX : CXT} {XR : XRel} {k : Nat} {Γ : Ga} (no : ∀ outer H s u s', ¬ CX outer H s W0 u s')
def SB (X : Cx) (XR : XRel) (c : Bool) (W : XK) (e : Expr) (ev : EvE) : Prop := PE X e (tE X.K XR c W ev) ∧ PW X e (tT X.K XR c W (tst ev))
theorem assign_ok {es : List Expr} {env : Env} (h : es.all notStar = true) : (assignEach es env).length = es.length ∧ (assignEach es env).findIdx? (·.1) = none ∧ (∀ e, notStar e = true → (assignEach (e :: es) env).map (·.2) = assign e env :: (assignEach es env).map (·.2)) := by
  induction es with
  | nil => exact ⟨rfl, rfl, fun e he => by cases e <;> first | rfl | exact absurd (show false = true from he) Bool.false_ne_true⟩
  | cons a as ih =>
    rw [List.all_cons, Bool.and_eq_true] at h
    obtain ⟨h1, h2, h3⟩ := ih h.2
    have e1 : assignEach (a :: as) env = (false, assign a env) :: assignEach as env := by cases a <;> first | rfl | exact absurd (show false = true from h.1) Bool.false_ne_true
    refine ⟨by rw [e1]; simp [h1], by rw [e1, List.findIdx?_cons, h2]; rfl, fun e he => by cases e <;> first | rfl | exact absurd (show false = true from he) Bool.false_ne_true⟩
theorem sub_ok {a b : Expr} {pos : Pos} {env : Env} (h : noSlice b = true) : ∀ v, assign (.Subscript a b pos) env v = (do
      let ov ← holding [v] (eval a env)
      let iv ← holding [v, ov] (eval b env)
      standAt pos
      holding [v, ov, iv] (setItem ov iv v)
      release [v, ov, iv] []) := by
  intro v
  rw [arm_assign_Subscript]
  cases b with
  | Slice => exact absurd (show false = true from h) Bool.false_ne_true
  | _ => rfl
theorem cEs_star {T : Tx} {sc : Scope} : ∀ {es : List ME} {a : List Expr}, cEs T sc es a = true → a.all notStar = true
  | [], [], h => rfl
  | [], x :: a, h => by simp [cEs] at h
  | e :: es, [], h => rfl
  | e :: es, x :: a, h => by
    simp only [cEs, Bool.and_eq_true] at h
    rw [List.all_cons, h.1.1, cEs_star h.2]
    rfl
include no
mutual
theorem sE : ∀ (me : ME) {sc wsc : Scope} {c : Bool} {W : XK} {X : Cx} {e : Expr}, XOk X T CX XR k Γ sc wsc c W → cE T sc me e = true → SE X XR c W e (evE Γ c me)
  | .const x, sc, wsc, c, W, X, e, h, q => by
    unfold cE at q
    obtain ⟨h1, h2⟩ := const_of (X := X) (XR := XR) (c := c) (W := W) q
    exact both h1 h2
  | .var i, sc, wsc, c, W, X, e, h, q => by
    unfold cE at q
    split at q
    · rename_i x _
      simp only [Bool.and_eq_true, decide_eq_true_eq] at q
      exact both rfl (se_var (by rw [h.n]; exact q.1.1) (vis_of h.scp q.1.2) (nm_of q.2).1 (nm_of q.2).2)
    · cases q
  | .glob g, sc, wsc, c, W, X, e, h, q => by
    unfold cE at q
    split at q
    · simp only [Bool.and_eq_true, decide_eq_true_eq] at q
      exact both rfl (glob_of h q.1.1 q.1.2 q.2)
    · cases q
  | .tup es, sc, wsc, c, W, X, e, h, q => by
    unfold cE at q
    split at q
    · exact both rfl (se_tup (sEs es h q))
    · cases q
  | .list es, sc, wsc, c, W, X, e, h, q => by
    unfold cE at q
    split at q
    · exact both rfl (se_lst (sEs es h q))
    · cases q
  | .bin op a b, sc, wsc, c, W, X, e, h, q => by
    unfold cE at q
    split at q
    · simp only [Bool.and_eq_true, decide_eq_true_eq] at q
      obtain ⟨⟨rfl, q1⟩, q2⟩ := q
      exact both rfl (se_bin op (sE a h q1).1 (sE b h q2).1)
    · cases q
  | .neg a, sc, wsc, c, W, X, e, h, q => by
    unfold cE at q
    split at q
    · exact both rfl (se_neg (sE a h q).1)
    · cases q
  | .not a, sc, wsc, c, W, X, e, h, q => by
    unfold cE at q
    split at q
    · exact ⟨se_not (sE a h q).1, st_not (sE a h q).2⟩
    · cases q
  | .and es, sc, wsc, c, W, X, e, h, q => by
    unfold cE at q
    split at q
    · rename_i as p
      simp only [Bool.and_eq_true] at q
      have := sAnd es h (as := as) (pos := p) (by intro e; subst e; exact absurd q.1 (by decide)) q.2
      exact ⟨this.1, this.2.pt⟩
    · cases q
  | .or es, sc, wsc, c, W, X, e, h, q => by
    unfold cE at q
    split at q
    · rename_i as p
      simp only [Bool.and_eq_true] at q
      have := sOr es h (as := as) (pos := p) (by intro e; subst e; exact absurd q.1 (by decide)) q.2
      exact ⟨this.1, this.2.pt⟩
    · cases q
  | .cmp op a b, sc, wsc, c, W, X, e, h, q => by
    unfold cE at q
    split at q
    · simp only [Bool.and_eq_true, decide_eq_true_eq] at q
      obtain ⟨⟨⟨rfl, q0⟩, q1⟩, q2⟩ := q
      exact se_cmp (hu_of h) op (noBehind q0) (sE a h q1).1 (sE b h q2).1
    · cases q
  | .chain o1 o2 a b d, sc, wsc, c, W, X, e, h, q => by
    unfold cE at q
    split at q
    · simp only [Bool.and_eq_true, decide_eq_true_eq] at q
      obtain ⟨⟨⟨⟨⟨⟨rfl, rfl⟩, n1⟩, n2⟩, q1⟩, q2⟩, q3⟩ := q
      exact se_chain (hu_of h) o1 o2 (by show behindInMarks _ _ = false; exact noBehind n2) (sE a h q1).1 (sE b h q2).1 (sE d h q3).1
    · cases q
  | .ite t a b, sc, wsc, c, W, X, e, h, q => by
    unfold cE at q
    split at q
    · simp only [Bool.and_eq_true] at q
      obtain ⟨⟨q1, q2⟩, q3⟩ := q
      exact ⟨se_ite (sE t h q1).2 (sE a h q2).1 (sE b h q3).1, st_ite (sE t h q1).2 (sE a h q2).2 (sE b h q3).2⟩
    · cases q
  | .idx a b, sc, wsc, c, W, X, e, h, q => by
    unfold cE at q
    split at q
    · simp only [Bool.and_eq_true] at q
      exact both rfl (se_idx (plainIx_of q.1.1) (sE a h q.1.2).1 (sE b h q.2).1)
    · cases q
  | .slice a lo hi, sc, wsc, c, W, X, e, h, q => by
    unfold cE at q
    split at q
    · simp only [Bool.and_eq_true] at q
      exact both rfl (se_slice (sE a h q.1.1).1 (sO lo h q.1.2) (sO hi h q.2))
    · cases q
  | .rev a, sc, wsc, c, W, X, e, h, q => by
    unfold cE at q
    split at q
    · simp only [Bool.and_eq_true, decide_eq_true_eq] at q
      obtain ⟨rfl, q1⟩ := q
      exact both rfl (se_rev (sE a h q1).1)
    · cases q
  | .call f es perm, sc, wsc, c, W, X, e, h, q => by
    unfold cE at q
    split at q
    · split at q
      · rename_i p' as kws pos _ q' hf
        simp only [Bool.and_eq_true, decide_eq_true_eq] at q
        obtain ⟨⟨⟨⟨⟨⟨⟨h1, h2⟩, h3⟩, h4⟩, h5⟩, h6⟩, h7⟩, h8⟩ := q
        obtain ⟨n, np, pats⟩ := q'
        obtain ⟨ha, hk⟩ := sCall es h h8
        exact both rfl (call_of h hf h1 h2 h3 h4 h5 h6 h7 ha hk)
      · cases q
    · cases q
  | .bi b es, sc, wsc, c, W, X, e, h, q => by
    unfold cE at q
    split at q
    · rename_i x p as pos
      simp only [Bool.and_eq_true, decide_eq_true_eq] at q
      obtain ⟨⟨⟨⟨⟨⟨rfl, h1⟩, h2⟩, h3⟩, h4⟩, h5⟩, h6⟩ := q
      cases as with
      | nil => exact absurd h4 (by decide)
      | cons a as => exact both rfl (se_bi (hu_of h) h.grd h.calm b h1 (gl_of h.scp h2) (h.gf.nos _ h3) h5 (sEs es h h6))
    · cases q
  | .meth m o es, sc, wsc, c, W, X, e, h, q => by
    unfold cE at q
    split at q
    · rename_i x n ap as pos
      simp only [Bool.and_eq_true, decide_eq_true_eq] at q
      obtain ⟨⟨⟨⟨⟨⟨⟨rfl, h1⟩, h2⟩, h3⟩, h4⟩, h5⟩, h6⟩, h7⟩ := q
      cases as with
      | nil => exact absurd h2 (by decide)
      | cons a as => exact both rfl (se_count (hu_of h) h1 h3 h4 h5 (sE o h h6).1 (sEs es h h7))
    · cases q
  | .isin a tys, sc, wsc, c, W, X, e, h, q => by
    unfold cE at q
    split at q
    · rename_i ty n p x t p' pos
      simp only [Bool.and_eq_true, decide_eq_true_eq] at q
      obtain ⟨⟨⟨⟨⟨⟨⟨rfl, rfl⟩, h1⟩, h2⟩, h3⟩, h4⟩, h5⟩, h6⟩ := q
      exact both rfl (se_isin ty h1 (gl_of h.scp h2) (h.gf.nos _ h4) (gl_of h.scp h3) (h.gf.nos _ h5) (sE a h h6).1)
    · cases q
  | .comp elt tg it cs vs, sc, wsc, c, W, X, e, h, q => by
    unfold cE at q
    split at q
    · rename_i e' tg' it' ifs scope pos
      simp only [Bool.and_eq_true, decide_eq_true_eq] at q
      obtain ⟨⟨⟨⟨⟨⟨⟨⟨h1, h2⟩, h3⟩, h4⟩, h5⟩, h6⟩, h7⟩, h8⟩, h9⟩ := q
      have ok : BlkOk X.N X.env.scope scope (ownOf T.N vs) := by rw [h.n, h.scp]; exact blkOk_by h1
      have hp : pairIt it = true → isNameT tg = false ∧ isTup tg' = true := fun hp => by
        rw [if_pos hp, Bool.and_eq_true] at h5
        exact ⟨by simpa using h5.2, h5.1⟩
      have hcs : ∀ (s : Shared) (H : Hp) (C : Addr) (cl : List (Str × Addr)) (fp : List Addr), PTs (X.blk s H scope (compEnvC scope cl C X.env) fp) ifs (tT X.K XR true W0 (evConds Γ true cs)) := fun s H C cl fp => by
        have hx := h.blk no ok s H C cl fp
        exact sC cs hx h4 h8
      have main := se_comp (pos := pos) (tp := pairIt it) h.calm h.nd (sI it (tg := tg') h h6 fun e => (hp e).2) ok (fun s H C cl fp => sT tg (h.blk no ok s H C cl fp) (by rw [h2]; exact h7) hp) hcs (fun s H C cl fp => (sE elt (h.blk no ok s H C cl fp) h9).1) (noFold h3)
      rw [h2] at main
      exact both rfl main
    · cases q
  | .rangeL es, sc, wsc, c, W, X, e, h, q => by
    unfold cE at q
    cases q
  | .dict0, sc, wsc, c, W, X, e, h, q => by
    unfold cE at q
    split at q
    · exact both rfl se_dict0
    · cases q
  | .frz a, sc, wsc, c, W, X, e, h, q => by
    unfold cE at q
    simp only [Bool.and_eq_true] at q
    exact both q.1 (se_frz (sE a h q.2).1)
  | .newRef a, sc, wsc, c, W, X, e, h, q => by
    unfold cE at q
    simp only [Bool.and_eq_true] at q
    exact both q.1 (se_newRef (sE a h q.2).1)
theorem sO : ∀ (o : Option ME) {sc wsc : Scope} {c : Bool} {W : XK} {X : Cx} {e : Option Expr}, XOk X T CX XR k Γ sc wsc c W → cO T sc o e = true → PO X e (tO X.K XR c W (evOpt Γ c o))
  | none, sc, wsc, c, W, X, e, h, q => by
    unfold cO at q
    split at q
    · exact so_none
    · cases q
  | some a, sc, wsc, c, W, X, e, h, q => by
    unfold cO at q
    split at q
    · cases q
    · exact so_some (sE a h q).1
theorem sEs : ∀ (es : List ME) {sc wsc : Scope} {c : Bool} {W : XK} {X : Cx} {as : List Expr}, XOk X T CX XR k Γ sc wsc c W → cEs T sc es as = true → PA X as (tA X.K XR c W (evLs Γ c es))
  | [], sc, wsc, c, W, X, e, h, q => by
    unfold cEs at q
    split at q
    · exact sa_nil
    · cases q
  | a :: r, sc, wsc, c, W, X, e, h, q => by
    unfold cEs at q
    split at q
    · cases q
    · simp only [Bool.and_eq_true] at q
      exact sa_cons q.1.1 (sE a h q.1.2).1 (sEs r h q.2)
theorem sCall : ∀ (es : List ME) {sc wsc : Scope} {c : Bool} {W : XK} {X : Cx} {as : List Expr} {kws : List Keyword}, XOk X T CX XR k Γ sc wsc c W → cEs T sc es (as ++ kws.map (·.value)) = true → PA X as (tA X.K XR c W (evLs Γ c (es.take as.length))) ∧ PK X kws (tA X.K XR c W (evLs Γ c (es.drop as.length)))
  | [], sc, wsc, c, W, X, [], [], h, q => ⟨sa_nil, pk_nil'⟩
  | [], sc, wsc, c, W, X, [], kw :: kws, h, q => by simp [cEs] at q
  | [], sc, wsc, c, W, X, a :: as, kws, h, q => by simp [cEs] at q
  | e :: es, sc, wsc, c, W, X, [], [], h, q => by simp [cEs] at q
  | e :: es, sc, wsc, c, W, X, [], kw :: kws, h, q => by
    simp only [List.nil_append, List.map_cons, cEs, Bool.and_eq_true] at q
    exact ⟨sa_nil, pk_of (sE e h q.1.2).1 (sCall es (as := []) h q.2).2⟩
  | e :: es, sc, wsc, c, W, X, a :: as, kws, h, q => by
    simp only [List.cons_append, cEs, Bool.and_eq_true] at q
    obtain ⟨h1, h2⟩ := sCall es (as := as) h q.2
    exact ⟨sa_cons q.1.1 (sE e h q.1.2).1 h1, h2⟩
theorem sAnd : ∀ (es : List ME) {sc wsc : Scope} {c : Bool} {W : XK} {X : Cx} {as : List Expr} {pos : Pos}, XOk X T CX XR k Γ sc wsc c W → as ≠ [] → cEs T sc es as = true → SB X XR c W (.BoolOp .And as pos) (evAnd Γ c es)
  | [], sc, wsc, c, W, X, as, pos, h, hn, q => by
    unfold cEs at q
    split at q
    · exact absurd rfl hn
    · cases q
  | [a], sc, wsc, c, W, X, as, pos, h, hn, q => by
    unfold cEs at q
    split at q
    · cases q
    · rename_i x xs
      simp only [Bool.and_eq_true] at q
      have e2 : xs = [] := by
        have := cEs_len q.2
        exact List.eq_nil_of_length_eq_zero this.symm
      subst e2
      exact ⟨se_one (sE a h q.1.2).1, sw_and1 (sE a h q.1.2).2⟩
  | a :: b :: r, sc, wsc, c, W, X, as, pos, h, hn, q => by
    unfold cEs at q
    split at q
    · cases q
    · rename_i x xs
      simp only [Bool.and_eq_true] at q
      cases xs with
      | nil => exact absurd (cEs_len q.2) (by simp)
      | cons y ys =>
        have ih := sAnd (b :: r) h (as := y :: ys) (pos := pos) (by simp) q.2
        exact ⟨se_and (sE a h q.1.2).1 ih.1, sw_and (sE a h q.1.2).2 ih.2⟩
theorem sOr : ∀ (es : List ME) {sc wsc : Scope} {c : Bool} {W : XK} {X : Cx} {as : List Expr} {pos : Pos}, XOk X T CX XR k Γ sc wsc c W → as ≠ [] → cEs T sc es as = true → SB X XR c W (.BoolOp .Or as pos) (evOr Γ c es)
  | [], sc, wsc, c, W, X, as, pos, h, hn, q => by
    unfold cEs at q
    split at q
    · exact absurd rfl hn
    · cases q
  | [a], sc, wsc, c, W, X, as, pos, h, hn, q => by
    unfold cEs at q
    split at q
    · cases q
    · rename_i x xs
      simp only [Bool.and_eq_true] at q
      have e2 : xs = [] := by
        have := cEs_len q.2
        exact List.eq_nil_of_length_eq_zero this.symm
      subst e2
      exact ⟨se_one (sE a h q.1.2).1, sw_or1 (sE a h q.1.2).2⟩
  | a :: b :: r, sc, wsc, c, W, X, as, pos, h, hn, q => by
    unfold cEs at q
    split at q
    · cases q
    · rename_i x xs
      simp only [Bool.and_eq_true] at q
      cases xs with
      | nil => exact absurd (cEs_len q.2) (by simp)
      | cons y ys =>
        have ih := sOr (b :: r) h (as := y :: ys) (pos := pos) (by simp) q.2
        exact ⟨se_or (sE a h q.1.2).1 ih.1, sw_or (sE a h q.1.2).2 ih.2⟩
theorem sC : ∀ (cs : List ME) {sc wsc : Scope} {c : Bool} {W : XK} {X : Cx} {as : List Expr}, XOk X T CX XR k Γ sc wsc c W → as.length ≤ 1 → cEs T sc cs as = true → PTs X as (tT X.K XR c W (evConds Γ c cs))
  | [], sc, wsc, c, W, X, as, h, hn, q => by
    unfold cEs at q
    split at q
    · exact cond_none
    · cases q
  | a :: r, sc, wsc, c, W, X, as, h, hn, q => by
    unfold cEs at q
    split at q
    · cases q
    · rename_i x xs
      simp only [Bool.and_eq_true] at q
      cases xs with
      | cons y ys => simp at hn
      | nil =>
        have hr : r = [] := List.eq_nil_of_length_eq_zero (cEs_len q.2)
        subst hr
        exact cond_one (sE a h q.1.2).2
theorem sI : ∀ (it : MI) {sc wsc : Scope} {c : Bool} {W : XK} {X : Cx} {tg e : Expr}, XOk X T CX XR k Γ sc wsc c W → cI T sc it e = true → (pairIt it = true → isTup tg = true) → PI X tg e (tI (pairIt it) X.K XR c W (evI Γ c it))
  | .val a, sc, wsc, c, W, X, tg, e, h, q, hp => by
    unfold cI at q
    exact si_val (sE a h q).1
  | .range es, sc, wsc, c, W, X, tg, e, h, q, hp => by
    unfold cI at q
    split at q
    · rename_i n p as pos
      simp only [Bool.and_eq_true, decide_eq_true_eq] at q
      obtain ⟨⟨⟨⟨⟨rfl, h1⟩, h2⟩, h3⟩, h4⟩, h5⟩ := q
      have ha := sEs es h h5
      have hst : as.all notStar = true := cEs_star h5
      match as, h3, h4, ha, hst with
      | [a], _, h4, ha, hst => exact si_range1 h4 hst (gl_of h.scp h1) (h.gf.nos _ h2) ha
      | [a, b], _, h4, ha, hst => exact si_range2 h4 hst (gl_of h.scp h1) (h.gf.nos _ h2) ha
      | [], h3, _, _, _ => simp at h3
      | _ :: _ :: _ :: _, h3, _, _, _ => simp at h3
    · cases q
  | .enum a, sc, wsc, c, W, X, tg, e, h, q, hp => by
    unfold cI at q
    split at q
    · simp only [Bool.and_eq_true, decide_eq_true_eq] at q
      obtain ⟨⟨⟨⟨rfl, h1⟩, h2⟩, h3⟩, h4⟩ := q
      cases tg with
      | Tuple es kk tp => exact si_enum h3 (gl_of h.scp h1) (h.gf.nos _ h2) (sE a h h4).1
      | _ => exact absurd (hp rfl) (by simp [isTup])
    · cases q
  | .zip a b, sc, wsc, c, W, X, tg, e, h, q, hp => by
    unfold cI at q
    split at q
    · simp only [Bool.and_eq_true, decide_eq_true_eq] at q
      obtain ⟨⟨⟨⟨⟨⟨rfl, h1⟩, h2⟩, h3⟩, h4⟩, h5⟩, h6⟩ := q
      cases tg with
      | Tuple es kk tp => exact si_zip h3 h4 (gl_of h.scp h1) (h.gf.nos _ h2) (sE a h h5).1 (sE b h h6).1
      | _ => exact absurd (hp rfl) (by simp [isTup])
    · cases q
theorem sT : ∀ (t : MT) {sc wsc : Scope} {c : Bool} {W : XK} {X : Cx} {e : Expr} {vs : List Nat} {tp : Bool}, XOk X T CX XR k Γ sc wsc c W → cT T sc wsc vs t e = true → (tp = true → isNameT t = false ∧ isTup e = true) → PG X e (sG tp vs X.K XR c W (asg Γ c t))
  | .name i, sc, wsc, c, W, X, e, vs, tp, h, q, hp => by
    unfold cT at q
    cases tp with
    | true => exact absurd (hp rfl).1 (by simp [isNameT])
    | false =>
      split at q
      · rename_i x pos
        simp only [Bool.and_eq_true, decide_eq_true_eq] at q
        obtain ⟨⟨h1, h2⟩, h3⟩ := q
        have hl := loc_of h2
        refine sg_name h.nd (by rw [h.n]; exact h1) ?_ ?_ h3
        · rcases hl with z | z
          · exact .inl (by rw [h.scp]; exact h.wl _ z)
          · exact .inr (by rw [h.scp]; exact (h.wc _ z).1)
        · rcases hl with z | z
          · exact .inr (by rw [h.scp]; exact h.wl _ z)
          · exact .inl (h.wc _ z).2
      · cases q
  | .sub o j, sc, wsc, c, W, X, e, vs, tp, h, q, hp => by
    unfold cT at q
    split at q
    · simp only [Bool.and_eq_true] at q
      cases tp with
      | true => exact absurd (hp rfl).2 (by simp [isTup])
      | false => exact sg_sub (sE o h q.1.2).1 (sE j h q.2).1 (sub_ok q.1.1)
    · cases q
  | .tup ts, sc, wsc, c, W, X, e, vs, tp, h, q, hp => by
    unfold cT at q
    split at q
    · simp only [Bool.and_eq_true, decide_eq_true_eq] at q
      obtain ⟨⟨h1, h2⟩, h3⟩ := q
      obtain ⟨a1, a2, _⟩ := assign_ok (env := X.env) h1
      exact sg_tup h.calm (sTs ts h h1 h3) (a1.trans h2) a2
    · cases q
theorem sTs : ∀ (ts : List MT) {sc wsc : Scope} {c : Bool} {W : XK} {X : Cx} {es : List Expr} {vs : List Nat}, XOk X T CX XR k Γ sc wsc c W → es.all notStar = true → cTs T sc wsc vs ts es = true → PGs X es (sGs vs X.K XR c W (asgs Γ c ts))
  | [], sc, wsc, c, W, X, es, vs, h, hs, q => by
    unfold cTs at q
    split at q
    · have e1 : (fun (xs : List PyData) (μ : Sl) (S : Store) (k : KN) => (match xs with
        | [] => k μ S
        | _ => .stuck : R)) = asgs Γ c [] := by
        funext xs μ S k
        cases xs <;> simp only [asgs]
      rw [← e1]
      exact sgs_nil
    · cases q
  | t :: r, sc, wsc, c, W, X, es, vs, h, hs, q => by
    unfold cTs at q
    split at q
    · cases q
    · rename_i x xs
      simp only [Bool.and_eq_true] at q
      rw [List.all_cons, Bool.and_eq_true] at hs
      have e1 : (fun (xs : List PyData) (μ : Sl) (S : Store) (k : KN) => (match xs with
        | x :: xs => asg Γ c t (.d x) μ S fun μ S => asgs Γ c r xs μ S k
        | _ => .stuck : R)) = asgs Γ c (t :: r) := by
        funext xs μ S k
        cases xs <;> simp only [asgs]
      rw [← e1]
      exact sgs_cons (sT t h q.1 fun e => nomatch e) (sTs r h hs.2 q.2) ((assign_ok hs.2).2.2 x hs.1)
end
end
end Mi

set_option maxHeartbeats 4000000
/-! The checker is right: statements. -/
namespace Mi
open PySem PySem.Spec PyProof.Rows L2
theorem star_any {as : List Expr} (h : as.all notStar = true) : (as.any fun
    | .Starred .. => true
    | _ => false) = false := by
  rw [List.any_eq_false]
  intro e he
  have q := List.all_eq_true.mp h e he
  cases e <;> first | exact Bool.false_ne_true | exact absurd (show false = true from q) Bool.false_ne_true
section
variable {env : Env} {x y z : Str} {px py pz pt pt2 : Pos} {kt k2 : Nat} {a b d : Expr}
theorem sw_par2 (hb : env.scope.kind = .function) (hx : env.kindOf x = some .local) (hy : env.kindOf y = some .local) (hl : (px.line == py.line) = true) (hn : x ≠ y) (hs : [a, b].all notStar = true) (h1 : [a, b].all (foldedForSure 8) = false) (h2 : [a, b].all (constantsAlone 8) = false) :
    swappedStores [.Tuple [.Name x px, .Name y py] kt pt] (.Tuple [a, b] k2 pt2) env = pure (some [x, y]) := by
  have e1 : env.blockKind = .function := by unfold Env.blockKind; rw [hb]; rfl
  have e2 : (py.line == px.line) = true := by rw [beq_iff_eq] at hl ⊢; exact hl.symm
  have e3 : (y == x) = false := by rw [beq_eq_false_iff_ne]; exact Ne.symm hn
  have e4 := star_any hs
  have e5 : ([x, y] : List Str).eraseDups = [x, y] := by
    simp only [List.eraseDups_cons, List.filter_cons, List.filter_nil, e3]
    rfl
  have e6 : (some NameKind.local == some NameKind.local) = true := rfl
  unfold swappedStores
  simp only [pure_bind, e1, e4, h1, h2, List.filterMap_cons, List.filterMap_nil, hx, hy, e2, List.head?_cons, Option.map_some, Option.getD_some, Expr.pos, e6, beq_self_eq_true, Bool.and_self, if_true, e5]
  refine (if_neg Bool.false_ne_true).trans ?_
  refine (if_neg (fun q => absurd (e4.symm.trans q) Bool.false_ne_true)).trans ?_
  refine (if_neg Bool.false_ne_true).trans ?_
  refine (if_neg Bool.false_ne_true).trans ?_
  exact if_neg Bool.false_ne_true
theorem sw_par3 (hb : env.scope.kind = .function) (hx : env.kindOf x = some .local) (hy : env.kindOf y = some .local) (hz : env.kindOf z = some .local) (hl : (px.line == py.line) = true) (hl2 : (px.line == pz.line) = true) (hn : x ≠ y) (hn2 : x ≠ z) (hn3 : y ≠ z)
    (hs : [a, b, d].all notStar = true) (h1 : [a, b, d].all (foldedForSure 8) = false) (h2 : [a, b, d].all (constantsAlone 8) = false) :
    swappedStores [.Tuple [.Name x px, .Name y py, .Name z pz] kt pt] (.Tuple [a, b, d] k2 pt2) env = pure (some [x, y, z]) := by
  have e1 : env.blockKind = .function := by unfold Env.blockKind; rw [hb]; rfl
  have e2 : (py.line == px.line) = true := by rw [beq_iff_eq] at hl ⊢; exact hl.symm
  have e2' : (pz.line == px.line) = true := by rw [beq_iff_eq] at hl2 ⊢; exact hl2.symm
  have e3 : (y == x) = false := by rw [beq_eq_false_iff_ne]; exact Ne.symm hn
  have e31 : (z == x) = false := by rw [beq_eq_false_iff_ne]; exact Ne.symm hn2
  have e32 : (z == y) = false := by rw [beq_eq_false_iff_ne]; exact Ne.symm hn3
  have e4 := star_any hs
  have e5 : ([x, y, z] : List Str).eraseDups = [x, y, z] := by
    simp only [List.eraseDups_cons, List.filter_cons, List.filter_nil, e3, e31, e32]
    simp [List.eraseDups_cons, e32]
  have e6 : (some NameKind.local == some NameKind.local) = true := rfl
  unfold swappedStores
  simp only [pure_bind, e1, e4, h1, h2, List.filterMap_cons, List.filterMap_nil, hx, hy, hz, e2, e2', List.head?_cons, Option.map_some, Option.getD_some, Expr.pos, e6, beq_self_eq_true, Bool.and_self, if_true, e5]
  refine (if_neg Bool.false_ne_true).trans ?_
  refine (if_neg (fun q => absurd (e4.symm.trans q) Bool.false_ne_true)).trans ?_
  refine (if_neg Bool.false_ne_true).trans ?_
  refine (if_neg Bool.false_ne_true).trans ?_
  exact if_neg Bool.false_ne_true
theorem sw_none {tg e : Expr} (h : noTup e = true) : swappedStores [tg] e env = pure none := by
  cases e with
  | Tuple => exact absurd (show false = true from h) Bool.false_ne_true
  | _ => cases tg <;> rfl
end
section
variable {T : Tx} {CX : CXT} {XR : XRel} {k : Nat} {Γ : Ga} (no : ∀ outer H s u s', ¬ CX outer H s W0 u s')
include no
theorem sComp {elt : ME} {tg : MT} {it : MI} {cs : List ME} {vs : List Nat} {sc wsc : Scope} {W : XK} {X : Cx} {e : Expr} {i : Nat} {y : Str} {py spos : Pos} (h : XOk X T CX XR k Γ sc wsc false W) (q : cE T sc (.comp elt tg it cs vs) e = true)
    (hy : T.N[i]? = some y) (hs : swB sc y py e = true) : PS X (.Assign [.Name y py] e spos) (tAsg (tE X.K XR false W (evE Γ false (.comp elt tg it cs vs))) (gName i)) := by
  unfold cE at q
  split at q
  · rename_i e' tg' it' ifs scope pos
    simp only [Bool.and_eq_true, decide_eq_true_eq] at q
    obtain ⟨⟨⟨⟨⟨⟨⟨⟨h1, h2⟩, h3⟩, h4⟩, h5⟩, h6⟩, h7⟩, h8⟩, h9⟩ := q
    have ok : BlkOk X.N X.env.scope scope (ownOf T.N vs) := by rw [h.n, h.scp]; exact blkOk_by h1
    have hp : pairIt it = true → isNameT tg = false ∧ isTup tg' = true := fun hp => by
      rw [if_pos hp, Bool.and_eq_true] at h5
      exact ⟨by simpa using h5.2, h5.1⟩
    unfold swB at hs
    simp only [Bool.and_eq_true, Bool.not_eq_true'] at hs
    obtain ⟨⟨s1, s2⟩, s3⟩ := hs
    have hl : X.env.scope.names.lookup y = some .local := by rw [h.scp]; exact lcl_of s1
    have main := ss_comp (i := i) (py := py) (spos := spos) (pos := pos) (tp := pairIt it) h.calm h.nd (by rw [h.n]; exact hy) hl (sw_true (by rw [h.scp]; exact h.fk) hl s2 s3)
      (sI no it (tg := tg') h h6 fun e => (hp e).2) ok (fun s H C cl fp => sT no tg (h.blk no ok s H C cl fp) (by rw [h2]; exact h7) hp) (fun s H C cl fp => sC no cs (h.blk no ok s H C cl fp) h4 h8) (fun s H C cl fp => (sE no elt (h.blk no ok s H C cl fp) h9).1) (noFold h3)
    rw [h2] at main
    exact main
  · cases q
theorem set_of {a : ME} {sc : Scope} {W : XK} {X : Cx} {e : Expr} {i : Nat} {x : Str} {px pos : Pos} (h : XOk X T CX XR k Γ sc sc false W) (q : setB T sc i a x px e = true) :
    PS X (.Assign [.Name x px] e pos) (tAsg (tE X.K XR false W (evE Γ false a)) (gName i)) := by
  unfold setB at q
  simp only [Bool.and_eq_true, decide_eq_true_eq] at q
  obtain ⟨⟨⟨h1, h2⟩, h3⟩, h4⟩ := q
  have hl := loc_of h2
  have hN : X.N[i]? = some x := by rw [h.n]; exact h1
  have l1 : Loc X.env.scope x := by rw [h.scp]; exact hl
  have l2 : X.fn x = true ∨ X.env.scope.names.lookup x = some .local := by
    rcases hl with z | z
    · exact .inr (by rw [h.scp]; exact z)
    · exact .inl (h.wc _ z).2
  have usual : swapsWith e (some (.Name x px)) pos.line X.env = pure false → PS X (.Assign [.Name x px] e pos) (tAsg (tE X.K XR false W (evE Γ false a)) (gName i)) := fun hs => ps_set h.nd hN l1 (sE no a h h3).1 hs l2
  rw [Bool.or_eq_true, Bool.or_eq_true, Bool.and_eq_true] at h4
  rcases h4 with (h4 | ⟨h4, h5⟩) | h4
  · exact usual (sw_false h4)
  · cases a with
    | comp elt tg it cs vs => exact sComp no h h3 h1 h5
    | _ => exact absurd h4 (by simp [isComp])
  · refine usual ?_
    have hk : X.env.kindOf x = some .cell := by show X.env.scope.names.lookup x = _; rw [h.scp]; exact cell_of h4
    have e1 : ((some NameKind.cell : Option NameKind) == some .local) = false := rfl
    cases e <;> first | rfl | (unfold swapsWith; simp only [hk, e1, Bool.and_false, Bool.false_and]; done) | (unfold swapsWith; simp only [hk, e1, Bool.and_false, Bool.false_and]; rfl)
theorem sp_of : ∀ (es : List ME) {sc wsc : Scope} {c : Bool} {W : XK} {X : Cx} {as : List Expr}, XOk X T CX XR k Γ sc wsc c W → cEs T sc es as = true → PA X as (tP X.K XR c W (evPs Γ c es))
  | [], sc, wsc, c, W, X, e, h, q => by
    unfold cEs at q
    split at q
    · exact sp_nil
    · cases q
  | a :: r, sc, wsc, c, W, X, e, h, q => by
    unfold cEs at q
    split at q
    · cases q
    · simp only [Bool.and_eq_true] at q
      exact sp_cons q.1.1 (sE no a h q.1.2).1 (sp_of r h q.2)
theorem sw_sole {tg e : Expr} {l : Nat} {env : Env} (h : noComp e = true) : swapsWithSole [tg] e l env = pure false := sw_false h
mutual
theorem sS : ∀ (ms : MS) {sc : Scope} {W : XK} {X : Cx} {s : Stmt}, XOk X T CX XR k Γ sc sc false W → cS T sc ms s = true → PS X s (tS X.K XR W (exS Γ ms))
  | .set i a, sc, W, X, s, h, q => by
    unfold cS at q
    split at q
    · exact ps_imp (set_of no h q) fun D σ H t => set_key D σ H t
    · cases q
  | .setOwn i a, sc, W, X, s, h, q => by
    unfold cS at q
    split at q
    · exact ps_imp (set_of no h q) fun D σ H t => own_key D σ H t
    · cases q
  | .asg t a, sc, W, X, s, h, q => by
    unfold cS at q
    split at q
    · simp only [Bool.and_eq_true] at q
      obtain ⟨⟨⟨⟨⟨h1, h2⟩, h3⟩, h4⟩, h5⟩, h6⟩ := q
      exact ss_asg (sE no a h h6).1 (sT no t h h5 fun e => nomatch e) (sw_sole no h3) (sw_none h2) ((assign_ok (es := []) rfl).2.2 _ h4)
    · cases q
  | .par is es, sc, W, X, s, h, q => by
    unfold cS at q
    split at q
    · split at q
      · rename_i i j a b
        simp only [Bool.and_eq_true, decide_eq_true_eq, Bool.not_eq_true'] at q
        obtain ⟨⟨⟨⟨⟨⟨⟨⟨⟨h1, h2⟩, h3⟩, h4⟩, h5⟩, h6⟩, h7⟩, h8⟩, h9⟩, h10⟩ := q
        have l1 := lcl_of h5; rw [← h.scp] at l1
        have l2 := lcl_of h6; rw [← h.scp] at l2
        exact ss_par2 h.calm h.nd (by rw [h.n]; exact h1) (by rw [h.n]; exact h2) h3 l1 l2 (sp_of no es h h10) (sw_par2 (by rw [h.scp]; exact h.fk) l1 l2 h7 h4 (cEs_star h10) h8 h9)
      · cases q
    · split at q
      · rename_i i j l a b d
        simp only [Bool.and_eq_true, decide_eq_true_eq, Bool.not_eq_true'] at q
        obtain ⟨⟨⟨⟨⟨⟨⟨⟨⟨⟨⟨⟨⟨⟨⟨⟨h1, h2⟩, h3⟩, h4⟩, h5⟩, h6⟩, h7⟩, h8⟩, h9⟩, h10⟩, h11⟩, h12⟩, h13⟩, h14⟩, h15⟩, h16⟩, h17⟩ := q
        have l1 := lcl_of h10; rw [← h.scp] at l1
        have l2 := lcl_of h11; rw [← h.scp] at l2
        have l3 := lcl_of h12; rw [← h.scp] at l3
        exact ss_par3 h.calm h.nd (by rw [h.n]; exact h1) (by rw [h.n]; exact h2) (by rw [h.n]; exact h3) h4 h5 h6 l1 l2 l3 (sp_of no es h h17) (sw_par3 (by rw [h.scp]; exact h.fk) l1 l2 l3 h13 h14 h7 h8 h9 (cEs_star h17) h15 h16)
      · cases q
    · cases q
  | .expr a, sc, W, X, s, h, q => by
    unfold cS at q
    split at q
    · simp only [Bool.and_eq_true] at q
      exact ss_expr q.1 (sE no a h q.2).1
    · cases q
  | .append o a, sc, W, X, s, h, q => by
    unfold cS at q
    split at q
    · simp only [Bool.and_eq_true, decide_eq_true_eq] at q
      obtain ⟨⟨⟨⟨⟨rfl, h1⟩, h2⟩, h3⟩, h4⟩, h5⟩ := q
      exact ss_append h1 h2 h3 (sE no o h h4).1 (sE no a h h5).1
    · cases q
  | .extend o a, sc, W, X, s, h, q => by
    unfold cS at q
    split at q
    · simp only [Bool.and_eq_true, decide_eq_true_eq] at q
      obtain ⟨⟨⟨⟨⟨rfl, h1⟩, h2⟩, h3⟩, h4⟩, h5⟩ := q
      exact ss_extend h1 h2 h3 (sE no o h h4).1 (sE no a h h5).1
    · cases q
  | .ret a, sc, W, X, s, h, q => by
    unfold cS at q
    split at q
    · exact ss_ret (sE no a h q).1
    · cases q
  | .retN, sc, W, X, s, h, q => by
    unfold cS at q
    split at q
    · exact ss_retN
    · cases q
  | .ite t a b, sc, W, X, s, h, q => by
    unfold cS at q
    split at q
    · simp only [Bool.and_eq_true] at q
      exact ss_if (sE no t h q.1.1).2 (sSs a h q.1.2) (sSs b h q.2)
    · cases q
  | .while t b, sc, W, X, s, h, q => by
    unfold cS at q
    split at q
    · simp only [Bool.and_eq_true] at q
      exact ss_while (h.own rfl) (sE no t h q.1).2 (sSs b h q.2)
    · cases q
  | .for t it b, sc, W, X, s, h, q => by
    unfold cS at q
    split at q
    · rename_i tg it' b' pos
      simp only [Bool.and_eq_true] at q
      obtain ⟨⟨⟨⟨h1, h2⟩, h3⟩, h4⟩, h5⟩ := q
      have hp : pairIt it = true → isNameT t = false ∧ isTup tg = true := fun hp => by
        rw [if_pos hp, Bool.and_eq_true] at h1
        exact ⟨by simpa using h1.2, h1.1⟩
      exact ss_for (tp := pairIt it) (h.own rfl) h.calm (sI no it h h3 fun e => (hp e).2) (sT no t h h4 hp) (sSs b h h5) (noFold h2)
    · cases q
  | .pass, sc, W, X, s, h, q => by
    unfold cS at q
    split at q
    · exact ss_pass
    · cases q
  | .brk, sc, W, X, s, h, q => by
    unfold cS at q
    split at q
    · exact ss_brk
    · cases q
  | .cont, sc, W, X, s, h, q => by
    unfold cS at q
    split at q
    · exact ss_cont
    · cases q
  | .raise n es, sc, W, X, s, h, q => by
    unfold cS at q
    cases q
  | .never, sc, W, X, s, h, q => ss_never
theorem sSs : ∀ (ms : List MS) {sc : Scope} {W : XK} {X : Cx} {ss : List Stmt}, XOk X T CX XR k Γ sc sc false W → cSs T sc ms ss = true → PSs X ss (tS X.K XR W (exSs Γ ms))
  | [], sc, W, X, ss, h, q => by
    unfold cSs at q
    split at q
    · exact ss_nil
    · cases q
  | a :: r, sc, W, X, ss, h, q => by
    unfold cSs at q
    split at q
    · cases q
    · simp only [Bool.and_eq_true] at q
      exact ss_cons (x1 := exS Γ a) (x2 := exSs Γ r) (sS a h q.1) (sSs r h q.2)
end
end
end Mi

set_option maxHeartbeats 4000000
/-! The defs of a text; the law's end. -/
namespace Mi
open PySem PySem.Spec PyProof.Rows L2
theorem cx_no {P : Program} {w : World} : ∀ outer H s u s', ¬ L2.CX P w outer H s W0 u s' := fun outer H s u s' ⟨_, _, _, _, _, _, _, _, _, _, _, _, h⟩ => h
/-- a def of the text, where no guard stands -/
theorem gfn_of {CX : CXT} {P : Program} {w : World} {K : PySem.W.Frag} {mg : Str → Option Value} {base : Heap} {k : Nat} {f : Addr} {name qual : Str} {params : Arguments} {body : List Stmt} {scope : Scope} {dV kV doc pm cdv ct oc : Value} {an od : Option Addr}
    {osl : Array (Option Value)} {N ps : List Str} {sp : Sp} (lk : K.lookup f = some ⟨oc, od, .func (PySem.W.fnOf name qual params body scope dV kV doc pm an cdv ct), osl⟩) (hcd : PySem.W.codeIn K cdv qual = true) (S : FnScope N ps scope)
    (hbody : ∀ (A : Around) (outer : List Env) (s : Shared) (H : Hp) (vs : List V) (Q : VK) (E : XK), Room k (A.deeper (envOfC qual scope s.heap.objs.size f cdv)) → (A.deeper (envOfC qual scope s.heap.objs.size f cdv)).guards = some [] → vs.length = ps.length → sp vs H Q E →
      ∃ t, PSs (cxOf CX P w K mg base N qual scope f cdv A outer s H E) body t ∧ t { nx := fun _ H' => Q .non H', rt := Q } (start N vs) H) :
    GOk P w K mg base CX (k + 1) f (PySem.W.fnOf name qual params body scope dV kV doc pm an cdv ct) ps sp := by
  intro A outer s H args us vs Q E hr hg e0 hb hlu r hsp
  have hl : vs.length = ps.length := r.length.trans hlu
  have KX : K.In s.heap := e0.mod.kin.keeps fun b o e => (e0.bs b o e).1
  have lim : s.heap.NoLimit := e0.mod.nolimit.keeps fun b o e => (e0.bs b o e).1
  have kinds : ∀ y ∈ ps.zip us, scope.names.lookup y.1 = some .local ∨ (scope.names.lookup y.1 = some .cell ∧ ((cellsFrom (s.heap.objs.size + 1) scope.names []).lookup y.1).isSome = true) := fun ⟨n, v⟩ hy => by
    rcases S.par n (List.of_mem_zip hy).1 with q | q
    · exact .inl q
    · exact .inr ⟨q, PySem.W.cellsFrom_some _ _ _ (.inl q)⟩
  refine codeAny_call_function hr.depth (KX _ _ lk) rfl S.co S.gen rfl (PySem.W.codeRec_of KX hcd) (hb _ _ _ _ ?_)
  refine wpAny_newFunctionEnv_cells S.kind kinds fun env he s1 x => ?_
  subst he
  refine ⟨lim.keeps x.toInCall.keep, codeAny_func ?_⟩
  obtain ⟨t, ht, hq⟩ := hbody A outer s H vs Q E (hr.deeper _) hg hl hsp
  have I : Inv (cxOf CX P w K mg base N qual scope f cdv A outer s H E) [] (start N vs) H s1 := inv_start S hr.hd e0 hl r x
  refine wpAny_mono (ht.run [] s1 (start N vs) H _ I hq) (fun fl s' hs => ?_) fun e s' hs => hs
  have done : ∀ {σ' : L2.St} {H' : Hp} {v : V} {u : Value}, Inv (cxOf CX P w K mg base N qual scope f cdv A outer s H E) [] σ' H' s' → RelV v u → Q v H' → CE outer P w H s Q u s' :=
    fun {σ' H' v u} J rv q => ⟨v, H', J.os, J.bare, J.base, J.hok, rv, q⟩
  match fl, hs with
  | .ret u, ⟨v, σ', H', J, rv, q⟩ => exact done J rv q
  | .next, ⟨σ', H', J, q⟩ => exact done (v := V.non) (u := Value.none) J rfl q
  | .brk, ⟨_, _, _, q⟩ => exact False.elim q
  | .cont, ⟨_, _, _, q⟩ => exact False.elim q
/-- what the text tells of a def -/
structure DefI where
  x : Str
  N : List Str
  ps : List Str
  pats : List Pat
  d : Df
def txOf (is : List DefI) : List (Str × Nat × List Pat) := is.map fun i => (i.x, i.ps.length, i.pats)
structure DefF (K : PySem.W.Frag) (mg : Str → Option Value) (is : List DefI) (gl no : List Str) (i : DefI) : Prop where
  ex : ∃ fa fd params body scope, mg i.x = some (.ref fa) ∧ FunD K i.x i.x params body scope [] [] fa fd ∧ FnScope i.N i.ps scope ∧ (∀ pt ∈ i.pats, PatOk K fd i.ps pt) ∧ cSs ⟨i.N, txOf is, gl, no⟩ scope i.d.body body = true
  ps : i.d.ps = i.ps.length
  ns : i.d.ns = i.N.length
structure TextOk (K : PySem.W.Frag) (mg : Str → Option Value) (is : List DefI) (gl no : List Str) (glob : Nat → Option PyData) : Prop where
  defs : ∀ i ∈ is, DefF K mg is gl no i
  gls : ∀ (g : Nat) n x, gl[g]? = some n → glob g = some x → ∃ v u, mg n = some u ∧ RelV v u ∧ ∀ F, DR K F v x
  nos : ∀ n ∈ no, mg n = none
section
variable {P : Program} {w : World} {K : PySem.W.Frag} {mg : Str → Option Value} {base : Heap} {is : List DefI} {gl no : List Str} {glob : Nat → Option PyData} {XR : XRel}
theorem start_sr {F B H : Hp} {m : List Addr} {S : Store} {d : Df} {N : List Str} {xs : List MV} {vs : List V} (h : HR K F B m H S) (r : VR0s K F m xs vs) (hn : d.ns = N.length) (hl : xs.length ≤ d.ns) : SR K F B m (L2.start N vs) H (startS d xs) S := by
  have hx : ∀ {i : Nat} {sv : SV}, (startS d xs)[i]? = some (some sv) → ∃ x, xs[i]? = some x ∧ sv = .v x := fun {i sv} e => by
    unfold startS at e
    by_cases hi : i < xs.length
    · rw [List.getElem?_append_left (by simpa using hi), List.getElem?_map] at e
      cases q : xs[i]? with
      | none => rw [q] at e; cases e
      | some x => rw [q] at e; cases e; exact ⟨x, rfl, rfl⟩
    · rw [List.getElem?_append_right (by simpa using hi), List.getElem?_replicate] at e
      split at e <;> cases e
  refine ⟨h, ?_, fun i x e => ?_, fun i ys e => ?_, fun i j xs' ys v e1 _ _ _ => ?_⟩
  · unfold startS L2.start
    have := r.length
    simp only [List.length_append, List.length_map, List.length_replicate]
    omega
  · obtain ⟨y, h1, h2⟩ := hx e
    cases h2
    obtain ⟨v, k1, k2⟩ := r.get h1
    refine ⟨v, ?_, k2⟩
    have hi := (List.getElem?_eq_some_iff.mp k1).1
    unfold L2.start
    rw [List.getElem?_append_left (by simpa using hi), List.getElem?_map, k1]
    rfl
  · obtain ⟨y, h1, h2⟩ := hx e
    cases h2
  · obtain ⟨y, h1, h2⟩ := hx e1
    cases h2
theorem run_len {fs : List Df} {gl : Nat → Option PyData} : ∀ (n f : Nat) (ws : List MV) (S : Store) (d : Df), fs[f]? = some d → ws.length ≠ d.ps → run fs gl n f ws S = .stuck
  | 0, f, ws, S, d, e, h => rfl
  | n + 1, f, ws, S, d, e, h => by
    unfold run
    rw [e]
    exact if_neg fun q => h q.1
/-- every def does what its run tells -/
theorem all_ok (h : TextOk K mg is gl no glob) : ∀ (n f : Nat) (i : DefI), is[f]? = some i → ∀ fa fd, mg i.x = some (.ref fa) → (∃ params body scope, FunD K i.x i.x params body scope [] [] fa fd) → GOk P w K mg base (L2.CX P w) n fa fd i.ps (spC K XR (run (is.map (·.d)) glob n f))
  | 0, f, i, hi, fa, fd, h1, h2 => fun A outer s H args us vs Q E hr hg e0 hb hl r ⟨G, F, B, m, S, xs, st, _, _, g, _⟩ => absurd g st
  | n + 1, f, i, hi, fa, fd, h1, h2 => by
    have D := h.defs i (List.mem_of_getElem? hi)
    obtain ⟨fa', fd', params, body, scope, k1, k2, k3, k4, k5⟩ := D.ex
    rw [h1] at k1
    cases k1
    have hfd : fd = fd' := by
      obtain ⟨_, _, _, F1⟩ := h2
      obtain ⟨_, _, _, _, _, _, _, _, _, _, _, l1, _⟩ := F1.ex
      obtain ⟨_, _, _, _, _, _, _, _, _, _, _, l2, _⟩ := k2.ex
      rw [l1] at l2
      cases l2
      rfl
    subst hfd
    obtain ⟨oc, od, dV, kV, doc, pm, an, cdv, ct, osl, rfl, lk, hcd, _, _⟩ := k2.ex
    refine gfn_of lk hcd k3 fun A outer s H vs Q E hr hg hl hsp => ?_
    obtain ⟨G, F, B, m, S, xs, st, hh, hv, g, q1, q2⟩ := hsp
    have gf : GF (cxOf (L2.CX P w) P w K mg base i.N i.x scope fa cdv A outer s H E) ⟨i.N, txOf is, gl, no⟩ (L2.CX P w) XR n ⟨run (is.map (·.d)) glob n, glob⟩ := by
      refine ⟨fun f2 x2 np pats e => ?_, h.gls, h.nos⟩
      obtain ⟨i2, e1, e2⟩ : ∃ i2, is[f2]? = some i2 ∧ (i2.x, i2.ps.length, i2.pats) = (x2, np, pats) := by
        have e : (txOf is)[f2]? = some (x2, np, pats) := e
        unfold txOf at e
        rw [List.getElem?_map] at e
        exact Option.map_eq_some_iff.mp e
      cases e2
      obtain ⟨fb, fdb, params2, body2, scope2, j1, j2, j3, j4, j5⟩ := (h.defs i2 (List.mem_of_getElem? e1)).ex
      refine ⟨fb, fdb, i2.ps, j1, j2.kp, rfl, j4, all_ok h n f2 i2 e1 fb fdb j1 ⟨_, _, _, j2⟩, fun ws S hw => run_len n f2 ws S i2.d (by rw [List.getElem?_map, e1]; rfl) (by rw [(h.defs i2 (List.mem_of_getElem? e1)).ps]; exact hw)⟩
    have xok : XOk (cxOf (L2.CX P w) P w K mg base i.N i.x scope fa cdv A outer s H E) ⟨i.N, txOf is, gl, no⟩ (L2.CX P w) XR n ⟨run (is.map (·.d)) glob n, glob⟩ scope scope false E := by
      refine ⟨rfl, k3.nd, rfl, rfl, hr, hg, fun x e => ⟨e, rfl⟩, fun x e => e, k3.kind, fun _ => passes_of (K := fun e s'' => L2.CX P w outer H s E e s'') (E₁ := fun e s'' => L2.CX P w outer H s E e s'') rfl, ?_, gf⟩
      have tk := takes_of (X := cxOf (L2.CX P w) P w K mg base i.N i.x scope fa cdv A outer s H E) (E := E) (E₁ := fun e s'' => L2.CX P w outer H s E e s'') rfl rfl rfl rfl
      exact passes_call tk fun _ _ _ _ z => z
    refine ⟨_, sSs cx_no i.d.body xok k5, ?_⟩
    have g' : G (run (is.map (·.d)) glob (n + 1) f xs S) := g
    unfold run at g'
    rw [List.getElem?_map, hi] at g'
    obtain ⟨hc, g'⟩ := un_if st g'
    have wish : Wish K XR false E G F B m := ⟨st, fun _ n ys S' F' m' H' cls d g e hh x => q2 n ys S' F' m' H' cls d g e hh x⟩
    refine ⟨G, F, B, m, startS i.d xs, S, _, _, noBr, noBr, wish, start_sr hh hv D.ns (Nat.le_trans (Nat.le_of_eq hc.1) hc.2), g', fun F' m' μ' S' σ' H' e r g2 => ?_, fun F' m' S' x v H' e hh' hx g2 => ?_, fun F' m' μ' S' σ' H' e r g2 => absurd g2 st, fun F' m' μ' S' σ' H' e r g2 => absurd g2 st⟩
    · exact q1 F' m' S' (.d .none) .non H' e r.hr ⟨rfl, DR.non⟩ g2
    · exact q1 F' m' S' x v H' e hh' hx g2
theorem pat_of {K : PySem.W.Frag} {x qual : Str} {params : Arguments} {body : List Stmt} {scope : Scope} {f : Addr} {fd : FuncData} {ps : List Str} {p : Pat} (F : FunD K x qual params body scope [] [] f fd)
    (h : ∀ (kV doc pm : Value) (an : Option Addr) (cdv ct : Value) (us ws zs : List Value), us.length = p.np → ws.length = p.ks.length → permO (us ++ ws) p.perm = some zs →
      bindArgs (PySem.W.fnOf x qual params body scope .none kV doc pm an cdv ct) ⟨us, p.ks.zip ws⟩ = pure (ps.zip zs)) : PatOk K fd ps p := by
  obtain ⟨oc, od, dV, kV, doc, pm, an, cdv, ct, osl, rfl, lk, hcd, hD, hK⟩ := F.ex
  intro s us ws zs _ h1 h2 h3 _
  rcases hD with ⟨_, rfl⟩ | ⟨e, _⟩
  · exact .of_eq (h kV doc pm an cdv ct us ws zs h1 h2 h3)
  · exact absurd rfl e
/-! ### the law's end -/
theorem vals_ints' {vs : List Value} {ns : List Int} (h : IntsAre vs ns) : Vals (ns.map V.int) vs := L2.vals_ints h
theorem law_end {mb : Str → Option Value} {n : Nat} {fa a : Addr} {fd : FuncData} {x : Str} {s₁ : Shared} {vs : List Value} {ns : List Int} {call : List MV → Store → R}
    (KX : K.In s₁.heap) (hns : s₁.heap.Ns mainGlobals mg) (hb : s₁.heap.Ns builtinsNs mb) (hbb : ∀ x : Str, x ≠ "__name__" → mb x = bootBuiltins x) (hlim : s₁.heap.NoLimit) (hg : s₁.gens = #[])
    (ha : s₁.heap.get? a = some { cls := .type "list", data := .seq vs.toArray }) (hi : IntsAre vs ns) (hl : ns.length ≤ sizeLine) (hr : Room n callerA)
    (F : ∀ base : Heap, K.In base → base.Ns mainGlobals mg → GOk P w K mg base (L2.CX P w) n fa fd [x] (spC K (fun _ _ _ _ _ _ => False) call)) (hbind : ∀ (s : Shared) (u : Value), BindsTo s fd ⟨[u], []⟩ [(x, u)])
    (hrun : ∃ S', call [.d (.list (ns.map .int))] [] = .ok (.d (.bool true)) S') :
    codeAny (model P w) callerA (.call (.ref fa) ⟨[.ref a], []⟩) (fun r s' => r = .ok (.ret (.bool true)) ∧ OldK s₁.heap s'.heap ∧ s'.os = s₁.os ∧ AllBare s'.gens) s₁ := by
  have rv := L2.vals_ints hi
  have lenV := hi.length
  obtain ⟨S', hrun⟩ := hrun
  have core : ∀ H : Hp, Only H → LstK K H a (ns.map V.int) → HOk P w H s₁.heap → (∀ b, H b ≠ none → b = a) → (H a ≠ none → K.lookup a = none) →
      codeAny (model P w) callerA (.call (.ref fa) ⟨[.ref a], []⟩) (fun r s' => r = .ok (.ret (.bool true)) ∧ OldK s₁.heap s'.heap ∧ s'.os = s₁.os ∧ AllBare s'.gens) s₁ := by
    intro H only lst hok one out
    have noA : ∀ {b : Addr} {o : Obj} {es : Array DictEntry} {ep : Nat}, s₁.heap.get? b = some o → o.data = .dict es ep → H b = none := fun {b o es ep} e d => by
      cases q : H b with
      | none => rfl
      | some u =>
        obtain rfl : b = a := one b (by rw [q]; simp)
        rw [ha] at e; cases e
        exact nomatch (show Data.seq vs.toArray _ = Data.dict es ep from d)
    have nsK : ∀ {b : Addr} {m : Str → Option Value}, s₁.heap.Ns b m → (hidT s₁.heap H).Ns b m := fun {b m} ⟨o, es, ep, e, d, r⟩ => ⟨o, es, ep, hidT_get e (noA e d), d, r⟩
    have inK : K.In (hidT s₁.heap H) := fun b o e => hidT_get (KX b o e) (by
      cases q : H b with
      | none => rfl
      | some u =>
        obtain rfl : b = a := one b (by rw [q]; simp)
        rw [out (by rw [q]; simp)] at e; cases e)
    have modl : Mod K mg (hidT s₁.heap H) := ⟨inK, nsK hns, ⟨mb, nsK hb, hbb⟩, let ⟨mc, h1, h2⟩ := hlim; ⟨mc, nsK h1, h2⟩⟩
    have e0 : Env0 P w K mg (hidT s₁.heap H) callerA [] s₁ H := ⟨rfl, modl, fun b o e => of_hidT e, Nat.le_of_eq (hidT_size _ _), trivial, fun b hb => absurd (show b ∈ ([] : List Addr) from hb) (by simp), hok, .of_eq hg⟩
    have spl : spC K (fun _ _ _ _ _ _ => False) call [.ref a] H (fun v _ => v = .bl true) fun _ _ _ => False := by
      refine ⟨fun r => r = .ok (.d (.bool true)) S', H, fun _ => none, [], [], [.d (.list (ns.map .int))], (fun e => nomatch e), ⟨fun _ _ e => e, (fun _ _ e => nomatch e), fun _ e => absurd rfl e, fun _ e => absurd e (by simp), fun _ e => absurd e (by simp), rfl, List.nodup_nil, fun p xs e => by simp at e⟩, ?_, hrun, fun F' m' S2 x v H' e h hx g => ?_, (fun _ _ _ _ _ _ _ _ e => nomatch e)⟩
      · exact .cons ⟨rfl, DR.lst lst (DRs.of_ints ns)⟩ .nil
      · cases g
        exact dr_bool hx.2
    refine codeAny_mono (F _ inK (nsK hns) callerA [] s₁ H ⟨[.ref a], []⟩ [.ref a] [.ref a] _ _ hr rfl e0 (hbind s₁ (.ref a)) rfl (.cons rfl .nil) spl) fun r s' h => ?_
    cases r with
    | error e => exact (cx_no _ _ _ _ _ h).elim
    | ok fl =>
      match fl, h with
      | .next, h => exact False.elim h
      | .brk, h => exact False.elim h
      | .cont, h => exact False.elim h
      | .ret u, ⟨v, H', os, bare, un, hok', r', q⟩ =>
        obtain rfl : v = .bl true := q
        obtain rfl : u = Value.bool true := r'
        refine ⟨rfl, OldK.of_keep fun b o e => ?_, os, bare⟩
        cases q : H b with
        | none => exact un.keep b o e q (by intro z; exact absurd (show b ∈ ([] : List Addr) from z) (by simp)) (by simp)
        | some u =>
          rcases only b with z | ⟨ob, xs, z⟩
          · rw [q] at z; cases z
          · obtain ⟨e1, _⟩ := hok b _ z
            obtain ⟨e2, _⟩ := hok' b _ (un.frzs b ob _ z)
            rw [e] at e1; cases e1
            exact e2
  cases hk : K.lookup a with
  | some o =>
    have e := KX a o hk
    rw [ha] at e
    cases e
    exact core (fun _ => none) (fun _ => .inl rfl) (.inr ⟨vs.toArray, _, hk, by rw [List.size_toArray, lenV]; exact hl, by simpa using rv⟩) (fun b u z => by have z' : (none : Option HO) = some u := z; cases z') (fun b z => absurd rfl z) fun z => absurd rfl z
  | none =>
    refine core (fun b => if b = a then some (.frz { cls := .type "list", data := .seq vs.toArray } (.lst (ns.map V.int))) else none) (fun b => ?_) (.inl (.inr ⟨{ cls := .type "list", data := .seq vs.toArray }, if_pos rfl⟩)) (fun b u z => ?_) (fun b z => ?_) fun _ => hk
    · by_cases hb : b = a
      · exact .inr ⟨_, _, if_pos hb⟩
      · exact .inl (if_neg hb)
    · by_cases hb : b = a
      · have z' := (if_pos hb).symm.trans z
        cases z'
        subst hb
        exact ⟨ha, by rw [List.length_map]; exact hl, vs, _, rv, ha⟩
      · have z' := (if_neg hb).symm.trans z
        cases z'
    · by_cases hb : b = a
      · exact hb
      · exact absurd (if_neg hb) z
end
/-- the row's end, by a run -/
theorem walk_run {l : PySem.W.OpenLaw} {n k : Nat} {q : Program} {loose : List Str} {XP : (Str → Option Value) → Heap → Prop} {YP : World → Heap → Prop} {d : DefRec} {x : Str} {call : List MV → Store → R}
    (hn : l.most = some n) (hn2 : n ≤ sizeLine) (hdf : d.params.defaults = []) (hr : Room k callerA)
    (F : ∀ (w : World) (mg : Str → Option Value) (fa : Addr) (h : Heap), YP w h → h.Ns mainGlobals mg → mg d.name = some (.ref fa) →
      ∃ (K : PySem.W.Frag) (fd : FuncData), K.In h ∧ (∀ (s : Shared) (u : Value), BindsTo s fd ⟨[u], []⟩ [(x, u)]) ∧
        ∀ base : Heap, K.In base → base.Ns mainGlobals mg → GOk l.prog w K mg base (L2.CX l.prog w) k fa fd [x] (spC K (fun _ _ _ _ _ _ => False) call))
    (hrun : ∀ ns : List Int, ns.length ≤ n → ∃ S', call [.d (.list (ns.map .int))] [] = .ok (.d (.bool true)) S') :
    PySem.W.WalkO q loose XP YP l.row.toRowW d [] (fun f vs => PySem.call f vs) := by
  refine Att.attach_call hn hdf fun w s₀ s₁ mg mb fa o pm cd doc a vs ns G Y ho hd hcd hmg hobj hints hlen hg => ?_
  obtain ⟨K, fd, KX, hb, hF⟩ := F w mg fa _ Y G.T.g hmg
  exact law_end KX G.T.g G.T.b G.T.builtins G.T.nolimit hg hobj hints (Nat.le_trans hlen hn2) hr hF hb (hrun ns hlen)
end Mi

set_option maxHeartbeats 4000000
/-! Runs, by hand: what the interpreter's loops come to; small facts of plain data. -/
namespace Mi
open PySem
theorem compL_map {body : MV → Sl → Store → (Option PyData → Sl → Store → R) → R} (g : PyData → PyData) {μ : Sl} {S : Store} {k : List PyData → Sl → Store → R} : ∀ {xs acc : List PyData}, (∀ x ∈ xs, ∀ k, body (.d x) μ S k = k (some (g x)) μ S) → acc.length + xs.length ≤ size0 →
    compL body (xs.map .d) acc μ S k = k (acc ++ xs.map g) μ S
  | [], acc, _, _ => by simp [compL]
  | x :: xs, acc, h, hl => by
    have hl' : acc.length + (xs.length + 1) ≤ size0 := hl
    have h1 : acc.length < size0 := by omega
    have h2 : (acc ++ [g x]).length + xs.length ≤ size0 := by simp; omega
    rw [List.map_cons, compL, h x List.mem_cons_self]
    simp only [h1, if_true]
    rw [compL_map g (fun y hy => h y (List.mem_cons_of_mem _ hy)) h2]
    simp
theorem bigOk_of {i j : Int} (h1 : i.natAbs < 2 ^ 64) (h2 : j.natAbs < 2 ^ 64) : bigOk i j = true := by
  unfold bigOk
  have e1 : i.natAbs.log2 < 64 := by
    by_cases h : i.natAbs = 0
    · rw [h]; decide
    · exact (Nat.log2_lt h).mpr h1
  have e2 : j.natAbs.log2 < 64 := by
    by_cases h : j.natAbs = 0
    · rw [h]; decide
    · exact (Nat.log2_lt h).mpr h2
  apply decide_eq_true
  omega
def potS (A B : Int) : Store := [MO.lst [.d (.int A), .d (.int B)]]
theorem boolsD_map {α : Type} {g : α → Bool} : ∀ {xs : List α}, boolsD (xs.map fun x => .bool (g x)) = some (xs.map g)
  | [] => rfl
  | x :: xs => by simp [boolsD, boolsD_map (g := g) (xs := xs)]
theorem intsD_map : ∀ {ns : List Int}, intsD (ns.map .int) = some ns
  | [] => rfl
  | n :: ns => by simp [intsD, intsD_map (ns := ns)]
theorem cut_from {α : Type} (xs : List α) {a : Int} (h : 0 ≤ a) : cutL xs (some a) none = xs.drop a.toNat := by
  have h' : ¬ a < 0 := by omega
  simp only [cutL, HT.sIx, h', if_false]
  by_cases hl : a.toNat ≤ xs.length
  · rw [Nat.min_eq_left hl, List.take_of_length_le (by simp)]
  · rw [Nat.min_eq_right (by omega), List.drop_of_length_le (by omega), List.drop_of_length_le (by omega)]
    simp
theorem cut_to {α : Type} (xs : List α) {a : Int} (h : 0 ≤ a) : cutL xs none (some a) = xs.take a.toNat := by
  have h' : ¬ a < 0 := by omega
  simp only [cutL, HT.sIx, h', if_false, List.drop_zero, Nat.sub_zero]
  by_cases hl : a.toNat ≤ xs.length
  · rw [Nat.min_eq_left hl]
  · rw [Nat.min_eq_right (by omega), List.take_of_length_le (by omega), List.take_of_length_le (by omega)]
theorem cut_mem {α : Type} {xs : List α} {lo hi : Option Int} {x : α} (h : x ∈ cutL xs lo hi) : x ∈ xs := List.mem_of_mem_drop (List.mem_of_mem_take h)
theorem cut_len {α : Type} (xs : List α) (lo hi : Option Int) : (cutL xs lo hi).length ≤ xs.length := by
  unfold cutL
  rw [List.length_take, List.length_drop]
  omega
/-! ### lists of whole numbers -/
theorem le_ints (a b : Int) : leI a b = PySem.W.dataLe false id (.int a) (.int b) := (congrFun (congrFun (PySem.W.dataLe_int (fun x : Int => x)) a) b).symm
theorem sort_ints (ns : List Int) : (ns.map PyData.int).mergeSort (PySem.W.dataLe false id) = (ns.mergeSort leI).map .int := (List.map_mergeSort fun a _ b _ => le_ints a b).symm
theorem eqv_ints : ∀ ns ms : List Int, PyData.eqvAll (ns.map .int) (ms.map .int) = decide (ns = ms)
  | [], [] => rfl
  | [], m :: ms => rfl
  | n :: ns, [] => rfl
  | n :: ns, m :: ms => by
    simp only [List.map_cons, PyData.eqvAll, PyData.eqv, eqv_ints ns ms]
    by_cases h : n = m
    · subst h; simp
    · simp [h]
theorem plain_ints : ∀ ns : List Int, PyData.plainAll (ns.map .int) = true
  | [] => rfl
  | n :: ns => by simp only [List.map_cons, PyData.plainAll, PyData.plain, plain_ints ns]; rfl
theorem depth_ints : ∀ ns : List Int, PyData.depthAll (ns.map .int) = 0
  | [] => rfl
  | n :: ns => by simp only [List.map_cons, PyData.depthAll, PyData.depth, depth_ints ns]; rfl
theorem eq_ints (ns ms : List Int) : cmpD .eq (.list (ns.map .int)) (.list (ms.map .int)) = some (decide (ns = ms)) := by
  simp [cmpD, PyData.plain, plain_ints, smallD, PyData.depth, depth_ints, PyData.eqv, eqv_ints]
theorem eq_intsT (ns ms : List Int) : cmpD .eq (.tuple (ns.map .int)) (.tuple (ms.map .int)) = some (decide (ns = ms)) := by
  simp [cmpD, PyData.plain, plain_ints, smallD, PyData.depth, depth_ints, PyData.eqv, eqv_ints]
def desc : List Int → Bool
  | a :: b :: r => decide (b ≤ a) && desc (b :: r)
  | _ => true
theorem desc_pw : ∀ {ns : List Int}, desc ns = true ↔ ns.Pairwise (fun a b => b ≤ a)
  | [] => by simp [desc]
  | [a] => by simp [desc]
  | a :: b :: r => by
    have ih := desc_pw (ns := b :: r)
    simp only [desc, Bool.and_eq_true, decide_eq_true_eq]
    rw [ih, List.pairwise_cons (a := a)]
    constructor
    · rintro ⟨h1, h2⟩
      refine ⟨fun x hx => ?_, h2⟩
      rcases List.mem_cons.mp hx with e | e
      · subst e; exact h1
      · exact Int.le_trans ((List.pairwise_cons.mp h2).1 x e) h1
    · rintro ⟨h1, h2⟩
      exact ⟨h1 b List.mem_cons_self, h2⟩
theorem sorted_pw (ns : List Int) : (ns.mergeSort leI).Pairwise (fun a b => a ≤ b) := by
  have := List.pairwise_mergeSort (le := leI) (fun a b c h1 h2 => by simp only [leI, decide_eq_true_eq] at *; omega) (fun a b => by simp only [leI, Bool.or_eq_true, decide_eq_true_eq]; omega) ns
  exact this.imp fun h => by simpa [leI] using h
/-- the numbers fall exactly if they are the sorted ones turned round -/
theorem desc_sorted (ns : List Int) : decide (ns = (ns.mergeSort leI).reverse) = desc ns := by
  have hs := sorted_pw ns
  have hp := List.mergeSort_perm ns leI
  rw [Bool.eq_iff_iff, decide_eq_true_eq, desc_pw]
  constructor
  · intro e
    rw [e, List.pairwise_reverse]
    exact hs
  · intro h
    refine List.Perm.eq_of_pairwise (le := fun a b => b ≤ a) (fun a b _ _ h1 h2 => by omega) h ?_ (hp.symm.trans (List.reverse_perm _).symm)
    rw [List.pairwise_reverse]
    exact hs
end Mi

set_option maxHeartbeats 0
namespace Lw
open PySem PySem.Spec PyProof.Rows L2 Mi
abbrev row : PySem.W.OpenLaw := PySem.Challenge.rw_etaparts_k31_any_value_as_parts
def top (i : Nat) : Stmt := PySem.Challenge.pw_etaparts_k31_any_value_as_parts.main.body.getD i (.Pass ⟨0, 0, 0, 0⟩)
/-! ### the text in the small language: is_integer, is_between, are_parts, want_parts, want_fold, free_of, few_by, is_parts, is_free, is_few, _law_pot, _law_draw, _law_pick, _law_drawn, _law_is_part, _law_are_parts, _law_bent, _law_right, law -/
/-- is_integer -/
def b0 : List MS :=
  [.ret (.and [(.isin (.var 0) [.int]), (.not (.isin (.var 0) [.bool]))])]
def d0 : Df := ⟨1, 1, b0⟩
/-- is_between -/
def b1 : List MS :=
  [.ret (.and [(.call 0 [(.var 0)] []), (.chain .le .le (.var 1) (.var 0) (.var 2))])]
def d1 : Df := ⟨3, 3, b1⟩
/-- are_parts -/
def b2 : List MS :=
  [.ite (.or [(.not (.isin (.var 0) [.tuple])), (.not (.bi .all [(.comp (.and [(.call 0 [(.var 1)] []), (.cmp .ge (.var 1) (.const (.int 1)))]) (.name 1) (.val (.var 0)) [] [1])]))]) [.ret (.const (.bool false))] [],
    .ret (.and [(.bi .all [(.comp (.cmp .ge (.var 2) (.var 3)) (.tup [(.name 2), (.name 3)]) (.zip (.var 0) (.slice (.var 0) (some (.const (.int 1))) none)) [] [2, 3])]), (.cmp .le (.bi .sum [(.var 0)]) (.glob 0))])]
def d2 : Df := ⟨1, 4, b2⟩
/-- want_parts -/
def b3 : List MS :=
  [.ite (.not (.call 2 [(.var 0)] [])) [.never] [],
    .ret (.var 0)]
def d3 : Df := ⟨1, 1, b3⟩
/-- want_fold -/
def b4 : List MS :=
  [.ite (.not (.call 1 [(.var 0), (.const (.int 2)), (.glob 1)] [])) [.never] [],
    .ret (.var 0)]
def d4 : Df := ⟨1, 1, b4⟩
/-- free_of -/
def b5 : List MS :=
  [.ret (.bi .all [(.comp (.cmp .ne (.bin .mod (.var 2) (.var 0)) (.const (.int 0))) (.name 2) (.val (.var 1)) [] [2])])]
def d5 : Df := ⟨2, 3, b5⟩
/-- few_by -/
def b6 : List MS :=
  [.ret (.bi .all [(.comp (.cmp .ne (.var 2) (.var 3)) (.tup [(.name 2), (.name 3)]) (.zip (.var 1) (.slice (.var 1) (some (.bin .sub (.var 0) (.const (.int 1)))) none)) [] [2, 3])])]
def d6 : Df := ⟨2, 4, b6⟩
/-- is_parts -/
def b7 : List MS :=
  [.ret (.call 2 [(.var 0)] [])]
def d7 : Df := ⟨1, 1, b7⟩
/-- is_free -/
def b8 : List MS :=
  [.expr (.call 4 [(.var 0)] []),
    .ret (.call 5 [(.var 0), (.call 3 [(.var 1)] [])] [])]
def d8 : Df := ⟨2, 2, b8⟩
/-- is_few -/
def b9 : List MS :=
  [.expr (.call 4 [(.var 0)] []),
    .ret (.call 6 [(.var 0), (.call 3 [(.var 1)] [])] [])]
def d9 : Df := ⟨2, 2, b9⟩
/-- _law_pot -/
def b10 : List MS :=
  [.set 2 (.bin .add (.bin .add (.bin .mul (.const (.int 1303)) (.var 1)) (.const (.int 1207))) (.bin .mod (.bi .sum [(.slice (.var 0) none (some (.const (.int 1))))]) (.const (.int 1000003)))),
    .ite (.cmp .lt (.var 1) (.bi .len [(.var 0)])) [.set 2 (.bi .abs [(.idx (.var 0) (.var 1))])] [],
    .set 3 (.bin .add (.bin .mod (.bin .mul (.bi .int [(.bin .add (.bin .mod (.bi .int [(.var 2)]) (.const (.int 2147483549))) (.const (.int 18217)))]) (.bin .pow (.bin .add (.bin .mul (.const (.int 2)) (.var 1)) (.const (.int 5))) (.const (.int 3)))) (.const (.int 2147483477))) (.const (.int 1))),
    .ret (.newRef (.list [(.bi .max2 [(.const (.int 0)), (.bin .sub (.var 2) (.bin .pow (.const (.int 10)) (.const (.int 18))))]), (.var 3)]))]
def d10 : Df := ⟨2, 4, b10⟩
/-- _law_draw -/
def b11 : List MS :=
  [.ite (.cmp .gt (.idx (.var 0) (.const (.int 0))) (.const (.int 0))) [.asg (.tup [(.sub (.var 0) (.const (.int 0))), (.name 2)]) (.bi .divmod [(.idx (.var 0) (.const (.int 0))), (.var 1)]),
      .ret (.var 2)] [],
    .asg (.sub (.var 0) (.const (.int 1))) (.bin .mod (.bi .int [(.bin .add (.bin .mul (.idx (.var 0) (.const (.int 1))) (.const (.int 48271))) (.const (.int 18217)))]) (.const (.int 2147483587))),
    .ret (.bin .mod (.bi .int [(.bin .fdiv (.bin .mod (.bi .int [(.bin .mul (.idx (.var 0) (.const (.int 1))) (.idx (.var 0) (.const (.int 1))))]) (.const (.int 2147483549))) (.const (.int 13)))]) (.var 1))]
def d11 : Df := ⟨2, 3, b11⟩
/-- _law_pick -/
def b12 : List MS :=
  [.ret (.idx (.var 1) (.call 11 [(.var 0), (.bi .len [(.var 1)])] []))]
def d12 : Df := ⟨2, 2, b12⟩
/-- _law_drawn -/
def b13 : List MS :=
  [.par [2, 3] [(.list []), (.bin .add (.const (.int 1)) (.call 11 [(.var 0), (.var 1)] []))],
    .for (.name 4) (.range [(.call 11 [(.var 0), (.const (.int 7))] [])]) [.set 3 (.bin .add (.const (.int 1)) (.call 11 [(.var 0), (.var 3)] [])),
      .append (.var 2) (.var 3)],
    .ret (.bi .tuple [(.var 2)])]
def d13 : Df := ⟨2, 5, b13⟩
/-- _law_is_part -/
def b14 : List MS :=
  [.ret (.and [(.isin (.var 0) [.int]), (.not (.isin (.var 0) [.bool])), (.cmp .ge (.var 0) (.const (.int 1)))])]
def d14 : Df := ⟨1, 1, b14⟩
/-- _law_are_parts -/
def b15 : List MS :=
  [.ite (.or [(.not (.isin (.var 0) [.tuple])), (.not (.bi .all [(.comp (.call 14 [(.var 1)] []) (.name 1) (.val (.var 0)) [] [1])]))]) [.ret (.const (.bool false))] [],
    .ret (.and [(.cmp .eq (.bi .list [(.var 0)]) (.rev (.bi .sorted [(.var 0)]))), (.cmp .le (.bi .sum [(.var 0)]) (.const (.int 400)))])]
def d15 : Df := ⟨1, 2, b15⟩
/-- _law_bent -/
def b16 : List MS :=
  [.par [2, 3] [(.bin .mod (.call 11 [(.var 0), (.const (.int 60))] []) (.bi .max2 [(.const (.int 1)), (.bi .len [(.var 1)])])), (.call 11 [(.var 0), (.const (.int 9))] [])],
    .ite (.cmp .eq (.var 3) (.const (.int 0))) [.ret (.bi .list [(.var 1)])] [],
    .ite (.cmp .eq (.var 3) (.const (.int 1))) [.ret (.rev (.var 1))] [],
    .ite (.cmp .eq (.var 3) (.const (.int 2))) [.ret (.bin .add (.bin .add (.slice (.var 1) none (some (.var 2))) (.tup [(.const (.int 0))])) (.slice (.var 1) (some (.var 2)) none))] [],
    .ite (.cmp .eq (.var 3) (.const (.int 3))) [.ret (.bin .add (.bin .add (.slice (.var 1) none (some (.var 2))) (.tup [(.const (.bool true))])) (.slice (.var 1) (some (.bin .add (.var 2) (.const (.int 1)))) none))] [],
    .ite (.cmp .eq (.var 3) (.const (.int 4))) [.ret (.bin .add (.bin .add (.slice (.var 1) none (some (.var 2))) (.slice (.var 1) (some (.var 2)) (some (.bin .add (.var 2) (.const (.int 1)))))) (.slice (.var 1) (some (.var 2)) none))] [],
    .ite (.cmp .eq (.var 3) (.const (.int 5))) [.ret (.bin .add (.tup [(.bin .sub (.const (.int 400)) (.bi .sum [(.slice (.var 1) (some (.const (.int 1))) none)]))]) (.slice (.var 1) (some (.const (.int 1))) none))] [],
    .ite (.cmp .eq (.var 3) (.const (.int 6))) [.ret (.bin .add (.tup [(.bin .sub (.const (.int 401)) (.bi .sum [(.slice (.var 1) (some (.const (.int 1))) none)]))]) (.slice (.var 1) (some (.const (.int 1))) none))] [],
    .ite (.cmp .eq (.var 3) (.const (.int 7))) [.ret (.bin .add (.bin .add (.slice (.var 1) none (some (.var 2))) (.call 12 [(.var 0), (.list [(.tup [(.const .none)]), (.tup [(.const (.str "1"))]), (.tup [(.tup [(.const (.int 1))])]), (.tup [(.neg (.const (.int 1)))]), (.tup [(.bin .pow (.const (.int 10)) (.const (.int 20)))])])] [])) (.slice (.var 1) (some (.bin .add (.var 2) (.const (.int 1)))) none))] [],
    .ret (.bin .add (.slice (.var 1) none (some (.var 2))) (.slice (.var 1) (some (.bin .add (.var 2) (.const (.int 1)))) none))]
def d16 : Df := ⟨2, 4, b16⟩
/-- _law_right -/
def b17 : List MS :=
  [.setOwn 1 (.list [(.tup []), (.bin .mul (.tup [(.const (.int 1))]) (.const (.int 400))), (.bin .mul (.tup [(.const (.int 1))]) (.const (.int 401))), (.const .none), (.const (.bool true)), (.const (.int 0)), (.const (.int 5)), (.const (.str "321")), (.list []), .dict0, (.tup [(.tup [])])]),
    .for (.name 2) (.range [(.const (.int 6))]) [.set 3 (.call 13 [(.var 0), (.const (.int 60))] []),
      .extend (.var 1) (.list [(.var 3), (.call 16 [(.var 0), (.var 3)] []), (.call 16 [(.var 0), (.var 3)] [])])],
    .for (.name 4) (.val (.frz (.var 1))) [.par [5, 6] [(.bi .repr [(.var 4)]), (.call 15 [(.var 4)] [])],
      .ite (.or [(.cmp .ne (.bi .repr [(.list [(.call 7 [(.var 4)] []), (.call 7 [(.var 4)] [0])])]) (.bi .repr [(.list [(.var 6), (.var 6)])])), (.cmp .ne (.bi .repr [(.var 4)]) (.var 5))]) [.ret (.const (.bool false))] [],
      .set 7 (.bin .add (.const (.int 2)) (.call 11 [(.var 0), (.const (.int 11))] [])),
      .ite (.and [(.var 6), (.cmp .lt (.bi .len [(.var 4)]) (.const (.int 60)))]) [.set 8 (.bi .all [(.comp (.cmp .gt (.bi .int [(.bin .mod (.var 9) (.var 7))]) (.const (.int 0))) (.name 9) (.val (.var 4)) [] [9])]),
        .set 10 (.bi .all [(.comp (.cmp .lt (.meth .count (.var 4) [(.var 9)]) (.var 7)) (.name 9) (.val (.var 4)) [] [9])]),
        .ite (.cmp .ne (.bi .repr [(.list [(.call 8 [(.var 7), (.var 4)] []), (.call 9 [(.var 4), (.var 7)] [1, 0])])]) (.bi .repr [(.list [(.var 8), (.var 10)])])) [.ret (.const (.bool false))] []] []],
    .ret (.const (.bool true))]
def d17 : Df := ⟨1, 11, b17⟩
/-- law -/
def b18 : List MS :=
  [.ret (.call 17 [(.call 10 [(.var 0), (.const (.int 0))] [])] [])]
def d18 : Df := ⟨1, 1, b18⟩
def fs : List Df := [d0, d1, d2, d3, d4, d5, d6, d7, d8, d9, d10, d11, d12, d13, d14, d15, d16, d17, d18]
def gl : Nat → Option PyData
  | 0 => some (.int 400)
  | 1 => some (.int 12)
  | _ => none
def glN : List Str := ["MOST_TOTAL", "MOST_FOLD"]
def noN : List Str := ["abs", "all", "bool", "divmod", "int", "isinstance", "len", "list", "max", "range", "repr", "sorted", "sum", "tuple", "zip"]
def i0 : DefI := ⟨"is_integer", ["value"], ["value"], [⟨1, [], []⟩], d0⟩
def i1 : DefI := ⟨"is_between", ["value", "least", "most"], ["value", "least", "most"], [⟨3, [], []⟩], d1⟩
def i2 : DefI := ⟨"are_parts", ["value", "part", "one", "other"], ["value"], [⟨1, [], []⟩], d2⟩
def i3 : DefI := ⟨"want_parts", ["value"], ["value"], [⟨1, [], []⟩], d3⟩
def i4 : DefI := ⟨"want_fold", ["value"], ["value"], [⟨1, [], []⟩], d4⟩
def i5 : DefI := ⟨"free_of", ["fold", "parts", "part"], ["fold", "parts"], [⟨2, [], []⟩], d5⟩
def i6 : DefI := ⟨"few_by", ["fold", "parts", "one", "other"], ["fold", "parts"], [⟨2, [], []⟩], d6⟩
def i7 : DefI := ⟨"is_parts", ["value"], ["value"], [⟨1, [], []⟩, ⟨0, ["value"], [0]⟩], d7⟩
def i8 : DefI := ⟨"is_free", ["fold", "parts"], ["fold", "parts"], [⟨2, [], []⟩], d8⟩
def i9 : DefI := ⟨"is_few", ["fold", "parts"], ["fold", "parts"], [⟨0, ["parts", "fold"], [1, 0]⟩], d9⟩
def i10 : DefI := ⟨"_law_pot", ["_law_script", "_law_k", "_law_cell", "_law_mixed"], ["_law_script", "_law_k"], [⟨2, [], []⟩], d10⟩
def i11 : DefI := ⟨"_law_draw", ["_law_pot_here", "_law_many", "_law_digit"], ["_law_pot_here", "_law_many"], [⟨2, [], []⟩], d11⟩
def i12 : DefI := ⟨"_law_pick", ["_law_pot_here", "_law_some"], ["_law_pot_here", "_law_some"], [⟨2, [], []⟩], d12⟩
def i13 : DefI := ⟨"_law_drawn", ["_law_pot_here", "_law_most", "_law_found", "_law_last", "_law_turn"], ["_law_pot_here", "_law_most"], [⟨2, [], []⟩], d13⟩
def i14 : DefI := ⟨"_law_is_part", ["_law_value"], ["_law_value"], [⟨1, [], []⟩], d14⟩
def i15 : DefI := ⟨"_law_are_parts", ["_law_value", "_law_one"], ["_law_value"], [⟨1, [], []⟩], d15⟩
def i16 : DefI := ⟨"_law_bent", ["_law_pot_here", "_law_value", "_law_at", "_law_way"], ["_law_pot_here", "_law_value"], [⟨2, [], []⟩], d16⟩
def i17 : DefI := ⟨"_law_right", ["_law_pot_here", "_law_values", "_law_turn", "_law_parts", "_law_value", "_law_shown", "_law_due", "_law_fold", "_law_free", "_law_one", "_law_few"], ["_law_pot_here"], [⟨1, [], []⟩], d17⟩
def i18 : DefI := ⟨"law", ["_law_script"], ["_law_script"], [], d18⟩
def is : List DefI := [i0, i1, i2, i3, i4, i5, i6, i7, i8, i9, i10, i11, i12, i13, i14, i15, i16, i17, i18]
@[irreducible] def rn : Nat → Nat → List MV → Store → R := Mi.run fs gl
theorem u0 (n : Nat) (v0 : MV) (S : Store) : rn (n + 1) 0 [v0] S = exSs ⟨rn n, gl⟩ b0 [some (.v v0)] S (fun _ S => .ok (.d .none) S) (fun v S => .ok v S) noBr noBr := by unfold rn; rfl
theorem u1 (n : Nat) (v0 v1 v2 : MV) (S : Store) : rn (n + 1) 1 [v0, v1, v2] S = exSs ⟨rn n, gl⟩ b1 [some (.v v0), some (.v v1), some (.v v2)] S (fun _ S => .ok (.d .none) S) (fun v S => .ok v S) noBr noBr := by unfold rn; rfl
theorem u2 (n : Nat) (v0 : MV) (S : Store) : rn (n + 1) 2 [v0] S = exSs ⟨rn n, gl⟩ b2 [some (.v v0), none, none, none] S (fun _ S => .ok (.d .none) S) (fun v S => .ok v S) noBr noBr := by unfold rn; rfl
theorem u3 (n : Nat) (v0 : MV) (S : Store) : rn (n + 1) 3 [v0] S = exSs ⟨rn n, gl⟩ b3 [some (.v v0)] S (fun _ S => .ok (.d .none) S) (fun v S => .ok v S) noBr noBr := by unfold rn; rfl
theorem u4 (n : Nat) (v0 : MV) (S : Store) : rn (n + 1) 4 [v0] S = exSs ⟨rn n, gl⟩ b4 [some (.v v0)] S (fun _ S => .ok (.d .none) S) (fun v S => .ok v S) noBr noBr := by unfold rn; rfl
theorem u5 (n : Nat) (v0 v1 : MV) (S : Store) : rn (n + 1) 5 [v0, v1] S = exSs ⟨rn n, gl⟩ b5 [some (.v v0), some (.v v1), none] S (fun _ S => .ok (.d .none) S) (fun v S => .ok v S) noBr noBr := by unfold rn; rfl
theorem u6 (n : Nat) (v0 v1 : MV) (S : Store) : rn (n + 1) 6 [v0, v1] S = exSs ⟨rn n, gl⟩ b6 [some (.v v0), some (.v v1), none, none] S (fun _ S => .ok (.d .none) S) (fun v S => .ok v S) noBr noBr := by unfold rn; rfl
theorem u7 (n : Nat) (v0 : MV) (S : Store) : rn (n + 1) 7 [v0] S = exSs ⟨rn n, gl⟩ b7 [some (.v v0)] S (fun _ S => .ok (.d .none) S) (fun v S => .ok v S) noBr noBr := by unfold rn; rfl
theorem u8 (n : Nat) (v0 v1 : MV) (S : Store) : rn (n + 1) 8 [v0, v1] S = exSs ⟨rn n, gl⟩ b8 [some (.v v0), some (.v v1)] S (fun _ S => .ok (.d .none) S) (fun v S => .ok v S) noBr noBr := by unfold rn; rfl
theorem u9 (n : Nat) (v0 v1 : MV) (S : Store) : rn (n + 1) 9 [v0, v1] S = exSs ⟨rn n, gl⟩ b9 [some (.v v0), some (.v v1)] S (fun _ S => .ok (.d .none) S) (fun v S => .ok v S) noBr noBr := by unfold rn; rfl
theorem u10 (n : Nat) (v0 v1 : MV) (S : Store) : rn (n + 1) 10 [v0, v1] S = exSs ⟨rn n, gl⟩ b10 [some (.v v0), some (.v v1), none, none] S (fun _ S => .ok (.d .none) S) (fun v S => .ok v S) noBr noBr := by unfold rn; rfl
theorem u11 (n : Nat) (v0 v1 : MV) (S : Store) : rn (n + 1) 11 [v0, v1] S = exSs ⟨rn n, gl⟩ b11 [some (.v v0), some (.v v1), none] S (fun _ S => .ok (.d .none) S) (fun v S => .ok v S) noBr noBr := by unfold rn; rfl
theorem u12 (n : Nat) (v0 v1 : MV) (S : Store) : rn (n + 1) 12 [v0, v1] S = exSs ⟨rn n, gl⟩ b12 [some (.v v0), some (.v v1)] S (fun _ S => .ok (.d .none) S) (fun v S => .ok v S) noBr noBr := by unfold rn; rfl
theorem u13 (n : Nat) (v0 v1 : MV) (S : Store) : rn (n + 1) 13 [v0, v1] S = exSs ⟨rn n, gl⟩ b13 [some (.v v0), some (.v v1), none, none, none] S (fun _ S => .ok (.d .none) S) (fun v S => .ok v S) noBr noBr := by unfold rn; rfl
theorem u14 (n : Nat) (v0 : MV) (S : Store) : rn (n + 1) 14 [v0] S = exSs ⟨rn n, gl⟩ b14 [some (.v v0)] S (fun _ S => .ok (.d .none) S) (fun v S => .ok v S) noBr noBr := by unfold rn; rfl
theorem u15 (n : Nat) (v0 : MV) (S : Store) : rn (n + 1) 15 [v0] S = exSs ⟨rn n, gl⟩ b15 [some (.v v0), none] S (fun _ S => .ok (.d .none) S) (fun v S => .ok v S) noBr noBr := by unfold rn; rfl
theorem u16 (n : Nat) (v0 v1 : MV) (S : Store) : rn (n + 1) 16 [v0, v1] S = exSs ⟨rn n, gl⟩ b16 [some (.v v0), some (.v v1), none, none] S (fun _ S => .ok (.d .none) S) (fun v S => .ok v S) noBr noBr := by unfold rn; rfl
theorem u17 (n : Nat) (v0 : MV) (S : Store) : rn (n + 1) 17 [v0] S = exSs ⟨rn n, gl⟩ b17 [some (.v v0), none, none, none, none, none, none, none, none, none, none] S (fun _ S => .ok (.d .none) S) (fun v S => .ok v S) noBr noBr := by unfold rn; rfl
theorem u18 (n : Nat) (v0 : MV) (S : Store) : rn (n + 1) 18 [v0] S = exSs ⟨rn n, gl⟩ b18 [some (.v v0)] S (fun _ S => .ok (.d .none) S) (fun v S => .ok v S) noBr noBr := by unfold rn; rfl
end Lw

set_option maxHeartbeats 4000000
namespace Lw
open PySem Mi
def isI : PyData → Bool
  | .int _ => true
  | _ => false
theorem r0 (n : Nat) (v : PyData) (S : Store) : rn (n + 1) 0 [.d v] S = .ok (.d (.bool (isI v))) S := by
  rw [u0]
  cases v <;> simp [Mi.run, exSs, exS, evE, evLs, evOpt, evAnd, evOr, evConds, evI, asg, asgs, evPs, setAll, withL, withD, withDs, withB, withI, ofO, ofB, datV, lstV, datL, MV.dat, MV.noOwn, PV.seal, startS, setSlot, callK, permute, seqV, biD, seqOf, isTy, freeze, storeAt, appendTo, extendTo, lstS, iterV, forIV, bopD, cmpD, idxD, sliceD, revD, noOwnIn, wipeS, backS, b0, isI]
def betw (l m : Int) : PyData → Bool
  | .int i => decide (l ≤ i) && decide (i ≤ m)
  | _ => false
theorem r1 (n : Nat) (v : PyData) (l m : Int) (S : Store) : rn (n + 2) 1 [.d v, .d (.int l), .d (.int m)] S = .ok (.d (.bool (betw l m v))) S := by
  rw [u1]
  cases v with
  | int i =>
    simp [Mi.run, exSs, exS, evE, evLs, evOpt, evAnd, evOr, evConds, evI, asg, asgs, evPs, setAll, withL, withD, withDs, withB, withI, ofO, ofB, datV, lstV, datL, MV.dat, MV.noOwn, PV.seal, startS, setSlot, callK, permute, seqV, biD, seqOf, isTy, freeze, storeAt, appendTo, extendTo, lstS, iterV, forIV, bopD, cmpD, idxD, sliceD, revD, noOwnIn, wipeS, backS, b1, betw, r0, isI]
    by_cases h : l ≤ i <;> simp [h]
  | _ => simp [Mi.run, exSs, exS, evE, evLs, evOpt, evAnd, evOr, evConds, evI, asg, asgs, evPs, setAll, withL, withD, withDs, withB, withI, ofO, ofB, datV, lstV, datL, MV.dat, MV.noOwn, PV.seal, startS, setSlot, callK, permute, seqV, biD, seqOf, isTy, freeze, storeAt, appendTo, extendTo, lstS, iterV, forIV, bopD, cmpD, idxD, sliceD, revD, noOwnIn, wipeS, backS, b1, betw, r0, isI]
/-- _law_is_part -/
def isP : PyData → Bool
  | .int i => decide (1 ≤ i)
  | _ => false
theorem r14 (n : Nat) (v : PyData) (S : Store) : rn (n + 1) 14 [.d v] S = .ok (.d (.bool (isP v))) S := by
  rw [u14]
  cases v <;> simp [Mi.run, exSs, exS, evE, evLs, evOpt, evAnd, evOr, evConds, evI, asg, asgs, evPs, setAll, withL, withD, withDs, withB, withI, ofO, ofB, datV, lstV, datL, MV.dat, MV.noOwn, PV.seal, startS, setSlot, callK, permute, seqV, biD, seqOf, isTy, freeze, storeAt, appendTo, extendTo, lstS, iterV, forIV, bopD, cmpD, idxD, sliceD, revD, noOwnIn, wipeS, backS, b14, isP]
theorem r11 (n : Nat) (A B k : Int) (hA : 0 ≤ A) (hB : 0 ≤ B) (hB2 : B < 2147483648) (hk : 0 < k) (hk2 : k < 1073741824) : ∃ r A' B', 0 ≤ r ∧ r < k ∧ 0 ≤ A' ∧ 0 ≤ B' ∧ B' < 2147483648 ∧ rn (n + 1) 11 [.ref 0, .d (.int k)] (potS A B) = .ok (.d (.int r)) (potS A' B') := by
  rw [u11]
  by_cases h : 0 < A
  · refine ⟨A % k, A / k, B, Int.emod_nonneg _ (by omega), Int.emod_lt_of_pos _ hk, Int.ediv_nonneg hA (by omega), hB, hB2, ?_⟩
    simp [Mi.run, exSs, exS, evE, evLs, evOpt, evAnd, evOr, evConds, evI, asg, asgs, evPs, setAll, withL, withD, withDs, withB, withI, ofO, ofB, datV, lstV, datL, MV.dat, MV.noOwn, PV.seal, startS, setSlot, callK, permute, seqV, biD, seqOf, isTy, freeze, storeAt, appendTo, extendTo, lstS, iterV, forIV, bopD, cmpD, idxD, sliceD, revD, noOwnIn, wipeS, backS, b11, potS, L2.atI, L2.ixN, h, hk, hk2]
  · have h1 : 0 ≤ (B * 48271 + 18217) % 2147483587 := Int.emod_nonneg _ (by omega)
    have h2 : (B * 48271 + 18217) % 2147483587 < 2147483587 := Int.emod_lt_of_pos _ (by omega)
    refine ⟨((B * 48271 + 18217) % 2147483587 * ((B * 48271 + 18217) % 2147483587) % 2147483549 / 13) % k, A, (B * 48271 + 18217) % 2147483587, Int.emod_nonneg _ (by omega), Int.emod_lt_of_pos _ hk, hA, h1, by omega, ?_⟩
    have b1 : bigOk B 48271 = true := bigOk_of (by omega) (by omega)
    have b2 : bigOk ((B * 48271 + 18217) % 2147483587) ((B * 48271 + 18217) % 2147483587) = true := bigOk_of (by omega) (by omega)
    have b3 : Nat.log2 13 < 9000 := by decide
    simp [Mi.run, exSs, exS, evE, evLs, evOpt, evAnd, evOr, evConds, evI, asg, asgs, evPs, setAll, withL, withD, withDs, withB, withI, ofO, ofB, datV, lstV, datL, MV.dat, MV.noOwn, PV.seal, startS, setSlot, callK, permute, seqV, biD, seqOf, isTy, freeze, storeAt, appendTo, extendTo, lstS, iterV, forIV, bopD, cmpD, idxD, sliceD, revD, noOwnIn, wipeS, backS, b11, potS, L2.atI, L2.ixN, h, hk, hk2, b1, b2, b3]
/-- are_parts, _law_are_parts -/
def posI (xs : List PyData) : Bool := xs.all isP
def areN (ns : List Int) : Bool := desc ns && decide (ns.sum ≤ 400)
def areP : PyData → Bool
  | .tuple xs => posI xs && areN ((intsD xs).getD [])
  | _ => false
theorem posI_ints : ∀ {xs : List PyData}, posI xs = true → ∃ ns : List Int, xs = ns.map .int ∧ ∀ n ∈ ns, 1 ≤ n
  | [], _ => ⟨[], rfl, by simp⟩
  | x :: xs, h => by
    simp only [posI, List.all_cons, Bool.and_eq_true] at h
    obtain ⟨ns, rfl, hn⟩ := posI_ints (xs := xs) h.2
    cases x with
    | int i =>
      refine ⟨i :: ns, rfl, fun n hm => ?_⟩
      rcases List.mem_cons.mp hm with e | e
      · subst e; simpa [isP] using h.1
      · exact hn n e
    | _ => simp [isP] at h
def geP : PyData → Bool
  | .tuple [.int a, .int b] => decide (b ≤ a)
  | _ => false
theorem desc_zip : ∀ ns : List Int, (zipD (ns.map .int) ((ns.map .int).drop 1)).all geP = desc ns
  | [] => rfl
  | [a] => rfl
  | a :: b :: r => by
    have ih := desc_zip (b :: r)
    simp only [List.map_cons, List.drop_succ_cons, List.drop_zero] at ih ⊢
    simp only [zipD, List.zip_cons_cons, List.map_cons, List.all_cons] at ih ⊢
    simp only [desc, geP]
    rw [← ih]
theorem zip_ints {ns ms : List Int} {p : PyData} (h : p ∈ zipD (ns.map .int) (ms.map .int)) : ∃ a b, p = .tuple [.int a, .int b] := by
  unfold zipD at h
  obtain ⟨⟨x, y⟩, hq, rfl⟩ := List.mem_map.mp h
  have := List.of_mem_zip hq
  obtain ⟨a, _, ha⟩ := List.mem_map.mp this.1
  obtain ⟨b, _, hb⟩ := List.mem_map.mp this.2
  exact ⟨a, b, by rw [← ha, ← hb]⟩
theorem zip_size {xs ys : List PyData} (h : xs.length ≤ size0) : ([] : List PyData).length + (zipD xs ys).length ≤ size0 := by
  simp [zipD]; omega
theorem cut1 (ns : List Int) : cutL (ns.map PyData.int) (some 1) none = (ns.drop 1).map .int := by rw [cut_from _ (by decide)]; simp
theorem r2 (n : Nat) (v : PyData) (S : Store) (hl : ∀ xs, v = .tuple xs → xs.length ≤ size0) : rn (n + 2) 2 [.d v] S = .ok (.d (.bool (areP v))) S := by
  rw [u2]
  cases v with
  | tuple xs =>
    have hl := hl xs rfl
    (conv => lhs; whnf); try dsimp only [PV.seal]
    rw [compL_map (fun x => .bool (isP x)) (fun x _ k => by cases x <;> simp [Mi.run, exSs, exS, evE, evLs, evOpt, evAnd, evOr, evConds, evI, asg, asgs, evPs, setAll, withL, withD, withDs, withB, withI, ofO, ofB, datV, lstV, datL, MV.dat, MV.noOwn, PV.seal, startS, setSlot, callK, permute, seqV, biD, seqOf, isTy, freeze, storeAt, appendTo, extendTo, lstS, iterV, forIV, bopD, cmpD, idxD, sliceD, revD, noOwnIn, wipeS, backS, r0, isI, isP]) (by simpa using hl)]
    (conv => lhs; whnf); try dsimp only [PV.seal]
    rw [show biD .all [PyData.list ([] ++ xs.map fun x => .bool (isP x))].reverse = some (.val (.d (.bool (posI xs)))) by simp [biD, boolsD_map, posI]]
    cases h : posI xs with
    | false =>
      rw [show areP (.tuple xs) = false by simp [areP, h]]
      rfl
    | true =>
      obtain ⟨ns, rfl, hn⟩ := posI_ints h
      (conv => lhs; whnf); try dsimp only [PV.seal]
      rw [cut1, compL_map (fun x => .bool (geP x)) (fun x hx k => by obtain ⟨a, b, rfl⟩ := zip_ints hx; simp [Mi.run, exSs, exS, evE, evLs, evOpt, evAnd, evOr, evConds, evI, asg, asgs, evPs, setAll, withL, withD, withDs, withB, withI, ofO, ofB, datV, lstV, datL, MV.dat, MV.noOwn, PV.seal, startS, setSlot, callK, permute, seqV, biD, seqOf, isTy, freeze, storeAt, appendTo, extendTo, lstS, iterV, forIV, bopD, cmpD, idxD, sliceD, revD, noOwnIn, wipeS, backS, geP]) (zip_size hl)]
      (conv => lhs; whnf); try dsimp only [PV.seal]
      rw [show biD .all [PyData.list ([] ++ (zipD (ns.map .int) ((ns.drop 1).map .int)).map fun x => .bool (geP x))].reverse = some (.val (.d (.bool (desc ns)))) by
        have := desc_zip ns
        rw [List.map_drop, ← this]
        simp [biD, boolsD_map]]
      have e : areP (.tuple (ns.map .int)) = (desc ns && decide (ns.sum ≤ 400)) := by simp [areP, areN, h, intsD_map]
      rw [e]
      cases hd : desc ns with
      | false => rfl
      | true =>
        (conv => lhs; whnf); try dsimp only [PV.seal]
        rw [show biD .sum [PyData.tuple (ns.map .int)].reverse = some (.val (.d (.int ns.sum))) by simp [biD, seqOf, intsD_map]]
        rfl
  | _ => rfl
theorem r15 (n : Nat) (v : PyData) (S : Store) (hl : ∀ xs, v = .tuple xs → xs.length ≤ size0) : rn (n + 2) 15 [.d v] S = .ok (.d (.bool (areP v))) S := by
  rw [u15]
  cases v with
  | tuple xs =>
    have hl := hl xs rfl
    (conv => lhs; whnf); try dsimp only [PV.seal]
    rw [compL_map (fun x => .bool (isP x)) (fun x _ k => by simp [Mi.run, exSs, exS, evE, evLs, evOpt, evAnd, evOr, evConds, evI, asg, asgs, evPs, setAll, withL, withD, withDs, withB, withI, ofO, ofB, datV, lstV, datL, MV.dat, MV.noOwn, PV.seal, startS, setSlot, callK, permute, seqV, biD, seqOf, isTy, freeze, storeAt, appendTo, extendTo, lstS, iterV, forIV, bopD, cmpD, idxD, sliceD, revD, noOwnIn, wipeS, backS, r14]) (by simpa using hl)]
    (conv => lhs; whnf); try dsimp only [PV.seal]
    rw [show biD .all [PyData.list ([] ++ xs.map fun x => .bool (isP x))].reverse = some (.val (.d (.bool (posI xs)))) by simp [biD, boolsD_map, posI]]
    cases h : posI xs with
    | false =>
      rw [show areP (.tuple xs) = false by simp [areP, h]]
      rfl
    | true =>
      obtain ⟨ns, rfl, hn⟩ := posI_ints h
      (conv => lhs; whnf); try dsimp only [PV.seal]
      rw [show biD .sorted [PyData.tuple (ns.map .int)].reverse = some (.new ((ns.mergeSort leI).map .int)) by simp [biD, seqOf, sortOk, intsD_map, sort_ints]]
      (conv => lhs; whnf); try dsimp only [PV.seal]
      rw [← List.map_reverse, eq_ints, desc_sorted]
      have e : areP (.tuple (ns.map .int)) = (desc ns && decide (ns.sum ≤ 400)) := by simp [areP, areN, h, intsD_map]
      rw [e]
      cases hd : desc ns with
      | false => rfl
      | true =>
        (conv => lhs; whnf); try dsimp only [PV.seal]
        rw [show biD .sum [PyData.tuple (ns.map .int)].reverse = some (.val (.d (.int ns.sum))) by simp [biD, seqOf, intsD_map]]
        rfl
  | _ => rfl
theorem r7 (n : Nat) (v : PyData) (S : Store) (hl : ∀ xs, v = .tuple xs → xs.length ≤ size0) : rn (n + 3) 7 [.d v] S = .ok (.d (.bool (areP v))) S := by
  rw [u7]
  (conv => lhs; whnf); try dsimp only [PV.seal]
  rw [r2 n v S hl]
  rfl
theorem r3 (n : Nat) (v : PyData) (S : Store) (hl : ∀ xs, v = .tuple xs → xs.length ≤ size0) (h : areP v = true) : rn (n + 3) 3 [.d v] S = .ok (.d v) S := by
  rw [u3]
  (conv => lhs; whnf); try dsimp only [PV.seal]
  rw [r2 n v S hl, h]
  rfl
theorem r4 (n : Nat) (k : Int) (S : Store) (h1 : 2 ≤ k) (h2 : k ≤ 12) : rn (n + 3) 4 [.d (.int k)] S = .ok (.d (.int k)) S := by
  rw [u4]
  (conv => lhs; whnf); try dsimp only [PV.seal]
  rw [r1]
  have h : betw 2 12 (.int k) = true := by simp [betw, h1, h2]
  rw [h]
  rfl
def freeN (k : Int) (ns : List Int) : Bool := ns.all fun n => !(n % k == 0)
def isFr (k : Int) : PyData → Bool
  | .int n => !(n % k == 0)
  | _ => false
theorem map_all (g : PyData → Bool) (ns : List Int) : biD .all [PyData.list ([] ++ (ns.map .int).map fun x => .bool (g x))].reverse = some (.val (.d (.bool (ns.all fun n => g (.int n))))) := by
  simp [biD, boolsD_map, List.all_map, Function.comp_def]
theorem r5 (n : Nat) (k : Int) (ns : List Int) (S : Store) (hk : 0 < k) (hl : ns.length ≤ size0) : rn (n + 1) 5 [.d (.int k), .d (.tuple (ns.map .int))] S = .ok (.d (.bool (freeN k ns))) S := by
  rw [u5]
  (conv => lhs; whnf); try dsimp only [PV.seal]
  rw [compL_map (fun x => .bool (isFr k x)) (fun x hx q => by obtain ⟨m, _, rfl⟩ := List.mem_map.mp hx; simp [Mi.run, exSs, exS, evE, evLs, evOpt, evAnd, evOr, evConds, evI, asg, asgs, evPs, setAll, withL, withD, withDs, withB, withI, ofO, ofB, datV, lstV, datL, MV.dat, MV.noOwn, PV.seal, startS, setSlot, callK, permute, seqV, biD, seqOf, isTy, freeze, storeAt, appendTo, extendTo, lstS, iterV, forIV, bopD, cmpD, idxD, sliceD, revD, noOwnIn, wipeS, backS, isFr, hk, PyData.plain, smallD, PyData.depth, PyData.eqv]) (by simpa using hl)]
  (conv => lhs; whnf); try dsimp only [PV.seal]
  rw [map_all]
  rfl
def neP : PyData → Bool
  | .tuple [.int a, .int b] => !(a == b)
  | _ => false
def fewN (k : Int) (ns : List Int) : Bool := (zipD (ns.map .int) ((ns.drop (k - 1).toNat).map .int)).all neP
theorem r6 (n : Nat) (k : Int) (ns : List Int) (S : Store) (hk : 1 ≤ k) (hl : ns.length ≤ size0) : rn (n + 1) 6 [.d (.int k), .d (.tuple (ns.map .int))] S = .ok (.d (.bool (fewN k ns))) S := by
  rw [u6]
  (conv => lhs; whnf); try dsimp only [PV.seal]
  have hc : cutL (ns.map PyData.int) (some (k - 1)) none = (ns.drop (k - 1).toNat).map .int := by rw [cut_from _ (by omega)]; simp
  rw [hc, compL_map (fun x => .bool (neP x)) (fun x hx q => by obtain ⟨a, b, rfl⟩ := zip_ints hx; simp [Mi.run, exSs, exS, evE, evLs, evOpt, evAnd, evOr, evConds, evI, asg, asgs, evPs, setAll, withL, withD, withDs, withB, withI, ofO, ofB, datV, lstV, datL, MV.dat, MV.noOwn, PV.seal, startS, setSlot, callK, permute, seqV, biD, seqOf, isTy, freeze, storeAt, appendTo, extendTo, lstS, iterV, forIV, bopD, cmpD, idxD, sliceD, revD, noOwnIn, wipeS, backS, neP, PyData.plain, smallD, PyData.depth, PyData.eqv]) (zip_size (by simpa using hl))]
  (conv => lhs; whnf); try dsimp only [PV.seal]
  rw [show biD .all [PyData.list ([] ++ (zipD (ns.map .int) ((ns.drop (k - 1).toNat).map .int)).map fun x => .bool (neP x))].reverse = some (.val (.d (.bool (fewN k ns)))) by simp [biD, boolsD_map, fewN]]
  rfl
theorem r8 (n : Nat) (k : Int) (ns : List Int) (S : Store) (h1 : 2 ≤ k) (h2 : k ≤ 12) (hl : ns.length ≤ size0) (h : areP (.tuple (ns.map .int)) = true) : rn (n + 4) 8 [.d (.int k), .d (.tuple (ns.map .int))] S = .ok (.d (.bool (freeN k ns))) S := by
  rw [u8]
  (conv => lhs; whnf); try dsimp only [PV.seal]
  rw [r4 n k S h1 h2]
  (conv => lhs; whnf); try dsimp only [PV.seal]
  rw [r3 n _ S (fun xs e => by cases e; simpa using hl) h]
  (conv => lhs; whnf); try dsimp only [PV.seal]
  rw [r5 (n + 2) k ns S (by omega) hl]
  rfl
theorem r9 (n : Nat) (k : Int) (ns : List Int) (S : Store) (h1 : 2 ≤ k) (h2 : k ≤ 12) (hl : ns.length ≤ size0) (h : areP (.tuple (ns.map .int)) = true) : rn (n + 4) 9 [.d (.int k), .d (.tuple (ns.map .int))] S = .ok (.d (.bool (fewN k ns))) S := by
  rw [u9]
  (conv => lhs; whnf); try dsimp only [PV.seal]
  rw [r4 n k S h1 h2]
  (conv => lhs; whnf); try dsimp only [PV.seal]
  rw [r3 n _ S (fun xs e => by cases e; simpa using hl) h]
  (conv => lhs; whnf); try dsimp only [PV.seal]
  rw [r6 (n + 2) k ns S (by omega) hl]
  rfl
theorem r10 (n : Nat) (ns : List Int) : ∃ A B, rn (n + 1) 10 [.d (.list (ns.map .int)), .d (.int 0)] [] = .ok (.ref 0) (potS A B) ∧ 0 ≤ A ∧ 0 ≤ B ∧ B < 2147483648 := by
  rw [u10]
  cases ns with
  | nil => exact ⟨_, _, rfl, by decide, by decide, by decide⟩
  | cons a r =>
    have c1 : cutL ((a :: r).map PyData.int) none (some 1) = [.int a] := by rw [cut_to _ (by decide)]; rfl
    generalize hz : (if a < 0 then -a else a) = z
    have h0 : 0 ≤ z := by rw [← hz]; split <;> omega
    have h1 : 0 ≤ z % 2147483549 := Int.emod_nonneg _ (by decide)
    have h2 : z % 2147483549 < 2147483549 := Int.emod_lt_of_pos _ (by decide)
    have h3 : 0 ≤ (z % 2147483549 + 18217) * 125 % 2147483477 := Int.emod_nonneg _ (by decide)
    have h4 : (z % 2147483549 + 18217) * 125 % 2147483477 < 2147483477 := Int.emod_lt_of_pos _ (by decide)
    refine ⟨if z - 10 ^ 18 > 0 then z - 10 ^ 18 else 0, (z % 2147483549 + 18217) * 125 % 2147483477 + 1, ?_, by split <;> omega, by omega, by omega⟩
    have b1 : bigOk (z % 2147483549 + 18217) 125 = true := bigOk_of (by omega) (by decide)
    have b2 : bigOk 1303 0 = true := by decide
    have b3 : bigOk 2 0 = true := by decide
    have d1 : Nat.log2 2147483549 < 9000 := by decide
    simp only [List.map_cons] at c1 ⊢
    have lp : ((r.length : Int) + 1 > 0) := by omega
    simp [Mi.run, exSs, exS, evE, evLs, evOpt, evAnd, evOr, evConds, evI, asg, asgs, evPs, setAll, withL, withD, withDs, withB, withI, ofO, ofB, datV, lstV, datL, MV.dat, MV.noOwn, PV.seal, startS, setSlot, callK, permute, seqV, biD, seqOf, isTy, freeze, storeAt, appendTo, extendTo, lstS, iterV, forIV, bopD, cmpD, idxD, sliceD, revD, noOwnIn, wipeS, backS, b10, c1, intsD, hz, b1, b2, b3, L2.atI, L2.ixN, potS, rangeD, size0, lp]
theorem r12 (n : Nat) (A B : Int) (xs : List PyData) (hA : 0 ≤ A) (hB : 0 ≤ B) (hB2 : B < 2147483648) (h0 : xs ≠ []) (h1 : xs.length < 1000) : ∃ x A' B', x ∈ xs ∧ 0 ≤ A' ∧ 0 ≤ B' ∧ B' < 2147483648 ∧ rn (n + 2) 12 [.ref 0, .d (.list xs)] (potS A B) = .ok (.d x) (potS A' B') := by
  have hl : 0 < xs.length := List.length_pos_iff.mpr h0
  obtain ⟨r, A', B', k1, k2, k3, k4, k5, k6⟩ := r11 n A B xs.length hA hB hB2 (by omega) (by omega)
  have hr : r.toNat < xs.length := by omega
  refine ⟨xs[r.toNat], A', B', List.getElem_mem hr, k3, k4, k5, ?_⟩
  rw [u12]
  (conv => lhs; whnf); try dsimp only [PV.seal]
  rw [k6]
  (conv => lhs; whnf); try dsimp only [PV.seal]
  have e : L2.atI xs r = some xs[r.toNat] := by simp [L2.atI, L2.ixN, k1, k2, hr]
  rw [show idxD (.list xs) r = some xs[r.toNat] from e]
  rfl
/-- the loop of _law_drawn -/
def lb13 : List MS := [.set 3 (.bin .add (.const (.int 1)) (.call 11 [(.var 0), (.var 3)] [])), .append (.var 2) (.var 3)]
theorem l13 (n : Nat) (m : Int) (hm : m < 1073741824) (rt : MV → Store → R) (nx k : Sl → Store → R) : ∀ (ls : List Int) (acc : List PyData) (last A B : Int) (s4 : Option SV), 1 ≤ last → last ≤ m → 0 ≤ A → 0 ≤ B → B < 2147483648 → acc.length + ls.length ≤ 100 →
    ∃ (xs : List Int) (last' A' B' : Int) (s4' : Option SV), xs.length = ls.length ∧ (∀ x ∈ xs, 1 ≤ x ∧ x ≤ m) ∧ 0 ≤ A' ∧ 0 ≤ B' ∧ B' < 2147483648 ∧
      forL (fun x μ S k => asg ⟨rn (n + 1), gl⟩ false (.name 4) x μ S fun μ S => exSs ⟨rn (n + 1), gl⟩ lb13 μ S k rt nx k) (ls.map fun i => .d (.int i)) [some (.v (.ref 0)), some (.v (.d (.int m))), some (.own acc), some (.v (.d (.int last))), s4] (potS A B) k =
        k [some (.v (.ref 0)), some (.v (.d (.int m))), some (.own (acc ++ xs.map .int)), some (.v (.d (.int last'))), s4'] (potS A' B')
  | [], acc, last, A, B, s4, h1, h2, hA, hB, hB2, hl => ⟨[], last, A, B, s4, rfl, by simp, hA, hB, hB2, by simp [forL]⟩
  | l :: ls, acc, last, A, B, s4, h1, h2, hA, hB, hB2, hl => by
    have hl : acc.length + (ls.length + 1) ≤ 100 := hl
    obtain ⟨r, A1, B1, k1, k2, k3, k4, k5, k6⟩ := r11 n A B last hA hB hB2 (by omega) (by omega)
    obtain ⟨xs, last', A', B', s4', e1, e2, e3, e4, e5, e6⟩ := l13 n m hm rt nx k ls (acc ++ [.int (1 + r)]) (1 + r) A1 B1 (some (.v (.d (.int l)))) (by omega) (by omega) k3 k4 k5 (by simp; omega)
    refine ⟨(1 + r) :: xs, last', A', B', s4', by simp [e1], fun x hx => ?_, e3, e4, e5, ?_⟩
    · rcases List.mem_cons.mp hx with e | e
      · subst e; omega
      · exact e2 x e
    · have hs : acc.length < size0 := by unfold size0; omega
      rw [List.map_cons, forL]
      (conv => lhs; whnf); try dsimp only [PV.seal]
      rw [k6]
      (conv => lhs; whnf); try dsimp only [PV.seal]
      rw [show acc.length.decLt size0 = isTrue hs from Subsingleton.elim _ _]
      have e7 : acc ++ ((1 + r) :: xs).map PyData.int = acc ++ [.int (1 + r)] ++ xs.map .int := by simp
      rw [e7]
      exact e6
theorem r13 (n : Nat) (m A B : Int) (hm : 1 ≤ m) (hm2 : m < 1073741824) (hA : 0 ≤ A) (hB : 0 ≤ B) (hB2 : B < 2147483648) : ∃ (xs : List Int) (A' B' : Int), xs.length ≤ 6 ∧ (∀ x ∈ xs, 1 ≤ x ∧ x ≤ m) ∧ 0 ≤ A' ∧ 0 ≤ B' ∧ B' < 2147483648 ∧
    rn (n + 2) 13 [.ref 0, .d (.int m)] (potS A B) = .ok (.d (.tuple (xs.map .int))) (potS A' B') := by
  obtain ⟨r, A1, B1, k1, k2, k3, k4, k5, k6⟩ := r11 n A B m hA hB hB2 (by omega) (by omega)
  obtain ⟨q, A2, B2, j1, j2, j3, j4, j5, j6⟩ := r11 n A1 B1 7 k3 k4 k5 (by omega) (by omega)
  rw [u13]
  have hr : rangeD [.int q] = some ((List.range q.toNat).map fun (i : Nat) => (i : Int)) := by simp only [rangeD]; rw [if_pos (by omega)]
  let K : Sl → Store → R := fun μ S => exSs ⟨rn (n + 1), gl⟩ [.ret (.bi .tuple [(.var 2)])] μ S (fun _ S => .ok (.d .none) S) (fun v S => .ok v S) noBr noBr
  obtain ⟨xs, last', A', B', s4', e1, e2, e3, e4, e5, e6⟩ := l13 n m hm2 (fun v S => .ok v S) K K ((List.range q.toNat).map fun (i : Nat) => (i : Int)) [] (1 + r) A2 B2 none (by omega) (by omega) j3 j4 j5 (by simp; omega)
  refine ⟨xs, A', B', by simp at e1; omega, e2, e3, e4, e5, ?_⟩
  (conv => lhs; whnf); try dsimp only [PV.seal]
  rw [k6]
  (conv => lhs; whnf); try dsimp only [PV.seal]
  rw [j6]
  (conv => lhs; whnf); try dsimp only [PV.seal]
  rw [hr]
  exact e6
/-! ### values that are shown -/
theorem decLe_true {a b : Nat} (h : a ≤ b) : Nat.decLe a b = isTrue h := Subsingleton.elim _ _
theorem decLe_false {a b : Nat} (h : ¬ a ≤ b) : Nat.decLe a b = isFalse h := Subsingleton.elim _ _
def okI (x : PyData) : Bool := x.showable && !x.hasDict && decide (x.depth ≤ 2) && x.leavesShort 40 && decide (x.weight ≤ 100)
theorem okI_all : ∀ {xs : List PyData}, xs.all okI = true → PyData.showableAll xs = true ∧ PyData.hasDictAll xs = false ∧ PyData.depthAll xs ≤ 2 ∧ PyData.leavesShortAll 40 xs = true ∧ PyData.weightAll xs ≤ 102 * xs.length
  | [], _ => ⟨rfl, rfl, Nat.zero_le _, rfl, Nat.zero_le _⟩
  | x :: xs, h => by
    rw [List.all_cons, Bool.and_eq_true] at h
    obtain ⟨h0, h⟩ := h
    obtain ⟨h1, h2, h3, h4, h5⟩ := okI_all h
    simp only [okI, Bool.and_eq_true, decide_eq_true_eq, Bool.not_eq_true'] at h0
    obtain ⟨⟨⟨⟨k1, k2⟩, k3⟩, k4⟩, k5⟩ := h0
    refine ⟨by simp [PyData.showableAll, k1, h1], by simp [PyData.hasDictAll, k2, h2], by simp only [PyData.depthAll]; omega, by simp [PyData.leavesShortAll, k4, h4], ?_⟩
    simp only [PyData.weightAll, List.length_cons]
    omega
/-- values that the law meets -/
def GV (w : PyData) : Prop := biD .repr [w] = some (.val (.d (.str w.shown))) ∧ ∀ xs, w = .tuple xs → xs.length ≤ 1000
theorem repr_by {w : PyData} (h1 : w.showable = true) (h2 : w.hasDict = false) (h3 : w.depth ≤ 64) (h4 : w.leavesShort 40 = true) (h5 : w.weight ≤ 200000) : biD .repr [w] = some (.val (.d (.str w.shown))) := by
  have h := PyData.shown_le 40 (by decide) w h4
  have h6 : w.shown.length ≤ size0 := by unfold size0; omega
  exact if_pos (c := w.showable = true ∧ (w.hasDict = false ∨ noKv w = true) ∧ w.depth ≤ 64 ∧ w.shown.length ≤ size0) ⟨h1, .inl h2, h3, h6⟩
theorem gv_tup {xs : List PyData} (h : xs.all okI = true) (hl : xs.length ≤ 1000) : GV (.tuple xs) := by
  obtain ⟨h1, h2, h3, h4, h5⟩ := okI_all h
  refine ⟨repr_by (by simpa [PyData.showable] using h1) (by simpa [PyData.hasDict] using h2) (by simp only [PyData.depth]; omega) (by simpa [PyData.leavesShort] using h4) (by simp only [PyData.weight]; omega), fun ys e => by cases e; exact hl⟩
theorem gv_lst {xs : List PyData} (h : xs.all okI = true) (hl : xs.length ≤ 1000) : GV (.list xs) := by
  obtain ⟨h1, h2, h3, h4, h5⟩ := okI_all h
  exact ⟨repr_by (by simpa [PyData.showable] using h1) (by simpa [PyData.hasDict] using h2) (by simp only [PyData.depth]; omega) (by simpa [PyData.leavesShort] using h4) (by simp only [PyData.weight]; omega), fun ys e => by cases e⟩
theorem okI_int {i : Int} (h : i.natAbs < 2 ^ 80) : okI (.int i) = true := by
  have e1 : i.natAbs.log2 < 80 := by
    by_cases h0 : i.natAbs = 0
    · rw [h0]; decide
    · exact (Nat.log2_lt h0).mpr h
  have e2 : (Str.ofString (toString i)).length ≤ 40 := by
    have : (toString i).length ≤ 25 + 1 := int_text_length_le10 (by decide) (Nat.lt_of_lt_of_le h (by decide))
    rw [ofString_length]
    omega
  simp only [okI, Bool.and_eq_true, decide_eq_true_eq, Bool.not_eq_true']
  refine ⟨⟨⟨⟨by simp only [PyData.showable, decide_eq_true_eq]; omega, rfl⟩, Nat.zero_le _⟩, ?_⟩, ?_⟩
  · simp only [PyData.leavesShort, decide_eq_true_eq]
    exact e2
  · simp only [PyData.weight]
    split <;> omega
theorem okI_cut {xs : List PyData} (h : xs.all okI = true) (lo hi : Option Int) : (cutL xs lo hi).all okI = true := List.all_eq_true.mpr fun x hx => List.all_eq_true.mp h x (cut_mem hx)
theorem sum_cut (ns : List Int) : biD .sum [PyData.tuple (cutL (ns.map PyData.int) (some 1) none)] = some (.val (.d (.int (ns.drop 1).sum))) := by
  rw [cut1]
  simp only [biD, seqOf, Option.bind_some, intsD_map, Option.map_some]
theorem sum_bound : ∀ {ns : List Int}, (∀ x ∈ ns, 1 ≤ x ∧ x ≤ 60) → 0 ≤ ns.sum ∧ ns.sum ≤ 60 * ns.length
  | [], _ => by simp
  | n :: ns, h => by
    have h1 := h n List.mem_cons_self
    have h2 := sum_bound (ns := ns) fun x hx => h x (List.mem_cons_of_mem _ hx)
    rw [List.sum_cons, List.length_cons]
    omega
theorem r16 (n : Nat) (A B : Int) (ns : List Int) (hn : ∀ x ∈ ns, 1 ≤ x ∧ x ≤ 60) (hl : ns.length ≤ 6) (hA : 0 ≤ A) (hB : 0 ≤ B) (hB2 : B < 2147483648) : ∃ w A' B', GV w ∧ 0 ≤ A' ∧ 0 ≤ B' ∧ B' < 2147483648 ∧
    rn (n + 3) 16 [.ref 0, .d (.tuple (ns.map .int))] (potS A B) = .ok (.d w) (potS A' B') := by
  obtain ⟨r, A1, B1, k1, k2, k3, k4, k5, k6⟩ := r11 (n + 1) A B 60 hA hB hB2 (by omega) (by omega)
  obtain ⟨q, A2, B2, j1, j2, j3, j4, j5, j6⟩ := r11 (n + 1) A1 B1 9 k3 k4 k5 (by omega) (by omega)
  have hx : (ns.map PyData.int).all okI = true := by
    rw [List.all_eq_true]
    intro x hx
    obtain ⟨m, hm, rfl⟩ := List.mem_map.mp hx
    exact okI_int (by have := hn m hm; omega)
  have hc := okI_cut hx
  have cl : ∀ lo hi, (cutL (ns.map PyData.int) lo hi).length ≤ 6 := fun lo hi => Nat.le_trans (cut_len _ _ _) (by simpa using hl)
  have hs := sum_bound (ns := ns.drop 1) fun x hx => hn x (List.mem_of_mem_drop hx)
  have hs2 : (ns.drop 1).length ≤ 6 := by simp; omega
  rw [u16]
  have hq : q = 0 ∨ q = 1 ∨ q = 2 ∨ q = 3 ∨ q = 4 ∨ q = 5 ∨ q = 6 ∨ q = 7 ∨ q = 8 := by omega
  generalize ht : r % (if (ns.length : Int) > 1 then (ns.length : Int) else 1) = t
  have two : ∀ {a b : List PyData}, a.length ≤ 20 → b.length ≤ 20 → bopD .add (.tuple a) (.tuple b) = some (.val (.d (.tuple (a ++ b)))) := fun {a b} h1 h2 => if_pos (c := a.length + b.length ≤ size0) (by unfold size0; omega)
  have pos1 : 0 < (if (ns.length : Int) > 1 then (ns.length : Int) else 1) := by split <;> omega
  have start : ∀ w A' B', (exSs ⟨rn (n + 2), gl⟩ (b16.drop 1) [some (.v (.ref 0)), some (.v (.d (.tuple (ns.map .int)))), some (.v (.d (.int t))), some (.v (.d (.int q)))] (potS A2 B2) (fun _ S => .ok (.d .none) S) (fun v S => .ok v S) noBr noBr = .ok (.d w) (potS A' B')) →
      exSs ⟨rn (n + 2), gl⟩ b16 [some (.v (.ref 0)), some (.v (.d (.tuple (ns.map .int)))), none, none] (potS A B) (fun _ S => .ok (.d .none) S) (fun v S => .ok v S) noBr noBr = .ok (.d w) (potS A' B') := fun w A' B' h => by
    (conv => lhs; whnf); try dsimp only [PV.seal]
    rw [k6]
    (conv => lhs; whnf); try dsimp only [PV.seal]
    have e : bopD BOp.mod (PyData.int r) (PyData.int (if ((ns.map PyData.int).length : Int) > 1 then ((ns.map PyData.int).length : Int) else 1)) = some (.val (.d (.int t))) := by
      rw [List.length_map]
      simp only [bopD]
      rw [if_pos pos1, ht]
    rw [e]
    (conv => lhs; whnf); try dsimp only [PV.seal]
    rw [j6]
    exact h
  have t0 : 0 ≤ t := by rw [← ht]; exact Int.emod_nonneg _ (by omega)
  rcases hq with rfl | rfl | rfl | rfl | rfl | rfl | rfl | rfl | rfl
  · exact ⟨.list (ns.map .int), A2, B2, gv_lst hx (by simp; omega), j3, j4, j5, start _ _ _ rfl⟩
  · exact ⟨.tuple (ns.map .int).reverse, A2, B2, gv_tup (by simpa using hx) (by simp; omega), j3, j4, j5, start _ _ _ rfl⟩
  · refine ⟨.tuple (cutL (ns.map .int) none (some t) ++ [.int 0] ++ cutL (ns.map .int) (some t) none), A2, B2, gv_tup (by simp [hc]; decide) (by have := cl none (some t); have := cl (some t) none; simp; omega), j3, j4, j5, start _ _ _ ?_⟩
    (conv => lhs; whnf); try dsimp only [PV.seal]
    rw [two (by have := cl none (some t); have := cl (some t) none; have := cl (some (t + 1)) none; have := cl (some t) (some (t + 1)); have := cl (some 1) none; first | (simp; omega) | simp) (by have := cl none (some t); have := cl (some t) none; have := cl (some (t + 1)) none; have := cl (some t) (some (t + 1)); have := cl (some 1) none; first | (simp; omega) | simp)]
    (conv => lhs; whnf); try dsimp only [PV.seal]
    rw [two (by have := cl none (some t); have := cl (some t) none; have := cl (some (t + 1)) none; have := cl (some t) (some (t + 1)); have := cl (some 1) none; first | (simp; omega) | simp) (by have := cl none (some t); have := cl (some t) none; have := cl (some (t + 1)) none; have := cl (some t) (some (t + 1)); have := cl (some 1) none; first | (simp; omega) | simp)]
    rfl
  · refine ⟨.tuple (cutL (ns.map .int) none (some t) ++ [.bool true] ++ cutL (ns.map .int) (some (t + 1)) none), A2, B2, gv_tup (by simp [hc]; decide) (by have := cl none (some t); have := cl (some t) none; have := cl (some (t + 1)) none; have := cl (some t) (some (t + 1)); have := cl (some 1) none; first | (simp; omega) | simp), j3, j4, j5, start _ _ _ ?_⟩
    (conv => lhs; whnf); try dsimp only [PV.seal]
    rw [two (by have := cl none (some t); have := cl (some t) none; have := cl (some (t + 1)) none; have := cl (some t) (some (t + 1)); have := cl (some 1) none; first | (simp; omega) | simp) (by have := cl none (some t); have := cl (some t) none; have := cl (some (t + 1)) none; have := cl (some t) (some (t + 1)); have := cl (some 1) none; first | (simp; omega) | simp)]
    (conv => lhs; whnf); try dsimp only [PV.seal]
    rw [two (by have := cl none (some t); have := cl (some t) none; have := cl (some (t + 1)) none; have := cl (some t) (some (t + 1)); have := cl (some 1) none; first | (simp; omega) | simp) (by have := cl none (some t); have := cl (some t) none; have := cl (some (t + 1)) none; have := cl (some t) (some (t + 1)); have := cl (some 1) none; first | (simp; omega) | simp)]
    rfl
  · refine ⟨.tuple (cutL (ns.map .int) none (some t) ++ cutL (ns.map .int) (some t) (some (t + 1)) ++ cutL (ns.map .int) (some t) none), A2, B2, gv_tup (by simp [hc]) (by have := cl none (some t); have := cl (some t) none; have := cl (some (t + 1)) none; have := cl (some t) (some (t + 1)); have := cl (some 1) none; first | (simp; omega) | simp), j3, j4, j5, start _ _ _ ?_⟩
    (conv => lhs; whnf); try dsimp only [PV.seal]
    rw [two (by have := cl none (some t); have := cl (some t) none; have := cl (some (t + 1)) none; have := cl (some t) (some (t + 1)); have := cl (some 1) none; first | (simp; omega) | simp) (by have := cl none (some t); have := cl (some t) none; have := cl (some (t + 1)) none; have := cl (some t) (some (t + 1)); have := cl (some 1) none; first | (simp; omega) | simp)]
    (conv => lhs; whnf); try dsimp only [PV.seal]
    rw [two (by have := cl none (some t); have := cl (some t) none; have := cl (some (t + 1)) none; have := cl (some t) (some (t + 1)); have := cl (some 1) none; first | (simp; omega) | simp) (by have := cl none (some t); have := cl (some t) none; have := cl (some (t + 1)) none; have := cl (some t) (some (t + 1)); have := cl (some 1) none; first | (simp; omega) | simp)]
    rfl
  · refine ⟨.tuple ([.int (400 - (ns.drop 1).sum)] ++ cutL (ns.map .int) (some 1) none), A2, B2, gv_tup (by simp [hc]; exact okI_int (by simp at hs hs2; omega)) (by have := cl none (some t); have := cl (some t) none; have := cl (some (t + 1)) none; have := cl (some t) (some (t + 1)); have := cl (some 1) none; first | (simp; omega) | simp), j3, j4, j5, start _ _ _ ?_⟩
    (conv => lhs; whnf); try dsimp only [PV.seal]
    rw [show biD .sum [PyData.tuple (cutL (ns.map PyData.int) (some 1) none)].reverse = some (.val (.d (.int (ns.drop 1).sum))) from sum_cut ns]
    (conv => lhs; whnf); try dsimp only [PV.seal]
    rw [two (by have := cl none (some t); have := cl (some t) none; have := cl (some (t + 1)) none; have := cl (some t) (some (t + 1)); have := cl (some 1) none; first | (simp; omega) | simp) (by have := cl none (some t); have := cl (some t) none; have := cl (some (t + 1)) none; have := cl (some t) (some (t + 1)); have := cl (some 1) none; first | (simp; omega) | simp)]
    rfl
  · refine ⟨.tuple ([.int (401 - (ns.drop 1).sum)] ++ cutL (ns.map .int) (some 1) none), A2, B2, gv_tup (by simp [hc]; exact okI_int (by simp at hs hs2; omega)) (by have := cl none (some t); have := cl (some t) none; have := cl (some (t + 1)) none; have := cl (some t) (some (t + 1)); have := cl (some 1) none; first | (simp; omega) | simp), j3, j4, j5, start _ _ _ ?_⟩
    (conv => lhs; whnf); try dsimp only [PV.seal]
    rw [show biD .sum [PyData.tuple (cutL (ns.map PyData.int) (some 1) none)].reverse = some (.val (.d (.int (ns.drop 1).sum))) from sum_cut ns]
    (conv => lhs; whnf); try dsimp only [PV.seal]
    rw [two (by have := cl none (some t); have := cl (some t) none; have := cl (some (t + 1)) none; have := cl (some t) (some (t + 1)); have := cl (some 1) none; first | (simp; omega) | simp) (by have := cl none (some t); have := cl (some t) none; have := cl (some (t + 1)) none; have := cl (some t) (some (t + 1)); have := cl (some 1) none; first | (simp; omega) | simp)]
    rfl
  · obtain ⟨x, A3, B3, m1, m2, m3, m4, m5⟩ := r12 n A2 B2 [.tuple [.none], .tuple [.str "1"], .tuple [.tuple [.int 1]], .tuple [.int (-1)], .tuple [.int (10 ^ (20 : Int).toNat)]] j3 j4 j5 (by simp) (by simp)
    have hxx : ∃ y, x = .tuple [y] ∧ okI y = true := by
      simp only [List.mem_cons, List.not_mem_nil, or_false] at m1
      rcases m1 with rfl | rfl | rfl | rfl | rfl <;> exact ⟨_, rfl, by decide⟩
    obtain ⟨y, rfl, hy⟩ := hxx
    refine ⟨.tuple (cutL (ns.map .int) none (some t) ++ [y] ++ cutL (ns.map .int) (some (t + 1)) none), A3, B3, gv_tup (by simp [hc, hy]) (by have := cl none (some t); have := cl (some (t + 1)) none; simp; omega), m2, m3, m4, start _ _ _ ?_⟩
    (conv => lhs; whnf); try dsimp only [PV.seal]
    rw [m5]
    (conv => lhs; whnf); try dsimp only [PV.seal]
    rw [two (by have := cl none (some t); have := cl (some t) none; have := cl (some (t + 1)) none; have := cl (some t) (some (t + 1)); have := cl (some 1) none; first | (simp; omega) | simp) (by have := cl none (some t); have := cl (some t) none; have := cl (some (t + 1)) none; have := cl (some t) (some (t + 1)); have := cl (some 1) none; first | (simp; omega) | simp)]
    (conv => lhs; whnf); try dsimp only [PV.seal]
    rw [two (by have := cl none (some t); have := cl (some t) none; have := cl (some (t + 1)) none; have := cl (some t) (some (t + 1)); have := cl (some 1) none; first | (simp; omega) | simp) (by have := cl none (some t); have := cl (some t) none; have := cl (some (t + 1)) none; have := cl (some t) (some (t + 1)); have := cl (some 1) none; first | (simp; omega) | simp)]
    rfl
  · refine ⟨.tuple (cutL (ns.map .int) none (some t) ++ cutL (ns.map .int) (some (t + 1)) none), A2, B2, gv_tup (by simp [hc]) (by have := cl none (some t); have := cl (some t) none; have := cl (some (t + 1)) none; have := cl (some t) (some (t + 1)); have := cl (some 1) none; first | (simp; omega) | simp), j3, j4, j5, start _ _ _ ?_⟩
    (conv => lhs; whnf); try dsimp only [PV.seal]
    rw [two (by have := cl none (some t); have := cl (some t) none; have := cl (some (t + 1)) none; have := cl (some t) (some (t + 1)); have := cl (some 1) none; first | (simp; omega) | simp) (by have := cl none (some t); have := cl (some t) none; have := cl (some (t + 1)) none; have := cl (some t) (some (t + 1)); have := cl (some 1) none; first | (simp; omega) | simp)]
    rfl
end Lw

set_option maxHeartbeats 4000000
namespace Lw
open PySem Mi
/-! ### few by a number: counts and far places of falling rows -/
theorem front {a : Int} : ∀ {r : List Int} (m : Nat), r.Pairwise (fun a b => b ≤ a) → (∀ x ∈ r, x ≤ a) → (r[m]? = some a ↔ m < r.count a)
  | [], m, _, _ => by simp
  | b :: s, m, hp, hb => by
    obtain ⟨h1, h2⟩ := List.pairwise_cons.mp hp
    by_cases e : b = a
    · subst e
      cases m with
      | zero => simp
      | succ m =>
        have := front m h2 (fun x hx => hb x (List.mem_cons_of_mem _ hx))
        rw [List.getElem?_cons_succ, this, List.count_cons_self]
        omega
    · have hba : b < a := by have := hb b List.mem_cons_self; omega
      have hs : ∀ x ∈ b :: s, x < a := fun x hx => by
        rcases List.mem_cons.mp hx with q | q
        · omega
        · have := h1 x q; omega
      have c0 : (b :: s).count a = 0 := List.count_eq_zero.mpr fun hm => by have := hs a hm; omega
      rw [c0]
      constructor
      · intro q
        have := hs a (List.mem_of_getElem? q)
        omega
      · intro q; omega
theorem few_count (j : Nat) (hj : 1 ≤ j) : ∀ {ns : List Int}, ns.Pairwise (fun a b => b ≤ a) → (zipD (ns.map .int) ((ns.drop j).map .int)).all neP = ns.all fun x => decide (ns.count x ≤ j)
  | [], _ => rfl
  | a :: r, hp => by
    obtain ⟨h1, h2⟩ := List.pairwise_cons.mp hp
    obtain ⟨i, rfl⟩ : ∃ i, j = i + 1 := ⟨j - 1, by omega⟩
    have ih := few_count (i + 1) hj h2
    have hf := front i h2 h1
    have e1 : (zipD ((a :: r).map .int) (((a :: r).drop (i + 1)).map .int)).all neP = (decide (r.count a ≤ i) && (zipD (r.map .int) ((r.drop (i + 1)).map .int)).all neP) := by
      rw [List.drop_succ_cons]
      cases hd : r.drop i with
      | nil =>
        have hl : r.length ≤ i := List.drop_eq_nil_iff.mp hd
        have hd2 : r.drop (i + 1) = [] := List.drop_eq_nil_iff.mpr (by omega)
        rw [hd2]
        have : r.count a ≤ i := Nat.le_trans List.count_le_length hl
        simp [zipD, this]
      | cons b s =>
        have hb : r[i]? = some b := by
          have := congrArg List.head? hd
          rw [List.head?_drop] at this
          simpa using this
        have hd2 : r.drop (i + 1) = s := by
          have := congrArg List.tail hd
          rw [List.tail_drop] at this
          simpa using this
        rw [hd2]
        have e : (!(a == b)) = decide (r.count a ≤ i) := by
          rw [hb] at hf
          by_cases q : a = b
          · subst q
            have := hf.mp rfl
            rw [decide_eq_false (by omega), beq_self_eq_true]
            rfl
          · have : ¬ i < r.count a := fun z => q (Option.some.inj (hf.mpr z)).symm
            rw [decide_eq_true (by omega), beq_eq_false_iff_ne.mpr q]
            rfl
        simp only [List.map_cons, zipD, List.zip_cons_cons, List.all_cons, neP, e]
    rw [e1, ih, Bool.eq_iff_iff]
    simp only [Bool.and_eq_true, decide_eq_true_eq, List.all_eq_true]
    constructor
    · rintro ⟨q1, q2⟩ x hx
      by_cases e : x = a
      · subst e; rw [List.count_cons_self]; omega
      · have hx' : x ∈ r := by
          rcases List.mem_cons.mp hx with z | z
          · exact absurd z e
          · exact z
        rw [List.count_cons_of_ne (Ne.symm e)]
        exact q2 x hx'
    · intro q
      have qa := q a List.mem_cons_self
      rw [List.count_cons_self] at qa
      refine ⟨by omega, fun x hx => ?_⟩
      have := q x (List.mem_cons_of_mem _ hx)
      exact Nat.le_trans (List.count_le_count_cons ..) this
def ltC (k : Int) (ns : List Int) : PyData → Bool
  | .int m => decide ((ns.count m : Int) < k)
  | _ => false
theorem few_eq (k : Int) (hk : 2 ≤ k) (ns : List Int) (hd : desc ns = true) : fewN k ns = ns.all fun m => ltC k ns (.int m) := by
  unfold fewN
  rw [few_count (k - 1).toNat (by omega) (desc_pw.mp hd)]
  congr 1
  funext x
  simp only [ltC]
  by_cases h : (ns.count x : Int) < k
  · rw [decide_eq_true h, decide_eq_true (by omega)]
  · rw [decide_eq_false h, decide_eq_false (by omega)]
def gtP (k : Int) : PyData → Bool
  | .int m => decide (m % k > 0)
  | _ => false
theorem free_eq (k : Int) (hk : 2 ≤ k) (ns : List Int) : freeN k ns = ns.all fun m => gtP k (.int m) := by
  unfold freeN
  congr 1
  funext x
  simp only [gtP]
  have h := Int.emod_nonneg x (b := k) (by omega)
  by_cases h0 : x % k = 0
  · simp [h0]
  · have : x % k > 0 := by omega
    simp [h0, this]
theorem countP_int (m : Int) : ∀ ns : List Int, (ns.map PyData.int).countP (fun z => PyData.eqv z (.int m)) = ns.count m
  | [] => rfl
  | n :: ns => by
    rw [List.map_cons, List.countP_cons, countP_int m ns, List.count_cons]
    rfl
theorem ne_self (x : Str) : cmpD .ne (.str x) (.str x) = some false := by simp [cmpD, PyData.plain, smallD, PyData.depth, PyData.eqv]
theorem nes (s : Str) : instDecidableEqBool (!(PyData.str s).eqv (.str s)) true = isFalse (by simp [PyData.eqv]) := Subsingleton.elim _ _
theorem iltT {a b : Int} (h : a < b) : Int.decLt a b = isTrue h := Subsingleton.elim _ _
theorem iltF {a b : Int} (h : ¬ a < b) : Int.decLt a b = isFalse h := Subsingleton.elim _ _
theorem gvr {w : PyData} (g : GV w) : biD .repr [w].reverse = some (.val (.d (.str w.shown))) := g.1
theorem repr_two (a b : Bool) : biD .repr [PyData.list [.bool a, .bool b]].reverse = some (.val (.d (.str (PyData.list [.bool a, .bool b]).shown))) := (gv_lst (xs := [.bool a, .bool b]) (by cases a <;> cases b <;> decide) (by simp)).1
/-! ### _law_right -/
abbrev G17 (n : Nat) : Ga := ⟨rn n, gl⟩
def lb17a : List MS := [.set 3 (.call 13 [(.var 0), (.const (.int 60))] []),
      .extend (.var 1) (.list [(.var 3), (.call 16 [(.var 0), (.var 3)] []), (.call 16 [(.var 0), (.var 3)] [])])]
theorem l17a (n : Nat) (rt : MV → Store → R) (nx k : Sl → Store → R) : ∀ (ls : List Int) (acc : List PyData) (A B : Int) (s2 s3 : Option SV), (∀ x ∈ acc, GV x) → 0 ≤ A → 0 ≤ B → B < 2147483648 → acc.length + 3 * ls.length ≤ 100 →
    ∃ (acc' : List PyData) (A' B' : Int) (s2' s3' : Option SV), (∀ x ∈ acc', GV x) ∧ 0 ≤ A' ∧ 0 ≤ B' ∧ B' < 2147483648 ∧
      forL (fun x μ S k => asg (G17 (n + 3)) false (.name 2) x μ S fun μ S => exSs (G17 (n + 3)) lb17a μ S k rt nx k) (ls.map fun i => .d (.int i)) [some (.v (.ref 0)), some (.own acc), s2, s3, none, none, none, none, none, none, none] (potS A B) k =
        k [some (.v (.ref 0)), some (.own acc'), s2', s3', none, none, none, none, none, none, none] (potS A' B')
  | [], acc, A, B, s2, s3, h, hA, hB, hB2, hl => ⟨acc, A, B, s2, s3, h, hA, hB, hB2, by simp [forL]⟩
  | l :: ls, acc, A, B, s2, s3, h, hA, hB, hB2, hl => by
    have hl : acc.length + 3 * (ls.length + 1) ≤ 100 := hl
    obtain ⟨xs, A1, B1, k1, k2, k3, k4, k5, k6⟩ := r13 (n + 1) 60 A B (by omega) (by omega) hA hB hB2
    obtain ⟨w1, A2, B2, g1, j3, j4, j5, j6⟩ := r16 n A1 B1 xs k2 k1 k3 k4 k5
    obtain ⟨w2, A3, B3, g2, i3, i4, i5, i6⟩ := r16 n A2 B2 xs k2 k1 j3 j4 j5
    have g0 : GV (.tuple (xs.map .int)) := gv_tup (by
      rw [List.all_eq_true]
      intro x hx
      obtain ⟨m, hm, rfl⟩ := List.mem_map.mp hx
      exact okI_int (by have := k2 m hm; omega)) (by simp; omega)
    obtain ⟨acc', A', B', s2', s3', e1, e2, e3, e4, e5⟩ := l17a n rt nx k ls (acc ++ [.tuple (xs.map .int), w1, w2]) A3 B3 (some (.v (.d (.int l)))) (some (.v (.d (.tuple (xs.map .int))))) (fun x hx => by
      rcases List.mem_append.mp hx with q | q
      · exact h x q
      · simp only [List.mem_cons, List.not_mem_nil, or_false] at q
        rcases q with rfl | rfl | rfl <;> assumption) i3 i4 i5 (by simp; omega)
    refine ⟨acc', A', B', s2', s3', e1, e2, e3, e4, ?_⟩
    rw [List.map_cons, forL]
    (conv => lhs; whnf); try dsimp only [PV.seal]
    rw [k6]
    (conv => lhs; whnf); try dsimp only [PV.seal]
    rw [j6]
    (conv => lhs; whnf); try dsimp only [PV.seal]
    rw [i6]
    (conv => lhs; whnf); try dsimp only [PV.seal]
    rw [decLe_true (show acc.length + [PyData.tuple (xs.map .int), w1, w2].length ≤ size0 by simp [size0]; omega)]
    exact e5
def lb17b : List MS := match b17 with
  | [_, _, .for _ _ b, _] => b
  | _ => []
theorem l17b (n : Nat) (rt : MV → Store → R) (nx : Sl → Store → R) (s1 : Option SV) : ∀ (vs : List PyData) (A B : Int) (s2 s3 s4 s5 s6 s7 s8 s10 : Option SV), (∀ x ∈ vs, GV x) → 0 ≤ A → 0 ≤ B → B < 2147483648 →
    ∃ (A' B' : Int), forL (fun x μ S k => asg (G17 (n + 4)) false (.name 4) x μ S fun μ S => exSs (G17 (n + 4)) lb17b μ S k rt nx k) (vs.map .d) [some (.v (.ref 0)), s1, s2, s3, s4, s5, s6, s7, s8, none, s10] (potS A B) (fun _ S => .ok (.d (.bool true)) S) = .ok (.d (.bool true)) (potS A' B')
  | [], A, B, s2, s3, s4, s5, s6, s7, s8, s10, h, hA, hB, hB2 => ⟨A, B, by simp [forL]⟩
  | v :: vs, A, B, s2, s3, s4, s5, s6, s7, s8, s10, h, hA, hB, hB2 => by
    have gv := h v List.mem_cons_self
    have hl : ∀ xs, v = .tuple xs → xs.length ≤ size0 := fun xs e => by have := gv.2 xs e; unfold size0; omega
    obtain ⟨r, A1, B1, k1, k2, k3, k4, k5, k6⟩ := r11 (n + 3) A B 11 hA hB hB2 (by omega) (by omega)
    have key : ∃ t4 t5 t6 t7 t8 t10, forL (fun x μ S k => asg (G17 (n + 4)) false (.name 4) x μ S fun μ S => exSs (G17 (n + 4)) lb17b μ S k rt nx k) ((v :: vs).map .d) [some (.v (.ref 0)), s1, s2, s3, s4, s5, s6, s7, s8, none, s10] (potS A B) (fun _ S => .ok (.d (.bool true)) S) =
        forL (fun x μ S k => asg (G17 (n + 4)) false (.name 4) x μ S fun μ S => exSs (G17 (n + 4)) lb17b μ S k rt nx k) (vs.map .d) [some (.v (.ref 0)), s1, s2, s3, t4, t5, t6, t7, t8, none, t10] (potS A1 B1) (fun _ S => .ok (.d (.bool true)) S) := by
      rw [List.map_cons, forL]
      cases hp : areP v with
      | false =>
        refine ⟨some (.v (.d v)), some (.v (.d (.str v.shown))), some (.v (.d (.bool false))), some (.v (.d (.int (2 + r)))), s8, s10, ?_⟩
        (conv => lhs; whnf); try dsimp only [PV.seal]
        rw [gvr gv]
        (conv => lhs; whnf); try dsimp only [PV.seal]
        rw [r15 (n + 2) v _ hl, hp]
        (conv => lhs; whnf); try dsimp only [PV.seal]
        rw [r7 (n + 1) v _ hl, hp]
        (conv => lhs; whnf); try dsimp only [PV.seal]
        rw [r7 (n + 1) v _ hl, hp]
        (conv => lhs; whnf); try dsimp only [PV.seal]
        rw [gvr gv]
        (conv => lhs; whnf); try dsimp only [PV.seal]
        rw [nes]
        (conv => lhs; whnf); try dsimp only [PV.seal]
        rw [k6]
        rfl
      | true =>
        obtain ⟨ms, rfl, hd⟩ : ∃ ms : List Int, v = .tuple (ms.map .int) ∧ desc ms = true := by
          cases v with
          | tuple xs =>
            simp only [areP, Bool.and_eq_true] at hp
            obtain ⟨ms, rfl, _⟩ := posI_ints hp.1
            have h2 := hp.2
            rw [intsD_map] at h2
            simp only [areN, Option.getD_some, Bool.and_eq_true] at h2
            exact ⟨ms, rfl, h2.1⟩
          | _ => simp [areP] at hp
        have hml : ms.length ≤ size0 := by simpa using hl _ rfl
        have hlen : (ms.map PyData.int).length = ms.length := List.length_map _
        by_cases h60 : ((ms.map PyData.int).length : Int) < 60
        · refine ⟨some (.v (.d (.tuple (ms.map .int)))), some (.v (.d (.str (PyData.tuple (ms.map .int)).shown))), some (.v (.d (.bool true))), some (.v (.d (.int (2 + r)))), some (.v (.d (.bool (freeN (2 + r) ms)))), some (.v (.d (.bool (fewN (2 + r) ms)))), ?_⟩
          (conv => lhs; whnf); try dsimp only [PV.seal]
          rw [gvr gv]
          (conv => lhs; whnf); try dsimp only [PV.seal]
          rw [r15 (n + 2) _ _ hl, hp]
          (conv => lhs; whnf); try dsimp only [PV.seal]
          rw [r7 (n + 1) _ _ hl, hp]
          (conv => lhs; whnf); try dsimp only [PV.seal]
          rw [r7 (n + 1) _ _ hl, hp]
          (conv => lhs; whnf); try dsimp only [PV.seal]
          rw [gvr gv]
          (conv => lhs; whnf); try dsimp only [PV.seal]
          rw [nes]
          (conv => lhs; whnf); try dsimp only [PV.seal]
          rw [k6]
          (conv => lhs; whnf); try dsimp only [PV.seal]
          rw [iltT h60]
          (conv => lhs; whnf); try dsimp only [PV.seal]
          have hr0 : 0 < 2 + r := by omega
          rw [compL_map (fun x => .bool (gtP (2 + r) x)) (fun x hx q => by obtain ⟨m, _, rfl⟩ := List.mem_map.mp hx; simp [Mi.run, exSs, exS, evE, evLs, evOpt, evAnd, evOr, evConds, evI, asg, asgs, evPs, setAll, withL, withD, withDs, withB, withI, ofO, ofB, datV, lstV, datL, MV.dat, MV.noOwn, PV.seal, startS, setSlot, callK, permute, seqV, biD, seqOf, isTy, freeze, storeAt, appendTo, extendTo, lstS, iterV, forIV, bopD, cmpD, idxD, sliceD, revD, noOwnIn, wipeS, backS, gtP, hr0]) (by simpa using hml)]
          (conv => lhs; whnf); try dsimp only [PV.seal]
          rw [map_all, ← free_eq (2 + r) (by omega)]
          (conv => lhs; whnf); try dsimp only [PV.seal]
          rw [compL_map (fun x => .bool (ltC (2 + r) ms x)) (fun x hx q => by obtain ⟨m, _, rfl⟩ := List.mem_map.mp hx; simp [Mi.run, exSs, exS, evE, evLs, evOpt, evAnd, evOr, evConds, evI, asg, asgs, evPs, setAll, withL, withD, withDs, withB, withI, ofO, ofB, datV, lstV, datL, MV.dat, MV.noOwn, PV.seal, startS, setSlot, callK, permute, seqV, biD, seqOf, isTy, freeze, storeAt, appendTo, extendTo, lstS, iterV, forIV, bopD, cmpD, idxD, sliceD, revD, noOwnIn, wipeS, backS, ltC, mmD, plain_ints, PyData.plain, PyData.depth]; rw [← List.countP_map, countP_int]) (by simpa using hml)]
          (conv => lhs; whnf); try dsimp only [PV.seal]
          rw [map_all, ← few_eq (2 + r) (by omega) ms hd]
          (conv => lhs; whnf); try dsimp only [PV.seal]
          rw [r8 n (2 + r) ms _ (by omega) (by omega) hml hp]
          (conv => lhs; whnf); try dsimp only [PV.seal]
          rw [r9 n (2 + r) ms _ (by omega) (by omega) hml hp]
          (conv => lhs; whnf); try dsimp only [PV.seal]
          rw [repr_two]
          (conv => lhs; whnf); try dsimp only [PV.seal]
          rw [repr_two]
          (conv => lhs; whnf); try dsimp only [PV.seal]
          rw [nes]
          rfl
        · refine ⟨some (.v (.d (.tuple (ms.map .int)))), some (.v (.d (.str (PyData.tuple (ms.map .int)).shown))), some (.v (.d (.bool true))), some (.v (.d (.int (2 + r)))), s8, s10, ?_⟩
          (conv => lhs; whnf); try dsimp only [PV.seal]
          rw [gvr gv]
          (conv => lhs; whnf); try dsimp only [PV.seal]
          rw [r15 (n + 2) _ _ hl, hp]
          (conv => lhs; whnf); try dsimp only [PV.seal]
          rw [r7 (n + 1) _ _ hl, hp]
          (conv => lhs; whnf); try dsimp only [PV.seal]
          rw [r7 (n + 1) _ _ hl, hp]
          (conv => lhs; whnf); try dsimp only [PV.seal]
          rw [gvr gv]
          (conv => lhs; whnf); try dsimp only [PV.seal]
          rw [nes]
          (conv => lhs; whnf); try dsimp only [PV.seal]
          rw [k6]
          (conv => lhs; whnf); try dsimp only [PV.seal]
          rw [iltF h60]
          rfl
    obtain ⟨t4, t5, t6, t7, t8, t10, key⟩ := key
    obtain ⟨A', B', e⟩ := l17b n rt nx s1 vs A1 B1 s2 s3 t4 t5 t6 t7 t8 t10 (fun x hx => h x (List.mem_cons_of_mem _ hx)) k3 k4 k5
    exact ⟨A', B', key.trans e⟩
def vals17 : List PyData := [.tuple [], .tuple (List.replicate 400 [PyData.int 1]).flatten, .tuple (List.replicate 401 [PyData.int 1]).flatten, .none, .bool true, .int 0, .int 5, .str "321", .list [], .dict [], .tuple [.tuple []]]
theorem gv_ones (k : Nat) (h : k ≤ 1000) : GV (.tuple (List.replicate k [PyData.int 1]).flatten) := by
  have e : (List.replicate k [PyData.int 1]).flatten = List.replicate k (.int 1) := by
    clear h
    induction k with
    | zero => rfl
    | succ k ih => rw [List.replicate_succ, List.flatten_cons, ih]; rfl
  rw [e]
  refine gv_tup ?_ (by simpa using h)
  rw [List.all_eq_true]
  intro x hx
  rw [List.eq_of_mem_replicate hx]
  exact okI_int (by decide)
theorem gv_vals : ∀ x ∈ vals17, GV x := by
  intro x hx
  simp only [vals17, List.mem_cons, List.not_mem_nil, or_false] at hx
  rcases hx with rfl | rfl | rfl | rfl | rfl | rfl | rfl | rfl | rfl | rfl | rfl
  · exact gv_tup rfl (by decide)
  · exact gv_ones 400 (by decide)
  · exact gv_ones 401 (by decide)
  · exact ⟨repr_by rfl rfl (by decide) rfl (by decide), fun xs e => nomatch e⟩
  · exact ⟨repr_by rfl rfl (by decide) rfl (by decide), fun xs e => nomatch e⟩
  · exact ⟨repr_by rfl rfl (by decide) (by decide) (by decide), fun xs e => nomatch e⟩
  · exact ⟨repr_by rfl rfl (by decide) (by decide) (by decide), fun xs e => nomatch e⟩
  · exact ⟨repr_by rfl rfl (by decide) (by decide) (by decide), fun xs e => nomatch e⟩
  · exact gv_lst rfl (by decide)
  · exact ⟨rfl, fun xs e => nomatch e⟩
  · exact gv_tup (by decide) (by decide)
theorem r17 (n : Nat) (A B : Int) (hA : 0 ≤ A) (hB : 0 ≤ B) (hB2 : B < 2147483648) : ∃ A' B', rn (n + 5) 17 [.ref 0] (potS A B) = .ok (.d (.bool true)) (potS A' B') := by
  rw [u17]
  let K : Sl → Store → R := fun μ S => exSs (G17 (n + 4)) (b17.drop 2) μ S (fun _ S => .ok (.d .none) S) (fun v S => .ok v S) noBr noBr
  obtain ⟨acc, A1, B1, s2, s3, h1, h2, h3, h4, h5⟩ := l17a (n + 1) (fun v S => .ok v S) K K [0, 1, 2, 3, 4, 5] vals17 A B none none gv_vals hA hB hB2 (by decide)
  obtain ⟨A2, B2, h6⟩ := l17b n (fun v S => .ok v S) (fun μ S => exSs (G17 (n + 4)) (b17.drop 3) μ S (fun _ S => .ok (.d .none) S) (fun v S => .ok v S) noBr noBr) (some (.v (.d (.list acc)))) acc A1 B1 s2 s3 none none none none none none h1 h2 h3 h4
  refine ⟨A2, B2, Eq.trans h5 ?_⟩
  exact h6
theorem r18 (n : Nat) (ns : List Int) : ∃ S', rn (n + 6) 18 [.d (.list (ns.map .int))] [] = .ok (.d (.bool true)) S' := by
  obtain ⟨A, B, h1, h2, h3, h4⟩ := r10 (n + 4) ns
  obtain ⟨A', B', h5⟩ := r17 n A B h2 h3 h4
  refine ⟨potS A' B', ?_⟩
  rw [u18]
  (conv => lhs; whnf); try dsimp only [PV.seal]
  rw [h1]
  (conv => lhs; whnf); try dsimp only [PV.seal]
  rw [h5]
  rfl
end Lw

set_option maxHeartbeats 0
namespace Lw
open PySem PySem.Spec PyProof.Rows L2 Mi
abbrev s0 : Stmt := top 5
abbrev s1 : Stmt := top 6
abbrev s2 : Stmt := top 10
abbrev s3 : Stmt := top 11
abbrev s4 : Stmt := top 12
abbrev s5 : Stmt := top 13
abbrev s6 : Stmt := top 14
abbrev s7 : Stmt := top 15
abbrev s8 : Stmt := top 16
abbrev s9 : Stmt := top 17
abbrev s10 : Stmt := top 19
abbrev s11 : Stmt := top 20
abbrev s12 : Stmt := top 21
abbrev s13 : Stmt := top 22
abbrev s14 : Stmt := top 23
abbrev s15 : Stmt := top 24
abbrev s16 : Stmt := top 25
abbrev s17 : Stmt := top 26
abbrev s18 : Stmt := top 27
theorem sc0 : FnScope i0.N i0.ps (defScope s0) := ⟨rfl, rfl, rfl, by decide +kernel, rfl, by decide +kernel, by decide +kernel⟩
theorem ck0 : cSs ⟨i0.N, txOf is, glN, noN⟩ (defScope s0) d0.body (defBody s0) = true := by decide +kernel
theorem pt0 {K : PySem.W.Frag} {f : Addr} {fd : FuncData} (F : FunD K i0.x i0.x (defArgs s0) (defBody s0) (defScope s0) [] [] f fd) : ∀ p ∈ i0.pats, PatOk K fd i0.ps p := by
  intro p hp
  simp only [i0, List.mem_cons, List.not_mem_nil, or_false] at hp
  subst hp
  · refine pat_of F fun kV doc pm an cdv ct us ws zs h1 h2 h3 => ?_
    match us, h1, ws, h2, h3 with
    | [u0], _, [], _, h3 => cases h3; first | rfl | kernel_rfl
def D0 : He.DefD := ⟨("is_integer", none), "is_integer", "is_integer", defArgs s0, defBody s0, defScope s0, [], []⟩
theorem sc1 : FnScope i1.N i1.ps (defScope s1) := ⟨rfl, rfl, rfl, by decide +kernel, rfl, by decide +kernel, by decide +kernel⟩
theorem ck1 : cSs ⟨i1.N, txOf is, glN, noN⟩ (defScope s1) d1.body (defBody s1) = true := by decide +kernel
theorem pt1 {K : PySem.W.Frag} {f : Addr} {fd : FuncData} (F : FunD K i1.x i1.x (defArgs s1) (defBody s1) (defScope s1) [] [] f fd) : ∀ p ∈ i1.pats, PatOk K fd i1.ps p := by
  intro p hp
  simp only [i1, List.mem_cons, List.not_mem_nil, or_false] at hp
  subst hp
  · refine pat_of F fun kV doc pm an cdv ct us ws zs h1 h2 h3 => ?_
    match us, h1, ws, h2, h3 with
    | [u0, u1, u2], _, [], _, h3 => cases h3; first | rfl | kernel_rfl
def D1 : He.DefD := ⟨("is_between", none), "is_between", "is_between", defArgs s1, defBody s1, defScope s1, [], []⟩
theorem sc2 : FnScope i2.N i2.ps (defScope s2) := ⟨rfl, rfl, rfl, by decide +kernel, rfl, by decide +kernel, by decide +kernel⟩
theorem ck2 : cSs ⟨i2.N, txOf is, glN, noN⟩ (defScope s2) d2.body (defBody s2) = true := by decide +kernel
theorem pt2 {K : PySem.W.Frag} {f : Addr} {fd : FuncData} (F : FunD K i2.x i2.x (defArgs s2) (defBody s2) (defScope s2) [] [] f fd) : ∀ p ∈ i2.pats, PatOk K fd i2.ps p := by
  intro p hp
  simp only [i2, List.mem_cons, List.not_mem_nil, or_false] at hp
  subst hp
  · refine pat_of F fun kV doc pm an cdv ct us ws zs h1 h2 h3 => ?_
    match us, h1, ws, h2, h3 with
    | [u0], _, [], _, h3 => cases h3; first | rfl | kernel_rfl
def D2 : He.DefD := ⟨("are_parts", none), "are_parts", "are_parts", defArgs s2, defBody s2, defScope s2, [], []⟩
theorem sc3 : FnScope i3.N i3.ps (defScope s3) := ⟨rfl, rfl, rfl, by decide +kernel, rfl, by decide +kernel, by decide +kernel⟩
theorem ck3 : cSs ⟨i3.N, txOf is, glN, noN⟩ (defScope s3) d3.body (defBody s3) = true := by decide +kernel
theorem pt3 {K : PySem.W.Frag} {f : Addr} {fd : FuncData} (F : FunD K i3.x i3.x (defArgs s3) (defBody s3) (defScope s3) [] [] f fd) : ∀ p ∈ i3.pats, PatOk K fd i3.ps p := by
  intro p hp
  simp only [i3, List.mem_cons, List.not_mem_nil, or_false] at hp
  subst hp
  · refine pat_of F fun kV doc pm an cdv ct us ws zs h1 h2 h3 => ?_
    match us, h1, ws, h2, h3 with
    | [u0], _, [], _, h3 => cases h3; first | rfl | kernel_rfl
def D3 : He.DefD := ⟨("want_parts", none), "want_parts", "want_parts", defArgs s3, defBody s3, defScope s3, [], []⟩
theorem sc4 : FnScope i4.N i4.ps (defScope s4) := ⟨rfl, rfl, rfl, by decide +kernel, rfl, by decide +kernel, by decide +kernel⟩
theorem ck4 : cSs ⟨i4.N, txOf is, glN, noN⟩ (defScope s4) d4.body (defBody s4) = true := by decide +kernel
theorem pt4 {K : PySem.W.Frag} {f : Addr} {fd : FuncData} (F : FunD K i4.x i4.x (defArgs s4) (defBody s4) (defScope s4) [] [] f fd) : ∀ p ∈ i4.pats, PatOk K fd i4.ps p := by
  intro p hp
  simp only [i4, List.mem_cons, List.not_mem_nil, or_false] at hp
  subst hp
  · refine pat_of F fun kV doc pm an cdv ct us ws zs h1 h2 h3 => ?_
    match us, h1, ws, h2, h3 with
    | [u0], _, [], _, h3 => cases h3; first | rfl | kernel_rfl
def D4 : He.DefD := ⟨("want_fold", none), "want_fold", "want_fold", defArgs s4, defBody s4, defScope s4, [], []⟩
theorem sc5 : FnScope i5.N i5.ps (defScope s5) := ⟨rfl, rfl, rfl, by decide +kernel, rfl, by decide +kernel, by decide +kernel⟩
theorem ck5 : cSs ⟨i5.N, txOf is, glN, noN⟩ (defScope s5) d5.body (defBody s5) = true := by decide +kernel
theorem pt5 {K : PySem.W.Frag} {f : Addr} {fd : FuncData} (F : FunD K i5.x i5.x (defArgs s5) (defBody s5) (defScope s5) [] [] f fd) : ∀ p ∈ i5.pats, PatOk K fd i5.ps p := by
  intro p hp
  simp only [i5, List.mem_cons, List.not_mem_nil, or_false] at hp
  subst hp
  · refine pat_of F fun kV doc pm an cdv ct us ws zs h1 h2 h3 => ?_
    match us, h1, ws, h2, h3 with
    | [u0, u1], _, [], _, h3 => cases h3; first | rfl | kernel_rfl
def D5 : He.DefD := ⟨("free_of", none), "free_of", "free_of", defArgs s5, defBody s5, defScope s5, [], []⟩
theorem sc6 : FnScope i6.N i6.ps (defScope s6) := ⟨rfl, rfl, rfl, by decide +kernel, rfl, by decide +kernel, by decide +kernel⟩
theorem ck6 : cSs ⟨i6.N, txOf is, glN, noN⟩ (defScope s6) d6.body (defBody s6) = true := by decide +kernel
theorem pt6 {K : PySem.W.Frag} {f : Addr} {fd : FuncData} (F : FunD K i6.x i6.x (defArgs s6) (defBody s6) (defScope s6) [] [] f fd) : ∀ p ∈ i6.pats, PatOk K fd i6.ps p := by
  intro p hp
  simp only [i6, List.mem_cons, List.not_mem_nil, or_false] at hp
  subst hp
  · refine pat_of F fun kV doc pm an cdv ct us ws zs h1 h2 h3 => ?_
    match us, h1, ws, h2, h3 with
    | [u0, u1], _, [], _, h3 => cases h3; first | rfl | kernel_rfl
def D6 : He.DefD := ⟨("few_by", none), "few_by", "few_by", defArgs s6, defBody s6, defScope s6, [], []⟩
theorem sc7 : FnScope i7.N i7.ps (defScope s7) := ⟨rfl, rfl, rfl, by decide +kernel, rfl, by decide +kernel, by decide +kernel⟩
theorem ck7 : cSs ⟨i7.N, txOf is, glN, noN⟩ (defScope s7) d7.body (defBody s7) = true := by decide +kernel
theorem pt7 {K : PySem.W.Frag} {f : Addr} {fd : FuncData} (F : FunD K i7.x i7.x (defArgs s7) (defBody s7) (defScope s7) [] [] f fd) : ∀ p ∈ i7.pats, PatOk K fd i7.ps p := by
  intro p hp
  simp only [i7, List.mem_cons, List.not_mem_nil, or_false] at hp
  rcases hp with rfl | rfl
  · refine pat_of F fun kV doc pm an cdv ct us ws zs h1 h2 h3 => ?_
    match us, h1, ws, h2, h3 with
    | [u0], _, [], _, h3 => cases h3; first | rfl | kernel_rfl
  · refine pat_of F fun kV doc pm an cdv ct us ws zs h1 h2 h3 => ?_
    match us, h1, ws, h2, h3 with
    | [], _, [w0], _, h3 => cases h3; first | rfl | kernel_rfl
def D7 : He.DefD := ⟨("is_parts", none), "is_parts", "is_parts", defArgs s7, defBody s7, defScope s7, [], []⟩
theorem sc8 : FnScope i8.N i8.ps (defScope s8) := ⟨rfl, rfl, rfl, by decide +kernel, rfl, by decide +kernel, by decide +kernel⟩
theorem ck8 : cSs ⟨i8.N, txOf is, glN, noN⟩ (defScope s8) d8.body (defBody s8) = true := by decide +kernel
theorem pt8 {K : PySem.W.Frag} {f : Addr} {fd : FuncData} (F : FunD K i8.x i8.x (defArgs s8) (defBody s8) (defScope s8) [] [] f fd) : ∀ p ∈ i8.pats, PatOk K fd i8.ps p := by
  intro p hp
  simp only [i8, List.mem_cons, List.not_mem_nil, or_false] at hp
  subst hp
  · refine pat_of F fun kV doc pm an cdv ct us ws zs h1 h2 h3 => ?_
    match us, h1, ws, h2, h3 with
    | [u0, u1], _, [], _, h3 => cases h3; first | rfl | kernel_rfl
def D8 : He.DefD := ⟨("is_free", none), "is_free", "is_free", defArgs s8, defBody s8, defScope s8, [], []⟩
theorem sc9 : FnScope i9.N i9.ps (defScope s9) := ⟨rfl, rfl, rfl, by decide +kernel, rfl, by decide +kernel, by decide +kernel⟩
theorem ck9 : cSs ⟨i9.N, txOf is, glN, noN⟩ (defScope s9) d9.body (defBody s9) = true := by decide +kernel
theorem pt9 {K : PySem.W.Frag} {f : Addr} {fd : FuncData} (F : FunD K i9.x i9.x (defArgs s9) (defBody s9) (defScope s9) [] [] f fd) : ∀ p ∈ i9.pats, PatOk K fd i9.ps p := by
  intro p hp
  simp only [i9, List.mem_cons, List.not_mem_nil, or_false] at hp
  subst hp
  · refine pat_of F fun kV doc pm an cdv ct us ws zs h1 h2 h3 => ?_
    match us, h1, ws, h2, h3 with
    | [], _, [w0, w1], _, h3 => cases h3; first | rfl | kernel_rfl
def D9 : He.DefD := ⟨("is_few", none), "is_few", "is_few", defArgs s9, defBody s9, defScope s9, [], []⟩
theorem sc10 : FnScope i10.N i10.ps (defScope s10) := ⟨rfl, rfl, rfl, by decide +kernel, rfl, by decide +kernel, by decide +kernel⟩
theorem ck10 : cSs ⟨i10.N, txOf is, glN, noN⟩ (defScope s10) d10.body (defBody s10) = true := by decide +kernel
theorem pt10 {K : PySem.W.Frag} {f : Addr} {fd : FuncData} (F : FunD K i10.x i10.x (defArgs s10) (defBody s10) (defScope s10) [] [] f fd) : ∀ p ∈ i10.pats, PatOk K fd i10.ps p := by
  intro p hp
  simp only [i10, List.mem_cons, List.not_mem_nil, or_false] at hp
  subst hp
  · refine pat_of F fun kV doc pm an cdv ct us ws zs h1 h2 h3 => ?_
    match us, h1, ws, h2, h3 with
    | [u0, u1], _, [], _, h3 => cases h3; first | rfl | kernel_rfl
def D10 : He.DefD := ⟨("_law_pot", none), "_law_pot", "_law_pot", defArgs s10, defBody s10, defScope s10, [], []⟩
theorem sc11 : FnScope i11.N i11.ps (defScope s11) := ⟨rfl, rfl, rfl, by decide +kernel, rfl, by decide +kernel, by decide +kernel⟩
theorem ck11 : cSs ⟨i11.N, txOf is, glN, noN⟩ (defScope s11) d11.body (defBody s11) = true := by decide +kernel
theorem pt11 {K : PySem.W.Frag} {f : Addr} {fd : FuncData} (F : FunD K i11.x i11.x (defArgs s11) (defBody s11) (defScope s11) [] [] f fd) : ∀ p ∈ i11.pats, PatOk K fd i11.ps p := by
  intro p hp
  simp only [i11, List.mem_cons, List.not_mem_nil, or_false] at hp
  subst hp
  · refine pat_of F fun kV doc pm an cdv ct us ws zs h1 h2 h3 => ?_
    match us, h1, ws, h2, h3 with
    | [u0, u1], _, [], _, h3 => cases h3; first | rfl | kernel_rfl
def D11 : He.DefD := ⟨("_law_draw", none), "_law_draw", "_law_draw", defArgs s11, defBody s11, defScope s11, [], []⟩
theorem sc12 : FnScope i12.N i12.ps (defScope s12) := ⟨rfl, rfl, rfl, by decide +kernel, rfl, by decide +kernel, by decide +kernel⟩
theorem ck12 : cSs ⟨i12.N, txOf is, glN, noN⟩ (defScope s12) d12.body (defBody s12) = true := by decide +kernel
theorem pt12 {K : PySem.W.Frag} {f : Addr} {fd : FuncData} (F : FunD K i12.x i12.x (defArgs s12) (defBody s12) (defScope s12) [] [] f fd) : ∀ p ∈ i12.pats, PatOk K fd i12.ps p := by
  intro p hp
  simp only [i12, List.mem_cons, List.not_mem_nil, or_false] at hp
  subst hp
  · refine pat_of F fun kV doc pm an cdv ct us ws zs h1 h2 h3 => ?_
    match us, h1, ws, h2, h3 with
    | [u0, u1], _, [], _, h3 => cases h3; first | rfl | kernel_rfl
def D12 : He.DefD := ⟨("_law_pick", none), "_law_pick", "_law_pick", defArgs s12, defBody s12, defScope s12, [], []⟩
theorem sc13 : FnScope i13.N i13.ps (defScope s13) := ⟨rfl, rfl, rfl, by decide +kernel, rfl, by decide +kernel, by decide +kernel⟩
theorem ck13 : cSs ⟨i13.N, txOf is, glN, noN⟩ (defScope s13) d13.body (defBody s13) = true := by decide +kernel
theorem pt13 {K : PySem.W.Frag} {f : Addr} {fd : FuncData} (F : FunD K i13.x i13.x (defArgs s13) (defBody s13) (defScope s13) [] [] f fd) : ∀ p ∈ i13.pats, PatOk K fd i13.ps p := by
  intro p hp
  simp only [i13, List.mem_cons, List.not_mem_nil, or_false] at hp
  subst hp
  · refine pat_of F fun kV doc pm an cdv ct us ws zs h1 h2 h3 => ?_
    match us, h1, ws, h2, h3 with
    | [u0, u1], _, [], _, h3 => cases h3; first | rfl | kernel_rfl
def D13 : He.DefD := ⟨("_law_drawn", none), "_law_drawn", "_law_drawn", defArgs s13, defBody s13, defScope s13, [], []⟩
theorem sc14 : FnScope i14.N i14.ps (defScope s14) := ⟨rfl, rfl, rfl, by decide +kernel, rfl, by decide +kernel, by decide +kernel⟩
theorem ck14 : cSs ⟨i14.N, txOf is, glN, noN⟩ (defScope s14) d14.body (defBody s14) = true := by decide +kernel
theorem pt14 {K : PySem.W.Frag} {f : Addr} {fd : FuncData} (F : FunD K i14.x i14.x (defArgs s14) (defBody s14) (defScope s14) [] [] f fd) : ∀ p ∈ i14.pats, PatOk K fd i14.ps p := by
  intro p hp
  simp only [i14, List.mem_cons, List.not_mem_nil, or_false] at hp
  subst hp
  · refine pat_of F fun kV doc pm an cdv ct us ws zs h1 h2 h3 => ?_
    match us, h1, ws, h2, h3 with
    | [u0], _, [], _, h3 => cases h3; first | rfl | kernel_rfl
def D14 : He.DefD := ⟨("_law_is_part", none), "_law_is_part", "_law_is_part", defArgs s14, defBody s14, defScope s14, [], []⟩
theorem sc15 : FnScope i15.N i15.ps (defScope s15) := ⟨rfl, rfl, rfl, by decide +kernel, rfl, by decide +kernel, by decide +kernel⟩
theorem ck15 : cSs ⟨i15.N, txOf is, glN, noN⟩ (defScope s15) d15.body (defBody s15) = true := by decide +kernel
theorem pt15 {K : PySem.W.Frag} {f : Addr} {fd : FuncData} (F : FunD K i15.x i15.x (defArgs s15) (defBody s15) (defScope s15) [] [] f fd) : ∀ p ∈ i15.pats, PatOk K fd i15.ps p := by
  intro p hp
  simp only [i15, List.mem_cons, List.not_mem_nil, or_false] at hp
  subst hp
  · refine pat_of F fun kV doc pm an cdv ct us ws zs h1 h2 h3 => ?_
    match us, h1, ws, h2, h3 with
    | [u0], _, [], _, h3 => cases h3; first | rfl | kernel_rfl
def D15 : He.DefD := ⟨("_law_are_parts", none), "_law_are_parts", "_law_are_parts", defArgs s15, defBody s15, defScope s15, [], []⟩
theorem sc16 : FnScope i16.N i16.ps (defScope s16) := ⟨rfl, rfl, rfl, by decide +kernel, rfl, by decide +kernel, by decide +kernel⟩
theorem ck16 : cSs ⟨i16.N, txOf is, glN, noN⟩ (defScope s16) d16.body (defBody s16) = true := by decide +kernel
theorem pt16 {K : PySem.W.Frag} {f : Addr} {fd : FuncData} (F : FunD K i16.x i16.x (defArgs s16) (defBody s16) (defScope s16) [] [] f fd) : ∀ p ∈ i16.pats, PatOk K fd i16.ps p := by
  intro p hp
  simp only [i16, List.mem_cons, List.not_mem_nil, or_false] at hp
  subst hp
  · refine pat_of F fun kV doc pm an cdv ct us ws zs h1 h2 h3 => ?_
    match us, h1, ws, h2, h3 with
    | [u0, u1], _, [], _, h3 => cases h3; first | rfl | kernel_rfl
def D16 : He.DefD := ⟨("_law_bent", none), "_law_bent", "_law_bent", defArgs s16, defBody s16, defScope s16, [], []⟩
theorem sc17 : FnScope i17.N i17.ps (defScope s17) := ⟨rfl, rfl, rfl, by decide +kernel, rfl, by decide +kernel, by decide +kernel⟩
theorem ck17 : cSs ⟨i17.N, txOf is, glN, noN⟩ (defScope s17) d17.body (defBody s17) = true := by decide +kernel
theorem pt17 {K : PySem.W.Frag} {f : Addr} {fd : FuncData} (F : FunD K i17.x i17.x (defArgs s17) (defBody s17) (defScope s17) [] [] f fd) : ∀ p ∈ i17.pats, PatOk K fd i17.ps p := by
  intro p hp
  simp only [i17, List.mem_cons, List.not_mem_nil, or_false] at hp
  subst hp
  · refine pat_of F fun kV doc pm an cdv ct us ws zs h1 h2 h3 => ?_
    match us, h1, ws, h2, h3 with
    | [u0], _, [], _, h3 => cases h3; first | rfl | kernel_rfl
def D17 : He.DefD := ⟨("_law_right", none), "_law_right", "_law_right", defArgs s17, defBody s17, defScope s17, [], []⟩
theorem sc18 : FnScope i18.N i18.ps (defScope s18) := ⟨rfl, rfl, rfl, by decide +kernel, rfl, by decide +kernel, by decide +kernel⟩
theorem ck18 : cSs ⟨i18.N, txOf is, glN, noN⟩ (defScope s18) d18.body (defBody s18) = true := by decide +kernel
theorem pt18 {K : PySem.W.Frag} {f : Addr} {fd : FuncData} (F : FunD K i18.x i18.x (defArgs s18) (defBody s18) (defScope s18) [] [] f fd) : ∀ p ∈ i18.pats, PatOk K fd i18.ps p := by
  intro p hp
  exact absurd hp (by simp [i18])
def D18 : He.DefD := ⟨("law", none), "law", "law", defArgs s18, defBody s18, defScope s18, [], []⟩
def fn : List He.DefD := [D0, D1, D2, D3, D4, D5, D6, D7, D8, D9, D10, D11, D12, D13, D14, D15, D16, D17, D18]
def fa : List He.Fa := [.glo "is_integer", .glo "is_between", .glo "are_parts", .glo "want_parts", .glo "want_fold", .glo "free_of", .glo "few_by", .glo "is_parts", .glo "is_free", .glo "is_few", .glo "_law_pot", .glo "_law_draw", .glo "_law_pick", .glo "_law_drawn", .glo "_law_is_part", .glo "_law_are_parts", .glo "_law_bent", .glo "_law_right", .glo "law", .free "abs", .free "all", .free "bool", .free "divmod", .free "int", .free "isinstance", .free "len", .free "list", .free "max", .free "range", .free "repr", .free "sorted", .free "sum", .free "tuple", .free "zip", .int "MOST_TOTAL" 400, .int "MOST_FOLD" 12]
abbrev R : PySem.W.OpenRow := PySem.W.OpenLaw.row row
abbrev hk : PySem.W.Hook := He.hookD 4 fa fn
def ob (s : PySem.W.SharedT) : He.AlD := He.obsDG 4 fa fn (HandSHeadRun.getT s)
theorem ob_eq (s : PySem.W.SharedT) : ob s = hk.obs s.abs := He.obsDG_eq (HandSHeadRun.getT_eq s)
def loose : List Str := ["SeriesError", "InvalidFold", "InvalidParts", "is_integer", "is_between", "MOST_TOTAL", "MOST_FOLD", "are_parts", "want_parts", "want_fold", "free_of", "few_by", "is_parts", "is_free", "is_few", "_law_pot", "_law_draw", "_law_pick", "_law_drawn", "_law_is_part", "_law_are_parts", "_law_bent", "_law_right"]
theorem run (w : World) : HandSHeadRun.RunEq R (PySem.W.view R.prog [27]) hk ob 20000 loose w := by
  intro os
  kernel_rfl
theorem text {K : PySem.W.Frag} {h : Heap} {mg : Str → Option Value} (X : K.In h) (G : h.Ns mainGlobals mg) (c : He.SaysD fa fn K) : TextOk K mg is glN noN gl := by
  refine ⟨fun i hi => ?_, fun g n x h1 h2 => ?_, fun n hn => ?_⟩
  · simp only [is, List.mem_cons, List.not_mem_nil, or_false] at hi
    rcases hi with rfl | rfl | rfl | rfl | rfl | rfl | rfl | rfl | rfl | rfl | rfl | rfl | rfl | rfl | rfl | rfl | rfl | rfl | rfl
    · obtain ⟨fd, F⟩ := c.def_ 0 (d := D0) rfl
      exact ⟨⟨_, fd, _, _, _, He.glo_ok X G (c.fact 0 (f := .glo "is_integer") rfl), F, sc0, pt0 F, ck0⟩, rfl, rfl⟩
    · obtain ⟨fd, F⟩ := c.def_ 1 (d := D1) rfl
      exact ⟨⟨_, fd, _, _, _, He.glo_ok X G (c.fact 1 (f := .glo "is_between") rfl), F, sc1, pt1 F, ck1⟩, rfl, rfl⟩
    · obtain ⟨fd, F⟩ := c.def_ 2 (d := D2) rfl
      exact ⟨⟨_, fd, _, _, _, He.glo_ok X G (c.fact 2 (f := .glo "are_parts") rfl), F, sc2, pt2 F, ck2⟩, rfl, rfl⟩
    · obtain ⟨fd, F⟩ := c.def_ 3 (d := D3) rfl
      exact ⟨⟨_, fd, _, _, _, He.glo_ok X G (c.fact 3 (f := .glo "want_parts") rfl), F, sc3, pt3 F, ck3⟩, rfl, rfl⟩
    · obtain ⟨fd, F⟩ := c.def_ 4 (d := D4) rfl
      exact ⟨⟨_, fd, _, _, _, He.glo_ok X G (c.fact 4 (f := .glo "want_fold") rfl), F, sc4, pt4 F, ck4⟩, rfl, rfl⟩
    · obtain ⟨fd, F⟩ := c.def_ 5 (d := D5) rfl
      exact ⟨⟨_, fd, _, _, _, He.glo_ok X G (c.fact 5 (f := .glo "free_of") rfl), F, sc5, pt5 F, ck5⟩, rfl, rfl⟩
    · obtain ⟨fd, F⟩ := c.def_ 6 (d := D6) rfl
      exact ⟨⟨_, fd, _, _, _, He.glo_ok X G (c.fact 6 (f := .glo "few_by") rfl), F, sc6, pt6 F, ck6⟩, rfl, rfl⟩
    · obtain ⟨fd, F⟩ := c.def_ 7 (d := D7) rfl
      exact ⟨⟨_, fd, _, _, _, He.glo_ok X G (c.fact 7 (f := .glo "is_parts") rfl), F, sc7, pt7 F, ck7⟩, rfl, rfl⟩
    · obtain ⟨fd, F⟩ := c.def_ 8 (d := D8) rfl
      exact ⟨⟨_, fd, _, _, _, He.glo_ok X G (c.fact 8 (f := .glo "is_free") rfl), F, sc8, pt8 F, ck8⟩, rfl, rfl⟩
    · obtain ⟨fd, F⟩ := c.def_ 9 (d := D9) rfl
      exact ⟨⟨_, fd, _, _, _, He.glo_ok X G (c.fact 9 (f := .glo "is_few") rfl), F, sc9, pt9 F, ck9⟩, rfl, rfl⟩
    · obtain ⟨fd, F⟩ := c.def_ 10 (d := D10) rfl
      exact ⟨⟨_, fd, _, _, _, He.glo_ok X G (c.fact 10 (f := .glo "_law_pot") rfl), F, sc10, pt10 F, ck10⟩, rfl, rfl⟩
    · obtain ⟨fd, F⟩ := c.def_ 11 (d := D11) rfl
      exact ⟨⟨_, fd, _, _, _, He.glo_ok X G (c.fact 11 (f := .glo "_law_draw") rfl), F, sc11, pt11 F, ck11⟩, rfl, rfl⟩
    · obtain ⟨fd, F⟩ := c.def_ 12 (d := D12) rfl
      exact ⟨⟨_, fd, _, _, _, He.glo_ok X G (c.fact 12 (f := .glo "_law_pick") rfl), F, sc12, pt12 F, ck12⟩, rfl, rfl⟩
    · obtain ⟨fd, F⟩ := c.def_ 13 (d := D13) rfl
      exact ⟨⟨_, fd, _, _, _, He.glo_ok X G (c.fact 13 (f := .glo "_law_drawn") rfl), F, sc13, pt13 F, ck13⟩, rfl, rfl⟩
    · obtain ⟨fd, F⟩ := c.def_ 14 (d := D14) rfl
      exact ⟨⟨_, fd, _, _, _, He.glo_ok X G (c.fact 14 (f := .glo "_law_is_part") rfl), F, sc14, pt14 F, ck14⟩, rfl, rfl⟩
    · obtain ⟨fd, F⟩ := c.def_ 15 (d := D15) rfl
      exact ⟨⟨_, fd, _, _, _, He.glo_ok X G (c.fact 15 (f := .glo "_law_are_parts") rfl), F, sc15, pt15 F, ck15⟩, rfl, rfl⟩
    · obtain ⟨fd, F⟩ := c.def_ 16 (d := D16) rfl
      exact ⟨⟨_, fd, _, _, _, He.glo_ok X G (c.fact 16 (f := .glo "_law_bent") rfl), F, sc16, pt16 F, ck16⟩, rfl, rfl⟩
    · obtain ⟨fd, F⟩ := c.def_ 17 (d := D17) rfl
      exact ⟨⟨_, fd, _, _, _, He.glo_ok X G (c.fact 17 (f := .glo "_law_right") rfl), F, sc17, pt17 F, ck17⟩, rfl, rfl⟩
    · obtain ⟨fd, F⟩ := c.def_ 18 (d := D18) rfl
      exact ⟨⟨_, fd, _, _, _, He.glo_ok X G (c.fact 18 (f := .glo "law") rfl), F, sc18, pt18 F, ck18⟩, rfl, rfl⟩
  · match g, h1, h2 with
    | 0, h1, h2 =>
      cases h1; cases h2
      obtain ⟨t, e⟩ := He.int_ok X G (x := "MOST_TOTAL") (i := 400) (c.fact 34 rfl)
      exact ⟨.int 400, _, e, ⟨t, rfl⟩, fun F => .int _⟩
    | 1, h1, h2 =>
      cases h1; cases h2
      obtain ⟨t, e⟩ := He.int_ok X G (x := "MOST_FOLD") (i := 12) (c.fact 35 rfl)
      exact ⟨.int 12, _, e, ⟨t, rfl⟩, fun F => .int _⟩
    | _ + 2, h1, h2 => cases h2
  · simp only [noN, List.mem_cons, List.not_mem_nil, or_false] at hn
    rcases hn with rfl | rfl | rfl | rfl | rfl | rfl | rfl | rfl | rfl | rfl | rfl | rfl | rfl | rfl | rfl
    · exact He.free_ok X G (c.fact 19 (f := .free "abs") rfl)
    · exact He.free_ok X G (c.fact 20 (f := .free "all") rfl)
    · exact He.free_ok X G (c.fact 21 (f := .free "bool") rfl)
    · exact He.free_ok X G (c.fact 22 (f := .free "divmod") rfl)
    · exact He.free_ok X G (c.fact 23 (f := .free "int") rfl)
    · exact He.free_ok X G (c.fact 24 (f := .free "isinstance") rfl)
    · exact He.free_ok X G (c.fact 25 (f := .free "len") rfl)
    · exact He.free_ok X G (c.fact 26 (f := .free "list") rfl)
    · exact He.free_ok X G (c.fact 27 (f := .free "max") rfl)
    · exact He.free_ok X G (c.fact 28 (f := .free "range") rfl)
    · exact He.free_ok X G (c.fact 29 (f := .free "repr") rfl)
    · exact He.free_ok X G (c.fact 30 (f := .free "sorted") rfl)
    · exact He.free_ok X G (c.fact 31 (f := .free "sum") rfl)
    · exact He.free_ok X G (c.fact 32 (f := .free "tuple") rfl)
    · exact He.free_ok X G (c.fact 33 (f := .free "zip") rfl)
theorem holds (k : Nat) (hr : Room k callerA) (hrun : ∀ ns : List Int, ns.length ≤ 63 → ∃ S', rn k 18 [.d (.list (ns.map .int))] [] = .ok (.d (.bool true)) S') : row.Holds := by
  w_on; o_law
  refine HandSHeadRun.head_any (r := PySem.W.OpenLaw.row row) (q := PySem.W.view (PySem.W.OpenLaw.row row).prog [27]) (H := hk) (ob := ob) (M := 20000) (loose := loose) (d := HandSHeadRun.topDef (PySem.W.OpenLaw.row row).prog 27) (kwd := []) ob_eq
    (by kernel_rfl) (fun s => by kernel_rfl) run (by kernel_rfl) (by kernel_rfl) (by kernel_rfl) (by rfl) (by first | assumption | decide +kernel) (by decide +kernel) ⟨rfl, rfl, rfl, rfl, rfl, by decide +kernel⟩ ?hw ?hc
  case hw => w_witness2
  case hc =>
    refine Mi.walk_run (l := row) (n := 63) (k := k) (x := "_law_script") (call := Mi.run fs gl k 18) rfl (by decide) (by kernel_rfl) hr ?F (by unfold rn at hrun; exact hrun)
    intro w mg fa0 h Y G hmg0
    obtain ⟨K, KX, c⟩ := Y
    have hmg : mg ("law" : PySem.Str) = some (.ref fa0) := by
      have e : (HandSHeadRun.topDef (PySem.W.OpenLaw.row row).prog 27).name = ("law" : PySem.Str) := by kernel_rfl
      rw [← e]
      exact hmg0
    obtain ⟨fd, F⟩ := c.def_ 18 (d := D18) rfl
    have e := hmg.symm.trans (He.glo_ok KX G (c.fact 18 (f := .glo "law") rfl))
    cases e
    have tx := text KX G c
    refine ⟨K, fd, KX, fun s v => ?_, fun base _ _ => Mi.all_ok tx k 18 i18 rfl _ fd hmg ⟨_, _, _, F⟩⟩
    have b := FunD.bindsA (ps := ["_law_script"]) F fun _ _ _ _ _ _ us hl => match us, hl with | [_], _ => rfl
    exact b s [v] rfl
end Lw

theorem PySem.Challenge.cw_etaparts_k31_any_value_as_parts_holds : PySem.Challenge.rw_etaparts_k31_any_value_as_parts.Holds := by
  exact Lw.holds 6 ⟨rfl, by decide, by decide⟩ (fun ns _ => Lw.r18 0 ns)
