import PyProof.Rows.All
import Wide.All
import OpenK.AllK
import Wide.FinOn
import HandS.ForMost
import HandS.Words
import HandS.Wide
import HandS.Deep
import HandS.Gcd
import HandS.WideBits
import HandS.IsInst
import HandS.Walk
import HandS.Zip
import HandS.Style
import HandS.Flow
import HandS.Iter
import HandS.More
import HandS.TupMul
import HandS.NoneIn
import KE.DataCmp
import KE.SortData
import HandS.Ends
import HandS.Defaults
import HandS.TupSets
import KE.KDictPairs
import KE.KDictSum
import HandS.Conv
import KE.GoesEnum
import KE.GoesMore
import HandS.RepeatKit
import HandS.EndBits
import PySem.Challenge.RW_straightcuts_k64_whole_lines_that_halve
set_option Elab.async false
set_option linter.all false
set_option maxRecDepth 100000
/-! DI1: a small language of data for the defs of a text, and how it is reckoned -/
namespace DI
open PySem PyProof.Rows L2

/-- data: lists and tuples by what they hold; ref: a list that is changed, by its number -/
inductive D where
  | non | bl (b : Bool) | int (i : Int) | str (x : Str)
  | tup (xs : List D) | lst (xs : List D) | dic (kvs : List (Key × D)) | ref (n : Nat)
abbrev Mem := List (Option (List D))
/-- a name of a def: not there, a value, or a list that is this name's alone -/
inductive Sl where
  | un | val (d : D) | own (ds : List D)
abbrev Ev := List Sl

inductive Bop where | add | sub | mul | fdiv | mod | pow
  deriving DecidableEq
inductive Cop where | eq | ne | lt | le | gt | ge | inn | nin
  deriving DecidableEq
inductive Ty where | int | bool | str | list | tuple | dict
  deriving DecidableEq
inductive Bi where | len | abs | max | min | int | tuple | list | sum | repr | all | any | gcd | dict | sorted
  deriving DecidableEq
inductive MG where
  | nm (i : Nat) | tp (gs : List MG)

mutual
inductive ME where
  | var (i : Nat) | ovar (i : Nat)
  | non | bl (b : Bool) | int (i : Int) | str (x : Str)
  | tup (es : List ME) | lst (es : List ME) | dic0
  | con (i : Nat) (d : D)
  | cell (e : ME)
  | op (o : Bop) (a b : ME) | neg (a : ME)
  | not (a : ME) | cmp (o : Cop) (a b : ME) | isn (neg : Bool) (a : ME) | isb (neg : Bool) (b : Bool) (a : ME)
  | and (a b : ME) | or (a b : ME) | ite (c a b : ME)
  | idx (a i : ME) | slc (a : ME) (lo hi : Option ME) | rev (a : ME)
  | call (f : Nat) (es : List ME) | callk (f : Nat) (es ks : List ME) (perm : List Nat)
  | calld (f : Nat) (es : List ME) (ds : List Int)
  | bi (b : Bi) (es : List ME)
  | bits (a : ME)
  | sset (a : ME)
  | sdic (a : ME)
  | isi (a : ME) (ts : List Ty)
  | comp (elt : ME) (tg : MG) (src : MI) (ifs : List ME) (own : List Nat)
inductive MI where
  | seq (e : ME) | rng (es : List ME) | zip (a b : ME) | zip3 (a b c : ME) | comb (a : ME) | enum (a : ME)
end

inductive Mth where | append | insert
  deriving DecidableEq
inductive MS where
  | asg (g : MG) (e : ME)
  | own (i : Nat) (e : ME)
  | par (is : List Nat) (es : List ME)
  | aug (i : Nat) (o : Bop) (e : ME)
  | sset (a i e : ME)
  | meth (m : Mth) (r : ME) (es : List ME)
  | ometh (m : Mth) (i : Nat) (es : List ME)
  | opop (i : Nat)
  | oset (i : Nat) (ix e : ME)
  | expr (e : ME)
  | ret (e : ME) | reto (i : Nat) | retn
  | iff (c : ME) (a b : List MS)
  | for (g : MG) (src : MI) (body : List MS)
  | whl (c : ME) (body : List MS)
  | pass | brk | cnt | raise | doc

/-! ### plain data -/
mutual
def pyW (cf : Nat → Option PyData) : D → Option PyData
  | .non => some .none
  | .bl b => some (.bool b)
  | .int i => some (.int i)
  | .str x => some (.str x)
  | .tup xs => (pyWs cf xs).map .tuple
  | .lst xs => (pyWs cf xs).map .list
  | .dic _ => none
  | .ref n => cf n
def pyWs (cf : Nat → Option PyData) : List D → Option (List PyData)
  | [] => some []
  | x :: xs => (pyW cf x).bind fun y => (pyWs cf xs).map fun ys => y :: ys
end
def cellPy (μ : Mem) : Nat → Nat → Option PyData
  | 0, _ => none
  | k + 1, n => (μ[n]?).join.bind fun ds => (pyWs (cellPy μ k) ds).map .list
def toPy (μ : Mem) (d : D) : Option PyData := pyW (cellPy μ 8) d

/-- what a list holds -/
def seqV (μ : Mem) : D → Option (List D)
  | .lst ds => some ds
  | .ref n => (μ[n]?).join
  | _ => none
def mkL (ds : List D) : Option D := if ds.length ≤ sizeLine then some (.lst ds) else none
def truthD (μ : Mem) : D → Option Bool
  | .non => some false
  | .bl b => some b
  | .int i => some (i != 0)
  | .str x => if x.length ≤ sizeLine then some (x.length != 0) else none
  | .tup xs => some (!xs.isEmpty)
  | .lst xs => some (!xs.isEmpty)
  | .dic kvs => some (!kvs.isEmpty)
  | .ref n => (μ[n]?).join.map fun ds => !ds.isEmpty

def opI (o : Bop) (i j : Int) : Option Int := match o with
  | .add => some (i + j)
  | .sub => some (i - j)
  | .mul => if i.natAbs.log2 + j.natAbs.log2 < 1000000 then some (i * j) else none
  | .fdiv => if j ≠ 0 ∧ j.natAbs.log2 < 9000 then some (i.fdiv j) else none
  | .mod => if j ≠ 0 then some (i.fmod j) else none
  | .pow => if 0 ≤ j ∧ (Builtin.Int.intBits i : Int) * j ≤ 2 ^ 27 then some (i ^ j.toNat) else none
def opD (μ : Mem) (o : Bop) (a b : D) : Option D := match a, b with
  | .int i, .int j => (opI o i j).map .int
  | .bl p, .bl q => match o with
    | .sub => some (.int (b2i p - b2i q))
    | .add => some (.int (b2i p + b2i q))
    | _ => none
  | .int i, .bl q => match o with
    | .add => some (.int (i + b2i q))
    | _ => none
  | .str x, .str y => match o with
    | .add => if x.length + y.length ≤ sizeLine then some (.str (x ++ y)) else none
    | _ => none
  | .tup xs, .tup ys => match o with
    | .add => if xs ≠ [] ∧ xs.length + ys.length ≤ sizeLine then some (.tup (xs ++ ys)) else none
    | _ => none
  | .tup xs, .int k => match o with
    | .mul => if xs ≠ [] ∧ 2 ≤ k ∧ k ≤ 1000 ∧ xs.length ≤ 1000 then some (.tup (List.replicate k.toNat xs).flatten) else none
    | _ => none
  | .lst xs, .int k => match o with
    | .mul => if 0 ≤ k ∧ k ≤ 1000 ∧ xs.length ≤ 1000 then some (.lst (List.replicate k.toNat xs).flatten) else none
    | _ => none
  | a, b => match o with
    | .add => (seqV μ a).bind fun xs => (seqV μ b).bind fun ys => mkL (xs ++ ys)
    | _ => none
def eqD (μ : Mem) (a b : D) : Option Bool :=
  (toPy μ a).bind fun x => (toPy μ b).bind fun y => if SeqAt.shaped x && SeqAt.shaped y then some (PyData.eqv x y) else none
def inD (μ : Mem) (a b : D) : Option Bool := match a, b with
  | .str x, .str y => some (!(Builtin.Str.occurrences y x 0 y.length 1).isEmpty)
  | a, b => (toPy μ a).bind fun x => (seqV μ b).bind fun bs => (pyWs (cellPy μ 8) bs).bind fun ys =>
      if SeqAt.shaped x && SeqAt.shaped (.list ys) then some (ys.any fun z => PyData.eqv z x) else none
/-- data that have an order -/
def ltOk (x y : PyData) : Bool := PySem.W.alike x y && (match x with
  | .none => false
  | _ => true) && decide (x.depth ≤ 50)
def ordD (μ : Mem) (f : PyData → PyData → Bool) (a b : D) : Option Bool :=
  (toPy μ a).bind fun x => (toPy μ b).bind fun y => if ltOk x y then some (f x y) else none
def cmpD (μ : Mem) (o : Cop) (a b : D) : Option Bool := match o with
  | .eq => eqD μ a b
  | .ne => (eqD μ a b).map (!·)
  | .inn => inD μ a b
  | .nin => (inD μ a b).map (!·)
  | .lt => match a, b with
    | .int i, .int j => some (decide (i < j))
    | a, b => ordD μ (PySem.W.dataLt) a b
  | .le => match a, b with
    | .int i, .int j => some (decide (i ≤ j))
    | a, b => ordD μ (fun x y => !PySem.W.dataLt y x) a b
  | .gt => match a, b with
    | .int i, .int j => some (decide (j < i))
    | a, b => ordD μ (fun x y => PySem.W.dataLt y x) a b
  | .ge => match a, b with
    | .int i, .int j => some (decide (j ≤ i))
    | a, b => ordD μ (fun x y => !PySem.W.dataLt x y) a b
def idxD (μ : Mem) (a i : D) : Option D := match a, i with
  | .tup xs, .int k => atI xs k
  | .str x, .int k => if x.length ≤ sizeLine then (atI x.cps.toList k).map fun c => .str ⟨#[c]⟩ else none
  | a, .int k => (seqV μ a).bind fun xs => atI xs k
  | _, _ => none
def cutD {α : Type} (xs : List α) (lo hi : Option Int) : List α := (xs.drop (HT.sIx xs.length 0 lo)).take (HT.sIx xs.length xs.length hi - HT.sIx xs.length 0 lo)
def slcD (μ : Mem) (a : D) (lo hi : Option Int) : Option D := match a with
  | .tup xs => if cutD xs lo hi ≠ [] ∧ (cutD xs lo hi).length < xs.length then some (.tup (cutD xs lo hi)) else none
  | a => (seqV μ a).map fun xs => .lst (cutD xs lo hi)
def isT : D → Ty → Bool
  | .bl _, .bool => true
  | .bl _, .int => true
  | .int _, .int => true
  | .str _, .str => true
  | .tup _, .tuple => true
  | .lst _, .list => true
  | .ref _, .list => true
  | .dic _, .dict => true
  | _, _ => false
/-- a list or a tuple -/
def seqT (μ : Mem) : D → Option (List D)
  | .tup ds => some ds
  | d => seqV μ d
def liveD (μ : Mem) : D → Bool
  | .ref n => (μ[n]?).join.isSome
  | _ => true
def intsD : List D → Option (List Int)
  | [] => some []
  | .int i :: r => (intsD r).map fun is => i :: is
  | _ :: _ => none
def blsD : List D → Option (List Bool)
  | [] => some []
  | .bl i :: r => (blsD r).map fun is => i :: is
  | _ :: _ => none
def lenD (μ : Mem) : D → Option Nat
  | .str x => if x.length ≤ sizeLine then some x.length else none
  | .tup xs => some xs.length
  | .dic kvs => some kvs.length
  | d => (seqV μ d).map List.length
/-- a dict by its pairs -/
def putD (kvs : List (Key × D)) (k : Key) (v : D) : List (Key × D) :=
  if (kvs.any fun p => decide (p.1 = k)) = true then kvs.map (fun p => if p.1 = k then (p.1, v) else p) else kvs ++ [(k, v)]
def mergeD (kvs more : List (Key × D)) : List (Key × D) := more.foldl (fun q p => putD q p.1 p.2) kvs
def keyD : D → Option Key
  | .int i => some (.inl i)
  | .str x => some (.inr x)
  | _ => none
def pairsD : List D → Option (List (Key × D))
  | [] => some []
  | .tup [k, v] :: r => (keyD k).bind fun k => (pairsD r).map fun q => (k, v) :: q
  | _ :: _ => none
/-- data in their order -/
def pyPairs (μ : Mem) : List D → Option (List (D × PyData))
  | [] => some []
  | d :: r => (toPy μ d).bind fun x => (pyPairs μ r).map fun q => (d, x) :: q
def sortOk (ys : List PyData) : Bool := ys.all (fun x => ys.all fun y => PySem.W.alike x y) && (ys.all (fun x => match x with
  | .tuple (_ :: _) => true
  | _ => false) || ys.all (fun x => match x with
  | .none => false
  | .tuple _ => false
  | _ => true)) && ys.all (fun x => decide (x.depth ≤ 50))
def sortD (μ : Mem) (ds : List D) : Option D := (pyPairs μ ds).bind fun ps => if sortOk (ps.map Prod.snd) then some (.lst ((ps.mergeSort (PySem.W.dataLe false Prod.snd)).map Prod.fst)) else none
def biD (μ : Mem) (b : Bi) (ds : List D) : Option D := match b, ds with
  | .len, [d] => (lenD μ d).map fun (n : Nat) => .int (n : Int)
  | .abs, [.int i] => some (.int (if i < 0 then -i else i))
  | .max, [.int i, .int j] => some (.int (if j > i then j else i))
  | .min, [.int i, .int j] => some (.int (if j < i then j else i))
  | .int, [.int i] => some (.int i)
  | .int, [.bl b] => some (.int (if b then 1 else 0))
  | .tuple, [.tup xs] => some (.tup xs)
  | .tuple, [d] => (seqV μ d).map .tup
  | .list, [.tup xs] => some (.lst xs)
  | .list, [d] => (seqV μ d).map .lst
  | .sum, [d] => (seqV μ d).bind fun xs => (intsD xs).map fun is => .int is.sum
  | .all, [d] => (seqV μ d).bind fun xs => (blsD xs).map fun bs => .bl (bs.all id)
  | .any, [d] => (seqV μ d).bind fun xs => (blsD xs).map fun bs => .bl (bs.any id)
  | .gcd, [.int i, .int j] => some (.int (Nat.gcd i.natAbs j.natAbs : Nat))
  | .dict, [d] => (seqV μ d).bind fun xs => (pairsD xs).map fun kvs => .dic (mergeD [] kvs)
  | .sorted, [d] => (seqV μ d).bind (sortD μ)
  | .repr, [d] => (seqT μ d).bind fun _ => (toPy μ d).bind fun x => if SeqAt.shaped x && (x.showable && decide (x.shown.length ≤ sizeLine)) then some (.str x.shown) else none
  | _, _ => none

/-- tuples of whole numbers, each once, in their order -/
def keysD : List D → Option (List (List Int))
  | [] => some []
  | .tup (x :: xs) :: r => (intsD (x :: xs)).bind fun k => (keysD r).map fun q => k :: q
  | _ :: _ => none
def dedupI : List (List Int) → List (List Int)
  | [] => []
  | k :: r => if k ∈ dedupI r then dedupI r else k :: dedupI r
def onceI (ks : List (List Int)) : List (List Int) := (dedupI ks).mergeSort fun p q => decide (p ≤ q)
/-- the first of each pair -/
def firstsD : List D → Option (List D)
  | [] => some []
  | .tup [d, _] :: r => (firstsD r).map fun q => d :: q
  | _ :: _ => none
def sdicD (ds : List D) : Option D := (firstsD ds).bind fun fs => (keysD fs).map fun ks => .lst ((onceI ks).map fun k => .tup (k.map .int))
def ssetD (ds : List D) : Option D := (keysD ds).bind fun ks => if ks.length < 64 then some (.lst ((onceI ks).map fun k => .tup (k.map .int))) else none

/-! ### targets -/
mutual
def bindG : MG → D → Ev → Option Ev
  | .nm i, d, env => some (env.set i (.val d))
  | .tp gs, .tup ds, env => bindGs gs ds env
  | .tp gs, .lst ds, env => bindGs gs ds env
  | .tp _, _, _ => none
def bindGs : List MG → List D → Ev → Option Ev
  | [], [], env => some env
  | g :: gs, d :: ds, env => (bindG g d env).bind fun e => bindGs gs ds e
  | _, _, _ => none
end
mutual
def MG.slots : MG → List Nat
  | .nm i => [i]
  | .tp gs => MG.slotss gs
def MG.slotss : List MG → List Nat
  | [] => []
  | g :: gs => g.slots ++ MG.slotss gs
end
def wipeE (env : Ev) : List Nat → Ev
  | [] => env
  | v :: vs => (wipeE env vs).set v .un

/-! ### loops, apart from the language -/
def compGo (step : D → Mem → Option (Option D × Mem)) (ok : Mem → Bool) : List D → Mem → Option (List D × Mem)
  | [], μ => some ([], μ)
  | x :: xs, μ => (step x μ).bind fun p => if ok p.2 then (compGo step ok xs p.2).map fun q => (p.1.toList ++ q.1, q.2) else none
inductive Fl where
  | nx (e : Ev) | bk (e : Ev) | ct (e : Ev) | rt (d : D)
def forGo (body : D → Ev → Mem → Option (Fl × Mem)) (ok : Ev → Mem → Bool) : List D → Ev → Mem → Option (Fl × Mem)
  | [], env, μ => some (.nx env, μ)
  | x :: xs, env, μ => (body x env μ).bind fun p => match p.1 with
    | .nx e => if ok e p.2 then forGo body ok xs e p.2 else none
    | .ct e => if ok e p.2 then forGo body ok xs e p.2 else none
    | .bk e => some (.nx e, p.2)
    | .rt d => some (.rt d, p.2)
def whileGo (c : Ev → Mem → Option (Bool × Mem)) (body : Ev → Mem → Option (Fl × Mem)) : Nat → Ev → Mem → Option (Fl × Mem)
  | 0, _, _ => none
  | n + 1, env, μ => (c env μ).bind fun p => if p.1 then (body env p.2).bind fun q => match q.1 with
      | .nx e => whileGo c body n e q.2
      | .ct e => whileGo c body n e q.2
      | .bk e => some (.nx e, q.2)
      | .rt d => some (.rt d, q.2)
    else some (.nx env, p.2)

/-! ### data are the same -/
mutual
def D.beq : D → D → Bool
  | .non, .non => true
  | .bl a, .bl b => a == b
  | .int a, .int b => a == b
  | .str a, .str b => a == b
  | .tup a, .tup b => D.beqs a b
  | .lst a, .lst b => D.beqs a b
  | .ref a, .ref b => a == b
  | _, _ => false
def D.beqs : List D → List D → Bool
  | [], [] => true
  | a :: r, b :: q => a.beq b && D.beqs r q
  | _, _ => false
end
/-- what is walked stands as it stood: a list of its own (.inl) of the name i, or a cell (.inr) -/
inductive Lk where
  | own (i : Nat) (ds : List D) | cell (n : Nat) (ds : List D)
def Lk.isCell : Lk → Bool
  | .cell _ _ => true
  | .own _ _ => false
def Lk.ok (env : Ev) (μ : Mem) : Lk → Bool
  | .own i ds => match env[i]? with
    | some (.own es) => D.beqs es ds
    | _ => false
  | .cell n ds => match μ[n]? with
    | some (some es) => D.beqs es ds
    | _ => false
def lockOf (μ : Mem) (e : ME) (d : D) : List Lk := match e, d with
  | .ovar i, .lst ds => [.own i ds]
  | _, .ref n => match μ[n]? with
    | some (some ds) => [.cell n ds]
    | _ => []
  | _, _ => []

abbrev Call := Nat → List D → Mem → Option (D × Mem)
/-- two lists side by side -/
def combD : List D → List D
  | [] => []
  | x :: xs => xs.map (fun y => .tup [x, y]) ++ combD xs
def zipD3 : List D → List D → List D → List D
  | x :: xs, y :: ys, z :: zs => .tup [x, y, z] :: zipD3 xs ys zs
  | _, _, _ => []
def zipD : List D → List D → List D
  | x :: xs, y :: ys => .tup [x, y] :: zipD xs ys
  | _, _ => []
def enumD : Nat → List D → List D
  | _, [] => []
  | i, x :: xs => .tup [.int i, x] :: enumD (i + 1) xs
def rangeD (lo hi : Int) : List D := (List.range (hi - lo).toNat).map fun (i : Nat) => .int (lo + i)
def itemsD (μ : Mem) : D → Option (List D)
  | .tup xs => some xs
  | d => seqV μ d
def rangeOk (i : Int) : Bool := decide (-(2 ^ 62) ≤ i) && decide (i < 2 ^ 62)
def permD (ds : List D) : List Nat → Option (List D)
  | [] => some []
  | i :: r => (ds[i]?).bind fun d => (permD ds r).map fun q => d :: q

mutual
def evE (C : Call) : ME → Ev → Mem → Option (D × Mem)
  | .var i, env, μ => match env[i]? with
    | some (.val d) => some (d, μ)
    | _ => none
  | .ovar i, env, μ => match env[i]? with
    | some (.own ds) => some (.lst ds, μ)
    | _ => none
  | .non, _, μ => some (.non, μ)
  | .bl b, _, μ => some (.bl b, μ)
  | .int i, _, μ => some (.int i, μ)
  | .str x, _, μ => some (.str x, μ)
  | .tup es, env, μ => (evEs C es env μ).bind fun p => if p.1.length ≤ sizeLine then some (.tup p.1, p.2) else none
  | .lst es, env, μ => (evEs C es env μ).bind fun p => if p.1.length ≤ sizeLine then some (.lst p.1, p.2) else none
  | .dic0, _, μ => some (.dic [], μ)
  | .con _ d, _, μ => some (d, μ)
  | .cell e, env, μ => (evE C e env μ).bind fun p => match p.1 with
    | .lst ds => some (.ref p.2.length, p.2 ++ [some ds])
    | _ => none
  | .op o a b, env, μ => (evE C a env μ).bind fun p => (evE C b env p.2).bind fun q => (opD q.2 o p.1 q.1).map fun d => (d, q.2)
  | .neg a, env, μ => (evE C a env μ).bind fun p => match p.1 with
    | .int i => some (.int (-i), p.2)
    | _ => none
  | .not a, env, μ => (evE C a env μ).bind fun p => (truthD p.2 p.1).map fun b => (.bl (!b), p.2)
  | .cmp o a b, env, μ => (evE C a env μ).bind fun p => (evE C b env p.2).bind fun q => (cmpD q.2 o p.1 q.1).map fun d => (.bl d, q.2)
  | .isn ng a, env, μ => (evE C a env μ).bind fun p => match p.1 with
    | .non => some (.bl (!ng), p.2)
    | .ref _ => none
    | _ => some (.bl ng, p.2)
  | .isb ng b a, env, μ => (evE C a env μ).bind fun p => match p.1 with
    | .bl k => some (.bl (if ng then !decide (k = b) else decide (k = b)), p.2)
    | _ => none
  | .and a b, env, μ => (evE C a env μ).bind fun p => match p.1 with
    | .bl true => evE C b env p.2
    | .bl false => some (.bl false, p.2)
    | _ => none
  | .or a b, env, μ => (evE C a env μ).bind fun p => match p.1 with
    | .bl false => evE C b env p.2
    | .bl true => some (.bl true, p.2)
    | _ => none
  | .ite c a b, env, μ => (evE C c env μ).bind fun p => (truthD p.2 p.1).bind fun k => if k then evE C a env p.2 else evE C b env p.2
  | .idx a i, env, μ => (evE C a env μ).bind fun p => (evE C i env p.2).bind fun q => (idxD q.2 p.1 q.1).map fun d => (d, q.2)
  | .slc a lo hi, env, μ => (evE C a env μ).bind fun p => (evO C lo env p.2).bind fun q => (evO C hi env q.2).bind fun r => (slcD r.2 p.1 q.1 r.1).map fun d => (d, r.2)
  | .rev a, env, μ => (evE C a env μ).bind fun p => (seqV p.2 p.1).map fun xs => (.lst xs.reverse, p.2)
  | .call f es, env, μ => (evEs C es env μ).bind fun p => C f p.1 p.2
  | .calld f es ds, env, μ => (evEs C es env μ).bind fun p => C f (p.1 ++ ds.map .int) p.2
  | .callk f es ks perm, env, μ => (evEs C es env μ).bind fun p => (evEs C ks env p.2).bind fun q => (permD (p.1 ++ q.1) perm).bind fun ds => C f ds q.2
  | .bi b es, env, μ => (evEs C es env μ).bind fun p => (biD p.2 b p.1).map fun d => (d, p.2)
  | .bits a, env, μ => (evE C a env μ).bind fun p => match p.1 with
    | .int i => some (.int (Builtin.Int.intBits i : Nat), p.2)
    | _ => none
  | .sset a, env, μ => (evE C a env μ).bind fun p => (seqV p.2 p.1).bind fun xs => (ssetD xs).map fun d => (d, p.2)
  | .sdic a, env, μ => (evE C a env μ).bind fun p => (seqV p.2 p.1).bind fun xs => (sdicD xs).map fun d => (d, p.2)
  | .isi a ts, env, μ => (evE C a env μ).bind fun p => if liveD p.2 p.1 then some (.bl (ts.any (isT p.1)), p.2) else none
  | .comp elt tg src ifs own, env, μ => (evI C src env μ).bind fun p => if p.1.2.all (Lk.ok env p.2) then
      (compGo (fun x ν => (bindG tg x (wipeE env own)).bind fun e1 => (evCs C ifs e1 ν).bind fun c =>
          if c.1 then (evE C elt e1 c.2).map fun q => (some q.1, q.2) else some (none, c.2))
        (fun ν => p.1.2.all (Lk.ok env ν)) p.1.1 p.2).bind fun r => if r.1.length ≤ sizeLine then some (.lst r.1, r.2) else none
      else none
def evEs (C : Call) : List ME → Ev → Mem → Option (List D × Mem)
  | [], _, μ => some ([], μ)
  | e :: es, env, μ => (evE C e env μ).bind fun p => (evEs C es env p.2).map fun q => (p.1 :: q.1, q.2)
def evO (C : Call) : Option ME → Ev → Mem → Option (Option Int × Mem)
  | none, _, μ => some (none, μ)
  | some e, env, μ => (evE C e env μ).bind fun p => match p.1 with
    | .int i => some (some i, p.2)
    | _ => none
def evCs (C : Call) : List ME → Ev → Mem → Option (Bool × Mem)
  | [], _, μ => some (true, μ)
  | e :: es, env, μ => (evE C e env μ).bind fun p => (truthD p.2 p.1).bind fun b => if b then evCs C es env p.2 else some (false, p.2)
def evI (C : Call) : MI → Ev → Mem → Option ((List D × List Lk) × Mem)
  | .seq e, env, μ => (evE C e env μ).bind fun p => (itemsD p.2 p.1).map fun ds => ((ds, lockOf p.2 e p.1), p.2)
  | .rng es, env, μ => (evEs C es env μ).bind fun p => match p.1 with
    | [.int j] => if rangeOk j then some ((rangeD 0 j, []), p.2) else none
    | [.int i, .int j] => if rangeOk i && rangeOk j then some ((rangeD i j, []), p.2) else none
    | _ => none
  | .zip a b, env, μ => (evE C a env μ).bind fun p => (evE C b env p.2).bind fun q => match p.1, q.1 with
    | .tup xs, .tup ys => some ((zipD xs ys, []), q.2)
    | x, y => (seqV q.2 x).bind fun xs => (seqV q.2 y).map fun ys => ((zipD xs ys, lockOf q.2 a x ++ lockOf q.2 b y), q.2)
  | .zip3 a b c, env, μ => (evE C a env μ).bind fun p => (evE C b env p.2).bind fun q => (evE C c env q.2).bind fun r => match p.1, q.1, r.1 with
    | .tup xs, .tup ys, .tup zs => some ((zipD3 xs ys zs, []), r.2)
    | _, _, _ => none
  | .comb a, env, μ => (evE C a env μ).bind fun p => (seqV p.2 p.1).map fun ds => ((combD ds, []), p.2)
  | .enum a, env, μ => (evE C a env μ).bind fun p => (seqV p.2 p.1).map fun ds => ((enumD 0 ds, lockOf p.2 a p.1), p.2)
end

def evT (C : Call) (c : ME) (env : Ev) (μ : Mem) : Option (Bool × Mem) := (evE C c env μ).bind fun p => (truthD p.2 p.1).map fun b => (b, p.2)
def mthD (m : Mth) (xs : List D) (ds : List D) : Option (List D) := match m, ds with
  | .append, [d] => if xs.length < sizeLine then some (xs ++ [d]) else none
  | .insert, [.int i, d] => if xs.length < sizeLine ∧ 0 ≤ i ∧ i < 2 ^ 63 then some (xs.take i.toNat ++ [d] ++ xs.drop i.toNat) else none
  | _, _ => none
def parE : List Nat → List D → Ev → Option Ev
  | [], [], env => some env
  | i :: is, d :: ds, env => (parE is ds (env.set i (.val d)))
  | _, _, _ => none

mutual
def evS (C : Call) (wf : Nat) : MS → Ev → Mem → Option (Fl × Mem)
  | .asg g e, env, μ => (evE C e env μ).bind fun p => (bindG g p.1 env).map fun e1 => (.nx e1, p.2)
  | .own i e, env, μ => (evE C e env μ).bind fun p => match p.1 with
    | .lst ds => some (.nx (env.set i (.own ds)), p.2)
    | _ => none
  | .par is es, env, μ => (evEs C es env μ).bind fun p => (parE is p.1 env).map fun e1 => (.nx e1, p.2)
  | .aug i o e, env, μ => match env[i]? with
    | some (.val (.int x)) => (evE C e env μ).bind fun p => match o, p.1 with
      | .add, .int y => some (.nx (env.set i (.val (.int (x + y)))), p.2)
      | .sub, .int y => some (.nx (env.set i (.val (.int (x - y)))), p.2)
      | _, _ => none
    | _ => none
  | .sset a i e, env, μ => (evE C e env μ).bind fun p => (evE C a env p.2).bind fun q => (evE C i env q.2).bind fun r => match q.1, r.1 with
    | .ref n, .int k => (r.2[n]?).join.bind fun ds => (ixN ds.length k).map fun j => (.nx env, r.2.set n (some (ds.set j p.1)))
    | _, _ => none
  | .meth m a es, env, μ => (evE C a env μ).bind fun p => match p.1 with
    | .ref n => (p.2[n]?).join.bind fun _ => (evEs C es env p.2).bind fun q => (q.2[n]?).join.bind fun ds => (mthD m ds q.1).map fun ds' => (.nx env, q.2.set n (some ds'))
    | _ => none
  | .ometh m i es, env, μ => match env[i]? with
    | some (.own ds) => (evEs C es env μ).bind fun q => (mthD m ds q.1).map fun ds' => (.nx (env.set i (.own ds')), q.2)
    | _ => none
  | .oset i ix e, env, μ => (evE C e env μ).bind fun p => (evE C ix env p.2).bind fun r => match env[i]?, r.1 with
    | some (.own ds), .int k => (ixN ds.length k).map fun j => (.nx (env.set i (.own (ds.set j p.1))), r.2)
    | _, _ => none
  | .opop i, env, μ => match env[i]? with
    | some (.own ds) => if ds.isEmpty then none else some (.nx (env.set i (.own ds.dropLast)), μ)
    | _ => none
  | .expr e, env, μ => (evE C e env μ).map fun p => (.nx env, p.2)
  | .ret e, env, μ => (evE C e env μ).map fun p => (.rt p.1, p.2)
  | .reto i, env, μ => match env[i]? with
    | some (.own ds) => some (.rt (.lst ds), μ)
    | _ => none
  | .retn, _, μ => some (.rt .non, μ)
  | .iff c a b, env, μ => (evT C c env μ).bind fun p => if p.1 then evSs C wf a env p.2 else evSs C wf b env p.2
  | .for g src body, env, μ => (evI C src env μ).bind fun p => if p.1.2.all Lk.isCell && p.1.2.all (Lk.ok env p.2) then
      forGo (fun x e ν => (bindG g x e).bind fun e1 => evSs C wf body e1 ν) (fun e ν => p.1.2.all (Lk.ok e ν)) p.1.1 env p.2
      else none
  | .whl c body, env, μ => whileGo (fun e ν => evT C c e ν) (fun e ν => evSs C wf body e ν) wf env μ
  | .pass, env, μ => some (.nx env, μ)
  | .doc, env, μ => some (.nx env, μ)
  | .brk, env, μ => some (.bk env, μ)
  | .cnt, env, μ => some (.ct env, μ)
  | .raise, _, _ => none
def evSs (C : Call) (wf : Nat) : List MS → Ev → Mem → Option (Fl × Mem)
  | [], env, μ => some (.nx env, μ)
  | s :: ss, env, μ => (evS C wf s env μ).bind fun p => match p.1 with
    | .nx e => evSs C wf ss e p.2
    | f => some (f, p.2)
end

/-- a def: how many parameters, how many names, its body, whether it hands back a new list -/
structure MF where
  params : Nat
  slots : Nat
  body : List MS
  fresh : Bool
def callN (T : List MF) (wf : Nat) : Nat → Call
  | 0 => fun _ _ _ => none
  | n + 1 => fun f ds μ => (T[f]?).bind fun m => if ds.length = m.params then
      (evSs (callN T wf n) wf m.body (ds.map Sl.val ++ List.replicate (m.slots - m.params) .un) μ).bind fun p => match p.1 with
        | .rt d => some (d, p.2)
        | .nx _ => some (.non, p.2)
        | _ => none
    else none
end DI
set_option Elab.async false
set_option linter.all false
set_option maxRecDepth 100000
/-! DI2: how data stand in the abstract heap -/
namespace DI
open PySem PySem.Spec PyProof.Rows L2
abbrev Cells := List (Option Addr)
def Held (ι : Cells) (B : List Addr) (a : Addr) : Prop := some a ∈ ι ∨ a ∈ B
instance {ι : Cells} {B : List Addr} {a : Addr} : Decidable (Held ι B a) := by unfold Held; infer_instance
def cut (H : Hp) (ι : Cells) (B : List Addr) : Hp := fun a => if Held ι B a then none else H a
theorem cut_some {H : Hp} {ι : Cells} {B : List Addr} {a : Addr} {o : HO} (h : cut H ι B a = some o) : ¬ Held ι B a ∧ H a = some o := by
  unfold cut at h
  by_cases k : Held ι B a
  · rw [if_pos k] at h; cases h
  · rw [if_neg k] at h; exact ⟨k, h⟩
theorem cut_of {H : Hp} {ι : Cells} {B : List Addr} {a : Addr} {o : HO} (k : ¬ Held ι B a) (h : H a = some o) : cut H ι B a = some o := by
  unfold cut; rw [if_neg k]; exact h
theorem cut_same {H : Hp} {ι : Cells} {B : List Addr} : Same (cut H ι B) H := fun _ _ h => (cut_some h).2

mutual
inductive Rep (K : PySem.W.Frag) (G : Hp) (ι : Cells) : V → D → Prop where
  | non : Rep K G ι .non .non
  | bl (b : Bool) : Rep K G ι (.bl b) (.bl b)
  | int (i : Int) : Rep K G ι (.int i) (.int i)
  | str (x : Str) : Rep K G ι (.str x) (.str x)
  | tup {a : Addr} {vs : List V} {ds : List D} (s : SqT K G a vs) (r : Reps K G ι vs ds) : Rep K G ι (.ref a) (.tup ds)
  | lst {a : Addr} {vs : List V} {ds : List D} (s : SqL K G a vs) (r : Reps K G ι vs ds) : Rep K G ι (.ref a) (.lst ds)
  | dic {a : Addr} {kvs : List (Key × V)} {kds : List (Key × D)} (s : G a = some (.dK kvs)) (r : RepKV K G ι kvs kds) : Rep K G ι (.ref a) (.dic kds)
  | ref {n : Nat} {v : V} {x : Option Addr} (e : ι[n]? = some x) (h : ∀ a, x = some a → v = .ref a) : Rep K G ι v (.ref n)
inductive Reps (K : PySem.W.Frag) (G : Hp) (ι : Cells) : List V → List D → Prop where
  | nil : Reps K G ι [] []
  | cons {v : V} {d : D} {vs : List V} {ds : List D} (h : Rep K G ι v d) (t : Reps K G ι vs ds) : Reps K G ι (v :: vs) (d :: ds)
inductive RepKV (K : PySem.W.Frag) (G : Hp) (ι : Cells) : List (Key × V) → List (Key × D) → Prop where
  | nil : RepKV K G ι [] []
  | cons {k : Key} {v : V} {d : D} {vs : List (Key × V)} {ds : List (Key × D)} (h : Rep K G ι v d) (t : RepKV K G ι vs ds) : RepKV K G ι ((k, v) :: vs) ((k, d) :: ds)
end
/-- the frozen part grows, the cells stay or die -/
structure Up (G : Hp) (ι : Cells) (G' : Hp) (ι' : Cells) : Prop where
  fr : Same G G'
  cells : ∀ (n : Nat) (x : Option Addr), ι[n]? = some x → ∃ x', ι'[n]? = some x' ∧ (x' = none ∨ x' = x)
section
variable {K : PySem.W.Frag} {G G' : Hp} {ι ι' : Cells}
mutual
theorem Rep.up (u : Up G ι G' ι') : ∀ {v : V} {d : D}, Rep K G ι v d → Rep K G' ι' v d
  | _, _, .non => .non
  | _, _, .bl b => .bl b
  | _, _, .int b => .int b
  | _, _, .str b => .str b
  | _, _, .tup s r => .tup (by
      rcases s with (s | ⟨o, s⟩) | s
      · exact .inl (.inl (u.fr _ _ s))
      · exact .inl (.inr ⟨o, u.fr _ _ s⟩)
      · exact .inr s) (Reps.up u r)
  | _, _, .lst s r => .lst (u.fr.seq s) (Reps.up u r)
  | _, _, .dic s r => .dic (u.fr _ _ s) (RepKV.up u r)
  | _, _, .ref e h => by
    obtain ⟨x', e', q⟩ := u.cells _ _ e
    refine .ref e' fun a ha => ?_
    rcases q with q | q
    · rw [q] at ha; cases ha
    · rw [q] at ha; exact h a ha
theorem Reps.up (u : Up G ι G' ι') : ∀ {vs : List V} {ds : List D}, Reps K G ι vs ds → Reps K G' ι' vs ds
  | _, _, .nil => .nil
  | _, _, .cons h t => .cons (h.up u) (t.up u)
theorem RepKV.up (u : Up G ι G' ι') : ∀ {vs : List (Key × V)} {ds : List (Key × D)}, RepKV K G ι vs ds → RepKV K G' ι' vs ds
  | _, _, .nil => .nil
  | _, _, .cons h t => .cons (h.up u) (t.up u)
end
theorem RepKV.length : ∀ {vs : List (Key × V)} {ds : List (Key × D)}, RepKV K G ι vs ds → vs.length = ds.length
  | _, _, .nil => rfl
  | _, _, .cons _ t => by rw [List.length_cons, List.length_cons, t.length]
theorem RepKV.any (k : Key) : ∀ {vs : List (Key × V)} {ds : List (Key × D)}, RepKV K G ι vs ds → (vs.any fun p => decide (p.1 = k)) = (ds.any fun p => decide (p.1 = k))
  | _, _, .nil => rfl
  | _, _, .cons _ t => by rw [List.any_cons, List.any_cons, t.any k]
theorem RepKV.snoc {k : Key} {v : V} {d : D} (h : Rep K G ι v d) : ∀ {vs : List (Key × V)} {ds : List (Key × D)}, RepKV K G ι vs ds → RepKV K G ι (vs ++ [(k, v)]) (ds ++ [(k, d)])
  | _, _, .nil => .cons h .nil
  | _, _, .cons a t => .cons a (t.snoc h)
theorem RepKV.setK {k : Key} {v : V} {d : D} (h : Rep K G ι v d) : ∀ {vs : List (Key × V)} {ds : List (Key × D)}, RepKV K G ι vs ds →
    RepKV K G ι (vs.map fun p => if p.1 = k then (p.1, v) else p) (ds.map fun p => if p.1 = k then (p.1, d) else p)
  | _, _, .nil => .nil
  | _, _, .cons (k := k') a t => by
    rw [List.map_cons, List.map_cons]
    by_cases e : k' = k
    · rw [if_pos e, if_pos e]; exact .cons h (t.setK h)
    · rw [if_neg e, if_neg e]; exact .cons a (t.setK h)
theorem RepKV.put {k : Key} {v : V} {d : D} {vs : List (Key × V)} {ds : List (Key × D)} (r : RepKV K G ι vs ds) (h : Rep K G ι v d) : RepKV K G ι (putK vs k v) (putD ds k d) := by
  unfold putK putD
  rw [r.any k]
  split
  · exact r.setK h
  · exact r.snoc h
theorem RepKV.merge : ∀ {ms : List (Key × V)} {ns : List (Key × D)} {vs : List (Key × V)} {ds : List (Key × D)}, RepKV K G ι ms ns → RepKV K G ι vs ds → RepKV K G ι (mergeK vs ms) (mergeD ds ns)
  | _, _, _, _, .nil, r => r
  | _, _, _, _, .cons (k := k) h t, r => by
    have := RepKV.merge t (r.put (k := k) h)
    exact this
theorem Reps.length : ∀ {vs : List V} {ds : List D}, Reps K G ι vs ds → vs.length = ds.length
  | _, _, .nil => rfl
  | _, _, .cons _ t => by rw [List.length_cons, List.length_cons, t.length]
theorem Reps.append : ∀ {vs ws : List V} {ds es : List D}, Reps K G ι vs ds → Reps K G ι ws es → Reps K G ι (vs ++ ws) (ds ++ es)
  | _, _, _, _, .nil, s => s
  | _, _, _, _, .cons h t, s => .cons h (t.append s)
theorem Reps.take : ∀ {vs : List V} {ds : List D} (n : Nat), Reps K G ι vs ds → Reps K G ι (vs.take n) (ds.take n)
  | _, _, 0, _ => .nil
  | _, _, _ + 1, .nil => .nil
  | _, _, n + 1, .cons h t => .cons h (t.take n)
theorem Reps.drop : ∀ {vs : List V} {ds : List D} (n : Nat), Reps K G ι vs ds → Reps K G ι (vs.drop n) (ds.drop n)
  | _, _, 0, r => r
  | _, _, _ + 1, .nil => .nil
  | _, _, n + 1, .cons _ t => t.drop n
theorem Reps.set {v : V} {d : D} (r : Rep K G ι v d) : ∀ {vs : List V} {ds : List D} (i : Nat), Reps K G ι vs ds → Reps K G ι (vs.set i v) (ds.set i d)
  | _, _, _, .nil => .nil
  | _, _, 0, .cons _ t => .cons r t
  | _, _, i + 1, .cons h t => .cons h (t.set r i)
theorem Reps.reverse {vs : List V} {ds : List D} (h : Reps K G ι vs ds) : Reps K G ι vs.reverse ds.reverse := by
  induction h using Reps.rec (motive_1 := fun _ _ _ => True) (motive_3 := fun _ _ _ => True) with
  | nil => exact .nil
  | cons h t _ ih => rw [List.reverse_cons, List.reverse_cons]; exact Reps.append ih (.cons h .nil)
  | _ => trivial
theorem Reps.get : ∀ {vs : List V} {ds : List D} {i : Nat} {d : D}, Reps K G ι vs ds → ds[i]? = some d → ∃ v, vs[i]? = some v ∧ Rep K G ι v d
  | _, _, _, _, .nil, e => by simp at e
  | _, _, 0, _, .cons h _, e => by simp at e; subst e; exact ⟨_, rfl, h⟩
  | _, _, i + 1, _, .cons _ t, e => by
    obtain ⟨v, h1, h2⟩ := Reps.get (i := i) t (by simpa using e)
    exact ⟨v, by simpa using h1, h2⟩
theorem Reps.getV : ∀ {vs : List V} {ds : List D} {i : Nat} {v : V}, Reps K G ι vs ds → vs[i]? = some v → ∃ d, ds[i]? = some d ∧ Rep K G ι v d
  | _, _, _, _, .nil, e => by simp at e
  | _, _, 0, _, .cons h _, e => by simp at e; subst e; exact ⟨_, rfl, h⟩
  | _, _, i + 1, _, .cons _ t, e => by
    obtain ⟨v, h1, h2⟩ := Reps.getV (i := i) t (by simpa using e)
    exact ⟨v, by simpa using h1, h2⟩
end

/-! ### the state -/
structure Sim (K : PySem.W.Frag) (H : Hp) (ι : Cells) (B : List Addr) (μ : Mem) : Prop where
  len : ι.length = μ.length
  inj : ∀ (i j : Nat) (a : Addr), ι[i]? = some (some a) → ι[j]? = some (some a) → i = j
  apart : ∀ a, some a ∈ ι → a ∉ B
  there : ∀ a, some a ∈ ι → ∃ o, H a = some o
  busy : ∀ a, a ∈ B → ∃ o, H a = some o
  cell : ∀ (n : Nat) (ds : List D), μ[n]? = some (some ds) → ∃ a vs, ι[n]? = some (some a) ∧ H a = some (.lst vs) ∧ Reps K (cut H ι B) ι vs ds
structure Ext (H : Hp) (ι : Cells) (B : List Addr) (H' : Hp) (ι' : Cells) (B' : List Addr) : Prop where
  fr : Same (cut H ι B) (cut H' ι' B')
  cells : ∀ (n : Nat) (x : Option Addr), ι[n]? = some x → ∃ x', ι'[n]? = some x' ∧ (x' = none ∨ x' = x)
  sub : ∀ a, a ∈ B → a ∈ B'
  dom : ∀ a, H' a = none → H a = none
  new : ∀ a, a ∈ B' → a ∉ B → H a = none
/-- the objects at F stay as they are -/
def Keep (F : List Addr) (H H' : Hp) : Prop := ∀ a, a ∈ F → H' a = H a
section
variable {K : PySem.W.Frag} {H H1 H2 H' : Hp} {ι ι1 ι2 ι' : Cells} {B B1 B2 B' B0 F : List Addr} {μ : Mem} {σ : L2.St} {env : Ev} {v : V} {d : D}
theorem Ext.up (x : Ext H ι B H' ι' B') : Up (cut H ι B) ι (cut H' ι' B') ι' := ⟨x.fr, x.cells⟩
theorem Ext.refl : Ext H ι B H ι B := ⟨Same.refl _, fun _ x e => ⟨x, e, .inr rfl⟩, fun _ h => h, fun _ h => h, fun a h n => absurd h n⟩
theorem Ext.trans (x : Ext H ι B H1 ι1 B1) (y : Ext H1 ι1 B1 H2 ι2 B2) : Ext H ι B H2 ι2 B2 where
  fr := x.fr.trans y.fr
  cells := fun n z e => by
    obtain ⟨z1, e1, q1⟩ := x.cells n z e
    obtain ⟨z2, e2, q2⟩ := y.cells n z1 e1
    refine ⟨z2, e2, ?_⟩
    rcases q2 with q2 | q2
    · exact .inl q2
    · rcases q1 with q1 | q1
      · exact .inl (q2.trans q1)
      · exact .inr (q2.trans q1)
  sub := fun a h => y.sub a (x.sub a h)
  dom := fun a h => x.dom a (y.dom a h)
  new := fun a h n => by
    by_cases k : a ∈ B1
    · exact x.new a k n
    · exact x.dom a (y.new a h k)
theorem Keep.refl : Keep F H H := fun _ _ => rfl
theorem Keep.trans (x : Keep F H H1) (y : Keep F H1 H2) : Keep F H H2 := fun a h => (y a h).trans (x a h)
theorem Keep.mono (x : Keep F H H1) (s : ∀ a, a ∈ B → a ∈ F) : Keep B H H1 := fun a h => x a (s a h)
theorem held_mono {a : Addr} (h : ¬ Held ι (B := B') a) (s : ∀ a, a ∈ B → a ∈ B') : ¬ Held ι B a := fun k => h (k.imp_right (s a))

/-- a new frozen object -/
theorem fresh_not_held (S : Sim K H ι B μ) {p : Addr} (hp : H p = none) : ¬ Held ι B p := fun h => by
  rcases h with h | h
  · obtain ⟨o, e⟩ := S.there p h; rw [hp] at e; cases e
  · obtain ⟨o, e⟩ := S.busy p h; rw [hp] at e; cases e
theorem cut_upd (S : Sim K H ι B μ) {p : Addr} {o : HO} (hp : H p = none) : Same (cut H ι B) (cut (upd H p o) ι B) := fun a u h => by
  obtain ⟨k, e⟩ := cut_some h
  exact cut_of k (by rw [upd_ne (ne_of_none e hp)]; exact e)
theorem Ext.laid (S : Sim K H ι B μ) {p : Addr} {o : HO} (hp : H p = none) : Ext H ι B (upd H p o) ι B :=
  ⟨cut_upd S hp, fun _ x e => ⟨x, e, .inr rfl⟩, fun _ h => h, fun a h => by
    by_cases k : a = p
    · rw [k]; exact hp
    · rw [upd_ne k] at h; exact h, fun a h n => absurd h n⟩
theorem Keep.laid (S : Sim K H ι B μ) {p : Addr} {o : HO} (hp : H p = none) : Keep B H (upd H p o) := fun a h => by
  obtain ⟨u, e⟩ := S.busy a h
  exact upd_ne (ne_of_none e hp)
theorem Sim.laid (S : Sim K H ι B μ) {p : Addr} {o : HO} (hp : H p = none) : Sim K (upd H p o) ι B μ where
  len := S.len
  inj := S.inj
  apart := S.apart
  there := fun a h => by
    obtain ⟨u, e⟩ := S.there a h
    exact ⟨u, by rw [upd_ne (ne_of_none e hp)]; exact e⟩
  busy := fun a h => by
    obtain ⟨u, e⟩ := S.busy a h
    exact ⟨u, by rw [upd_ne (ne_of_none e hp)]; exact e⟩
  cell := fun n ds h => by
    obtain ⟨a, vs, e1, e2, r⟩ := S.cell n ds h
    exact ⟨a, vs, e1, by rw [upd_ne (ne_of_none e2 hp)]; exact e2, r.up ⟨cut_upd S hp, fun _ x e => ⟨x, e, .inr rfl⟩⟩⟩
/-- .. it is held for a while -/
theorem Ext.hold (S : Sim K H ι B μ) {p : Addr} {o : HO} (hp : H p = none) : Ext H ι B (upd H p o) ι (p :: B) where
  fr := fun a u h => by
    obtain ⟨k, e⟩ := cut_some h
    have ne := ne_of_none e hp
    exact cut_of (fun q => k (q.imp_right fun q => by
      rcases List.mem_cons.mp q with q | q
      · exact absurd q ne
      · exact q)) (by rw [upd_ne ne]; exact e)
  cells := fun _ x e => ⟨x, e, .inr rfl⟩
  sub := fun _ h => List.mem_cons_of_mem _ h
  dom := fun a h => by
    by_cases k : a = p
    · rw [k]; exact hp
    · rw [upd_ne k] at h; exact h
  new := fun a h n => by
    rcases List.mem_cons.mp h with q | q
    · rw [q]; exact hp
    · exact absurd q n
theorem Sim.hold (S : Sim K H ι B μ) {p : Addr} {o : HO} (hp : H p = none) : Sim K (upd H p o) ι (p :: B) μ where
  len := S.len
  inj := S.inj
  apart := fun a h q => by
    rcases List.mem_cons.mp q with q | q
    · obtain ⟨u, e⟩ := S.there a h
      rw [q, hp] at e; cases e
    · exact S.apart a h q
  there := fun a h => by
    obtain ⟨u, e⟩ := S.there a h
    exact ⟨u, by rw [upd_ne (ne_of_none e hp)]; exact e⟩
  busy := fun a h => by
    rcases List.mem_cons.mp h with q | q
    · exact ⟨o, by rw [q]; exact upd_same⟩
    · obtain ⟨u, e⟩ := S.busy a q
      exact ⟨u, by rw [upd_ne (ne_of_none e hp)]; exact e⟩
  cell := fun n ds h => by
    obtain ⟨a, vs, e1, e2, r⟩ := S.cell n ds h
    exact ⟨a, vs, e1, by rw [upd_ne (ne_of_none e2 hp)]; exact e2, r.up (Ext.hold S hp).up⟩
/-- a held object is let go: it is frozen from now on -/
theorem Ext.free {p : Addr} (x : Ext H ι B H' ι' (p :: B)) : Ext H ι B H' ι' B where
  fr := fun a u h => by
    obtain ⟨k, e⟩ := cut_some (x.fr a u h)
    exact cut_of (held_mono k fun b q => List.mem_cons_of_mem _ q) e
  cells := x.cells
  sub := fun _ h => h
  dom := x.dom
  new := fun a h n => absurd h n
theorem cut_free {p : Addr} : Same (cut H ι (p :: B)) (cut H ι B) := fun a u h => by
  obtain ⟨k, e⟩ := cut_some h
  exact cut_of (held_mono k fun b q => List.mem_cons_of_mem _ q) e
theorem Sim.free {p : Addr} (S : Sim K H ι (p :: B) μ) : Sim K H ι B μ where
  len := S.len
  inj := S.inj
  apart := fun a h q => S.apart a h (List.mem_cons_of_mem _ q)
  there := S.there
  busy := fun a h => S.busy a (List.mem_cons_of_mem _ h)
  cell := fun n ds h => by
    obtain ⟨a, vs, e1, e2, r⟩ := S.cell n ds h
    exact ⟨a, vs, e1, e2, r.up ⟨cut_free, fun _ x e => ⟨x, e, .inr rfl⟩⟩⟩
/-- a held object becomes a cell -/
theorem held_cell {p a : Addr} : Held (ι ++ [some p]) B a ↔ Held ι (p :: B) a := by
  unfold Held
  rw [List.mem_append, List.mem_singleton, List.mem_cons]
  constructor
  · rintro ((h | h) | h)
    · exact .inl h
    · exact .inr (.inl (Option.some.inj h))
    · exact .inr (.inr h)
  · rintro (h | h | h)
    · exact .inl (.inl h)
    · exact .inl (.inr (by rw [h]))
    · exact .inr h
theorem cut_cell {p : Addr} : cut H (ι ++ [some p]) B = cut H ι (p :: B) := by
  funext a
  unfold cut
  by_cases h : Held ι (p :: B) a
  · rw [if_pos h, if_pos (held_cell.mpr h)]
  · rw [if_neg h, if_neg fun q => h (held_cell.mp q)]
theorem cells_app {p : Option Addr} (n : Nat) (x : Option Addr) (e : ι[n]? = some x) : ∃ x', (ι ++ [p])[n]? = some x' ∧ (x' = none ∨ x' = x) :=
  ⟨x, by rw [List.getElem?_append_left (List.getElem?_eq_some_iff.mp e).1]; exact e, .inr rfl⟩
theorem Ext.cell {p : Addr} (x : Ext H ι B H' ι' (p :: B)) : Ext H ι B H' (ι' ++ [some p]) B where
  fr := by rw [cut_cell]; exact x.fr
  cells := fun n z e => by
    obtain ⟨z1, e1, q1⟩ := x.cells n z e
    obtain ⟨z2, e2, q2⟩ := cells_app (p := some p) n z1 e1
    refine ⟨z2, e2, ?_⟩
    rcases q2 with q2 | q2
    · exact .inl q2
    · rcases q1 with q1 | q1
      · exact .inl (q2.trans q1)
      · exact .inr (q2.trans q1)
  sub := fun _ h => h
  dom := x.dom
  new := fun a h n => absurd h n
theorem Sim.cell' {p : Addr} {vs : List V} {ds : List D} (S : Sim K H ι (p :: B) μ) (np : p ∉ B) (h : H p = some (.lst vs)) (r : Reps K (cut H ι (p :: B)) ι vs ds) : Sim K H (ι ++ [some p]) B (μ ++ [some ds]) where
  len := by rw [List.length_append, List.length_append, S.len]; rfl
  inj := by
    have old : ∀ (i : Nat) (a : Addr), (ι ++ [some p])[i]? = some (some a) → (ι[i]? = some (some a) ∧ a ≠ p) ∨ (i = ι.length ∧ a = p) := fun i a h => by
      by_cases hi : i < ι.length
      · rw [List.getElem?_append_left hi] at h
        refine .inl ⟨h, fun e => S.apart a (List.mem_of_getElem? h) (by rw [e]; exact List.mem_cons_self)⟩
      · rw [List.getElem?_append_right (by omega)] at h
        obtain ⟨h1, h2⟩ := List.getElem?_eq_some_iff.mp h
        simp at h1 h2
        exact .inr ⟨by omega, h2.symm⟩
    intro i j a hi hj
    rcases old i a hi with ⟨h1, n1⟩ | ⟨h1, n1⟩
    · rcases old j a hj with ⟨h2, n2⟩ | ⟨h2, n2⟩
      · exact S.inj i j a h1 h2
      · exact absurd n2 n1
    · rcases old j a hj with ⟨h2, n2⟩ | ⟨h2, n2⟩
      · exact absurd n1 n2
      · exact h1.trans h2.symm
  apart := fun a h q => by
    rcases List.mem_append.mp h with h | h
    · exact S.apart a h (List.mem_cons_of_mem _ q)
    · rw [List.mem_singleton] at h; cases h; exact np q
  there := fun a h' => by
    rcases List.mem_append.mp h' with h' | h'
    · exact S.there a h'
    · rw [List.mem_singleton] at h'; cases h'; exact ⟨_, h⟩
  busy := fun a h => S.busy a (List.mem_cons_of_mem _ h)
  cell := fun n es e => by
    have u : Up (cut H ι (p :: B)) ι (cut H (ι ++ [some p]) B) (ι ++ [some p]) := ⟨by rw [cut_cell]; exact Same.refl _, fun n x e => cells_app n x e⟩
    by_cases hn : n < μ.length
    · rw [List.getElem?_append_left hn] at e
      obtain ⟨a, ws, e1, e2, r'⟩ := S.cell n es e
      exact ⟨a, ws, by rw [List.getElem?_append_left (by rw [S.len]; exact hn)]; exact e1, e2, r'.up u⟩
    · rw [List.getElem?_append_right (by omega)] at e
      obtain ⟨h1, h2⟩ := List.getElem?_eq_some_iff.mp e
      simp at h1 h2
      have en : n = ι.length := by rw [S.len]; omega
      subst h2
      exact ⟨p, vs, by rw [en, List.getElem?_append_right (Nat.le_refl _)]; simp, h, r.up u⟩

/-- the names -/
structure REnv (K : PySem.W.Frag) (H : Hp) (ι : Cells) (B B0 : List Addr) (σ : L2.St) (env : Ev) : Prop where
  len : env.length = σ.length
  val : ∀ (i : Nat) (d : D), env[i]? = some (.val d) → ∃ v, σ[i]? = some (some v) ∧ Rep K (cut H ι B) ι v d
  own : ∀ (i : Nat) (ds : List D), env[i]? = some (.own ds) → ∃ a vs, σ[i]? = some (some (.ref a)) ∧ a ∈ B ∧ a ∉ B0 ∧ H a = some (.lst vs) ∧ Reps K (cut H ι B) ι vs ds
  sep : ∀ (i j : Nat) (ds es : List D) (a : Addr), env[i]? = some (.own ds) → env[j]? = some (.own es) → σ[i]? = some (some (.ref a)) → σ[j]? = some (some (.ref a)) → i = j
theorem REnv.ext (R : REnv K H ι B B0 σ env) (x : Ext H ι B H' ι' B') (k : Keep B H H') : REnv K H' ι' B' B0 σ env where
  len := R.len
  val := fun i d h => by
    obtain ⟨v, e, r⟩ := R.val i d h
    exact ⟨v, e, r.up x.up⟩
  own := fun i ds h => by
    obtain ⟨a, vs, e1, e2, e3, e4, r⟩ := R.own i ds h
    exact ⟨a, vs, e1, x.sub a e2, e3, by rw [k a e2]; exact e4, r.up x.up⟩
  sep := R.sep

/-- an argument that is only read: also a list of one's own -/
inductive RepA (K : PySem.W.Frag) (H : Hp) (ι : Cells) (B : List Addr) : V → D → Prop where
  | rep {v : V} {d : D} (r : Rep K (cut H ι B) ι v d) : RepA K H ι B v d
  | own {a : Addr} {vs : List V} {ds : List D} (b : a ∈ B) (h : H a = some (.lst vs)) (r : Reps K (cut H ι B) ι vs ds) : RepA K H ι B (.ref a) (.lst ds)
theorem RepA.ext (r : RepA K H ι B v d) (x : Ext H ι B H' ι' B') (k : Keep B H H') : RepA K H' ι' B' v d := by
  cases r with
  | rep r => exact .rep (r.up x.up)
  | own b h r => exact .own (x.sub _ b) (by rw [k _ b]; exact h) (r.up x.up)
theorem sqT_cut {a : Addr} {vs : List V} (s : SqT K (cut H ι B) a vs) : SqT K H a vs := by
  rcases s with (s | ⟨o, s⟩) | s
  · exact .inl (.inl (cut_same _ _ s))
  · exact .inl (.inr ⟨o, cut_same _ _ s⟩)
  · exact .inr s
theorem sqL_cut {a : Addr} {vs : List V} (s : SqL K (cut H ι B) a vs) : SqL K H a vs := cut_same.seq s
theorem RepA.seq (S : Sim K H ι B μ) {ds : List D} (r : RepA K H ι B v d) (e : seqV μ d = some ds) : ∃ a vs, v = .ref a ∧ SqL K H a vs ∧ Reps K (cut H ι B) ι vs ds := by
  cases r with
  | own b h r => cases e; exact ⟨_, _, rfl, SqL.of h, r⟩
  | rep r =>
    cases r with
    | lst s r => cases e; exact ⟨_, _, rfl, sqL_cut s, r⟩
    | @ref n _ x e1 h =>
      have e' : (μ[n]?).join = some ds := e
      cases q : μ[n]? with
      | none => rw [q] at e'; cases e'
      | some y =>
        rw [q] at e'
        have e2 : y = some ds := e'
        rw [e2] at q
        obtain ⟨a, vs, h1, h2, r⟩ := S.cell n ds q
        rw [h1] at e1
        cases e1
        exact ⟨a, vs, h a rfl, SqL.of h2, r⟩
    | _ => cases e
theorem RepA.tup {ds : List D} (r : RepA K H ι B v (.tup ds)) : ∃ a vs, v = .ref a ∧ SqT K H a vs ∧ Reps K (cut H ι B) ι vs ds := by
  cases r with
  | rep r => cases r with
    | tup s r => exact ⟨_, _, rfl, sqT_cut s, r⟩
theorem RepA.int {i : Int} (r : RepA K H ι B v (.int i)) : v = .int i := by
  cases r with
  | rep r => cases r; rfl
theorem RepA.bl {i : Bool} (r : RepA K H ι B v (.bl i)) : v = .bl i := by
  cases r with
  | rep r => cases r; rfl
theorem RepA.str {i : Str} (r : RepA K H ι B v (.str i)) : v = .str i := by
  cases r with
  | rep r => cases r; rfl
theorem RepA.non (r : RepA K H ι B v .non) : v = .non := by
  cases r with
  | rep r => cases r; rfl

/-! ### plain data -/
mutual
theorem dp_of {G : Hp} (hG : Same G H) {cf : Nat → Option PyData} (hc : ∀ (n : Nat) (y : PyData) (v : V), cf n = some y → Rep K G ι v (.ref n) → Dp K H v y) : ∀ (d : D) (v : V) (x : PyData), Rep K G ι v d → pyW cf d = some x → Dp K H v x
  | .non, _, _, .non, e => by simp only [pyW, Option.some.injEq] at e; subst e; exact .non
  | .bl _, _, _, .bl _, e => by simp only [pyW, Option.some.injEq] at e; subst e; exact .bl _
  | .int _, _, _, .int _, e => by simp only [pyW, Option.some.injEq] at e; subst e; exact .int _
  | .str _, _, _, .str _, e => by simp only [pyW, Option.some.injEq] at e; subst e; exact .str _
  | .tup ds, _, x, .tup s r, e => by
    simp only [pyW] at e
    obtain ⟨ys, e1, e2⟩ := Option.map_eq_some_iff.mp e
    subst e2
    refine .tup ?_ (dps_of hG hc ds _ ys r e1)
    rcases s with (s | ⟨o, s⟩) | s
    · exact .inl (.inl (hG _ _ s))
    · exact .inl (.inr ⟨o, hG _ _ s⟩)
    · exact .inr s
  | .lst ds, _, x, .lst s r, e => by
    simp only [pyW] at e
    obtain ⟨ys, e1, e2⟩ := Option.map_eq_some_iff.mp e
    subst e2
    exact .lst (hG.seq s) (dps_of hG hc ds _ ys r e1)
  | .dic _, _, _, _, e => by simp only [pyW] at e; cases e
  | .ref n, v, x, r, e => by
    simp only [pyW] at e
    exact hc n x v e r
theorem dps_of {G : Hp} (hG : Same G H) {cf : Nat → Option PyData} (hc : ∀ (n : Nat) (y : PyData) (v : V), cf n = some y → Rep K G ι v (.ref n) → Dp K H v y) : ∀ (ds : List D) (vs : List V) (xs : List PyData), Reps K G ι vs ds → pyWs cf ds = some xs → DpAll K H vs xs
  | [], _, xs, .nil, e => by simp only [pyWs, Option.some.injEq] at e; subst e; exact .nil
  | d :: ds, _, xs, .cons h t, e => by
    simp only [pyWs] at e
    obtain ⟨y, e1, e2⟩ := Option.bind_eq_some_iff.mp e
    obtain ⟨ys, e3, e4⟩ := Option.map_eq_some_iff.mp e2
    subst e4
    exact .cons (dp_of hG hc d _ y h e1) (dps_of hG hc ds _ ys t e3)
end
theorem cell_dp (S : Sim K H ι B μ) : ∀ (k n : Nat) (y : PyData) (v : V), cellPy μ k n = some y → Rep K (cut H ι B) ι v (.ref n) → Dp K H v y
  | 0, _, _, _, e, _ => by cases e
  | k + 1, n, y, v, e, r => by
    unfold cellPy at e
    obtain ⟨ds, e1, e2⟩ := Option.bind_eq_some_iff.mp e
    obtain ⟨ys, e3, e4⟩ := Option.map_eq_some_iff.mp e2
    subst e4
    obtain ⟨a, vs, ev, s, r'⟩ := RepA.seq S (.rep r) (show seqV μ (.ref n) = some ds from e1)
    subst ev
    exact .lst s (dps_of cut_same (cell_dp S k) ds vs ys r' e3)
theorem RepA.py (S : Sim K H ι B μ) {x : PyData} (r : RepA K H ι B v d) (e : toPy μ d = some x) : Dp K H v x := by
  cases r with
  | rep r => exact dp_of cut_same (cell_dp S 8) d v x r e
  | @own a vs ds b h r =>
    unfold toPy at e
    simp only [pyW] at e
    obtain ⟨ys, e1, e2⟩ := Option.map_eq_some_iff.mp e
    subst e2
    exact .lst (SqL.of h) (dps_of cut_same (cell_dp S 8) ds _ ys r e1)
end
end DI
set_option Elab.async false
set_option linter.all false
set_option maxRecDepth 100000
/-! DI3: a def's promise where no repr is under way (guards), and calls by it -/
namespace DI
open PySem PySem.Spec PyProof.Rows L2
def noStar : Expr → Bool
  | .Starred .. => false
  | _ => true
theorem star_cons {e : Expr} (h : noStar e = true) (es : List Expr) (env : Env) : starEach (e :: es) env = (false, eval e env) :: starEach es env := by
  cases e <;> first | rfl | (cases h)
theorem star_any (pos : Pos) (env : Env) : ∀ es : List Expr, es.all noStar = true → (backTo pos (starEach es env)).any (·.1) = false
  | [], _ => by simp [starEach, backTo]
  | e :: es, h => by
    rw [List.all_cons, Bool.and_eq_true] at h
    have ih := star_any pos env es h.2
    rw [star_cons h.1]
    unfold backTo at ih ⊢
    rw [List.map_cons, List.any_cons, ih]
    rfl
/-- as FnOk, and the guards are known -/
structure FnG (P : Program) (w : World) (K : PySem.W.Frag) (mg : Str → Option Value) (base : Heap) (n : Nat) (f : Addr) (fd : FuncData) (ps : List Str) (sp : Sp) : Prop where
  len : ∀ vs H Q, sp vs H Q E0 → vs.length = ps.length
  run : ∀ (A : Around) (outer : List Env) (s : Shared) (H : Hp) (args : Args) (us : List Value) (vs : List V) (Q : VK), Room n A → A.guards = some [] →
    Env0 P w K mg base A outer s H → BindsTo s fd args (ps.zip us) → Vals vs us → sp vs H Q E0 →
      codeAny (model P w) A (.call (.ref f) args) (CR CX0 outer P w H s Q E0) s
section
variable {X : Cx} {n : Nat} {f : Addr} {fd : FuncData} {ps : List Str} {sp : Sp} {pins : List (Addr × Obj)} {σ : L2.St} {H : Hp} {s : Shared} {Q : VK} {us ws : List Value} {vs zs : List V} {x : Str} {p pos : Pos} {e : Expr} {es : List Expr} {t tk : TA}
theorem runG (F : FnG X.prog X.w X.K X.mg X.base n f fd ps sp) (rm : Room n X.A) (gd : X.A.guards = some []) (I : Inv X pins σ H s) {a : List Value} {kw : List (Str × Value)} {all : List Value} {va : List V}
    (b : BindsTo s fd ⟨a, kw⟩ (ps.zip all)) (r : Vals va all) (h : sp va H Q E0) : wpAny (model X.prog X.w) X.A (call (.ref f) a kw) (EP X pins σ Q) X.xe s := by
  refine wpAny_call (codeAny_mono (F.run X.A X.stack s H _ all va Q rm gd I.env0 b r h) fun z s' q => ?_)
  rcases z with e | (_ | _ | _ | u)
  · exact False.elim q
  · exact False.elim q
  · exact False.elim q
  · exact False.elim q
  · exact I.after q
theorem goG (F : FnG X.prog X.w X.K X.mg X.base n f fd ps sp) (rm : Room n X.A) (gd : X.A.guards = some []) (hb : Binds X.K fd ps []) (I : Inv X pins σ H s) (r : Vals vs us) (q : sp (vs ++ []) H Q E0) :
    wpAny (model X.prog X.w) X.A (call (.ref f) us) (EP X pins σ Q) X.xe s := by
  have hl := F.len _ _ _ q
  rw [List.append_nil] at hl q
  have b := hb s us I.kIn (by rw [List.append_nil, ← r.length]; exact hl)
  rw [List.append_nil] at b
  exact runG F rm gd I b r q
/-- f(..) by position -/
theorem pe_callG (F : FnG X.prog X.w X.K X.mg X.base n f fd ps sp) (rm : Room n X.A) (gd : X.A.guards = some []) (hg : Gl X x) (hm : X.mg x = some (.ref f)) (hk : PySem.W.keepIn X.K (.ref f) = true) (hb : Binds X.K fd ps [])
    (ha : PA X (e :: es) t) (hd : (x == ("__debug__" : Str)) = false) (hns : (e :: es).all noStar = true) : PE X (.Call (.Name x p) (e :: es) [] pos) (tCall sp [] E0 t) := by
  refine ⟨fun pins s σ H Q I h => wpAny_Call_Name_kw (ld_glob I hg hm ?_ hd)⟩
  rw [List.all_cons, Bool.and_eq_true] at hns
  refine PySem.W.callWith_K (h₀ := X.base) I.ok.mod.kin hk (thn (ha.run pos pins s σ H _ I h) fun us s1 ⟨vs, H1, I1, r, q⟩ => ⟨I1.kIn, ?_⟩) (star_cons hns.1 _ _) (star_any _ _ _ hns.2)
  exact goG F rm gd hb I1 r q
/-- f() -/
theorem pe_callG0 (F : FnG X.prog X.w X.K X.mg X.base n f fd ps sp) (rm : Room n X.A) (gd : X.A.guards = some []) (hg : Gl X x) (hm : X.mg x = some (.ref f)) (hk : PySem.W.keepIn X.K (.ref f) = true) (hb : Binds X.K fd ps [])
    (hd : (x == ("__debug__" : Str)) = false) : PE X (.Call (.Name x p) [] [] pos) (tCall sp [] E0 tNil) :=
  ⟨fun pins s σ H Q I h => wpAny_Call_Name_kw (ld_glob I hg hm (PySem.W.callWith_K0 I.kIn hk (goG (us := []) F rm gd hb I .nil h)) hd)⟩

/-- f(..) by position, the defaults dv behind -/
theorem goD {dv : List Value} {dvs : List V} (F : FnG X.prog X.w X.K X.mg X.base n f fd ps sp) (rm : Room n X.A) (gd : X.A.guards = some []) (hb : Binds X.K fd ps dv) (hd : Vals dvs dv) (I : Inv X pins σ H s) (r : Vals vs us) (q : sp (vs ++ dvs) H Q E0) :
    wpAny (model X.prog X.w) X.A (call (.ref f) us) (EP X pins σ Q) X.xe s := by
  have hl := F.len _ _ _ q
  have b := hb s us I.kIn (by rw [← (r.append hd).length]; exact hl)
  exact runG F rm gd I b (r.append hd) q
theorem pe_callD {dv : List Value} {dvs : List V} (F : FnG X.prog X.w X.K X.mg X.base n f fd ps sp) (rm : Room n X.A) (gd : X.A.guards = some []) (hg : Gl X x) (hm : X.mg x = some (.ref f)) (hk : PySem.W.keepIn X.K (.ref f) = true) (hb : Binds X.K fd ps dv) (hd2 : Vals dvs dv)
    (ha : PA X (e :: es) t) (hd : (x == ("__debug__" : Str)) = false) (hns : (e :: es).all noStar = true) : PE X (.Call (.Name x p) (e :: es) [] pos) (tCall sp dvs E0 t) := by
  refine ⟨fun pins s σ H Q I h => wpAny_Call_Name_kw (ld_glob I hg hm ?_ hd)⟩
  rw [List.all_cons, Bool.and_eq_true] at hns
  refine PySem.W.callWith_K (h₀ := X.base) I.ok.mod.kin hk (thn (ha.run pos pins s σ H _ I h) fun us s1 ⟨vs, H1, I1, r, q⟩ => ⟨I1.kIn, ?_⟩) (star_cons hns.1 _ _) (star_any _ _ _ hns.2)
  exact goD F rm gd hb hd2 I1 r q

/-! ### keywords -/
/-- how a def's parameters come from the arguments and the keywords ks: each parameter's place in both together -/
structure KwB (K : PySem.W.Frag) (fd : FuncData) (ps ks : List Str) (npos : Nat) (perm : List Nat) : Prop where
  to : ∀ (s : Shared) (us ws all : List Value), us.length = npos → ws.length = ks.length → perm.map (fun i => (us ++ ws)[i]?) = all.map some → BindsTo s fd ⟨us, ks.zip ws⟩ (ps.zip all)
theorem vals_pick {all : List V} {us : List Value} (r : Vals all us) : ∀ (perm : List Nat) (vs : List V), perm.map (fun i => all[i]?) = vs.map some → ∃ ws, Vals vs ws ∧ perm.map (fun i => us[i]?) = ws.map some
  | [], [], _ => ⟨[], .nil, rfl⟩
  | [], _ :: _, h => by cases h
  | _ :: _, [], h => by cases h
  | i :: perm, v :: vs, h => by
    rw [List.map_cons, List.map_cons] at h
    injection h with h1 h2
    obtain ⟨u, e, rv⟩ := r.get h1
    obtain ⟨ws, r', e'⟩ := vals_pick r perm vs h2
    exact ⟨u :: ws, .cons rv r', by rw [List.map_cons, List.map_cons, e, e']⟩
def tCallP (sp : Sp) (perm : List Nat) (t tk : TA) : TE := fun σ H Q => t σ H fun vs H1 => tk σ H1 fun zs H2 => ∃ all, perm.map (fun i => (vs ++ zs)[i]?) = all.map some ∧ sp all H2 Q E0
theorem goK {ks : List Str} {perm : List Nat} {all : List V} {np : Nat} (F : FnG X.prog X.w X.K X.mg X.base n f fd ps sp) (rm : Room n X.A) (gd : X.A.guards = some []) (hb : KwB X.K fd ps ks np perm) (I : Inv X pins σ H s) (r : Vals vs us) (rz : Vals zs ws)
    (l1 : vs.length = np) (l2 : zs.length = ks.length) (ea : perm.map (fun i => (vs ++ zs)[i]?) = all.map some) (q : sp all H Q E0) :
    wpAny (model X.prog X.w) X.A (call (.ref f) us (ks.zip ws)) (EP X pins σ Q) X.xe s := by
  obtain ⟨vals, rv, ev⟩ := vals_pick (r.append rz) perm all ea
  exact runG F rm gd I (hb.to s us ws vals (by rw [← r.length]; exact l1) (by rw [← rz.length]; exact l2) ev) rv q
def kwPlain : List Keyword → Bool
  | [] => true
  | ⟨some _, e, _⟩ :: r => noStar e && kwPlain r
  | ⟨none, _, _⟩ :: _ => false
def kwNames : List Keyword → List Str
  | [] => []
  | ⟨some k, _, _⟩ :: r => k :: kwNames r
  | ⟨none, _, _⟩ :: r => kwNames r
theorem kw_facts (env : Env) (pos : Pos) : ∀ kws : List Keyword, kwPlain kws = true → (backToKw pos (keywordEach kws env)).all (·.1.isSome) = true ∧ (backToKw pos (keywordEach kws env)).filterMap (·.1) = kwNames kws ∧
    (backToKw pos (keywordEach kws env)).any (·.1.isNone) = false
  | [], _ => ⟨rfl, rfl, rfl⟩
  | ⟨some k, e, kp⟩ :: r, h => by
    have h' : kwPlain r = true := by
      have q : (noStar e && kwPlain r) = true := h
      rw [Bool.and_eq_true] at q
      exact q.2
    obtain ⟨h1, h2, h3⟩ := kw_facts env pos r h'
    unfold backToKw at h1 h2 h3 ⊢
    simp only [keywordEach, List.map_cons, List.all_cons, List.filterMap_cons, List.any_cons, kwNames, h1, h2, h3, Option.isSome_some, Option.isNone_some, Bool.and_true, Bool.or_false, and_self]
  | ⟨none, _, _⟩ :: _, h => by cases h
theorem pe_callKG {kws : List Keyword} {perm : List Nat} (F : FnG X.prog X.w X.K X.mg X.base n f fd ps sp) (rm : Room n X.A) (gd : X.A.guards = some []) (hg : Gl X x) (hm : X.mg x = some (.ref f)) (hk : PySem.W.keepIn X.K (.ref f) = true)
    (hb : KwB X.K fd ps (kwNames kws) (es.length + 1) perm) (ha : PA X (e :: es) t) (hkw : PK X kws tk) (hd : (x == ("__debug__" : Str)) = false) (hns : (e :: es).all noStar = true) (hp : kwPlain kws = true) {l1 : Nat}
    (hl : ∀ σ H Q, t σ H Q → t σ H fun vs H1 => vs.length = es.length + 1 ∧ Q vs H1) (hl2 : ∀ σ H Q, tk σ H Q → tk σ H fun vs H1 => vs.length = (kwNames kws).length ∧ Q vs H1) :
    PE X (.Call (.Name x p) (e :: es) kws pos) (tCallP sp perm t tk) := by
  refine ⟨fun pins s σ H Q I h => wpAny_Call_Name_kw (ld_glob I hg hm ?_ hd)⟩
  rw [List.all_cons, Bool.and_eq_true] at hns
  obtain ⟨k1, k2, k3⟩ := kw_facts X.env pos kws hp
  refine PySem.W.callWith_KW (h₀ := X.base) I.ok.mod.kin hk k1 (thn (ha.run pos pins s σ H _ I (hl _ _ _ h)) fun us s1 ⟨vs, H1, I1, r, lv, q⟩ => ?_) ?_ (star_cons hns.1 _ _)
  · refine thn (hkw.run pos pins s1 σ H1 _ I1 (hl2 _ _ _ q)) fun ws s2 ⟨zs, H2, I2, rz, lz, all, ea, q2⟩ => ⟨I2.kIn, ?_⟩
    rw [k2]
    exact goK F rm gd hb I2 r rz lv lz ea q2
  · rw [star_any _ _ (e :: es) (by rw [List.all_cons, hns.1, hns.2]; rfl), k3]
    rfl
theorem pe_callKG0 {kws : List Keyword} {perm : List Nat} (F : FnG X.prog X.w X.K X.mg X.base n f fd ps sp) (rm : Room n X.A) (gd : X.A.guards = some []) (hg : Gl X x) (hm : X.mg x = some (.ref f)) (hk : PySem.W.keepIn X.K (.ref f) = true)
    (hb : KwB X.K fd ps (kwNames kws) 0 perm) (hkw : PK X kws tk) (hd : (x == ("__debug__" : Str)) = false) (hp : kwPlain kws = true)
    (hl2 : ∀ σ H Q, tk σ H Q → tk σ H fun vs H1 => vs.length = (kwNames kws).length ∧ Q vs H1) :
    PE X (.Call (.Name x p) [] kws pos) (tCallP sp perm tNil tk) := by
  refine ⟨fun pins s σ H Q I h => wpAny_Call_Name_kw (ld_glob I hg hm ?_ hd)⟩
  obtain ⟨k1, k2, k3⟩ := kw_facts X.env pos kws hp
  refine PySem.W.callWith_KW0 (h₀ := X.base) I.ok.mod.kin hk k1 (thn (hkw.run pos pins s σ H _ I (hl2 _ _ _ h)) fun ws s2 ⟨zs, H2, I2, rz, lz, all, ea, q2⟩ => ⟨I2.kIn, ?_⟩) (by rw [k3]; rfl)
  rw [k2]
  exact goK (vs := []) (us := []) F rm gd hb I2 .nil rz rfl lz ea q2
end

/-- a def by its body, with the guards -/
theorem toD {K : PySem.W.Frag} {x qual : Str} {st : Stmt} {f : Addr} {fd : FuncData} (F : Fun K x qual st f fd) : FunD K x qual (defArgs st) (defBody st) (defScope st) [] [] f fd := by
  obtain ⟨oc, od, kV, doc, pm, an, cdv, ct, osl, e, lk, hcd⟩ := F.ex
  exact ⟨⟨oc, od, .none, kV, doc, pm, an, cdv, ct, osl, e, lk, hcd, .inl ⟨rfl, rfl⟩, .inl rfl⟩, F.kp⟩
theorem FnG.of {P : Program} {w : World} {K : PySem.W.Frag} {mg : Str → Option Value} {base : Heap} {x qual : Str} {st : Stmt} {f : Addr} {fd : FuncData} {N ps : List Str} {k : Nat} {sp : Sp} {dvs : List V} {kws : List (Str × V)} (F : FunD K x qual (defArgs st) (defBody st) (defScope st) dvs kws f fd) (S : FnScope N ps (defScope st))
    (len : ∀ vs H Q, sp vs H Q E0 → vs.length = ps.length)
    (body : ∀ (cdv : Value) (A : Around) (outer : List Env) (s : Shared) (H : Hp) (vs : List V) (Q : VK), Room k (A.deeper (envOfC qual (defScope st) s.heap.objs.size f cdv)) → A.guards = some [] → sp vs H Q E0 →
      ∃ t, PSs (cxOf CX0 P w K mg base N qual (defScope st) f cdv A outer s H E0).nox (defBody st) t ∧ t { nx := fun _ H' => Q .non H', rt := Q } (start N vs) H) : FnG P w K mg base (k + 1) f fd ps sp := by
  refine ⟨len, fun A outer s H args us vs Q rm gd e0 hb r hsp => ?_⟩
  -- the promise at this very call
  have one : FnOk P w K mg base CX0 (k + 1) f fd ps (fun vs' H' Q' E' => A.guards = some [] ∧ sp vs' H' Q' E0 ∧ False) := by
    exact F.ok S (fun _ _ _ _ z => z.2.2.elim) fun _ _ _ _ _ _ _ _ _ z => z.2.2.elim
  obtain ⟨oc, od, dV, kV, doc, pm, an, cdv, ct, osl, rfl, lk, hcd, _, _⟩ := F.ex
  have hl := len vs H Q hsp
  have stays : ∀ b o, base.get? b = some o → s.heap.get? b = some o := fun b o e => (e0.bs b o e).1
  have inK : K.In s.heap := e0.mod.kin.keeps stays
  have par : ∀ y ∈ ps.zip us, (defScope st).names.lookup y.1 = some .local ∨ ((defScope st).names.lookup y.1 = some .cell ∧ ((cellsFrom (s.heap.objs.size + 1) (defScope st).names []).lookup y.1).isSome = true) := by
    rintro ⟨y, v⟩ hy
    rcases S.par y (List.of_mem_zip hy).1 with q | q
    · exact .inl q
    · exact .inr ⟨q, PySem.W.cellsFrom_some _ _ _ (.inl q)⟩
  refine codeAny_call_function rm.depth (inK _ _ lk) rfl S.co S.gen rfl (PySem.W.codeRec_of inK hcd) (hb _ _ _ _ ?_)
  refine wpAny_newFunctionEnv_cells S.kind par fun env he s1 x1 => ?_
  subst he
  refine ⟨(e0.mod.nolimit.keeps stays).keeps x1.toInCall.keep, codeAny_func ?_⟩
  obtain ⟨t, ht, hq⟩ := body cdv A outer s H vs Q (rm.deeper _) gd hsp
  have I := inv_start (CX := CX0) (E := E0) (qual := qual) (f := f) (cd := cdv) S rm.hd e0 hl r x1
  refine wpAny_mono (ht.nox.run [] s1 (start N vs) H _ I hq) (fun fl s' hs => ?_) fun _ _ z => z
  rcases fl with _ | _ | _ | u
  · obtain ⟨σ', H', J, q⟩ := hs
    exact ⟨.non, H', J.os, J.bare, J.base, J.hok, rfl, q⟩
  · obtain ⟨_, _, _, q⟩ := hs
    exact False.elim q
  · obtain ⟨_, _, _, q⟩ := hs
    exact False.elim q
  · obtain ⟨v, σ', H', J, rv, q⟩ := hs
    exact ⟨v, H', J.os, J.bare, J.base, J.hok, rv, q⟩
end DI
set_option Elab.async false
set_option linter.all false
set_option maxRecDepth 100000
/-! DI4: readings of expressions, rule by rule -/
namespace DI
open PySem PySem.Spec PyProof.Rows L2
theorem PEcon {X : Cx} {e : Expr} {t t' : TE} (h : PE X e t) (i : ∀ σ H Q, t' σ H Q → t σ H Q) : PE X e t' := ⟨fun pins s σ H Q I w => h.run pins s σ H Q I (i σ H Q w)⟩
theorem PTcon {X : Cx} {e : Expr} {t t' : TT} (h : PT X e t) (i : ∀ σ H Q, t' σ H Q → t σ H Q) : PT X e t' := ⟨fun pins s σ H Q I w => h.run pins s σ H Q I (i σ H Q w)⟩
theorem PAcon {X : Cx} {e : List Expr} {t t' : TA} (h : PA X e t) (i : ∀ σ H Q, t' σ H Q → t σ H Q) : PA X e t' := ⟨fun pos pins s σ H Q I w => h.run pos pins s σ H Q I (i σ H Q w)⟩
theorem PScon {X : Cx} {e : Stmt} {t t' : TS} (h : PS X e t) (i : ∀ D σ H, t' D σ H → t D σ H) : PS X e t' := ⟨fun pins s σ H D I w => h.run pins s σ H D I (i D σ H w)⟩
theorem PSscon {X : Cx} {e : List Stmt} {t t' : TS} (h : PSs X e t) (i : ∀ D σ H, t' D σ H → t D σ H) : PSs X e t' := ⟨fun pins s σ H D I w => h.run pins s σ H D I (i D σ H w)⟩

/-- a step: what was frozen stays, what is held is as it was -/
structure Nx (K : PySem.W.Frag) (H : Hp) (ι : Cells) (B : List Addr) (H' : Hp) (ι' : Cells) (μ' : Mem) : Prop where
  x : Ext H ι B H' ι' B
  k : Keep B H H'
  s : Sim K H' ι' B μ'
section
variable {K : PySem.W.Frag} {H H1 H2 H' : Hp} {ι ι1 ι2 ι' : Cells} {B B0 : List Addr} {μ μ1 μ2 μ' : Mem} {σ : L2.St} {env : Ev} {v : V} {d : D}
theorem Nx.refl (S : Sim K H ι B μ) : Nx K H ι B H ι μ := ⟨Ext.refl, Keep.refl, S⟩
theorem Nx.trans (a : Nx K H ι B H1 ι1 μ1) (b : Nx K H1 ι1 B H2 ι2 μ2) : Nx K H ι B H2 ι2 μ2 := ⟨a.x.trans b.x, a.k.trans b.k, b.s⟩
theorem Nx.renv (a : Nx K H ι B H1 ι1 μ1) (R : REnv K H ι B B0 σ env) : REnv K H1 ι1 B B0 σ env := R.ext a.x a.k
theorem Nx.rep (a : Nx K H ι B H1 ι1 μ1) (r : Rep K (cut H ι B) ι v d) : Rep K (cut H1 ι1 B) ι1 v d := r.up a.x.up
theorem Nx.reps {vs : List V} {ds : List D} (a : Nx K H ι B H1 ι1 μ1) (r : Reps K (cut H ι B) ι vs ds) : Reps K (cut H1 ι1 B) ι1 vs ds := r.up a.x.up
theorem Nx.arg (a : Nx K H ι B H1 ι1 μ1) (r : RepA K H ι B v d) : RepA K H1 ι1 B v d := r.ext a.x a.k
end
/-- what is wanted behind: of any value that stands for d; of one that is read only; of a new list -/
def KE (K : PySem.W.Frag) (H : Hp) (ι : Cells) (B : List Addr) (μ : Mem) (d : D) (Q : VK) : Prop := ∀ v H' ι', Nx K H ι B H' ι' μ → Rep K (cut H' ι' B) ι' v d → Q v H'
def KA (K : PySem.W.Frag) (H : Hp) (ι : Cells) (B : List Addr) (μ : Mem) (d : D) (Q : VK) : Prop := ∀ v H' ι', Nx K H ι B H' ι' μ → RepA K H' ι' B v d → Q v H'
def KF (K : PySem.W.Frag) (H : Hp) (ι : Cells) (B : List Addr) (μ : Mem) (ds : List D) (Q : VK) : Prop := ∀ p vs H' ι', H p = none → Ext H ι B H' ι' (p :: B) → Keep B H H' → Sim K H' ι' (p :: B) μ → H' p = some (.lst vs) →
  Reps K (cut H' ι' (p :: B)) ι' vs ds → Q (.ref p) H'
def KX (K : PySem.W.Frag) (H : Hp) (ι : Cells) (B : List Addr) (μ : Mem) (d : D) (Q : VK) : Prop := match d with
  | .lst ds => KF K H ι B μ ds Q
  | d => KE K H ι B μ d Q
section
variable {K : PySem.W.Frag} {H H1 H2 H' : Hp} {ι ι1 ι2 ι' : Cells} {B B0 : List Addr} {μ μ1 μ2 μ' : Mem} {σ : L2.St} {env : Ev} {v : V} {d : D} {Q : VK}
theorem up_free {p : Addr} : Up (cut H ι (p :: B)) ι (cut H ι B) ι := ⟨cut_free, fun _ x e => ⟨x, e, .inr rfl⟩⟩
theorem KX.of (h : KE K H ι B μ d Q) : KX K H ι B μ d Q := by
  cases d with
  | lst ds =>
    intro p vs H' ι' hp x k S hl r
    have np : p ∉ B := fun q => by
      have := k p q
      rw [hl, hp] at this; cases this
    refine h (.ref p) H' ι' ⟨x.free, k, S.free⟩ (.lst (SqL.of (cut_of ?_ hl)) (r.up up_free))
    rintro (q | q)
    · exact S.apart p q List.mem_cons_self
    · exact np q
  | _ => exact h
theorem KF.laid {p : Addr} {vs : List V} {ds : List D} (h : KF K H ι B μ ds Q) (S : Sim K H ι B μ) (hp : H p = none) (r : Reps K (cut H ι B) ι vs ds) : Q (.ref p) (upd H p (.lst vs)) :=
  h p vs _ ι hp (Ext.hold S hp) (Keep.laid S hp) (S.hold hp) upd_same (r.up (Ext.hold S hp).up)
theorem KE.tup {p : Addr} {vs : List V} {ds : List D} (h : KE K H ι B μ (.tup ds) Q) (S : Sim K H ι B μ) (hp : H p = none) (r : Reps K (cut H ι B) ι vs ds) : Q (.ref p) (upd H p (.tup vs)) :=
  h _ _ ι ⟨Ext.laid S hp, Keep.laid S hp, S.laid hp⟩ (.tup (.inl (.inl (cut_of (fun q => (fresh_not_held S hp) q) upd_same))) (r.up (Ext.laid S hp).up))
theorem KE.dic {p : Addr} {kvs : List (Key × V)} {kds : List (Key × D)} (h : KE K H ι B μ (.dic kds) Q) (S : Sim K H ι B μ) (hp : H p = none) (r : RepKV K (cut H ι B) ι kvs kds) : Q (.ref p) (upd H p (.dK kvs)) :=
  h _ _ ι ⟨Ext.laid S hp, Keep.laid S hp, S.laid hp⟩ (.dic (cut_of (fun q => (fresh_not_held S hp) q) upd_same) (r.up (Ext.laid S hp).up))
theorem sqT_same {G H : Hp} (e : Same G H) {a : Addr} {xs : List V} (h : SqT K G a xs) : SqT K H a xs := by
  rcases h with (h | ⟨o, h⟩) | h
  · exact .inl (.inl (e _ _ h))
  · exact .inl (.inr ⟨o, e _ _ h⟩)
  · exact .inr h
theorem KE.now (h : KE K H ι B μ d Q) (S : Sim K H ι B μ) (r : Rep K (cut H ι B) ι v d) : Q v H := h v H ι (Nx.refl S) r
theorem KE.back (h : KE K H ι B μ2 d Q) (a : Nx K H ι B H1 ι1 μ1) : KE K H1 ι1 B μ2 d Q := fun v H' ι' b r => h v H' ι' ⟨a.x.trans b.x, a.k.trans b.k, b.s⟩ r
theorem KA.back (h : KA K H ι B μ2 d Q) (a : Nx K H ι B H1 ι1 μ1) : KA K H1 ι1 B μ2 d Q := fun v H' ι' b r => h v H' ι' ⟨a.x.trans b.x, a.k.trans b.k, b.s⟩ r
theorem KF.back {ds : List D} (h : KF K H ι B μ2 ds Q) (a : Nx K H ι B H1 ι1 μ1) : KF K H1 ι1 B μ2 ds Q := fun p vs H' ι' hp x k S hl r => h p vs H' ι' (a.x.dom p hp) (a.x.trans x) (a.k.trans k) S hl r
theorem KX.back (h : KX K H ι B μ2 d Q) (a : Nx K H ι B H1 ι1 μ1) : KX K H1 ι1 B μ2 d Q := by
  cases d with
  | lst ds => exact KF.back h a
  | _ => exact KE.back h a
end
/-- the state at a point of a def -/
structure At (K : PySem.W.Frag) (H : Hp) (ι : Cells) (B B0 : List Addr) (μ : Mem) (σ : L2.St) (env : Ev) : Prop where
  s : Sim K H ι B μ
  r : REnv K H ι B B0 σ env
theorem At.nx {K : PySem.W.Frag} {H H1 : Hp} {ι ι1 : Cells} {B B0 : List Addr} {μ μ1 : Mem} {σ : L2.St} {env : Ev} (a : At K H ι B B0 μ σ env) (b : Nx K H ι B H1 ι1 μ1) : At K H1 ι1 B B0 μ1 σ env := ⟨b.s, b.renv a.r⟩
def tE (K : PySem.W.Frag) (ev : Ev → Mem → Option (D × Mem)) : TE := fun σ H Q => ∃ env μ ι B B0 d μ', At K H ι B B0 μ σ env ∧ ev env μ = some (d, μ') ∧ KE K H ι B μ' d Q
def tA (K : PySem.W.Frag) (ev : Ev → Mem → Option (D × Mem)) : TE := fun σ H Q => ∃ env μ ι B B0 d μ', At K H ι B B0 μ σ env ∧ ev env μ = some (d, μ') ∧ KA K H ι B μ' d Q
def tX (K : PySem.W.Frag) (ev : Ev → Mem → Option (D × Mem)) : TE := fun σ H Q => ∃ env μ ι B B0 d μ', At K H ι B B0 μ σ env ∧ ev env μ = some (d, μ') ∧ KX K H ι B μ' d Q
def tB (K : PySem.W.Frag) (ev : Ev → Mem → Option (Bool × Mem)) : TT := fun σ H Q => ∃ env μ ι B B0 b μ', At K H ι B B0 μ σ env ∧ ev env μ = some (b, μ') ∧ ∀ H' ι', Nx K H ι B H' ι' μ' → Q b H'
def tEs (K : PySem.W.Frag) (ev : Ev → Mem → Option (List D × Mem)) : TA := fun σ H Q => ∃ env μ ι B B0 ds μ', At K H ι B B0 μ σ env ∧ ev env μ = some (ds, μ') ∧ ∀ vs H' ι', Nx K H ι B H' ι' μ' → Reps K (cut H' ι' B) ι' vs ds → Q vs H'
def tAs (K : PySem.W.Frag) (ev : Ev → Mem → Option (List D × Mem)) : TA := fun σ H Q => ∃ env μ ι B B0 ds μ', At K H ι B B0 μ σ env ∧ ev env μ = some (ds, μ') ∧ ∀ vs H' ι', Nx K H ι B H' ι' μ' → Paired (RepA K H' ι' B) vs ds → Q vs H'
section
variable {X : Cx} {e a b c : Expr} {es : List Expr} {ev ea eb ec : Ev → Mem → Option (D × Mem)} {evs : Ev → Mem → Option (List D × Mem)} {pos : Pos}
theorem E_of_X (h : PE X e (tX X.K ev)) : PE X e (tE X.K ev) := PEcon h fun σ H Q ⟨env, μ, ι, B, B0, d, μ', a, e, k⟩ => ⟨env, μ, ι, B, B0, d, μ', a, e, KX.of k⟩
theorem A_of_E (h : PE X e (tE X.K ev)) : PE X e (tA X.K ev) := PEcon h fun σ H Q ⟨env, μ, ι, B, B0, d, μ', a, e, k⟩ => ⟨env, μ, ι, B, B0, d, μ', a, e, fun v H' ι' n r => k v H' ι' n (.rep r)⟩
/-- what an expression's rule is to give: as an argument, as a value (not a list of one's own), as a new list -/
structure SE (X : Cx) (own fresh : Bool) (e : Expr) (ev : Ev → Mem → Option (D × Mem)) : Prop where
  fa : PE X e (tA X.K ev)
  fe : own = false → PE X e (tE X.K ev)
  fx : fresh = true → PE X e (tX X.K ev)
theorem SE.ofX {o f : Bool} (h : PE X e (tX X.K ev)) : SE X o f e ev := ⟨A_of_E (E_of_X h), fun _ => E_of_X h, fun _ => h⟩
theorem SE.ofE {o : Bool} (h : PE X e (tE X.K ev)) : SE X o false e ev := ⟨A_of_E h, fun _ => h, fun q => nomatch q⟩

/-! ### names, constants -/
theorem r_var {i : Nat} {x : Str} (hN : X.N[i]? = some x) (hv : Vis X.env.scope x) (hd : (x == ("__debug__" : Str)) = false) (hc : (x == ("__classdict__" : Str)) = false) (hev : ∀ env μ d μ', ev env μ = some (d, μ') → env[i]? = some (.val d) ∧ μ' = μ) :
    PE X (.Name x pos) (tE X.K ev) := by
  refine PEcon (pe_var (i := i) hN hv hd hc) fun σ H Q ⟨env, μ, ι, B, B0, d, μ', a, e, k⟩ => ?_
  obtain ⟨e1, rfl⟩ := hev _ _ _ _ e
  obtain ⟨v, h1, h2⟩ := a.r.val i d e1
  exact ⟨v, h1, KE.now k a.s h2⟩
theorem r_ovar {i : Nat} {x : Str} (hN : X.N[i]? = some x) (hv : Vis X.env.scope x) (hd : (x == ("__debug__" : Str)) = false) (hc : (x == ("__classdict__" : Str)) = false)
    (hev : ∀ env μ d μ', ev env μ = some (d, μ') → ∃ ds, env[i]? = some (.own ds) ∧ d = .lst ds ∧ μ' = μ) : PE X (.Name x pos) (tA X.K ev) := by
  refine PEcon (pe_var (i := i) hN hv hd hc) fun σ H Q ⟨env, μ, ι, B, B0, d, μ', a, e, k⟩ => ?_
  obtain ⟨ds, e1, rfl, rfl⟩ := hev _ _ _ _ e
  obtain ⟨p, vs, h1, h2, h3, h4, h5⟩ := a.r.own i ds e1
  exact ⟨_, h1, k _ H ι (Nx.refl a.s) (.own h2 h4 h5)⟩
theorem r_c {v : V} {d : D} (h : PE X e (tC v)) (hr : ∀ G ι, Rep X.K G ι v d) (hev : ∀ env μ, ev env μ = some (d, μ)) : PE X e (tE X.K ev) :=
  PEcon h fun σ H Q ⟨env, μ, ι, B, B0, d', μ', a, e, k⟩ => by
    rw [hev] at e
    cases e
    exact KE.now k a.s (hr _ _)

/-! ### two in a row -/
theorem r_two {r : R2} {F : Mem → D → D → Option D} {f : Expr} (ha : PE X a (tA X.K ea)) (hb : PE X b (tA X.K eb)) (mk : ∀ {ta tb : TE}, PE X a ta → PE X b tb → PE X f (tOp r ta tb))
    (hev : ∀ env μ, ev env μ = (ea env μ).bind fun p => (eb env p.2).bind fun q => (F q.2 p.1 q.1).map fun d => (d, q.2))
    (val : ∀ (H : Hp) (ι : Cells) (B : List Addr) (μ : Mem) (v u : V) (x y d : D) (Q : VK), Sim X.K H ι B μ → RepA X.K H ι B v x → RepA X.K H ι B u y → F μ x y = some d → KX X.K H ι B μ d Q → r v u H Q) :
    PE X f (tX X.K ev) := by
  refine PEcon (mk ha hb) fun σ H Q ⟨env, μ, ι, B, B0, d, μ', a, e, k⟩ => ?_
  rw [hev] at e
  obtain ⟨⟨x, μ1⟩, e1, e⟩ := Option.bind_eq_some_iff.mp e
  obtain ⟨⟨y, μ2⟩, e2, e⟩ := Option.bind_eq_some_iff.mp e
  obtain ⟨z, e3, e4⟩ := Option.map_eq_some_iff.mp e
  cases e4
  refine ⟨env, μ, ι, B, B0, x, μ1, a, e1, fun v H1 ι1 n1 r1 => ⟨env, μ1, ι1, B, B0, y, μ2, a.nx n1, e2, fun u H2 ι2 n2 r2 => ?_⟩⟩
  exact val H2 ι2 B μ2 v u x y _ Q n2.s (n2.arg r1) r2 e3 (KX.back k (n1.trans n2))
theorem r_one {F : Mem → D → Option D} {f : Expr} {rd : V → Hp → VK → Prop} (ha : PE X a (tA X.K ea)) (mk : ∀ {ta : TE}, PE X a ta → PE X f (tUn rd ta))
    (hev : ∀ env μ, ev env μ = (ea env μ).bind fun p => (F p.2 p.1).map fun d => (d, p.2))
    (val : ∀ (H : Hp) (ι : Cells) (B : List Addr) (μ : Mem) (v : V) (x d : D) (Q : VK), Sim X.K H ι B μ → RepA X.K H ι B v x → F μ x = some d → KX X.K H ι B μ d Q → rd v H Q) :
    PE X f (tX X.K ev) := by
  refine PEcon (mk ha) fun σ H Q ⟨env, μ, ι, B, B0, d, μ', a, e, k⟩ => ?_
  rw [hev] at e
  obtain ⟨⟨x, μ1⟩, e1, e⟩ := Option.bind_eq_some_iff.mp e
  obtain ⟨z, e3, e4⟩ := Option.map_eq_some_iff.mp e
  cases e4
  exact ⟨env, μ, ι, B, B0, x, μ1, a, e1, fun v H1 ι1 n1 r1 => val H1 ι1 B μ1 v x _ Q n1.s r1 e3 (KX.back k n1)⟩

/-! ### operators by values -/
def rCatS (K : PySem.W.Frag) : R2 := fun x y H Q => ∃ l b xs zs, x = .ref l ∧ y = .ref b ∧ SqL K H l xs ∧ SqL K H b zs ∧ xs.length + zs.length ≤ sizeLine ∧ ∀ p, H p = none → Q (.ref p) (upd H p (.lst (xs ++ zs)))
theorem op_catS : OpR X (binaryOp .Add) (rCatS X.K) := by
  intro pins s σ H x y v u Q I rx ry ⟨l, b, xs, zs, e1, e2, h1, h2, hz, q⟩
  subst e1 e2
  cases rx
  cases ry
  obtain ⟨its, r, ⟨o, n, ho, hc, hd, hs⟩, _⟩ := I.list h1
  obtain ⟨its2, r2, ⟨o2, n2, ho2, hc2, hd2, hs2⟩, _⟩ := I.list h2
  have l1 := r.length
  have l2 := r2.length
  obtain ⟨oc, od, dt, sl⟩ := o
  obtain ⟨oc2, od2, dt2, sl2⟩ := o2
  simp only at hc hd hs hc2 hd2 hs2
  subst hc hd hs hc2 hd2 hs2
  have sz : its.toArray.size + its2.toArray.size ≤ sizeLine := by
    rw [List.size_toArray, List.size_toArray]
    omega
  have m := PyProof.Rows.list_addW l b its.toArray its2.toArray n n2 none none sl sl2 sz
  refine PySem.concat_meets ⟨_, ho, rfl⟩ ⟨_, ho2, rfl⟩ PySem.noFill_list_add PySem.seq_list_add PySem.F.slot_list_add PySem.F.entry_list_add (PySem.F.args_list_add_2 _ _) m ⟨ho, ho2, ?_⟩
  have ea : its.toArray ++ its2.toArray = (its ++ its2).toArray := by simp
  rw [ea]
  exact ⟨.ref _, _, I.lnew (t' := s.toks) (r.append r2) (by rw [List.length_append]; omega), rfl, q _ I.fresh⟩
end
end DI
set_option Elab.async false
set_option linter.all false
set_option maxRecDepth 100000
/-! DI5: the operators by values -/
namespace DI
open PySem PySem.Spec PyProof.Rows L2
section
variable {X : Cx}
/-- x // y of any sign -/
theorem op_fdivA : OpR X (binaryOp .FloorDiv) (rI (fun _ j => j ≠ 0 ∧ j.natAbs.log2 < 9000) fun i j => .int (i.fdiv j)) :=
  L2.opI fun _ _ _ _ _ _ _ hc q => floordiv_int hc.1 q (.inl (PyProof.noPylong_of_log2 hc.2))
theorem op_powA : OpR X (binaryOp .Pow) (rI (fun i j => 0 ≤ j ∧ (Builtin.Int.intBits i : Int) * j ≤ 2 ^ 27) fun i j => .int (i ^ j.toNat)) :=
  L2.opI fun _ _ _ _ _ _ _ hc q => pow_int hc.1 hc.2 q
def rBB (g : Int → Int → Int) : R2 := fun x y H Q => ∃ p q, x = .bl p ∧ y = .bl q ∧ Q (.int (g (b2i p) (b2i q))) H
theorem op_subB : OpR X (binaryOp .Sub) (rBB fun i j => i - j) := by
  intro pins s σ H x y v u Q I rx ry ⟨p, q, e1, e2, h⟩
  subst e1 e2
  cases rx
  cases ry
  exact sub_bool ⟨.int _, H, I.tok _, ⟨_, rfl⟩, h⟩
theorem op_addB : OpR X (binaryOp .Add) (rBB fun i j => i + j) := by
  intro pins s σ H x y v u Q I rx ry ⟨p, q, e1, e2, h⟩
  subst e1 e2
  cases rx
  cases ry
  exact add_bool ⟨.int _, H, I.tok _, ⟨_, rfl⟩, h⟩
/-- a list times a number -/
theorem int_rmul_L (a : Int) (t : Tok) (l : Addr) (items : Array Value) (n : Nat) (dd : Option Addr) (sl : Array (Option Value)) :
    Meets (Builtin.«int.__rmul__» ⟨[.int a t, .ref l], []⟩) (fun _ R s => (s.heap.get? l = some { cls := .type "list", dict := dd, data := .seq items n, slots := sl }) ∧ R (.ok (.ret Value.notImplemented)) s) :=
  .of_wp fun prog w A R s h => by
    obtain ⟨hp, g, d, tk, os⟩ := s
    obtain ⟨hl, h⟩ := h
    wp_walk using PySem.AutoSeq1.wpAny_loadPart' hl
    exact ⟨_, rfl, h⟩
theorem list_mul_L (l : Addr) (items : Array Value) (n : Nat) (dd : Option Addr) (sl : Array (Option Value)) (x : Int) (u : Tok) (h0 : ¬(!Builtin.List.listFitsIndex x) = true) (h1 : ¬items.size * x.toNat > (2 ^ 63 - 1) / 8) (h2 : ¬Builtin.List.listTooLong (items.size * x.toNat) = true) :
    Meets (Builtin.«list.__mul__» ⟨[.ref l, .int x u], []⟩) (fun _ R s => (s.heap.get? l = some { cls := .type "list", dict := dd, data := .seq items n, slots := sl }) ∧
      R (.ok (.ret (Value.ref s.heap.objs.size))) { s with heap := s.heap.push { cls := Value.type "list", data := Data.seq (List.foldl (fun a b => a ++ b) #[] (List.replicate (if items.isEmpty = true then 0 else x.toNat) items)) }, toks := s.toks }) :=
  .of_wp fun prog w A R s h => by
    obtain ⟨hp, g, d, tk, os⟩ := s
    obtain ⟨hl, h⟩ := h
    have hsz := PySem.AutoListH.joined_fits h2
    wp_walk using PySem.AutoSeq1.wpAny_loadPart' hl
    refine wpAny_ite_false (decide_eq_false (Nat.not_lt.mpr hsz)) ?_
    wp_walk using PySem.AutoSeq1.wpAny_loadPart' hl
    exact ⟨_, rfl, h⟩
def rRepL (K : PySem.W.Frag) : R2 := fun x y H Q => ∃ l k xs, x = .ref l ∧ y = .int k ∧ SqL K H l xs ∧ 0 ≤ k ∧ k ≤ 1000 ∧ xs.length ≤ 1000 ∧ ∀ p, H p = none → Q (.ref p) (upd H p (.lst (List.replicate k.toNat xs).flatten))
theorem op_repL : OpR X (binaryOp .Mult) (rRepL X.K) := by
  intro pins s σ H x y v u Q I rx ry ⟨l, k, xs, e1, e2, hq, k0, k1, hz, q⟩
  subst e1 e2
  cases rx
  obtain ⟨t, rfl⟩ := ry
  obtain ⟨its, rv, pl, _⟩ := I.list hq
  obtain ⟨⟨cls, dd, data, sl⟩, n, ho, hc, hd, hdat⟩ := pl
  simp only at hc hd hdat
  subst hc hd hdat
  have len := rv.length
  have small : its.toArray.size * k.toNat ≤ 1000000 := by
    rw [List.size_toArray, ← len]
    have := Nat.mul_le_mul hz (show k.toNat ≤ 1000 by omega)
    omega
  have c0 : ¬(!Builtin.List.listFitsIndex k) = true := by
    rw [fitsIndex_both (by omega) (by omega)]
    exact Bool.false_ne_true
  have c1 : ¬its.toArray.size * k.toNat > (2 ^ 63 - 1) / 8 := by
    have : (1000000 : Nat) ≤ (2 ^ 63 - 1) / 8 := by decide
    omega
  have c2 : ¬Builtin.List.listTooLong (its.toArray.size * k.toNat) = true := by
    rw [notLongL (by rw [sizeLine_eq]; omega)]
    exact Bool.false_ne_true
  have new : List.foldl (fun a b => a ++ b) #[] (List.replicate (if its.toArray.isEmpty = true then 0 else k.toNat) its.toArray) = (List.replicate k.toNat its).flatten.toArray := by
    rw [size_rep]
    cases its with
    | nil => simp
    | cons a r => rw [if_neg (by simp)]
  refine wpAny_binaryOp_repeat_ref (T := "list") (U := "int") (by decide) ⟨_, ho, rfl⟩ (fun s' => typeIs_int s' k t) noFill_list_mul F.fills_int_mul F.slot_int_rmul repeat_list F.slot_int_index.lookup
    (call_meets F.slot_int_rmul (typeIs_int s k t) F.entry_int_rmul (F.args_int_rmul_2 _ _) (int_rmul_L k t l its.toArray n none sl)
      ⟨ho, rfl, ⟨_, ho, rfl⟩, call_meets F.slot_list_mul ⟨_, ho, rfl⟩ F.entry_list_mul (F.args_list_mul_2 _ _) (list_mul_L l its.toArray n none sl k t c0 c1 c2) ⟨ho, ?_⟩⟩)
  rw [new]
  refine ⟨.ref _, _, I.lnew (t' := s.toks) (rv.rep k.toNat) ?_, rfl, q _ I.fresh⟩
  rw [PyProof.Rows.lm_len_rep_flat, len, sizeLine_eq, Nat.mul_comm]
  rw [List.size_toArray] at small
  omega
def bopOp : Bop → Operator
  | .add => .Add
  | .sub => .Sub
  | .mul => .Mult
  | .fdiv => .FloorDiv
  | .mod => .Mod
  | .pow => .Pow
def rIb : R2 := fun x y H Q => ∃ i k, x = .int i ∧ y = .bl k ∧ Q (.int (i + b2i k)) H
def rStrAdd : R2 := fun x y H Q => ∃ i j, x = .str i ∧ y = .str j ∧ i.length + j.length ≤ sizeLine ∧ Q (.str (i ++ j)) H
def bopR (K : PySem.W.Frag) : Bop → R2
  | .add => fun x y H Q => rI0 (fun i j => .int (i + j)) x y H Q ∨ rBB (fun i j => i + j) x y H Q ∨ rIb x y H Q ∨ rStrAdd x y H Q ∨ rCatT K x y H Q ∨ rCatS K x y H Q
  | .sub => fun x y H Q => rI0 (fun i j => .int (i - j)) x y H Q ∨ rBB (fun i j => i - j) x y H Q
  | .mul => fun x y H Q => rI CMulW (fun i j => .int (i * j)) x y H Q ∨ rRepT K x y H Q ∨ rRepL K x y H Q
  | .fdiv => rI (fun _ j => j ≠ 0 ∧ j.natAbs.log2 < 9000) fun i j => .int (i.fdiv j)
  | .mod => rI (fun _ j => j ≠ 0) fun i j => .int (i.fmod j)
  | .pow => rI (fun i j => 0 ≤ j ∧ (Builtin.Int.intBits i : Int) * j ≤ 2 ^ 27) fun i j => .int (i ^ j.toNat)
theorem op_bop (o : Bop) : OpR X (binaryOp (bopOp o)) (bopR X.K o) := by
  cases o with
  | add => exact op_add.or (op_addB.or (OpR.or op_add_ib (OpR.or op_add_str (op_catT.or op_catS))))
  | sub => exact op_sub.or op_subB
  | mul => exact op_mulW.or (OpR.or op_repT op_repL)
  | fdiv => exact op_fdivA
  | mod => exact op_modN
  | pow => exact op_powA
variable {K : PySem.W.Frag} {H : Hp} {ι : Cells} {B : List Addr} {μ : Mem} {v u : V} {x y d : D} {Q : VK}
theorem bop_int {i j : Int} {o : Bop} {z : Int} (h : opI o i j = some z) (k : Q (.int z) H) : bopR K o (.int i) (.int j) H Q := by
  cases o with
  | add => cases h; exact .inl ⟨i, j, rfl, rfl, k⟩
  | sub => cases h; exact .inl ⟨i, j, rfl, rfl, k⟩
  | mul =>
    unfold opI at h
    by_cases c : i.natAbs.log2 + j.natAbs.log2 < 1000000
    · rw [if_pos c] at h; cases h; exact .inl ⟨i, j, rfl, rfl, c, k⟩
    · rw [if_neg c] at h; cases h
  | fdiv =>
    unfold opI at h
    by_cases c : j ≠ 0 ∧ j.natAbs.log2 < 9000
    · rw [if_pos c] at h; cases h; exact ⟨i, j, rfl, rfl, c, k⟩
    · rw [if_neg c] at h; cases h
  | mod =>
    unfold opI at h
    by_cases c : j ≠ 0
    · rw [if_pos c] at h; cases h; exact ⟨i, j, rfl, rfl, c, k⟩
    · rw [if_neg c] at h; cases h
  | pow =>
    unfold opI at h
    by_cases c : 0 ≤ j ∧ (Builtin.Int.intBits i : Int) * j ≤ 2 ^ 27
    · rw [if_pos c] at h; cases h; exact ⟨i, j, rfl, rfl, c, k⟩
    · rw [if_neg c] at h; cases h
theorem Reps.many {K : PySem.W.Frag} {G : Hp} {ι : Cells} {vs : List V} {ds : List D} (r : Reps K G ι vs ds) : ∀ n : Nat, Reps K G ι (List.replicate n vs).flatten (List.replicate n ds).flatten
  | 0 => .nil
  | n + 1 => by
    rw [List.replicate_succ, List.replicate_succ, List.flatten_cons, List.flatten_cons]
    exact r.append (Reps.many r n)
/-- two lists -/
theorem bop_lists {xs ys : List D} (S : Sim K H ι B μ) (r1 : RepA K H ι B v x) (r2 : RepA K H ι B u y) (h1 : seqV μ x = some xs) (h2 : seqV μ y = some ys) (hm : mkL (xs ++ ys) = some d) (k : KX K H ι B μ d Q) : bopR K .add v u H Q := by
  obtain ⟨a, vs, rfl, s1, q1⟩ := r1.seq S h1
  obtain ⟨b, us, rfl, s2, q2⟩ := r2.seq S h2
  unfold mkL at hm
  by_cases c : (xs ++ ys).length ≤ sizeLine
  · rw [if_pos c] at hm
    cases hm
    refine .inr (.inr (.inr (.inr (.inr ⟨a, b, vs, us, rfl, rfl, s1, s2, ?_, fun p hp => ?_⟩))))
    · rw [q1.length, q2.length, ← List.length_append]; exact c
    · exact KF.laid k S hp (q1.append q2)
  · rw [if_neg c] at hm; cases hm
theorem bop_val {o : Bop} (S : Sim K H ι B μ) (r1 : RepA K H ι B v x) (r2 : RepA K H ι B u y) (h : opD μ o x y = some d) (k : KX K H ι B μ d Q) : bopR K o v u H Q := by
  unfold opD at h
  split at h
  · -- ints
    obtain ⟨z, e1, e2⟩ := Option.map_eq_some_iff.mp h
    subst e2
    rw [r1.int, r2.int]
    exact bop_int e1 (KE.now k S (.int z))
  · -- bools
    rw [r1.bl, r2.bl]
    cases o with
    | sub => cases h; exact .inr ⟨_, _, rfl, rfl, KE.now k S (.int _)⟩
    | add => cases h; exact .inr (.inl ⟨_, _, rfl, rfl, KE.now k S (.int _)⟩)
    | _ => cases h
  · rw [r1.int, r2.bl]
    cases o with
    | add => cases h; exact .inr (.inr (.inl ⟨_, _, rfl, rfl, KE.now k S (.int _)⟩))
    | _ => cases h
  · rename_i p q
    rw [r1.str, r2.str]
    cases o with
    | add =>
      by_cases c : p.length + q.length ≤ sizeLine
      · have h : (if p.length + q.length ≤ sizeLine then some (D.str (p ++ q)) else none) = some d := h
        rw [if_pos c] at h
        cases h
        exact .inr (.inr (.inr (.inl ⟨_, _, rfl, rfl, c, KE.now k S (.str _)⟩)))
      · have h : (if p.length + q.length ≤ sizeLine then some (D.str (p ++ q)) else none) = some d := h
        rw [if_neg c] at h
        cases h
    | _ => cases h
  · rename_i xs ys
    obtain ⟨a, vs, rfl, s1, q1⟩ := r1.tup
    obtain ⟨b, us, rfl, s2, q2⟩ := r2.tup
    cases o with
    | add =>
      have h : (if xs ≠ [] ∧ xs.length + ys.length ≤ sizeLine then some (D.tup (xs ++ ys)) else none) = some d := h
      by_cases c : xs ≠ [] ∧ xs.length + ys.length ≤ sizeLine
      · rw [if_pos c] at h
        cases h
        have k : KE K H ι B μ (.tup (xs ++ ys)) Q := k
        refine .inr (.inr (.inr (.inr (.inl ⟨a, b, vs, us, rfl, rfl, s1, s2, ?_, ?_, fun e => ?_, fun _ p hp => ?_⟩))))
        · intro e
          subst e
          cases q1
          exact c.1 rfl
        · rw [q1.length, q2.length]; exact c.2
        · subst e
          cases q2
          rw [List.append_nil] at k
          cases r1 with
          | rep r1 => exact KE.now k S r1
        · exact KE.tup k S hp (q1.append q2)
      · rw [if_neg c] at h; cases h
    | _ => cases h
  · rename_i xs j
    obtain ⟨a, vs, rfl, s1, q1⟩ := r1.tup
    rw [r2.int]
    cases o with
    | mul =>
      have h : (if xs ≠ [] ∧ 2 ≤ j ∧ j ≤ 1000 ∧ xs.length ≤ 1000 then some (D.tup (List.replicate j.toNat xs).flatten) else none) = some d := h
      by_cases c : xs ≠ [] ∧ 2 ≤ j ∧ j ≤ 1000 ∧ xs.length ≤ 1000
      · rw [if_pos c] at h
        cases h
        refine .inr (.inl ⟨a, j, vs, rfl, rfl, s1, ?_, c.2.1, c.2.2.1, by rw [q1.length]; exact c.2.2.2, fun p hp => KE.tup k S hp (q1.many j.toNat)⟩)
        intro e
        subst e
        cases q1
        exact c.1 rfl
      · rw [if_neg c] at h; cases h
    | _ => cases h
  · rename_i xs j
    obtain ⟨a, vs, rfl, s1, q1⟩ := r1.seq S rfl
    rw [r2.int]
    cases o with
    | mul =>
      have h : (if 0 ≤ j ∧ j ≤ 1000 ∧ xs.length ≤ 1000 then some (D.lst (List.replicate j.toNat xs).flatten) else none) = some d := h
      by_cases c : 0 ≤ j ∧ j ≤ 1000 ∧ xs.length ≤ 1000
      · rw [if_pos c] at h
        cases h
        exact .inr (.inr ⟨a, j, vs, rfl, rfl, s1, c.1, c.2.1, by rw [q1.length]; exact c.2.2, fun p hp => KF.laid k S hp (q1.many j.toNat)⟩)
      · rw [if_neg c] at h; cases h
    | _ => cases h
  · cases o with
    | add =>
      obtain ⟨xs, e1, h⟩ := Option.bind_eq_some_iff.mp h
      obtain ⟨ys, e2, h⟩ := Option.bind_eq_some_iff.mp h
      exact bop_lists S r1 r2 e1 e2 h k
    | _ => cases h

/-! ### comparisons -/
def copOp : Cop → CmpOp
  | .eq => .Eq
  | .ne => .NotEq
  | .lt => .Lt
  | .le => .LtE
  | .gt => .Gt
  | .ge => .GtE
  | .inn => .In
  | .nin => .NotIn
/-- the order of data -/
def rOrdD (K : PySem.W.Frag) (f : PyData → PyData → Bool) : R2 := fun x y H Q => ∃ p q, Dp K H x p ∧ Dp K H y q ∧ ltOk p q = true ∧ Q (.bl (f p q)) H
theorem ltOk_iff {x y : PyData} (h : ltOk x y = true) : PySem.W.alike x y = true ∧ x ≠ .none ∧ x.depth ≤ 50 := by
  unfold ltOk at h
  rw [Bool.and_eq_true, Bool.and_eq_true, decide_eq_true_eq] at h
  refine ⟨h.1.1, fun z => ?_, h.2⟩
  subst z
  exact absurd h.1.2 (by simp)
theorem op_ltD (hu : X.A.units + 65 < cLine) : OpR X (compareOp .Lt) (rOrdD X.K PySem.W.dataLt) := by
  intro pins s σ H x y v u Q I rx ry ⟨p, q, h1, h2, ok, k⟩
  obtain ⟨as, ra⟩ := Dp.reads I p x v h1 rx
  obtain ⟨bs, rb⟩ := Dp.reads I q y u h2 ry
  obtain ⟨k1, k2, k3⟩ := ltOk_iff ok
  exact PySem.W.lt_data ra rb k1 k2 (by omega) ⟨.bl _, H, I, rfl, k⟩
theorem op_leD (hu : X.A.units + 65 < cLine) : OpR X (compareOp .LtE) (rOrdD X.K fun x y => !PySem.W.dataLt y x) := by
  intro pins s σ H x y v u Q I rx ry ⟨p, q, h1, h2, ok, k⟩
  obtain ⟨as, ra⟩ := Dp.reads I p x v h1 rx
  obtain ⟨bs, rb⟩ := Dp.reads I q y u h2 ry
  obtain ⟨k1, k2, k3⟩ := ltOk_iff ok
  exact PySem.W.le_data ra rb k1 k2 (by omega) ⟨.bl _, H, I, rfl, k⟩
theorem op_gtD (hu : X.A.units + 65 < cLine) : OpR X (compareOp .Gt) (rOrdD X.K fun x y => PySem.W.dataLt y x) := by
  intro pins s σ H x y v u Q I rx ry ⟨p, q, h1, h2, ok, k⟩
  obtain ⟨as, ra⟩ := Dp.reads I p x v h1 rx
  obtain ⟨bs, rb⟩ := Dp.reads I q y u h2 ry
  obtain ⟨k1, k2, k3⟩ := ltOk_iff ok
  exact PySem.W.gt_data ra rb k1 k2 (by omega) ⟨.bl _, H, I, rfl, k⟩
theorem op_geD (hu : X.A.units + 65 < cLine) : OpR X (compareOp .GtE) (rOrdD X.K fun x y => !PySem.W.dataLt x y) := by
  intro pins s σ H x y v u Q I rx ry ⟨p, q, h1, h2, ok, k⟩
  obtain ⟨as, ra⟩ := Dp.reads I p x v h1 rx
  obtain ⟨bs, rb⟩ := Dp.reads I q y u h2 ry
  obtain ⟨k1, k2, k3⟩ := ltOk_iff ok
  exact PySem.W.ge_data ra rb k1 k2 (by omega) ⟨.bl _, H, I, rfl, k⟩
def copR (K : PySem.W.Frag) : Cop → R2
  | .eq => rEqD K
  | .ne => rNeD K
  | .lt => fun x y H Q => rI0 (fun i j => .bl (decide (i < j))) x y H Q ∨ rOrdD K (PySem.W.dataLt) x y H Q
  | .le => fun x y H Q => rI0 (fun i j => .bl (decide (i ≤ j))) x y H Q ∨ rOrdD K (fun x y => !PySem.W.dataLt y x) x y H Q
  | .gt => fun x y H Q => rI0 (fun i j => .bl (decide (j < i))) x y H Q ∨ rOrdD K (fun x y => PySem.W.dataLt y x) x y H Q
  | .ge => fun x y H Q => rI0 (fun i j => .bl (decide (j ≤ i))) x y H Q ∨ rOrdD K (fun x y => !PySem.W.dataLt x y) x y H Q
  | .inn => fun x y H Q => rInD K x y H Q ∨ ∃ i j, x = .str i ∧ y = .str j ∧ Q (.bl (!(Builtin.Str.occurrences j i 0 j.length 1).isEmpty)) H
  | .nin => fun x y H Q => rNotInD K x y H Q ∨ ∃ i j, x = .str i ∧ y = .str j ∧ Q (.bl (!(!(Builtin.Str.occurrences j i 0 j.length 1).isEmpty))) H
theorem op_cop (o : Cop) (hu : X.A.units + 65 < cLine) : OpR X (compareOp (copOp o)) (copR X.K o) := by
  cases o with
  | eq => exact op_eqD (by omega)
  | ne => exact op_neD (by omega)
  | lt => exact OpR.or op_lt (op_ltD hu)
  | le => exact OpR.or op_le (op_leD hu)
  | gt => exact OpR.or op_gt (op_gtD hu)
  | ge => exact OpR.or op_ge (op_geD hu)
  | inn => exact OpR.or (op_inD hu) op_in_str
  | nin => exact OpR.or (op_notInD hu) op_notin_str
theorem dps_py {xs : List D} {ys : List PyData} {vs : List V} (S : Sim K H ι B μ) (r : Reps K (cut H ι B) ι vs xs) (e : pyWs (cellPy μ 8) xs = some ys) : DpAll K H vs ys := dps_of cut_same (cell_dp S 8) xs vs ys r e
theorem eq_val {b : Bool} (S : Sim K H ι B μ) (r1 : RepA K H ι B v x) (r2 : RepA K H ι B u y) (h : eqD μ x y = some b) : ∃ p q, Dp K H v p ∧ Dp K H u q ∧ SeqAt.shaped p = true ∧ SeqAt.shaped q = true ∧ PyData.eqv p q = b := by
  unfold eqD at h
  obtain ⟨p, e1, h⟩ := Option.bind_eq_some_iff.mp h
  obtain ⟨q, e2, h⟩ := Option.bind_eq_some_iff.mp h
  split at h
  · rename_i c
    rw [Bool.and_eq_true] at c
    cases h
    exact ⟨p, q, r1.py S e1, r2.py S e2, c.1, c.2, rfl⟩
  · cases h
theorem in_val {b : Bool} (S : Sim K H ι B μ) (r1 : RepA K H ι B v x) (r2 : RepA K H ι B u y) (h : inD μ x y = some b) :
    (∃ p ys, Dp K H v p ∧ Dp K H u (.list ys) ∧ SeqAt.shaped p = true ∧ SeqAt.shaped (.list ys) = true ∧ (ys.any fun z => PyData.eqv z p) = b) ∨ ∃ i j, v = .str i ∧ u = .str j ∧ (!(Builtin.Str.occurrences j i 0 j.length 1).isEmpty) = b := by
  unfold inD at h
  split at h
  · cases h
    exact .inr ⟨_, _, r1.str, r2.str, rfl⟩
  · obtain ⟨p, e1, h⟩ := Option.bind_eq_some_iff.mp h
    obtain ⟨bs, e2, h⟩ := Option.bind_eq_some_iff.mp h
    obtain ⟨ys, e3, h⟩ := Option.bind_eq_some_iff.mp h
    split at h
    · rename_i c
      rw [Bool.and_eq_true] at c
      cases h
      obtain ⟨a, us, rfl, s2, q2⟩ := r2.seq S e2
      exact .inl ⟨p, ys, r1.py S e1, .lst s2 (dps_py S q2 e3), c.1, c.2, rfl⟩
    · cases h
theorem ord_val {f : PyData → PyData → Bool} {b : Bool} (S : Sim K H ι B μ) (r1 : RepA K H ι B v x) (r2 : RepA K H ι B u y) (h : ordD μ f x y = some b) (k : Q (.bl b) H) : rOrdD K f v u H Q := by
  unfold ordD at h
  obtain ⟨p, e1, h⟩ := Option.bind_eq_some_iff.mp h
  obtain ⟨q, e2, h⟩ := Option.bind_eq_some_iff.mp h
  split at h
  · rename_i c
    cases h
    exact ⟨p, q, r1.py S e1, r2.py S e2, c, k⟩
  · cases h
theorem cop_val {o : Cop} {b : Bool} (S : Sim K H ι B μ) (r1 : RepA K H ι B v x) (r2 : RepA K H ι B u y) (h : cmpD μ o x y = some b) (k : Q (.bl b) H) : copR K o v u H Q := by
  cases o with
  | eq =>
    obtain ⟨p, q, h1, h2, h3, h4, e⟩ := eq_val S r1 r2 h
    exact ⟨p, q, h1, h2, h3, h4, by rw [e]; exact k⟩
  | ne =>
    obtain ⟨b', h', rfl⟩ := Option.map_eq_some_iff.mp h
    obtain ⟨p, q, h1, h2, h3, h4, e⟩ := eq_val S r1 r2 h'
    exact ⟨p, q, h1, h2, h3, h4, by rw [e]; exact k⟩
  | inn =>
    rcases in_val S r1 r2 h with ⟨p, ys, h1, h2, h3, h4, e⟩ | ⟨i, j, rfl, rfl, e⟩
    · exact .inl ⟨p, ys, h1, h2, h3, h4, by rw [e]; exact k⟩
    · exact .inr ⟨i, j, rfl, rfl, by rw [e]; exact k⟩
  | nin =>
    obtain ⟨b', h', rfl⟩ := Option.map_eq_some_iff.mp h
    rcases in_val S r1 r2 h' with ⟨p, ys, h1, h2, h3, h4, e⟩ | ⟨i, j, rfl, rfl, e⟩
    · exact .inl ⟨p, ys, h1, h2, h3, h4, by rw [e]; exact k⟩
    · exact .inr ⟨i, j, rfl, rfl, by rw [e]; exact k⟩
  | lt =>
    unfold cmpD at h
    dsimp only at h
    split at h
    · cases h; exact .inl ⟨_, _, r1.int, r2.int, k⟩
    · exact .inr (ord_val S r1 r2 h k)
  | le =>
    unfold cmpD at h
    dsimp only at h
    split at h
    · cases h; exact .inl ⟨_, _, r1.int, r2.int, k⟩
    · exact .inr (ord_val S r1 r2 h k)
  | gt =>
    unfold cmpD at h
    dsimp only at h
    split at h
    · cases h; exact .inl ⟨_, _, r1.int, r2.int, k⟩
    · exact .inr (ord_val S r1 r2 h k)
  | ge =>
    unfold cmpD at h
    dsimp only at h
    split at h
    · cases h; exact .inl ⟨_, _, r1.int, r2.int, k⟩
    · exact .inr (ord_val S r1 r2 h k)

/-! ### places -/
theorem atI_reps {vs : List V} {ds : List D} {G : Hp} (r : Reps K G ι vs ds) {i : Int} {d : D} (h : atI ds i = some d) : ∃ w, atI vs i = some w ∧ Rep K G ι w d := by
  unfold atI at h ⊢
  rw [r.length]
  obtain ⟨j, e1, e2⟩ := Option.bind_eq_some_iff.mp h
  obtain ⟨w, e3, e4⟩ := r.get e2
  exact ⟨w, by rw [e1]; exact e3, e4⟩
theorem idx_val (S : Sim K H ι B μ) (r1 : RepA K H ι B v x) (r2 : RepA K H ι B u y) (h : idxD μ x y = some d) (k : KE K H ι B μ d Q) : rIx K v u H Q := by
  unfold idxD at h
  split at h
  · obtain ⟨a, vs, rfl, s1, q1⟩ := r1.tup
    obtain ⟨w, e1, e2⟩ := atI_reps q1 h
    exact .inr (.inl ⟨a, vs, _, w, rfl, r2.int, s1, e1, k.now S e2⟩)
  · rename_i z i
    split at h
    · rename_i c
      obtain ⟨c1, e1, e2⟩ := Option.map_eq_some_iff.mp h
      subst e2
      exact .inr (.inr ⟨z, i, c1, r1.str, r2.int, c, e1, k.now S (.str _)⟩)
    · cases h
  · obtain ⟨xs, e1, e2⟩ := Option.bind_eq_some_iff.mp h
    obtain ⟨a, vs, rfl, s1, q1⟩ := r1.seq S e1
    obtain ⟨w, e3, e4⟩ := atI_reps q1 e2
    exact .inl ⟨a, vs, _, w, rfl, r2.int, s1, e3, k.now S e4⟩
  · cases h
theorem cutD_reps {vs : List V} {ds : List D} {G : Hp} (r : Reps K G ι vs ds) (lo hi : Option Int) : Reps K G ι (cutV vs lo hi) (cutD ds lo hi) := by
  unfold cutV cutD
  rw [r.length]
  exact (r.drop _).take _
def rSl (K : PySem.W.Frag) : V → Option Int → Option Int → Hp → VK → Prop := fun x lo hi H Q => rSlL K x lo hi H Q ∨ rSlT K x lo hi H Q
theorem slc_val {lo hi : Option Int} (S : Sim K H ι B μ) (r1 : RepA K H ι B v x) (h : slcD μ x lo hi = some d) (k : KX K H ι B μ d Q) : rSl K v lo hi H Q := by
  unfold slcD at h
  split at h
  · rename_i xs
    split at h
    · rename_i c
      cases h
      obtain ⟨a, vs, rfl, s1, q1⟩ := r1.tup
      refine .inr ⟨a, vs, rfl, s1, fun e => ?_, fun p hp => KE.tup k S hp (cutD_reps q1 lo hi)⟩
      have c2 := c.2
      unfold cutD at c2
      rw [q1.length] at e
      rw [e.1, e.2, List.drop_zero, Nat.sub_zero, List.take_length] at c2
      exact absurd c2 (Nat.lt_irrefl _)
    · cases h
  · obtain ⟨xs, e1, e2⟩ := Option.map_eq_some_iff.mp h
    subst e2
    obtain ⟨a, vs, rfl, s1, q1⟩ := r1.seq S e1
    exact .inl ⟨a, vs, rfl, s1, fun p hp => KF.laid k S hp (cutD_reps q1 lo hi)⟩
/-- truth -/
theorem truth_val {b : Bool} (S : Sim K H ι B μ) (r : RepA K H ι B v x) (h : truthD μ x = some b) : TruV K v H b := by
  unfold truthD at h
  split at h
  · cases h; rw [r.non]; rfl
  · cases h; rw [r.bl]; rfl
  · cases h; rw [r.int]; rfl
  · split at h
    · rename_i c
      cases h; rw [r.str]; exact ⟨c, by rw [Bool.eq_iff_iff]; simp⟩
    · cases h
  · cases h
    obtain ⟨a, vs, rfl, s1, q1⟩ := r.tup
    refine .inr (.inl ⟨vs, s1, ?_⟩)
    cases q1 <;> rfl
  · cases h
    rename_i xs
    obtain ⟨a, vs, rfl, s1, q1⟩ := r.seq S rfl
    refine .inl ⟨vs, s1, ?_⟩
    cases q1 <;> rfl
  · rename_i kvs
    cases h
    cases r with
    | rep r =>
      cases r with
      | dic s r => exact .inr (.inr ⟨_, cut_same _ _ s, by cases r <;> rfl⟩)
  · obtain ⟨ds, e1, e2⟩ := Option.map_eq_some_iff.mp h
    subst e2
    obtain ⟨a, vs, rfl, s1, q1⟩ := r.seq S e1
    refine .inl ⟨vs, s1, ?_⟩
    cases q1 <;> rfl
end
end DI
set_option Elab.async false
set_option linter.all false
set_option maxRecDepth 100000
/-! DI6: built-in functions by values, isinstance, truth, arguments -/
namespace DI
open PySem PySem.Spec PyProof.Rows L2
section
variable {X : Cx}
def rRepr (K : PySem.W.Frag) : List V → Hp → VK → Prop := fun xs H Q => ∃ a d, xs = [.ref a] ∧ Dp K H (.ref a) d ∧ SeqAt.shaped d = true ∧ d.showable = true ∧ d.shown.length ≤ sizeLine ∧ Q (.str d.shown) H
theorem cr_reprD (hu : X.A.units + 65 < cLine) (gd : X.A.guards = some []) : CallR X (.builtin "repr") (rRepr X.K) := by
  intro pins s σ H xs us Q I r ⟨a, d, e, hd, sh, sw, sz, q⟩
  subst e
  obtain ⟨u, rfl, ru⟩ := vals1 r
  obtain ⟨as, rd⟩ := Dp.reads I d (.ref a) u hd ru
  cases ru
  unfold SeqAt.shaped at sh
  rw [Bool.and_eq_true, decide_eq_true_eq] at sh
  have nd := PyData.hasDict_of_canLay d sh.1
  refine PySem.repr_of_reads' rd sw (fun z => by rw [nd] at z; cases z) gd (by omega) (fun _ _ z => z) (fun h' u' tk hk => ?_) sz
  exact ⟨.str d.shown, H, I.kept hk, ⟨u', rfl⟩, q⟩

theorem call_lenK : CallR X (.builtin "len") (fun xs H Q => ∃ (a : Addr) (kvs : List (Key × V)), xs = [.ref a] ∧ H a = some (.dK kvs) ∧ Q (.int (kvs.length : Nat)) H) := by
  intro pins s σ H xs us Q I r ⟨a, kvs, e, h, q⟩
  subst e
  obtain ⟨u, rfl, ru⟩ := vals1 r
  cases ru
  exact d_len I (.inl h) fun t s' I' => ⟨.int _, H, I', ⟨_, rfl⟩, q⟩
def rDict (K : PySem.W.Frag) : List V → Hp → VK → Prop := fun xs H Q => ∃ (a : Addr) (ps : List Addr) (kvs : List (Key × V)), xs = [.ref a] ∧ SqL K H a (ps.map V.ref) ∧ Paired (fun p kv => SqT K H p [kV kv.1, kv.2]) ps kvs ∧
    ∀ p, H p = none → Q (.ref p) (upd H p (.dK (mergeK [] kvs)))
/-- sorted(xs), the items data of one kind -/
def rSortD (K : PySem.W.Frag) : List V → Hp → VK → Prop := fun xs H Q => ∃ (a : Addr) (bs : List (V × D × PyData)), xs = [.ref a] ∧ SqL K H a (bs.map fun b => b.1) ∧ (∀ b, b ∈ bs → Dp K H b.1 b.2.2) ∧ sortOk (bs.map fun b => b.2.2) = true ∧
  ∀ p, H p = none → Q (.ref p) (upd H p (.lst ((bs.mergeSort (PySem.W.dataLe false fun b => b.2.2)).map fun b => b.1)))
theorem sortOk_iff {ys : List PyData} (h : sortOk ys = true) : PySem.W.AllAlike ys ∧ PySem.W.Sortable ys ∧ ∀ y, y ∈ ys → y.depth ≤ 50 := by
  unfold sortOk at h
  rw [Bool.and_eq_true, Bool.and_eq_true, Bool.or_eq_true] at h
  obtain ⟨⟨h1, h2⟩, h3⟩ := h
  refine ⟨fun d hd d' hd' => List.all_eq_true.mp (List.all_eq_true.mp h1 d hd) d' hd', ?_, fun y hy => of_decide_eq_true (List.all_eq_true.mp h3 y hy)⟩
  rcases h2 with h2 | h2
  · refine .inl fun d hd => ?_
    have := List.all_eq_true.mp h2 d hd
    split at this
    · exact ⟨_, _, rfl⟩
    · cases this
  · refine .inr fun d hd => ?_
    have := List.all_eq_true.mp h2 d hd
    split at this
    · cases this
    · cases this
    · rename_i n1 n2
      exact ⟨fun e => n1 e, fun xs e => n2 xs e⟩
theorem each_vals : ∀ {bs : List (V × D × PyData)} {us : List Value}, Vals (bs.map fun b => b.1) us → PySem.W.EachIs (fun u (b : V × D × PyData) => RelV b.1 u) us bs
  | [], _, .nil => .nil
  | _ :: _, _, .cons h t => .cons h (each_vals t)
theorem vals_each : ∀ {bs : List (V × D × PyData)} {us : List Value}, PySem.W.EachIs (fun u (b : V × D × PyData) => RelV b.1 u) us bs → Vals (bs.map fun b => b.1) us
  | _, _, .nil => .nil
  | _, _, .cons h t => .cons h (vals_each t)
theorem each_mem' {α β : Type} {R : α → β → Prop} : ∀ {as : List α} {bs : List β}, PySem.W.EachIs R as bs → PySem.W.EachIs (fun a b => R a b ∧ b ∈ bs) as bs
  | _, _, .nil => .nil
  | _, _, .cons h t => .cons ⟨h, List.mem_cons_self⟩ ((each_mem' t).mono fun _ _ z => ⟨z.1, List.mem_cons_of_mem _ z.2⟩)
theorem cr_sortD (hu : X.A.units + 65 < cLine) : CallR X (.builtin "sorted") (rSortD X.K) := by
  intro pins s σ H xs us Q I r ⟨a, bs, e, hs, hd, ok, q⟩
  subst e
  obtain ⟨its, rv, hl, hz⟩ := I.list hs
  rw [Vals.ref1 r]
  obtain ⟨k1, k2, k3⟩ := sortOk_iff ok
  have ev := each_vals rv
  have lb : bs.length = its.length := by rw [← ev.length]
  rw [List.length_map] at hz
  refine PySem.W.sorted_data (enc := fun b : V × D × PyData => b.2.2) hl.isList ev ((each_mem' ev).mono fun u b ⟨h1, h2⟩ => Dp.reads I b.2.2 b.1 u (hd b h2) h1) k1 k2 hz
    (fun b hb => by have := k3 b.2.2 (List.mem_map.mpr ⟨b, hb, rfl⟩); omega) fun out lo he => ?_
  obtain ⟨ep, he'⟩ := PyProof.Rows.sortedAll_at s.heap its out.toArray
  have hlen : ((bs.mergeSort (PySem.W.dataLe false fun b => b.2.2)).map fun b => b.1).length ≤ sizeLine := by
    rw [List.length_map, List.length_mergeSort]
    exact hz
  exact ⟨.ref _, upd H (s.heap.objs.size + 1) (.lst ((bs.mergeSort (PySem.W.dataLe false fun b => b.2.2)).map fun b => b.1)), I.laid (t' := s.toks) (fun _ _ => PyProof.Rows.sortedAll_old) (Nat.le_succ _) ⟨hlen, out, ep, vals_each he, he'⟩, rfl, q _ (I.hok.fresh (Nat.le_succ _))⟩
def biId : Bi → Value
  | .len => .builtin "len"
  | .abs => .builtin "abs"
  | .max => .builtin "max"
  | .min => .builtin "min"
  | .int => .type "int"
  | .tuple => .type "tuple"
  | .list => .type "list"
  | .sum => .builtin "sum"
  | .repr => .builtin "repr"
  | .all => .builtin "all"
  | .any => .builtin "any"
  | .gcd => .builtin "math.gcd"
  | .dict => .type "dict"
  | .sorted => .builtin "sorted"
def biR (K : PySem.W.Frag) : Bi → List V → Hp → VK → Prop
  | .len => fun xs H Q => (∃ (x : V) (n : Nat), xs = [x] ∧ LenV K x H n ∧ Q (.int n) H) ∨ ∃ (a : Addr) (kvs : List (Key × V)), xs = [.ref a] ∧ H a = some (.dK kvs) ∧ Q (.int (kvs.length : Nat)) H
  | .abs => fun xs H Q => ∃ i, xs = [.int i] ∧ Q (.int (if i < 0 then -i else i)) H
  | .max => fun xs H Q => ∃ i j, xs = [.int i, .int j] ∧ Q (.int (if j > i then j else i)) H
  | .min => fun xs H Q => ∃ i j, xs = [.int i, .int j] ∧ Q (.int (if j < i then j else i)) H
  | .int => fun xs H Q => (∃ i, xs = [.int i] ∧ Q (.int i) H) ∨ ∃ k, xs = [.bl k] ∧ Q (.int (if k then 1 else 0)) H
  | .tuple => fun xs H Q => ∃ p ys, xs = [.ref p] ∧ ((SqL K H p ys ∧ ∀ l, H l = none → Q (.ref l) (upd H l (.tup ys))) ∨ (SqT K H p ys ∧ Q (.ref p) H))
  | .list => fun xs H Q => ∃ p ys, xs = [.ref p] ∧ (SqL K H p ys ∨ SqT K H p ys) ∧ ∀ l, H l = none → Q (.ref l) (upd H l (.lst ys))
  | .sum => rSum K
  | .repr => rRepr K
  | .all => rAll K
  | .any => rAny K
  | .gcd => rGcd
  | .dict => rDict K
  | .sorted => rSortD K
theorem cr_bi (hc : X.calm = true) (hu : X.A.units + 65 < cLine) (gd : X.A.guards = some []) : ∀ b : Bi, CallR X (biId b) (biR X.K b)
  | .len => call_len.or call_lenK
  | .abs => call_abs
  | .max => call_max2 hc
  | .min => call_min2 hc
  | .int => call_int1
  | .tuple => call_tuple_of
  | .list => call_list_of
  | .sum => cr_sum hc
  | .repr => cr_reprD hu gd
  | .all => cr_all hc
  | .any => cr_any hc
  | .gcd => cr_gcd
  | .dict => call_dictP hc
  | .sorted => cr_sortD hu
variable {K : PySem.W.Frag} {H : Hp} {ι : Cells} {B : List Addr} {μ : Mem} {v u : V} {x y d : D} {Q : VK} {G : Hp}
theorem ints_reps : ∀ {xs : List D} {is : List Int} {vs : List V}, Reps K G ι vs xs → intsD xs = some is → vs = is.map V.int
  | [], is, _, .nil, e => by simp only [intsD, Option.some.injEq] at e; subst e; rfl
  | .int i :: r, is, _, .cons h t, e => by
    simp only [intsD] at e
    obtain ⟨js, e1, e2⟩ := Option.map_eq_some_iff.mp e
    subst e2
    cases h
    rw [ints_reps t e1]
    rfl
  | .non :: r, is, _, .cons _ _, e => by simp [intsD] at e
  | .bl _ :: r, is, _, .cons _ _, e => by simp [intsD] at e
  | .str _ :: r, is, _, .cons _ _, e => by simp [intsD] at e
  | .tup _ :: r, is, _, .cons _ _, e => by simp [intsD] at e
  | .lst _ :: r, is, _, .cons _ _, e => by simp [intsD] at e
  | .dic _ :: r, is, _, .cons _ _, e => by simp [intsD] at e
  | .ref _ :: r, is, _, .cons _ _, e => by simp [intsD] at e
theorem bls_reps : ∀ {xs : List D} {is : List Bool} {vs : List V}, Reps K G ι vs xs → blsD xs = some is → vs = is.map V.bl
  | [], is, _, .nil, e => by simp only [blsD, Option.some.injEq] at e; subst e; rfl
  | .bl i :: r, is, _, .cons h t, e => by
    simp only [blsD] at e
    obtain ⟨js, e1, e2⟩ := Option.map_eq_some_iff.mp e
    subst e2
    cases h
    rw [bls_reps t e1]
    rfl
  | .non :: r, is, _, .cons _ _, e => by simp [blsD] at e
  | .int _ :: r, is, _, .cons _ _, e => by simp [blsD] at e
  | .str _ :: r, is, _, .cons _ _, e => by simp [blsD] at e
  | .tup _ :: r, is, _, .cons _ _, e => by simp [blsD] at e
  | .lst _ :: r, is, _, .cons _ _, e => by simp [blsD] at e
  | .dic _ :: r, is, _, .cons _ _, e => by simp [blsD] at e
  | .ref _ :: r, is, _, .cons _ _, e => by simp [blsD] at e
theorem RepA.seqT {ds : List D} (S : Sim K H ι B μ) (r : RepA K H ι B v d) (e : DI.seqT μ d = some ds) : ∃ a vs, v = .ref a ∧ (SqL K H a vs ∨ SqT K H a vs) ∧ Reps K (cut H ι B) ι vs ds := by
  cases d with
  | tup ds' =>
    cases e
    obtain ⟨a, vs, h1, h2, h3⟩ := r.tup
    exact ⟨a, vs, h1, .inr h2, h3⟩
  | lst ds' =>
    obtain ⟨a, vs, h1, h2, h3⟩ := r.seq S (show seqV μ _ = some ds from e)
    exact ⟨a, vs, h1, .inl h2, h3⟩
  | ref n =>
    obtain ⟨a, vs, h1, h2, h3⟩ := r.seq S (show seqV μ _ = some ds from e)
    exact ⟨a, vs, h1, .inl h2, h3⟩
  | _ => cases e
theorem len_val {n : Nat} (S : Sim K H ι B μ) (r : RepA K H ι B v x) (h : lenD μ x = some n) : LenV K v H n ∨ ∃ (a : Addr) (kvs : List (Key × V)), v = .ref a ∧ H a = some (.dK kvs) ∧ n = kvs.length := by
  unfold lenD at h
  split at h
  · split at h
    · rename_i c
      cases h
      rw [r.str]
      exact .inl ⟨c, rfl⟩
    · cases h
  · cases h
    obtain ⟨a, vs, rfl, s1, q1⟩ := r.tup
    exact .inl (.inr ⟨vs, s1, q1.length.symm⟩)
  · cases h
    cases r with
    | rep r => cases r with
      | dic s r => exact .inr ⟨_, _, rfl, cut_same _ _ s, r.length.symm⟩
  · obtain ⟨xs, e1, e2⟩ := Option.map_eq_some_iff.mp h
    subst e2
    obtain ⟨a, vs, rfl, s1, q1⟩ := r.seq S e1
    exact .inl (.inl ⟨vs, s1, q1.length.symm⟩)
theorem pairs_reps : ∀ {xs : List D} {kds : List (Key × D)} {vs : List V}, Reps K G ι vs xs → pairsD xs = some kds →
    ∃ (ps : List Addr) (kvs : List (Key × V)), vs = ps.map V.ref ∧ Paired (fun p kv => SqT K G p [kV kv.1, kv.2]) ps kvs ∧ RepKV K G ι kvs kds
  | [], kds, _, .nil, e => by simp only [pairsD, Option.some.injEq] at e; subst e; exact ⟨[], [], rfl, .nil, .nil⟩
  | x :: r, kds, _, .cons h t, e => by
    unfold pairsD at e
    split at e
    · rename_i heq
      cases heq
    · rename_i k v' r' heq
      cases heq
      obtain ⟨k', e1, e2⟩ := Option.bind_eq_some_iff.mp e
      obtain ⟨q, e3, e4⟩ := Option.map_eq_some_iff.mp e2
      subst e4
      obtain ⟨ps, kvs, rfl, h2, h3⟩ := pairs_reps t e3
      cases h with
      | tup s rr =>
        cases rr with
        | cons ha rr =>
          cases rr with
          | cons hb rr =>
            cases rr
            unfold keyD at e1
            split at e1
            · cases e1
              cases ha
              exact ⟨_ :: ps, (.inl _, _) :: kvs, rfl, .cons s h2, .cons hb h3⟩
            · cases e1
              cases ha
              exact ⟨_ :: ps, (.inr _, _) :: kvs, rfl, .cons s h2, .cons hb h3⟩
            · cases e1
    · cases e
theorem reps_of : ∀ {bs : List (V × D × PyData)}, (∀ b, b ∈ bs → Rep K G ι b.1 b.2.1) → Reps K G ι (bs.map fun b => b.1) (bs.map (Prod.fst ∘ fun b => b.2))
  | [], _ => .nil
  | b :: bs, h => .cons (h b List.mem_cons_self) (reps_of fun c hc => h c (List.mem_cons_of_mem _ hc))
theorem pairs_sort (S : Sim K H ι B μ) : ∀ {xs : List D} {vs : List V} {ps : List (D × PyData)}, Reps K (cut H ι B) ι vs xs → pyPairs μ xs = some ps →
    ∃ bs : List (V × D × PyData), bs.map (fun b => b.1) = vs ∧ bs.map (fun b => b.2) = ps ∧ ∀ b, b ∈ bs → Dp K H b.1 b.2.2 ∧ Rep K (cut H ι B) ι b.1 b.2.1
  | [], _, ps, .nil, e => by simp only [pyPairs, Option.some.injEq] at e; subst e; exact ⟨[], rfl, rfl, fun _ h => nomatch h⟩
  | x :: xs, _, ps, .cons (v := v) h t, e => by
    unfold pyPairs at e
    obtain ⟨y, e1, e⟩ := Option.bind_eq_some_iff.mp e
    obtain ⟨qs, e2, e3⟩ := Option.map_eq_some_iff.mp e
    subst e3
    obtain ⟨bs, b1, b2, b3⟩ := pairs_sort S t e2
    refine ⟨(v, x, y) :: bs, by rw [List.map_cons, b1], by rw [List.map_cons, b2], fun b hb => ?_⟩
    rcases List.mem_cons.mp hb with rfl | hb
    · exact ⟨RepA.py S (.rep h) e1, h⟩
    · exact b3 b hb
abbrev RepAs (K : PySem.W.Frag) (H : Hp) (ι : Cells) (B : List Addr) : List V → List D → Prop := Paired (RepA K H ι B)
theorem RepAs.one {vs : List V} (r : RepAs K H ι B vs [x]) : ∃ v, vs = [v] ∧ RepA K H ι B v x := by
  cases r with
  | cons h t => cases t; exact ⟨_, rfl, h⟩
theorem RepAs.two {vs : List V} (r : RepAs K H ι B vs [x, y]) : ∃ v u, vs = [v, u] ∧ RepA K H ι B v x ∧ RepA K H ι B u y := by
  cases r with
  | cons h t =>
    cases t with
    | cons h2 t => cases t; exact ⟨_, _, rfl, h, h2⟩
theorem bi_val {b : Bi} {vs : List V} {ds : List D} (S : Sim K H ι B μ) (r : RepAs K H ι B vs ds) (h : biD μ b ds = some d) (k : KX K H ι B μ d Q) : biR K b vs H Q := by
  unfold biD at h
  split at h
  · obtain ⟨n, e1, e2⟩ := Option.map_eq_some_iff.mp h
    subst e2
    obtain ⟨v, rfl, r0⟩ := r.one
    rcases len_val S r0 e1 with l | ⟨a, kvs, rfl, l1, rfl⟩
    · exact .inl ⟨v, n, rfl, l, KE.now k S (.int _)⟩
    · exact .inr ⟨a, kvs, rfl, l1, KE.now k S (.int _)⟩
  · cases h
    obtain ⟨v, rfl, r0⟩ := r.one
    rw [r0.int]
    exact ⟨_, rfl, KE.now k S (.int _)⟩
  · cases h
    obtain ⟨v, u, rfl, r1, r2⟩ := r.two
    rw [r1.int, r2.int]
    exact ⟨_, _, rfl, KE.now k S (.int _)⟩
  · cases h
    obtain ⟨v, u, rfl, r1, r2⟩ := r.two
    rw [r1.int, r2.int]
    exact ⟨_, _, rfl, KE.now k S (.int _)⟩
  · cases h
    obtain ⟨v, rfl, r0⟩ := r.one
    rw [r0.int]
    exact .inl ⟨_, rfl, KE.now k S (.int _)⟩
  · cases h
    obtain ⟨v, rfl, r0⟩ := r.one
    rw [r0.bl]
    exact .inr ⟨_, rfl, KE.now k S (.int _)⟩
  · cases h
    obtain ⟨v, rfl, r0⟩ := r.one
    obtain ⟨a, ws, e, s1, q1⟩ := r0.tup
    subst e
    refine ⟨a, ws, rfl, .inr ⟨s1, ?_⟩⟩
    cases r0 with
    | rep r0 => exact KE.now k S r0
  · obtain ⟨xs, e1, e2⟩ := Option.map_eq_some_iff.mp h
    subst e2
    obtain ⟨v, rfl, r0⟩ := r.one
    obtain ⟨a, ws, rfl, s1, q1⟩ := r0.seq S e1
    exact ⟨a, ws, rfl, .inl ⟨s1, fun p hp => KE.tup k S hp q1⟩⟩
  · cases h
    obtain ⟨v, rfl, r0⟩ := r.one
    obtain ⟨a, ws, rfl, s1, q1⟩ := r0.tup
    exact ⟨a, ws, rfl, .inr s1, fun p hp => KF.laid k S hp q1⟩
  · obtain ⟨xs, e1, e2⟩ := Option.map_eq_some_iff.mp h
    subst e2
    obtain ⟨v, rfl, r0⟩ := r.one
    obtain ⟨a, ws, rfl, s1, q1⟩ := r0.seq S e1
    exact ⟨a, ws, rfl, .inl s1, fun p hp => KF.laid k S hp q1⟩
  · obtain ⟨xs, e1, h⟩ := Option.bind_eq_some_iff.mp h
    obtain ⟨is, e2, e3⟩ := Option.map_eq_some_iff.mp h
    subst e3
    obtain ⟨v, rfl, r0⟩ := r.one
    obtain ⟨a, ws, rfl, s1, q1⟩ := r0.seq S e1
    rw [ints_reps q1 e2] at s1
    exact ⟨a, is, rfl, s1, KE.now k S (.int _)⟩
  · obtain ⟨xs, e1, h⟩ := Option.bind_eq_some_iff.mp h
    obtain ⟨is, e2, e3⟩ := Option.map_eq_some_iff.mp h
    subst e3
    obtain ⟨v, rfl, r0⟩ := r.one
    obtain ⟨a, ws, rfl, s1, q1⟩ := r0.seq S e1
    rw [bls_reps q1 e2] at s1
    exact ⟨a, is, rfl, s1, KE.now k S (.bl _)⟩
  · obtain ⟨xs, e1, h⟩ := Option.bind_eq_some_iff.mp h
    obtain ⟨is, e2, e3⟩ := Option.map_eq_some_iff.mp h
    subst e3
    obtain ⟨v, rfl, r0⟩ := r.one
    obtain ⟨a, ws, rfl, s1, q1⟩ := r0.seq S e1
    rw [bls_reps q1 e2] at s1
    exact ⟨a, is, rfl, s1, KE.now k S (.bl _)⟩
  · cases h
    obtain ⟨v, u, rfl, r1, r2⟩ := r.two
    rw [r1.int, r2.int]
    exact ⟨_, _, rfl, KE.now k S (.int _)⟩
  · obtain ⟨xs, e1, h⟩ := Option.bind_eq_some_iff.mp h
    obtain ⟨kds, e2, e3⟩ := Option.map_eq_some_iff.mp h
    subst e3
    obtain ⟨v, rfl, r0⟩ := r.one
    obtain ⟨a, ws, rfl, s1, q1⟩ := r0.seq S e1
    obtain ⟨ps, kvs, rfl, h2, h3⟩ := pairs_reps q1 e2
    exact ⟨a, ps, kvs, rfl, s1, h2.mono (fun p kv q => sqT_same cut_same q), fun p hp => KE.dic k S hp (RepKV.merge h3 .nil)⟩
  · obtain ⟨xs, e1, h⟩ := Option.bind_eq_some_iff.mp h
    obtain ⟨v, rfl, r0⟩ := r.one
    obtain ⟨a, ws, rfl, s1, q1⟩ := r0.seq S e1
    unfold sortD at h
    obtain ⟨ps, e2, h⟩ := Option.bind_eq_some_iff.mp h
    split at h
    · rename_i ok
      cases h
      obtain ⟨bs, b1, b2, b3⟩ := pairs_sort S q1 e2
      refine ⟨a, bs, rfl, by rw [b1]; exact s1, fun b hb => (b3 b hb).1, by rw [← b2, List.map_map] at ok; exact ok, fun p hp => ?_⟩
      have so : (bs.mergeSort (PySem.W.dataLe false fun b => b.2.2)).map (fun b => b.2) = ps.mergeSort (PySem.W.dataLe false Prod.snd) := by
        rw [← b2]
        exact PySem.W.sort_maps (r := PySem.W.dataLe false fun b : V × D × PyData => b.2.2) (s := PySem.W.dataLe false Prod.snd) (fun b : V × D × PyData => b.2) (fun _ _ _ _ => rfl)
      refine KF.laid (vs := (bs.mergeSort (PySem.W.dataLe false fun b => b.2.2)).map fun b => b.1) k S hp ?_
      rw [← so, List.map_map]
      exact reps_of fun b hb => (b3 b (List.mem_mergeSort.mp hb)).2
    · cases h
  · obtain ⟨xs, e1, h⟩ := Option.bind_eq_some_iff.mp h
    obtain ⟨z, e2, h⟩ := Option.bind_eq_some_iff.mp h
    split at h
    · rename_i c
      rw [Bool.and_eq_true, Bool.and_eq_true, decide_eq_true_eq] at c
      cases h
      obtain ⟨v, rfl, r0⟩ := r.one
      obtain ⟨a, ws, rfl, _, _⟩ := r0.seqT S e1
      exact ⟨a, z, rfl, r0.py S e2, c.1, c.2.1, c.2.2, KE.now k S (.str _)⟩
    · cases h
  · cases h

/-! ### isinstance -/
def tyNm : D → String
  | .non => "NoneType"
  | .bl _ => "bool"
  | .int _ => "int"
  | .str _ => "str"
  | .tup _ => "tuple"
  | .lst _ => "list"
  | .ref _ => "list"
  | .dic _ => "dict"
def Ty.nm : Ty → String
  | .int => "int"
  | .bool => "bool"
  | .str => "str"
  | .list => "list"
  | .tuple => "tuple"
  | .dict => "dict"
theorem tyx_l {a : Addr} {vs : List V} (s : SqL K H a vs) : TyX K H (.ref a) (.type "list") := by
  rcases s with (s | ⟨o, s⟩) | ⟨o, its, n, e, c, _⟩
  · exact .base (.lst s)
  · exact .base (.frz s)
  · exact .kList e c
theorem tyx_t {a : Addr} {vs : List V} (s : SqT K H a vs) : TyX K H (.ref a) (.type "tuple") := by
  rcases s with (s | ⟨o, s⟩) | ⟨o, its, n, e, c, _⟩
  · exact .base (.tup s)
  · exact .fTuple s
  · exact .kTuple e c
theorem tyx_of (S : Sim K H ι B μ) (r : RepA K H ι B v x) (hl : liveD μ x = true) : TyX K H v (.type (tyNm x)) := by
  cases x with
  | non => rw [r.non]; exact .base .non
  | bl b => rw [r.bl]; exact .base (.bl b)
  | int b => rw [r.int]; exact .base (.int b)
  | str b => rw [r.str]; exact .base (.str b)
  | tup xs => obtain ⟨a, vs, rfl, s, _⟩ := r.tup; exact tyx_t s
  | lst xs => obtain ⟨a, vs, rfl, s, _⟩ := r.seq S rfl; exact tyx_l s
  | ref n =>
    obtain ⟨ds, e⟩ := Option.isSome_iff_exists.mp (show ((μ[n]?).join).isSome = true from hl)
    obtain ⟨a, vs, rfl, s, _⟩ := r.seq S (show seqV μ (.ref n) = some ds from e)
    exact tyx_l s
  | dic kvs =>
    cases r with
    | rep r => cases r with
      | dic s _ => exact .base (.dK (cut_same _ _ s))
def kitTab (a : String) (t : Ty) : Option Bool := kitB a t.nm
theorem kit_all (x : D) (t : Ty) : kitB (tyNm x) t.nm = some (isT x t) := by
  cases x <;> cases t <;> (simp only [tyNm, isT]; decide +kernel)
theorem kit_any (x : D) : ∀ ts : List Ty, PySem.W.kitAny K (.type (tyNm x)) (ts.map fun t => Value.type t.nm) = some (ts.any (isT x))
  | [] => kitAny_nil
  | t :: ts => by
    refine kitAny_cons (kit_ty (kit_all x t)) (fun e => ?_) fun e => ?_
    · rw [List.any_cons, e, Bool.false_or]; exact kit_any x ts
    · rw [List.any_cons, e, Bool.true_or]
theorem cls_all : ∀ ts : List Ty, Paired ClsV (ts.map fun t => V.ty t.nm) (ts.map fun t => Value.type t.nm)
  | [] => .nil
  | t :: ts => .cons (.ty _) (cls_all ts)
end
end DI
set_option Elab.async false
set_option linter.all false
set_option maxRecDepth 100000
/-! DIS: sorted(set(xs)), xs tuples of whole numbers -/
namespace DI
open PySem PySem.Spec PyProof.Rows L2
/-! ### lists of whole numbers in their order -/
theorem li_total (p q : List Int) : p ≤ q ∨ q ≤ p := List.le_total p q
theorem li_strict {p q : List Int} (h : p ≤ q) (ne : p ≠ q) : p < q := by
  rcases List.le_iff_lt_or_eq.mp h with z | z
  · exact z
  · exact absurd z ne
theorem dedup_mem {k : List Int} : ∀ ks : List (List Int), k ∈ dedupI ks ↔ k ∈ ks
  | [] => Iff.rfl
  | x :: r => by
    unfold dedupI
    split
    · rename_i h
      rw [dedup_mem r, List.mem_cons]
      refine ⟨.inr, fun z => z.elim (fun e => ?_) id⟩
      rw [e]
      exact (dedup_mem r).mp h
    · rw [List.mem_cons, List.mem_cons, dedup_mem r]
theorem dedup_nodup : ∀ ks : List (List Int), (dedupI ks).Nodup
  | [] => .nil
  | x :: r => by
    unfold dedupI
    split
    · exact dedup_nodup r
    · rename_i h
      exact List.nodup_cons.mpr ⟨h, dedup_nodup r⟩
theorem once_srt (ks : List (List Int)) : (onceI ks).Pairwise (· < ·) := by
  have h1 : (onceI ks).Pairwise (fun p q => decide (p ≤ q) = true) :=
    List.pairwise_mergeSort (le := fun p q : List Int => decide (p ≤ q)) (fun a b c h1 h2 => decide_eq_true (List.le_trans (of_decide_eq_true h1) (of_decide_eq_true h2))) (fun a b => by
      rcases li_total a b with z | z <;> simp [z]) (dedupI ks)
  have h2 : (onceI ks).Nodup := (List.mergeSort_perm (dedupI ks) _).nodup_iff.mpr (dedup_nodup ks)
  exact List.Pairwise.imp₂ (fun p q a b => li_strict (of_decide_eq_true a) b) h1 h2
theorem once_mem {ks : List (List Int)} {k : List Int} : k ∈ onceI ks ↔ k ∈ ks := by
  unfold onceI
  rw [List.mem_mergeSort, dedup_mem]
/-- two lists in strict order that hold the same are one -/
theorem strict_one {α : Type} {lt : α → α → Prop} (as : ∀ x y, lt x y → lt y x → False) : ∀ l m : List α, l.Pairwise lt → m.Pairwise lt → (∀ x, x ∈ l ↔ x ∈ m) → l = m
  | [], m, _, _, h => by
    cases m with
    | nil => rfl
    | cons y m => exact absurd ((h y).mpr List.mem_cons_self) (fun z => nomatch z)
  | x :: l, [], _, _, h => absurd ((h x).mp List.mem_cons_self) (fun z => nomatch z)
  | x :: l, y :: m, hl, hm, h => by
    obtain ⟨hl1, hl2⟩ := List.pairwise_cons.mp hl
    obtain ⟨hm1, hm2⟩ := List.pairwise_cons.mp hm
    have e : x = y := by
      rcases List.mem_cons.mp ((h x).mp List.mem_cons_self) with z | z
      · exact z
      · rcases List.mem_cons.mp ((h y).mpr List.mem_cons_self) with w | w
        · exact w.symm
        · exact absurd (hm1 x z) fun q => as _ _ q (hl1 y w)
    subst e
    have irr : ∀ z, lt z z → False := fun z q => as z z q q
    rw [strict_one as l m hl2 hm2 fun z => ⟨fun hz => ?_, fun hz => ?_⟩]
    · rcases List.mem_cons.mp ((h z).mp (List.mem_cons_of_mem _ hz)) with q | q
      · subst q; exact absurd (hl1 z hz) (irr z)
      · exact q
    · rcases List.mem_cons.mp ((h z).mpr (List.mem_cons_of_mem _ hz)) with q | q
      · subst q; exact absurd (hm1 z hz) (irr z)
      · exact q
theorem once_is {ks ms : List (List Int)} (h1 : ms.Pairwise (· < ·)) (h2 : ∀ k, k ∈ ms ↔ k ∈ ks) : ms = onceI ks :=
  strict_one (fun x y a b => List.lt_irrefl x (List.lt_trans a b)) _ _ h1 (once_srt ks) fun k => (h2 k).trans once_mem.symm
/-! ### the set, told in its order -/
abbrev rowPy (q : Addr × List Int) : PyData := .tuple (q.2.map .int)
theorem row_alike (ps qs : List Int) : PySem.W.alike (.tuple (ps.map .int)) (.tuple (qs.map .int)) = true := by
  rw [PySem.W.alike]
  exact PySem.W.alike_ints ps qs
theorem row_le (a b : Addr × List Int) : PySem.W.dataLe false rowPy a b = decide (a.2 ≤ b.2) := by
  have e : PySem.W.dataLe false rowPy a b = !PySem.W.dataLt (rowPy b) (rowPy a) := rfl
  have z := PySem.W.dataLt_ints b.2 a.2
  unfold PySem.W.rowLt at z
  rw [e, PySem.W.dataLt_tuple, z]
  by_cases h : b.2 < a.2
  · have : ¬ a.2 ≤ b.2 := fun z => z h
    simp [h, this]
  · have : a.2 ≤ b.2 := h
    simp [h, this]
theorem row_pairwise (l : List (Addr × List Int)) : (l.mergeSort (PySem.W.dataLe false rowPy)).Pairwise fun a b => a.2 ≤ b.2 := by
  have e : PySem.W.dataLe false rowPy = fun a b => decide (a.2 ≤ b.2) := by funext a b; exact row_le a b
  rw [e]
  exact (List.pairwise_mergeSort (le := fun a b : Addr × List Int => decide (a.2 ≤ b.2)) (fun a b c h1 h2 => decide_eq_true (List.le_trans (of_decide_eq_true h1) (of_decide_eq_true h2))) (fun a b => by
      rcases li_total a.2 b.2 with z | z <;> simp [z]) l).imp fun h => of_decide_eq_true h
theorem dps_ints (K : PySem.W.Frag) (H : Hp) : ∀ k : List Int, DpAll K H (k.map V.int) (k.map .int)
  | [] => .nil
  | i :: k => .cons (.int i) (dps_ints K H k)
/-- the addresses of a list of references -/
theorem rows_back {L : List (Addr × List Int)} : ∀ vs : List Value, (∀ v, v ∈ vs → ∃ q, q ∈ L ∧ v = Value.ref q.1) → ∃ M : List (Addr × List Int), vs = M.map (fun q => Value.ref q.1) ∧ ∀ q, q ∈ M → q ∈ L
  | [], _ => ⟨[], rfl, fun _ h => nomatch h⟩
  | v :: vs, h => by
    obtain ⟨q, hq, e⟩ := h v List.mem_cons_self
    obtain ⟨M, e1, e2⟩ := rows_back vs fun u hu => h u (List.mem_cons_of_mem _ hu)
    refine ⟨q :: M, by rw [List.map_cons, e, e1], fun r hr => ?_⟩
    rcases List.mem_cons.mp hr with rfl | hr
    · exact hq
    · exact e2 r hr
section
variable {X : Cx}
/-- sorted(s), s a set of tuples of whole numbers that are not empty -/
def rSortU (K : PySem.W.Frag) (P : Program) (w : World) : List V → Hp → VK → Prop := fun xs H Q => ∃ (a : Addr) (L : List (Addr × List Int)), xs = [.ref a] ∧ H a = some (SetTO P w a L) ∧ (∀ q, q ∈ L → SqT K H q.1 (q.2.map V.int)) ∧ (∀ q, q ∈ L → q.2 ≠ []) ∧
  ∀ (M : List (Addr × List Int)) (p : Addr), (∀ q, q ∈ M → q ∈ L) → (∀ q, q ∈ L → q.2 ∈ M.map (·.2)) → (M.map (·.2)).Pairwise (· < ·) → H p = none → Q (.ref p) (upd H p (.lst (M.map fun q => V.ref q.1)))
theorem cr_sortU (hc : X.calm = true) (hu : X.A.units + 65 < cLine) : CallR X (.builtin "sorted") (rSortU X.K X.prog X.w) := by
  intro pins s σ H xs us Q I r ⟨a, L, e, ha, hk, hne, q⟩
  subst e
  rw [Vals.ref1 r]
  have hdl : X.A.handled = none := I.ok.hd hc
  obtain ⟨es, ep, t, R⟩ := SetT0.full (show SetT0 X.prog X.w s.heap a L from (I.hok a _ ha).1) fun p hp => I.isT (hk p hp)
  obtain ⟨ob, hob, hex, hdat⟩ := R.ob
  have nes : es.size < scanBound := by
    have z1 := R.size
    have z2 := R.few
    unfold scanBound
    omega
  refine Calls.call_function_entry kind_sorted plain_sorted entry_sorted (args_sorted1 _) ?_
  unfold Builtin.«sorted»
  refine wpAny_bind (m := checkCount "sorted" 1 1 _) (wpAny_pure ?_)
  refine wpAny_bind (collect_set hdl ⟨ob, hob, hex.1, hdat⟩ R.fits nes R.tab.ris R.led fun s1 vs k1 hz g1 o1 pm => ?_)
  have eL : es.toList.map (·.2) = L.map fun q => Value.ref q.1 := by
    have z := congrArg (List.map Prod.snd) R.rows
    refine z.trans ?_
    unfold rowsOf
    rw [List.map_map]
    rfl
  rw [eL] at pm
  obtain ⟨M, eM, subM⟩ := rows_back (L := L) vs fun v hv => by
    obtain ⟨x, hx, ex⟩ := List.mem_map.mp (pm.mem_iff.mp hv)
    exact ⟨x, hx, ex.symm⟩
  have lenV : vs.length = L.length := by rw [pm.length_eq, List.length_map]
  have small : vs.length ≤ sizeLine := by
    have z := R.few
    unfold sizeLine
    omega
  have covM : ∀ x, x ∈ L → x.1 ∈ M.map (·.1) := fun x hx => by
    have z := pm.mem_iff.mpr (List.mem_map.mpr ⟨x, hx, rfl⟩)
    rw [eM] at z
    obtain ⟨y, hy, ey⟩ := List.mem_map.mp z
    injection ey with ey
    exact List.mem_map.mpr ⟨y, hy, ey⟩
  have oneA : ∀ x y, x ∈ L → y ∈ L → x.1 = y.1 → x = y := fun x y hx hy e => by
    have z1 := R.tup x hx
    rw [e] at z1
    exact Prod.ext e (z1.inj (R.tup y hy))
  have ndM : (M.map (·.2)).Nodup := by
    have nL : L.Nodup := List.Pairwise.of_map _ (fun _ _ h e => h (congrArg Prod.snd e)) R.nd
    have nr : (L.map fun q => Value.ref q.1).Nodup := List.pairwise_map.mpr (List.Pairwise.imp_of_mem (fun {x y} hx hy h e => by
      injection e with e
      exact h (oneA x y hx hy e)) nL)
    have nv : (M.map fun q => Value.ref q.1).Nodup := by rw [← eM]; exact pm.nodup_iff.mpr nr
    have nM : M.Nodup := List.Pairwise.of_map _ (fun _ _ h e => h (by rw [e])) nv
    have pL : M.Perm L := (List.perm_ext_iff_of_nodup nM nL).mpr fun x => ⟨subM x, fun hx => by
      obtain ⟨y, hy, ey⟩ := List.mem_map.mp (covM x hx)
      rw [← oneA y x (subM y hy) hx ey]
      exact hy⟩
    exact (pL.map _).nodup_iff.mpr R.nd
  refine wpAny_bind (wpAny_newList ?_ small)
  have hnew : (s1.heap.push (seqObj "list" vs.toArray 0)).get? s1.heap.objs.size = some (seqObj "list" vs.toArray 0) := Heap.get?_push_size _ rfl
  have old1 : ∀ b o, s.heap.get? b = some o → (s1.heap.push (seqObj "list" vs.toArray 0)).get? b = some o := fun b o z => Heap.get?_push_of_some _ (k1 b o z)
  have keep : ∀ b o, s.heap.get? b = some o → (PySem.W.sortingHeap (s1.heap.push (seqObj "list" vs.toArray 0)) s1.heap.objs.size vs).get? b = some o := fun b o z =>
    PySem.W.sortingHeap_old (Nat.ne_of_lt (Heap.lt_size (k1 b o z))) (old1 b o z)
  have rd : ∀ x, x ∈ L → ∃ as, Reads (PySem.W.sortingHeap (s1.heap.push (seqObj "list" vs.toArray 0)) s1.heap.objs.size vs) (.ref x.1) (rowPy x) as := fun x hx => by
    obtain ⟨as, z⟩ := Dp.reads I (rowPy x) (.ref x.1) (.ref x.1) (.tup (hk x hx) (dps_ints _ _ _)) rfl
    exact ⟨as, PyProof.Rows.Reads.keeps keep z⟩
  have er : PySem.W.EachIs (fun v (x : Addr × List Int) => (v = Value.ref x.1) ∧ x ∈ L) vs M := by
    rw [eM]
    have : ∀ N : List (Addr × List Int), (∀ x, x ∈ N → x ∈ L) → PySem.W.EachIs (fun v (x : Addr × List Int) => (v = Value.ref x.1) ∧ x ∈ L) (N.map fun q => Value.ref q.1) N := fun N => by
      induction N with
      | nil => exact fun _ => .nil
      | cons x N ih => exact fun h => .cons ⟨rfl, h x List.mem_cons_self⟩ (ih fun y hy => h y (List.mem_cons_of_mem _ hy))
    exact this M subM
  have al : PySem.W.AllAlike (M.map rowPy) := fun d hd d' hd' => by
    obtain ⟨x, _, rfl⟩ := List.mem_map.mp hd
    obtain ⟨y, _, rfl⟩ := List.mem_map.mp hd'
    exact row_alike x.2 y.2
  have so : PySem.W.Sortable (M.map rowPy) := .inl fun d hd => by
    obtain ⟨x, hx, rfl⟩ := List.mem_map.mp hd
    match hx2 : x.2 with
    | [] => exact absurd hx2 (hne x (subM x hx))
    | i :: k => exact ⟨.int i, k.map .int, by unfold rowPy; rw [hx2]; rfl⟩
  have er2 : PySem.W.EachIs (fun v (x : Addr × List Int) => ∃ as, Reads (PySem.W.sortingHeap (s1.heap.push (seqObj "list" vs.toArray 0)) s1.heap.objs.size vs) v (rowPy x) as) vs M := er.mono fun v x h => by rw [h.1]; exact rd x h.2
  have S := PySem.W.SortsAt.data (prog := X.prog) (w := X.w) (A := X.A.in1.in1) (s := { s1 with heap := PySem.W.sortingHeap (s1.heap.push (seqObj "list" vs.toArray 0)) s1.heap.objs.size vs }) (vs := vs) (ds := M.map rowPy) (PySem.W.each_map (R := fun v d => ∃ as, Reads (PySem.W.sortingHeap (s1.heap.push (seqObj "list" vs.toArray 0)) s1.heap.objs.size vs) v d as) rowPy er2) al so fun d hd => by
    obtain ⟨x, _, rfl⟩ := List.mem_map.mp hd
    have z : (rowPy x).depth ≤ 1 := by
      unfold rowPy
      rw [PyData.depth, PySem.W.depth_ints]
      omega
    have z2 : (X.A.in1.in1).units = X.A.units + 1 + 1 := rfl
    omega
  have out := PySem.W.sortVals_data (h' := PySem.W.sortingHeap (s1.heap.push (seqObj "list" vs.toArray 0)) s1.heap.objs.size vs) (enc := rowPy) false er er2 al
  refine wpAny_bind (wpAny_holding (wpAny_call_entry slot_list_sort ⟨_, hnew, rfl⟩ entry_list_sort (PySem.W.list_sort_vals (s := { s1 with heap := s1.heap.push (seqObj "list" vs.toArray 0) }) hnew S small ⟨_, rfl, ?_⟩) (args_list_sort _)))
  generalize PySem.W.sortVals (PySem.W.dataKind (PySem.W.sortingHeap (s1.heap.push (seqObj "list" vs.toArray 0)) s1.heap.objs.size vs) (M.map rowPy)) false vs vs = res at out ⊢
  obtain ⟨c, hat⟩ := sortedHeap_at (vs := vs) (out := res.toArray) hnew
  have keep2 : ∀ b o, s.heap.get? b = some o → (sortedHeap (s1.heap.push (seqObj "list" vs.toArray 0)) s1.heap.objs.size vs res.toArray).get? b = some o := fun b o z => by
    have lt := Heap.lt_size (k1 b o z)
    rw [sortedHeap_old (Nat.ne_of_lt lt) (by rw [size_push']; exact Nat.lt_succ_of_lt lt)]
    exact old1 b o z
  generalize hN : M.mergeSort (PySem.W.dataLe false rowPy) = N at out
  have pN : N.Perm M := by rw [← hN]; exact List.mergeSort_perm M _
  have resN : res = N.map fun q => Value.ref q.1 := by
    have : ∀ (us : List Value) (N : List (Addr × List Int)), PySem.W.EachIs (fun v (x : Addr × List Int) => (v = Value.ref x.1) ∧ x ∈ L) us N → us = N.map fun q => Value.ref q.1 := fun us N h => by
      induction h with
      | nil => rfl
      | cons h1 _ ih => rw [List.map_cons, h1.1, ih]
    exact this _ _ out
  have vN : Vals (N.map fun q => V.ref q.1) res := by rw [resN]; exact vals_of_refs N
  have hfresh : H s1.heap.objs.size = none := I.hok.fresh hz
  have lenN : (N.map fun q => V.ref q.1).length ≤ sizeLine := by
    rw [List.length_map, pN.length_eq]
    have : M.length = vs.length := by rw [eM, List.length_map]
    omega
  have J : Inv X pins σ (upd H s1.heap.objs.size (.lst (N.map fun q => V.ref q.1))) { s with heap := sortedHeap (s1.heap.push (seqObj "list" vs.toArray 0)) s1.heap.objs.size vs res.toArray, gens := s1.gens, drawn := s1.drawn, toks := s1.toks } :=
    I.call (ch := []) (Un.laid keep2 hz hfresh) (I.hok.laid keep2 hz ⟨lenN, res, c, vN, hat⟩) (by rw [g1]; exact I.bare) (fun _ z => nomatch z)
  refine wpAny_pure ⟨_, rfl, ?_⟩
  have es1 : ({ s1 with heap := sortedHeap (s1.heap.push (seqObj "list" vs.toArray 0)) s1.heap.objs.size vs res.toArray } : Shared) = { s with heap := sortedHeap (s1.heap.push (seqObj "list" vs.toArray 0)) s1.heap.objs.size vs res.toArray, gens := s1.gens, drawn := s1.drawn, toks := s1.toks } := by
    cases s1
    cases s
    cases o1
    rfl
  rw [es1]
  refine ⟨.ref s1.heap.objs.size, _, J, rfl, q N s1.heap.objs.size (fun x hx => subM x (pN.mem_iff.mp hx)) (fun x hx => ?_) ?_ hfresh⟩
  · obtain ⟨y, hy, ey⟩ := List.mem_map.mp (covM x hx)
    rw [← oneA y x (subM y hy) hx ey]
    exact List.mem_map.mpr ⟨y, pN.mem_iff.mpr hy, rfl⟩
  · have p1 : (N.map (·.2)).Pairwise (· ≤ ·) := by rw [← hN]; exact List.pairwise_map.mpr (row_pairwise M)
    have p2 : (N.map (·.2)).Nodup := (pN.map _).nodup_iff.mpr ndM
    exact List.Pairwise.imp₂ (fun _ _ a b => li_strict a b) p1 p2
end
end DI
set_option Elab.async false
set_option linter.all false
set_option maxRecDepth 100000
/-! DI7: the rules of expressions, without loops -/
namespace DI
open PySem PySem.Spec PyProof.Rows L2
section
variable {X : Cx} {e a b c : Expr} {es : List Expr} {ev ea eb ec : Ev → Mem → Option (D × Mem)} {evs : Ev → Mem → Option (List D × Mem)} {pos : Pos}
theorem pas_nil : PA X [] (tAs X.K fun _ μ => some ([], μ)) := PAcon pa_nil fun σ H Q ⟨env, μ, ι, B, B0, ds, μ', a, e, k⟩ => by
  cases e
  exact k [] H ι (Nx.refl a.s) .nil
theorem pas_cons (ha : PE X e (tA X.K ea)) (hr : PA X es (tAs X.K evs)) (hs : noStar e = true) : PA X (e :: es) (tAs X.K fun env μ => (ea env μ).bind fun p => (evs env p.2).map fun q => (p.1 :: q.1, q.2)) :=
  PAcon (pa_cons ha hr (star_cons hs _ _)) fun σ H Q ⟨env, μ, ι, B, B0, ds, μ', a, e, k⟩ => by
    obtain ⟨⟨x, μ1⟩, e1, e⟩ := Option.bind_eq_some_iff.mp e
    obtain ⟨⟨xs, μ2⟩, e2, e3⟩ := Option.map_eq_some_iff.mp e
    cases e3
    exact ⟨env, μ, ι, B, B0, x, μ1, a, e1, fun v H1 ι1 n1 r1 => ⟨env, μ1, ι1, B, B0, xs, μ2, a.nx n1, e2, fun vs H2 ι2 n2 r2 => k (v :: vs) H2 ι2 (n1.trans n2) (.cons (n2.arg r1) r2)⟩⟩
theorem pes_nil : PA X [] (tEs X.K fun _ μ => some ([], μ)) := PAcon pa_nil fun σ H Q ⟨env, μ, ι, B, B0, ds, μ', a, e, k⟩ => by
  cases e
  exact k [] H ι (Nx.refl a.s) .nil
theorem pes_cons (ha : PE X e (tE X.K ea)) (hr : PA X es (tEs X.K evs)) (hs : noStar e = true) : PA X (e :: es) (tEs X.K fun env μ => (ea env μ).bind fun p => (evs env p.2).map fun q => (p.1 :: q.1, q.2)) :=
  PAcon (pa_cons ha hr (star_cons hs _ _)) fun σ H Q ⟨env, μ, ι, B, B0, ds, μ', a, e, k⟩ => by
    obtain ⟨⟨x, μ1⟩, e1, e⟩ := Option.bind_eq_some_iff.mp e
    obtain ⟨⟨xs, μ2⟩, e2, e3⟩ := Option.map_eq_some_iff.mp e
    cases e3
    exact ⟨env, μ, ι, B, B0, x, μ1, a, e1, fun v H1 ι1 n1 r1 => ⟨env, μ1, ι1, B, B0, xs, μ2, a.nx n1, e2, fun vs H2 ι2 n2 r2 => k (v :: vs) H2 ι2 (n1.trans n2) (.cons (n2.rep r1) r2)⟩⟩
theorem r_tup {k : Nat} (h : PA X es (tEs X.K evs)) (hev : ∀ env μ, ev env μ = (evs env μ).bind fun p => if p.1.length ≤ sizeLine then some (.tup p.1, p.2) else none) : PE X (.Tuple es k pos) (tE X.K ev) :=
  PEcon (pe_tup h) fun σ H Q ⟨env, μ, ι, B, B0, d, μ', a, e, k⟩ => by
    rw [hev] at e
    obtain ⟨⟨xs, μ1⟩, e1, e⟩ := Option.bind_eq_some_iff.mp e
    split at e
    · rename_i c
      cases e
      exact ⟨env, μ, ι, B, B0, xs, _, a, e1, fun vs H1 ι1 n1 r1 => ⟨by rw [r1.length]; exact c, fun p hp => KE.tup (KE.back k n1) n1.s hp r1⟩⟩
    · cases e
theorem r_lst (h : PA X es (tEs X.K evs)) (hev : ∀ env μ, ev env μ = (evs env μ).bind fun p => if p.1.length ≤ sizeLine then some (.lst p.1, p.2) else none) : PE X (.List es pos) (tX X.K ev) :=
  PEcon (pe_lst h) fun σ H Q ⟨env, μ, ι, B, B0, d, μ', a, e, k⟩ => by
    rw [hev] at e
    obtain ⟨⟨xs, μ1⟩, e1, e⟩ := Option.bind_eq_some_iff.mp e
    split at e
    · rename_i c
      cases e
      exact ⟨env, μ, ι, B, B0, xs, _, a, e1, fun vs H1 ι1 n1 r1 => ⟨by rw [r1.length]; exact c, fun p hp => KF.laid (KF.back k n1) n1.s hp r1⟩⟩
    · cases e
/-- a new list becomes a cell -/
theorem r_cell (h : PE X e (tX X.K ea)) (hev : ∀ env μ, ev env μ = (ea env μ).bind fun p => match p.1 with
    | .lst ds => some (.ref p.2.length, p.2 ++ [some ds])
    | _ => none) : PE X e (tE X.K ev) :=
  PEcon h fun σ H Q ⟨env, μ, ι, B, B0, d, μ', a, e, k⟩ => by
    rw [hev] at e
    obtain ⟨⟨x, μ1⟩, e1, e⟩ := Option.bind_eq_some_iff.mp e
    cases x with
    | lst ds =>
      cases e
      refine ⟨env, μ, ι, B, B0, .lst ds, μ1, a, e1, fun p vs H' ι' hp x kk S hl r => ?_⟩
      have np : p ∉ B := fun q => by
        have z := kk p q
        rw [hl, hp] at z; cases z
      refine k (.ref p) H' (ι' ++ [some p]) ⟨x.cell, kk, S.cell' np hl r⟩ (.ref (x := some p) ?_ fun a ha => by cases ha; rfl)
      rw [← S.len, List.getElem?_append_right (Nat.le_refl _)]
      simp
    | _ => cases e
theorem r_and {rest : List Expr} (ha : PE X a (tA X.K ea)) (hb : PE X (.BoolOp .And (b :: rest) pos) (tE X.K eb)) (hev : ∀ env μ, ev env μ = (ea env μ).bind fun p => match p.1 with
    | .bl true => eb env p.2
    | .bl false => some (.bl false, p.2)
    | _ => none) : PE X (.BoolOp .And (a :: b :: rest) pos) (tE X.K ev) :=
  PEcon (pe_and ha hb) fun σ H Q ⟨env, μ, ι, B, B0, d, μ', a, e, k⟩ => by
    rw [hev] at e
    obtain ⟨⟨x, μ1⟩, e1, e⟩ := Option.bind_eq_some_iff.mp e
    refine ⟨env, μ, ι, B, B0, x, μ1, a, e1, fun v H1 ι1 n1 r1 => ?_⟩
    dsimp only at e
    split at e
    · rw [r1.bl]
      exact ⟨true, rfl, iteT ⟨env, μ1, ι1, B, B0, d, μ', a.nx n1, e, KE.back k n1⟩⟩
    · cases e
      rw [r1.bl]
      exact ⟨false, rfl, iteF (KE.now (KE.back k n1) n1.s (.bl false))⟩
    · cases e
theorem r_or {rest : List Expr} (ha : PE X a (tA X.K ea)) (hb : PE X (.BoolOp .Or (b :: rest) pos) (tE X.K eb)) (hev : ∀ env μ, ev env μ = (ea env μ).bind fun p => match p.1 with
    | .bl false => eb env p.2
    | .bl true => some (.bl true, p.2)
    | _ => none) : PE X (.BoolOp .Or (a :: b :: rest) pos) (tE X.K ev) :=
  PEcon (pe_or ha hb) fun σ H Q ⟨env, μ, ι, B, B0, d, μ', a, e, k⟩ => by
    rw [hev] at e
    obtain ⟨⟨x, μ1⟩, e1, e⟩ := Option.bind_eq_some_iff.mp e
    refine ⟨env, μ, ι, B, B0, x, μ1, a, e1, fun v H1 ι1 n1 r1 => ?_⟩
    dsimp only at e
    split at e
    · rw [r1.bl]
      exact ⟨false, rfl, iteF ⟨env, μ1, ι1, B, B0, d, μ', a.nx n1, e, KE.back k n1⟩⟩
    · cases e
      rw [r1.bl]
      exact ⟨true, rfl, iteT (KE.now (KE.back k n1) n1.s (.bl true))⟩
    · cases e
theorem r_ite {et : Ev → Mem → Option (Bool × Mem)} (hc : PT X c (tB X.K et)) (ha : PE X a (tE X.K ea)) (hb : PE X b (tE X.K eb)) (hev : ∀ env μ, ev env μ = (et env μ).bind fun p => if p.1 then ea env p.2 else eb env p.2) :
    PE X (.IfExp c a b pos) (tE X.K ev) :=
  PEcon (pe_ifExp hc ha hb) fun σ H Q ⟨env, μ, ι, B, B0, d, μ', a, e, k⟩ => by
    rw [hev] at e
    obtain ⟨⟨x, μ1⟩, e1, e⟩ := Option.bind_eq_some_iff.mp e
    refine ⟨env, μ, ι, B, B0, x, μ1, a, e1, fun H1 ι1 n1 => ?_⟩
    cases x with
    | true => exact iteT ⟨env, μ1, ι1, B, B0, d, μ', a.nx n1, e, KE.back k n1⟩
    | false => exact iteF ⟨env, μ1, ι1, B, B0, d, μ', a.nx n1, e, KE.back k n1⟩
theorem r_isn {ng : Bool} {j : Nat} {p' : Pos} (ha : PE X a (tA X.K ea)) (hev : ∀ env μ, ev env μ = (ea env μ).bind fun p => match p.1 with
    | .non => some (.bl (!ng), p.2)
    | .ref _ => none
    | _ => some (.bl ng, p.2)) : PE X (.Compare a [if ng then .IsNot else .Is] [.Constant .none j p'] pos) (tE X.K ev) := by
  have go : ∀ (v : V) (x d : D) (H : Hp) (ι : Cells) (B : List Addr), RepA X.K H ι B v x → x ≠ .non → (∀ n, x ≠ .ref n) → v ≠ .non := fun v x d H ι B r h1 h2 e => by
    subst e
    cases r with
    | rep r =>
      cases r with
      | non => exact h1 rfl
      | ref _ _ => exact h2 _ rfl
  cases ng with
  | false =>
    refine PEcon (pe_cmpR op_isN ha pe_non (nomark _)) fun σ H Q ⟨env, μ, ι, B, B0, d, μ', a, e, k⟩ => ?_
    rw [hev] at e
    obtain ⟨⟨x, μ1⟩, e1, e⟩ := Option.bind_eq_some_iff.mp e
    refine ⟨env, μ, ι, B, B0, x, μ1, a, e1, fun v H1 ι1 n1 r1 => ⟨rfl, ?_⟩⟩
    dsimp only at e
    split at e
    · cases e
      rw [r1.non]
      exact KE.now (KE.back k n1) n1.s (.bl _)
    · cases e
    · rename_i h1 h2
      cases e
      rw [decide_eq_false (go v x .non _ _ _ r1 (fun z => h1 z) fun n z => h2 n z)]
      exact KE.now (KE.back k n1) n1.s (.bl _)
  | true =>
    refine PEcon (pe_cmpR op_notN ha pe_non (nomark _)) fun σ H Q ⟨env, μ, ι, B, B0, d, μ', a, e, k⟩ => ?_
    rw [hev] at e
    obtain ⟨⟨x, μ1⟩, e1, e⟩ := Option.bind_eq_some_iff.mp e
    refine ⟨env, μ, ι, B, B0, x, μ1, a, e1, fun v H1 ι1 n1 r1 => ⟨rfl, ?_⟩⟩
    dsimp only at e
    split at e
    · cases e
      rw [r1.non]
      exact KE.now (KE.back k n1) n1.s (.bl _)
    · cases e
    · rename_i h1 h2
      cases e
      rw [decide_eq_false (go v x .non _ _ _ r1 (fun z => h1 z) fun n z => h2 n z)]
      exact KE.now (KE.back k n1) n1.s (.bl _)
theorem r_isb {ng k : Bool} {j : Nat} {p' : Pos} (ha : PE X a (tA X.K ea)) (hev : ∀ env μ, ev env μ = (ea env μ).bind fun p => match p.1 with
    | .bl b => some (.bl (if ng then !decide (b = k) else decide (b = k)), p.2)
    | _ => none) : PE X (.Compare a [if ng then .IsNot else .Is] [.Constant (.bool k) j p'] pos) (tE X.K ev) := by
  cases ng with
  | false =>
    refine PEcon (pe_cmpR op_isBl ha pe_bl (nomark _)) fun σ H Q ⟨env, μ, ι, B, B0, d, μ', a, e, k⟩ => ?_
    rw [hev] at e
    obtain ⟨⟨x, μ1⟩, e1, e⟩ := Option.bind_eq_some_iff.mp e
    refine ⟨env, μ, ι, B, B0, x, μ1, a, e1, fun v H1 ι1 n1 r1 => ?_⟩
    dsimp only at e
    split at e
    · cases e
      rw [r1.bl]
      exact ⟨_, _, rfl, rfl, KE.now (KE.back k n1) n1.s (.bl _)⟩
    · cases e
  | true =>
    refine PEcon (pe_cmpR op_notBl ha pe_bl (nomark _)) fun σ H Q ⟨env, μ, ι, B, B0, d, μ', a, e, k⟩ => ?_
    rw [hev] at e
    obtain ⟨⟨x, μ1⟩, e1, e⟩ := Option.bind_eq_some_iff.mp e
    refine ⟨env, μ, ι, B, B0, x, μ1, a, e1, fun v H1 ι1 n1 r1 => ?_⟩
    dsimp only at e
    split at e
    · cases e
      rw [r1.bl]
      exact ⟨_, _, rfl, rfl, KE.now (KE.back k n1) n1.s (.bl _)⟩
    · cases e
end
end DI
set_option Elab.async false
set_option linter.all false
set_option maxRecDepth 100000
/-! DI8: the rules of expressions: places, calls, built-ins, tests -/
namespace DI
open PySem PySem.Spec PyProof.Rows L2
section
variable {X : Cx} {e a b c : Expr} {es : List Expr} {ev ea eb ec : Ev → Mem → Option (D × Mem)} {evs evk : Ev → Mem → Option (List D × Mem)} {pos : Pos}
theorem r_neg (ha : PE X a (tA X.K ea)) (hev : ∀ env μ, ev env μ = (ea env μ).bind fun p => match p.1 with
    | .int i => some (.int (-i), p.2)
    | _ => none) : PE X (.UnaryOp .USub a pos) (tE X.K ev) :=
  PEcon (pe_un un_neg ha) fun σ H Q ⟨env, μ, ι, B, B0, d, μ', a, e, k⟩ => by
    rw [hev] at e
    obtain ⟨⟨x, μ1⟩, e1, e⟩ := Option.bind_eq_some_iff.mp e
    refine ⟨env, μ, ι, B, B0, x, μ1, a, e1, fun v H1 ι1 n1 r1 => ?_⟩
    dsimp only at e
    split at e
    · cases e
      rw [r1.int]
      exact ⟨_, rfl, KE.now (KE.back k n1) n1.s (.int _)⟩
    · cases e
theorem r_not (ha : PE X a (tA X.K ea)) (hev : ∀ env μ, ev env μ = (ea env μ).bind fun p => (truthD p.2 p.1).map fun b => (.bl (!b), p.2)) : PE X (.UnaryOp .Not a pos) (tE X.K ev) :=
  PEcon (pe_notT ha) fun σ H Q ⟨env, μ, ι, B, B0, d, μ', a, e, k⟩ => by
    rw [hev] at e
    obtain ⟨⟨x, μ1⟩, e1, e⟩ := Option.bind_eq_some_iff.mp e
    obtain ⟨b, e2, e3⟩ := Option.map_eq_some_iff.mp e
    cases e3
    exact ⟨env, μ, ι, B, B0, x, _, a, e1, fun v H1 ι1 n1 r1 => ⟨b, truth_val n1.s r1 e2, KE.now (KE.back k n1) n1.s (.bl _)⟩⟩
theorem r_dic0 (hev : ∀ env μ, ev env μ = some (.dic [], μ)) : PE X (.Dict [] [] pos) (tE X.K ev) :=
  PEcon pe_dnewK fun σ H Q ⟨env, μ, ι, B, B0, d, μ', a, e, k⟩ => by
    rw [hev] at e
    cases e
    intro p hp
    exact k _ _ ι ⟨Ext.laid a.s hp, Keep.laid a.s hp, a.s.laid hp⟩ (.dic (cut_of (fresh_not_held a.s hp) upd_same) .nil)
theorem r_rev {k : Nat} {p1 p2 p3 : Pos} (ha : PE X a (tA X.K ea)) (hev : ∀ env μ, ev env μ = (ea env μ).bind fun p => (seqV p.2 p.1).map fun xs => (.lst xs.reverse, p.2)) :
    PE X (.Subscript a (.Slice none none (some (.UnaryOp .USub (.Constant (.int 1) k p1) p2)) p3) pos) (tX X.K ev) :=
  PEcon (pe_revL ha) fun σ H Q ⟨env, μ, ι, B, B0, d, μ', a, e, k⟩ => by
    rw [hev] at e
    obtain ⟨⟨x, μ1⟩, e1, e⟩ := Option.bind_eq_some_iff.mp e
    obtain ⟨xs, e2, e3⟩ := Option.map_eq_some_iff.mp e
    cases e3
    refine ⟨env, μ, ι, B, B0, x, _, a, e1, fun v H1 ι1 n1 r1 => ?_⟩
    obtain ⟨p, vs, rfl, s1, q1⟩ := r1.seq n1.s e2
    exact ⟨p, vs, rfl, s1, fun l hl => KF.laid (KF.back k n1) n1.s hl q1.reverse⟩
/-! ### slices -/
def tO (K : PySem.W.Frag) (ev : Ev → Mem → Option (Option Int × Mem)) : TO := fun σ H Q => ∃ env μ ι B B0 o μ', At K H ι B B0 μ σ env ∧ ev env μ = some (o, μ') ∧ ∀ H' ι', Nx K H ι B H' ι' μ' → Q o H'
theorem POcon {e : Option Expr} {t t' : TO} (h : PO X e t) (i : ∀ σ H Q, t' σ H Q → t σ H Q) : PO X e t' := ⟨fun pins s σ H Q I w => h.run pins s σ H Q I (i σ H Q w)⟩
theorem pos_none : PO X none (tO X.K fun _ μ => some (none, μ)) := POcon po_none fun σ H Q ⟨env, μ, ι, B, B0, o, μ', a, e, k⟩ => by
  cases e
  exact k H ι (Nx.refl a.s)
theorem pos_some {eo : Ev → Mem → Option (Option Int × Mem)} (h : PE X e (tA X.K ea)) (hev : ∀ env μ, eo env μ = (ea env μ).bind fun p => match p.1 with
    | .int i => some (some i, p.2)
    | _ => none) : PO X (some e) (tO X.K eo) := POcon (po_some h) fun σ H Q ⟨env, μ, ι, B, B0, o, μ', a, e, k⟩ => by
  rw [hev] at e
  obtain ⟨⟨x, μ1⟩, e1, e⟩ := Option.bind_eq_some_iff.mp e
  refine ⟨env, μ, ι, B, B0, x, μ1, a, e1, fun v H1 ι1 n1 r1 => ?_⟩
  dsimp only at e
  split at e
  · cases e
    rw [r1.int]
    exact ⟨_, rfl, k _ _ n1⟩
  · cases e
theorem r_slc {lo hi : Option Expr} {p2 : Pos} {el eh : Ev → Mem → Option (Option Int × Mem)} (ha : PE X a (tA X.K ea)) (hl : PO X lo (tO X.K el)) (hh : PO X hi (tO X.K eh))
    (hev : ∀ env μ, ev env μ = (ea env μ).bind fun p => (el env p.2).bind fun q => (eh env q.2).bind fun r => (slcD r.2 p.1 q.1 r.1).map fun d => (d, r.2)) : PE X (.Subscript a (.Slice lo hi none p2) pos) (tX X.K ev) :=
  PEcon (pe_slice (SlR.or sl_list sl_tup) ha hl hh) fun σ H Q ⟨env, μ, ι, B, B0, d, μ', a, e, k⟩ => by
    rw [hev] at e
    obtain ⟨⟨x, μ1⟩, e1, e⟩ := Option.bind_eq_some_iff.mp e
    obtain ⟨⟨l, μ2⟩, e2, e⟩ := Option.bind_eq_some_iff.mp e
    obtain ⟨⟨h, μ3⟩, e3, e⟩ := Option.bind_eq_some_iff.mp e
    obtain ⟨z, e4, e5⟩ := Option.map_eq_some_iff.mp e
    cases e5
    refine ⟨env, μ, ι, B, B0, x, μ1, a, e1, fun v H1 ι1 n1 r1 => ⟨env, μ1, ι1, B, B0, l, μ2, a.nx n1, e2, fun H2 ι2 n2 => ⟨env, μ2, ι2, B, B0, h, _, (a.nx n1).nx n2, e3, fun H3 ι3 n3 => ?_⟩⟩⟩
    exact slc_val n3.s (n3.arg (n2.arg r1)) e4 (KX.back k ((n1.trans n2).trans n3))
/-! ### built-ins -/
theorem r_cb {r : List V → Hp → VK → Prop} {f : Expr} {F : Mem → List D → Option D} (ha : PA X es (tAs X.K evs)) (mk : ∀ {t : TA}, PA X es t → PE X f (tCB r t))
    (hev : ∀ env μ, ev env μ = (evs env μ).bind fun p => (F p.2 p.1).map fun d => (d, p.2))
    (val : ∀ (H : Hp) (ι : Cells) (B : List Addr) (μ : Mem) (vs : List V) (ds : List D) (d : D) (Q : VK), Sim X.K H ι B μ → RepAs X.K H ι B vs ds → F μ ds = some d → KX X.K H ι B μ d Q → r vs H Q) : PE X f (tX X.K ev) :=
  PEcon (mk ha) fun σ H Q ⟨env, μ, ι, B, B0, d, μ', a, e, k⟩ => by
    rw [hev] at e
    obtain ⟨⟨xs, μ1⟩, e1, e⟩ := Option.bind_eq_some_iff.mp e
    obtain ⟨z, e2, e3⟩ := Option.map_eq_some_iff.mp e
    cases e3
    exact ⟨env, μ, ι, B, B0, xs, _, a, e1, fun vs H1 ι1 n1 r1 => val _ _ _ _ _ _ _ _ n1.s r1 e2 (KX.back k n1)⟩
theorem keys_rows {K : PySem.W.Frag} {G : Hp} {ι : Cells} : ∀ {xs : List D} {ks : List (List Int)} {vs : List V}, Reps K G ι vs xs → keysD xs = some ks →
    ∃ L : List (Addr × List Int), vs = (L.map fun q => V.ref q.1) ∧ L.map (·.2) = ks ∧ ∀ q, q ∈ L → SqT K G q.1 (q.2.map V.int) ∧ q.2 ≠ [] ∧ Rep K G ι (.ref q.1) (.tup (q.2.map .int))
  | [], ks, _, .nil, e => by simp only [keysD, Option.some.injEq] at e; subst e; exact ⟨[], rfl, rfl, fun _ h => nomatch h⟩
  | x :: r, ks, _, .cons h t, e => by
    unfold keysD at e
    split at e
    · rename_i heq
      cases heq
    · rename_i y ys r' heq
      cases heq
      obtain ⟨k, e1, e2⟩ := Option.bind_eq_some_iff.mp e
      obtain ⟨q, e3, e4⟩ := Option.map_eq_some_iff.mp e2
      subst e4
      obtain ⟨L, l1, l2, l3⟩ := keys_rows t e3
      have hyk : ∀ (ds : List D) (k : List Int), intsD ds = some k → ds = k.map D.int := fun ds => by
        induction ds with
        | nil => intro k h; simp only [intsD, Option.some.injEq] at h; subst h; rfl
        | cons d ds ih =>
          intro k h
          cases d with
          | int i =>
            simp only [intsD] at h
            obtain ⟨k', h1, h2⟩ := Option.map_eq_some_iff.mp h
            subst h2
            rw [ih k' h1]
            rfl
          | _ => simp [intsD] at h
      have hy := hyk (y :: ys) k e1
      cases h with
      | tup s rr =>
        rename_i a vs'
        have ev := ints_reps rr e1
        refine ⟨(a, k) :: L, by rw [List.map_cons, l1], by rw [List.map_cons, l2], fun q' hq => ?_⟩
        rcases List.mem_cons.mp hq with rfl | hq
        · refine ⟨by rw [← ev]; exact s, fun z => ?_, by rw [← hy]; exact .tup s rr⟩
          simp only at z
          rw [z] at hy
          cases hy
        · exact l3 q' hq
    · cases e
theorem reps_rows {K : PySem.W.Frag} {G : Hp} {ι : Cells} : ∀ {M : List (Addr × List Int)}, (∀ q, q ∈ M → Rep K G ι (.ref q.1) (.tup (q.2.map .int))) → Reps K G ι (M.map fun q => V.ref q.1) ((M.map (·.2)).map fun k => .tup (k.map .int))
  | [], _ => .nil
  | q :: M, h => .cons (h q List.mem_cons_self) (reps_rows fun r hr => h r (List.mem_cons_of_mem _ hr))
/-- sorted(set(xs)) -/
theorem r_sset {f a : Expr} (hc : X.calm = true) (hu : X.A.units + 65 < cLine) (ha : PE X a (tA X.K ea)) (h1 : starEach [a] X.env = (false, eval a X.env) :: starEach [] X.env)
    (mk : ∀ {t : TA}, PA X [a] t → PE X f (tCB (rSortU X.K X.prog X.w) (tCons (tCB (rSetOfT X.K X.prog X.w) t) tNil)))
    (hev : ∀ env μ, ev env μ = (ea env μ).bind fun p => (seqV p.2 p.1).bind fun xs => (ssetD xs).map fun d => (d, p.2)) : PE X f (tX X.K ev) :=
  PEcon (mk (pa_cons ha pa_nil h1)) fun σ H Q ⟨env, μ, ι, B, B0, d, μ', at0, e, k⟩ => by
    rw [hev] at e
    obtain ⟨⟨x, μ1⟩, e1, e⟩ := Option.bind_eq_some_iff.mp e
    obtain ⟨xs, e2, e⟩ := Option.bind_eq_some_iff.mp e
    obtain ⟨z, e3, e4⟩ := Option.map_eq_some_iff.mp e
    cases e4
    unfold ssetD at e3
    obtain ⟨ks, e5, e3⟩ := Option.bind_eq_some_iff.mp e3
    split at e3
    · rename_i few
      cases e3
      refine ⟨env, μ, ι, B, B0, x, _, at0, e1, fun v H1 ι1 n1 r1 => ?_⟩
      obtain ⟨l, vs, rfl, sl, rr⟩ := r1.seq n1.s e2
      obtain ⟨L, l1, l2, l3⟩ := keys_rows rr e5
      refine ⟨l, L, rfl, by rw [← l1]; exact sl, fun q hq => sqT_same cut_same (l3 q hq).1, by rw [← List.length_map (f := (·.2)), l2]; exact few, fun p S hp sub cov => ?_⟩
      have N2 : Nx X.K H1 ι1 B (upd H1 p (SetTO X.prog X.w p S)) ι1 _ := ⟨Ext.laid n1.s hp, Keep.laid n1.s hp, n1.s.laid hp⟩
      have up := (Ext.laid n1.s hp (o := SetTO X.prog X.w p S)).up
      have sq2 : ∀ q, q ∈ L → SqT X.K (upd H1 p (SetTO X.prog X.w p S)) q.1 (q.2.map V.int) := fun q hq => by
        have z := (l3 q hq).1
        exact sqT_same cut_same (sqT_same (cut_upd n1.s hp) z)
      refine ⟨p, S, rfl, upd_same, fun q hq => sq2 q (sub q hq), fun q hq => (l3 q (sub q hq)).2.1, fun M p2 subM covM srt hp2 => ?_⟩
      have is : M.map (·.2) = onceI ks := once_is srt fun kk => by
        rw [← l2]
        refine ⟨fun h => ?_, fun h => ?_⟩
        · obtain ⟨q, hq, rfl⟩ := List.mem_map.mp h
          exact List.mem_map.mpr ⟨q, sub q (subM q hq), rfl⟩
        · obtain ⟨q, hq, rfl⟩ := List.mem_map.mp h
          obtain ⟨q', hq', e'⟩ := List.mem_map.mp (cov q hq)
          rw [← e']
          exact covM q' hq'
      have kk : KF X.K H ι B _ ((onceI ks).map fun k => .tup (k.map .int)) Q := k
      refine KF.laid (KF.back (KF.back kk n1) N2) N2.s hp2 ?_
      rw [← is]
      exact reps_rows fun q hq => (l3 q (sub q (subM q hq))).2.2.up up
    · cases e3
theorem r_bits {x : Str} {p0 apos : Pos} (ha : PE X (.Name x p0) (tA X.K ea)) (hl : (apos.endLine == pos.line) = true) (hev : ∀ env μ, ev env μ = (ea env μ).bind fun p => match p.1 with
    | .int i => some (.int (Builtin.Int.intBits i : Nat), p.2)
    | _ => none) : PE X (.Call (.Attribute (.Name x p0) "bit_length" apos) [] [] pos) (tE X.K ev) :=
  PEcon (pe_bits ha rfl hl) fun σ H Q ⟨env, μ, ι, B, B0, d, μ', a, e, k⟩ => by
    rw [hev] at e
    obtain ⟨⟨x, μ1⟩, e1, e⟩ := Option.bind_eq_some_iff.mp e
    refine ⟨env, μ, ι, B, B0, x, μ1, a, e1, fun v H1 ι1 n1 r1 => ?_⟩
    dsimp only at e
    split at e
    · cases e
      rw [r1.int]
      exact ⟨_, rfl, KE.now (KE.back k n1) n1.s (.int _)⟩
    · cases e
/-! ### isinstance -/
theorem boot_ty (t : Ty) : bootBuiltins (Str.ofString t.nm) = some (.type t.nm) := by cases t <;> decide +kernel
theorem nm_ne (t : Ty) : Str.ofString t.nm ≠ ("__name__" : Str) := by cases t <;> decide +kernel
theorem nm_db (t : Ty) : (Str.ofString t.nm == ("__debug__" : Str)) = false := by cases t <;> decide +kernel
theorem pe_ty {t : Ty} {p : Pos} (hg : Gl X (Str.ofString t.nm)) (hm : X.mg (Str.ofString t.nm) = none) : PE X (.Name (Str.ofString t.nm) p) (tC (.ty t.nm)) := pe_bltn hg hm (boot_ty t) rfl (nm_ne t) (nm_db t)
theorem r_isi1 {t : Ty} {p p1 : Pos} (ha : PE X a (tA X.K ea)) (hgi : Gl X "isinstance") (hmi : X.mg "isinstance" = none) (hg : Gl X (Str.ofString t.nm)) (hm : X.mg (Str.ofString t.nm) = none) (hs : noStar a = true)
    (hev : ∀ env μ, ev env μ = (ea env μ).bind fun p => if liveD p.2 p.1 then some (.bl ([t].any (isT p.1)), p.2) else none) : PE X (.Call (.Name "isinstance" p) [a, .Name (Str.ofString t.nm) p1] [] pos) (tE X.K ev) :=
  PEcon (pe_callB call_isi hgi hmi PyProof.Rows.boot_isinstance (pa_cons ha (pa_cons (pe_ty hg hm) pa_nil) (star_cons hs _ _)) (by decide) (by decide) (star_cons hs _ _) rfl) fun σ H Q ⟨env, μ, ι, B, B0, d, μ', a, e, k⟩ => by
    rw [hev] at e
    obtain ⟨⟨x, μ1⟩, e1, e⟩ := Option.bind_eq_some_iff.mp e
    split at e
    · rename_i c
      cases e
      refine ⟨env, μ, ι, B, B0, x, _, a, e1, fun v H1 ι1 n1 r1 => ⟨v, .ty t.nm, .type (tyNm x), .type t.nm, isT x t, rfl, .ty _, tyx_of n1.s r1 c, kit_ty (kit_all x t), ?_⟩⟩
      have z := KE.now (KE.back k n1) n1.s (.bl _)
      rw [List.any_cons, List.any_nil, Bool.or_false] at z
      exact z
    · cases e
theorem tys_pa : ∀ (ts : List Ty) (ps : List Pos), ts.length = ps.length → (∀ t, t ∈ ts → Gl X (Str.ofString t.nm) ∧ X.mg (Str.ofString t.nm) = none) →
    PA X ((ts.zip ps).map fun q => .Name (Str.ofString q.1.nm) q.2) (fun _ H Q => Q (ts.map fun t => V.ty t.nm) H)
  | [], [], _, _ => PAcon pa_nil fun σ H Q h => h
  | t :: ts, p :: ps, hl, h => PAcon (pa_cons (pe_ty (h t List.mem_cons_self).1 (h t List.mem_cons_self).2) (tys_pa ts ps (Nat.succ.inj hl) fun s hs => h s (List.mem_cons_of_mem _ hs)) rfl) fun σ H Q h => h
  | [], _ :: _, hl, _ => nomatch hl
  | _ :: _, [], hl, _ => nomatch hl
theorem r_isiT {ts : List Ty} {ps : List Pos} {p p1 : Pos} {k0 : Nat} (ha : PE X a (tA X.K ea)) (hgi : Gl X "isinstance") (hmi : X.mg "isinstance" = none) (hl : ts.length = ps.length)
    (ht : ∀ t, t ∈ ts → Gl X (Str.ofString t.nm) ∧ X.mg (Str.ofString t.nm) = none) (hs : noStar a = true) (hz : ts.length ≤ 10)
    (hev : ∀ env μ, ev env μ = (ea env μ).bind fun p => if liveD p.2 p.1 then some (.bl (ts.any (isT p.1)), p.2) else none) :
    PE X (.Call (.Name "isinstance" p) [a, .Tuple ((ts.zip ps).map fun q => .Name (Str.ofString q.1.nm) q.2) k0 p1] [] pos) (tE X.K ev) :=
  PEcon (pe_callB call_isiT hgi hmi PyProof.Rows.boot_isinstance (pa_cons ha (pa_cons (pe_tup (tys_pa ts ps hl ht)) pa_nil) (star_cons hs _ _)) (by decide) (by decide) (star_cons hs _ _) rfl) fun σ H Q ⟨env, μ, ι, B, B0, d, μ', a, e, k⟩ => by
    rw [hev] at e
    obtain ⟨⟨x, μ1⟩, e1, e⟩ := Option.bind_eq_some_iff.mp e
    split at e
    · rename_i c
      cases e
      refine ⟨env, μ, ι, B, B0, x, _, a, e1, fun v H1 ι1 n1 r1 => ⟨?_, fun q hq => ?_⟩⟩
      · rw [List.length_map]
        exact Nat.le_trans hz (by decide)
      · have n2 : Nx X.K H1 ι1 B (upd H1 q (.tup (ts.map fun t => V.ty t.nm))) ι1 _ := ⟨Ext.laid n1.s hq, Keep.laid n1.s hq, n1.s.laid hq⟩
        exact ⟨v, q, _, .type (tyNm x), _, _, rfl, upd_same, cls_all ts, tyx_of n2.s (n2.arg r1) c, kit_any x ts, KE.now (KE.back k (n1.trans n2)) n2.s (.bl _)⟩
    · cases e
/-! ### tests -/
theorem pt_of (ha : PE X e (tA X.K ea)) {et : Ev → Mem → Option (Bool × Mem)} (he : ∀ whole, isTrue e X.env whole = (do let v ← whole; standAt e.pos; holding [v] (truthy v)))
    (hev : ∀ env μ, et env μ = (ea env μ).bind fun p => (truthD p.2 p.1).map fun b => (b, p.2)) : PT X e (tB X.K et) :=
  PTcon (pt_truth ha he) fun σ H Q ⟨env, μ, ι, B, B0, b, μ', a, e, k⟩ => by
    rw [hev] at e
    obtain ⟨⟨x, μ1⟩, e1, e⟩ := Option.bind_eq_some_iff.mp e
    obtain ⟨b', e2, e3⟩ := Option.map_eq_some_iff.mp e
    cases e3
    exact ⟨env, μ, ι, B, B0, x, _, a, e1, fun v H1 ι1 n1 r1 => ⟨b, truth_val n1.s r1 e2, k _ _ n1⟩⟩
theorem pt_cop {o : Cop} {et : Ev → Mem → Option (Bool × Mem)} (hu : X.A.units + 65 < cLine) (hm : behindInMarks (copOp o) b = false) (ha : PE X a (tA X.K ea)) (hb : PE X b (tA X.K eb))
    (hev : ∀ env μ, et env μ = (ea env μ).bind fun p => (eb env p.2).bind fun q => (cmpD q.2 o p.1 q.1).map fun d => (d, q.2)) : PT X (.Compare a [copOp o] [b] pos) (tB X.K et) :=
  PTcon (pt_cmpR (op_cop o hu) ha hb hm) fun σ H Q ⟨env, μ, ι, B, B0, d, μ', a, e, k⟩ => by
    rw [hev] at e
    obtain ⟨⟨x, μ1⟩, e1, e⟩ := Option.bind_eq_some_iff.mp e
    obtain ⟨⟨y, μ2⟩, e2, e⟩ := Option.bind_eq_some_iff.mp e
    obtain ⟨z, e3, e4⟩ := Option.map_eq_some_iff.mp e
    cases e4
    refine ⟨env, μ, ι, B, B0, x, μ1, a, e1, fun v H1 ι1 n1 r1 => ⟨env, μ1, ι1, B, B0, y, _, a.nx n1, e2, fun u H2 ι2 n2 r2 => ?_⟩⟩
    exact cop_val n2.s (n2.arg r1) r2 e3 ⟨_, rfl, k _ _ (n1.trans n2)⟩
theorem pt_isn {ng : Bool} {j : Nat} {p' : Pos} {et : Ev → Mem → Option (Bool × Mem)} (ha : PE X a (tA X.K ea)) (hev : ∀ env μ, et env μ = (ea env μ).bind fun p => match p.1 with
    | .non => some (!ng, p.2)
    | .ref _ => none
    | _ => some (ng, p.2)) : PT X (.Compare a [if ng then .IsNot else .Is] [.Constant .none j p'] pos) (tB X.K et) := by
  have go : ∀ (v : V) (x : D) (H : Hp) (ι : Cells) (B : List Addr), RepA X.K H ι B v x → x ≠ .non → (∀ n, x ≠ .ref n) → v ≠ .non := fun v x H ι B r h1 h2 e => by
    subst e
    cases r with
    | rep r =>
      cases r with
      | non => exact h1 rfl
      | ref _ _ => exact h2 _ rfl
  cases ng with
  | false =>
    refine PTcon (pt_cmpR op_isN ha pe_non (nomark _)) fun σ H Q ⟨env, μ, ι, B, B0, d, μ', a, e, k⟩ => ?_
    rw [hev] at e
    obtain ⟨⟨x, μ1⟩, e1, e⟩ := Option.bind_eq_some_iff.mp e
    refine ⟨env, μ, ι, B, B0, x, μ1, a, e1, fun v H1 ι1 n1 r1 => ⟨rfl, ?_⟩⟩
    dsimp only at e
    split at e
    · cases e
      rw [r1.non]
      exact ⟨_, rfl, k _ _ n1⟩
    · cases e
    · rename_i h1 h2
      cases e
      rw [decide_eq_false (go v x _ _ _ r1 (fun z => h1 z) fun n z => h2 n z)]
      exact ⟨_, rfl, k _ _ n1⟩
  | true =>
    refine PTcon (pt_cmpR op_notN ha pe_non (nomark _)) fun σ H Q ⟨env, μ, ι, B, B0, d, μ', a, e, k⟩ => ?_
    rw [hev] at e
    obtain ⟨⟨x, μ1⟩, e1, e⟩ := Option.bind_eq_some_iff.mp e
    refine ⟨env, μ, ι, B, B0, x, μ1, a, e1, fun v H1 ι1 n1 r1 => ⟨rfl, ?_⟩⟩
    dsimp only at e
    split at e
    · cases e
      rw [r1.non]
      exact ⟨_, rfl, k _ _ n1⟩
    · cases e
    · rename_i h1 h2
      cases e
      rw [decide_eq_false (go v x _ _ _ r1 (fun z => h1 z) fun n z => h2 n z)]
      exact ⟨_, rfl, k _ _ n1⟩
theorem pt_isb {ng k0 : Bool} {j : Nat} {p' : Pos} {et : Ev → Mem → Option (Bool × Mem)} (ha : PE X a (tA X.K ea)) (hev : ∀ env μ, et env μ = (ea env μ).bind fun p => match p.1 with
    | .bl b => some (if ng then !decide (b = k0) else decide (b = k0), p.2)
    | _ => none) : PT X (.Compare a [if ng then .IsNot else .Is] [.Constant (.bool k0) j p'] pos) (tB X.K et) := by
  cases ng with
  | false =>
    refine PTcon (pt_cmpR op_isBl ha pe_bl (nomark _)) fun σ H Q ⟨env, μ, ι, B, B0, d, μ', a, e, k⟩ => ?_
    rw [hev] at e
    obtain ⟨⟨x, μ1⟩, e1, e⟩ := Option.bind_eq_some_iff.mp e
    refine ⟨env, μ, ι, B, B0, x, μ1, a, e1, fun v H1 ι1 n1 r1 => ?_⟩
    dsimp only at e
    split at e
    · cases e
      rw [r1.bl]
      exact ⟨_, _, rfl, rfl, _, rfl, k _ _ n1⟩
    · cases e
  | true =>
    refine PTcon (pt_cmpR op_notBl ha pe_bl (nomark _)) fun σ H Q ⟨env, μ, ι, B, B0, d, μ', a, e, k⟩ => ?_
    rw [hev] at e
    obtain ⟨⟨x, μ1⟩, e1, e⟩ := Option.bind_eq_some_iff.mp e
    refine ⟨env, μ, ι, B, B0, x, μ1, a, e1, fun v H1 ι1 n1 r1 => ?_⟩
    dsimp only at e
    split at e
    · cases e
      rw [r1.bl]
      exact ⟨_, _, rfl, rfl, _, rfl, k _ _ n1⟩
    · cases e
theorem pt_not' {et ec : Ev → Mem → Option (Bool × Mem)} (ha : PT X a (tB X.K ec)) (hev : ∀ env μ, et env μ = (ec env μ).map fun p => (!p.1, p.2)) : PT X (.UnaryOp .Not a pos) (tB X.K et) :=
  PTcon (pt_not ha) fun σ H Q ⟨env, μ, ι, B, B0, b, μ', a, e, k⟩ => by
    rw [hev] at e
    obtain ⟨⟨x, μ1⟩, e1, e2⟩ := Option.map_eq_some_iff.mp e
    cases e2
    exact ⟨env, μ, ι, B, B0, x, _, a, e1, fun H1 ι1 n1 => k _ _ n1⟩
theorem PWcon {e : Expr} {t t' : TT} (h : PW X e t) (i : ∀ σ H Q, t' σ H Q → t σ H Q) : PW X e t' := ⟨fun wh pins s σ H Q I w => h.run wh pins s σ H Q I (i σ H Q w)⟩
theorem pw_and' {rest : List Expr} {et ta tb : Ev → Mem → Option (Bool × Mem)} (ha : PT X a (tB X.K ta)) (hb : PW X (.BoolOp .And (b :: rest) pos) (tB X.K tb))
    (hev : ∀ env μ q, et env μ = some q → ∃ p, ta env μ = some p ∧ if p.1 then tb env p.2 = some q else q = (false, p.2)) : PW X (.BoolOp .And (a :: b :: rest) pos) (tB X.K et) :=
  PWcon (pw_and ha hb) fun σ H Q ⟨env, μ, ι, B, B0, d, μ', a, e, k⟩ => by
    obtain ⟨⟨x, μ1⟩, e1, e2⟩ := hev _ _ _ e
    refine ⟨env, μ, ι, B, B0, x, μ1, a, e1, fun H1 ι1 n1 => ?_⟩
    cases x with
    | true => exact iteT ⟨env, μ1, ι1, B, B0, d, μ', a.nx n1, e2, fun H2 ι2 n2 => k H2 ι2 (n1.trans n2)⟩
    | false => cases e2; exact iteF (k _ _ n1)
theorem pw_or' {rest : List Expr} {et ta tb : Ev → Mem → Option (Bool × Mem)} (ha : PT X a (tB X.K ta)) (hb : PW X (.BoolOp .Or (b :: rest) pos) (tB X.K tb))
    (hev : ∀ env μ q, et env μ = some q → ∃ p, ta env μ = some p ∧ if p.1 then q = (true, p.2) else tb env p.2 = some q) : PW X (.BoolOp .Or (a :: b :: rest) pos) (tB X.K et) :=
  PWcon (pw_or ha hb) fun σ H Q ⟨env, μ, ι, B, B0, d, μ', a, e, k⟩ => by
    obtain ⟨⟨x, μ1⟩, e1, e2⟩ := hev _ _ _ e
    refine ⟨env, μ, ι, B, B0, x, μ1, a, e1, fun H1 ι1 n1 => ?_⟩
    cases x with
    | true => cases e2; exact iteT (k _ _ n1)
    | false => exact iteF ⟨env, μ1, ι1, B, B0, d, μ', a.nx n1, e2, fun H2 ι2 n2 => k H2 ι2 (n1.trans n2)⟩
end
end DI
set_option Elab.async false
set_option linter.all false
set_option maxRecDepth 100000
/-! DIT: sorted(dict(xs)), xs pairs (tuple of whole numbers, anything) -/
namespace DI
open PySem PySem.Spec PyProof.Rows L2
section
variable {K : Type} [DecidableEq K]
theorem key_storedH {xs : List (K × Addr × Value)} {k k' : K} {a : Addr} {v : Value} (h : k' ∈ xs.map (·.1) ∨ k' = k) : k' ∈ (storedH xs k a v).map (·.1) := by
  unfold storedH
  by_cases q : (atKey xs k).isSome = true
  · rw [if_pos q]
    have e : (xs.map (putAt k v)).map (·.1) = xs.map (·.1) := by
      rw [List.map_map]
      refine List.map_congr_left fun x _ => ?_
      show (putAt k v x).1 = x.1
      unfold putAt
      split <;> rfl
    rw [e]
    rcases h with h | rfl
    · exact h
    · unfold atKey at q
      rw [Option.isSome_map] at q
      obtain ⟨x, hx⟩ := Option.isSome_iff_exists.mp q
      exact List.mem_map.mpr ⟨x, List.mem_of_find?_eq_some hx, by simpa using List.find?_some hx⟩
  · rw [if_neg q, List.map_append]
    rcases h with h | rfl
    · exact List.mem_append_left _ h
    · simp
theorem key_storedAll : ∀ (ps xs : List (K × Addr × Value)) {k' : K}, (k' ∈ xs.map (·.1) ∨ k' ∈ ps.map (·.1)) → k' ∈ (storedAllH xs ps).map (·.1)
  | [], xs, k', h => by simpa [storedAllH] using h
  | p :: ps, xs, k', h => key_storedAll ps (storedH xs p.1 p.2.1 p.2.2) (by
      rcases h with h | h
      · exact .inl (key_storedH (.inl h))
      · rw [List.map_cons] at h
        rcases List.mem_cons.mp h with rfl | h
        · exact .inl (key_storedH (.inr rfl))
        · exact .inr h)
end
/-- the dict at d: its keys are the tuples L, in this order -/
def DicT0 (h : Heap) (d : Addr) (L : List (Addr × List Int)) : Prop := ∃ (o : Obj) (es : Array DictEntry) (ep : Nat), h.get? d = some o ∧ o.ExactDict ∧ o.data = .dict es ep ∧ es.toList.map (·.key) = L.map (fun q => Value.ref q.1) ∧ (L.map (·.2)).Nodup ∧ L.length ≤ sizeLine ∧ (d == sysModules) = false
def DicTO (d : Addr) (L : List (Addr × List Int)) : HO := .ext fun h => DicT0 h d L
theorem dicTO_new {P : Program} {w : World} {H : Hp} {h : Heap} {a : Addr} {L : List (Addr × List Int)} (R : DicT0 h a L) : ObjOk P w H h a (DicTO a L) := by
  have ⟨o, es, ep, ho, r⟩ := id R
  refine ⟨R, ⟨o, ho⟩, fun h1 h2 p k => ?_⟩
  have ⟨o', es', ep', ho', r'⟩ := (show DicT0 h1 a L from p)
  exact ⟨o', es', ep', k o' ho', r'⟩
section
variable {X : Cx}
/-- the pairs as the model holds them -/
theorem rows_of {pins : List (Addr × Obj)} {σ : L2.St} {H : Hp} {s : Shared} (I : Inv X pins σ H s) : ∀ {ps : List (Addr × Addr × List Int)}, (∀ p, p ∈ ps → ∃ v, SqT X.K H p.1 [V.ref p.2.1, v]) →
    ∃ rows : List (List Int × Addr × Value), rows.map (fun x => (x.2.1, x.1)) = ps.map (·.2) ∧ ∀ (j : Nat) (x : List Int × Addr × Value), rows[j]? = some x → ∃ p, ps[j]? = some p ∧ IsTup s.heap p.1 #[.ref x.2.1, x.2.2]
  | [], _ => ⟨[], rfl, fun j x e => by simp at e⟩
  | p :: ps, h => by
    obtain ⟨rows, e1, e2⟩ := rows_of I (ps := ps) fun q hq => h q (List.mem_cons_of_mem _ hq)
    obtain ⟨v, hv⟩ := h p List.mem_cons_self
    obtain ⟨its, rv, ht, _⟩ := I.tuple hv
    obtain ⟨u, y, ei, ru, ry⟩ := vals2 rv
    subst ei
    cases (show u = Value.ref p.2.1 from ru)
    refine ⟨(p.2.2, p.2.1, y) :: rows, by rw [List.map_cons, List.map_cons, e1], fun j x e => ?_⟩
    cases j with
    | zero =>
      have e' : (p.2.2, p.2.1, y) = x := Option.some.inj e
      subst e'
      exact ⟨p, rfl, ht⟩
    | succ j =>
      obtain ⟨q, z1, z2⟩ := e2 j x (by simpa using e)
      exact ⟨q, by simpa using z1, z2⟩
/-- dict(xs), xs a list of pairs, their first a tuple of whole numbers -/
def rDictT (K : PySem.W.Frag) : List V → Hp → VK → Prop := fun xs H Q => ∃ (l : Addr) (ps : List (Addr × Addr × List Int)), xs = [V.ref l] ∧ SqL K H l (ps.map fun p => V.ref p.1) ∧ (∀ p, p ∈ ps → ∃ v, SqT K H p.1 [V.ref p.2.1, v]) ∧
  (∀ p, p ∈ ps → SqT K H p.2.1 (p.2.2.map V.int)) ∧ ∀ a L, H a = none → (∀ q, q ∈ L → q ∈ ps.map (·.2)) → (∀ p, p ∈ ps → p.2.2 ∈ L.map (·.2)) → Q (.ref a) (upd H a (DicTO a L))
theorem cr_dictT (hc : X.calm = true) (hu : X.A.units + 65 < cLine) : CallR X (.type "dict") (rDictT X.K) := by
  intro pins s σ H xs us Q I r ⟨l, ps, e, hl, hp, hk, q⟩
  subst e
  rw [Vals.ref1 r]
  obtain ⟨its, rv, pl, hz⟩ := I.list hl
  have ei : its = ps.map fun p => Value.ref p.1 := by
    have : ∀ (ps : List (Addr × Addr × List Int)) (its : List Value), Vals (ps.map fun p => V.ref p.1) its → its = ps.map fun p => Value.ref p.1 := fun ps => by
      induction ps with
      | nil => intro its h; cases h; rfl
      | cons p ps ih =>
        intro its h
        cases h with
        | cons h1 h2 =>
          cases h1
          rw [ih _ h2]
          rfl
    exact this ps its rv
  subst ei
  obtain ⟨rows, e1, e2⟩ := rows_of I hp
  have len : rows.length = ps.length := by
    have z := congrArg List.length e1
    simpa using z
  have hkey : ∀ x, x ∈ rows → IsT X.prog X.w s.heap x.1 x.2.1 := fun x hx => by
    have z : (x.2.1, x.1) ∈ ps.map (·.2) := by rw [← e1]; exact List.mem_map.mpr ⟨x, hx, rfl⟩
    obtain ⟨p, hp', ep⟩ := List.mem_map.mp z
    have z2 := I.isT (hk p hp')
    rw [ep] at z2
    exact z2
  obtain ⟨o, n, ho, hcl, hd, hdat⟩ := pl
  have P := PairArg.list (prog := X.prog) (w := X.w) l (ps.map fun p => Value.ref p.1).toArray (fun j => ((ps[j]?).map (·.1)).getD 0) (rows.map fun x => (Value.ref x.2.1, x.2.2))
  refine call_dict_pairsH (knd := tupleKind (intKind X.prog X.w)) (ps := rows) P (I.ok.hd hc) (by
      show X.A.in1.in1.units < cLine
      have z2 : (X.A.in1.in1).units = X.A.units + 1 + 1 := rfl
      omega) ⟨⟨o, n, ho, hcl, hd, hdat⟩, ?_, fun j k v e => ?_⟩ ⟨by simp, fun i key v e => ?_⟩ (fun h' hk' x hx => isT_keep (hkey x hx) fun c o z => hk' c o (Nat.ne_of_lt (Heap.lt_size z)) (fun h => nomatch h) z) (by
      rw [List.length_map] at hz
      simpa [len] using hz) fun h' tk D keep => ?_
  · simp [len]
  · have e' : (rows[j]?).map (fun x => (Value.ref x.2.1, x.2.2)) = some (k, v) := by rw [← List.getElem?_map]; exact e
    obtain ⟨x, hx, ex⟩ := Option.map_eq_some_iff.mp e'
    cases ex
    obtain ⟨p, hp', ht⟩ := e2 j x hx
    obtain ⟨ob, hob, hcb, nb, hdb⟩ := ht
    exact ⟨by simp [hp'], .inl (by
      simp only [hp', Option.map_some, Option.getD_some]
      exact ⟨ob, hob, hcb, nb, hdb⟩)⟩
  · have e' : (rows[i]?).map (fun x => (Value.ref x.2.1, x.2.2)) = some (key, v) := by rw [← List.getElem?_map]; exact e
    obtain ⟨x, hx, ex⟩ := Option.map_eq_some_iff.mp e'
    cases ex
    exact ⟨x.1, x.2.1, hx, rfl⟩
  · obtain ⟨o2, es, ep, ho2, hx2, hd2, he2, his2, hn2⟩ := D
    have hm : (s.heap.objs.size == sysModules) = false := beq_eq_false_iff_ne.mpr (Nat.ne_of_gt I.big)
    have R : DicT0 h' s.heap.objs.size ((storedAllH [] rows).map fun x => (x.2.1, x.1)) := by
      refine ⟨o2, es, ep, ho2, hx2, hd2, ?_, ?_, ?_, hm⟩
      · rw [he2, List.map_map, List.map_map]
        rfl
      · rw [List.map_map]
        exact hn2
      · rw [List.length_map]
        have z := storedAllH_length rows []
        rw [List.length_map] at hz
        simp only [List.length_nil] at z
        omega
    refine ⟨.ref s.heap.objs.size, upd H s.heap.objs.size (DicTO s.heap.objs.size _), I.laid (t' := tk) (fun b o z => keep b o (fun h => nomatch h) z) (Nat.le_refl _) (dicTO_new R), rfl, q _ _ (I.hok.fresh (Nat.le_refl _)) (fun q' hq' => ?_) fun p hp' => ?_⟩
    · obtain ⟨x, hx, rfl⟩ := List.mem_map.mp hq'
      have z := storedAllH_keys (P := fun k a => (a, k) ∈ ps.map (·.2)) (ps := rows) (xs := []) (fun _ h => nomatch h) (fun x hx => by
        rw [← e1]
        exact List.mem_map.mpr ⟨x, hx, rfl⟩) x hx
      exact z
    · have z : p.2 ∈ rows.map (fun x => (x.2.1, x.1)) := by rw [e1]; exact List.mem_map.mpr ⟨p, hp', rfl⟩
      obtain ⟨x, hx, ex⟩ := List.mem_map.mp z
      have z2 := key_storedAll rows [] (k' := x.1) (.inr (List.mem_map.mpr ⟨x, hx, rfl⟩))
      rw [List.map_map]
      rw [← ex]
      exact z2
/-- sorted(d), d a dict whose keys are tuples of whole numbers that are not empty -/
def rSortT (K : PySem.W.Frag) : List V → Hp → VK → Prop := fun xs H Q => ∃ (a : Addr) (L : List (Addr × List Int)), xs = [.ref a] ∧ H a = some (DicTO a L) ∧ (∀ q, q ∈ L → SqT K H q.1 (q.2.map V.int)) ∧ (∀ q, q ∈ L → q.2 ≠ []) ∧
  ∀ (M : List (Addr × List Int)) (p : Addr), (∀ q, q ∈ M → q ∈ L) → (∀ q, q ∈ L → q.2 ∈ M.map (·.2)) → (M.map (·.2)).Pairwise (· < ·) → H p = none → Q (.ref p) (upd H p (.lst (M.map fun q => V.ref q.1)))
theorem cr_sortT (hc : X.calm = true) (hu : X.A.units + 65 < cLine) : CallR X (.builtin "sorted") (rSortT X.K) := by
  intro pins s0 σ H xs us Q I0 r ⟨a, L, e, ha, hk, hne, q⟩
  subst e
  rw [Vals.ref1 r]
  have hdl : X.A.handled = none := I0.ok.hd hc
  obtain ⟨o, es, ep, ho, hex, hdat, keyL, ndL, few, lo⟩ := (show DicT0 s0.heap a L from (I0.hok a _ ha).1)
  refine Calls.call_function_entry kind_sorted plain_sorted entry_sorted (args_sorted1 _) ?_
  unfold Builtin.«sorted»
  refine wpAny_bind (m := checkCount "sorted" 1 1 _) (wpAny_pure ?_)
  have lenE : es.size = L.length := by
    have z := congrArg List.length keyL
    simpa using z
  refine wpAny_bind (PySem.W.kdu_collect (kdl_raw lo hex hdat) hdl ho (by omega) fun h' tk acc hkeep items => ?_)
  have I : Inv X pins σ H { s0 with heap := h', toks := tk } := I0.kept (t' := tk) hkeep
  have eV : acc.toList = L.map fun q => Value.ref q.1 := by
    refine List.ext_getElem? fun j => ?_
    rw [← keyL, List.getElem?_map]
    cases hj : acc.toList[j]? with
    | none =>
      have h1 := List.getElem?_eq_none_iff.mp hj
      rw [Array.length_toList, items.1] at h1
      rw [List.getElem?_eq_none (by rw [Array.length_toList]; exact h1)]
      rfl
    | some v =>
      obtain ⟨en, z1, z2⟩ := items.2 j v (by rw [← Array.getElem?_toList]; exact hj)
      rw [Array.getElem?_toList, z1, z2]
      rfl
  generalize acc.toList = vs at eV
  have pm : vs.Perm (L.map fun q => Value.ref q.1) := by rw [eV]
  generalize ({ s0 with heap := h', toks := tk } : Shared) = s at I ⊢
  have tupL : ∀ q, q ∈ L → IsT X.prog X.w s.heap q.2 q.1 := fun q hq => I.isT (hk q hq)
  obtain ⟨M, eM, subM⟩ := rows_back (L := L) vs fun v hv => by
    obtain ⟨x, hx, ex⟩ := List.mem_map.mp (pm.mem_iff.mp hv)
    exact ⟨x, hx, ex.symm⟩
  have lenV : vs.length = L.length := by rw [pm.length_eq, List.length_map]
  have small : vs.length ≤ sizeLine := by
    rw [lenV]
    exact few
  have covM : ∀ x, x ∈ L → x.1 ∈ M.map (·.1) := fun x hx => by
    have z := pm.mem_iff.mpr (List.mem_map.mpr ⟨x, hx, rfl⟩)
    rw [eM] at z
    obtain ⟨y, hy, ey⟩ := List.mem_map.mp z
    injection ey with ey
    exact List.mem_map.mpr ⟨y, hy, ey⟩
  have oneA : ∀ x y, x ∈ L → y ∈ L → x.1 = y.1 → x = y := fun x y hx hy e => by
    have z1 := tupL x hx
    rw [e] at z1
    exact Prod.ext e (z1.inj (tupL y hy))
  have ndM : (M.map (·.2)).Nodup := by
    have nL : L.Nodup := List.Pairwise.of_map _ (fun _ _ h e => h (congrArg Prod.snd e)) ndL
    have nr : (L.map fun q => Value.ref q.1).Nodup := List.pairwise_map.mpr (List.Pairwise.imp_of_mem (fun {x y} hx hy h e => by
      injection e with e
      exact h (oneA x y hx hy e)) nL)
    have nv : (M.map fun q => Value.ref q.1).Nodup := by rw [← eM]; exact pm.nodup_iff.mpr nr
    have nM : M.Nodup := List.Pairwise.of_map _ (fun _ _ h e => h (by rw [e])) nv
    have pL : M.Perm L := (List.perm_ext_iff_of_nodup nM nL).mpr fun x => ⟨subM x, fun hx => by
      obtain ⟨y, hy, ey⟩ := List.mem_map.mp (covM x hx)
      rw [← oneA y x (subM y hy) hx ey]
      exact hy⟩
    exact (pL.map _).nodup_iff.mpr ndL
  refine wpAny_bind (wpAny_newList ?_ small)
  have hnew : (s.heap.push (seqObj "list" vs.toArray 0)).get? s.heap.objs.size = some (seqObj "list" vs.toArray 0) := Heap.get?_push_size _ rfl
  have old1 : ∀ b o, s.heap.get? b = some o → (s.heap.push (seqObj "list" vs.toArray 0)).get? b = some o := fun b o z => Heap.get?_push_of_some _ z
  have keep : ∀ b o, s.heap.get? b = some o → (PySem.W.sortingHeap (s.heap.push (seqObj "list" vs.toArray 0)) s.heap.objs.size vs).get? b = some o := fun b o z =>
    PySem.W.sortingHeap_old (Nat.ne_of_lt (Heap.lt_size z)) (old1 b o z)
  have rd : ∀ x, x ∈ L → ∃ as, Reads (PySem.W.sortingHeap (s.heap.push (seqObj "list" vs.toArray 0)) s.heap.objs.size vs) (.ref x.1) (rowPy x) as := fun x hx => by
    obtain ⟨as, z⟩ := Dp.reads I (rowPy x) (.ref x.1) (.ref x.1) (.tup (hk x hx) (dps_ints _ _ _)) rfl
    exact ⟨as, PyProof.Rows.Reads.keeps keep z⟩
  have er : PySem.W.EachIs (fun v (x : Addr × List Int) => (v = Value.ref x.1) ∧ x ∈ L) vs M := by
    rw [eM]
    have : ∀ N : List (Addr × List Int), (∀ x, x ∈ N → x ∈ L) → PySem.W.EachIs (fun v (x : Addr × List Int) => (v = Value.ref x.1) ∧ x ∈ L) (N.map fun q => Value.ref q.1) N := fun N => by
      induction N with
      | nil => exact fun _ => .nil
      | cons x N ih => exact fun h => .cons ⟨rfl, h x List.mem_cons_self⟩ (ih fun y hy => h y (List.mem_cons_of_mem _ hy))
    exact this M subM
  have al : PySem.W.AllAlike (M.map rowPy) := fun d hd d' hd' => by
    obtain ⟨x, _, rfl⟩ := List.mem_map.mp hd
    obtain ⟨y, _, rfl⟩ := List.mem_map.mp hd'
    exact row_alike x.2 y.2
  have so : PySem.W.Sortable (M.map rowPy) := .inl fun d hd => by
    obtain ⟨x, hx, rfl⟩ := List.mem_map.mp hd
    match hx2 : x.2 with
    | [] => exact absurd hx2 (hne x (subM x hx))
    | i :: k => exact ⟨.int i, k.map .int, by unfold rowPy; rw [hx2]; rfl⟩
  have er2 : PySem.W.EachIs (fun v (x : Addr × List Int) => ∃ as, Reads (PySem.W.sortingHeap (s.heap.push (seqObj "list" vs.toArray 0)) s.heap.objs.size vs) v (rowPy x) as) vs M := er.mono fun v x h => by rw [h.1]; exact rd x h.2
  have S := PySem.W.SortsAt.data (prog := X.prog) (w := X.w) (A := X.A.in1.in1) (s := { s with heap := PySem.W.sortingHeap (s.heap.push (seqObj "list" vs.toArray 0)) s.heap.objs.size vs }) (vs := vs) (ds := M.map rowPy) (PySem.W.each_map (R := fun v d => ∃ as, Reads (PySem.W.sortingHeap (s.heap.push (seqObj "list" vs.toArray 0)) s.heap.objs.size vs) v d as) rowPy er2) al so fun d hd => by
    obtain ⟨x, _, rfl⟩ := List.mem_map.mp hd
    have z : (rowPy x).depth ≤ 1 := by
      unfold rowPy
      rw [PyData.depth, PySem.W.depth_ints]
      omega
    have z2 : (X.A.in1.in1).units = X.A.units + 1 + 1 := rfl
    omega
  have out := PySem.W.sortVals_data (h' := PySem.W.sortingHeap (s.heap.push (seqObj "list" vs.toArray 0)) s.heap.objs.size vs) (enc := rowPy) false er er2 al
  refine wpAny_bind (wpAny_holding (wpAny_call_entry slot_list_sort ⟨_, hnew, rfl⟩ entry_list_sort (PySem.W.list_sort_vals (s := { s with heap := s.heap.push (seqObj "list" vs.toArray 0) }) hnew S small ⟨_, rfl, ?_⟩) (args_list_sort _)))
  generalize PySem.W.sortVals (PySem.W.dataKind (PySem.W.sortingHeap (s.heap.push (seqObj "list" vs.toArray 0)) s.heap.objs.size vs) (M.map rowPy)) false vs vs = res at out ⊢
  obtain ⟨c, hat⟩ := sortedHeap_at (vs := vs) (out := res.toArray) hnew
  have keep2 : ∀ b o, s.heap.get? b = some o → (sortedHeap (s.heap.push (seqObj "list" vs.toArray 0)) s.heap.objs.size vs res.toArray).get? b = some o := fun b o z => by
    have lt := Heap.lt_size z
    rw [sortedHeap_old (Nat.ne_of_lt lt) (by rw [size_push']; exact Nat.lt_succ_of_lt lt)]
    exact old1 b o z
  generalize hN : M.mergeSort (PySem.W.dataLe false rowPy) = N at out
  have pN : N.Perm M := by rw [← hN]; exact List.mergeSort_perm M _
  have resN : res = N.map fun q => Value.ref q.1 := by
    have : ∀ (us : List Value) (N : List (Addr × List Int)), PySem.W.EachIs (fun v (x : Addr × List Int) => (v = Value.ref x.1) ∧ x ∈ L) us N → us = N.map fun q => Value.ref q.1 := fun us N h => by
      induction h with
      | nil => rfl
      | cons h1 _ ih => rw [List.map_cons, h1.1, ih]
    exact this _ _ out
  have vN : Vals (N.map fun q => V.ref q.1) res := by rw [resN]; exact vals_of_refs N
  have hfresh : H s.heap.objs.size = none := I.hok.fresh (Nat.le_refl _)
  have lenN : (N.map fun q => V.ref q.1).length ≤ sizeLine := by
    rw [List.length_map, pN.length_eq]
    have : M.length = vs.length := by rw [eM, List.length_map]
    omega
  have J : Inv X pins σ (upd H s.heap.objs.size (.lst (N.map fun q => V.ref q.1))) { s with heap := sortedHeap (s.heap.push (seqObj "list" vs.toArray 0)) s.heap.objs.size vs res.toArray } :=
    I.call (ch := []) (Un.laid keep2 (Nat.le_refl _) hfresh) (I.hok.laid keep2 (Nat.le_refl _) ⟨lenN, res, c, vN, hat⟩) I.bare (fun _ z => nomatch z)
  refine wpAny_pure ⟨_, rfl, ?_⟩
  refine ⟨.ref s.heap.objs.size, _, J, rfl, q N s.heap.objs.size (fun x hx => subM x (pN.mem_iff.mp hx)) (fun x hx => ?_) ?_ hfresh⟩
  · obtain ⟨y, hy, ey⟩ := List.mem_map.mp (covM x hx)
    rw [← oneA y x (subM y hy) hx ey]
    exact List.mem_map.mpr ⟨y, pN.mem_iff.mpr hy, rfl⟩
  · have p1 : (N.map (·.2)).Pairwise (· ≤ ·) := by rw [← hN]; exact List.pairwise_map.mpr (row_pairwise M)
    have p2 : (N.map (·.2)).Nodup := (pN.map _).nodup_iff.mpr ndM
    exact List.Pairwise.imp₂ (fun _ _ a b => li_strict a b) p1 p2
end
theorem keysD_cons {d : D} {r : List D} {ks : List (List Int)} (h : keysD (d :: r) = some ks) : ∃ k ks', ks = k :: ks' ∧ keysD [d] = some [k] ∧ keysD r = some ks' := by
  unfold keysD at h
  split at h
  · rename_i heq
    cases heq
  · rename_i y ys r' heq
    cases heq
    obtain ⟨k, e1, e2⟩ := Option.bind_eq_some_iff.mp h
    obtain ⟨q, e3, e4⟩ := Option.map_eq_some_iff.mp e2
    subst e4
    refine ⟨k, q, rfl, ?_, e3⟩
    unfold keysD
    simp only [keysD, e1]
    rfl
  · cases h
theorem pair_rows {K : PySem.W.Frag} {G : Hp} {ι : Cells} : ∀ {xs : List D} {fs : List D} {ks : List (List Int)} {vs : List V}, Reps K G ι vs xs → firstsD xs = some fs → keysD fs = some ks →
    ∃ ps : List (Addr × Addr × List Int), vs = (ps.map fun p => V.ref p.1) ∧ ps.map (fun p => p.2.2) = ks ∧ ∀ p, p ∈ ps → (∃ v, SqT K G p.1 [V.ref p.2.1, v]) ∧ SqT K G p.2.1 (p.2.2.map V.int) ∧ p.2.2 ≠ [] ∧ Rep K G ι (.ref p.2.1) (.tup (p.2.2.map .int))
  | [], fs, ks, _, .nil, e, e' => by
    simp only [firstsD, Option.some.injEq] at e
    subst e
    simp only [keysD, Option.some.injEq] at e'
    subst e'
    exact ⟨[], rfl, rfl, fun _ h => nomatch h⟩
  | x :: r, fs, ks, _, .cons h t, e, e' => by
    unfold firstsD at e
    split at e
    · rename_i heq
      cases heq
    · rename_i d d2 r' heq
      cases heq
      obtain ⟨fs', e1, e2⟩ := Option.map_eq_some_iff.mp e
      subst e2
      obtain ⟨k, ks', rfl, k1, k2⟩ := keysD_cons e'
      obtain ⟨ps, p1, p2, p3⟩ := pair_rows t e1 k2
      cases h with
      | tup s rr =>
        rename_i a vs'
        cases rr with
        | cons r1 r2 =>
          cases r2 with
          | cons r3 r4 =>
            cases r4
            obtain ⟨L, l1, l2, l3⟩ := keys_rows (.cons r1 .nil) k1
            match L, l1, l2, l3 with
            | [q], l1, l2, l3 =>
              simp only [List.map_cons, List.map_nil, List.cons.injEq, and_true] at l1 l2
              subst l1
              refine ⟨(a, q.1, q.2) :: ps, by rw [List.map_cons, p1], by rw [List.map_cons, p2, l2], fun p hp => ?_⟩
              rcases List.mem_cons.mp hp with rfl | hp
              · obtain ⟨z1, z2, z3⟩ := l3 q List.mem_cons_self
                exact ⟨⟨_, s⟩, z1, z2, z3⟩
              · exact p3 p hp
            | [], l1, _, _ => simp at l1
            | _ :: _ :: _, l1, _, _ => simp at l1
    · cases e
/-- sorted(dict(xs)) -/
theorem r_sdic {X : Cx} {ea : Ev → Mem → Option (D × Mem)} {ev : Ev → Mem → Option (D × Mem)} {f a : Expr} (hc : X.calm = true) (hu : X.A.units + 65 < cLine) (ha : PE X a (tA X.K ea)) (h1 : starEach [a] X.env = (false, eval a X.env) :: starEach [] X.env)
    (mk : ∀ {t : TA}, PA X [a] t → PE X f (tCB (rSortT X.K) (tCons (tCB (rDictT X.K) t) tNil)))
    (hev : ∀ env μ, ev env μ = (ea env μ).bind fun p => (seqV p.2 p.1).bind fun xs => (sdicD xs).map fun d => (d, p.2)) : PE X f (tX X.K ev) :=
  PEcon (mk (pa_cons ha pa_nil h1)) fun σ H Q ⟨env, μ, ι, B, B0, d, μ', at0, e, k⟩ => by
    rw [hev] at e
    obtain ⟨⟨x, μ1⟩, e1, e⟩ := Option.bind_eq_some_iff.mp e
    obtain ⟨xs, e2, e⟩ := Option.bind_eq_some_iff.mp e
    obtain ⟨z, e3, e4⟩ := Option.map_eq_some_iff.mp e
    cases e4
    unfold sdicD at e3
    obtain ⟨fs, e6, e3⟩ := Option.bind_eq_some_iff.mp e3
    obtain ⟨ks, e5, e3⟩ := Option.map_eq_some_iff.mp e3
    cases e3
    refine ⟨env, μ, ι, B, B0, x, _, at0, e1, fun v H1 ι1 n1 r1 => ?_⟩
    obtain ⟨l, vs, rfl, sl, rr⟩ := r1.seq n1.s e2
    obtain ⟨ps, l1, l2, l3⟩ := pair_rows rr e6 e5
    refine ⟨l, ps, rfl, by rw [← l1]; exact sl, fun p hp => ?_, fun p hp => sqT_same cut_same (l3 p hp).2.1, fun p S hpn sub cov => ?_⟩
    · obtain ⟨v, hv⟩ := (l3 p hp).1
      exact ⟨v, sqT_same cut_same hv⟩
    have N2 : Nx X.K H1 ι1 B (upd H1 p (DicTO p S)) ι1 _ := ⟨Ext.laid n1.s hpn, Keep.laid n1.s hpn, n1.s.laid hpn⟩
    have up := (Ext.laid n1.s hpn (o := DicTO p S)).up
    have bk : ∀ q, q ∈ S → ∃ p, p ∈ ps ∧ q = p.2 := fun q hq => by
      obtain ⟨p, hp, e⟩ := List.mem_map.mp (sub q hq)
      exact ⟨p, hp, e.symm⟩
    have sq2 : ∀ q, q ∈ S → SqT X.K (upd H1 p (DicTO p S)) q.1 (q.2.map V.int) ∧ q.2 ≠ [] ∧ Rep X.K (cut H1 ι1 B) ι1 (.ref q.1) (.tup (q.2.map .int)) := fun q hq => by
      obtain ⟨p', hp', rfl⟩ := bk q hq
      have z := (l3 p' hp').2
      exact ⟨sqT_same cut_same (sqT_same (cut_upd n1.s hpn) z.1), z.2⟩
    refine ⟨p, S, rfl, upd_same, fun q hq => (sq2 q hq).1, fun q hq => (sq2 q hq).2.1, fun M p2 subM covM srt hp2 => ?_⟩
    have is : M.map (·.2) = onceI ks := once_is srt fun kk => by
      rw [← l2]
      refine ⟨fun h => ?_, fun h => ?_⟩
      · obtain ⟨q, hq, rfl⟩ := List.mem_map.mp h
        obtain ⟨p, hp, rfl⟩ := bk q (subM q hq)
        exact List.mem_map.mpr ⟨p, hp, rfl⟩
      · obtain ⟨p, hp, rfl⟩ := List.mem_map.mp h
        obtain ⟨q', hq', e'⟩ := List.mem_map.mp (cov p hp)
        rw [← e']
        exact covM q' hq'
    have kk : KF X.K H ι B _ ((onceI ks).map fun k => .tup (k.map .int)) Q := k
    refine KF.laid (KF.back (KF.back kk n1) N2) N2.s hp2 ?_
    rw [← is]
    exact reps_rows fun q hq => (sq2 q (subM q hq)).2.2.up up
end DI
set_option Elab.async false
set_option linter.all false
set_option maxRecDepth 100000
/-! DIZ: zip of three tuples -/
namespace DI
open PySem PySem.Spec PyProof.Rows L2
theorem tup_ne_iter {h : Heap} {a i1 b : Addr} {k : Nat} {its : Array Value} (p : h.IsTuple a its) (q : h.IsTupleIter i1 b k) : a ≠ i1 := fun e => by
  obtain ⟨o, ho, ct, _⟩ := p
  obtain ⟨o1, e1, c1, _⟩ := q
  rw [e, e1] at ho
  cases ho
  rw [ct] at c1
  simp at c1
/-- three tuples as they stand at each turn, the items in a new tuple -/
def Itz3 (K : PySem.W.Frag) (a b c : Addr) : It :=
  ⟨fun i H => ∃ (xs ys zs : List V) (x y z : V), SqT K H a xs ∧ SqT K H b ys ∧ SqT K H c zs ∧ xs[i]? = some x ∧ ys[i]? = some y ∧ zs[i]? = some z,
    fun i H v H' => ∃ T x y z, v = .ref T ∧ H T = none ∧ H' = upd H T (.tup [x, y, z]) ∧ (∀ xs, SqT K H a xs → xs[i]? = some x) ∧ (∀ ys, SqT K H b ys → ys[i]? = some y) ∧ ∀ zs, SqT K H c zs → zs[i]? = some z,
    fun i H => ∃ xs ys zs : List V, SqT K H a xs ∧ SqT K H b ys ∧ SqT K H c zs ∧ i ≤ xs.length ∧ i ≤ ys.length ∧ i ≤ zs.length ∧ (i = xs.length ∨ i = ys.length ∨ i = zs.length)⟩
/-- the state of the three that are drawn from -/
def T3St (z TI TO i1 i2 i3 a b c : Addr) (i : Nat) (h : Heap) : Prop :=
  IsZip h z TI TO .none ∧ IsTupOf3 h TI (.ref i1) (.ref i2) (.ref i3) ∧ (∃ x y u, IsTupOf3 h TO x y u) ∧ h.IsTupleIter i1 a i ∧ h.IsTupleIter i2 b i ∧ h.IsTupleIter i3 c i
theorem turn_zip3 {P : Program} {w : World} {K : PySem.W.Frag} {elts : List Expr} {kk : Nat} {tpos : Pos} {a b c z TI TO i1 i2 i3 : Addr} (D : ZipSep3 z TI TO i1 i2 i3 [i1, a] [i2, b] [i3, c]) :
    Turn P w K (.Tuple elts kk tpos) (Itz3 K a b c) [z, TI, TO, i1, i2, i3] z (T3St z TI TO i1 i2 i3 a b c) where
  mem := by simp
  obj := fun i h st d hd => by
    obtain ⟨hz, hTI, ⟨x, y, u, hTO⟩, ⟨o1, e1, _, d1⟩, ⟨o2, e2, _, d2⟩, ⟨o3, e3, _, d3⟩⟩ := st
    have e' : d = z ∨ d = TI ∨ d = TO ∨ d = i1 ∨ d = i2 ∨ d = i3 := by simpa using hd
    rcases e' with q | q | q | q | q | q
    · rw [q]; exact ⟨_, hz, fun v q => nomatch q⟩
    · rw [q]; exact ⟨_, hTI, fun v q => nomatch q⟩
    · rw [q]; exact ⟨_, hTO, fun v q => nomatch q⟩
    · rw [q]; exact ⟨o1, e1, fun v q => by rw [d1] at q; cases q⟩
    · rw [q]; exact ⟨o2, e2, fun v q => by rw [d2] at q; cases q⟩
    · rw [q]; exact ⟨o3, e3, fun v q => by rw [d3] at q; cases q⟩
  keep := fun i h h' st k => by
    obtain ⟨hz, hTI, ⟨x, y, u, hTO⟩, h1, h2, h3⟩ := st
    exact ⟨k z (by simp) _ hz, k TI (by simp) _ hTI, ⟨x, y, u, k TO (by simp) _ hTO⟩, h1.at fun o q => k i1 (by simp) o q, h2.at fun o q => k i2 (by simp) o q, h3.at fun o q => k i3 (by simp) o q⟩
  item := by
    intro X hP hw hK hc i pins s σ H E I hf st hg
    subst hP hw hK
    obtain ⟨hz, hTI, ⟨x0, y0, u0, hTO⟩, h1, h2, h3⟩ := st
    obtain ⟨xs, ys, zs, x, y, u, hqx, hqy, hqu, hx, hy, hu⟩ := hg
    obtain ⟨its, rv, p, _⟩ := I.tuple hqx
    obtain ⟨its2, rv2, p2, _⟩ := I.tuple hqy
    obtain ⟨its3, rv3, p3, _⟩ := I.tuple hqu
    obtain ⟨v1, hv1, r1⟩ := rv.get hx
    obtain ⟨v2, hv2, r2⟩ := rv2.get hy
    obtain ⟨v3, hv3, r3⟩ := rv3.get hu
    have hzl : z < s.heap.objs.size := Heap.lt_size hz
    have hh : X.A.in1.handled = none := I.ok.hd hc
    have lt : ∀ {vs : List Value} {k : Nat} {v : Value}, vs[k]? = some v → k < vs.toArray.size := fun e => by
      rw [List.size_toArray]; exact (List.getElem?_eq_some_iff.mp e).1
    have m1 : a ≠ i1 := tup_ne_iter p h1
    have m2 : b ≠ i2 := tup_ne_iter p2 h2
    have m3 : c ≠ i3 := tup_ne_iter p3 h3
    refine wpAny_pyNext_zipD3_item D (Draws.tuple hh i1 a m1 its.toArray) (Draws.tuple hh i2 b m2 its2.toArray) (Draws.tuple hh i3 c m3 its3.toArray) (i := i) hz hTI hTO ⟨h1, p⟩ ⟨h2, p2⟩ ⟨h3, p3⟩ (lt hv1) (lt hv2) (lt hv3)
      fun y1 y2 y3 h' tk g1 g2 g3 z' TO' h1' h2' h3' hT hsz hk => ?_
    have q1 : y1 = v1 := by have : its[i]? = some y1 := by simpa using g1
                            rw [hv1] at this; cases this; rfl
    have q2 : y2 = v2 := by have : its2[i]? = some y2 := by simpa using g2
                            rw [hv2] at this; cases this; rfl
    have q3 : y3 = v3 := by have : its3[i]? = some y3 := by simpa using g3
                            rw [hv3] at this; cases this; rfl
    subst q1 q2 q3
    refine ⟨_, rfl, wpAny_letOwnedTupleGo_zip (s := { s with heap := h', toks := tk }) z' fun h'' z'' sb => ?_⟩
    have hT2 : h''.get? s.heap.objs.size = some { cls := .type "tuple", data := .seq #[y1, y2, y3] } := (sb.2 _ (Nat.ne_of_gt hzl)).trans hT
    have new : ObjOk X.prog X.w (upd H s.heap.objs.size (.tup [x, y, u])) h'' s.heap.objs.size (.tup [x, y, u]) :=
      ⟨by show 3 ≤ sizeLine; decide, [y1, y2, y3], .cons r1 (.cons r2 (.cons r3 .nil)), ⟨_, hT2, rfl, _, rfl⟩⟩
    have I1 : Inv X pins σ (upd H s.heap.objs.size (.tup [x, y, u])) { s with heap := h'', toks := tk } :=
      I.turnedNew (t' := tk) (ch := [z, TI, TO, i1, i2, i3]) (fun d o hb q => (sb.2 d (fun q' => hb (by simp [q']))).trans (hk d o (fun q' => hb (by simp [q'])) (fun q' => hb (by simp [q'])) (fun q' => hb (by simp [q'])) (fun q' => hb (by simp [q'])) (fun q' => hb (by simp [q'])) q)) hf (Nat.le_refl _) new
    refine ⟨.ref s.heap.objs.size, _, I1, rfl, ⟨_, x, y, u, rfl, I.hok.fresh (Nat.le_refl _), rfl, fun l hl => by rw [I.tuple_inj hl hqx]; exact hx, fun l hl => by rw [I.tuple_inj hl hqy]; exact hy, fun l hl => by rw [I.tuple_inj hl hqu]; exact hu⟩, ⟨z'', ?_, ⟨y1, y2, y3, ?_⟩, ?_, ?_, ?_⟩, fun d hcm => ?_⟩
    · exact (sb.2 _ D.TIz).trans (hk _ _ D.TIz D.TITO D.TIi1 D.TIi2 D.TIi3 hTI)
    · exact (sb.2 _ D.TOz).trans TO'
    · exact h1'.1.at fun o q => (sb.2 _ D.zi1.symm).trans q
    · exact h2'.1.at fun o q => (sb.2 _ D.zi2.symm).trans q
    · exact h3'.1.at fun o q => (sb.2 _ D.zi3.symm).trans q
    · have hlt : d < s.heap.objs.size := by
        have e' : d = z ∨ d = TI ∨ d = TO ∨ d = i1 ∨ d = i2 ∨ d = i3 := by simpa using hcm
        rcases e' with q | q | q | q | q | q
        · rw [q]; exact hzl
        · rw [q]; exact Heap.lt_size hTI
        · rw [q]; exact Heap.lt_size hTO
        · rw [q]; obtain ⟨_, e1, _⟩ := h1; exact Heap.lt_size e1
        · rw [q]; obtain ⟨_, e2, _⟩ := h2; exact Heap.lt_size e2
        · rw [q]; obtain ⟨_, e3, _⟩ := h3; exact Heap.lt_size e3
      rw [upd_ne (Nat.ne_of_lt hlt)]
      exact (hf d hcm).1
  done := by
    intro X hP hw hK hc i pins s σ H E I hf st hg
    subst hP hw hK
    obtain ⟨hz, hTI, ⟨x0, y0, u0, hTO⟩, h1, h2, h3⟩ := st
    obtain ⟨xs, ys, zs, hqx, hqy, hqu, l1, l2, l3, hend⟩ := hg
    obtain ⟨its, rv, p, _⟩ := I.tuple hqx
    obtain ⟨its2, rv2, p2, _⟩ := I.tuple hqy
    obtain ⟨its3, rv3, p3, _⟩ := I.tuple hqu
    have hh : X.A.in1.handled = none := I.ok.hd hc
    have m1 : a ≠ i1 := tup_ne_iter p h1
    have m2 : b ≠ i2 := tup_ne_iter p2 h2
    have m3 : c ≠ i3 := tup_ne_iter p3 h3
    have s1 : its.toArray.size = xs.length := by rw [List.size_toArray, ← rv.length]
    have s2 : its2.toArray.size = ys.length := by rw [List.size_toArray, ← rv2.length]
    have s3 : its3.toArray.size = zs.length := by rw [List.size_toArray, ← rv3.length]
    exact wpAny_pyNext_zipD3_end D (Draws.tuple hh i1 a m1 its.toArray) (Draws.tuple hh i2 b m2 its2.toArray) (Draws.tuple hh i3 c m3 its3.toArray) (i := i) hz hTI hTO ⟨h1, p⟩ ⟨h2, p2⟩ ⟨h3, p3⟩ (by omega) (by omega) (by omega) (by omega)
      fun h' tk hk => ⟨rfl, I.turnedL (t' := tk) (ch := [z, TI, TO, i1, i2, i3]) (fun d o hb q =>
      hk d o (fun q' => hb (by simp [q'])) (fun q' => hb (by simp [q'])) (fun q' => hb (by simp [q'])) (fun q' => hb (by simp [q'])) (fun q' => hb (by simp [q'])) q) hf⟩
  self := fun A i s Q E st h => wpAny_pyIter_zip st.1 h

def iZip3 (K : PySem.W.Frag) (ta : TA) : TI := fun σ H R => ta σ H fun vs H1 => ∃ a b c xs ys zs, vs = [.ref a, .ref b, .ref c] ∧ SqT K H1 a xs ∧ SqT K H1 b ys ∧ SqT K H1 c zs ∧ R (Itz3 K a b c) H1
theorem pi_zip3 {X : Cx} {e e2 e3 : Expr} {ta : TA} {p pos tpos : Pos} {elts : List Expr} {kk : Nat} (hg : Gl X "zip") (hm : X.mg "zip" = none) (ha : PA X [e, e2, e3] ta)
    (hs : starEach [e, e2, e3] X.env = (false, eval e X.env) :: starEach [e2, e3] X.env := by rfl) (hpl : (backTo pos (starEach [e2, e3] X.env)).any (·.1) = false := by rfl) :
    PI X (.Tuple elts kk tpos) (.Call (.Name "zip" p) [e, e2, e3] [] pos) (iZip3 X.K ta) := by
  refine ⟨fun pins s σ H R I h => ?_⟩
  refine Call_ (ld_blt I hg hm PyProof.Rows.boot_zip (PyProof.Rows.callWith_type1 (thn (ha.run pos pins s σ H _ I h) fun us s1 ⟨vs, H1, I1, r1, q1⟩ => ?_) hs hpl))
  obtain ⟨a, b, c, xs, ys, zs, ex, hqx, hqy, hqu, q⟩ := q1
  subst ex
  cases r1 with
  | cons r rr =>
    cases rr with
    | cons r' rr =>
      cases rr with
      | cons r'' rr =>
      cases rr
      cases r
      cases r'
      cases r''
      have fresh6 : ∀ d, d ∈ [s1.heap.objs.size + 5, s1.heap.objs.size + 3, s1.heap.objs.size + 4, s1.heap.objs.size, s1.heap.objs.size + 1, s1.heap.objs.size + 2] → FpOk X pins H1 d := fun d hcm => by
        have e' : d = s1.heap.objs.size + 5 ∨ d = s1.heap.objs.size + 3 ∨ d = s1.heap.objs.size + 4 ∨ d = s1.heap.objs.size ∨ d = s1.heap.objs.size + 1 ∨ d = s1.heap.objs.size + 2 := by simpa using hcm
        have hle : s1.heap.objs.size ≤ d := by
          rcases e' with z | z | z | z | z | z
          · rw [z]; exact Nat.le_add_right _ _
          · rw [z]; exact Nat.le_add_right _ _
          · rw [z]; exact Nat.le_add_right _ _
          · rw [z]; exact Nat.le_refl _
          · rw [z]; exact Nat.le_add_right _ _
          · rw [z]; exact Nat.le_add_right _ _
        exact I1.fpOk hle (I1.hok.fresh hle)
      obtain ⟨its, rv, p1, _⟩ := I1.tuple hqx
      obtain ⟨its2, rv2, p2, _⟩ := I1.tuple hqy
      obtain ⟨its3, rv3, p3, _⟩ := I1.tuple hqu
      have l1 : a < s1.heap.objs.size := by obtain ⟨o1, ho1, _⟩ := id p1; exact Heap.lt_size ho1
      have l2 : b < s1.heap.objs.size := by obtain ⟨o1, ho1, _⟩ := id p2; exact Heap.lt_size ho1
      have l3 : c < s1.heap.objs.size := by obtain ⟨o1, ho1, _⟩ := id p3; exact Heap.lt_size ho1
      refine zip_begins3 (begins_tuple a its.toArray) (begins_tuple b its2.toArray) (begins_tuple c its3.toArray) (show s1.heap.IsTuple a its.toArray from p1) (show s1.heap.IsTuple b its2.toArray from p2) (show s1.heap.IsTuple c its3.toArray from p3)
        fun h' hz hTI hTO h1 h2 h3 hsz hk => wpAny_pyIter_zip hz ?_
      have I2 : Inv X pins σ H1 { s1 with heap := h' } := I1.kept (t' := s1.toks) hk
      have one : ∀ {x y : Addr}, x < y → ∀ d ∈ [x], d < y := fun h d hd => by
        rw [List.mem_singleton] at hd; rw [hd]; exact h
      exact ⟨s1.heap.objs.size + 5, [s1.heap.objs.size + 5, s1.heap.objs.size + 3, s1.heap.objs.size + 4, s1.heap.objs.size, s1.heap.objs.size + 1, s1.heap.objs.size + 2], _, _, H1, rfl, I2, turn_zip3 (zip_sep3 (one l1) (one l2) (one l3)),
        ⟨hz, hTI, ⟨_, _, _, hTO⟩, ⟨_, h1, rfl, rfl⟩, ⟨_, h2, rfl, rfl⟩, ⟨_, h3, rfl, rfl⟩⟩, fresh6, q⟩
end DI
set_option Elab.async false
set_option linter.all false
set_option maxRecDepth 100000
set_option maxHeartbeats 2000000
/-! DIC: combinations(xs, 2) -/
namespace CpComb
open PySem PySem.Spec PySem.Builtin.Itertools
open Sem (wp)
theorem mro_cmb : mroOf (.type "itertools.combinations") = pure [.type "itertools.combinations", .type "object"] := by rw [mroOf_type]; kernel_rfl
theorem lookup_cmb_new : typeLookup (.type "itertools.combinations") "__new__" = pure (some (.builtin "itertools.combinations.__new__")) := by rw [typeLookup_type, builtinLookup_eq_fast]; kernel_rfl
theorem slot_cmb_init : Slot "itertools.combinations" "__init__" "object.__init__" :=
  .of (owner := "object") (n := "__init__") (by rw [typeLookup_type, builtinLookup_eq_fast]; kernel_rfl) (by decide +kernel) (by decide +kernel) (by decide +kernel)
    (by first | exact .inl (by decide +kernel) | exact .inr (by decide +kernel)) (by rw [isSubtype_type]; kernel_rfl)
theorem sub_cmb : isSubtype (.type "itertools.combinations") (.type "itertools.combinations") = pure true := by rw [isSubtype_type]; kernel_rfl
theorem called_cmb : TypeCalled "itertools.combinations" "itertools.combinations.__new__" "object.__init__" :=
  ⟨by decide +kernel, by decide +kernel, ⟨_, _, mro_cmb⟩, madeBy_type mro_cmb lookup_cmb_new (by decide +kernel), by decide +kernel, sub_cmb, slot_cmb_init⟩
theorem typeCall_cmb_2 (a b : Value) : checkTypeCall "itertools.combinations" ⟨[a, b], []⟩ = pure () := by kernel_rfl
theorem newCall_cmb_2 (a b : Value) : checkBuiltinCall "itertools.combinations.__new__" ⟨[.type "itertools.combinations", a, b], []⟩ = pure () := by kernel_rfl
theorem entry_cmb_new : entryFor table "itertools.combinations.__new__" = some Builtin.«itertools.combinations.__new__» := entryFor_of_tree (by kernel_rfl)
theorem slot_cmb_iter : Slot "itertools.combinations" "__iter__" "itertools.combinations.__iter__" :=
  .of (owner := "itertools.combinations") (n := "__iter__") (by rw [typeLookup_type, builtinLookup_eq_fast]; kernel_rfl) (by decide +kernel) (by decide +kernel) (by decide +kernel)
    (by first | exact .inl (by decide +kernel) | exact .inr (by decide +kernel)) sub_cmb
theorem slot_cmb_next : Slot "itertools.combinations" "__next__" "itertools.combinations.__next__" :=
  .of (owner := "itertools.combinations") (n := "__next__") (by rw [typeLookup_type, builtinLookup_eq_fast]; kernel_rfl) (by decide +kernel) (by decide +kernel) (by decide +kernel)
    (by first | exact .inl (by decide +kernel) | exact .inr (by decide +kernel)) sub_cmb
theorem entry_cmb_iter : entryFor table "itertools.combinations.__iter__" = some Builtin.«dict_keyiterator.__iter__» :=
  entryFor_alias (id' := "dict_keyiterator.__iter__") (by kernel_rfl) (by first | rfl | decide +kernel | (unfold String.splitOn; simp +decide [String.splitOnAux])) (by decide +kernel) (by kernel_rfl)
theorem entry_cmb_next : entryFor table "itertools.combinations.__next__" = some Builtin.«itertools.combinations.__next__» := entryFor_of_tree (by kernel_rfl)
theorem owner_cmb : Manifest.owners.lookup (String.ofList ['s', 'n', 'o', 'i', 't', 'a', 'n', 'i', 'b', 'm', 'o', 'c', '.', 's', 'l', 'o', 'o', 't', 'r', 'e', 't', 'i'].reverse) = some Manifest.sig_itertools_combinations := by kernel_rfl
theorem args_cmb_iter (a : Value) : argsOk "itertools.combinations.__iter__" ⟨[a], []⟩ := by
  unfold argsOk; rw [signature?_of (id := "itertools.combinations.__iter__") (n := ['_', '_', 'r', 'e', 't', 'i', '_', '_']) (o := ['s', 'n', 'o', 'i', 't', 'a', 'n', 'i', 'b', 'm', 'o', 'c', '.', 's', 'l', 'o', 'o', 't', 'r', 'e', 't', 'i']) (by kernel_rfl) owner_cmb]; kernel_rfl
theorem args_cmb_next (a : Value) : argsOk "itertools.combinations.__next__" ⟨[a], []⟩ := by
  unfold argsOk; rw [signature?_of (id := "itertools.combinations.__next__") (n := ['_', '_', 't', 'x', 'e', 'n', '_', '_']) (o := ['s', 'n', 'o', 'i', 't', 'a', 'n', 'i', 'b', 'm', 'o', 'c', '.', 's', 'l', 'o', 'o', 't', 'r', 'e', 't', 'i']) (by kernel_rfl) owner_cmb]; kernel_rfl
theorem noDict_cmb : typeHasDict (.type "itertools.combinations") = false := by decide +kernel
/-- the object: its pool, how far it is, what was told last, the two places -/
abbrev IsCmb (h : Heap) (it : Addr) (pool : Addr) (st : Int) (last : Value) (i j : Int) : Prop := h.get? it = some { cls := .type "itertools.combinations", dict := none, data := .fields #[.ref pool, .int st 0, last, .int i 0, .int j 0], slots := #[] }
theorem meets_cmb_new (l : Addr) (T : String) (o : Obj) (items : Array Value) (n : Nat) (t : Tok) (hT : T = "list" ∨ T = "tuple") (hc : o.cls = .type T) (hd : o.data = .seq items n) (hsz : items.size ≤ sizeLine) :
    Meets (Builtin.«itertools.combinations.__new__» ⟨[.type "itertools.combinations", .ref l, .int 2 t], []⟩)
      (fun _ R s => s.heap.get? l = some o ∧ ∀ h' : Heap, (∀ b o', s.heap.get? b = some o' → h'.get? b = some o') →
        R (.ok (.ret (.ref (h'.objs.size + 1)))) { s with heap := (h'.push { cls := .type "tuple", data := .seq items }).push { cls := .type "itertools.combinations", data := .fields #[.ref h'.objs.size, .int (if 2 > items.size then 2 else 0) 0, .none, .int 0 0, .int 1 0] } }) :=
  .of_wp fun prog w A R s h => by
    obtain ⟨hp, g, dd, tk, os⟩ := s; obtain ⟨ht, h⟩ := h
    have hsub := sub_cmb
    have hd' := noDict_cmb
    have hn : ¬ ((!(decide (-(2 ^ 63 : Int) ≤ 2) && decide ((2 : Int) < (2 ^ 63 : Int)))) = true) := by decide
    have hS : Shared.TypeIs ⟨hp, g, dd, tk, os⟩ (.ref l) T := ⟨o, ht, hc⟩
    have e : ("itertools." ++ "combinations" : String) = "itertools.combinations" := by decide +kernel
    unfold Builtin.«itertools.combinations.__new__»
    refine wpAny_bind ?_
    show wpAny _ _ (Builtin.Itertools.itClassAndRest "combinations" _ >>= _) _ _ _
    repeat (first
      | (with_reducible refine wpAny_collect_seq (hsz := hsz) l hT ht hc hd fun h' hk => ?_)
      | wp_step
      | simp only [List.head?_cons, Option.some_or, List.getElem?_cons_succ, List.getElem?_cons_zero, List.length_cons, List.length_nil, List.forIn_nil, e]
      | (refine wpAny_ite_false (decide_eq_false hn) ?_))
    have e2 : items.toList.toArray = items := by simp
    have e3 : items.toList.length = items.size := by simp
    have q := h h' hk
    refine ⟨_, rfl, ?_⟩
    rw [Heap.size_push, e2, e3]
    exact q
end CpComb
set_option Elab.async false
set_option linter.all false
set_option maxRecDepth 100000
set_option maxHeartbeats 2000000
/-! DID: the pairs of combinations(xs, 2), one by one -/
namespace CpComb
open PySem PySem.Spec PySem.Builtin.Itertools
open Sem (wp)
section
variable {prog : Program} {w : World} {A : Around} {E : Value → Shared → Prop} {s : Shared}
theorem call_cmb {l : Addr} {T : String} {o : Obj} {items : Array Value} {n : Nat} {t : Tok} {Q : Value → Shared → Prop} (hT : T = "list" ∨ T = "tuple") (ho : s.heap.get? l = some o) (hc : o.cls = .type T) (hd : o.data = .seq items n) (hsz : items.size ≤ sizeLine)
    (h : ∀ h' : Heap, (∀ b o', s.heap.get? b = some o' → h'.get? b = some o') → Q (.ref (h'.objs.size + 1)) { s with heap := (h'.push { cls := .type "tuple", data := .seq items }).push { cls := .type "itertools.combinations", data := .fields #[.ref h'.objs.size, .int (if 2 > items.size then 2 else 0) 0, .none, .int 0 0, .int 1 0] } }) :
    wpAny (model prog w) A (call (.type "itertools.combinations") [.ref l, .int 2 t]) Q E s := by
  refine callType_new called_cmb (by decide +kernel) (typeCall_cmb_2 _ _) (newCall_cmb_2 _ _) (fun obj => F.args_object_init_3 obj _ _) entry_cmb_new (meets_cmb_new l T o items n t hT hc hd hsz) ⟨ho, fun h' hk => ?_⟩
  show _ ∧ _
  refine ⟨⟨{ cls := .type "itertools.combinations", data := .fields #[.ref h'.objs.size, .int (if 2 > items.size then 2 else 0) 0, .none, .int 0 0, .int 1 0] }, ?_, rfl⟩, h h' hk⟩
  have e : (h'.push { cls := .type "tuple", data := .seq items }).objs.size = h'.objs.size + 1 := Heap.size_push ..
  rw [← e]
  exact Heap.get?_push_size _ rfl
theorem iter_cmb {it P : Addr} {st i j : Int} {last : Value} {Q : Value → Shared → Prop} (hit : IsCmb s.heap it P st last i j) (h : Q (.ref it) s) : wpAny (model prog w) A (pyIter (.ref it)) Q E s := by
  have hT : s.TypeIs (.ref it) "itertools.combinations" := ⟨_, hit, rfl⟩
  refine wpAny_pyIter_slot hT slot_cmb_iter (wpAny_call_entry slot_cmb_iter hT entry_cmb_iter ?_ (args_cmb_iter _))
  show wpAny _ _ (ret (.ref it)) _ _ s
  exact wpAny_pure ⟨_, rfl, "itertools.combinations", _, hT, slot_cmb_next.lookup, h⟩
/-- what is told: a new tuple, kept as the last one -/
theorem hand_cmb {it P : Addr} {st : Int} {last : Value} {i j : Nat} {items : Array Value} {x y : Value} {h1 : Heap} {Q : Value → Shared → Prop} (hit : IsCmb h1 it P st last i j) (hP : h1.get? P = some { cls := .type "tuple", data := .seq items }) (hx : items[i]? = some x) (hy : items[j]? = some y)
    (hQ : ∀ h', IsCmb h' it P st (.ref h1.objs.size) i j → h'.get? P = some { cls := .type "tuple", data := .seq items } → h'.get? h1.objs.size = some { cls := .type "tuple", data := .seq #[x, y] } → (∀ c o, c ≠ it → h1.get? c = some o → h'.get? c = some o) → Q (.ref h1.objs.size) { s with heap := h' }) :
    wpAny (model prog w) A ((itPoolItems (.ref P) >>= fun xs => newTuple (([i, j] : List Nat).map fun t => xs.getD t .none)) >>= fun result => field (.ref it) 2 >>= fun before => setField (.ref it) 2 result >>= fun _ => letGo [before] [result] >>= fun _ => ret result) (fun fin s' => ∃ v, fin = .done (.ret v) ∧ Q v s') E { s with heap := h1 } := by
  have ex : items.getD i .none = x := by
    rw [Array.getD_eq_getD_getElem?, hx]
    rfl
  have ey : items.getD j .none = y := by
    rw [Array.getD_eq_getD_getElem?, hy]
    rfl
  refine wpAny_bind (wpAny_bind ?_)
  unfold itPoolItems
  refine wpAny_bind (wpAny_seqItems hP rfl ?_)
  refine wpAny_pure ?_
  simp only [List.map_cons, List.map_nil, ex, ey, newTuple]
  refine wpAny_newObj_type ?_ (by size_fits)
  have hit2 := Heap.get?_push_of_some { cls := .type "tuple", data := .seq [x, y].toArray } hit
  refine wpAny_bind (wpAny_field hit2 rfl (x := last) rfl ?_)
  refine wpAny_bind (wpAny_setField_rec hit2 (by simp) fun h3 hit3 sb3 => ?_)
  refine wpAny_bind (wpAny_letGo ?_)
  have lt : it < h1.objs.size := Heap.lt_size hit
  have neP : P ≠ it := fun e => by rw [e, hit] at hP; simp at hP
  refine wpAny_pure ⟨_, rfl, hQ h3 hit3 ((sb3.2 _ neP).trans (Heap.get?_push_of_some _ hP)) ((sb3.2 _ (Nat.ne_of_gt lt)).trans (Heap.get?_push_size _ rfl)) fun c o hc e => (sb3.2 _ hc).trans (Heap.get?_push_of_some _ e)⟩
theorem first_cmb {it P : Addr} {last : Value} {i j : Nat} {items : Array Value} {x y : Value} {Q : Option Value → Shared → Prop} (hit : IsCmb s.heap it P 0 last i j) (hP : s.heap.get? P = some { cls := .type "tuple", data := .seq items }) (hne : P ≠ it) (hx : items[i]? = some x) (hy : items[j]? = some y)
    (hQ : ∀ h', IsCmb h' it P 1 (.ref s.heap.objs.size) i j → h'.get? P = some { cls := .type "tuple", data := .seq items } → h'.get? s.heap.objs.size = some { cls := .type "tuple", data := .seq #[x, y] } → (∀ c o, c ≠ it → s.heap.get? c = some o → h'.get? c = some o) → Q (some (.ref s.heap.objs.size)) { s with heap := h' }) :
    wpAny (model prog w) A (pyNext (.ref it)) Q E s := by
  have hT : s.TypeIs (.ref it) "itertools.combinations" := ⟨_, hit, rfl⟩
  unfold pyNext
  refine wpAny_bind (wpAny_attempt (wpAny_callSpecial?_slot (name := Str.ofString "__next__") hT slot_cmb_next (wpAny_call_entry slot_cmb_next hT entry_cmb_next ?_ (args_cmb_next _))))
  show wpAny _ _ (field (.ref it) 0 >>= _) _ _ s
  refine wpAny_bind (wpAny_field hit rfl (x := .ref P) rfl ?_)
  show wpAny _ _ (itNumbersFrom (.ref it) 3 >>= _) _ _ s
  refine wpAny_bind ?_
  unfold itNumbersFrom
  refine wpAny_bind (wpAny_load hit ?_)
  refine wpAny_pure ?_
  show wpAny _ _ (itIntField (.ref it) 1 >>= _) _ _ s
  refine wpAny_bind ?_
  unfold itIntField
  refine wpAny_bind (wpAny_field hit rfl (x := .int 0 0) rfl ?_)
  refine wpAny_pure ?_
  show wpAny _ _ (setField (.ref it) 1 (rawInt 1) >>= _) _ _ s
  refine wpAny_bind (wpAny_setField_rec hit (by simp) fun h1 hit1 sb1 => ?_)
  replace hit1 : IsCmb h1 it P 1 last i j := hit1
  have hP1 := sb1.2 _ hne
  rw [hP] at hP1
  have sz : h1.objs.size = s.heap.objs.size := sb1.1
  rw [← sz] at hQ
  exact hand_cmb (Q := fun v s' => wpAny (model prog w) A (pure (some v)) Q E s') hit1 hP1 hx hy fun h2 a1 a2 a3 a4 => wpAny_pure (hQ h2 a1 a2 a3 fun c o hc e => a4 c o hc ((sb1.2 _ hc).trans e))
/-- the places behind -/
def nxt (n i j : Nat) : Option (Nat × Nat) := if j + 1 ≠ n then some (i, j + 1) else if i + 2 ≠ n then some (i + 1, i + 2) else none
def places (n i j : Nat) : Option (List Nat) := match ([1, 0] : List Nat).find? (fun t => [i, j].getD t 0 != t + n - 2) with
  | none => none
  | some t => some ([i, j].take t ++ (List.range (2 - t)).map fun u => [i, j].getD t 0 + 1 + u)
theorem places_eq {n i j : Nat} (hi : i < j) (hj : j < n) : places n i j = (nxt n i j).map fun p => [p.1, p.2] := by
  unfold places nxt
  by_cases h1 : j + 1 = n
  · have b1 : (j != 1 + n - 2) = false := by
      rw [bne_eq_false_iff_eq]
      omega
    by_cases h2 : i + 2 = n
    · have b2 : (i != 0 + n - 2) = false := by
        rw [bne_eq_false_iff_eq]
        omega
      simp only [List.find?_cons, List.find?_nil, List.getD_cons_succ, List.getD_cons_zero, b1, b2]
      simp [h1, h2]
    · have b2 : (i != 0 + n - 2) = true := by
        rw [bne_iff_ne]
        omega
      simp only [List.find?_cons, List.find?_nil, List.getD_cons_succ, List.getD_cons_zero, b1, b2]
      simp [h1, h2, List.range_succ]
  · have b1 : (j != 1 + n - 2) = true := by
      rw [bne_iff_ne]
      omega
    simp only [List.find?_cons, List.find?_nil, List.getD_cons_succ, List.getD_cons_zero, b1]
    simp [h1, List.range_succ]
theorem next_cmb {it P : Addr} {last : Value} {i j i' j' : Nat} {items : Array Value} {x y : Value} {Q : Option Value → Shared → Prop} (hit : IsCmb s.heap it P 1 last i j) (hP : s.heap.get? P = some { cls := .type "tuple", data := .seq items }) (hne : P ≠ it) (hi : i < j) (hj : j < items.size) (hn : nxt items.size i j = some (i', j')) (hx : items[i']? = some x) (hy : items[j']? = some y)
    (hQ : ∀ h', IsCmb h' it P 1 (.ref s.heap.objs.size) i' j' → h'.get? P = some { cls := .type "tuple", data := .seq items } → h'.get? s.heap.objs.size = some { cls := .type "tuple", data := .seq #[x, y] } → (∀ c o, c ≠ it → s.heap.get? c = some o → h'.get? c = some o) → Q (some (.ref s.heap.objs.size)) { s with heap := h' }) :
    wpAny (model prog w) A (pyNext (.ref it)) Q E s := by
  have hT : s.TypeIs (.ref it) "itertools.combinations" := ⟨_, hit, rfl⟩
  unfold pyNext
  refine wpAny_bind (wpAny_attempt (wpAny_callSpecial?_slot (name := Str.ofString "__next__") hT slot_cmb_next (wpAny_call_entry slot_cmb_next hT entry_cmb_next ?_ (args_cmb_next _))))
  show wpAny _ _ (field (.ref it) 0 >>= _) _ _ s
  refine wpAny_bind (wpAny_field hit rfl (x := .ref P) rfl ?_)
  show wpAny _ _ (itNumbersFrom (.ref it) 3 >>= _) _ _ s
  refine wpAny_bind ?_
  unfold itNumbersFrom
  refine wpAny_bind (wpAny_load hit ?_)
  refine wpAny_pure ?_
  show wpAny _ _ (itIntField (.ref it) 1 >>= _) _ _ s
  refine wpAny_bind ?_
  unfold itIntField
  refine wpAny_bind (wpAny_field hit rfl (x := .int 1 0) rfl ?_)
  refine wpAny_pure ?_
  show wpAny _ _ (itPoolItems (.ref P) >>= _) _ _ s
  refine wpAny_bind ?_
  unfold itPoolItems
  refine wpAny_bind (wpAny_seqItems hP rfl ?_)
  refine wpAny_pure ?_
  show wpAny _ _ (match places items.size i j with
    | some next => _
    | none => _) _ _ s
  rw [places_eq hi hj, hn]
  show wpAny _ _ (itSetNumbersFrom (.ref it) 3 [i', j'] >>= _) _ _ s
  refine wpAny_bind ?_
  unfold itSetNumbersFrom
  refine wpAny_updateFields hit rfl ?_ (by simp [sizeLine])
  have hit1 : IsCmb (s.heap.update it (Obj.mapFields fun fs => fs.extract 0 3 ++ (([i', j'] : List Nat).map fun (n : Nat) => rawInt n).toArray)) it P 1 last i' j' := Heap.get?_update_self _ hit rfl
  have sb1 : Heap.SameBut it s.heap (s.heap.update it (Obj.mapFields fun fs => fs.extract 0 3 ++ (([i', j'] : List Nat).map fun (n : Nat) => rawInt n).toArray)) := Heap.SameBut.update ..
  generalize (s.heap.update it (Obj.mapFields fun fs => fs.extract 0 3 ++ (([i', j'] : List Nat).map fun (n : Nat) => rawInt n).toArray)) = h1 at *
  have hP1 := sb1.2 _ hne
  rw [hP] at hP1
  have sz : h1.objs.size = s.heap.objs.size := sb1.1
  rw [← sz] at hQ
  exact hand_cmb (Q := fun v s' => wpAny (model prog w) A (pure (some v)) Q E s') hit1 hP1 hx hy fun h2 a1 a2 a3 a4 => wpAny_pure (hQ h2 a1 a2 a3 fun c o hc e => a4 c o hc ((sb1.2 _ hc).trans e))
theorem end_cmb {it P : Addr} {last : Value} {i j : Nat} {items : Array Value} {Q : Option Value → Shared → Prop} (hh : A.handled = none) (hit : IsCmb s.heap it P 1 last i j) (hP : s.heap.get? P = some { cls := .type "tuple", data := .seq items }) (hi : i < j) (hj : j < items.size) (hn : nxt items.size i j = none)
    (hQ : ∀ h', (∀ c o, c ≠ it → s.heap.get? c = some o → h'.get? c = some o) → Q none { s with heap := h' }) :
    wpAny (model prog w) A (pyNext (.ref it)) Q E s := by
  have hT : s.TypeIs (.ref it) "itertools.combinations" := ⟨_, hit, rfl⟩
  unfold pyNext
  refine wpAny_bind (wpAny_attempt (wpAny_callSpecial?_slot (name := Str.ofString "__next__") hT slot_cmb_next (wpAny_call_entry slot_cmb_next hT entry_cmb_next ?_ (args_cmb_next _))))
  show wpAny _ _ (field (.ref it) 0 >>= _) _ _ s
  refine wpAny_bind (wpAny_field hit rfl (x := .ref P) rfl ?_)
  show wpAny _ _ (itNumbersFrom (.ref it) 3 >>= _) _ _ s
  refine wpAny_bind ?_
  unfold itNumbersFrom
  refine wpAny_bind (wpAny_load hit ?_)
  refine wpAny_pure ?_
  show wpAny _ _ (itIntField (.ref it) 1 >>= _) _ _ s
  refine wpAny_bind ?_
  unfold itIntField
  refine wpAny_bind (wpAny_field hit rfl (x := .int 1 0) rfl ?_)
  refine wpAny_pure ?_
  show wpAny _ _ (itPoolItems (.ref P) >>= _) _ _ s
  refine wpAny_bind ?_
  unfold itPoolItems
  refine wpAny_bind (wpAny_seqItems hP rfl ?_)
  refine wpAny_pure ?_
  show wpAny _ _ (match places items.size i j with
    | some next => _
    | none => _) _ _ s
  rw [places_eq hi hj, hn]
  show wpAny _ _ (setField (.ref it) 1 (rawInt 2) >>= _) _ _ s
  refine wpAny_bind (wpAny_setField_rec hit (by simp) fun h1 hit1 sb1 => ?_)
  show wpAny _ _ (newExc (.type "StopIteration") [] >>= _) _ _ _
  refine wpAny_bind ?_
  simp only [newExc, newTuple]
  refine wpAny_bind (wpAny_newObj_type ?_ (by size_fits))
  refine wpAny_bind (m := firstArgMember _ _) (wpAny_of_eq (a := Value.none) (by first | rfl | (simp only [firstArgMember]; rfl)) ?_)
  refine wpAny_newObj_type ?_ (by size_fits)
  simp only [raiseNew]
  refine wpAny_bind (wpAny_handled ?_)
  first | rw [show A.in1.handled = none from hh] | rw [hh]
  refine wpAny_bind (wpAny_pure (wpAny_throw ?_))
  show wpAny _ _ (isInstance _ _ >>= _) _ _ _
  refine wpAny_bind (wpAny_isInstance (T := "StopIteration") (b := true) ⟨_, Heap.get?_push_size _ rfl, rfl⟩ isSubtype_stop ?_)
  exact wpAny_pure (hQ _ fun c o hc e => Heap.get?_push_of_some _ (Heap.get?_push_of_some _ ((sb1.2 _ hc).trans e)))
theorem none_cmb {it P : Addr} {last : Value} {i j : Int} {Q : Option Value → Shared → Prop} (hh : A.handled = none) (hit : IsCmb s.heap it P 2 last i j)
    (hQ : ∀ h', (∀ c o, c ≠ it → s.heap.get? c = some o → h'.get? c = some o) → Q none { s with heap := h' }) :
    wpAny (model prog w) A (pyNext (.ref it)) Q E s := by
  have hT : s.TypeIs (.ref it) "itertools.combinations" := ⟨_, hit, rfl⟩
  unfold pyNext
  refine wpAny_bind (wpAny_attempt (wpAny_callSpecial?_slot (name := Str.ofString "__next__") hT slot_cmb_next (wpAny_call_entry slot_cmb_next hT entry_cmb_next ?_ (args_cmb_next _))))
  show wpAny _ _ (field (.ref it) 0 >>= _) _ _ s
  refine wpAny_bind (wpAny_field hit rfl (x := .ref P) rfl ?_)
  show wpAny _ _ (itNumbersFrom (.ref it) 3 >>= _) _ _ s
  refine wpAny_bind ?_
  unfold itNumbersFrom
  refine wpAny_bind (wpAny_load hit ?_)
  refine wpAny_pure ?_
  show wpAny _ _ (itIntField (.ref it) 1 >>= _) _ _ s
  refine wpAny_bind ?_
  unfold itIntField
  refine wpAny_bind (wpAny_field hit rfl (x := .int 2 0) rfl ?_)
  refine wpAny_pure ?_
  show wpAny _ _ (rule _ >>= _) _ _ s
  refine wpAny_bind (wpAny_rule ?_)
  show wpAny _ _ (newExc (.type "StopIteration") [] >>= _) _ _ _
  refine wpAny_bind ?_
  simp only [newExc, newTuple]
  refine wpAny_bind (wpAny_newObj_type ?_ (by size_fits))
  refine wpAny_bind (m := firstArgMember _ _) (wpAny_of_eq (a := Value.none) (by first | rfl | (simp only [firstArgMember]; rfl)) ?_)
  refine wpAny_newObj_type ?_ (by size_fits)
  simp only [raiseNew]
  refine wpAny_bind (wpAny_handled ?_)
  first | rw [show A.in1.handled = none from hh] | rw [hh]
  refine wpAny_bind (wpAny_pure (wpAny_throw ?_))
  show wpAny _ _ (isInstance _ _ >>= _) _ _ _
  refine wpAny_bind (wpAny_isInstance (T := "StopIteration") (b := true) ⟨_, Heap.get?_push_size _ rfl, rfl⟩ isSubtype_stop ?_)
  exact wpAny_pure (hQ _ fun c o hc e => Heap.get?_push_of_some _ (Heap.get?_push_of_some _ e))
end
end CpComb
set_option Elab.async false
set_option linter.all false
set_option maxRecDepth 100000
set_option maxHeartbeats 2000000
/-! DIX: the walk of combinations(xs, 2) -/
namespace DI
open PySem PySem.Spec PyProof.Rows L2
open CpComb (IsCmb nxt)
/-- the pairs of places, in their order -/
def prsF : Nat → Nat → List (Nat × Nat)
  | 0, _ => []
  | m + 1, a => (List.range m).map (fun t => (a, a + 1 + t)) ++ prsF m (a + 1)
theorem prs_zero (m a : Nat) : (prsF (m + 2) a)[0]? = some (a, a + 1) := by
  unfold prsF
  rw [List.getElem?_append_left (by simp)]
  simp
theorem prs_small {n : Nat} (h : n < 2) (a : Nat) : prsF n a = [] := by
  match n, h with
  | 0, _ => rfl
  | 1, _ => rfl
theorem prs_step : ∀ (m a k i j : Nat), (prsF m a)[k]? = some (i, j) → (a ≤ i ∧ i < j ∧ j < a + m) ∧ (prsF m a)[k + 1]? = nxt (a + m) i j
  | 0, a, k, i, j, h => by simp [prsF] at h
  | m + 1, a, k, i, j, h => by
    unfold prsF at h ⊢
    by_cases hk : k < m
    · rw [List.getElem?_append_left (by simpa using hk)] at h
      rw [List.getElem?_map, List.getElem?_range hk] at h
      simp only [Option.map_some, Option.some.injEq, Prod.mk.injEq] at h
      obtain ⟨h1, h2⟩ := h
      subst h1 h2
      refine ⟨by omega, ?_⟩
      unfold nxt
      by_cases h3 : k + 1 < m
      · rw [List.getElem?_append_left (by simpa using h3), List.getElem?_map, List.getElem?_range h3, if_pos (by omega)]
        simp
        omega
      · have e : k + 1 = m := by omega
        rw [List.getElem?_append_right (by simp; omega), List.length_map, List.length_range, if_neg (by omega), e, Nat.sub_self]
        by_cases h4 : m = 1
        · subst h4
          rw [prs_small (by decide), if_neg (by omega)]
          rfl
        · obtain ⟨r, rfl⟩ : ∃ r, m = r + 2 := ⟨m - 2, by omega⟩
          rw [prs_zero, if_pos (by omega)]
    · rw [List.getElem?_append_right (by simpa using Nat.le_of_not_lt hk), List.length_map, List.length_range] at h
      obtain ⟨⟨b1, b2, b3⟩, e⟩ := prs_step m (a + 1) (k - m) i j h
      refine ⟨by omega, ?_⟩
      rw [List.getElem?_append_right (by simp; omega), List.length_map, List.length_range, show k + 1 - m = k - m + 1 by omega, e]
      rw [show a + 1 + m = a + (m + 1) by omega]
/-- pairs of what vs held, each in a new tuple -/
def Itc (vs : List V) : It :=
  ⟨fun k _ => k < (prsF vs.length 0).length,
    fun k H v H' => ∃ T x y i j, v = .ref T ∧ H T = none ∧ H' = upd H T (.tup [x, y]) ∧ (prsF vs.length 0)[k]? = some (i, j) ∧ vs[i]? = some x ∧ vs[j]? = some y,
    fun k _ => (prsF vs.length 0).length ≤ k⟩
/-- how far it is -/
def CSt (it P : Addr) (items : Array Value) (k : Nat) (h : Heap) : Prop :=
  h.get? P = some { cls := .type "tuple", data := .seq items } ∧
    ((items.size < 2 ∧ k = 0 ∧ IsCmb h it P 2 .none 0 1) ∨ (2 ≤ items.size ∧ k = 0 ∧ IsCmb h it P 0 .none 0 1) ∨
      ∃ (i j : Nat) (last : Value), 0 < k ∧ (prsF items.size 0)[k - 1]? = some (i, j) ∧ IsCmb h it P 1 last i j)
theorem turn_cmb {Pr : Program} {w : World} {K : PySem.W.Frag} {tg : Expr} {it P : Addr} {vs : List V} {its : List Value} (ne : P ≠ it) (rv : Vals vs its) : Turn Pr w K tg (Itc vs) [it, P] it (CSt it P its.toArray) where
  mem := by simp
  obj := fun k h st d hd => by
    have e' : d = it ∨ d = P := by simpa using hd
    obtain ⟨hP, hs⟩ := st
    rcases e' with rfl | rfl
    · rcases hs with ⟨_, _, q⟩ | ⟨_, _, q⟩ | ⟨_, _, _, _, _, q⟩ <;> exact ⟨_, q, fun v z => nomatch z⟩
    · exact ⟨_, hP, fun v z => nomatch z⟩
  keep := fun k h h' st kk => by
    obtain ⟨hP, hs⟩ := st
    refine ⟨kk P (by simp) _ hP, ?_⟩
    rcases hs with ⟨a, b, q⟩ | ⟨a, b, q⟩ | ⟨i, j, last, a, b, q⟩
    · exact .inl ⟨a, b, kk it (by simp) _ q⟩
    · exact .inr (.inl ⟨a, b, kk it (by simp) _ q⟩)
    · exact .inr (.inr ⟨i, j, last, a, b, kk it (by simp) _ q⟩)
  item := by
    intro X hP hw hK hc k pins s σ H E I hf st hg
    subst hP hw hK
    obtain ⟨hP, hs⟩ := st
    have len : its.toArray.size = vs.length := by rw [List.size_toArray, rv.length]
    have itl : it < s.heap.objs.size := by rcases hs with ⟨_, _, q⟩ | ⟨_, _, q⟩ | ⟨_, _, _, _, _, q⟩ <;> exact Heap.lt_size q
    have Pl : P < s.heap.objs.size := Heap.lt_size hP
    -- what is told
    have tell : ∀ (i j : Nat) (x y : V) (u1 u2 : Value) (h' : Heap), (prsF vs.length 0)[k]? = some (i, j) → vs[i]? = some x → vs[j]? = some y → RelV x u1 → RelV y u2 → IsCmb h' it P 1 (.ref s.heap.objs.size) i j → h'.get? P = some { cls := .type "tuple", data := .seq its.toArray } →
        h'.get? s.heap.objs.size = some { cls := .type "tuple", data := .seq #[u1, u2] } → (∀ c o, c ≠ it → s.heap.get? c = some o → h'.get? c = some o) →
        ∃ u, some (Value.ref s.heap.objs.size) = some u ∧ wpAny (model X.prog X.w) X.A (letOwnedTupleGo tg (.ref it) u) (fun _ s2 => ∃ x H', Inv X pins σ H' s2 ∧ RelV x u ∧ (Itc vs).yld k H x H' ∧ CSt it P its.toArray (k + 1) s2.heap ∧ ∀ b ∈ [it, P], H' b = none) E { s with heap := h' } := fun i j x y u1 u2 h' hk hx hy r1 r2 a1 a2 a3 a4 => by
      refine ⟨_, rfl, L2.go_of a1 rfl rfl (by decide) ?_⟩
      have new : ObjOk X.prog X.w (upd H s.heap.objs.size (.tup [x, y])) h' s.heap.objs.size (.tup [x, y]) :=
        ⟨by show 2 ≤ sizeLine; decide, [u1, u2], .cons r1 (.cons r2 .nil), ⟨_, a3, rfl, _, rfl⟩⟩
      have I1 : Inv X pins σ (upd H s.heap.objs.size (.tup [x, y])) { s with heap := h' } :=
        I.turnedNew (t' := s.toks) (ch := [it]) (fun c o hb q => a4 c o (by simpa using hb) q) (fun b hb => hf b (by simp only [List.mem_singleton] at hb; simp [hb])) (Nat.le_refl _) new
      refine ⟨.ref s.heap.objs.size, _, I1, rfl, ⟨_, x, y, i, j, rfl, I.hok.fresh (Nat.le_refl _), rfl, hk, hx, hy⟩, ⟨a2, .inr (.inr ⟨i, j, _, Nat.succ_pos _, by rw [len]; exact hk, a1⟩)⟩, fun b hb => ?_⟩
      have lt : b < s.heap.objs.size := by
        have e' : b = it ∨ b = P := by simpa using hb
        rcases e' with rfl | rfl
        · exact itl
        · exact Pl
      rw [upd_ne (Nat.ne_of_lt lt)]
      exact (hf b hb).1
    have val : ∀ i : Nat, i < vs.length → ∃ x u, vs[i]? = some x ∧ its.toArray[i]? = some u ∧ RelV x u := fun i hi => by
      have hx : vs[i]? = some vs[i] := List.getElem?_eq_getElem hi
      obtain ⟨u, hu, ru⟩ := rv.get hx
      exact ⟨_, u, hx, by simpa using hu, ru⟩
    have hg' : k < (prsF vs.length 0).length := hg
    rcases hs with ⟨a, b, q⟩ | ⟨a, b, q⟩ | ⟨i, j, last, a, b, q⟩
    · rw [prs_small (by omega)] at hg'
      simp at hg'
    · subst b
      obtain ⟨r, hr⟩ : ∃ r, vs.length = r + 2 := ⟨vs.length - 2, by omega⟩
      have hk := prs_zero r 0
      rw [← hr] at hk
      obtain ⟨x, u1, x1, x2, x3⟩ := val 0 (by omega)
      obtain ⟨y, u2, y1, y2, y3⟩ := val 1 (by omega)
      exact CpComb.first_cmb (i := 0) (j := 1) q hP ne x2 y2 fun h' a1 a2 a3 a4 => tell 0 1 x y u1 u2 h' hk x1 y1 x3 y3 a1 a2 a3 a4
    · obtain ⟨⟨b1, b2, b3⟩, e⟩ := prs_step _ _ _ _ _ b
      rw [show k - 1 + 1 = k by omega, Nat.zero_add] at e
      rw [len] at e b3
      have hk : (prsF vs.length 0)[k]? = some ((prsF vs.length 0)[k].1, (prsF vs.length 0)[k].2) := List.getElem?_eq_getElem hg'
      generalize (prsF vs.length 0)[k].1 = i' at hk
      generalize (prsF vs.length 0)[k].2 = j' at hk
      obtain ⟨⟨c1, c2, c3⟩, _⟩ := prs_step _ _ _ _ _ hk
      rw [hk] at e
      obtain ⟨x, u1, x1, x2, x3⟩ := val i' (by omega)
      obtain ⟨y, u2, y1, y2, y3⟩ := val j' (by omega)
      exact CpComb.next_cmb (i := i) (j := j) (i' := i') (j' := j') q hP ne b2 (by rw [len]; omega) (by rw [len]; exact e.symm) x2 y2 fun h' a1 a2 a3 a4 => tell i' j' x y u1 u2 h' hk x1 y1 x3 y3 a1 a2 a3 a4
  done := by
    intro X hP hw hK hc k pins s σ H E I hf st hg
    subst hP hw hK
    obtain ⟨hP, hs⟩ := st
    have len : its.toArray.size = vs.length := by rw [List.size_toArray, rv.length]
    have hg' : (prsF vs.length 0).length ≤ k := hg
    have fin : ∀ h' : Heap, (∀ c o, c ≠ it → s.heap.get? c = some o → h'.get? c = some o) → (none : Option Value) = none ∧ Inv X pins σ H { s with heap := h' } := fun h' hk =>
      ⟨rfl, I.turnedL (t' := s.toks) (ch := [it]) (fun c o hb q => hk c o (by simpa using hb) q) (fun b hb => hf b (by simp only [List.mem_singleton] at hb; simp [hb]))⟩
    rcases hs with ⟨a, b, q⟩ | ⟨a, b, q⟩ | ⟨i, j, last, a, b, q⟩
    · exact CpComb.none_cmb (I.ok.hd hc) q fin
    · subst b
      obtain ⟨r, hr⟩ : ∃ r, vs.length = r + 2 := ⟨vs.length - 2, by omega⟩
      have hk := prs_zero r 0
      rw [← hr] at hk
      have := (List.getElem?_eq_some_iff.mp hk).1
      omega
    · obtain ⟨⟨b1, b2, b3⟩, e⟩ := prs_step _ _ _ _ _ b
      rw [show k - 1 + 1 = k by omega, Nat.zero_add] at e
      rw [len] at e b3
      rw [List.getElem?_eq_none hg'] at e
      exact CpComb.end_cmb (i := i) (j := j) (I.ok.hd hc) q hP b2 (by rw [len]; omega) (by rw [len]; exact e.symm) fin
  self := fun A k s Q E st h => by
    rcases st.2 with ⟨_, _, q⟩ | ⟨_, _, q⟩ | ⟨_, _, _, _, _, q⟩ <;> exact CpComb.iter_cmb q h
def iCmb (K : PySem.W.Frag) (ta : TA) : TI := fun σ H R => ta σ H fun vs H1 => ∃ a xs, vs = [.ref a, .int 2] ∧ SqL K H1 a xs ∧ R (Itc xs) H1
theorem pi_cmb {X : Cx} {x : Str} {e e2 tg : Expr} {ta : TA} {p pos : Pos} (hg : Gl X x) (hm : X.mg x = some (.type "itertools.combinations")) (ha : PA X [e, e2] ta) (hdb : (x == ("__debug__" : Str)) = false)
    (hs : starEach [e, e2] X.env = (false, eval e X.env) :: starEach [e2] X.env := by rfl) (hpl : (backTo pos (starEach [e2] X.env)).any (·.1) = false := by rfl) :
    PI X tg (.Call (.Name x p) [e, e2] [] pos) (iCmb X.K ta) := by
  refine ⟨fun pins s σ H R I h => ?_⟩
  refine Call_ (ld_glob I hg hm (PyProof.Rows.callWith_type1 (thn (ha.run pos pins s σ H _ I h) fun us s1 ⟨vs, H1, I1, r1, q1⟩ => ?_) hs hpl) hdb)
  obtain ⟨a, xs, ex, hq, q⟩ := q1
  subst ex
  cases r1 with
  | cons r rr =>
    cases rr with
    | cons r' rr =>
      cases rr
      cases r
      obtain ⟨t, rfl⟩ := r'
      obtain ⟨its, rv, pl, hz⟩ := I1.list hq
      obtain ⟨o, n, ho, hc, hdict, hd⟩ := pl
      have lz : its.toArray.size ≤ sizeLine := by rw [List.size_toArray, ← rv.length]; exact hz
      refine CpComb.call_cmb (.inl rfl) ho hc hd lz fun h' hk => ?_
      have I2 : Inv X pins σ H1 { s1 with heap := h' } := I1.kept (t' := s1.toks) hk
      have gP : ((h'.push { cls := .type "tuple", data := .seq its.toArray }).push { cls := .type "itertools.combinations", data := .fields #[.ref h'.objs.size, .int (if 2 > its.toArray.size then 2 else 0) 0, .none, .int 0 0, .int 1 0] }).get? h'.objs.size = some { cls := .type "tuple", data := .seq its.toArray } := Heap.get?_push_of_some _ (Heap.get?_push_size _ rfl)
      have gC : IsCmb ((h'.push { cls := .type "tuple", data := .seq its.toArray }).push { cls := .type "itertools.combinations", data := .fields #[.ref h'.objs.size, .int (if 2 > its.toArray.size then 2 else 0) 0, .none, .int 0 0, .int 1 0] }) (h'.objs.size + 1) h'.objs.size (if 2 > its.toArray.size then 2 else 0) .none 0 1 := by
        have e : (h'.push { cls := .type "tuple", data := .seq its.toArray }).objs.size = h'.objs.size + 1 := Heap.size_push ..
        unfold CpComb.IsCmb
        rw [← e]
        exact Heap.get?_push_size _ rfl
      refine CpComb.iter_cmb gC ?_
      have I3 : Inv X pins σ H1 { s1 with heap := (h'.push { cls := .type "tuple", data := .seq its.toArray }).push { cls := .type "itertools.combinations", data := .fields #[.ref h'.objs.size, .int (if 2 > its.toArray.size then 2 else 0) 0, .none, .int 0 0, .int 1 0] } } := I2.kept (t' := s1.toks) fun b u e => Heap.get?_push_of_some _ (Heap.get?_push_of_some _ e)
      have neP : h'.objs.size ≠ h'.objs.size + 1 := Nat.ne_of_lt (Nat.lt_succ_self _)
      refine ⟨h'.objs.size + 1, [h'.objs.size + 1, h'.objs.size], _, _, H1, rfl, I3, turn_cmb neP rv, ⟨gP, ?_⟩, fun b hb => ?_, q⟩
      · by_cases lt : its.toArray.size < 2
        · exact .inl ⟨lt, rfl, gC.trans (by rw [if_pos (show 2 > its.toArray.size from lt)])⟩
        · exact .inr (.inl ⟨Nat.le_of_not_lt lt, rfl, gC.trans (by rw [if_neg (show ¬ 2 > its.toArray.size from lt)])⟩)
      · have e' : b = h'.objs.size + 1 ∨ b = h'.objs.size := by simpa using hb
        have hle : h'.objs.size ≤ b := by
          rcases e' with z | z
          · rw [z]; exact Nat.le_succ _
          · rw [z]; exact Nat.le_refl _
        exact I2.fpOk hle (I2.hok.fresh hle)
end DI
set_option Elab.async false
set_option linter.all false
set_option maxRecDepth 100000
/-! DI9: targets, what is walked, comprehensions -/
namespace DI
open PySem PySem.Spec PyProof.Rows L2
mutual
theorem beq_eq : ∀ (a b : D), a.beq b = true → a = b
  | .non, b, h => by cases b <;> simp_all [D.beq]
  | .bl x, b, h => by cases b <;> simp_all [D.beq]
  | .int x, b, h => by cases b <;> simp_all [D.beq]
  | .str x, b, h => by cases b <;> simp_all [D.beq]
  | .tup xs, b, h => by
    cases b with
    | tup ys =>
      simp only [D.beq] at h
      rw [beqs_eq xs ys h]
    | _ => simp [D.beq] at h
  | .lst xs, b, h => by
    cases b with
    | lst ys =>
      simp only [D.beq] at h
      rw [beqs_eq xs ys h]
    | _ => simp [D.beq] at h
  | .dic x, b, h => by cases b <;> simp [D.beq] at h
  | .ref x, b, h => by cases b <;> simp_all [D.beq]
theorem beqs_eq : ∀ (a b : List D), D.beqs a b = true → a = b
  | [], b, h => by cases b <;> simp_all [D.beqs]
  | x :: xs, b, h => by
    cases b with
    | nil => simp [D.beqs] at h
    | cons y ys =>
      simp only [D.beqs, Bool.and_eq_true] at h
      rw [beq_eq x y h.1, beqs_eq xs ys h.2]
end
/-! ### slots -/
theorem wipe_get (σ : L2.St) (j : Nat) : ∀ vs : List Nat, (wipe σ vs)[j]? = if j ∈ vs ∧ j < σ.length then some none else σ[j]?
  | [] => by rw [if_neg (fun h => absurd h.1 (by simp))]; rfl
  | v :: vs => by
    have ih := wipe_get σ j vs
    unfold wipe
    by_cases hv : v = j
    · subst hv
      by_cases hl : v < σ.length
      · rw [List.getElem?_set_self (by rw [wipe_length]; exact hl), if_pos ⟨List.mem_cons_self, hl⟩]
      · rw [List.getElem?_eq_none (by rw [List.length_set, wipe_length]; omega), if_neg (fun h => hl h.2), List.getElem?_eq_none (by omega)]
    · rw [List.getElem?_set_ne hv, ih]
      by_cases h : j ∈ vs ∧ j < σ.length
      · rw [if_pos h, if_pos ⟨List.mem_cons_of_mem _ h.1, h.2⟩]
      · rw [if_neg h, if_neg fun q => h ⟨(List.mem_cons.mp q.1).resolve_left (fun e => hv e.symm), q.2⟩]
theorem wipeE_get (σ : Ev) (j : Nat) : ∀ vs : List Nat, (wipeE σ vs)[j]? = if j ∈ vs ∧ j < σ.length then some .un else σ[j]?
  | [] => by rw [if_neg (fun h => absurd h.1 (by simp))]; rfl
  | v :: vs => by
    have ih := wipeE_get σ j vs
    have hlen : ∀ us : List Nat, (wipeE σ us).length = σ.length := fun us => by
      induction us with
      | nil => rfl
      | cons u us ih => unfold wipeE; rw [List.length_set, ih]
    unfold wipeE
    by_cases hv : v = j
    · subst hv
      by_cases hl : v < σ.length
      · rw [List.getElem?_set_self (by rw [hlen]; exact hl), if_pos ⟨List.mem_cons_self, hl⟩]
      · rw [List.getElem?_eq_none (by rw [List.length_set, hlen]; omega), if_neg (fun h => hl h.2), List.getElem?_eq_none (by omega)]
    · rw [List.getElem?_set_ne hv, ih]
      by_cases h : j ∈ vs ∧ j < σ.length
      · rw [if_pos h, if_pos ⟨List.mem_cons_of_mem _ h.1, h.2⟩]
      · rw [if_neg h, if_neg fun q => h ⟨(List.mem_cons.mp q.1).resolve_left (fun e => hv e.symm), q.2⟩]
theorem wipeE_length (σ : Ev) (us : List Nat) : (wipeE σ us).length = σ.length := by
  induction us with
  | nil => rfl
  | cons u us ih => unfold wipeE; rw [List.length_set, ih]
theorem wipe_eq {σ τ : L2.St} {vs : List Nat} (hl : τ.length = σ.length) (h : ∀ j, j ∉ vs → τ[j]? = (wipe σ vs)[j]?) : wipe τ vs = wipe σ vs := by
  apply List.ext_getElem?
  intro j
  rw [wipe_get, wipe_get, hl]
  by_cases hj : j ∈ vs ∧ j < σ.length
  · rw [if_pos hj, if_pos hj]
  · rw [if_neg hj, if_neg hj]
    by_cases hm : j ∈ vs
    · have : ¬ j < σ.length := fun q => hj ⟨hm, q⟩
      rw [List.getElem?_eq_none (by omega), List.getElem?_eq_none (by omega)]
    · rw [h j hm, wipe_get, if_neg hj]
section
variable {K : PySem.W.Frag} {H H1 H' : Hp} {ι ι1 ι' : Cells} {B B0 B' : List Addr} {μ μ1 μ' : Mem} {σ : L2.St} {env : Ev} {v : V} {d : D}
theorem REnv.wipe (R : REnv K H ι B B0 σ env) (vs : List Nat) : REnv K H ι B B0 (wipe σ vs) (wipeE env vs) where
  len := by rw [wipeE_length, wipe_length]; exact R.len
  val := fun i d h => by
    rw [wipeE_get] at h
    split at h
    · cases h
    · rename_i c
      obtain ⟨v, e, r⟩ := R.val i d h
      refine ⟨v, ?_, r⟩
      rw [wipe_get, if_neg (by rw [← R.len]; exact c)]
      exact e
  own := fun i d h => by
    rw [wipeE_get] at h
    split at h
    · cases h
    · rename_i c
      obtain ⟨a, ws, e, r⟩ := R.own i d h
      refine ⟨a, ws, ?_, r⟩
      rw [wipe_get, if_neg (by rw [← R.len]; exact c)]
      exact e
  sep := fun i j ds es a h1 h2 h3 h4 => by
    rw [wipeE_get] at h1 h2
    rw [wipe_get] at h3 h4
    split at h1
    · cases h1
    · split at h2
      · cases h2
      · rename_i c1 c2
        rw [if_neg (by rw [← R.len]; exact c1)] at h3
        rw [if_neg (by rw [← R.len]; exact c2)] at h4
        exact R.sep i j ds es a h1 h2 h3 h4
theorem REnv.set (R : REnv K H ι B B0 σ env) (i : Nat) (r : Rep K (cut H ι B) ι v d) : REnv K H ι B B0 (σ.set i (some v)) (env.set i (.val d)) where
  len := by rw [List.length_set, List.length_set]; exact R.len
  val := fun j d' h => by
    by_cases hj : i = j
    · subst hj
      have hl : i < env.length := by
        have := (List.getElem?_eq_some_iff.mp h).1
        rw [List.length_set] at this
        exact this
      rw [List.getElem?_set_self hl] at h
      cases h
      exact ⟨v, List.getElem?_set_self (by rw [← R.len]; exact hl), r⟩
    · rw [List.getElem?_set_ne hj] at h ⊢
      exact R.val j d' h
  own := fun j d' h => by
    by_cases hj : i = j
    · subst hj
      have hl : i < env.length := by
        have := (List.getElem?_eq_some_iff.mp h).1
        rw [List.length_set] at this
        exact this
      rw [List.getElem?_set_self hl] at h
      cases h
    · rw [List.getElem?_set_ne hj] at h ⊢
      exact R.own j d' h
  sep := fun j k ds es a h1 h2 h3 h4 => by
    have ne : ∀ (j : Nat) (ds : List D), (env.set i (.val d))[j]? = some (.own ds) → i ≠ j := fun j ds h hj => by
      subst hj
      have hl : i < env.length := by
        have := (List.getElem?_eq_some_iff.mp h).1
        rw [List.length_set] at this
        exact this
      rw [List.getElem?_set_self hl] at h
      cases h
    have n1 := ne j ds h1
    have n2 := ne k es h2
    rw [List.getElem?_set_ne n1] at h1 h3
    rw [List.getElem?_set_ne n2] at h2 h4
    exact R.sep j k ds es a h1 h2 h3 h4
end
/-! ### targets -/
def tG (K : PySem.W.Frag) (g : MG) : TG := fun x σ H Q => ∃ env ι B B0 μ d env', At K H ι B B0 μ σ env ∧ Rep K (cut H ι B) ι x d ∧ bindG g d env = some env' ∧
  ∀ σ', At K H ι B B0 μ σ' env' → (∀ j, j ∉ g.slots → σ'[j]? = σ[j]?) → σ'.length = σ.length → Q σ' H
def tGs (K : PySem.W.Frag) (gs : List MG) : TGs := fun xs σ H Q => ∃ env ι B B0 μ ds env', At K H ι B B0 μ σ env ∧ Reps K (cut H ι B) ι xs ds ∧ bindGs gs ds env = some env' ∧
  ∀ σ', At K H ι B B0 μ σ' env' → (∀ j, j ∉ MG.slotss gs → σ'[j]? = σ[j]?) → σ'.length = σ.length → Q σ' H
section
variable {X : Cx} {pos : Pos}
theorem PGcon {e : Expr} {t t' : TG} (h : PG X e t) (i : ∀ v σ H Q, t' v σ H Q → t v σ H Q) : PG X e t' := ⟨fun pins s σ H v u Q I r w => h.run pins s σ H v u Q I r (i v σ H Q w)⟩
theorem PGscon {e : List Expr} {t t' : TGs} (h : PGs X e t) (i : ∀ v σ H Q, t' v σ H Q → t v σ H Q) : PGs X e t' := ⟨fun pins s σ H v u Q I r w => h.run pins s σ H v u Q I r (i v σ H Q w)⟩
theorem PGor {e : Expr} {t t' : TG} (h : PG X e t) (h' : PG X e t') : PG X e (fun v σ H Q => t v σ H Q ∨ t' v σ H Q) := ⟨fun pins s σ H v u Q I r w => w.elim (h.run pins s σ H v u Q I r) (h'.run pins s σ H v u Q I r)⟩
theorem g_name {i : Nat} {x : Str} (hN : X.N.Nodup) (hi : X.N[i]? = some x) (hx : Loc X.env.scope x) (hf : X.fn x = true ∨ X.env.scope.names.lookup x = some .local) : PG X (.Name x pos) (tG X.K (.nm i)) :=
  PGcon (pg_name (i := i) hN hi hx hf) fun v σ H Q ⟨env, ι, B, B0, μ, d, env', a, r, e, k⟩ => by
    cases e
    refine k _ ⟨a.s, a.r.set i r⟩ (fun j hj => ?_) (List.length_set ..)
    exact List.getElem?_set_ne fun e => hj (by rw [e]; simp [MG.slots])
theorem g_nil : PGs X [] (tGs X.K []) := PGscon pgs_nil fun v σ H Q ⟨env, ι, B, B0, μ, ds, env', a, r, e, k⟩ => by
  cases r with
  | nil => cases e; exact ⟨rfl, k σ a (fun _ _ => rfl) rfl⟩
  | cons _ _ => simp [bindGs] at e
theorem g_cons {t : Expr} {ts : List Expr} {g : MG} {gs : List MG} (h1 : PG X t (tG X.K g)) (h2 : PGs X ts (tGs X.K gs)) (hs : (assignEach (t :: ts) X.env).map (·.2) = assign t X.env :: (assignEach ts X.env).map (·.2)) : PGs X (t :: ts) (tGs X.K (g :: gs)) :=
  PGscon (pgs_cons h1 h2 hs) fun v σ H Q ⟨env, ι, B, B0, μ, ds, env', a, r, e, k⟩ => by
    cases r with
    | nil => simp [bindGs] at e
    | cons r rr =>
      simp only [bindGs] at e
      obtain ⟨e1, h1, h2⟩ := Option.bind_eq_some_iff.mp e
      refine ⟨_, _, rfl, env, ι, B, B0, μ, _, e1, a, r, h1, fun σ1 a1 s1 l1 => ⟨e1, ι, B, B0, μ, _, env', a1, rr, h2, fun σ2 a2 s2 l2 => k σ2 a2 (fun j hj => ?_) (l2.trans l1)⟩⟩
      have hj' : j ∉ g.slots ∧ j ∉ MG.slotss gs := by
        simp only [MG.slotss, List.mem_append, not_or] at hj
        exact hj
      rw [s2 j hj'.2, s1 j hj'.1]
theorem g_tup {ts : List Expr} {gs : List MG} {k0 n : Nat} (hc : X.calm = true) (h : PGs X ts (tGs X.K gs)) (hn : (assignEach ts X.env).length = n) (hst : (assignEach ts X.env).findIdx? (·.1) = none) (hg : gs.length = n) :
    PG X (.Tuple ts k0 pos) (tG X.K (.tp gs)) :=
  PGcon (PGor (pg_tup hc h hn hst) (pg_unl hc h hn hst)) fun v σ H Q ⟨env, ι, B, B0, μ, d, env', a, r, e, k⟩ => by
    have ln : ∀ (gs : List MG) (ds : List D) (env env' : Ev), bindGs gs ds env = some env' → gs.length = ds.length := by
      intro gs
      induction gs with
      | nil =>
        intro ds env env' h
        cases ds with
        | nil => rfl
        | cons _ _ => simp [bindGs] at h
      | cons g gs ih =>
        intro ds env env' h
        cases ds with
        | nil => simp [bindGs] at h
        | cons d ds =>
          simp only [bindGs] at h
          obtain ⟨e1, _, h2⟩ := Option.bind_eq_some_iff.mp h
          rw [List.length_cons, List.length_cons, ih ds e1 env' h2]
    cases d with
    | tup ds =>
      simp only [bindG] at e
      obtain ⟨p, vs, rfl, s, q⟩ := RepA.tup (.rep r)
      refine .inl ⟨p, vs, rfl, s, ?_, env, ι, B, B0, μ, ds, env', a, q, e, fun σ' a' s' l' => k σ' a' (fun j hj => s' j ?_) l'⟩
      · rw [q.length, ← ln gs ds env env' e, hg]
      · intro q'
        exact hj (by simp only [MG.slots]; exact q')
    | lst ds =>
      simp only [bindG] at e
      cases r with
      | lst s q =>
      refine .inr ⟨_, _, rfl, cut_same.seq s, ?_, env, ι, B, B0, μ, ds, env', a, q, e, fun σ' a' s' l' => k σ' a' (fun j hj => s' j ?_) l'⟩
      · rw [q.length, ← ln gs ds env env' e, hg]
      · intro q'
        exact hj (by simp only [MG.slots]; exact q')
    | _ => simp [bindG] at e
end
/-! ### what is walked -/
structure IW (K : PySem.W.Frag) (J : It) (ds : List D) (good : Hp → Cells → List Addr → Prop) : Prop where
  goes : ∀ i H ι B, i < ds.length → good H ι B → J.go i H
  stops : ∀ H ι B, good H ι B → J.stop ds.length H
  yields : ∀ i H ι B μ x H', i < ds.length → Sim K H ι B μ → good H ι B → J.yld i H x H' → ∃ d, ds[i]? = some d ∧ Nx K H ι B H' ι μ ∧ Rep K (cut H' ι B) ι x d
def Later (K : PySem.W.Frag) (H1 : Hp) (ι1 : Cells) (B : List Addr) (lk : List Lk) (P : Hp → Cells → List Addr → Prop) : Prop :=
  P H1 ι1 B ∧ ∀ H' ι' B' env' μ', Ext H1 ι1 B H' ι' B' → (Keep B H1 H' ∨ lk.all Lk.isCell = true) → Sim K H' ι' B' μ' → lk.all (Lk.ok env' μ') = true → P H' ι' B'
def tI (K : PySem.W.Frag) (ev : Ev → Mem → Option ((List D × List Lk) × Mem)) : TI := fun σ H R => ∃ env μ ι B B0 ds lk μ', At K H ι B B0 μ σ env ∧ ev env μ = some ((ds, lk), μ') ∧
  ∀ J H1 ι1 good, Nx K H ι B H1 ι1 μ' → IW K J ds good → Later K H1 ι1 B lk good → R J H1
def goodL (K : PySem.W.Frag) (a : Addr) (ds : List D) (H : Hp) (ι : Cells) (B : List Addr) : Prop := ∃ vs, SqL K H a vs ∧ Reps K (cut H ι B) ι vs ds
def goodT (K : PySem.W.Frag) (a : Addr) (ds : List D) (H : Hp) (ι : Cells) (B : List Addr) : Prop := ∃ vs, SqT K H a vs ∧ Reps K (cut H ι B) ι vs ds
section
variable {K : PySem.W.Frag} {H H1 H' : Hp} {ι ι1 ι' : Cells} {B B0 B' : List Addr} {μ μ1 μ' : Mem} {σ : L2.St} {env : Ev} {v : V} {d : D} {ds : List D} {a : Addr} {lk lk' : List Lk} {P : Hp → Cells → List Addr → Prop}
theorem iw_list : IW K (Itl K a) ds (goodL K a ds) where
  goes := fun i H ι B hi ⟨vs, s, r⟩ => by
    have hi' : i < vs.length := by rw [r.length]; exact hi
    exact ⟨vs, vs[i], s, List.getElem?_eq_getElem hi'⟩
  stops := fun H ι B ⟨vs, s, r⟩ => ⟨vs, s, by rw [r.length]; exact Nat.le_refl _⟩
  yields := fun i H ι B μ x H' hi S ⟨vs, s, r⟩ y => by
    obtain ⟨e, y⟩ := y
    subst e
    obtain ⟨d, e1, r1⟩ := r.getV (y vs s)
    exact ⟨d, e1, Nx.refl S, r1⟩
theorem iw_tup : IW K (Itt K a) ds (goodT K a ds) where
  goes := fun i H ι B hi ⟨vs, s, r⟩ => by
    have hi' : i < vs.length := by rw [r.length]; exact hi
    exact ⟨vs, vs[i], s, List.getElem?_eq_getElem hi'⟩
  stops := fun H ι B ⟨vs, s, r⟩ => ⟨vs, s, by rw [r.length]; exact Nat.le_refl _⟩
  yields := fun i H ι B μ x H' hi S ⟨vs, s, r⟩ y => by
    obtain ⟨e, y⟩ := y
    subst e
    obtain ⟨d, e1, r1⟩ := r.getV (y vs s)
    exact ⟨d, e1, Nx.refl S, r1⟩
theorem iw_range {lo hi : Int} : IW K (Itr lo (hi - lo).toNat) (rangeD lo hi) (fun _ _ _ => True) := by
  have hl : (rangeD lo hi).length = (hi - lo).toNat := by unfold rangeD; rw [List.length_map, List.length_range]
  refine ⟨fun i H ι B h _ => by rw [hl] at h; exact h, fun _ _ _ _ => by rw [hl]; exact Nat.le_refl _, fun i H ι B μ x H' h S _ y => ?_⟩
  obtain ⟨e, y⟩ := y
  subst e y
  rw [hl] at h
  refine ⟨.int (lo + i), ?_, Nx.refl S, .int _⟩
  unfold rangeD
  rw [List.getElem?_map, List.getElem?_range h]
  rfl
/-- a pair just laid -/
theorem pair_laid {T : Addr} {x y : V} {dx dy : D} (S : Sim K H ι B μ) (hT : H T = none) (rx : Rep K (cut H ι B) ι x dx) (ry : Rep K (cut H ι B) ι y dy) :
    Nx K H ι B (upd H T (.tup [x, y])) ι μ ∧ Rep K (cut (upd H T (.tup [x, y])) ι B) ι (.ref T) (.tup [dx, dy]) := by
  have n : Nx K H ι B (upd H T (.tup [x, y])) ι μ := ⟨Ext.laid S hT, Keep.laid S hT, S.laid hT⟩
  exact ⟨n, .tup (.inl (.inl (cut_of (fresh_not_held S hT) upd_same))) (.cons (n.rep rx) (.cons (n.rep ry) .nil))⟩
theorem zip_get : ∀ (xs ys : List D) (i : Nat) (x y : D), xs[i]? = some x → ys[i]? = some y → (zipD xs ys)[i]? = some (.tup [x, y])
  | x :: xs, y :: ys, 0, a, b, h1, h2 => by
    simp only [List.getElem?_cons_zero, Option.some.injEq] at h1 h2
    subst h1 h2
    rfl
  | x :: xs, y :: ys, i + 1, a, b, h1, h2 => by
    rw [List.getElem?_cons_succ] at h1 h2
    simp only [zipD, List.getElem?_cons_succ]
    exact zip_get xs ys i a b h1 h2
  | [], _, _, _, _, h, _ => by simp at h
  | _ :: _, [], _, _, _, _, h => by simp at h
theorem zip_len : ∀ (xs ys : List D), (zipD xs ys).length = min xs.length ys.length
  | x :: xs, y :: ys => by
    simp only [zipD, List.length_cons, zip_len xs ys]
    omega
  | [], ys => by simp [zipD]
  | _ :: _, [] => by simp [zipD]
theorem iw_zip {b : Addr} {es : List D} : IW K (Itz K a b) (zipD ds es) (fun H ι B => goodL K a ds H ι B ∧ goodL K b es H ι B) where
  goes := fun i H ι B hi ⟨⟨vs, s, r⟩, ⟨us, s2, r2⟩⟩ => by
    rw [zip_len] at hi
    have h1 : i < vs.length := by rw [r.length]; omega
    have h2 : i < us.length := by rw [r2.length]; omega
    exact ⟨vs, us, vs[i], us[i], s, s2, List.getElem?_eq_getElem h1, List.getElem?_eq_getElem h2⟩
  stops := fun H ι B ⟨⟨vs, s, r⟩, ⟨us, s2, r2⟩⟩ => ⟨vs, us, s, s2, by rw [zip_len, r.length, r2.length]; omega⟩
  yields := fun i H ι B μ x H' hi S ⟨⟨vs, s, r⟩, ⟨us, s2, r2⟩⟩ y => by
    obtain ⟨T, x1, y1, e, hT, e2, y1', y2'⟩ := y
    subst e e2
    obtain ⟨d1, h1, q1⟩ := r.getV (y1' vs s)
    obtain ⟨d2, h2, q2⟩ := r2.getV (y2' us s2)
    obtain ⟨n, q⟩ := pair_laid S hT q1 q2
    exact ⟨_, zip_get _ _ i _ _ h1 h2, n, q⟩
theorem iw_zipT {b : Addr} {es : List D} : IW K (RZ.ItzT K a b) (zipD ds es) (fun H ι B => goodT K a ds H ι B ∧ goodT K b es H ι B) where
  goes := fun i H ι B hi ⟨⟨vs, s, r⟩, ⟨us, s2, r2⟩⟩ => by
    rw [zip_len] at hi
    have h1 : i < vs.length := by rw [r.length]; omega
    have h2 : i < us.length := by rw [r2.length]; omega
    exact ⟨vs, us, vs[i], us[i], s, s2, List.getElem?_eq_getElem h1, List.getElem?_eq_getElem h2⟩
  stops := fun H ι B ⟨⟨vs, s, r⟩, ⟨us, s2, r2⟩⟩ => ⟨vs, us, s, s2, by rw [zip_len, r.length, r2.length]; omega⟩
  yields := fun i H ι B μ x H' hi S ⟨⟨vs, s, r⟩, ⟨us, s2, r2⟩⟩ y => by
    obtain ⟨T, x1, y1, e, hT, e2, y1', y2'⟩ := y
    subst e e2
    obtain ⟨d1, h1, q1⟩ := r.getV (y1' vs s)
    obtain ⟨d2, h2, q2⟩ := r2.getV (y2' us s2)
    obtain ⟨n, q⟩ := pair_laid S hT q1 q2
    exact ⟨_, zip_get _ _ i _ _ h1 h2, n, q⟩
/-- three just laid -/
theorem trip_laid {T : Addr} {x y z : V} {dx dy dz : D} (S : Sim K H ι B μ) (hT : H T = none) (rx : Rep K (cut H ι B) ι x dx) (ry : Rep K (cut H ι B) ι y dy) (rz : Rep K (cut H ι B) ι z dz) :
    Nx K H ι B (upd H T (.tup [x, y, z])) ι μ ∧ Rep K (cut (upd H T (.tup [x, y, z])) ι B) ι (.ref T) (.tup [dx, dy, dz]) := by
  have n : Nx K H ι B (upd H T (.tup [x, y, z])) ι μ := ⟨Ext.laid S hT, Keep.laid S hT, S.laid hT⟩
  exact ⟨n, .tup (.inl (.inl (cut_of (fresh_not_held S hT) upd_same))) (.cons (n.rep rx) (.cons (n.rep ry) (.cons (n.rep rz) .nil)))⟩
theorem zip3_get : ∀ (xs ys zs : List D) (i : Nat) (x y z : D), xs[i]? = some x → ys[i]? = some y → zs[i]? = some z → (zipD3 xs ys zs)[i]? = some (.tup [x, y, z])
  | x :: xs, y :: ys, z :: zs, 0, a, b, c, h1, h2, h3 => by
    simp only [List.getElem?_cons_zero, Option.some.injEq] at h1 h2 h3
    subst h1 h2 h3
    rfl
  | x :: xs, y :: ys, z :: zs, i + 1, a, b, c, h1, h2, h3 => by
    rw [List.getElem?_cons_succ] at h1 h2 h3
    simp only [zipD3, List.getElem?_cons_succ]
    exact zip3_get xs ys zs i a b c h1 h2 h3
  | [], _, _, _, _, _, _, h, _, _ => by simp at h
  | _ :: _, [], _, _, _, _, _, _, h, _ => by simp at h
  | _ :: _, _ :: _, [], _, _, _, _, _, _, h => by simp at h
theorem zip3_len : ∀ (xs ys zs : List D), (zipD3 xs ys zs).length = min (min xs.length ys.length) zs.length
  | x :: xs, y :: ys, z :: zs => by
    simp only [zipD3, List.length_cons, zip3_len xs ys zs]
    omega
  | [], ys, zs => by simp [zipD3]
  | _ :: _, [], zs => by simp [zipD3]
  | _ :: _, _ :: _, [] => by simp [zipD3]
theorem iw_zip3 {b c : Addr} {es fs : List D} : IW K (Itz3 K a b c) (zipD3 ds es fs) (fun H ι B => goodT K a ds H ι B ∧ goodT K b es H ι B ∧ goodT K c fs H ι B) where
  goes := fun i H ι B hi ⟨⟨vs, s, r⟩, ⟨us, s2, r2⟩, ⟨ws, s3, r3⟩⟩ => by
    rw [zip3_len] at hi
    have h1 : i < vs.length := by rw [r.length]; omega
    have h2 : i < us.length := by rw [r2.length]; omega
    have h3 : i < ws.length := by rw [r3.length]; omega
    exact ⟨vs, us, ws, vs[i], us[i], ws[i], s, s2, s3, List.getElem?_eq_getElem h1, List.getElem?_eq_getElem h2, List.getElem?_eq_getElem h3⟩
  stops := fun H ι B ⟨⟨vs, s, r⟩, ⟨us, s2, r2⟩, ⟨ws, s3, r3⟩⟩ => ⟨vs, us, ws, s, s2, s3, by rw [zip3_len, r.length]; omega, by rw [zip3_len, r2.length]; omega, by rw [zip3_len, r3.length]; omega, by rw [zip3_len, r.length, r2.length, r3.length]; omega⟩
  yields := fun i H ι B μ x H' hi S ⟨⟨vs, s, r⟩, ⟨us, s2, r2⟩, ⟨ws, s3, r3⟩⟩ y => by
    obtain ⟨T, x1, y1, z1, e, hT, e2, y1', y2', y3'⟩ := y
    subst e e2
    obtain ⟨d1, h1, q1⟩ := r.getV (y1' vs s)
    obtain ⟨d2, h2, q2⟩ := r2.getV (y2' us s2)
    obtain ⟨d3, h3, q3⟩ := r3.getV (y3' ws s3)
    obtain ⟨n, q⟩ := trip_laid S hT q1 q2 q3
    exact ⟨_, zip3_get _ _ _ i _ _ _ h1 h2 h3, n, q⟩
theorem comb_len : ∀ (xs : List D) (a : Nat), (combD xs).length = (prsF xs.length a).length
  | [], a => rfl
  | x :: xs, a => by
    have ih := comb_len xs (a + 1)
    simp only [combD, prsF, List.length_cons, List.length_append, List.length_map, List.length_range, ih]
theorem comb_get : ∀ (xs : List D) (a k i j : Nat) (x y : D), (prsF xs.length a)[k]? = some (i, j) → xs[i - a]? = some x → xs[j - a]? = some y → (combD xs)[k]? = some (.tup [x, y])
  | [], a, k, i, j, x, y, h, _, _ => by simp [prsF] at h
  | u :: xs, a, k, i, j, x, y, h, h1, h2 => by
    unfold combD
    rw [List.length_cons] at h
    unfold prsF at h
    by_cases hk : k < xs.length
    · rw [List.getElem?_append_left (by simpa using hk), List.getElem?_map, List.getElem?_range hk] at h
      simp only [Option.map_some, Option.some.injEq, Prod.mk.injEq] at h
      obtain ⟨e1, e2⟩ := h
      subst e1 e2
      rw [Nat.sub_self, List.getElem?_cons_zero] at h1
      rw [show a + 1 + k - a = k + 1 by omega, List.getElem?_cons_succ] at h2
      cases h1
      rw [List.getElem?_append_left (by simpa using hk), List.getElem?_map, h2]
      rfl
    · rw [List.getElem?_append_right (by simpa using Nat.le_of_not_lt hk), List.length_map, List.length_range] at h
      obtain ⟨⟨b1, b2, b3⟩, _⟩ := prs_step _ _ _ _ _ h
      rw [show i - a = i - (a + 1) + 1 by omega, List.getElem?_cons_succ] at h1
      rw [show j - a = j - (a + 1) + 1 by omega, List.getElem?_cons_succ] at h2
      rw [List.getElem?_append_right (by simpa using Nat.le_of_not_lt hk), List.length_map]
      exact comb_get xs (a + 1) (k - xs.length) i j x y h h1 h2
theorem iw_comb {vs : List V} : IW K (Itc vs) (combD ds) (fun H ι B => Reps K (cut H ι B) ι vs ds) where
  goes := fun i H ι B hi r => by
    rw [comb_len ds 0, ← r.length] at hi
    exact hi
  stops := fun H ι B r => by
    show (prsF vs.length 0).length ≤ (combD ds).length
    rw [comb_len ds 0, r.length]
    exact Nat.le_refl _
  yields := fun k H ι B μ x H' hi S r y => by
    obtain ⟨T, x1, y1, i, j, e, hT, e2, hk, h1, h2⟩ := y
    subst e e2
    obtain ⟨d1, f1, q1⟩ := r.getV h1
    obtain ⟨d2, f2, q2⟩ := r.getV h2
    obtain ⟨n, q⟩ := pair_laid S hT q1 q2
    rw [r.length] at hk
    exact ⟨_, comb_get ds 0 k i j d1 d2 hk f1 f2, n, q⟩
theorem enum_get : ∀ (xs : List D) (k i : Nat) (x : D), xs[i]? = some x → (enumD k xs)[i]? = some (.tup [.int ((k + i : Nat) : Int), x])
  | x :: xs, k, 0, a, h => by
    simp only [List.getElem?_cons_zero, Option.some.injEq] at h
    subst h
    rfl
  | x :: xs, k, i + 1, a, h => by
    rw [List.getElem?_cons_succ] at h
    simp only [enumD, List.getElem?_cons_succ]
    rw [enum_get xs (k + 1) i a h, Nat.add_right_comm, Nat.add_assoc]
  | [], _, _, _, h => by simp at h
theorem enum_len : ∀ (xs : List D) (k : Nat), (enumD k xs).length = xs.length
  | [], _ => rfl
  | x :: xs, k => by simp only [enumD, List.length_cons, enum_len xs]
theorem iw_enum : IW K (Ite K a) (enumD 0 ds) (goodL K a ds) where
  goes := fun i H ι B hi ⟨vs, s, r⟩ => by
    rw [enum_len] at hi
    have hi' : i < vs.length := by rw [r.length]; exact hi
    exact ⟨vs, vs[i], s, List.getElem?_eq_getElem hi'⟩
  stops := fun H ι B ⟨vs, s, r⟩ => ⟨vs, s, by rw [r.length, enum_len]; exact Nat.le_refl _⟩
  yields := fun i H ι B μ x H' hi S ⟨vs, s, r⟩ y => by
    obtain ⟨T, x1, e, hT, e2, y1'⟩ := y
    subst e e2
    obtain ⟨d1, h1, q1⟩ := r.getV (y1' vs s)
    obtain ⟨n, q⟩ := pair_laid S hT (.int (i : Nat)) q1
    have z := enum_get ds 0 i d1 h1
    rw [Nat.zero_add] at z
    exact ⟨_, z, n, q⟩
/-- a frozen list, or a cell -/
theorem later_rep (S : Sim K H1 ι1 B μ1) (r : Rep K (cut H1 ι1 B) ι1 v d) (e : seqV μ1 d = some ds) (m : ME) (hm : ∀ i, m ≠ .ovar i) : ∃ a, v = .ref a ∧ Later K H1 ι1 B (lockOf μ1 m d) (goodL K a ds) := by
  obtain ⟨a, vs, ev, s, q⟩ := RepA.seq S (.rep r) e
  refine ⟨a, ev, ⟨vs, s, q⟩, fun H' ι' B' env' μ' x _ S' ok => ?_⟩
  cases d with
  | lst es =>
    cases e
    cases r with
    | lst s' r' =>
      cases ev
      exact ⟨_, sqL_cut (x.fr.seq s'), r'.up x.up⟩
  | ref n =>
    have e' : (μ1[n]?).join = some ds := e
    cases h1 : μ1[n]? with
    | none => rw [h1] at e'; cases e'
    | some y =>
      rw [h1] at e'
      have e2 : y = some ds := e'
      rw [e2] at h1
      have lk : lockOf μ1 m (.ref n) = [.cell n ds] := by
        unfold lockOf
        cases m <;> simp [h1]
      rw [lk] at ok
      simp only [List.all_cons, List.all_nil, Bool.and_true, Lk.ok] at ok
      split at ok
      · rename_i es h2
        have z := beqs_eq _ _ ok
        subst z
        obtain ⟨a1, us1, f1, f2, f3⟩ := S.cell n es h1
        obtain ⟨a2, us2, g1, g2, g3⟩ := S'.cell n es h2
        obtain ⟨x', c1, c2⟩ := x.cells n _ f1
        rw [g1] at c1
        cases c1
        rcases c2 with c2 | c2
        · cases c2
        · cases c2
          have ea : a = a1 := by
            cases r with
            | ref k1 k2 =>
              rw [f1] at k1
              cases k1
              have := k2 a1 rfl
              rw [ev] at this
              cases this
              rfl
          subst ea
          exact ⟨us2, SqL.of g2, g3⟩
      · cases ok
  | _ => cases e
theorem later_own {i : Nat} (r : RepA K H1 ι1 B v (.lst ds)) (S : Sim K H1 ι1 B μ1) : ∃ a, v = .ref a ∧ Later K H1 ι1 B [.own i ds] (goodL K a ds) := by
  cases r with
  | rep r =>
    cases r with
    | lst s r => exact ⟨_, rfl, ⟨_, sqL_cut s, r⟩, fun H' ι' B' env' μ' x _ S' ok => ⟨_, sqL_cut (x.fr.seq s), r.up x.up⟩⟩
  | own b h r =>
    refine ⟨_, rfl, ⟨_, SqL.of h, r⟩, fun H' ι' B' env' μ' x kk S' ok => ?_⟩
    rcases kk with kk | kk
    · exact ⟨_, SqL.of (by rw [kk _ b]; exact h), r.up x.up⟩
    · cases kk
theorem later_tup (S : Sim K H1 ι1 B μ1) (r : RepA K H1 ι1 B v (.tup ds)) : ∃ a, v = .ref a ∧ Later K H1 ι1 B lk (goodT K a ds) := by
  cases r with
  | rep r =>
    cases r with
    | tup s r =>
      refine ⟨_, rfl, ⟨_, sqT_cut s, r⟩, fun H' ι' B' env' μ' x _ S' ok => ⟨_, ?_, r.up x.up⟩⟩
      refine sqT_cut (ι := ι') (B := B') ?_
      rcases s with (s | ⟨o, s⟩) | s
      · exact .inl (.inl (x.fr _ _ s))
      · exact .inl (.inr ⟨o, x.fr _ _ s⟩)
      · exact .inr s
/-- of any argument -/
theorem later_seq (S : Sim K H1 ι1 B μ1) (m : ME) (r : RepA K H1 ι1 B v d) (hr : (∀ i, m ≠ .ovar i) → Rep K (cut H1 ι1 B) ι1 v d) (ho : ∀ i, m = .ovar i → ∃ ds, d = .lst ds) (e : seqV μ1 d = some ds) :
    ∃ a, v = .ref a ∧ Later K H1 ι1 B (lockOf μ1 m d) (goodL K a ds) := by
  by_cases hm : ∃ i, m = .ovar i
  · obtain ⟨i, rfl⟩ := hm
    obtain ⟨es, rfl⟩ := ho i rfl
    cases e
    exact later_own r S
  · exact later_rep S (hr fun i q => hm ⟨i, q⟩) e m fun i q => hm ⟨i, q⟩
theorem Later.both {P' : Hp → Cells → List Addr → Prop} (a : Later K H1 ι1 B lk P) (b : Later K H1 ι1 B lk' P') : Later K H1 ι1 B (lk ++ lk') (fun H ι B => P H ι B ∧ P' H ι B) := by
  refine ⟨⟨a.1, b.1⟩, fun H' ι' B' env' μ' x kk S' ok => ?_⟩
  rw [List.all_append, Bool.and_eq_true] at ok
  refine ⟨a.2 H' ι' B' env' μ' x ?_ S' ok.1, b.2 H' ι' B' env' μ' x ?_ S' ok.2⟩
  · rcases kk with kk | kk
    · exact .inl kk
    · rw [List.all_append, Bool.and_eq_true] at kk; exact .inr kk.1
  · rcases kk with kk | kk
    · exact .inl kk
    · rw [List.all_append, Bool.and_eq_true] at kk; exact .inr kk.2
/-- .. and its address has moved on a little -/
theorem Later.nx {H2 : Hp} {ι2 : Cells} {μ2 : Mem} {env2 : Ev} (a : Later K H1 ι1 B lk P) (n : Nx K H1 ι1 B H2 ι2 μ2) (ok : lk.all (Lk.ok env2 μ2) = true) : Later K H2 ι2 B lk P :=
  ⟨a.2 H2 ι2 B env2 μ2 n.x (.inl n.k) n.s ok, fun H' ι' B' env' μ' x kk S' ok' => a.2 H' ι' B' env' μ' (n.x.trans x) (kk.imp_left fun k => n.k.trans k) S' ok'⟩
end
end DI
set_option Elab.async false
set_option linter.all false
set_option maxRecDepth 100000
/-! DI10: walks by the language, comprehensions -/
namespace DI
open PySem PySem.Spec PyProof.Rows L2
def tSr (K : PySem.W.Frag) (own : Bool) (ev : Ev → Mem → Option (D × Mem)) : TE := fun σ H Q => ∃ env μ ι B B0 d μ', At K H ι B B0 μ σ env ∧ ev env μ = some (d, μ') ∧
  ∀ v H' ι', Nx K H ι B H' ι' μ' → RepA K H' ι' B v d → (own = false → Rep K (cut H' ι' B) ι' v d) → Q v H'
section
variable {X : Cx} {e e2 tg iter elt : Expr} {ea eb ev : Ev → Mem → Option (D × Mem)} {evs : Ev → Mem → Option (List D × Mem)} {pos p : Pos} {own own2 f f2 : Bool} {evi : Ev → Mem → Option ((List D × List Lk) × Mem)}
theorem SE.sr (h : SE X own f e ea) : PE X e (tSr X.K own ea) := by
  cases own with
  | true => exact PEcon h.fa fun σ H Q ⟨env, μ, ι, B, B0, d, μ', a, e, k⟩ => ⟨env, μ, ι, B, B0, d, μ', a, e, fun v H' ι' n r => k v H' ι' n r fun z => nomatch z⟩
  | false => exact PEcon (h.fe rfl) fun σ H Q ⟨env, μ, ι, B, B0, d, μ', a, e, k⟩ => ⟨env, μ, ι, B, B0, d, μ', a, e, fun v H' ι' n r => k v H' ι' n (.rep r) fun _ => r⟩
theorem PIcon {t t' : TI} (h : PI X tg e t) (i : ∀ σ H R, t' σ H R → t σ H R) : PI X tg e t' := ⟨fun pins s σ H R I w => h.run pins s σ H R I (i σ H R w)⟩
/-- a list or a tuple -/
def iSeq (K : PySem.W.Frag) (tl : TE) : TI := fun σ H R => tl σ H fun x H1 => ∃ a, x = .ref a ∧ (((∃ xs, SqL K H1 a xs) ∧ R (Itl K a) H1) ∨ ((∃ xs, SqT K H1 a xs) ∧ R (Itt K a) H1))
theorem pi_seq {tl : TE} (hl : PE X e tl) : PI X tg e (iSeq X.K tl) := by
  refine ⟨fun pins s σ H R I h => thn (hl.run pins s σ H _ I h) fun v s1 ⟨x, H1, I1, r1, a, ex, q⟩ => ?_⟩
  subst ex
  cases r1
  have new : ∀ {b : Addr}, b ∈ [s1.heap.objs.size] → FpOk X pins H1 b := fun {b} hb => by
    rw [List.mem_singleton] at hb
    rw [hb]
    exact I1.fpOk (Nat.le_refl _) I1.fresh
  rcases q with ⟨⟨xs, sq⟩, q⟩ | ⟨⟨xs, sq⟩, q⟩
  · obtain ⟨its, rv, pl, hz⟩ := I1.list sq
    exact wpAny_pyIter_list pl.isList ⟨_, _, _, _, H1, rfl, I1.kept (t' := s1.toks) fun b o z => Heap.get?_push_of_some _ z, turn_list a _, ⟨_, Heap.get?_push_size _ rfl, rfl, rfl⟩, fun b hb => new hb, q⟩
  · obtain ⟨its, rv, pt, hz⟩ := I1.tuple sq
    exact wpAny_pyIter_tuple (show s1.heap.IsTuple a its.toArray from pt) ⟨_, _, _, _, H1, rfl, I1.kept (t' := s1.toks) fun b o z => Heap.get?_push_of_some _ z, turn_tuple a _, ⟨_, Heap.get?_push_size _ rfl, rfl, rfl⟩, fun b hb => new hb, q⟩
theorem items_or {μ : Mem} {x : D} {ds : List D} (h : itemsD μ x = some ds) : x = .tup ds ∨ seqV μ x = some ds := by
  cases x with
  | tup xs => cases h; exact .inl rfl
  | _ => exact .inr h
theorem i_seq {m : ME} (h : SE X own f e ea) (ho : own = true → ∃ i, m = .ovar i) (ho2 : own = false → ∀ i, m ≠ .ovar i) (hov : ∀ i env μ d μ', m = .ovar i → ea env μ = some (d, μ') → ∃ ds, d = .lst ds)
    (hev : ∀ env μ, evi env μ = (ea env μ).bind fun p => (itemsD p.2 p.1).map fun ds => ((ds, lockOf p.2 m p.1), p.2)) : PI X tg e (tI X.K evi) :=
  PIcon (pi_seq h.sr) fun σ H R ⟨env, μ, ι, B, B0, ds, lk, μ', a, e, k⟩ => by
    rw [hev] at e
    obtain ⟨⟨x, μ1⟩, e1, e⟩ := Option.bind_eq_some_iff.mp e
    obtain ⟨ds', e2, e3⟩ := Option.map_eq_some_iff.mp e
    cases e3
    refine ⟨env, μ, ι, B, B0, x, _, a, e1, fun v H1 ι1 n1 r1 r2 => ?_⟩
    rcases items_or e2 with rfl | e4
    · obtain ⟨p, rfl, lt⟩ := later_tup (lk := lockOf μ1 m (.tup ds)) n1.s r1
      obtain ⟨vs, s1, _⟩ := lt.1
      exact ⟨p, rfl, .inr ⟨⟨vs, s1⟩, k _ H1 ι1 _ n1 iw_tup lt⟩⟩
    · obtain ⟨p, rfl, lt⟩ := later_seq n1.s m r1 (fun hm => r2 (by
        cases own with
        | false => rfl
        | true => obtain ⟨i, q⟩ := ho rfl; exact absurd q (hm i))) (fun i hi => hov i env μ x _ hi e1) e4
      obtain ⟨vs, s1, _⟩ := lt.1
      exact ⟨p, rfl, .inl ⟨⟨vs, s1⟩, k _ H1 ι1 _ n1 iw_list lt⟩⟩
theorem i_rng1 (hg : Gl X "range") (hm : X.mg "range" = none) (ha : PA X [e] (tAs X.K evs)) (hs : noStar e = true)
    (hev : ∀ env μ r, evi env μ = some r → ∃ j μ', evs env μ = some ([.int j], μ') ∧ rangeOk j = true ∧ r = ((rangeD 0 j, []), μ')) : PI X tg (.Call (.Name "range" p) [e] [] pos) (tI X.K evi) :=
  PIcon (pi_range1 hg hm ha (star_cons hs _ _)) fun σ H R ⟨env, μ, ι, B, B0, ds, lk, μ', a, e, k⟩ => by
    obtain ⟨j, μ1, e1, e2, e3⟩ := hev _ _ _ e
    cases e3
    refine ⟨env, μ, ι, B, B0, [.int j], _, a, e1, fun vs H1 ι1 n1 r1 => ?_⟩
    obtain ⟨v, rfl, r⟩ := RepAs.one r1
    unfold rangeOk at e2
    rw [Bool.and_eq_true, decide_eq_true_eq, decide_eq_true_eq] at e2
    rw [r.int]
    refine ⟨j, rfl, e2.1, e2.2, ?_⟩
    have z := k _ H1 ι1 _ n1 (iw_range (lo := 0) (hi := j)) ⟨trivial, fun _ _ _ _ _ _ _ _ _ => trivial⟩
    rw [Int.sub_zero] at z
    exact z
theorem i_rng2 (hg : Gl X "range") (hm : X.mg "range" = none) (ha : PA X [e, e2] (tAs X.K evs)) (hs : noStar e = true) (hs2 : noStar e2 = true)
    (hev : ∀ env μ r, evi env μ = some r → ∃ i j μ', evs env μ = some ([.int i, .int j], μ') ∧ rangeOk i = true ∧ rangeOk j = true ∧ r = ((rangeD i j, []), μ')) : PI X tg (.Call (.Name "range" p) [e, e2] [] pos) (tI X.K evi) :=
  PIcon (pi_range2 hg hm ha (by rw [star_cons hs, star_cons hs2]; rfl) (star_cons hs2 _ _)) fun σ H R ⟨env, μ, ι, B, B0, ds, lk, μ', a, e, k⟩ => by
    obtain ⟨i, j, μ1, e1, e2, e2', e3⟩ := hev _ _ _ e
    cases e3
    refine ⟨env, μ, ι, B, B0, [.int i, .int j], _, a, e1, fun vs H1 ι1 n1 r1 => ?_⟩
    obtain ⟨v, u, rfl, r, r'⟩ := RepAs.two r1
    unfold rangeOk at e2 e2'
    rw [Bool.and_eq_true, decide_eq_true_eq, decide_eq_true_eq] at e2 e2'
    rw [r.int, r'.int]
    exact ⟨i, j, rfl, ⟨e2.1, e2.2, e2'.1, e2'.2⟩, k _ H1 ι1 _ n1 iw_range ⟨trivial, fun _ _ _ _ _ _ _ _ _ => trivial⟩⟩
theorem ov_ok {m : ME} (ho : own = true → ∃ i, m = .ovar i) (hm : ∀ i, m ≠ .ovar i) : own = false := by
  cases own with
  | false => rfl
  | true => obtain ⟨i, q⟩ := ho rfl; exact absurd q (hm i)
theorem i_zip {m m2 : ME} {tpos : Pos} {elts : List Expr} {kk : Nat} (hg : Gl X "zip") (hm : X.mg "zip" = none) (h : SE X own f e ea) (h2 : SE X own2 f2 e2 eb) (hs : noStar e = true) (hs2 : noStar e2 = true)
    (ho : own = true → ∃ i, m = .ovar i) (ho2 : own2 = true → ∃ i, m2 = .ovar i)
    (hov : ∀ i env μ d μ', m = .ovar i → ea env μ = some (d, μ') → ∃ ds, d = .lst ds) (hov2 : ∀ i env μ d μ', m2 = .ovar i → eb env μ = some (d, μ') → ∃ ds, d = .lst ds)
    (hev : ∀ env μ, evi env μ = (ea env μ).bind fun p => (eb env p.2).bind fun q => match p.1, q.1 with
    | .tup xs, .tup ys => some ((zipD xs ys, []), q.2)
    | x, y => (seqV q.2 x).bind fun xs => (seqV q.2 y).map fun ys => ((zipD xs ys, lockOf q.2 m x ++ lockOf q.2 m2 y), q.2)) : PI X (.Tuple elts kk tpos) (.Call (.Name "zip" p) [e, e2] [] pos) (tI X.K evi) :=
  PIcon (RZ.pi_zipA hg hm (pa_cons h.sr (pa_cons h2.sr pa_nil (star_cons hs2 _ _)) (star_cons hs _ _)) (star_cons hs _ _) (star_any _ _ _ (by rw [List.all_cons, hs2]; rfl))) fun σ H R ⟨env, μ, ι, B, B0, ds, lk, μ', a, e, k⟩ => by
    rw [hev] at e
    obtain ⟨⟨x, μ1⟩, e1, e⟩ := Option.bind_eq_some_iff.mp e
    obtain ⟨⟨y, μ2⟩, e2, e⟩ := Option.bind_eq_some_iff.mp e
    refine ⟨env, μ, ι, B, B0, x, _, a, e1, fun v H1 ι1 n1 r1 r1' => ⟨env, μ1, ι1, B, B0, y, _, a.nx n1, e2, fun u H2 ι2 n2 r2 r2' => ?_⟩⟩
    have n12 := n1.trans n2
    dsimp only at e
    split at e
    · cases e
      obtain ⟨p1, rfl, lt1⟩ := later_tup (lk := []) n2.s (n2.arg r1)
      obtain ⟨p2, rfl, lt2⟩ := later_tup (lk := []) n2.s r2
      have z := k _ H2 ι2 _ n12 iw_zipT (Later.both lt1 lt2)
      obtain ⟨vs, s1, _⟩ := lt1.1
      obtain ⟨us, s2, _⟩ := lt2.1
      exact ⟨p1, p2, vs, us, rfl, .inr ⟨s1, s2, z⟩⟩
    · obtain ⟨xs, e3, e⟩ := Option.bind_eq_some_iff.mp e
      obtain ⟨ys, e4, e5⟩ := Option.map_eq_some_iff.mp e
      cases e5
      obtain ⟨p1, rfl, lt1⟩ := later_seq n2.s m (n2.arg r1) (fun hm => n2.rep (r1' (ov_ok ho hm))) (fun i hi => hov i env μ x _ hi e1) e3
      obtain ⟨p2, rfl, lt2⟩ := later_seq n2.s m2 r2 (fun hm => r2' (ov_ok ho2 hm)) (fun i hi => hov2 i env μ1 y _ hi e2) e4
      have z := k _ H2 ι2 _ n12 iw_zip (Later.both lt1 lt2)
      obtain ⟨vs, s1, _⟩ := lt1.1
      obtain ⟨us, s2, _⟩ := lt2.1
      exact ⟨p1, p2, vs, us, rfl, .inl ⟨s1, s2, z⟩⟩
theorem i_zip3 {e3 : Expr} {own3 f3 : Bool} {ec : Ev → Mem → Option (D × Mem)} {tpos : Pos} {elts : List Expr} {kk : Nat} (hg : Gl X "zip") (hm : X.mg "zip" = none) (h : SE X own f e ea) (h2 : SE X own2 f2 e2 eb) (h3 : SE X own3 f3 e3 ec) (hs : noStar e = true) (hs2 : noStar e2 = true) (hs3 : noStar e3 = true)
    (hev : ∀ env μ, evi env μ = (ea env μ).bind fun p => (eb env p.2).bind fun q => (ec env q.2).bind fun r => match p.1, q.1, r.1 with
    | .tup xs, .tup ys, .tup zs => some ((zipD3 xs ys zs, []), r.2)
    | _, _, _ => none) : PI X (.Tuple elts kk tpos) (.Call (.Name "zip" p) [e, e2, e3] [] pos) (tI X.K evi) :=
  PIcon (pi_zip3 hg hm (pa_cons h.sr (pa_cons h2.sr (pa_cons h3.sr pa_nil (star_cons hs3 _ _)) (star_cons hs2 _ _)) (star_cons hs _ _)) (star_cons hs _ _) (star_any _ _ _ (by rw [List.all_cons, List.all_cons, hs2, hs3]; rfl))) fun σ H R ⟨env, μ, ι, B, B0, ds, lk, μ', a, e, k⟩ => by
    rw [hev] at e
    obtain ⟨⟨x, μ1⟩, e1, e⟩ := Option.bind_eq_some_iff.mp e
    obtain ⟨⟨y, μ2⟩, e2, e⟩ := Option.bind_eq_some_iff.mp e
    obtain ⟨⟨z, μ3⟩, e3, e⟩ := Option.bind_eq_some_iff.mp e
    refine ⟨env, μ, ι, B, B0, x, _, a, e1, fun v H1 ι1 n1 r1 r1' => ⟨env, μ1, ι1, B, B0, y, _, a.nx n1, e2, fun u H2 ι2 n2 r2 r2' => ⟨env, μ2, ι2, B, B0, z, _, (a.nx n1).nx n2, e3, fun w H3 ι3 n3 r3 r3' => ?_⟩⟩⟩
    have n123 := (n1.trans n2).trans n3
    dsimp only at e
    split at e
    · cases e
      obtain ⟨p1, rfl, lt1⟩ := later_tup (lk := []) n3.s (n3.arg (n2.arg r1))
      obtain ⟨p2, rfl, lt2⟩ := later_tup (lk := []) n3.s (n3.arg r2)
      obtain ⟨p3, rfl, lt3⟩ := later_tup (lk := []) n3.s r3
      have z := k _ H3 ι3 _ n123 iw_zip3 (Later.both lt1 (Later.both lt2 lt3))
      obtain ⟨vs, s1, _⟩ := lt1.1
      obtain ⟨us, s2, _⟩ := lt2.1
      obtain ⟨ws, s3, _⟩ := lt3.1
      exact ⟨p1, p2, p3, vs, us, ws, rfl, s1, s2, s3, z⟩
    · cases e
theorem i_comb {m : ME} {x : Str} (hg : Gl X x) (hm : X.mg x = some (.type "itertools.combinations")) (hdb : (x == ("__debug__" : Str)) = false) (h : SE X own f e ea) (h2 : SE X own2 f2 e2 eb) (hs : noStar e = true) (hs2 : noStar e2 = true) (ho : own = true → ∃ i, m = .ovar i)
    (hov : ∀ i env μ d μ', m = .ovar i → ea env μ = some (d, μ') → ∃ ds, d = .lst ds) (heb : ∀ env μ, eb env μ = some (.int 2, μ))
    (hev : ∀ env μ, evi env μ = (ea env μ).bind fun p => (seqV p.2 p.1).map fun ds => ((combD ds, []), p.2)) : PI X tg (.Call (.Name x p) [e, e2] [] pos) (tI X.K evi) :=
  PIcon (pi_cmb hg hm (pa_cons h.sr (pa_cons h2.sr pa_nil (star_cons hs2 _ _)) (star_cons hs _ _)) hdb (star_cons hs _ _) (star_any _ _ _ (by rw [List.all_cons, hs2]; rfl))) fun σ H R ⟨env, μ, ι, B, B0, ds, lk, μ', a, e, k⟩ => by
    rw [hev] at e
    obtain ⟨⟨x, μ1⟩, e1, e⟩ := Option.bind_eq_some_iff.mp e
    obtain ⟨xs, e3, e4⟩ := Option.map_eq_some_iff.mp e
    cases e4
    refine ⟨env, μ, ι, B, B0, x, _, a, e1, fun v H1 ι1 n1 r1 r1' => ⟨env, μ1, ι1, B, B0, .int 2, _, a.nx n1, heb _ _, fun u H2 ι2 n2 r2 r2' => ?_⟩⟩
    obtain ⟨p1, rfl, lt1⟩ := later_seq n2.s m (n2.arg r1) (fun hm => n2.rep (r1' (ov_ok ho hm))) (fun i hi => hov i env μ x _ hi e1) e3
    obtain ⟨vs, s1, rr⟩ := lt1.1
    have z := k _ H2 ι2 _ (n1.trans n2) (iw_comb (vs := vs)) ⟨rr, fun H' ι' B' env' μ' xx _ _ _ => rr.up xx.up⟩
    exact ⟨p1, vs, by rw [r2.int], s1, z⟩
theorem i_enum {m : ME} {tpos : Pos} {elts : List Expr} {kk : Nat} (hg : Gl X "enumerate") (hm : X.mg "enumerate" = none) (h : SE X own f e ea) (hs : noStar e = true) (ho : own = true → ∃ i, m = .ovar i)
    (hov : ∀ i env μ d μ', m = .ovar i → ea env μ = some (d, μ') → ∃ ds, d = .lst ds)
    (hev : ∀ env μ, evi env μ = (ea env μ).bind fun p => (seqV p.2 p.1).map fun ds => ((enumD 0 ds, lockOf p.2 m p.1), p.2)) : PI X (.Tuple elts kk tpos) (.Call (.Name "enumerate" p) [e] [] pos) (tI X.K evi) :=
  PIcon (pi_enum hg hm (pa_cons h.sr pa_nil (star_cons hs _ _)) (star_cons hs _ _)) fun σ H R ⟨env, μ, ι, B, B0, ds, lk, μ', a, e, k⟩ => by
    rw [hev] at e
    obtain ⟨⟨x, μ1⟩, e1, e⟩ := Option.bind_eq_some_iff.mp e
    obtain ⟨xs, e3, e4⟩ := Option.map_eq_some_iff.mp e
    cases e4
    refine ⟨env, μ, ι, B, B0, x, _, a, e1, fun v H1 ι1 n1 r1 r1' => ?_⟩
    obtain ⟨p1, rfl, lt1⟩ := later_seq n1.s m r1 (fun hm => r1' (ov_ok ho hm)) (fun i hi => hov i env μ x _ hi e1) e3
    have z := k _ H1 ι1 _ n1 iw_enum lt1
    obtain ⟨vs, s1, _⟩ := lt1.1
    exact ⟨p1, vs, rfl, s1, z⟩
/-! ### a comprehension -/
theorem cut_write {H : Hp} {ι : Cells} {B : List Addr} {a : Addr} {o : HO} (h : Held ι B a) : cut (upd H a o) ι B = cut H ι B := by
  funext b
  unfold cut
  by_cases hb : Held ι B b
  · rw [if_pos hb, if_pos hb]
  · rw [if_neg hb, if_neg hb]
    exact upd_ne fun e => hb (by rw [e]; exact h)
theorem Sim.write {K : PySem.W.Frag} {H : Hp} {ι : Cells} {B : List Addr} {μ : Mem} {a : Addr} {o : HO} (S : Sim K H ι B μ) (h : a ∈ B) : Sim K (upd H a o) ι B μ where
  len := S.len
  inj := S.inj
  apart := S.apart
  there := fun b hb => by
    have ne : b ≠ a := fun e => S.apart b hb (by rw [e]; exact h)
    rw [upd_ne ne]
    exact S.there b hb
  busy := fun b hb => by
    by_cases e : b = a
    · rw [e]; exact ⟨o, upd_same⟩
    · rw [upd_ne e]; exact S.busy b hb
  cell := fun n ds q => by
    obtain ⟨b, vs, e1, e2, r⟩ := S.cell n ds q
    have ne : b ≠ a := fun e => S.apart b (List.mem_of_getElem? e1) (by rw [e]; exact h)
    refine ⟨b, vs, e1, by rw [upd_ne ne]; exact e2, ?_⟩
    rw [cut_write (.inr h)]
    exact r
theorem Ext.write {H H' : Hp} {ι ι' : Cells} {B B' : List Addr} {a : Addr} {o : HO} (x : Ext H ι B H' ι' B') (h : a ∈ B') (he : H' a ≠ none) : Ext H ι B (upd H' a o) ι' B' where
  fr := by rw [cut_write (.inr h)]; exact x.fr
  cells := x.cells
  sub := x.sub
  dom := fun b hb => by
    by_cases e : b = a
    · rw [e, upd_same] at hb; cases hb
    · rw [upd_ne e] at hb; exact x.dom b hb
  new := x.new
def compEv (g : MG) (own : List Nat) (evi : Ev → Mem → Option ((List D × List Lk) × Mem)) (evc : Ev → Mem → Option (Bool × Mem)) (ee : Ev → Mem → Option (D × Mem)) (env : Ev) (μ : Mem) : Option (D × Mem) :=
  (evi env μ).bind fun p => if p.1.2.all (Lk.ok env p.2) then
      (compGo (fun x ν => (bindG g x (wipeE env own)).bind fun e1 => (evc e1 ν).bind fun c =>
          if c.1 then (ee e1 c.2).map fun q => (some q.1, q.2) else some (none, c.2))
        (fun ν => p.1.2.all (Lk.ok env ν)) p.1.1 p.2).bind fun r => if r.1.length ≤ sizeLine then some (.lst r.1, r.2) else none
      else none
theorem lc_read {K : PySem.W.Frag} {g : MG} {vs : List Nat} {evc : Ev → Mem → Option (Bool × Mem)} {ee : Ev → Mem → Option (D × Mem)} (hgs : ∀ j, j ∈ g.slots → j ∈ vs) {σ : L2.St} {H : Hp} {Q : VK}
    (h : tX K (compEv g vs evi evc ee) σ H Q) : tLc (tI K evi) (tG K g) (tB K evc) (tE K ee) vs σ H Q := by
  obtain ⟨env, μ, ι, B, B0, d, μ', a, e, k⟩ := h
  unfold compEv at e
  obtain ⟨⟨⟨ds, lk⟩, μ1⟩, e1, e⟩ := Option.bind_eq_some_iff.mp e
  dsimp only at e
  by_cases lk0 : lk.all (Lk.ok env μ1) = true
  case neg => rw [if_neg lk0] at e; cases e
  rw [if_pos lk0] at e
  obtain ⟨⟨tot, μ2⟩, e2, e⟩ := Option.bind_eq_some_iff.mp e
  dsimp only at e
  by_cases hz : tot.length ≤ sizeLine
  case neg => rw [if_neg hz] at e; cases e
  rw [if_pos hz] at e
  cases e
  refine ⟨env, μ, ι, B, B0, ds, lk, μ1, a, e1, fun J H1 ι1 good n1 iw lt L hL => ?_⟩
  have k1 := KF.back k n1
  have R1 := n1.renv a.r
  refine ⟨fun i m Hc => m = ds.length - i ∧ i ≤ ds.length ∧ ∃ ιc μc acc accd rest, Ext H1 ι1 B Hc ιc (L :: B) ∧ Keep B H1 Hc ∧ Sim K Hc ιc (L :: B) μc ∧ Hc L = some (.lst acc) ∧ Reps K (cut Hc ιc (L :: B)) ιc acc accd ∧
    compGo (fun x ν => (bindG g x (wipeE env vs)).bind fun e1 => (evc e1 ν).bind fun c => if c.1 then (ee e1 c.2).map fun q => (some q.1, q.2) else some (none, c.2)) (fun ν => lk.all (Lk.ok env ν)) (ds.drop i) μc = some (rest, μ') ∧
    accd ++ rest = tot ∧ good Hc ιc (L :: B), ⟨ds.length, by rw [Nat.sub_zero], Nat.zero_le _, ι1, μ1, [], [], tot, Ext.hold n1.s hL, Keep.laid n1.s hL, n1.s.hold hL, upd_same, .nil, e2, rfl,
      lt.2 _ _ _ env μ1 (Ext.hold n1.s hL) (.inl (Keep.laid n1.s hL)) (n1.s.hold hL) lk0⟩, ?_⟩
  rintro i m Hc ⟨rfl, hi, ιc, μc, acc, accd, rest, xc, kc, sc, hcL, rc, ec, et, gc⟩
  by_cases hlt : i < ds.length
  case neg =>
    have ei : i = ds.length := by omega
    subst ei
    refine .inl ⟨iw.stops _ _ _ gc, ?_⟩
    rw [List.drop_length] at ec
    simp only [compGo, Option.some.injEq, Prod.mk.injEq] at ec
    obtain ⟨er, em⟩ := ec
    subst er em
    rw [List.append_nil] at et
    subst et
    exact k1 L acc Hc ιc hL xc kc sc hcL rc
  refine .inr ⟨iw.goes i Hc ιc _ hlt gc, fun H' => ∃ ιc μc acc accd rest, Ext H1 ι1 B H' ιc (L :: B) ∧ Keep B H1 H' ∧ Sim K H' ιc (L :: B) μc ∧ H' L = some (.lst acc) ∧ Reps K (cut H' ιc (L :: B)) ιc acc accd ∧
    compGo (fun x ν => (bindG g x (wipeE env vs)).bind fun e1 => (evc e1 ν).bind fun c => if c.1 then (ee e1 c.2).map fun q => (some q.1, q.2) else some (none, c.2)) (fun ν => lk.all (Lk.ok env ν)) (ds.drop (i + 1)) μc = some (rest, μ') ∧
    accd ++ rest = tot ∧ good H' ιc (L :: B), fun H' w => ⟨ds.length - (i + 1), by omega, rfl, hlt, w⟩, fun x H' y => ?_⟩
  obtain ⟨dx, edx, n2, rx⟩ := iw.yields i Hc ιc _ μc x H' hlt sc gc y
  have edrop : ds.drop i = dx :: ds.drop (i + 1) := by
    have hx : ds[i]? = some ds[i] := List.getElem?_eq_getElem hlt
    rw [hx] at edx
    cases edx
    exact List.drop_eq_getElem_cons hlt
  rw [edrop] at ec
  simp only [compGo] at ec
  obtain ⟨⟨od, μ3⟩, es, ec⟩ := Option.bind_eq_some_iff.mp ec
  dsimp only at ec
  by_cases lk1 : lk.all (Lk.ok env μ3) = true
  case neg => rw [if_neg lk1] at ec; cases ec
  rw [if_pos lk1] at ec
  obtain ⟨⟨rest', μ4⟩, er, ec⟩ := Option.map_eq_some_iff.mp ec
  simp only [Prod.mk.injEq] at ec
  obtain ⟨ec1, ec2⟩ := ec
  subst ec2
  obtain ⟨env1, eb, es⟩ := Option.bind_eq_some_iff.mp es
  obtain ⟨⟨cb, μ5⟩, ecv, es⟩ := Option.bind_eq_some_iff.mp es
  have Rc : REnv K H' ιc (L :: B) B0 (wipe σ vs) (wipeE env vs) := (n2.renv (R1.ext xc kc)).wipe vs
  refine ⟨wipeE env vs, ιc, L :: B, B0, μc, dx, env1, ⟨n2.s, Rc⟩, rx, eb, fun σ' a' s' l' => ⟨?_, env1, μc, ιc, L :: B, B0, cb, μ5, a', ecv, fun H3 ι3 n3 => ?_⟩⟩
  · refine wipe_eq (by rw [l', wipe_length]) fun j hj => s' j fun q => hj (hgs j q)
  have n23 := n2.trans n3
  have xk : ∀ {H4 : Hp} {ι4 : Cells} {μ4 : Mem}, Nx K Hc ιc (L :: B) H4 ι4 μ4 → Ext H1 ι1 B H4 ι4 (L :: B) ∧ Keep B H1 H4 := fun n => ⟨xc.trans n.x, kc.trans (n.k.mono fun b hb => List.mem_cons_of_mem _ hb)⟩
  cases cb with
  | false =>
    refine iteF ?_
    dsimp only at es
    rw [if_neg Bool.false_ne_true] at es
    cases es
    obtain ⟨x3, k3⟩ := xk n23
    refine ⟨ι3, μ3, acc, accd, rest', x3, k3, n23.s, by rw [n23.k L List.mem_cons_self]; exact hcL, n23.reps rc, er, ?_, lt.2 _ _ _ env μ3 x3 (.inl k3) n23.s lk1⟩
    rw [← ec1] at et
    exact et
  | true =>
    refine iteT ?_
    dsimp only at es
    rw [if_pos rfl] at es
    obtain ⟨⟨q1, q2⟩, eq, es⟩ := Option.map_eq_some_iff.mp es
    cases es
    refine ⟨env1, μ5, ι3, L :: B, B0, q1, q2, a'.nx n3, eq, fun y H4 ι4 n4 ry => ?_⟩
    have n234 := n23.trans n4
    obtain ⟨x4, k4⟩ := xk n234
    have h4 : H4 L = some (.lst acc) := by rw [n234.k L List.mem_cons_self]; exact hcL
    have np : L ∉ B := fun q => by
      obtain ⟨o, ho⟩ := n1.s.busy L q
      rw [hL] at ho; cases ho
    have et' : accd ++ (q1 :: rest') = tot := by
      rw [← ec1] at et
      exact et
    refine ⟨acc, h4, ?_, ι4, q2, acc ++ [y], accd ++ [q1], rest', x4.write List.mem_cons_self (by rw [h4]; exact fun z => nomatch z), fun b hb => ?_, n234.s.write List.mem_cons_self, upd_same, ?_, er, by rw [List.append_assoc]; exact et', ?_⟩
    · rw [rc.length]
      have := congrArg List.length et'
      rw [List.length_append, List.length_cons] at this
      omega
    · rw [upd_ne fun z => np (by rw [← z]; exact hb)]
      exact k4 b hb
    · rw [cut_write (.inr List.mem_cons_self)]
      exact (n234.reps rc).append (.cons ry .nil)
    · refine lt.2 _ _ _ env q2 (x4.write List.mem_cons_self (by rw [h4]; exact fun z => nomatch z)) (.inl fun b hb => ?_) (n234.s.write List.mem_cons_self) lk1
      rw [upd_ne fun z => np (by rw [← z]; exact hb)]
      exact k4 b hb
end
end DI
set_option Elab.async false
set_option linter.all false
set_option maxRecDepth 100000
/-! DI11: scopes, calls of the text's defs -/
namespace DI
open PySem PySem.Spec PyProof.Rows L2
def kindB (sc : Scope) (p : NameKind → Bool) (x : Str) : Bool := match sc.names.lookup x with
  | some k => p k
  | none => false
def isVis : NameKind → Bool
  | .local | .cell | .free => true
  | _ => false
def isLoc : NameKind → Bool
  | .local | .cell => true
  | _ => false
def isGlo : NameKind → Bool
  | .globalImplicit => true
  | _ => false
/-- what a scope says holds where one stands -/
structure CxS (X : Cx) (sc : Scope) : Prop where
  vis : ∀ x, kindB sc isVis x = true → Vis X.env.scope x
  glo : ∀ x, kindB sc isGlo x = true → Gl X x
  loc : ∀ x, kindB sc isLoc x = true → Loc X.env.scope x ∧ (X.fn x = true ∨ X.env.scope.names.lookup x = some .local)
  one : ∀ x, sc.names.lookup x = some .local → X.env.scope.names.lookup x = some .local
  up : ∀ x, sc.names.lookup x = some .cell ∨ sc.names.lookup x = some .free → X.env.scope.names.lookup x = some .cell ∨ X.env.scope.names.lookup x = some .free
theorem kindB_some {sc : Scope} {p : NameKind → Bool} {x : Str} (h : kindB sc p x = true) : ∃ k, sc.names.lookup x = some k ∧ p k = true := by
  unfold kindB at h
  split at h
  · rename_i k e
    exact ⟨k, e, h⟩
  · cases h
theorem CxS.top {X : Cx} (hf : ∀ x, X.fn x = true) : CxS X X.env.scope where
  vis := fun x h => by
    obtain ⟨k, e, hk⟩ := kindB_some h
    cases k <;> first | (exact absurd hk (by decide)) | exact .inl e | exact .inr (.inl e) | exact .inr (.inr e)
  glo := fun x h => by
    obtain ⟨k, e, hk⟩ := kindB_some h
    cases k <;> first | (exact absurd hk (by decide)) | exact e
  loc := fun x h => by
    obtain ⟨k, e, hk⟩ := kindB_some h
    cases k <;> first | (exact absurd hk (by decide)) | exact ⟨.inl e, .inl (hf x)⟩ | exact ⟨.inr e, .inl (hf x)⟩
  one := fun _ h => h
  up := fun _ h => h
theorem relabel_get (env : Env) (x : Str) : ∀ names : List (Str × NameKind), (names.map fun (n, k) => if (k == NameKind.free && env.scope.kind == .function && env.kindOf n == some .cell) = true then (n, NameKind.cell) else (n, k)).lookup x =
    (names.lookup x).map fun k => if (k == NameKind.free && env.scope.kind == .function && env.kindOf x == some .cell) = true then .cell else k
  | [] => rfl
  | (n, k) :: r => by
    rw [List.map_cons]
    cases hx : x == n with
    | true =>
      have e : x = n := by simpa using hx
      subst e
      by_cases hc : (k == NameKind.free && env.scope.kind == .function && env.kindOf x == some .cell) = true
      · simp only [hc, if_true, List.lookup_cons, beq_self_eq_true, Option.map_some]
      · simp only [hc, List.lookup_cons, beq_self_eq_true, Option.map_some]
        simp
    | false =>
      by_cases hc : (k == NameKind.free && env.scope.kind == .function && env.kindOf n == some .cell) = true
      · simp only [hc, if_true, List.lookup_cons, hx]
        exact relabel_get env x r
      · simp only [hc, List.lookup_cons, hx]
        simp only [Bool.false_eq_true, if_false, List.lookup_cons, hx]
        exact relabel_get env x r
theorem CxS.blk {X : Cx} {sc scope : Scope} (h : CxS X sc) (s : Shared) (H : Hp) (C : Addr) (cl : List (Str × Addr)) (fp : List Addr) : CxS (X.blk s H scope (compEnvC scope cl C X.env) fp) scope := by
  have g : ∀ x, (compEnvC scope cl C X.env).scope.names.lookup x = (scope.names.lookup x).map fun k => if (k == NameKind.free && X.env.scope.kind == .function && X.env.kindOf x == some .cell) = true then .cell else k := fun x => relabel_get X.env x scope.names
  refine ⟨fun x hx => ?_, fun x hx => ?_, fun x hx => ?_, fun x hx => ?_, fun x hx => ?_⟩
  · obtain ⟨k, e, hk⟩ := kindB_some hx
    have z := g x
    rw [e, Option.map_some] at z
    split at z
    · exact .inr (.inl z)
    · cases k <;> first | (exact absurd hk (by decide)) | exact .inl z | exact .inr (.inl z) | exact .inr (.inr z)
  · obtain ⟨k, e, hk⟩ := kindB_some hx
    have z := g x
    rw [e, Option.map_some] at z
    cases k <;> first | (exact absurd hk (by decide)) | exact z
  · obtain ⟨k, e, hk⟩ := kindB_some hx
    have z := g x
    rw [e, Option.map_some] at z
    cases k
    case «local» => exact ⟨.inl z, .inr z⟩
    case cell => exact ⟨.inr z, .inl (show (scope.names.lookup x == some .cell) = true by rw [e]; rfl)⟩
    all_goals exact absurd hk (by decide)
  · have z := g x
    rw [hx, Option.map_some] at z
    exact z
  · have z := g x
    rcases hx with hx | hx
    · rw [hx, Option.map_some] at z
      exact .inl z
    · rw [hx, Option.map_some] at z
      split at z
      · exact .inl z
      · exact .inr z

/-! ### the text's defs -/
structure Kw where
  f : Nat
  ks : List Str
  np : Nat
  perm : List Nat
  deriving DecidableEq
/-- a call that leaves the last parameters to their defaults, whole numbers -/
structure Df where
  f : Nat
  np : Nat
  ds : List Int
  deriving DecidableEq
structure Tab where
  T : List MF
  nm : List (Str × List Str)
  blt : List Str
  mods : List Str
  gl : List (Str × D)
  kw : List Kw
  df : List Df := []
  cmb : List Str := []
def spD (K : PySem.W.Frag) (C : Call) (f : Nat) (fr : Bool) : Sp := fun vs H Q _ => ∃ ds ι B μ d μ', Sim K H ι B μ ∧ Reps K (cut H ι B) ι vs ds ∧ C f ds μ = some (d, μ') ∧ (if fr = true then KX K H ι B μ' d Q else KE K H ι B μ' d Q)
structure CxE (Tb : Tab) (C : Call) (n : Nat) (X : Cx) : Prop where
  calm : X.calm = true
  nd : X.N.Nodup
  room : Room n X.A
  gd : X.A.guards = some []
  blt : ∀ x, x ∈ Tb.blt → X.mg x = none
  gcd : ∀ x, x ∈ Tb.mods → X.mg x = some (.builtin "math.gcd")
  cmb : ∀ x, x ∈ Tb.cmb → X.mg x = some (.type "itertools.combinations")
  gl : ∀ (i : Nat) (x : Str) (d : D), Tb.gl[i]? = some (x, d) → ∃ v u, X.mg x = some u ∧ RelV v u ∧ ∀ G ι, Rep X.K G ι v d
  fn : ∀ f m x ps, Tb.T[f]? = some m → Tb.nm[f]? = some (x, ps) → ∃ addr fd, X.mg x = some (.ref addr) ∧ PySem.W.keepIn X.K (.ref addr) = true ∧ Binds X.K fd ps [] ∧
    FnG X.prog X.w X.K X.mg X.base n addr fd ps (spD X.K C f m.fresh) ∧ (∀ q, q ∈ Tb.kw → q.f = f → KwB X.K fd ps q.ks q.np q.perm) ∧ ∀ q, q ∈ Tb.df → q.f = f → ∃ dv, Binds X.K fd ps dv ∧ Vals (q.ds.map V.int) dv
theorem CxE.units {Tb : Tab} {C : Call} {n : Nat} {X : Cx} (h : CxE Tb C n X) : X.A.units + 65 < cLine := by
  have z := h.room.un
  omega
theorem CxE.blk {Tb : Tab} {C : Call} {n : Nat} {X : Cx} (h : CxE Tb C n X) (s : Shared) (H : Hp) (scope : Scope) (cenv : Env) (fp : List Addr) : CxE Tb C n (X.blk s H scope cenv fp) :=
  ⟨h.calm, h.nd, h.room, h.gd, h.blt, h.gcd, h.cmb, h.gl, h.fn⟩
def freshF (T : List MF) (f : Nat) : Bool := match T[f]? with
  | some m => m.fresh
  | none => false
section
variable {X : Cx} {Tb : Tab} {C : Call} {n f : Nat} {m : MF} {x : Str} {ps : List Str} {e : Expr} {es : List Expr} {evs evk : Ev → Mem → Option (List D × Mem)} {ev : Ev → Mem → Option (D × Mem)} {p pos : Pos}
def tCl (K : PySem.W.Frag) (fr : Bool) (ev : Ev → Mem → Option (D × Mem)) : TE := fun σ H Q => ∃ env μ ι B B0 d μ', At K H ι B B0 μ σ env ∧ ev env μ = some (d, μ') ∧ (if fr = true then KX K H ι B μ' d Q else KE K H ι B μ' d Q)
theorem back_if {K : PySem.W.Frag} {H H1 : Hp} {ι ι1 : Cells} {B : List Addr} {μ1 μ' : Mem} {d : D} {Q : VK} {fr : Bool} (k : if fr = true then KX K H ι B μ' d Q else KE K H ι B μ' d Q) (n1 : Nx K H ι B H1 ι1 μ1) : if fr = true then KX K H1 ι1 B μ' d Q else KE K H1 ι1 B μ' d Q := by
  cases fr with
  | true => exact KX.back k n1
  | false => exact KE.back k n1
theorem SE.ofCl {o : Bool} {fr : Bool} (h : PE X e (tCl X.K fr ev)) : SE X o fr e ev := by
  cases fr with
  | true => exact SE.ofX h
  | false => exact SE.ofE h
theorem r_call (c : CxE Tb C n X) (hm : Tb.T[f]? = some m) (hn : Tb.nm[f]? = some (x, ps)) (hg : Gl X x) (hd : (x == ("__debug__" : Str)) = false) (ha : PA X es (tEs X.K evs)) (hs : es.all noStar = true)
    (hev : ∀ env μ, ev env μ = (evs env μ).bind fun p => C f p.1 p.2) (hz : ∀ env μ r, es = [] → evs env μ = some r → r = ([], μ)) : PE X (.Call (.Name x p) es [] pos) (tCl X.K m.fresh ev) := by
  obtain ⟨addr, fd, h1, h2, h3, h4, _⟩ := c.fn f m x ps hm hn
  match es, hs, ha, hz with
  | [], _, ha, hz =>
    refine PEcon (pe_callG0 h4 c.room c.gd hg h1 h2 h3 hd) fun σ H Q ⟨env, μ, ι, B, B0, d, μ', a, e, k⟩ => ?_
    rw [hev] at e
    obtain ⟨r, e1, e2⟩ := Option.bind_eq_some_iff.mp e
    have z := hz env μ r rfl e1
    subst z
    exact ⟨[], ι, B, μ, d, μ', a.s, .nil, e2, k⟩
  | e0 :: es, hs, ha, _ =>
    refine PEcon (pe_callG h4 c.room c.gd hg h1 h2 h3 ha hd hs) fun σ H Q ⟨env, μ, ι, B, B0, d, μ', a, e, k⟩ => ?_
    rw [hev] at e
    obtain ⟨⟨ds, μ1⟩, e1, e2⟩ := Option.bind_eq_some_iff.mp e
    refine ⟨env, μ, ι, B, B0, ds, μ1, a, e1, fun vs H1 ι1 n1 r1 => ⟨ds, ι1, B, μ1, d, μ', n1.s, ?_, e2, back_if k n1⟩⟩
    rw [List.append_nil]
    exact r1
theorem reps_ints {K : PySem.W.Frag} {G : Hp} {ι : Cells} : ∀ is : List Int, Reps K G ι (is.map V.int) (is.map D.int)
  | [] => .nil
  | i :: is => .cons (.int i) (reps_ints is)
/-- f(..), its last parameters by their defaults -/
theorem r_calld {q : List Int} (c : CxE Tb C n X) (hm : Tb.T[f]? = some m) (hn : Tb.nm[f]? = some (x, ps)) (hg : Gl X x) (hd : (x == ("__debug__" : Str)) = false) (ha : PA X (e :: es) (tEs X.K evs)) (hs : (e :: es).all noStar = true)
    (hq : (⟨f, (e :: es).length, q⟩ : Df) ∈ Tb.df) (hev : ∀ env μ, ev env μ = (evs env μ).bind fun p => C f (p.1 ++ q.map .int) p.2) : PE X (.Call (.Name x p) (e :: es) [] pos) (tCl X.K m.fresh ev) := by
  obtain ⟨addr, fd, h1, h2, h3, h4, _, h5⟩ := c.fn f m x ps hm hn
  obtain ⟨dv, b1, b2⟩ := h5 _ hq rfl
  refine PEcon (pe_callD h4 c.room c.gd hg h1 h2 b1 b2 ha hd hs) fun σ H Q ⟨env, μ, ι, B, B0, d, μ', a, e, k⟩ => ?_
  rw [hev] at e
  obtain ⟨⟨ds, μ1⟩, e1, e2⟩ := Option.bind_eq_some_iff.mp e
  exact ⟨env, μ, ι, B, B0, ds, μ1, a, e1, fun vs H1 ι1 n1 r1 => ⟨ds ++ q.map .int, ι1, B, μ1, d, μ', n1.s, r1.append (reps_ints q), e2, back_if k n1⟩⟩
/-! ### keywords -/
theorem PKcon {kws : List Keyword} {t t' : TA} (h : PK X kws t) (i : ∀ σ H Q, t' σ H Q → t σ H Q) : PK X kws t' := ⟨fun pos pins s σ H Q I w => h.run pos pins s σ H Q I (i σ H Q w)⟩
theorem pks_nil : PK X [] (tEs X.K fun _ μ => some ([], μ)) := PKcon pk_nil fun σ H Q ⟨env, μ, ι, B, B0, ds, μ', a, e, k⟩ => by
  cases e
  exact k [] H ι (Nx.refl a.s) .nil
theorem pks_cons {kws : List Keyword} {nm : Option Str} {kp : Pos} {ea : Ev → Mem → Option (D × Mem)} (ha : PE X e (tE X.K ea)) (hr : PK X kws (tEs X.K evs)) :
    PK X (⟨nm, e, kp⟩ :: kws) (tEs X.K fun env μ => (ea env μ).bind fun p => (evs env p.2).map fun q => (p.1 :: q.1, q.2)) :=
  PKcon (pk_cons ha hr) fun σ H Q ⟨env, μ, ι, B, B0, ds, μ', a, e, k⟩ => by
    obtain ⟨⟨x, μ1⟩, e1, e⟩ := Option.bind_eq_some_iff.mp e
    obtain ⟨⟨xs, μ2⟩, e2, e3⟩ := Option.map_eq_some_iff.mp e
    cases e3
    exact ⟨env, μ, ι, B, B0, x, μ1, a, e1, fun v H1 ι1 n1 r1 => ⟨env, μ1, ι1, B, B0, xs, _, a.nx n1, e2, fun vs H2 ι2 n2 r2 => k (v :: vs) H2 ι2 (n1.trans n2) (.cons (n2.rep r1) r2)⟩⟩
theorem tEs_len {k : Nat} (hl : ∀ env μ ds μ', evs env μ = some (ds, μ') → ds.length = k) (σ : L2.St) (H : Hp) (Q : List V → Hp → Prop) (h : tEs X.K evs σ H Q) : tEs X.K evs σ H fun vs H1 => vs.length = k ∧ Q vs H1 := by
  obtain ⟨env, μ, ι, B, B0, ds, μ', a, e, k'⟩ := h
  exact ⟨env, μ, ι, B, B0, ds, μ', a, e, fun vs H' ι' n r => ⟨by rw [r.length]; exact hl _ _ _ _ e, k' vs H' ι' n r⟩⟩
theorem perm_reps {K : PySem.W.Frag} {G : Hp} {ι : Cells} {vs : List V} {ds : List D} (r : Reps K G ι vs ds) : ∀ (perm : List Nat) (args : List D), permD ds perm = some args → ∃ all, perm.map (fun i => vs[i]?) = all.map some ∧ Reps K G ι all args
  | [], args, h => by
    cases h
    exact ⟨[], rfl, .nil⟩
  | i :: perm, args, h => by
    simp only [permD] at h
    obtain ⟨d, e1, h⟩ := Option.bind_eq_some_iff.mp h
    obtain ⟨q, e2, e3⟩ := Option.map_eq_some_iff.mp h
    subst e3
    obtain ⟨v, f1, f2⟩ := r.get e1
    obtain ⟨all, g1, g2⟩ := perm_reps r perm q e2
    exact ⟨v :: all, by rw [List.map_cons, List.map_cons, f1, g1], .cons f2 g2⟩
theorem r_callk {kws : List Keyword} {perm : List Nat} (c : CxE Tb C n X) (hm : Tb.T[f]? = some m) (hn : Tb.nm[f]? = some (x, ps)) (hg : Gl X x) (hd : (x == ("__debug__" : Str)) = false) (ha : PA X es (tEs X.K evs)) (hs : es.all noStar = true)
    (hk : PK X kws (tEs X.K evk)) (hp : kwPlain kws = true) (hq : (⟨f, kwNames kws, es.length, perm⟩ : Kw) ∈ Tb.kw) (hl : ∀ env μ ds μ', evs env μ = some (ds, μ') → ds.length = es.length) (hl2 : ∀ env μ ds μ', evk env μ = some (ds, μ') → ds.length = (kwNames kws).length)
    (hz : ∀ env μ r, es = [] → evs env μ = some r → r = ([], μ))
    (hev : ∀ env μ, ev env μ = (evs env μ).bind fun p => (evk env p.2).bind fun q => (permD (p.1 ++ q.1) perm).bind fun ds => C f ds q.2) : PE X (.Call (.Name x p) es kws pos) (tCl X.K m.fresh ev) := by
  obtain ⟨addr, fd, h1, h2, h3, h4, h5, _⟩ := c.fn f m x ps hm hn
  have kb := h5 _ hq rfl
  have fin : ∀ {env : Ev} {μ μ1 μ2 μ' : Mem} {ds zs args : List D} {ι ι1 ι2 : Cells} {B : List Addr} {H H1 H2 : Hp} {d : D} {Q : VK} {vs ws : List V}, Nx X.K H ι B H1 ι1 μ1 → Nx X.K H1 ι1 B H2 ι2 μ2 → Reps X.K (cut H1 ι1 B) ι1 vs ds → Reps X.K (cut H2 ι2 B) ι2 ws zs →
      permD (ds ++ zs) perm = some args → C f args μ2 = some (d, μ') → (if m.fresh = true then KX X.K H ι B μ' d Q else KE X.K H ι B μ' d Q) → ∃ all, perm.map (fun i => (vs ++ ws)[i]?) = all.map some ∧ spD X.K C f m.fresh all H2 Q E0 := by
    intro env μ μ1 μ2 μ' ds zs args ι ι1 ι2 B H H1 H2 d Q vs ws n1 n2 r1 r2 e3 e4 k
    obtain ⟨all, g1, g2⟩ := perm_reps ((n2.reps r1).append r2) perm args e3
    exact ⟨all, g1, args, ι2, B, μ2, d, μ', n2.s, g2, e4, back_if k (n1.trans n2)⟩
  match es, hs, ha, hz, hl, kb with
  | [], _, ha, hz, hl, kb =>
    refine PEcon (pe_callKG0 h4 c.room c.gd hg h1 h2 kb hk hd hp (tEs_len hl2)) fun σ H Q ⟨env, μ, ι, B, B0, d, μ', a, e, k⟩ => ?_
    rw [hev] at e
    obtain ⟨r, e1, e⟩ := Option.bind_eq_some_iff.mp e
    have z := hz env μ r rfl e1
    subst z
    obtain ⟨⟨zs, μ2⟩, e2, e⟩ := Option.bind_eq_some_iff.mp e
    obtain ⟨args, e3, e4⟩ := Option.bind_eq_some_iff.mp e
    exact ⟨env, μ, ι, B, B0, zs, μ2, a, e2, fun ws H2 ι2 n2 r2 => fin (env := env) (μ := μ) (Nx.refl a.s) n2 .nil r2 e3 e4 k⟩
  | e0 :: es, hs, ha, _, hl, kb =>
    refine PEcon (pe_callKG (l1 := 0) h4 c.room c.gd hg h1 h2 kb ha hk hd hs hp (tEs_len hl) (tEs_len hl2)) fun σ H Q ⟨env, μ, ι, B, B0, d, μ', a, e, k⟩ => ?_
    rw [hev] at e
    obtain ⟨⟨ds, μ1⟩, e1, e⟩ := Option.bind_eq_some_iff.mp e
    obtain ⟨⟨zs, μ2⟩, e2, e⟩ := Option.bind_eq_some_iff.mp e
    obtain ⟨args, e3, e4⟩ := Option.bind_eq_some_iff.mp e
    exact ⟨env, μ, ι, B, B0, ds, μ1, a, e1, fun vs H1 ι1 n1 r1 => ⟨env, μ1, ι1, B, B0, zs, μ2, a.nx n1, e2, fun ws H2 ι2 n2 r2 => fin (env := env) (μ := μ) n1 n2 r1 r2 e3 e4 k⟩⟩
end
end DI
set_option Elab.async false
set_option linter.all false
set_option maxRecDepth 100000
/-! DI12: which text a piece of the language stands for -/
namespace DI
open PySem PySem.Spec PyProof.Rows L2
def isOv : ME → Bool
  | .ovar _ => true
  | _ => false
def isFresh (T : List MF) : ME → Bool
  | .lst _ | .comp .. | .slc .. | .rev _ | .op .. | .bi .. => true
  | .sset _ => true
  | .sdic _ => true
  | .call f _ => freshF T f
  | .callk f .. => freshF T f
  | .calld f .. => freshF T f
  | _ => false
def isBo : ME → Bool
  | .and .. | .or .. => true
  | _ => false
def tOk : ME → Bool
  | .ite .. => false
  | _ => true
def nameM (N : List Str) (sc : Scope) (i : Nat) (x : Str) : Bool := decide (N[i]? = some x) && kindB sc isVis x && !(x == ("__debug__" : Str)) && !(x == ("__classdict__" : Str))
def bltM (Tb : Tab) (sc : Scope) (x y : Str) : Bool := decide (x = y) && decide (y ∈ Tb.blt) && kindB sc isGlo y
def defM (Tb : Tab) (sc : Scope) (f : Nat) (x : Str) : Bool := (match Tb.nm[f]? with
  | some (y, _) => decide (x = y)
  | none => false) && (Tb.T[f]?).isSome && kindB sc isGlo x && !(x == ("__debug__" : Str))
def bopM : Bop → Operator → Bool
  | b, o => decide (bopOp b = o)
def copM : Cop → CmpOp → Bool
  | b, o => decide (copOp b = o)
def biNm : Bi → Str
  | .len => "len"
  | .abs => "abs"
  | .max => "max"
  | .min => "min"
  | .int => "int"
  | .tuple => "tuple"
  | .list => "list"
  | .sum => "sum"
  | .repr => "repr"
  | .all => "all"
  | .any => "any"
  | .gcd => "gcd"
  | .dict => "dict"
  | .sorted => "sorted"
def biM (Tb : Tab) (sc : Scope) (b : Bi) (x : Str) : Bool := match b with
  | .gcd => decide (x ∈ Tb.mods) && kindB sc isGlo x && !(x == ("__debug__" : Str))
  | b => bltM Tb sc x (biNm b)
def isTwo : Expr → Bool
  | .Constant k _ _ => decide (k = .int 2)
  | _ => false
def tysM (Tb : Tab) (sc : Scope) : List Ty → List Expr → Bool
  | [], [] => true
  | t :: ts, .Name x _ :: es => bltM Tb sc x (Str.ofString t.nm) && tysM Tb sc ts es
  | _, _ => false
def isM (ng : Bool) (o : CmpOp) : Bool := decide (o = if ng then .IsNot else .Is)
def ixPlain : Expr → Bool
  | .Slice .. => false
  | _ => true
def setFree : Expr → Bool
  | .Set .. => false
  | _ => true
mutual
def mG (N : List Str) (sc : Scope) : MG → Expr → Bool
  | .nm i, .Name x _ => decide (N[i]? = some x) && kindB sc isLoc x
  | .tp gs, .Tuple es _ _ => mGs N sc gs es
  | _, _ => false
def mGs (N : List Str) (sc : Scope) : List MG → List Expr → Bool
  | [], [] => true
  | g :: gs, e :: es => noStar e && mG N sc g e && mGs N sc gs es
  | _, _ => false
end
def ownN (N : List Str) (own : List Nat) : List (Str × Nat) := own.map fun i => (N.getD i "", i)
mutual
def mE (Tb : Tab) (N : List Str) : Scope → ME → Expr → Bool
  | sc, .var i, .Name x _ => nameM N sc i x
  | sc, .ovar i, .Name x _ => nameM N sc i x
  | _, .non, .Constant c _ _ => decide (c = .none)
  | _, .bl b, .Constant c _ _ => decide (c = .bool b)
  | _, .int i, .Constant c _ _ => decide (c = .int i)
  | _, .str x, .Constant c _ _ => decide (c = .str x)
  | sc, .tup es, .Tuple xs _ _ => mEs Tb N sc es xs
  | sc, .lst es, .List xs _ => mEs Tb N sc es xs
  | _, .dic0, .Dict ks vs _ => ks.isEmpty && vs.isEmpty
  | sc, .con i d, .Name x _ => (match Tb.gl[i]? with
    | some (y, e) => decide (x = y) && D.beq d e
    | none => false) && kindB sc isGlo x && !(x == ("__debug__" : Str))
  | sc, .cell e, x => isFresh Tb.T e && mE Tb N sc e x
  | sc, .op o a b, .BinOp x p y _ => bopM o p && mE Tb N sc a x && mE Tb N sc b y
  | sc, .neg a, .UnaryOp o x _ => decide (o = .USub) && mE Tb N sc a x
  | sc, .not a, .UnaryOp o x _ => decide (o = .Not) && tOk a && mE Tb N sc a x
  | sc, .cmp o a b, .Compare x [p] [y] _ => copM o p && mE Tb N sc a x && mE Tb N sc b y && !behindInMarks (copOp o) y
  | sc, .isn ng a, .Compare x [p] [.Constant c _ _] _ => isM ng p && decide (c = .none) && mE Tb N sc a x
  | sc, .isb ng b a, .Compare x [p] [.Constant c _ _] _ => isM ng p && decide (c = .bool b) && mE Tb N sc a x
  | sc, .and a b, .BoolOp o (x :: y :: zs) p => decide (o = .And) && tOk a && tOk b && mE Tb N sc a x && !isOv b && (match zs with
    | [] => mE Tb N sc b y
    | z :: zs => isBo b && mE Tb N sc b (.BoolOp .And (y :: z :: zs) p))
  | sc, .or a b, .BoolOp o (x :: y :: zs) p => decide (o = .Or) && tOk a && tOk b && mE Tb N sc a x && !isOv b && (match zs with
    | [] => mE Tb N sc b y
    | z :: zs => isBo b && mE Tb N sc b (.BoolOp .Or (y :: z :: zs) p))
  | sc, .ite c a b, .IfExp z x y _ => tOk c && mE Tb N sc c z && mE Tb N sc a x && mE Tb N sc b y && !isOv a && !isOv b
  | sc, .idx a i, .Subscript x y _ => mE Tb N sc a x && mE Tb N sc i y && ixPlain y
  | sc, .slc a lo hi, .Subscript x (.Slice l h none _) _ => mE Tb N sc a x && mO Tb N sc lo l && mO Tb N sc hi h
  | sc, .rev a, .Subscript x (.Slice none none (some (.UnaryOp o (.Constant c _ _) _)) _) _ => decide (o = .USub) && decide (c = .int 1) && mE Tb N sc a x
  | sc, .call f es, .Call (.Name x _) xs [] _ => defM Tb sc f x && mEs Tb N sc es xs
  | sc, .calld f es ds, .Call (.Name x _) (y :: ys) [] _ => defM Tb sc f x && mEs Tb N sc es (y :: ys) && decide ((⟨f, (y :: ys).length, ds⟩ : Df) ∈ Tb.df)
  | sc, .callk f es ks perm, .Call (.Name x _) xs kws _ => defM Tb sc f x && mEs Tb N sc es xs && mKs Tb N sc ks kws && decide ((⟨f, kwNames kws, xs.length, perm⟩ : Kw) ∈ Tb.kw)
  | sc, .bi b es, .Call (.Name x _) (y :: ys) [] _ => biM Tb sc b x && mAs Tb N sc es (y :: ys)
  | sc, .bits a, .Call (.Attribute (.Name x p0) at' apos) [] [] pos => decide (at' = ("bit_length" : Str)) && (apos.endLine == pos.line) && mE Tb N sc a (.Name x p0)
  | sc, .sset a, .Call (.Name x _) [.Call (.Name y _) [z] [] _] [] _ => bltM Tb sc x "sorted" && bltM Tb sc y "set" && mE Tb N sc a z && noStar z
  | sc, .sdic a, .Call (.Name x _) [.Call (.Name y _) [z] [] _] [] _ => bltM Tb sc x "sorted" && bltM Tb sc y "dict" && mE Tb N sc a z && noStar z
  | sc, .isi a ts, .Call (.Name x _) [y, z] [] _ => bltM Tb sc x "isinstance" && mE Tb N sc a y && noStar y && decide (ts.length ≤ 10) && (match z with
    | .Name w _ => (match ts with
      | [t] => bltM Tb sc w (Str.ofString t.nm)
      | _ => false)
    | .Tuple ws _ _ => tysM Tb sc ts ws
    | _ => false)
  | sc, .comp elt tg src ifs own, .ListComp e' [⟨tg', iter', ifs', as⟩] scope _ => mI Tb N sc src tg' iter' && mG N scope tg tg' && mCs Tb N scope ifs ifs' && mE Tb N scope elt e' && !isOv elt && blkC N sc scope (ownN N own) && tg.slots.all (fun j => decide (j ∈ own)) && setFree iter' && decide (as = 0)
  | _, _, _ => false
/-- values -/
def mEs (Tb : Tab) (N : List Str) : Scope → List ME → List Expr → Bool
  | _, [], [] => true
  | sc, m :: ms, e :: es => noStar e && !isOv m && mE Tb N sc m e && mEs Tb N sc ms es
  | _, _, _ => false
/-- arguments that are read only -/
def mAs (Tb : Tab) (N : List Str) : Scope → List ME → List Expr → Bool
  | _, [], [] => true
  | sc, m :: ms, e :: es => noStar e && mE Tb N sc m e && mAs Tb N sc ms es
  | _, _, _ => false
def mKs (Tb : Tab) (N : List Str) : Scope → List ME → List Keyword → Bool
  | _, [], [] => true
  | sc, m :: ms, ⟨some _, e, _⟩ :: es => noStar e && !isOv m && mE Tb N sc m e && mKs Tb N sc ms es
  | _, _, _ => false
def mO (Tb : Tab) (N : List Str) : Scope → Option ME → Option Expr → Bool
  | _, none, none => true
  | sc, some m, some e => mE Tb N sc m e
  | _, _, _ => false
def mCs (Tb : Tab) (N : List Str) : Scope → List ME → List Expr → Bool
  | _, [], [] => true
  | sc, m :: ms, e :: es => tOk m && mE Tb N sc m e && ms.isEmpty && mCs Tb N sc ms es
  | _, _, _ => false
def mI (Tb : Tab) (N : List Str) : Scope → MI → Expr → Expr → Bool
  | sc, .seq m, _, e => mE Tb N sc m e
  | sc, .rng es, _, .Call (.Name x _) (y :: ys) [] _ => bltM Tb sc x "range" && mAs Tb N sc es (y :: ys) && decide (es.length ≤ 2)
  | sc, .zip a b, .Tuple _ _ _, .Call (.Name x _) [y, z] [] _ => bltM Tb sc x "zip" && mE Tb N sc a y && mE Tb N sc b z && noStar y && noStar z
  | sc, .zip3 a b c, .Tuple _ _ _, .Call (.Name x _) [y, z, u] [] _ => bltM Tb sc x "zip" && mE Tb N sc a y && mE Tb N sc b z && mE Tb N sc c u && noStar y && noStar z && noStar u
  | sc, .comb a, _, .Call (.Name x _) [y, z] [] _ => decide (x ∈ Tb.cmb) && kindB sc isGlo x && !(x == ("__debug__" : Str)) && mE Tb N sc a y && isTwo z && noStar y
  | sc, .enum a, .Tuple _ _ _, .Call (.Name x _) [y] [] _ => bltM Tb sc x "enumerate" && mE Tb N sc a y && noStar y
  | _, _, _, _ => false
end
end DI
set_option Elab.async false
set_option linter.all false
set_option maxRecDepth 100000
set_option maxHeartbeats 4000000
/-! DI13: a piece of the language that stands for a text is what the text does: expressions -/
namespace DI
open PySem PySem.Spec PyProof.Rows L2
theorem nameM_ok {N : List Str} {sc : Scope} {i : Nat} {x : Str} (h : nameM N sc i x = true) : N[i]? = some x ∧ kindB sc isVis x = true ∧ (x == ("__debug__" : Str)) = false ∧ (x == ("__classdict__" : Str)) = false := by
  unfold nameM at h
  simp only [Bool.and_eq_true, decide_eq_true_eq, Bool.not_eq_true'] at h
  exact ⟨h.1.1.1, h.1.1.2, h.1.2, h.2⟩
theorem bltM_ok {Tb : Tab} {sc : Scope} {x y : Str} (h : bltM Tb sc x y = true) : x = y ∧ y ∈ Tb.blt ∧ kindB sc isGlo y = true := by
  unfold bltM at h
  simp only [Bool.and_eq_true, decide_eq_true_eq] at h
  exact ⟨h.1.1, h.1.2, h.2⟩
theorem defM_ok {Tb : Tab} {sc : Scope} {f : Nat} {x : Str} (h : defM Tb sc f x = true) : ∃ m ps, Tb.T[f]? = some m ∧ Tb.nm[f]? = some (x, ps) ∧ kindB sc isGlo x = true ∧ (x == ("__debug__" : Str)) = false := by
  unfold defM at h
  simp only [Bool.and_eq_true, Bool.not_eq_true'] at h
  obtain ⟨⟨⟨h1, h2⟩, h3⟩, h4⟩ := h
  obtain ⟨m, hm⟩ := Option.isSome_iff_exists.mp h2
  split at h1
  · rename_i y ps e
    rw [decide_eq_true_eq] at h1
    subst h1
    exact ⟨m, ps, hm, e, h3, h4⟩
  · cases h1
theorem biNm_facts (b : Bi) (hb : b ≠ .gcd) : bootBuiltins (biNm b) = some (biId b) ∧ biNm b ≠ ("__name__" : Str) ∧ (biNm b == ("__debug__" : Str)) = false := by
  cases b <;> first | (exact absurd rfl hb) | (refine ⟨?_, ?_, ?_⟩ <;> decide +kernel)
structure SA (X : Cx) (Tb : Tab) (C : Call) (m : ME) (e : Expr) : Prop where
  se : SE X (isOv m) (isFresh Tb.T m) e (evE C m)
  pt : tOk m = true → PT X e (tB X.K (evT C m))
  pw : isBo m = true → PW X e (tB X.K (evT C m))
/-- .. where it is no and, or, not, comparison -/
theorem SA.plain {X : Cx} {Tb : Tab} {C : Call} {m : ME} {e : Expr} (s : SE X (isOv m) (isFresh Tb.T m) e (evE C m)) (hb : isBo m = false) (he : ∀ whole, isTrue e X.env whole = (do let v ← whole; standAt e.pos; holding [v] (truthy v))) : SA X Tb C m e :=
  ⟨s, fun _ => pt_of s.fa he fun _ _ => rfl, fun z => by rw [hb] at z; cases z⟩
theorem evEs_len (C : Call) : ∀ (ms : List ME) (env : Ev) (μ : Mem) (ds : List D) (μ' : Mem), evEs C ms env μ = some (ds, μ') → ds.length = ms.length
  | [], env, μ, ds, μ', h => by simp only [evEs, Option.some.injEq, Prod.mk.injEq] at h; rw [← h.1]; rfl
  | m :: ms, env, μ, ds, μ', h => by
    simp only [evEs] at h
    obtain ⟨⟨x, μ1⟩, e1, e⟩ := Option.bind_eq_some_iff.mp h
    obtain ⟨⟨xs, μ2⟩, e2, e3⟩ := Option.map_eq_some_iff.mp e
    simp only [Prod.mk.injEq] at e3
    rw [← e3.1, List.length_cons, List.length_cons, evEs_len C ms env μ1 xs μ2 e2]
theorem ov_shape (C : Call) (m : ME) (i : Nat) (env : Ev) (μ : Mem) (d : D) (μ' : Mem) (hm : m = .ovar i) (h : evE C m env μ = some (d, μ')) : ∃ ds, d = .lst ds := by
  subst hm
  simp only [evE] at h
  split at h
  · cases h; exact ⟨_, rfl⟩
  · cases h
theorem ov_is {m : ME} (h : isOv m = true) : ∃ i, m = .ovar i := by
  cases m <;> first | exact ⟨_, rfl⟩ | (simp [isOv] at h)
theorem tys_zip {Tb : Tab} {sc : Scope} : ∀ (ts : List Ty) (es : List Expr), tysM Tb sc ts es = true → ∃ ps : List Pos, ts.length = ps.length ∧ es = (ts.zip ps).map (fun q => .Name (Str.ofString q.1.nm) q.2) ∧ ∀ t, t ∈ ts → Str.ofString t.nm ∈ Tb.blt ∧ kindB sc isGlo (Str.ofString t.nm) = true
  | [], [], _ => ⟨[], rfl, rfl, fun _ h => nomatch h⟩
  | [], _ :: _, h => by simp [tysM] at h
  | t :: ts, [], h => by simp [tysM] at h
  | t :: ts, e :: es, h => by
    cases e with
    | Name x p =>
      simp only [tysM, Bool.and_eq_true] at h
      obtain ⟨e1, e2, e3⟩ := bltM_ok h.1
      obtain ⟨ps, h1, h2, h3⟩ := tys_zip ts es h.2
      refine ⟨p :: ps, by rw [List.length_cons, List.length_cons, h1], by rw [e1, h2]; rfl, fun s hs => ?_⟩
      rcases List.mem_cons.mp hs with q | q
      · rw [q]; exact ⟨e2, e3⟩
      · exact h3 s q
    | _ => simp [tysM] at h
theorem plainIx_of {e : Expr} (h : ixPlain e = true) : PlainIx e := by
  cases e <;> first | (intro o i; rfl) | (simp [ixPlain] at h)
theorem setFree_of {e : Expr} (h : setFree e = true) (env : Env) : ∀ x, foldedSetIterable e env x = pure x := by
  cases e <;> first | (intro x; rfl) | (simp [setFree] at h)
mutual
theorem g_ok {X : Cx} {sc : Scope} (hc : X.calm = true) (nd : X.N.Nodup) (cs : CxS X sc) : ∀ (g : MG) (e : Expr), mG X.N sc g e = true → PG X e (tG X.K g)
  | .nm i, e, h => by
    cases e with
    | Name x p =>
      simp only [mG, Bool.and_eq_true, decide_eq_true_eq] at h
      exact g_name nd h.1 (cs.loc x h.2).1 (cs.loc x h.2).2
    | _ => simp [mG] at h
  | .tp gs, e, h => by
    cases e with
    | Tuple es k p =>
      simp only [mG] at h
      obtain ⟨h1, h2, h3, h4⟩ := gs_ok hc nd cs gs es h
      exact g_tup hc h1 h2 h3 h4
    | _ => simp [mG] at h
theorem gs_ok {X : Cx} {sc : Scope} (hc : X.calm = true) (nd : X.N.Nodup) (cs : CxS X sc) : ∀ (gs : List MG) (es : List Expr), mGs X.N sc gs es = true → PGs X es (tGs X.K gs) ∧ (assignEach es X.env).length = es.length ∧ (assignEach es X.env).findIdx? (·.1) = none ∧ gs.length = es.length
  | [], [], _ => ⟨g_nil, rfl, rfl, rfl⟩
  | [], _ :: _, h => by simp [mGs] at h
  | _ :: _, [], h => by simp [mGs] at h
  | g :: gs, e :: es, h => by
    simp only [mGs, Bool.and_eq_true] at h
    obtain ⟨h1, h2, h3, h4⟩ := gs_ok hc nd cs gs es h.2
    have hs : assignEach (e :: es) X.env = (false, assign e X.env) :: assignEach es X.env := by
      have q := h.1.1
      cases e <;> first | rfl | (simp [noStar] at q)
    refine ⟨g_cons (g_ok hc nd cs g e h.1.2) h1 (by rw [hs]; rfl), by rw [hs, List.length_cons, List.length_cons, h2], ?_, by rw [List.length_cons, List.length_cons, h4]⟩
    rw [hs, List.findIdx?_cons, h3]
    rfl
end
end DI
set_option Elab.async false
set_option linter.all false
set_option maxRecDepth 100000
set_option maxHeartbeats 8000000
/-! DI14: a piece of the language that stands for a text is what the text does: expressions -/
namespace DI
open PySem PySem.Spec PyProof.Rows L2
theorem evT_not (C : Call) (a : ME) (env : Ev) (μ : Mem) : evT C (.not a) env μ = (evT C a env μ).map fun p => (!p.1, p.2) := by
  unfold evT
  simp only [evE]
  cases evE C a env μ with
  | none => rfl
  | some p =>
    simp only [Option.bind_some]
    cases truthD p.2 p.1 with
    | none => rfl
    | some b => rfl
theorem evT_cmp (C : Call) (o : Cop) (a b : ME) (env : Ev) (μ : Mem) : evT C (.cmp o a b) env μ = (evE C a env μ).bind fun p => (evE C b env p.2).bind fun q => (cmpD q.2 o p.1 q.1).map fun d => (d, q.2) := by
  unfold evT
  simp only [evE]
  cases evE C a env μ with
  | none => rfl
  | some p =>
    simp only [Option.bind_some]
    cases evE C b env p.2 with
    | none => rfl
    | some q =>
      simp only [Option.bind_some]
      cases cmpD q.2 o p.1 q.1 with
      | none => rfl
      | some b => rfl
theorem evT_isn (C : Call) (ng : Bool) (a : ME) (env : Ev) (μ : Mem) : evT C (.isn ng a) env μ = (evE C a env μ).bind fun p => match p.1 with
    | .non => some (!ng, p.2)
    | .ref _ => none
    | _ => some (ng, p.2) := by
  unfold evT
  simp only [evE]
  cases evE C a env μ with
  | none => rfl
  | some p =>
    obtain ⟨d, ν⟩ := p
    cases d <;> rfl
theorem evT_isb (C : Call) (ng k : Bool) (a : ME) (env : Ev) (μ : Mem) : evT C (.isb ng k a) env μ = (evE C a env μ).bind fun p => match p.1 with
    | .bl b => some (if ng then !decide (b = k) else decide (b = k), p.2)
    | _ => none := by
  unfold evT
  simp only [evE]
  cases evE C a env μ with
  | none => rfl
  | some p =>
    obtain ⟨d, ν⟩ := p
    cases d <;> rfl
theorem evT_and (C : Call) (a b : ME) (env : Ev) (μ : Mem) (q : Bool × Mem) (h : evT C (.and a b) env μ = some q) : ∃ p, evT C a env μ = some p ∧ if p.1 then evT C b env p.2 = some q else q = (false, p.2) := by
  unfold evT at h ⊢
  simp only [evE] at h
  obtain ⟨⟨d, ν⟩, e1, h⟩ := Option.bind_eq_some_iff.mp h
  obtain ⟨⟨d0, ν0⟩, e0, e1⟩ := Option.bind_eq_some_iff.mp e1
  dsimp only at e1
  split at e1
  · exact ⟨(true, ν0), by rw [e0]; rfl, by rw [if_pos rfl, e1]; exact h⟩
  · cases e1
    refine ⟨(false, ν), by rw [e0]; rfl, ?_⟩
    rw [if_neg Bool.false_ne_true]
    cases h
    rfl
  · cases e1
theorem evT_or (C : Call) (a b : ME) (env : Ev) (μ : Mem) (q : Bool × Mem) (h : evT C (.or a b) env μ = some q) : ∃ p, evT C a env μ = some p ∧ if p.1 then q = (true, p.2) else evT C b env p.2 = some q := by
  unfold evT at h ⊢
  simp only [evE] at h
  obtain ⟨⟨d, ν⟩, e1, h⟩ := Option.bind_eq_some_iff.mp h
  obtain ⟨⟨d0, ν0⟩, e0, e1⟩ := Option.bind_eq_some_iff.mp e1
  dsimp only at e1
  split at e1
  · refine ⟨(false, ν0), by rw [e0]; rfl, ?_⟩
    rw [if_neg Bool.false_ne_true, e1]
    exact h
  · cases e1
    refine ⟨(true, ν), by rw [e0]; rfl, ?_⟩
    rw [if_pos rfl]
    cases h
    rfl
  · cases e1
theorem evE_ite (C : Call) (c a b : ME) (env : Ev) (μ : Mem) : evE C (.ite c a b) env μ = (evT C c env μ).bind fun p => if p.1 then evE C a env p.2 else evE C b env p.2 := by
  unfold evT
  simp only [evE]
  cases evE C c env μ with
  | none => rfl
  | some p =>
    simp only [Option.bind_some]
    cases truthD p.2 p.1 with
    | none => rfl
    | some b => rfl
theorem evCs_one (C : Call) (c : ME) (env : Ev) (μ : Mem) : evCs C [c] env μ = evT C c env μ := by
  unfold evT
  simp only [evCs]
  cases evE C c env μ with
  | none => rfl
  | some p =>
    simp only [Option.bind_some]
    cases truthD p.2 p.1 with
    | none => rfl
    | some b => cases b <;> rfl
theorem isTwo_ok {z : Expr} (h : isTwo z = true) : ∃ k j q, z = .Constant k j q ∧ k = .int 2 := by
  cases z with
  | Constant k j q => exact ⟨k, j, q, rfl, of_decide_eq_true h⟩
  | _ => simp [isTwo] at h
theorem rng_shape (C : Call) (es : List ME) (env : Ev) (μ : Mem) (r : (List D × List Lk) × Mem) (h : evI C (.rng es) env μ = some r) :
    (∃ j μ', evEs C es env μ = some ([.int j], μ') ∧ rangeOk j = true ∧ r = ((rangeD 0 j, []), μ')) ∨ ∃ i j μ', evEs C es env μ = some ([.int i, .int j], μ') ∧ rangeOk i = true ∧ rangeOk j = true ∧ r = ((rangeD i j, []), μ') := by
  simp only [evI] at h
  obtain ⟨⟨ds, ν⟩, e1, h⟩ := Option.bind_eq_some_iff.mp h
  dsimp only at h
  split at h
  · split at h
    · rename_i c
      cases h
      exact .inl ⟨_, _, e1, c, rfl⟩
    · cases h
  · split at h
    · rename_i c
      rw [Bool.and_eq_true] at c
      cases h
      exact .inr ⟨_, _, _, e1, c.1, c.2, rfl⟩
    · cases h
  · cases h
theorem r_twoE {X : Cx} {a b : Expr} {ev ea eb : Ev → Mem → Option (D × Mem)} {r : R2} {F : Mem → D → D → Option D} {f : Expr} (ha : PE X a (tA X.K ea)) (hb : PE X b (tA X.K eb)) (mk : ∀ {ta tb : TE}, PE X a ta → PE X b tb → PE X f (tOp r ta tb))
    (hev : ∀ env μ, ev env μ = (ea env μ).bind fun p => (eb env p.2).bind fun q => (F q.2 p.1 q.1).map fun d => (d, q.2))
    (val : ∀ (H : Hp) (ι : Cells) (B : List Addr) (μ : Mem) (v u : V) (x y d : D) (Q : VK), Sim X.K H ι B μ → RepA X.K H ι B v x → RepA X.K H ι B u y → F μ x y = some d → KE X.K H ι B μ d Q → r v u H Q) :
    PE X f (tE X.K ev) := by
  refine PEcon (mk ha hb) fun σ H Q ⟨env, μ, ι, B, B0, d, μ', a, e, k⟩ => ?_
  rw [hev] at e
  obtain ⟨⟨x, μ1⟩, e1, e⟩ := Option.bind_eq_some_iff.mp e
  obtain ⟨⟨y, μ2⟩, e2, e⟩ := Option.bind_eq_some_iff.mp e
  obtain ⟨z, e3, e4⟩ := Option.map_eq_some_iff.mp e
  cases e4
  refine ⟨env, μ, ι, B, B0, x, μ1, a, e1, fun v H1 ι1 n1 r1 => ⟨env, μ1, ι1, B, B0, y, _, a.nx n1, e2, fun u H2 ι2 n2 r2 => ?_⟩⟩
  exact val H2 ι2 B _ v u x y _ Q n2.s (n2.arg r1) r2 e3 (KE.back k (n1.trans n2))
section
variable {Tb : Tab} {C : Call} {n : Nat}
mutual
theorem sndE : ∀ (m : ME) {X : Cx} {sc : Scope} (e : Expr), CxE Tb C n X → CxS X sc → mE Tb X.N sc m e = true → SA X Tb C m e
  | .var i, X, sc, e, c, cs, h => by
    cases e with
    | Name x p =>
      simp only [mE] at h
      obtain ⟨h1, h2, h3, h4⟩ := nameM_ok h
      exact SA.plain (SE.ofE (r_var h1 (cs.vis x h2) h3 h4 fun env μ d μ' q => by
        simp only [evE] at q
        split at q
        · rename_i q'; cases q; exact ⟨q', rfl⟩
        · cases q)) rfl fun _ => rfl
    | _ => simp [mE] at h
  | .ovar i, X, sc, e, c, cs, h => by
    cases e with
    | Name x p =>
      simp only [mE] at h
      obtain ⟨h1, h2, h3, h4⟩ := nameM_ok h
      refine SA.plain ⟨r_ovar h1 (cs.vis x h2) h3 h4 (fun env μ d μ' q => ?_), (fun z => nomatch z), (fun z => nomatch z)⟩ rfl fun _ => rfl
      simp only [evE] at q
      split at q
      · rename_i ds q'; cases q; exact ⟨ds, q', rfl, rfl⟩
      · cases q
    | _ => simp [mE] at h
  | .non, X, sc, e, c, cs, h => by
    cases e with
    | Constant k j p =>
      simp only [mE, decide_eq_true_eq] at h
      subst h
      exact SA.plain (SE.ofE (r_c pe_non (fun _ _ => .non) fun _ _ => by simp only [evE])) rfl fun _ => rfl
    | _ => simp [mE] at h
  | .bl b, X, sc, e, c, cs, h => by
    cases e with
    | Constant k j p =>
      simp only [mE, decide_eq_true_eq] at h
      subst h
      exact SA.plain (SE.ofE (r_c pe_bl (fun _ _ => .bl b) fun _ _ => by simp only [evE])) rfl fun _ => rfl
    | _ => simp [mE] at h
  | .int i, X, sc, e, c, cs, h => by
    cases e with
    | Constant k j p =>
      simp only [mE, decide_eq_true_eq] at h
      subst h
      exact SA.plain (SE.ofE (r_c pe_int (fun _ _ => .int i) fun _ _ => by simp only [evE])) rfl fun _ => rfl
    | _ => simp [mE] at h
  | .str i, X, sc, e, c, cs, h => by
    cases e with
    | Constant k j p =>
      simp only [mE, decide_eq_true_eq] at h
      subst h
      exact SA.plain (SE.ofE (r_c pe_str (fun _ _ => .str i) fun _ _ => by simp only [evE])) rfl fun _ => rfl
    | _ => simp [mE] at h
  | .tup es, X, sc, e, c, cs, h => by
    cases e with
    | Tuple xs k p =>
      simp only [mE] at h
      exact SA.plain (SE.ofE (r_tup (sndEs es xs c cs h).1 fun _ _ => by simp only [evE])) rfl fun _ => rfl
    | _ => simp [mE] at h
  | .lst es, X, sc, e, c, cs, h => by
    cases e with
    | List xs p =>
      simp only [mE] at h
      exact SA.plain (SE.ofX (r_lst (sndEs es xs c cs h).1 fun _ _ => by simp only [evE])) rfl fun _ => rfl
    | _ => simp [mE] at h
  | .dic0, X, sc, e, c, cs, h => by
    cases e with
    | Dict ks vs p =>
      simp only [mE, Bool.and_eq_true, List.isEmpty_iff] at h
      obtain ⟨h1, h2⟩ := h
      subst h1 h2
      exact SA.plain (SE.ofE (r_dic0 fun _ _ => by simp only [evE])) rfl fun _ => rfl
    | _ => simp [mE] at h
  | .con i d, X, sc, e, c, cs, h => by
    cases e with
    | Name x p =>
      simp only [mE, Bool.and_eq_true, Bool.not_eq_true'] at h
      obtain ⟨⟨h1, h2⟩, h3⟩ := h
      split at h1
      · rename_i y e' hi
        simp only [Bool.and_eq_true, decide_eq_true_eq] at h1
        obtain ⟨rfl, hd⟩ := h1
        have := beq_eq _ _ hd
        subst this
        obtain ⟨v, u, hm, rv, rep⟩ := c.gl i x _ hi
        exact SA.plain (SE.ofE (r_c (pe_glob (cs.glo x h2) hm rv h3) rep fun _ _ => by simp only [evE])) rfl fun _ => rfl
      · cases h1
    | _ => simp [mE] at h
  | .cell m, X, sc, e, c, cs, h => by
    simp only [mE, Bool.and_eq_true] at h
    obtain ⟨h1, h2⟩ := h
    have A := sndE m e c cs h2
    have hp : ∀ whole, isTrue e X.env whole = (do let v ← whole; standAt e.pos; holding [v] (truthy v)) := by
      cases m <;> first | (simp [isFresh] at h1; done) | (cases e <;> first | (intro _; rfl) | (simp [mE] at h2; done))
    refine SA.plain (SE.ofE (r_cell (A.se.fx h1) fun _ _ => by simp only [evE] <;> rfl)) rfl hp
  | .op o a b, X, sc, e, c, cs, h => by
    cases e with
    | BinOp x p y pos =>
      simp only [mE, Bool.and_eq_true, bopM, decide_eq_true_eq] at h
      obtain ⟨⟨h1, h2⟩, h3⟩ := h
      subst h1
      exact SA.plain (SE.ofX (r_two (F := fun μ => opD μ o) (sndE a x c cs h2).se.fa (sndE b y c cs h3).se.fa (fun ha hb => pe_op (op_bop o) ha hb) (fun _ _ => by simp only [evE]) fun H ι B μ v u x y d Q S r1 r2 e k => bop_val S r1 r2 e k)) rfl fun _ => rfl
    | _ => simp [mE] at h
  | .neg a, X, sc, e, c, cs, h => by
    cases e with
    | UnaryOp o x p =>
      simp only [mE, Bool.and_eq_true, decide_eq_true_eq] at h
      obtain ⟨h1, h2⟩ := h
      subst h1
      exact SA.plain (SE.ofE (r_neg (sndE a x c cs h2).se.fa fun _ _ => by simp only [evE] <;> rfl)) rfl fun _ => rfl
    | _ => simp [mE] at h
  | .not a, X, sc, e, c, cs, h => by
    cases e with
    | UnaryOp o x p =>
      simp only [mE, Bool.and_eq_true, decide_eq_true_eq] at h
      obtain ⟨⟨h1, h0⟩, h2⟩ := h
      subst h1
      have A := sndE a x c cs h2
      exact ⟨SE.ofE (r_not A.se.fa fun _ _ => by simp only [evE]), fun _ => pt_not' (A.pt h0) (evT_not C a), fun z => nomatch z⟩
    | _ => simp [mE] at h
  | .cmp o a b, X, sc, e, c, cs, h => by
    cases e with
    | Compare x ps ys p =>
      match ps, ys, h with
      | [q], [y], h =>
        simp only [mE, Bool.and_eq_true, copM, decide_eq_true_eq, Bool.not_eq_true'] at h
        obtain ⟨⟨⟨h1, h2⟩, h3⟩, h4⟩ := h
        subst h1
        have A := (sndE a x c cs h2).se.fa
        have B := (sndE b y c cs h3).se.fa
        refine ⟨SE.ofE (E_of_X (r_two (F := fun μ x y => (cmpD μ o x y).map D.bl) A B (fun ha hb => pe_cmpR (op_cop o c.units) ha hb h4) (fun env μ => ?_) fun H ι B μ v u x y d Q S r1 r2 e k => ?_)), fun _ => pt_cop c.units h4 A B (evT_cmp C o a b), fun z => nomatch z⟩
        · simp only [evE]
          cases evE C a env μ with
          | none => rfl
          | some p =>
            simp only [Option.bind_some]
            cases evE C b env p.2 with
            | none => rfl
            | some q =>
              simp only [Option.bind_some]
              cases cmpD q.2 o p.1 q.1 with
              | none => rfl
              | some b => rfl
        · obtain ⟨b', e1, e2⟩ := Option.map_eq_some_iff.mp e
          subst e2
          exact cop_val S r1 r2 e1 (KE.now k S (.bl _))
      | [], _, h => simp [mE] at h
      | _ :: _ :: _, _, h => simp [mE] at h
      | [_], [], h => simp [mE] at h
      | [_], _ :: _ :: _, h => simp [mE] at h
    | _ => simp [mE] at h
  | .isn ng a, X, sc, e, c, cs, h => by
    cases e with
    | Compare x ps ys p =>
      match ps, ys, h with
      | [q], [.Constant k j p'], h =>
        simp only [mE, Bool.and_eq_true, isM, decide_eq_true_eq] at h
        obtain ⟨⟨h1, h2⟩, h3⟩ := h
        subst h1 h2
        have A := (sndE a x c cs h3).se.fa
        exact ⟨SE.ofE (r_isn A fun _ _ => by simp only [evE] <;> rfl), fun _ => pt_isn A (evT_isn C ng a), fun z => nomatch z⟩
      | [], _, h => simp [mE] at h
      | _ :: _ :: _, _, h => simp [mE] at h
      | [_], [], h => simp [mE] at h
      | [_], _ :: _ :: _, h => simp [mE] at h
      | [_], [.BoolOp ..], h | [_], [.NamedExpr ..], h | [_], [.BinOp ..], h | [_], [.UnaryOp ..], h | [_], [.Lambda ..], h | [_], [.IfExp ..], h | [_], [.Dict ..], h | [_], [.Set ..], h | [_], [.ListComp ..], h | [_], [.SetComp ..], h | [_], [.DictComp ..], h
      | [_], [.GeneratorExp ..], h | [_], [.Await ..], h | [_], [.Yield ..], h | [_], [.YieldFrom ..], h | [_], [.Compare ..], h | [_], [.Call ..], h | [_], [.FormattedValue ..], h | [_], [.JoinedStr ..], h | [_], [.Attribute ..], h | [_], [.Subscript ..], h
      | [_], [.Starred ..], h | [_], [.Name ..], h | [_], [.List ..], h | [_], [.Tuple ..], h | [_], [.Slice ..], h => simp [mE] at h
    | _ => simp [mE] at h
  | .isb ng b a, X, sc, e, c, cs, h => by
    cases e with
    | Compare x ps ys p =>
      match ps, ys, h with
      | [q], [.Constant k j p'], h =>
        simp only [mE, Bool.and_eq_true, isM, decide_eq_true_eq] at h
        obtain ⟨⟨h1, h2⟩, h3⟩ := h
        subst h1 h2
        have A := (sndE a x c cs h3).se.fa
        exact ⟨SE.ofE (r_isb A fun _ _ => by simp only [evE] <;> rfl), fun _ => pt_isb A (evT_isb C ng b a), fun z => nomatch z⟩
      | [], _, h => simp [mE] at h
      | _ :: _ :: _, _, h => simp [mE] at h
      | [_], [], h => simp [mE] at h
      | [_], _ :: _ :: _, h => simp [mE] at h
      | [_], [.BoolOp ..], h | [_], [.NamedExpr ..], h | [_], [.BinOp ..], h | [_], [.UnaryOp ..], h | [_], [.Lambda ..], h | [_], [.IfExp ..], h | [_], [.Dict ..], h | [_], [.Set ..], h | [_], [.ListComp ..], h | [_], [.SetComp ..], h | [_], [.DictComp ..], h
      | [_], [.GeneratorExp ..], h | [_], [.Await ..], h | [_], [.Yield ..], h | [_], [.YieldFrom ..], h | [_], [.Compare ..], h | [_], [.Call ..], h | [_], [.FormattedValue ..], h | [_], [.JoinedStr ..], h | [_], [.Attribute ..], h | [_], [.Subscript ..], h
      | [_], [.Starred ..], h | [_], [.Name ..], h | [_], [.List ..], h | [_], [.Tuple ..], h | [_], [.Slice ..], h => simp [mE] at h
    | _ => simp [mE] at h
  | .and a b, X, sc, e, c, cs, h => by
    cases e with
    | BoolOp o vs p =>
      match vs, h with
      | x :: y :: [], h =>
        simp only [mE, Bool.and_eq_true, decide_eq_true_eq, Bool.not_eq_true'] at h
        obtain ⟨⟨⟨⟨⟨h1, t1⟩, t2⟩, h2⟩, h3⟩, h4⟩ := h
        subst h1
        have A := sndE a x c cs h2
        have B := sndE b y c cs h4
        have W := pw_and' (pos := p) (et := evT C (.and a b)) (A.pt t1) (pw_and1 (B.pt t2)) (evT_and C a b)
        exact ⟨SE.ofE (r_and A.se.fa (pe_one (B.se.fe h3)) fun _ _ => by simp only [evE] <;> rfl), fun _ => W.pt, fun _ => W⟩
      | x :: y :: z :: zs, h =>
        simp only [mE, Bool.and_eq_true, decide_eq_true_eq, Bool.not_eq_true'] at h
        obtain ⟨⟨⟨⟨⟨h1, t1⟩, t2⟩, h2⟩, h3⟩, h5, h4⟩ := h
        subst h1
        have A := sndE a x c cs h2
        have B := sndE b _ c cs h4
        have W := pw_and' (pos := p) (et := evT C (.and a b)) (A.pt t1) (B.pw h5) (evT_and C a b)
        exact ⟨SE.ofE (r_and A.se.fa (B.se.fe h3) fun _ _ => by simp only [evE] <;> rfl), fun _ => W.pt, fun _ => W⟩
      | [], h => simp [mE] at h
      | [_], h => simp [mE] at h
    | _ => simp [mE] at h
  | .or a b, X, sc, e, c, cs, h => by
    cases e with
    | BoolOp o vs p =>
      match vs, h with
      | x :: y :: [], h =>
        simp only [mE, Bool.and_eq_true, decide_eq_true_eq, Bool.not_eq_true'] at h
        obtain ⟨⟨⟨⟨⟨h1, t1⟩, t2⟩, h2⟩, h3⟩, h4⟩ := h
        subst h1
        have A := sndE a x c cs h2
        have B := sndE b y c cs h4
        have W := pw_or' (pos := p) (et := evT C (.or a b)) (A.pt t1) (pw_or1 (B.pt t2)) (evT_or C a b)
        exact ⟨SE.ofE (r_or A.se.fa (pe_one (B.se.fe h3)) fun _ _ => by simp only [evE] <;> rfl), fun _ => W.pt, fun _ => W⟩
      | x :: y :: z :: zs, h =>
        simp only [mE, Bool.and_eq_true, decide_eq_true_eq, Bool.not_eq_true'] at h
        obtain ⟨⟨⟨⟨⟨h1, t1⟩, t2⟩, h2⟩, h3⟩, h5, h4⟩ := h
        subst h1
        have A := sndE a x c cs h2
        have B := sndE b _ c cs h4
        have W := pw_or' (pos := p) (et := evT C (.or a b)) (A.pt t1) (B.pw h5) (evT_or C a b)
        exact ⟨SE.ofE (r_or A.se.fa (B.se.fe h3) fun _ _ => by simp only [evE] <;> rfl), fun _ => W.pt, fun _ => W⟩
      | [], h => simp [mE] at h
      | [_], h => simp [mE] at h
    | _ => simp [mE] at h
  | .ite z a b, X, sc, e, c, cs, h => by
    cases e with
    | IfExp x y w p =>
      simp only [mE, Bool.and_eq_true, Bool.not_eq_true'] at h
      obtain ⟨⟨⟨⟨⟨h1, h2⟩, h3⟩, h4⟩, h5⟩, h6⟩ := h
      exact ⟨SE.ofE (r_ite ((sndE z x c cs h2).pt h1) ((sndE a y c cs h3).se.fe h5) ((sndE b w c cs h4).se.fe h6) (evE_ite C z a b)), (fun q => nomatch q), (fun q => nomatch q)⟩
    | _ => simp [mE] at h
  | .idx a i, X, sc, e, c, cs, h => by
    cases e with
    | Subscript x y p =>
      simp only [mE, Bool.and_eq_true] at h
      obtain ⟨⟨h1, h2⟩, h3⟩ := h
      exact SA.plain (SE.ofE (r_twoE (F := idxD) (sndE a x c cs h1).se.fa (sndE i y c cs h2).se.fa (fun ha hb => pe_ix ix_seq ha hb (plainIx_of h3)) (fun _ _ => by simp only [evE]) fun H ι B μ v u x y d Q S r1 r2 e k => idx_val S r1 r2 e k)) rfl fun _ => rfl
    | _ => simp [mE] at h
  | .slc a lo hi, X, sc, e, c, cs, h => by
    cases e with
    | Subscript x y p =>
      cases y with
      | Slice l u st p2 =>
        cases st with
        | none =>
          simp only [mE, Bool.and_eq_true] at h
          obtain ⟨⟨h1, h2⟩, h3⟩ := h
          exact SA.plain (SE.ofX (r_slc (sndE a x c cs h1).se.fa (sndO lo l c cs h2) (sndO hi u c cs h3) fun _ _ => by simp only [evE])) rfl fun _ => rfl
        | some _ => simp [mE] at h
      | _ => simp [mE] at h
    | _ => simp [mE] at h
  | .rev a, X, sc, e, c, cs, h => by
    cases e with
    | Subscript x y p =>
      cases y with
      | Slice l u st p2 =>
        match l, u, st, h with
        | none, none, some (.UnaryOp o (.Constant k j p3) p4), h =>
          simp only [mE, Bool.and_eq_true, decide_eq_true_eq] at h
          obtain ⟨⟨h1, h2⟩, h3⟩ := h
          subst h1 h2
          exact SA.plain (SE.ofX (r_rev (sndE a x c cs h3).se.fa fun _ _ => by simp only [evE])) rfl fun _ => rfl
        | some _, _, _, h => simp [mE] at h
        | none, some _, _, h => simp [mE] at h
        | none, none, none, h => simp [mE] at h
        | none, none, some e', h =>
          cases e' with
          | UnaryOp o e'' p4 => cases e'' <;> first | (simp [mE] at h; done) | (simp only [mE, Bool.and_eq_true, decide_eq_true_eq] at h; obtain ⟨⟨h1, h2⟩, h3⟩ := h; subst h1 h2; exact SA.plain (SE.ofX (r_rev (sndE a x c cs h3).se.fa fun _ _ => by simp only [evE])) rfl fun _ => rfl)
          | _ => simp [mE] at h
      | _ => simp [mE] at h
    | _ => simp [mE] at h
  | .call f es, X, sc, e, c, cs, h => by
    cases e with
    | Call g xs kws p =>
      cases g with
      | Name x p0 =>
        cases kws with
        | nil =>
          simp only [mE, Bool.and_eq_true] at h
          obtain ⟨h1, h2⟩ := h
          obtain ⟨m, ps, q1, q2, q3, q4⟩ := defM_ok h1
          obtain ⟨g1, g2, g3⟩ := sndEs es xs c cs h2
          have fr : isFresh Tb.T (.call f es) = m.fresh := by
            show freshF Tb.T f = _
            unfold freshF
            rw [q1]
          refine SA.plain ?_ rfl fun _ => rfl
          rw [fr]
          refine SE.ofCl (r_call c q1 q2 (cs.glo x q3) q4 g1 g2 (fun _ _ => by simp only [evE]) fun env μ r hz hr => ?_)
          subst hz
          have : es = [] := List.length_eq_zero_iff.mp g3
          subst this
          simp only [evEs, Option.some.injEq] at hr
          exact hr.symm
        | cons _ _ => simp [mE] at h
      | _ => simp [mE] at h
    | _ => simp [mE] at h
  | .calld f es ds, X, sc, e, c, cs, h => by
    cases e with
    | Call g xs kws p =>
      cases g with
      | Name x p0 =>
        match xs, kws, h with
        | y :: ys, [], h =>
          simp only [mE, Bool.and_eq_true, decide_eq_true_eq] at h
          obtain ⟨⟨h1, h2⟩, h3⟩ := h
          obtain ⟨m, ps, q1, q2, q3, q4⟩ := defM_ok h1
          obtain ⟨g1, g2, g3⟩ := sndEs es (y :: ys) c cs h2
          have fr : isFresh Tb.T (.calld f es ds) = m.fresh := by
            show freshF Tb.T f = _
            unfold freshF
            rw [q1]
          refine SA.plain ?_ rfl fun _ => rfl
          rw [fr]
          exact SE.ofCl (r_calld c q1 q2 (cs.glo x q3) q4 g1 g2 h3 (fun _ _ => by simp only [evE]))
        | [], [], h => simp [mE] at h
        | [], _ :: _, h => simp [mE] at h
        | _ :: _, _ :: _, h => simp [mE] at h
      | _ => simp [mE] at h
    | _ => simp [mE] at h
  | .callk f es ks perm, X, sc, e, c, cs, h => by
    cases e with
    | Call g xs kws p =>
      cases g with
      | Name x p0 =>
        simp only [mE, Bool.and_eq_true, decide_eq_true_eq] at h
        obtain ⟨⟨⟨h1, h2⟩, h3⟩, h4⟩ := h
        obtain ⟨m, ps, q1, q2, q3, q4⟩ := defM_ok h1
        obtain ⟨g1, g2, g3⟩ := sndEs es xs c cs h2
        obtain ⟨k1, k2, k3⟩ := sndKs ks kws c cs h3
        have fr : isFresh Tb.T (.callk f es ks perm) = m.fresh := by
          show freshF Tb.T f = _
          unfold freshF
          rw [q1]
        refine SA.plain ?_ rfl fun _ => rfl
        rw [fr]
        refine SE.ofCl (r_callk c q1 q2 (cs.glo x q3) q4 g1 g2 k1 k2 h4 (fun env μ ds μ' q => ?_) (fun env μ ds μ' q => ?_) (fun env μ r hz hr => ?_) (fun _ _ => by simp only [evE]))
        · rw [evEs_len C es env μ ds μ' q, g3]
        · rw [evEs_len C ks env μ ds μ' q, k3]
        · subst hz
          have : es = [] := List.length_eq_zero_iff.mp g3
          subst this
          simp only [evEs, Option.some.injEq] at hr
          exact hr.symm
      | _ => simp [mE] at h
    | _ => simp [mE] at h
  | .bi b es, X, sc, e, c, cs, h => by
    cases e with
    | Call g xs kws p =>
      cases g with
      | Name x p0 =>
        match xs, kws, h with
        | y :: ys, [], h =>
          simp only [mE, Bool.and_eq_true] at h
          obtain ⟨h1, h2⟩ := h
          obtain ⟨g1, g2⟩ := sndAs es (y :: ys) c cs h2
          rw [List.all_cons, Bool.and_eq_true] at g2
          have cr := cr_bi (X := X) c.calm c.units c.gd b
          refine SA.plain (SE.ofX (r_cb (F := fun μ => biD μ b) g1 (r := biR X.K b) ?_ (fun _ _ => by simp only [evE]) fun H ι B μ vs ds d Q S r e k => bi_val S r e k)) rfl fun _ => rfl
          intro t ht
          by_cases hb : b = .gcd
          · subst hb
            simp only [biM, Bool.and_eq_true, decide_eq_true_eq, Bool.not_eq_true'] at h1
            exact pe_callBfun cr (cs.glo x h1.1.2) (c.gcd x h1.1.1) ht h1.2 (star_cons g2.1 _ _) (star_any _ _ _ g2.2)
          · have h1' : bltM Tb sc x (biNm b) = true := by
              cases b <;> first | exact h1 | exact absurd rfl hb
            obtain ⟨e1, e2, e3⟩ := bltM_ok h1'
            obtain ⟨f1, f2, f3⟩ := biNm_facts b hb
            subst e1
            cases b
            case gcd => exact absurd rfl hb
            case int => exact pe_callTy cr (cs.glo _ e3) (c.blt _ e2) f1 ht f2 f3 (star_cons g2.1 _ _) (star_any _ _ _ g2.2)
            case tuple => exact pe_callTy cr (cs.glo _ e3) (c.blt _ e2) f1 ht f2 f3 (star_cons g2.1 _ _) (star_any _ _ _ g2.2)
            case list => exact pe_callTy cr (cs.glo _ e3) (c.blt _ e2) f1 ht f2 f3 (star_cons g2.1 _ _) (star_any _ _ _ g2.2)
            case dict => exact pe_callTy cr (cs.glo _ e3) (c.blt _ e2) f1 ht f2 f3 (star_cons g2.1 _ _) (star_any _ _ _ g2.2)
            all_goals exact pe_callB cr (cs.glo _ e3) (c.blt _ e2) f1 ht f2 f3 (star_cons g2.1 _ _) (star_any _ _ _ g2.2)
        | [], _, h => simp [mE] at h
        | _ :: _, _ :: _, h => simp [mE] at h
      | _ => simp [mE] at h
    | _ => simp [mE] at h
  | .bits a, X, sc, e, c, cs, h => by
    cases e with
    | Call g xs kws p =>
      cases g with
      | Attribute o at' apos =>
        cases o with
        | Name x p0 =>
          match xs, kws, h with
          | [], [], h =>
            simp only [mE, Bool.and_eq_true, decide_eq_true_eq] at h
            obtain ⟨⟨h1, h2⟩, h3⟩ := h
            subst h1
            exact SA.plain (SE.ofE (r_bits (sndE a _ c cs h3).se.fa h2 fun _ _ => by simp only [evE] <;> rfl)) rfl fun _ => rfl
          | _ :: _, _, h => simp [mE] at h
          | [], _ :: _, h => simp [mE] at h
        | _ => simp [mE] at h
      | _ => simp [mE] at h
    | _ => simp [mE] at h
  | .sset a, X, sc, e, c, cs, h => by
    cases e with
    | Call g xs kws p =>
      cases g with
      | Name x p0 =>
        match xs, kws, h with
        | [.Call (.Name y p1) [z] [] p2], [], h =>
          simp only [mE, Bool.and_eq_true] at h
          obtain ⟨⟨⟨h1, h2⟩, h3⟩, h4⟩ := h
          obtain ⟨e1, e2, e3⟩ := bltM_ok h1
          obtain ⟨d1, d2, d3⟩ := bltM_ok h2
          subst e1 d1
          refine SA.plain (SE.ofX (r_sset c.calm c.units (sndE a z c cs h3).se.fa (star_cons h4 [] X.env) (fun {t} ht => ?_) (fun _ _ => by simp only [evE]))) rfl fun _ => rfl
          have in1 := pe_callTy (p := p1) (pos := p2) (cr_setOfT (X := X) c.calm (by have := c.units; omega)) (cs.glo _ d3) (c.blt _ d2) (by decide +kernel) ht (by decide) (by decide) (star_cons h4 _ _) rfl
          exact pe_callB (cr_sortU (X := X) c.calm c.units) (cs.glo _ e3) (c.blt _ e2) (by decide +kernel) (pa_cons in1 pa_nil rfl) (by decide) (by decide) rfl rfl
        | [], _, h => simp [mE] at h
        | _ :: _ :: _, _, h => simp [mE] at h
        | [_], _ :: _, h => simp [mE] at h
      | _ => simp [mE] at h
    | _ => simp [mE] at h
  | .sdic a, X, sc, e, c, cs, h => by
    cases e with
    | Call g xs kws p =>
      cases g with
      | Name x p0 =>
        match xs, kws, h with
        | [.Call (.Name y p1) [z] [] p2], [], h =>
          simp only [mE, Bool.and_eq_true] at h
          obtain ⟨⟨⟨h1, h2⟩, h3⟩, h4⟩ := h
          obtain ⟨e1, e2, e3⟩ := bltM_ok h1
          obtain ⟨d1, d2, d3⟩ := bltM_ok h2
          subst e1 d1
          refine SA.plain (SE.ofX (r_sdic c.calm c.units (sndE a z c cs h3).se.fa (star_cons h4 [] X.env) (fun {t} ht => ?_) (fun _ _ => by simp only [evE]))) rfl fun _ => rfl
          have in1 := pe_callTy (p := p1) (pos := p2) (cr_dictT (X := X) c.calm c.units) (cs.glo _ d3) (c.blt _ d2) (by decide +kernel) ht (by decide) (by decide) (star_cons h4 _ _) rfl
          exact pe_callB (cr_sortT (X := X) c.calm c.units) (cs.glo _ e3) (c.blt _ e2) (by decide +kernel) (pa_cons in1 pa_nil rfl) (by decide) (by decide) rfl rfl
        | [], _, h => simp [mE] at h
        | _ :: _ :: _, _, h => simp [mE] at h
        | [_], _ :: _, h => simp [mE] at h
      | _ => simp [mE] at h
    | _ => simp [mE] at h
  | .isi a ts, X, sc, e, c, cs, h => by
    cases e with
    | Call g xs kws p =>
      cases g with
      | Name x p0 =>
        match xs, kws, h with
        | [y, z], [], h =>
          simp only [mE, Bool.and_eq_true, decide_eq_true_eq] at h
          obtain ⟨⟨⟨⟨h1, h2⟩, h3⟩, h4⟩, h5⟩ := h
          obtain ⟨e1, e2, e3⟩ := bltM_ok h1
          subst e1
          have A := (sndE a y c cs h2).se.fa
          cases z with
          | Name w pw =>
            match ts, h5 with
            | [t], h5 =>
              obtain ⟨f1, f2, f3⟩ := bltM_ok h5
              subst f1
              exact SA.plain (SE.ofE (r_isi1 A (cs.glo _ e3) (c.blt _ e2) (cs.glo _ f3) (c.blt _ f2) h3 fun _ _ => by simp only [evE])) rfl fun _ => rfl
            | [], h5 => simp at h5
            | _ :: _ :: _, h5 => simp at h5
          | Tuple ws k pw =>
            obtain ⟨ps, f1, f2, f3⟩ := tys_zip ts ws h5
            subst f2
            exact SA.plain (SE.ofE (r_isiT A (cs.glo _ e3) (c.blt _ e2) f1 (fun t ht => ⟨cs.glo _ (f3 t ht).2, c.blt _ (f3 t ht).1⟩) h3 h4 fun _ _ => by simp only [evE])) rfl fun _ => rfl
          | _ => simp at h5
        | [], _, h => simp [mE] at h
        | [_], _, h => simp [mE] at h
        | _ :: _ :: _ :: _, _, h => simp [mE] at h
        | [_, _], _ :: _, h => simp [mE] at h
      | _ => simp [mE] at h
    | _ => simp [mE] at h
  | .comp elt tg src ifs own, X, sc, e, c, cs, h => by
    cases e with
    | ListComp e' gs scope p =>
      match gs, h with
      | [⟨tg', iter', ifs', as⟩], h =>
        simp only [mE, Bool.and_eq_true, Bool.not_eq_true', decide_eq_true_eq] at h
        obtain ⟨⟨⟨⟨⟨⟨⟨⟨h1, h2⟩, h3⟩, h4⟩, h5⟩, h6⟩, h7⟩, h8⟩, h9⟩ := h
        subst h9
        have own2 : (ownN X.N own).map (·.2) = own := by
          unfold ownN
          rw [List.map_map]
          exact List.map_id' own
        have hgs : ∀ j, j ∈ tg.slots → j ∈ own := fun j hj => of_decide_eq_true (List.all_eq_true.mp h7 j hj)
        have bo := blkOk_by h6
        have bo' : BlkOk X.N X.env.scope scope (ownN X.N own) := ⟨bo.kind, bo.uniq, bo.ix, fun y hy e => cs.up _ (bo.free y hy e), bo.own⟩
        have z := pe_lc (pos := p) (wi := tI X.K (evI C src)) (g := tG X.K tg) (tt := tB X.K (evCs C ifs)) (te := tE X.K (evE C elt)) c.calm c.nd (sndI src tg' iter' c cs h1) bo'
          (fun s H C' cl fp => g_ok (X := X.blk s H scope (compEnvC scope cl C' X.env) fp) c.calm c.nd (cs.blk s H C' cl fp) tg tg' h2)
          (fun s H C' cl fp => sndCs ifs ifs' (c.blk s H scope (compEnvC scope cl C' X.env) fp) (cs.blk s H C' cl fp) h3)
          (fun s H C' cl fp => (sndE elt e' (c.blk s H scope (compEnvC scope cl C' X.env) fp) (cs.blk s H C' cl fp) h4).se.fe h5) (setFree_of h8 X.env)
        rw [own2] at z
        have q : evE C (.comp elt tg src ifs own) = compEv tg own (evI C src) (evCs C ifs) (evE C elt) := by
          funext env μ
          simp only [evE, compEv]
        refine SA.plain (SE.ofX (PEcon z fun σ H Q w => lc_read hgs ?_)) rfl fun _ => rfl
        rw [← q]
        exact w
      | [], h => simp [mE] at h
      | _ :: _ :: _, h => simp [mE] at h
    | _ => simp [mE] at h
theorem sndAs : ∀ (ms : List ME) {X : Cx} {sc : Scope} (es : List Expr), CxE Tb C n X → CxS X sc → mAs Tb X.N sc ms es = true → PA X es (tAs X.K (evEs C ms)) ∧ es.all noStar = true
  | [], X, sc, es, c, cs, h => by
    cases es with
    | nil => exact ⟨PAcon pas_nil fun _ _ _ h => by simpa only [evEs] using h, rfl⟩
    | cons _ _ => simp [mAs] at h
  | m :: ms, X, sc, es, c, cs, h => by
    cases es with
    | nil => simp [mAs] at h
    | cons e es =>
      simp only [mAs, Bool.and_eq_true] at h
      obtain ⟨⟨h1, h3⟩, h4⟩ := h
      obtain ⟨g1, g2⟩ := sndAs ms es c cs h4
      have A := sndE m e c cs h3
      refine ⟨?_, by rw [List.all_cons, h1, g2]; rfl⟩
      have z := pas_cons A.se.fa g1 h1
      have q : evEs C (m :: ms) = fun env μ => (evE C m env μ).bind fun p => (evEs C ms env p.2).map fun q => (p.1 :: q.1, q.2) := by
        funext env μ
        simp only [evEs]
      rw [q]
      exact z
theorem sndKs : ∀ (ms : List ME) {X : Cx} {sc : Scope} (kws : List Keyword), CxE Tb C n X → CxS X sc → mKs Tb X.N sc ms kws = true → PK X kws (tEs X.K (evEs C ms)) ∧ kwPlain kws = true ∧ ms.length = (kwNames kws).length
  | [], X, sc, es, c, cs, h => by
    cases es with
    | nil => exact ⟨PKcon pks_nil fun _ _ _ h => by simpa only [evEs] using h, rfl, rfl⟩
    | cons _ _ => simp [mKs] at h
  | m :: ms, X, sc, es, c, cs, h => by
    cases es with
    | nil => simp [mKs] at h
    | cons e es =>
      obtain ⟨a, v, kp⟩ := e
      cases a with
      | none => simp [mKs] at h
      | some a =>
        simp only [mKs, Bool.and_eq_true, Bool.not_eq_true'] at h
        obtain ⟨⟨⟨h1, h2⟩, h3⟩, h4⟩ := h
        obtain ⟨g1, g2, g3⟩ := sndKs ms es c cs h4
        have A := sndE m v c cs h3
        refine ⟨?_, by show (noStar v && kwPlain es) = true; rw [h1, g2]; rfl, by show _ = (a :: kwNames es).length; rw [List.length_cons, List.length_cons, g3]⟩
        have z := pks_cons (nm := some a) (kp := kp) (A.se.fe h2) g1
        have q : evEs C (m :: ms) = fun env μ => (evE C m env μ).bind fun p => (evEs C ms env p.2).map fun q => (p.1 :: q.1, q.2) := by
          funext env μ
          simp only [evEs]
        rw [q]
        exact z
theorem sndCs : ∀ (ms : List ME) {X : Cx} {sc : Scope} (es : List Expr), CxE Tb C n X → CxS X sc → mCs Tb X.N sc ms es = true → PTs X es (tB X.K (evCs C ms))
  | [], X, sc, es, c, cs, h => by
    cases es with
    | nil =>
      refine ⟨fun pins s σ H Q I w => pts_nil.run pins s σ H Q I ?_⟩
      obtain ⟨env, μ, ι, B, B0, b, μ', a, e, k⟩ := w
      simp only [evCs, Option.some.injEq, Prod.mk.injEq] at e
      obtain ⟨e1, e2⟩ := e
      subst e1 e2
      exact k H ι (Nx.refl a.s)
    | cons _ _ => simp [mCs] at h
  | m :: ms, X, sc, es, c, cs, h => by
    cases es with
    | nil => simp [mCs] at h
    | cons e es =>
      simp only [mCs, Bool.and_eq_true, List.isEmpty_iff] at h
      obtain ⟨⟨⟨h1, h2⟩, h3⟩, h4⟩ := h
      subst h3
      cases es with
      | cons _ _ => simp [mCs] at h4
      | nil =>
        have A := (sndE m e c cs h2).pt h1
        have q : evCs C [m] = evT C m := by
          funext env μ
          exact evCs_one C m env μ
        rw [q]
        exact pts_one A
theorem sndI : ∀ (m : MI) {X : Cx} {sc : Scope} (tg e : Expr), CxE Tb C n X → CxS X sc → mI Tb X.N sc m tg e = true → PI X tg e (tI X.K (evI C m))
  | .seq m, X, sc, tg, e, c, cs, h => by
    simp only [mI] at h
    have A := (sndE m e c cs h).se
    refine i_seq A ov_is (fun z i q => ?_) (ov_shape C m) fun _ _ => by simp only [evI]
    rw [q] at z
    cases z
  | .rng es, X, sc, tg, e, c, cs, h => by
    cases e with
    | Call g xs kws p =>
      cases g with
      | Name x p0 =>
        match xs, kws, h with
        | y :: ys, [], h =>
          simp only [mI, Bool.and_eq_true, decide_eq_true_eq] at h
          obtain ⟨⟨h1, h2⟩, h3⟩ := h
          obtain ⟨e1, e2, e3⟩ := bltM_ok h1
          subst e1
          obtain ⟨g1, g2⟩ := sndAs es (y :: ys) c cs h2
          match es, ys, h2, h3, g1, g2 with
          | [a], [], h2, _, g1, g2 =>
            rw [List.all_cons, Bool.and_eq_true] at g2
            refine i_rng1 (cs.glo _ e3) (c.blt _ e2) g1 g2.1 fun env μ r q => ?_
            rcases rng_shape C [a] env μ r q with ⟨j, μ', z⟩ | ⟨i, j, μ', z, _⟩
            · exact ⟨j, μ', z⟩
            · have l := evEs_len C [a] env μ _ _ z
              simp at l
          | [a, b], [w], h2, _, g1, g2 =>
            rw [List.all_cons, List.all_cons, Bool.and_eq_true, Bool.and_eq_true] at g2
            refine i_rng2 (cs.glo _ e3) (c.blt _ e2) g1 g2.1 g2.2.1 fun env μ r q => ?_
            rcases rng_shape C [a, b] env μ r q with ⟨j, μ', z, _⟩ | ⟨i, j, μ', z⟩
            · have l := evEs_len C [a, b] env μ _ _ z
              simp at l
            · exact ⟨i, j, μ', z⟩
          | [], _, h2, _, _, _ => simp [mAs] at h2
          | [_], _ :: _, h2, _, _, _ => simp [mAs] at h2
          | [_, _], [], h2, _, _, _ => simp [mAs] at h2
          | [_, _], _ :: _ :: _, h2, _, _, _ => simp [mAs] at h2
          | _ :: _ :: _ :: _, _, _, h3, _, _ => simp at h3
        | [], _, h => simp [mI] at h
        | _ :: _, _ :: _, h => simp [mI] at h
      | _ => simp [mI] at h
    | _ => simp [mI] at h
  | .zip a b, X, sc, tg, e, c, cs, h => by
    cases tg with
    | Tuple ts k pt =>
      cases e with
      | Call g xs kws p =>
        cases g with
        | Name x p0 =>
          match xs, kws, h with
          | [y, z], [], h =>
            simp only [mI, Bool.and_eq_true] at h
            obtain ⟨⟨⟨⟨h1, h2⟩, h3⟩, h4⟩, h5⟩ := h
            obtain ⟨e1, e2, e3⟩ := bltM_ok h1
            subst e1
            exact i_zip (cs.glo _ e3) (c.blt _ e2) (sndE a y c cs h2).se (sndE b z c cs h3).se h4 h5 ov_is ov_is (ov_shape C a) (ov_shape C b) fun _ _ => by simp only [evI] <;> rfl
          | [], _, h => simp [mI] at h
          | [_], _, h => simp [mI] at h
          | _ :: _ :: _ :: _, _, h => simp [mI] at h
          | [_, _], _ :: _, h => simp [mI] at h
        | _ => simp [mI] at h
      | _ => simp [mI] at h
    | _ => simp [mI] at h
  | .zip3 a b d, X, sc, tg, e, c, cs, h => by
    cases tg with
    | Tuple ts k pt =>
      cases e with
      | Call g xs kws p =>
        cases g with
        | Name x p0 =>
          match xs, kws, h with
          | [y, z, u], [], h =>
            simp only [mI, Bool.and_eq_true] at h
            obtain ⟨⟨⟨⟨⟨⟨h1, h2⟩, h3⟩, h4⟩, h5⟩, h6⟩, h7⟩ := h
            obtain ⟨e1, e2, e3⟩ := bltM_ok h1
            subst e1
            exact i_zip3 (cs.glo _ e3) (c.blt _ e2) (sndE a y c cs h2).se (sndE b z c cs h3).se (sndE d u c cs h4).se h5 h6 h7 fun _ _ => by simp only [evI] <;> rfl
          | [], _, h => simp [mI] at h
          | [_], _, h => simp [mI] at h
          | [_, _], _, h => simp [mI] at h
          | _ :: _ :: _ :: _ :: _, _, h => simp [mI] at h
          | [_, _, _], _ :: _, h => simp [mI] at h
        | _ => simp [mI] at h
      | _ => simp [mI] at h
    | _ => simp [mI] at h
  | .comb a, X, sc, tg, e, c, cs, h => by
    cases e with
    | Call g xs kws p =>
      cases g with
      | Name x p0 =>
        match xs, kws, h with
        | [y, z], [], h =>
          simp only [mI, Bool.and_eq_true, decide_eq_true_eq, Bool.not_eq_true'] at h
          obtain ⟨⟨⟨⟨⟨h1, h2⟩, h3⟩, h4⟩, h5⟩, h6⟩ := h
          obtain ⟨k, j, q, ez, ek⟩ := isTwo_ok h5
          have s2 : SE X false false z (evE C (.int 2)) := by
            rw [ez, ek]
            exact SE.ofE (r_c pe_int (fun _ _ => .int 2) fun _ _ => by simp only [evE])
          exact i_comb (cs.glo x h2) (c.cmb x h1) h3 (sndE a y c cs h4).se s2 h6 (by rw [ez]; rfl) ov_is (ov_shape C a) (fun _ _ => by simp only [evE]) fun _ _ => by simp only [evI]
        | [], _, h => simp [mI] at h
        | [_], _, h => simp [mI] at h
        | _ :: _ :: _ :: _, _, h => simp [mI] at h
        | [_, _], _ :: _, h => simp [mI] at h
      | _ => simp [mI] at h
    | _ => simp [mI] at h
  | .enum a, X, sc, tg, e, c, cs, h => by
    cases tg with
    | Tuple ts k pt =>
      cases e with
      | Call g xs kws p =>
        cases g with
        | Name x p0 =>
          match xs, kws, h with
          | [y], [], h =>
            simp only [mI, Bool.and_eq_true] at h
            obtain ⟨⟨h1, h2⟩, h3⟩ := h
            obtain ⟨e1, e2, e3⟩ := bltM_ok h1
            subst e1
            exact i_enum (cs.glo _ e3) (c.blt _ e2) (sndE a y c cs h2).se h3 ov_is (ov_shape C a) fun _ _ => by simp only [evI]
          | [], _, h => simp [mI] at h
          | _ :: _ :: _, _, h => simp [mI] at h
          | [_], _ :: _, h => simp [mI] at h
        | _ => simp [mI] at h
      | _ => simp [mI] at h
    | _ => simp [mI] at h
theorem sndO : ∀ (m : Option ME) {X : Cx} {sc : Scope} (e : Option Expr), CxE Tb C n X → CxS X sc → mO Tb X.N sc m e = true → PO X e (tO X.K (evO C m))
  | none, X, sc, e, c, cs, h => by
    cases e with
    | none => exact POcon pos_none fun _ _ _ h => by simpa only [evO] using h
    | some _ => simp [mO] at h
  | some m, X, sc, e, c, cs, h => by
    cases e with
    | none => simp [mO] at h
    | some e =>
      simp only [mO] at h
      exact pos_some (sndE m e c cs h).se.fa fun _ _ => by simp only [evO] <;> rfl
theorem sndEs : ∀ (ms : List ME) {X : Cx} {sc : Scope} (es : List Expr), CxE Tb C n X → CxS X sc → mEs Tb X.N sc ms es = true → PA X es (tEs X.K (evEs C ms)) ∧ es.all noStar = true ∧ ms.length = es.length
  | [], X, sc, es, c, cs, h => by
    cases es with
    | nil => exact ⟨PAcon pes_nil fun _ _ _ h => by simpa only [evEs] using h, rfl, rfl⟩
    | cons _ _ => simp [mEs] at h
  | m :: ms, X, sc, es, c, cs, h => by
    cases es with
    | nil => simp [mEs] at h
    | cons e es =>
      simp only [mEs, Bool.and_eq_true, Bool.not_eq_true'] at h
      obtain ⟨⟨⟨h1, h2⟩, h3⟩, h4⟩ := h
      obtain ⟨g1, g2, g3⟩ := sndEs ms es c cs h4
      have A := sndE m e c cs h3
      refine ⟨?_, by rw [List.all_cons, h1, g2]; rfl, by rw [List.length_cons, List.length_cons, g3]⟩
      have z := pes_cons (A.se.fe h2) g1 h1
      have q : evEs C (m :: ms) = fun env μ => (evE C m env μ).bind fun p => (evEs C ms env p.2).map fun q => (p.1 :: q.1, q.2) := by
        funext env μ
        simp only [evEs]
      rw [q]
      exact z
end
end
end DI
set_option Elab.async false
set_option linter.all false
set_option maxRecDepth 100000
set_option maxHeartbeats 4000000
/-! DI15: stores of several names at once; the rules of statements -/
namespace DI
open PySem PySem.Spec PyProof.Rows L2
def swLine (ts : List Expr) : Nat := (ts.head?.map (·.pos.line)).getD 0
def swNames (sc : Scope) (ts : List Expr) : List Str := ts.filterMap fun
    | .Name id pos => if sc.names.lookup id == some .local && pos.line == swLine ts then some id else none
    | _ => none
def isStarB : Expr → Bool
  | .Starred .. => true
  | _ => false
def swTest (sc : Scope) (ts vs : List Expr) : Bool := (ts.length == 2 || ts.length == 3) && vs.length == ts.length && !(vs.any isStarB) && (swNames sc ts).length == ts.length && (swNames sc ts).eraseDups.length == (swNames sc ts).length && !(vs.all (foldedForSure 8))
theorem bk_fun {env : Env} (hk : env.scope.kind = .function) : (env.blockKind != .function) = false := by
  unfold Env.blockKind
  rw [hk]
  rfl
theorem any_star (vs : List Expr) : (vs.any fun | .Starred .. => true | _ => false) = vs.any isStarB := by
  congr 1
theorem sw_shape {env : Env} {ts vs : List Expr} {k k2 : Nat} {p p2 : Pos} (hk : env.scope.kind = .function) : swappedStores [.Tuple ts k p] (.Tuple vs k2 p2) env =
    (if (!(ts.length == 2 || ts.length == 3) || vs.length != ts.length || false) = true then pure none else if vs.any isStarB = true then pure none
      else if ((swNames env.scope ts).length != ts.length || (swNames env.scope ts).eraseDups.length != (swNames env.scope ts).length) = true then pure none
      else if vs.all (foldedForSure 8) = true then pure none
      else if vs.all (constantsAlone 8) = true then (do unsupported "assign.tuple-of-constant-expressions:order-of-the-stores"; pure (some (swNames env.scope ts))) else pure (some (swNames env.scope ts))) := by
  unfold swappedStores
  dsimp only
  rw [bk_fun hk]
  rfl
theorem sw_none {env : Env} {ts vs : List Expr} {k k2 : Nat} {p p2 : Pos} (hk : env.scope.kind = .function) (h : swTest env.scope ts vs = false) : swappedStores [.Tuple ts k p] (.Tuple vs k2 p2) env = pure none := by
  rw [sw_shape hk]
  unfold swTest at h
  cases h1 : (ts.length == 2 || ts.length == 3) <;> cases h2 : (vs.length == ts.length) <;> cases h3 : vs.any isStarB <;> cases h4 : ((swNames env.scope ts).length == ts.length) <;> cases h5 : ((swNames env.scope ts).eraseDups.length == (swNames env.scope ts).length) <;> cases h6 : vs.all (foldedForSure 8) <;>
    simp only [h1, h2, h3, h4, h5, h6, bne] at h ⊢ <;> first | rfl | (exact absurd h (by decide))
theorem sw_some {env : Env} {ts vs : List Expr} {k k2 : Nat} {p p2 : Pos} (hk : env.scope.kind = .function) (h : swTest env.scope ts vs = true) (hc : vs.all (constantsAlone 8) = false) : swappedStores [.Tuple ts k p] (.Tuple vs k2 p2) env = pure (some (swNames env.scope ts)) := by
  rw [sw_shape hk]
  unfold swTest at h
  simp only [Bool.and_eq_true, Bool.not_eq_true'] at h
  obtain ⟨⟨⟨⟨⟨h1, h2⟩, h3⟩, h4⟩, h5⟩, h6⟩ := h
  simp only [h1, h2, h3, h4, h5, h6, hc, bne]
  rfl
end DI
set_option Elab.async false
set_option linter.all false
set_option maxRecDepth 100000
set_option maxHeartbeats 4000000
/-! DI16: the rules of statements -/
namespace DI
open PySem PySem.Spec PyProof.Rows L2
section
variable {K : PySem.W.Frag} {H H0 H1 H' : Hp} {ι ι0 ι1 ι' : Cells} {B B0 B1 B' : List Addr} {μ μ1 μ' : Mem} {σ : L2.St} {env : Ev} {v : V} {d : D} {Q : VK}
theorem Ext.shrink (x : Ext H0 ι0 B0 H ι B) (h0 : ∀ a, a ∈ B0 → a ∈ B1) (h1 : ∀ a, a ∈ B1 → a ∈ B) : Ext H0 ι0 B0 H ι B1 where
  fr := fun a o h => by
    obtain ⟨k, e⟩ := cut_some (x.fr a o h)
    exact cut_of (held_mono k h1) e
  cells := x.cells
  sub := h0
  dom := x.dom
  new := fun a h n => x.new a (h1 a h) n
theorem up_shrink (h1 : ∀ a, a ∈ B1 → a ∈ B) : Up (cut H ι B) ι (cut H ι B1) ι := ⟨fun a o h => by
    obtain ⟨k, e⟩ := cut_some h
    exact cut_of (held_mono k h1) e, fun _ x e => ⟨x, e, .inr rfl⟩⟩
theorem Sim.shrink (S : Sim K H ι B μ) (h1 : ∀ a, a ∈ B1 → a ∈ B) : Sim K H ι B1 μ where
  len := S.len
  inj := S.inj
  apart := fun a h q => S.apart a h (h1 a q)
  there := S.there
  busy := fun a h => S.busy a (h1 a h)
  cell := fun n ds h => by
    obtain ⟨a, vs, e1, e2, r⟩ := S.cell n ds h
    exact ⟨a, vs, e1, e2, r.up (up_shrink h1)⟩
theorem KE.inn (k : KE K H0 ι0 B0 μ' d Q) (x : Ext H0 ι0 B0 H ι B) (kp : Keep B0 H0 H) : KE K H ι B μ' d Q := fun v H' ι' n r =>
  k v H' ι' ⟨(x.trans n.x).shrink (fun _ h => h) x.sub, kp.trans (n.k.mono x.sub), n.s.shrink x.sub⟩ (r.up (up_shrink x.sub))
theorem KF.inn {ds : List D} (k : KF K H0 ι0 B0 μ' ds Q) (x : Ext H0 ι0 B0 H ι B) (kp : Keep B0 H0 H) : KF K H ι B μ' ds Q := fun p vs H' ι' hp x' kk S hl r => by
  have sb : ∀ a, a ∈ p :: B0 → a ∈ p :: B := fun a h => (List.mem_cons.mp h).elim (fun e => by rw [e]; exact List.mem_cons_self) fun e => List.mem_cons_of_mem _ (x.sub a e)
  exact k p vs H' ι' (x.dom p hp) ((x.trans x').shrink (fun _ h => List.mem_cons_of_mem _ h) sb) (kp.trans (kk.mono x.sub)) (S.shrink sb) hl (r.up (up_shrink sb))
theorem KX.inn (k : KX K H0 ι0 B0 μ' d Q) (x : Ext H0 ι0 B0 H ι B) (kp : Keep B0 H0 H) : KX K H ι B μ' d Q := by
  cases d with
  | lst ds => exact KF.inn k x kp
  | _ => exact KE.inn k x kp
/-- at a point of a def that was entered at H0 -/
structure Fat (K : PySem.W.Frag) (H0 : Hp) (ι0 : Cells) (B0 : List Addr) (H : Hp) (ι : Cells) (B : List Addr) (μ : Mem) (σ : L2.St) (env : Ev) : Prop where
  x : Ext H0 ι0 B0 H ι B
  k : Keep B0 H0 H
  a : At K H ι B B0 μ σ env
theorem Fat.nx (f : Fat K H0 ι0 B0 H ι B μ σ env) (n : Nx K H ι B H1 ι1 μ1) : Fat K H0 ι0 B0 H1 ι1 B μ1 σ env := ⟨f.x.trans n.x, f.k.trans (n.k.mono f.x.sub), f.a.nx n⟩
theorem cell_at {n : Nat} {ds : List D} (S : Sim K H ι B μ) (r : RepA K H ι B v (.ref n)) (e : (μ[n]?).join = some ds) : ∃ a vs, v = .ref a ∧ ι[n]? = some (some a) ∧ H a = some (.lst vs) ∧ Reps K (cut H ι B) ι vs ds := by
  cases r with
  | rep r =>
    cases r with
    | @ref _ _ x e1 h =>
      cases q : μ[n]? with
      | none => rw [q] at e; cases e
      | some y =>
        rw [q] at e
        have e2 : y = some ds := e
        rw [e2] at q
        obtain ⟨a, vs, h1, h2, r⟩ := S.cell n ds q
        rw [h1] at e1
        cases e1
        exact ⟨a, vs, h a rfl, h1, h2, r⟩
theorem Sim.cset {n : Nat} {a : Addr} {vs : List V} {ds : List D} (S : Sim K H ι B μ) (e1 : ι[n]? = some (some a)) (r : Reps K (cut H ι B) ι vs ds) : Sim K (upd H a (.lst vs)) ι B (μ.set n (some ds)) := by
  have ha : some a ∈ ι := List.mem_of_getElem? e1
  have cw : cut (upd H a (.lst vs)) ι B = cut H ι B := cut_write (.inl ha)
  refine ⟨by rw [List.length_set]; exact S.len, S.inj, S.apart, fun b hb => ?_, fun b hb => ?_, fun m es h => ?_⟩
  · by_cases e : b = a
    · rw [e]; exact ⟨_, upd_same⟩
    · rw [upd_ne e]; exact S.there b hb
  · have e : b ≠ a := fun e => S.apart a ha (by rw [← e]; exact hb)
    rw [upd_ne e]; exact S.busy b hb
  · rw [cw]
    by_cases hm : n = m
    · subst hm
      have hl : n < μ.length := by
        have := (List.getElem?_eq_some_iff.mp h).1
        rw [List.length_set] at this
        exact this
      rw [List.getElem?_set_self hl] at h
      cases h
      exact ⟨a, vs, e1, upd_same, r⟩
    · rw [List.getElem?_set_ne hm] at h
      obtain ⟨b, us, f1, f2, f3⟩ := S.cell m es h
      refine ⟨b, us, f1, ?_, f3⟩
      rw [upd_ne fun e => hm (S.inj n m a e1 (by rw [← e]; exact f1))]
      exact f2
theorem Ext.cwrite {a : Addr} {o : HO} (ha : some a ∈ ι) (he : H a ≠ none) : Ext H ι B (upd H a o) ι B where
  fr := by rw [cut_write (.inl ha)]; exact Same.refl _
  cells := fun _ x e => ⟨x, e, .inr rfl⟩
  sub := fun _ h => h
  dom := fun b hb => by
    by_cases e : b = a
    · rw [e, upd_same] at hb; cases hb
    · rw [upd_ne e] at hb; exact hb
  new := fun b h n => absurd h n
/-- a cell is written: a step -/
theorem nx_cset {n : Nat} {a : Addr} {vs ws : List V} {ds : List D} (S : Sim K H ι B μ) (e1 : ι[n]? = some (some a)) (h : H a = some (.lst ws)) (r : Reps K (cut H ι B) ι vs ds) : Nx K H ι B (upd H a (.lst vs)) ι (μ.set n (some ds)) :=
  ⟨Ext.cwrite (List.mem_of_getElem? e1) (by rw [h]; exact fun z => nomatch z), fun b hb => upd_ne fun e => S.apart a (List.mem_of_getElem? e1) (by rw [← e]; exact hb), S.cset e1 r⟩
/-- a list of one's own is written -/
theorem REnv.oset {i : Nat} {a : Addr} {vs : List V} {ds ds' : List D} (R : REnv K H ι B B0 σ env) (he : env[i]? = some (.own ds)) (hs : σ[i]? = some (some (.ref a))) (hb : a ∈ B) (hb0 : a ∉ B0) (r : Reps K (cut H ι B) ι vs ds') :
    REnv K (upd H a (.lst vs)) ι B B0 σ (env.set i (.own ds')) := by
  have cw : cut (upd H a (.lst vs)) ι B = cut H ι B := cut_write (.inr hb)
  have hl : i < env.length := (List.getElem?_eq_some_iff.mp he).1
  have old : ∀ (j : Nat) (es : List D), (env.set i (.own ds'))[j]? = some (.own es) → ∃ es', env[j]? = some (.own es') := fun j es h => by
    by_cases hj : i = j
    · exact ⟨ds, by rw [← hj]; exact he⟩
    · rw [List.getElem?_set_ne hj] at h; exact ⟨es, h⟩
  refine ⟨by rw [List.length_set]; exact R.len, fun j d h => ?_, fun j es h => ?_, fun j k es fs b h1 h2 h3 h4 => ?_⟩
  · rw [cw]
    by_cases hj : i = j
    · subst hj
      rw [List.getElem?_set_self hl] at h; cases h
    · rw [List.getElem?_set_ne hj] at h; exact R.val j d h
  · rw [cw]
    by_cases hj : i = j
    · subst hj
      rw [List.getElem?_set_self hl] at h
      cases h
      exact ⟨a, vs, hs, hb, hb0, upd_same, r⟩
    · rw [List.getElem?_set_ne hj] at h
      obtain ⟨b, us, f1, f2, f3, f4, f5⟩ := R.own j es h
      refine ⟨b, us, f1, f2, f3, ?_, f5⟩
      rw [upd_ne fun e => hj (R.sep i j ds es a he h hs (by rw [← e]; exact f1))]
      exact f4
  · obtain ⟨es', g1⟩ := old j es h1
    obtain ⟨fs', g2⟩ := old k fs h2
    exact R.sep j k es' fs' b g1 g2 h3 h4
theorem REnv.onew {i : Nat} {p : Addr} {vs : List V} {ds : List D} (R : REnv K H ι B B0 σ env) (np : p ∉ B) (hb : p ∈ B') (hb0 : p ∉ B0) (hl : H' p = some (.lst vs)) (r : Reps K (cut H' ι' B') ι' vs ds) (x : Ext H ι B H' ι' B') (k : Keep B H H') :
    REnv K H' ι' B' B0 (σ.set i (some (.ref p))) (env.set i (.own ds)) := by
  have R' := R.ext x k
  refine ⟨by rw [List.length_set, List.length_set]; exact R.len, fun j d h => ?_, fun j es h => ?_, fun j k' es fs b h1 h2 h3 h4 => ?_⟩
  · by_cases hj : i = j
    · subst hj
      have hl' : i < env.length := by
        have := (List.getElem?_eq_some_iff.mp h).1
        rw [List.length_set] at this
        exact this
      rw [List.getElem?_set_self hl'] at h; cases h
    · rw [List.getElem?_set_ne hj] at h ⊢; exact R'.val j d h
  · by_cases hj : i = j
    · subst hj
      have hl' : i < env.length := by
        have := (List.getElem?_eq_some_iff.mp h).1
        rw [List.length_set] at this
        exact this
      rw [List.getElem?_set_self hl'] at h
      cases h
      exact ⟨p, vs, List.getElem?_set_self (by rw [← R.len]; exact hl'), hb, hb0, hl, r⟩
    · rw [List.getElem?_set_ne hj] at h ⊢; exact R'.own j es h
  · by_cases hj : i = j
    · by_cases hk : i = k'
      · exact hj.symm.trans hk
      · subst hj
        have hl' : i < σ.length := by
          have := (List.getElem?_eq_some_iff.mp h3).1
          rw [List.length_set] at this
          exact this
        rw [List.getElem?_set_self hl'] at h3
        cases h3
        rw [List.getElem?_set_ne hk] at h2 h4
        obtain ⟨b', us, f1, f2, _⟩ := R.own k' fs h2
        rw [h4] at f1
        cases f1
        exact absurd f2 np
    · by_cases hk : i = k'
      · subst hk
        have hl' : i < σ.length := by
          have := (List.getElem?_eq_some_iff.mp h4).1
          rw [List.length_set] at this
          exact this
        rw [List.getElem?_set_self hl'] at h4
        cases h4
        rw [List.getElem?_set_ne hj] at h1 h3
        obtain ⟨b', us, f1, f2, _⟩ := R.own j es h1
        rw [h3] at f1
        cases f1
        exact absurd f2 np
      · rw [List.getElem?_set_ne hj] at h1 h3
        rw [List.getElem?_set_ne hk] at h2 h4
        exact R.sep j k' es fs b h1 h2 h3 h4
end
def postS (K : PySem.W.Frag) (H0 : Hp) (ι0 : Cells) (B0 : List Addr) (fr : Bool) (H : Hp) (ι : Cells) (B : List Addr) (D : Ends) (f : Fl) (μ' : Mem) : Prop := match f with
  | .nx e => ∀ σ' H' ι' B', Fat K H0 ι0 B0 H' ι' B' μ' σ' e → Ext H ι B H' ι' B' → D.nx σ' H'
  | .bk e => ∀ σ' H' ι' B', Fat K H0 ι0 B0 H' ι' B' μ' σ' e → Ext H ι B H' ι' B' → D.bk σ' H'
  | .ct e => ∀ σ' H' ι' B', Fat K H0 ι0 B0 H' ι' B' μ' σ' e → Ext H ι B H' ι' B' → D.ct σ' H'
  | .rt d => if fr = true then KX K H0 ι0 B0 μ' d D.rt else KE K H0 ι0 B0 μ' d D.rt
def tS (K : PySem.W.Frag) (H0 : Hp) (ι0 : Cells) (B0 : List Addr) (fr : Bool) (ev : Ev → Mem → Option (Fl × Mem)) : TS := fun D σ H => ∃ env μ ι B f μ', Fat K H0 ι0 B0 H ι B μ σ env ∧ ev env μ = some (f, μ') ∧ postS K H0 ι0 B0 fr H ι B D f μ'
section
variable {X : Cx} {H0 : Hp} {ι0 : Cells} {B0 : List Addr} {fr : Bool} {e tg c iter : Expr} {es : List Expr} {body sa sb : List Stmt} {st : Stmt} {ea eb : Ev → Mem → Option (D × Mem)} {et : Ev → Mem → Option (Bool × Mem)} {evs : Ev → Mem → Option (List D × Mem)} {ev ev1 ev2 : Ev → Mem → Option (Fl × Mem)} {pos : Pos} {te : TE} {i : Nat}
/-- what was wanted further out is wanted here -/
theorem postS.back {K : PySem.W.Frag} {H H1 : Hp} {ι ι1 : Cells} {B B1 : List Addr} {D : Ends} {f : Fl} {μ' : Mem} (p : postS K H0 ι0 B0 fr H ι B D f μ') (x : Ext H ι B H1 ι1 B1) : postS K H0 ι0 B0 fr H1 ι1 B1 D f μ' := by
  cases f with
  | nx e => exact fun σ' H' ι' B' F y => p σ' H' ι' B' F (x.trans y)
  | bk e => exact fun σ' H' ι' B' F y => p σ' H' ι' B' F (x.trans y)
  | ct e => exact fun σ' H' ι' B' F y => p σ' H' ι' B' F (x.trans y)
  | rt d => exact p
theorem s_asg {g : MG} (he : PE X e (tE X.K ea)) (hg : PG X tg (tG X.K g)) (hs : swapsWithSole [tg] e pos.line X.env = pure false) (hw : swappedStores [tg] e X.env = pure none) (h1 : (assignEach [tg] X.env).map (·.2) = [assign tg X.env])
    (hev : ∀ env μ, ev env μ = (ea env μ).bind fun p => (bindG g p.1 env).map fun e1 => (.nx e1, p.2)) : PS X (.Assign [tg] e pos) (tS X.K H0 ι0 B0 fr ev) :=
  PScon (ps_asg he hg hs hw h1) fun D σ H ⟨env, μ, ι, B, f, μ', F, e, p⟩ => by
    rw [hev] at e
    obtain ⟨⟨x, μ1⟩, e1, e⟩ := Option.bind_eq_some_iff.mp e
    obtain ⟨env', e2, e3⟩ := Option.map_eq_some_iff.mp e
    cases e3
    exact ⟨env, μ, ι, B, B0, x, _, F.a, e1, fun v H' ι' n r => ⟨env, ι', B, B0, _, x, env', F.a.nx n, r, e2, fun σ' a' _ _ => p σ' H' ι' B ⟨(F.nx n).x, (F.nx n).k, a'⟩ n.x⟩⟩
theorem s_name (h : PS X st (tAsg te (gName i))) (hte : ∀ σ H Q, tE X.K ea σ H Q → te σ H Q) (hev : ∀ env μ, ev env μ = (ea env μ).bind fun p => (bindG (.nm i) p.1 env).map fun e1 => (.nx e1, p.2)) : PS X st (tS X.K H0 ι0 B0 fr ev) :=
  PScon h fun D σ H ⟨env, μ, ι, B, f, μ', F, e, p⟩ => by
    rw [hev] at e
    obtain ⟨⟨x, μ1⟩, e1, e⟩ := Option.bind_eq_some_iff.mp e
    cases e
    exact hte _ _ _ ⟨env, μ, ι, B, B0, x, _, F.a, e1, fun v H' ι' n r => p _ H' ι' B ⟨(F.nx n).x, (F.nx n).k, ⟨n.s, (n.renv F.a.r).set i r⟩⟩ n.x⟩
theorem s_own (h : PS X st (tAsg te (gName i))) (hte : ∀ σ H Q, tX X.K ea σ H Q → te σ H Q) (hev : ∀ env μ, ev env μ = (ea env μ).bind fun p => match p.1 with
    | .lst ds => some (.nx (env.set i (.own ds)), p.2)
    | _ => none) : PS X st (tS X.K H0 ι0 B0 fr ev) :=
  PScon h fun D σ H ⟨env, μ, ι, B, f, μ', F, e, p⟩ => by
    rw [hev] at e
    obtain ⟨⟨x, μ1⟩, e1, e⟩ := Option.bind_eq_some_iff.mp e
    cases x with
    | lst ds =>
      cases e
      refine hte _ _ _ ⟨env, μ, ι, B, B0, .lst ds, _, F.a, e1, fun q vs H' ι' hq x kk S hl r => ?_⟩
      have np : q ∉ B := fun z => by
        obtain ⟨o, ho⟩ := F.a.s.busy q z
        rw [hq] at ho; cases ho
      exact p _ H' ι' (q :: B) ⟨F.x.trans x, F.k.trans (kk.mono F.x.sub), ⟨S, F.a.r.onew np List.mem_cons_self (fun z => np (F.x.sub q z)) hl r x kk⟩⟩ x
    | _ => cases e
theorem s_par2 {i j : Nat} (h : PS X st (tPar i j (tEs X.K evs))) (hev : ∀ env μ, ev env μ = (evs env μ).bind fun p => (parE [i, j] p.1 env).map fun e1 => (.nx e1, p.2)) : PS X st (tS X.K H0 ι0 B0 fr ev) :=
  PScon h fun D σ H ⟨env, μ, ι, B, f, μ', F, e, p⟩ => by
    rw [hev] at e
    obtain ⟨⟨ds, μ1⟩, e1, e⟩ := Option.bind_eq_some_iff.mp e
    obtain ⟨env', e2, e3⟩ := Option.map_eq_some_iff.mp e
    cases e3
    match ds, e2, e1 with
    | [d1, d2], e2, e1 =>
      simp only [parE, Option.some.injEq] at e2
      subst e2
      refine ⟨env, μ, ι, B, B0, _, _, F.a, e1, fun vs H' ι' n r => ?_⟩
      cases r with
      | cons r1 r =>
        cases r with
        | cons r2 r =>
          cases r
          exact ⟨_, _, rfl, p _ H' ι' B ⟨(F.nx n).x, (F.nx n).k, ⟨n.s, ((n.renv F.a.r).set i r1).set j r2⟩⟩ n.x⟩
    | [], e2, _ => simp [parE] at e2
    | [_], e2, _ => simp [parE] at e2
    | _ :: _ :: _ :: _, e2, _ => simp [parE] at e2
theorem s_par3 {i j l : Nat} (h : PS X st (tPar3 i j l (tEs X.K evs))) (hev : ∀ env μ, ev env μ = (evs env μ).bind fun p => (parE [i, j, l] p.1 env).map fun e1 => (.nx e1, p.2)) : PS X st (tS X.K H0 ι0 B0 fr ev) :=
  PScon h fun D σ H ⟨env, μ, ι, B, f, μ', F, e, p⟩ => by
    rw [hev] at e
    obtain ⟨⟨ds, μ1⟩, e1, e⟩ := Option.bind_eq_some_iff.mp e
    obtain ⟨env', e2, e3⟩ := Option.map_eq_some_iff.mp e
    cases e3
    match ds, e2, e1 with
    | [d1, d2, d3], e2, e1 =>
      simp only [parE, Option.some.injEq] at e2
      subst e2
      refine ⟨env, μ, ι, B, B0, _, _, F.a, e1, fun vs H' ι' n r => ?_⟩
      cases r with
      | cons r1 r =>
        cases r with
        | cons r2 r =>
          cases r with
          | cons r3 r =>
            cases r
            exact ⟨_, _, _, rfl, p _ H' ι' B ⟨(F.nx n).x, (F.nx n).k, ⟨n.s, (((n.renv F.a.r).set i r1).set j r2).set l r3⟩⟩ n.x⟩
    | [], e2, _ => simp [parE] at e2
    | [_], e2, _ => simp [parE] at e2
    | [_, _], e2, _ => simp [parE] at e2
    | _ :: _ :: _ :: _ :: _, e2, _ => simp [parE] at e2
theorem s_aug {o : Bop} {op : Operator} {x : Str} {px : Pos} (ho : (o = .add ∧ op = .Add) ∨ (o = .sub ∧ op = .Sub)) (hN : X.N.Nodup) (hi : X.N[i]? = some x) (hx : Loc X.env.scope x) (hf : X.fn x = true ∨ X.env.scope.names.lookup x = some .local) (he : PE X e (tA X.K ea))
    (hev : ∀ env μ r, ev env μ = some r → ∃ x y μ', env[i]? = some (.val (.int x)) ∧ ea env μ = some (.int y, μ') ∧ r = (.nx (env.set i (.val (.int (if o = .add then x + y else x - y)))), μ')) : PS X (.AugAssign (.Name x px) op e pos) (tS X.K H0 ι0 B0 fr ev) := by
  rcases ho with ⟨rfl, rfl⟩ | ⟨rfl, rfl⟩
  · refine PScon (ps_aug hN hi hx he ip_add hf) fun D σ H ⟨env, μ, ι, B, f, μ', F, e, p⟩ => ?_
    obtain ⟨u, y, μ1, e1, e2, e3⟩ := hev _ _ _ e
    cases e3
    obtain ⟨v, s1, r1⟩ := F.a.r.val i _ e1
    cases r1
    refine ⟨_, s1, env, μ, ι, B, B0, _, _, F.a, e2, fun w H' ι' n r => ?_⟩
    rw [r.int]
    exact ⟨_, _, rfl, rfl, p _ H' ι' B ⟨(F.nx n).x, (F.nx n).k, ⟨n.s, (n.renv F.a.r).set i (.int _)⟩⟩ n.x⟩
  · refine PScon (ps_aug hN hi hx he ip_sub hf) fun D σ H ⟨env, μ, ι, B, f, μ', F, e, p⟩ => ?_
    obtain ⟨u, y, μ1, e1, e2, e3⟩ := hev _ _ _ e
    cases e3
    obtain ⟨v, s1, r1⟩ := F.a.r.val i _ e1
    cases r1
    refine ⟨_, s1, env, μ, ι, B, B0, _, _, F.a, e2, fun w H' ι' n r => ?_⟩
    rw [r.int]
    exact ⟨_, _, rfl, rfl, p _ H' ι' B ⟨(F.nx n).x, (F.nx n).k, ⟨n.s, (n.renv F.a.r).set i (.int _)⟩⟩ n.x⟩
theorem s_expr (he : PE X e (tE X.K ea)) (hs : swapsWith e none pos.line X.env = pure false) (hev : ∀ env μ, ev env μ = (ea env μ).map fun p => (.nx env, p.2)) : PS X (.Expr e pos) (tS X.K H0 ι0 B0 fr ev) :=
  PScon (ps_expr he hs) fun D σ H ⟨env, μ, ι, B, f, μ', F, e, p⟩ => by
    rw [hev] at e
    obtain ⟨⟨x, μ1⟩, e1, e2⟩ := Option.map_eq_some_iff.mp e
    cases e2
    exact ⟨env, μ, ι, B, B0, x, _, F.a, e1, fun v H' ι' n r => p σ H' ι' B (F.nx n) n.x⟩
theorem s_ret (he : PE X e (tCl X.K fr ea)) (hev : ∀ env μ, ev env μ = (ea env μ).map fun p => (.rt p.1, p.2)) : PS X (.Return (some e) pos) (tS X.K H0 ι0 B0 fr ev) :=
  PScon (ps_ret he) fun D σ H ⟨env, μ, ι, B, f, μ', F, e, p⟩ => by
    rw [hev] at e
    obtain ⟨⟨x, μ1⟩, e1, e2⟩ := Option.map_eq_some_iff.mp e
    cases e2
    refine ⟨env, μ, ι, B, B0, x, _, F.a, e1, ?_⟩
    cases fr with
    | true => exact KX.inn p F.x F.k
    | false => exact KE.inn p F.x F.k
theorem s_reto {x : Str} {px : Pos} (he : PE X (.Name x px) (tVar i)) (hev : ∀ env μ, ev env μ = match env[i]? with
    | some (.own ds) => some (.rt (.lst ds), μ)
    | _ => none) : PS X (.Return (some (.Name x px)) pos) (tS X.K H0 ι0 B0 fr ev) :=
  PScon (ps_ret he) fun D σ H ⟨env, μ, ι, B, f, μ', F, e, p⟩ => by
    rw [hev] at e
    split at e
    · rename_i ds h
      cases e
      obtain ⟨a, vs, h1, h2, h3, h4, h5⟩ := F.a.r.own i ds h
      refine ⟨_, h1, ?_⟩
      have sb : ∀ b, b ∈ a :: B0 → b ∈ B := fun b hb => (List.mem_cons.mp hb).elim (fun z => by rw [z]; exact h2) (F.x.sub b)
      have k : KX X.K H0 ι0 B0 μ (.lst ds) D.rt := by
        cases fr with
        | true => exact p
        | false => exact KX.of p
      exact k a vs H ι (F.x.new a h2 h3) (F.x.shrink (fun _ h => List.mem_cons_of_mem _ h) sb) F.k (F.a.s.shrink sb) h4 (h5.up (up_shrink sb))
    · cases e
theorem s_retn (hev : ∀ env μ, ev env μ = some (.rt .non, μ)) : PS X (.Return none pos) (tS X.K H0 ι0 B0 fr ev) :=
  PScon ps_retN fun D σ H ⟨env, μ, ι, B, f, μ', F, e, p⟩ => by
    rw [hev] at e
    cases e
    have k : KX X.K H0 ι0 B0 μ .non D.rt := by
      cases fr with
      | true => exact p
      | false => exact KX.of p
    exact k .non H ι ⟨F.x.shrink (fun _ h => h) F.x.sub, F.k, F.a.s.shrink F.x.sub⟩ .non
theorem s_if (hc : PT X c (tB X.K et)) (ha : PSs X sa (tS X.K H0 ι0 B0 fr ev1)) (hb : PSs X sb (tS X.K H0 ι0 B0 fr ev2)) (hev : ∀ env μ, ev env μ = (et env μ).bind fun p => if p.1 then ev1 env p.2 else ev2 env p.2) : PS X (.If c sa sb pos) (tS X.K H0 ι0 B0 fr ev) :=
  PScon (ps_if hc ha hb) fun D σ H ⟨env, μ, ι, B, f, μ', F, e, p⟩ => by
    rw [hev] at e
    obtain ⟨⟨x, μ1⟩, e1, e⟩ := Option.bind_eq_some_iff.mp e
    refine ⟨env, μ, ι, B, B0, x, μ1, F.a, e1, fun H1 ι1 n1 => ?_⟩
    cases x with
    | true => exact iteT ⟨env, μ1, ι1, B, f, μ', F.nx n1, e, p.back n1.x⟩
    | false => exact iteF ⟨env, μ1, ι1, B, f, μ', F.nx n1, e, p.back n1.x⟩
theorem s_nil (hev : ∀ env μ, ev env μ = some (.nx env, μ)) : PSs X [] (tS X.K H0 ι0 B0 fr ev) := PSscon pss_nil fun D σ H ⟨env, μ, ι, B, f, μ', F, e, p⟩ => by
  rw [hev] at e
  cases e
  exact p σ H ι B F Ext.refl
theorem s_cons {ss : List Stmt} (h1 : PS X st (tS X.K H0 ι0 B0 fr ev1)) (h2 : PSs X ss (tS X.K H0 ι0 B0 fr ev2)) (hev : ∀ env μ, ev env μ = (ev1 env μ).bind fun p => match p.1 with
    | .nx e => ev2 e p.2
    | f => some (f, p.2)) : PSs X (st :: ss) (tS X.K H0 ι0 B0 fr ev) := PSscon (pss_cons h1 h2) fun D σ H ⟨env, μ, ι, B, f, μ', F, e, p⟩ => by
  rw [hev] at e
  obtain ⟨⟨f1, μ1⟩, e1, e⟩ := Option.bind_eq_some_iff.mp e
  refine ⟨env, μ, ι, B, f1, μ1, F, e1, ?_⟩
  cases f1 with
  | nx env1 => exact fun σ' H' ι' B' F' x => ⟨env1, μ1, ι', B', f, μ', F', e, p.back x⟩
  | bk env1 => cases e; exact p
  | ct env1 => cases e; exact p
  | rt d => cases e; exact p
theorem s_pass (hev : ∀ env μ, ev env μ = some (.nx env, μ)) : PS X (.Pass pos) (tS X.K H0 ι0 B0 fr ev) := PScon ps_pass fun D σ H ⟨env, μ, ι, B, f, μ', F, e, p⟩ => by
  rw [hev] at e
  cases e
  exact p σ H ι B F Ext.refl
theorem s_brk (hev : ∀ env μ, ev env μ = some (.bk env, μ)) : PS X (.Break pos) (tS X.K H0 ι0 B0 fr ev) := PScon ps_break fun D σ H ⟨env, μ, ι, B, f, μ', F, e, p⟩ => by
  rw [hev] at e
  cases e
  exact p σ H ι B F Ext.refl
theorem s_cnt (hev : ∀ env μ, ev env μ = some (.ct env, μ)) : PS X (.Continue pos) (tS X.K H0 ι0 B0 fr ev) := PScon ps_continue fun D σ H ⟨env, μ, ι, B, f, μ', F, e, p⟩ => by
  rw [hev] at e
  cases e
  exact p σ H ι B F Ext.refl
theorem s_raise (hev : ∀ env μ, ev env μ = none) : PS X st (tS X.K H0 ι0 B0 fr ev) := PScon ps_never fun D σ H ⟨env, μ, ι, B, f, μ', F, e, p⟩ => by
  rw [hev] at e
  cases e
end
end DI
set_option Elab.async false
set_option linter.all false
set_option maxRecDepth 100000
set_option maxHeartbeats 4000000
/-! DI17: loops, and lists that are changed -/
namespace DI
open PySem PySem.Spec PyProof.Rows L2
section
variable {X : Cx} {H0 : Hp} {ι0 : Cells} {B0 : List Addr} {fr : Bool} {e tg c iter o ix : Expr} {es : List Expr} {body sa sb : List Stmt} {st : Stmt} {ea eb eo ei : Ev → Mem → Option (D × Mem)} {et : Ev → Mem → Option (Bool × Mem)} {evs : Ev → Mem → Option (List D × Mem)} {ev ev1 ev2 : Ev → Mem → Option (Fl × Mem)} {pos : Pos} {te : TE} {i : Nat}
  {evi : Ev → Mem → Option ((List D × List Lk) × Mem)}
theorem s_while (hx : X.xe = fun _ _ => False) (hc : PT X c (tB X.K et)) (hb : PSs X body (tS X.K H0 ι0 B0 fr ev1)) {wf : Nat} (hev : ∀ env μ, ev env μ = whileGo et ev1 wf env μ) : PS X (.While c body [] pos) (tS X.K H0 ι0 B0 fr ev) :=
  PScon (ps_while (by rw [hx]; exact PassesOwn.never) hc hb) fun D σ H ⟨env, μ, ι, B, f, μ', F, e, p⟩ => by
    rw [hev] at e
    refine ⟨fun m σ' H' => ∃ env' μ1 ι' B', Fat X.K H0 ι0 B0 H' ι' B' μ1 σ' env' ∧ Ext H ι B H' ι' B' ∧ whileGo et ev1 m env' μ1 = some (f, μ'), ⟨wf, env, μ, ι, B, F, Ext.refl, e⟩, ?_⟩
    rintro m σ1 H1 ⟨env1, μ1, ι1, B1, F1, x1, e1⟩
    cases m with
    | zero => simp [whileGo] at e1
    | succ m =>
      simp only [whileGo] at e1
      obtain ⟨⟨b, μ2⟩, e2, e1⟩ := Option.bind_eq_some_iff.mp e1
      refine ⟨env1, μ1, ι1, B1, B0, b, μ2, F1.a, e2, fun H2 ι2 n2 => ?_⟩
      cases b with
      | false =>
        dsimp only at e1
        rw [if_neg Bool.false_ne_true] at e1
        cases e1
        exact iteF (p σ1 H2 ι2 B1 (F1.nx n2) (x1.trans n2.x))
      | true =>
        dsimp only at e1
        rw [if_pos rfl] at e1
        obtain ⟨⟨f3, μ3⟩, e3, e1⟩ := Option.bind_eq_some_iff.mp e1
        refine iteT ⟨fun σ' H' => ∃ env' μ1 ι' B', Fat X.K H0 ι0 B0 H' ι' B' μ1 σ' env' ∧ Ext H ι B H' ι' B' ∧ whileGo et ev1 m env' μ1 = some (f, μ'), fun σ' H' w => ⟨m, Nat.lt_succ_self m, w⟩, env1, μ2, ι2, B1, f3, μ3, F1.nx n2, e3, ?_⟩
        have x2 := x1.trans n2.x
        cases f3 with
        | nx e4 => exact fun σ' H' ι' B' F' y => ⟨e4, μ3, ι', B', F', x2.trans y, e1⟩
        | ct e4 => exact fun σ' H' ι' B' F' y => ⟨e4, μ3, ι', B', F', x2.trans y, e1⟩
        | bk e4 => cases e1; exact fun σ' H' ι' B' F' y => p σ' H' ι' B' F' (x2.trans y)
        | rt d => cases e1; exact p
theorem s_for {g : MG} (hx : X.xe = fun _ _ => False) (hc : X.calm = true) (hi : PI X tg iter (tI X.K evi)) (hg : PG X tg (tG X.K g)) (hb : PSs X body (tS X.K H0 ι0 B0 fr ev1)) (hs : ∀ x, foldedSetIterable iter X.env x = pure x)
    (hev : ∀ env μ, ev env μ = (evi env μ).bind fun p => if p.1.2.all Lk.isCell && p.1.2.all (Lk.ok env p.2) then
      forGo (fun x e ν => (bindG g x e).bind fun e1 => ev1 e1 ν) (fun e ν => p.1.2.all (Lk.ok e ν)) p.1.1 env p.2
      else none) : PS X (.For tg iter body [] pos) (tS X.K H0 ι0 B0 fr ev) :=
  PScon (ps_for (by rw [hx]; exact PassesOwn.never) hc hi hg hb hs) fun D σ H ⟨env, μ, ι, B, f, μ', F, e, p⟩ => by
    rw [hev] at e
    obtain ⟨⟨⟨ds, lk⟩, μ1⟩, e1, e⟩ := Option.bind_eq_some_iff.mp e
    dsimp only at e
    by_cases lk0 : (lk.all Lk.isCell && lk.all (Lk.ok env μ1)) = true
    case neg => rw [if_neg lk0] at e; cases e
    rw [if_pos lk0] at e
    rw [Bool.and_eq_true] at lk0
    refine ⟨env, μ, ι, B, B0, ds, lk, μ1, F.a, e1, fun J H1 ι1 good n1 iw lt => ?_⟩
    refine ⟨fun i m σc Hc => m = ds.length - i ∧ i ≤ ds.length ∧ ∃ envc ιc Bc μc, Fat X.K H0 ι0 B0 Hc ιc Bc μc σc envc ∧ Ext H1 ι1 B Hc ιc Bc ∧ forGo (fun x e ν => (bindG g x e).bind fun e1 => ev1 e1 ν) (fun e ν => lk.all (Lk.ok e ν)) (ds.drop i) envc μc = some (f, μ') ∧ good Hc ιc Bc,
      ⟨ds.length, by rw [Nat.sub_zero], Nat.zero_le _, env, ι1, B, μ1, F.nx n1, Ext.refl, e, lt.1⟩, ?_⟩
    rintro i m σc Hc ⟨rfl, hi, envc, ιc, Bc, μc, Fc, xc, ec, gc⟩
    by_cases hlt : i < ds.length
    case neg =>
      have ei : i = ds.length := by omega
      subst ei
      rw [List.drop_length] at ec
      simp only [forGo, Option.some.injEq, Prod.mk.injEq] at ec
      obtain ⟨er, em⟩ := ec
      subst er em
      exact .inl ⟨iw.stops _ _ _ gc, p σc Hc ιc Bc Fc (n1.x.trans xc)⟩
    refine .inr ⟨iw.goes i Hc ιc _ hlt gc, fun σ' H' => ∃ envc ιc Bc μc, Fat X.K H0 ι0 B0 H' ιc Bc μc σ' envc ∧ Ext H1 ι1 B H' ιc Bc ∧ forGo (fun x e ν => (bindG g x e).bind fun e1 => ev1 e1 ν) (fun e ν => lk.all (Lk.ok e ν)) (ds.drop (i + 1)) envc μc = some (f, μ') ∧ good H' ιc Bc,
      fun σ' H' w => ⟨ds.length - (i + 1), by omega, rfl, hlt, w⟩, fun x H' y => ?_⟩
    obtain ⟨dx, edx, n2, rx⟩ := iw.yields i Hc ιc _ μc x H' hlt Fc.a.s gc y
    have edrop : ds.drop i = dx :: ds.drop (i + 1) := by
      have hx : ds[i]? = some ds[i] := List.getElem?_eq_getElem hlt
      rw [hx] at edx
      cases edx
      exact List.drop_eq_getElem_cons hlt
    rw [edrop] at ec
    simp only [forGo] at ec
    obtain ⟨⟨f3, μ3⟩, e3, ec⟩ := Option.bind_eq_some_iff.mp ec
    obtain ⟨env1, eb, e3⟩ := Option.bind_eq_some_iff.mp e3
    have F2 := Fc.nx n2
    have x2 := xc.trans n2.x
    refine ⟨envc, ιc, Bc, B0, μc, dx, env1, F2.a, rx, eb, fun σ' a' _ _ => ⟨env1, μc, ιc, Bc, f3, μ3, ⟨F2.x, F2.k, a'⟩, e3, ?_⟩⟩
    cases f3 with
    | nx e4 =>
      dsimp only at ec
      by_cases lk1 : lk.all (Lk.ok e4 μ3) = true
      case neg => rw [if_neg lk1] at ec; cases ec
      rw [if_pos lk1] at ec
      exact fun σ' H' ι' B' F' y => ⟨e4, ι', B', μ3, F', x2.trans y, ec, lt.2 _ _ _ e4 μ3 (x2.trans y) (.inr lk0.1) F'.a.s lk1⟩
    | ct e4 =>
      dsimp only at ec
      by_cases lk1 : lk.all (Lk.ok e4 μ3) = true
      case neg => rw [if_neg lk1] at ec; cases ec
      rw [if_pos lk1] at ec
      exact fun σ' H' ι' B' F' y => ⟨e4, ι', B', μ3, F', x2.trans y, ec, lt.2 _ _ _ e4 μ3 (x2.trans y) (.inr lk0.1) F'.a.s lk1⟩
    | bk e4 => cases ec; exact fun σ' H' ι' B' F' y => p σ' H' ι' B' F' (n1.x.trans (x2.trans y))
    | rt d => cases ec; exact p
/-! ### a cell is changed -/
theorem s_sset (he : PE X e (tE X.K ea)) (ho : PE X o (tA X.K eo)) (hix : PE X ix (tA X.K ei)) {p2 : Pos} (hs : swapsWithSole [.Subscript o ix p2] e pos.line X.env = pure false)
    (hw : swappedStores [.Subscript o ix p2] e X.env = pure none) (ha : ∀ v, assign (.Subscript o ix p2) X.env v = (do
      let ov ← holding [v] (eval o X.env)
      let iv ← holding [v, ov] (eval ix X.env)
      standAt p2
      holding [v, ov, iv] (setItem ov iv v)
      release [v, ov, iv] []))
    (hev : ∀ env μ, ev env μ = (ea env μ).bind fun p => (eo env p.2).bind fun q => (ei env q.2).bind fun r => match q.1, r.1 with
    | .ref n, .int k => (r.2[n]?).join.bind fun ds => (ixN ds.length k).map fun j => (.nx env, r.2.set n (some (ds.set j p.1)))
    | _, _ => none) : PS X (.Assign [.Subscript o ix p2] e pos) (tS X.K H0 ι0 B0 fr ev) :=
  PScon (ps_asg he (pg_sub ho hix set_list ha) hs hw) fun D σ H ⟨env, μ, ι, B, f, μ', F, e, p⟩ => by
    rw [hev] at e
    obtain ⟨⟨x, μ1⟩, e1, e⟩ := Option.bind_eq_some_iff.mp e
    obtain ⟨⟨y, μ2⟩, e2, e⟩ := Option.bind_eq_some_iff.mp e
    obtain ⟨⟨z, μ3⟩, e3, e⟩ := Option.bind_eq_some_iff.mp e
    refine ⟨env, μ, ι, B, B0, x, μ1, F.a, e1, fun v H1 ι1 n1 r1 => ⟨env, μ1, ι1, B, B0, y, μ2, F.a.nx n1, e2, fun u H2 ι2 n2 r2 => ⟨env, μ2, ι2, B, B0, z, μ3, (F.a.nx n1).nx n2, e3, fun w H3 ι3 n3 r3 => ?_⟩⟩⟩
    match y, z, e, e3, r2, r3 with
    | .ref n, .int k, e, e3, r2, r3 =>
      obtain ⟨ds, e4, e⟩ := Option.bind_eq_some_iff.mp e
      obtain ⟨j, e5, e6⟩ := Option.map_eq_some_iff.mp e
      cases e6
      obtain ⟨a, vs, ha, hi, hl, hr⟩ := cell_at n3.s (n3.arg r2) e4
      subst ha
      have n123 := (n1.trans n2).trans n3
      have n4 := nx_cset n3.s hi hl (hr.set (n3.rep (n2.rep r1)) j)
      rw [r3.int]
      refine ⟨a, vs, k, j, rfl, rfl, hl, by rw [hr.length]; exact e5, ?_⟩
      exact p σ _ ι3 B ((F.nx n123).nx n4) (n123.trans n4).x
def mthR (m : Mth) : V → List V → Hp → VK → Prop := match m with
  | .append => rAppend
  | .insert => fun x vs H Q => ∃ (l : Addr) (xs : List V) (i : Int) (y : V), x = .ref l ∧ vs = [.int i, y] ∧ H l = some (.lst xs) ∧ xs.length < sizeLine ∧ 0 ≤ i ∧ i < 2 ^ 63 ∧
    Q .non (upd H l (.lst (xs.take i.toNat ++ [y] ++ xs.drop i.toNat)))
def mthNm : Mth → Str
  | .append => "append"
  | .insert => "insert"
theorem mth_val {K : PySem.W.Frag} {H : Hp} {ι : Cells} {B : List Addr} {m : Mth} {a : Addr} {vs us : List V} {ds xs ds' : List D} {Q : VK} (hl : H a = some (.lst vs)) (hr : Reps K (cut H ι B) ι vs ds) (hu : Reps K (cut H ι B) ι us xs) (h : mthD m ds xs = some ds')
    (k : ∀ vs', Reps K (cut H ι B) ι vs' ds' → Q .non (upd H a (.lst vs'))) : mthR m (.ref a) us H Q := by
  unfold mthD at h
  split at h
  · rename_i d
    split at h
    · rename_i c
      cases h
      cases hu with
      | cons h1 t =>
        cases t
        exact ⟨a, vs, _, rfl, rfl, hl, by rw [hr.length]; exact c, k _ (hr.append (.cons h1 .nil))⟩
    · cases h
  · rename_i i d
    split at h
    · rename_i c
      cases h
      cases hu with
      | cons h1 t =>
        cases t with
        | cons h2 t =>
          cases t
          cases h1
          exact ⟨a, vs, _, _, rfl, rfl, hl, by rw [hr.length]; exact c.1, c.2.1, c.2.2, k _ (((hr.take _).append (.cons h2 .nil)).append (hr.drop _))⟩
    · cases h
  · cases h
def recvOk : Expr → Bool
  | .Call _ [] [] _ => false
  | _ => true
theorem base_of {o : Expr} (h : recvOk o = true) (nm : Str) (env : Env) : attributeBase o nm env (eval o env) = eval o env := by
  cases o with
  | Call f as ks p =>
    match as, ks, h with
    | _ :: _, _, _ => cases f <;> rfl
    | [], _ :: _, _ => cases f <;> rfl
  | _ => rfl
theorem few_of (cpos : Pos) (env : Env) (es : List Expr) (h : es.all noStar = true) (hl : es.length < 30) : ((backTo cpos (starEach es env)).all (fun x => !x.1) && (backToKw cpos (keywordEach [] env)).all (fun x => x.1.isSome)
      && decide (es.length + ([] : List Keyword).length + (if ([] : List Keyword).isEmpty then 0 else 1) < 30)) = true := by
  have z := star_any cpos env es h
  have z2 : (backTo cpos (starEach es env)).all (fun x => !x.1) = true := by
    rw [List.all_eq_not_any_not]
    simp only [Bool.not_not]
    rw [z]
    rfl
  rw [z2]
  simp [backToKw, keywordEach, hl]
theorem pe_mth {m : Mth} {to : TE} {t : TA} {apos cpos : Pos} (ho : PE X o to) (ha : PA X (e :: es) t) (hb : recvOk o = true) (hl : (apos.endLine == cpos.line) = true) (hs : (e :: es).all noStar = true) (h30 : (e :: es).length < 30) :
    PE X (.Call (.Attribute o (mthNm m) apos) (e :: es) [] cpos) (tBM X.K "list" (mthR m) to t) := by
  have hs' := hs
  rw [List.all_cons, Bool.and_eq_true] at hs'
  cases m with
  | append => exact pe_bm PySem.F.plainAttrs_list PySem.F.slot_list_append PySem.F.type_list_append mt_append ho ha (base_of hb _ _) (few_of _ _ _ hs h30) hl (star_cons hs'.1 _ _) (star_any _ _ _ hs'.2)
  | insert => exact pe_bm PySem.F.plainAttrs_list PySem.F.slot_list_insert PySem.F.type_list_insert mt_insert ho ha (base_of hb _ _) (few_of _ _ _ hs h30) hl (star_cons hs'.1 _ _) (star_any _ _ _ hs'.2)
theorem s_meth {m : Mth} {apos cpos : Pos} (ho : PE X o (tA X.K eo)) (ha : PA X (e :: es) (tEs X.K evs)) (hb : recvOk o = true) (hl : (apos.endLine == cpos.line) = true) (hs : (e :: es).all noStar = true) (h30 : (e :: es).length < 30)
    (hev : ∀ env μ, ev env μ = (eo env μ).bind fun p => match p.1 with
    | .ref n => (p.2[n]?).join.bind fun _ => (evs env p.2).bind fun q => (q.2[n]?).join.bind fun ds => (mthD m ds q.1).map fun ds' => (.nx env, q.2.set n (some ds'))
    | _ => none) : PS X (.Expr (.Call (.Attribute o (mthNm m) apos) (e :: es) [] cpos) pos) (tS X.K H0 ι0 B0 fr ev) :=
  PScon (ps_expr (pe_mth ho ha hb hl hs h30) rfl) fun D σ H ⟨env, μ, ι, B, f, μ', F, e, p⟩ => by
    rw [hev] at e
    obtain ⟨⟨x, μ1⟩, e1, e⟩ := Option.bind_eq_some_iff.mp e
    refine ⟨env, μ, ι, B, B0, x, μ1, F.a, e1, fun v H1 ι1 n1 r1 => ?_⟩
    cases x with
    | ref n =>
      obtain ⟨ds0, e2, e⟩ := Option.bind_eq_some_iff.mp e
      obtain ⟨⟨xs, μ2⟩, e3, e⟩ := Option.bind_eq_some_iff.mp e
      obtain ⟨ds, e4, e⟩ := Option.bind_eq_some_iff.mp e
      obtain ⟨ds', e5, e6⟩ := Option.map_eq_some_iff.mp e
      cases e6
      obtain ⟨a, vs0, ha, hi0, hl0, _⟩ := cell_at n1.s r1 e2
      subst ha
      refine ⟨.inl ⟨rfl, _, SqL.of hl0⟩, env, μ1, ι1, B, B0, xs, μ2, F.a.nx n1, e3, fun us H2 ι2 n2 r2 => ?_⟩
      obtain ⟨a', vs, ha', hi, hl', hr⟩ := cell_at n2.s (n2.arg r1) e4
      cases ha'
      refine mth_val hl' hr r2 e5 fun vs' r' => ?_
      have n3 := nx_cset n2.s hi hl' r'
      have n12 := n1.trans n2
      exact p σ _ ι2 B ((F.nx n12).nx n3) (n12.trans n3).x
    | _ => cases e
/-- a list of one's own is changed -/
theorem s_ometh {m : Mth} {apos cpos px : Pos} {x : Str} (ho : PE X (.Name x px) (tVar i)) (ha : PA X (e :: es) (tEs X.K evs)) (hl : (apos.endLine == cpos.line) = true) (hs : (e :: es).all noStar = true) (h30 : (e :: es).length < 30)
    (hev : ∀ env μ, ev env μ = match env[i]? with
    | some (.own ds) => (evs env μ).bind fun q => (mthD m ds q.1).map fun ds' => (.nx (env.set i (.own ds')), q.2)
    | _ => none) : PS X (.Expr (.Call (.Attribute (.Name x px) (mthNm m) apos) (e :: es) [] cpos) pos) (tS X.K H0 ι0 B0 fr ev) :=
  PScon (ps_expr (pe_mth ho ha rfl hl hs h30) rfl) fun D σ H ⟨env, μ, ι, B, f, μ', F, e, p⟩ => by
    rw [hev] at e
    split at e
    · rename_i ds he
      obtain ⟨⟨xs, μ2⟩, e3, e⟩ := Option.bind_eq_some_iff.mp e
      obtain ⟨ds', e5, e6⟩ := Option.map_eq_some_iff.mp e
      cases e6
      obtain ⟨a, vs, h1, h2, h3, h4, h5⟩ := F.a.r.own i ds he
      refine ⟨_, h1, .inl ⟨rfl, _, SqL.of h4⟩, env, μ, ι, B, B0, xs, _, F.a, e3, fun us H2 ι2 n2 r2 => ?_⟩
      have hl2 : H2 a = some (.lst vs) := by rw [n2.k a h2]; exact h4
      refine mth_val hl2 (n2.reps h5) r2 e5 fun vs' r' => ?_
      have F2 := F.nx n2
      have x3 : Ext H2 ι2 B (upd H2 a (.lst vs')) ι2 B := Ext.refl.write h2 (by rw [hl2]; exact fun z => nomatch z)
      have k3 : Keep B0 H2 (upd H2 a (.lst vs')) := fun b hb => upd_ne fun z => h3 (by rw [← z]; exact hb)
      exact p σ _ ι2 B ⟨F2.x.trans x3, F2.k.trans k3, ⟨n2.s.write h2, F2.a.r.oset he h1 h2 h3 r'⟩⟩ (n2.x.trans x3)
    · cases e
theorem Reps.dropLast {K : PySem.W.Frag} {G : Hp} {ι : Cells} {vs : List V} {ds : List D} (r : Reps K G ι vs ds) : Reps K G ι vs.dropLast ds.dropLast := by
  rw [List.dropLast_eq_take, List.dropLast_eq_take, r.length]
  exact r.take _
theorem s_opop {apos cpos px : Pos} {x : Str} (ho : PE X (.Name x px) (tVar i)) (hl : (apos.endLine == cpos.line) = true)
    (hev : ∀ env μ, ev env μ = match env[i]? with
    | some (.own ds) => if ds.isEmpty then none else some (.nx (env.set i (.own ds.dropLast)), μ)
    | _ => none) : PS X (.Expr (.Call (.Attribute (.Name x px) "pop" apos) [] [] cpos) pos) (tS X.K H0 ι0 B0 fr ev) :=
  PScon (ps_expr (pe_bm0 PySem.F.plainAttrs_list PySem.F.slot_list_pop PySem.F.type_list_pop mt_pop ho (base_of rfl _ _) hl) rfl) fun D σ H ⟨env, μ, ι, B, f, μ', F, e, p⟩ => by
    rw [hev] at e
    split at e
    · rename_i ds he
      split at e
      · cases e
      · rename_i hne
        cases e
        obtain ⟨a, vs, h1, h2, h3, h4, h5⟩ := F.a.r.own i ds he
        have hn : vs ≠ [] := fun z => by
          subst z
          cases h5
          exact hne rfl
        have hy : vs[vs.length - 1]? = some (vs.getLast hn) := by
          rw [← List.getLast?_eq_getElem?, List.getLast?_eq_getLast hn]
        have x3 : Ext H ι B (upd H a (.lst vs.dropLast)) ι B := Ext.refl.write h2 (by rw [h4]; exact fun z => nomatch z)
        have k3 : Keep B0 H (upd H a (.lst vs.dropLast)) := fun b hb => upd_ne fun z => h3 (by rw [← z]; exact hb)
        exact ⟨_, h1, .inl ⟨rfl, _, SqL.of h4⟩, a, vs, _, rfl, rfl, h4, hy, p σ _ ι B ⟨F.x.trans x3, F.k.trans k3, ⟨F.a.s.write h2, F.a.r.oset he h1 h2 h3 h5.dropLast⟩⟩ x3⟩
    · cases e
/-- an item of a list of one's own is put -/
theorem s_oset {i : Nat} {x : Str} {px : Pos} (he : PE X e (tE X.K ea)) (ho : PE X (.Name x px) (tVar i)) (hix : PE X ix (tA X.K ei)) {p2 : Pos} (hs : swapsWithSole [.Subscript (.Name x px) ix p2] e pos.line X.env = pure false)
    (hw : swappedStores [.Subscript (.Name x px) ix p2] e X.env = pure none) (ha : ∀ v, assign (.Subscript (.Name x px) ix p2) X.env v = (do
      let ov ← holding [v] (eval (.Name x px) X.env)
      let iv ← holding [v, ov] (eval ix X.env)
      standAt p2
      holding [v, ov, iv] (setItem ov iv v)
      release [v, ov, iv] []))
    (hev : ∀ env μ, ev env μ = (ea env μ).bind fun p => (ei env p.2).bind fun r => match env[i]?, r.1 with
    | some (.own ds), .int k => (ixN ds.length k).map fun j => (.nx (env.set i (.own (ds.set j p.1))), r.2)
    | _, _ => none) : PS X (.Assign [.Subscript (.Name x px) ix p2] e pos) (tS X.K H0 ι0 B0 fr ev) :=
  PScon (ps_asg he (pg_sub ho hix set_list ha) hs hw) fun D σ H ⟨env, μ, ι, B, f, μ', F, e, p⟩ => by
    rw [hev] at e
    obtain ⟨⟨x, μ1⟩, e1, e⟩ := Option.bind_eq_some_iff.mp e
    obtain ⟨⟨z, μ3⟩, e3, e⟩ := Option.bind_eq_some_iff.mp e
    refine ⟨env, μ, ι, B, B0, x, μ1, F.a, e1, fun v H1 ι1 n1 r1 => ?_⟩
    split at e
    · rename_i ds k he hz
      dsimp only at hz
      subst hz
      obtain ⟨j, e5, e6⟩ := Option.map_eq_some_iff.mp e
      cases e6
      obtain ⟨a, vs, h1, h2, h3, h4, h5⟩ := F.a.r.own i ds he
      refine ⟨_, h1, env, μ1, ι1, B, B0, _, _, F.a.nx n1, e3, fun w H3 ι3 n3 r3 => ?_⟩
      have n2 := n1.trans n3
      have hl2 : H3 a = some (.lst vs) := by rw [n2.k a h2]; exact h4
      have hr := n2.reps h5
      have F2 := F.nx n2
      rw [r3.int]
      refine ⟨a, vs, k, j, rfl, rfl, hl2, by rw [hr.length]; exact e5, ?_⟩
      have x3 : Ext H3 ι3 B (upd H3 a (.lst (vs.set j v))) ι3 B := Ext.refl.write h2 (by rw [hl2]; exact fun z => nomatch z)
      have k3 : Keep B0 H3 (upd H3 a (.lst (vs.set j v))) := fun b hb => upd_ne fun z => h3 (by rw [← z]; exact hb)
      exact p σ _ ι3 B ⟨F2.x.trans x3, F2.k.trans k3, ⟨n2.s.write h2, F2.a.r.oset he h1 h2 h3 (hr.set (n3.rep r1) j)⟩⟩ (n2.x.trans x3)
    · cases e
end
end DI
set_option Elab.async false
set_option linter.all false
set_option maxRecDepth 100000
set_option maxHeartbeats 8000000
/-! DI18: a piece of the language that stands for a text is what the text does: statements -/
namespace DI
open PySem PySem.Spec PyProof.Rows L2
def isComp : Expr → Bool
  | .ListComp .. | .SetComp .. | .DictComp .. => true
  | _ => false
def swB (sc : Scope) : Expr → Expr → Bool
  | .ListComp _ _ s p, .Name t tp => sc.names.lookup t == some .local && tp.line == p.line && !(s.names.any fun (n, k) => n == t && (k == .local || k == .cell))
  | _, _ => false
def isLComp : Expr → Bool
  | .SetComp .. | .DictComp .. => false
  | _ => true
theorem swaps_eq {env : Env} {x tg : Expr} {l : Nat} (hk : env.scope.kind = .function) (hx : isLComp x = true) : swapsWith x (some tg) l env = pure (swB env.scope x tg) := by
  have hb : (env.blockKind == .function) = true := by
    unfold Env.blockKind
    rw [hk]
    rfl
  cases x with
  | ListComp e gs s p =>
    cases tg with
    | Name t tp =>
      unfold swapsWith
      simp only [hb, Bool.true_and]
      rfl
    | _ => rfl
  | SetComp _ _ _ _ => simp [isLComp] at hx
  | DictComp _ _ _ _ _ => simp [isLComp] at hx
  | _ => rfl
def bothTup : Expr → Expr → Option (List Expr × List Expr)
  | .Tuple ts _ _, .Tuple vs _ _ => some (ts, vs)
  | _, _ => none
def swOff (sc : Scope) (tg x : Expr) : Bool := match bothTup tg x with
  | some (ts, vs) => !(swTest sc ts vs)
  | none => true
def tgOk : Expr → Bool
  | .Name .. => true
  | .Tuple .. => true
  | _ => false
theorem stores_none {env : Env} {x tg : Expr} (hk : env.scope.kind = .function) (ht : tgOk tg = true) (h : swOff env.scope tg x = true) : swappedStores [tg] x env = pure none := by
  cases tg with
  | Name t p => rfl
  | Tuple ts k p =>
    cases x with
    | Tuple vs k2 p2 =>
      refine sw_none hk ?_
      simpa [swOff, bothTup] using h
    | _ => rfl
  | _ => simp [tgOk] at ht
theorem assign_one {tg : Expr} (ht : tgOk tg = true) (env : Env) : (assignEach [tg] env).map (·.2) = [assign tg env] := by
  cases tg <;> first | rfl | (simp [tgOk] at ht)
theorem assign_sub {o ix : Expr} {p : Pos} (h : ixPlain ix = true) (env : Env) (v : Value) : assign (.Subscript o ix p) env v = (do
      let ov ← holding [v] (eval o env)
      let iv ← holding [v, ov] (eval ix env)
      standAt p
      holding [v, ov, iv] (setItem ov iv v)
      release [v, ov, iv] []) := by
  cases ix <;> first | rfl | (simp [ixPlain] at h)
theorem swaps_none {x : Expr} {l : Nat} {env : Env} (h : isComp x = false) : swapsWith x none l env = pure false := by
  cases x <;> first | rfl | (simp [isComp] at h)
theorem cell_read {K : PySem.W.Frag} {ea ev : Ev → Mem → Option (D × Mem)} (hev : ∀ env μ, ev env μ = (ea env μ).bind fun p => match p.1 with
    | .lst ds => some (.ref p.2.length, p.2 ++ [some ds])
    | _ => none) (σ : L2.St) (H : Hp) (Q : VK) (h : tE K ev σ H Q) : tX K ea σ H Q := by
  obtain ⟨env, μ, ι, B, B0, d, μ', a, e, k⟩ := h
  rw [hev] at e
  obtain ⟨⟨x, μ1⟩, e1, e⟩ := Option.bind_eq_some_iff.mp e
  cases x with
  | lst ds =>
    cases e
    refine ⟨env, μ, ι, B, B0, .lst ds, μ1, a, e1, fun p vs H' ι' hp x kk S hl r => ?_⟩
    have np : p ∉ B := fun q => by
      have z := kk p q
      rw [hl, hp] at z; cases z
    refine k (.ref p) H' (ι' ++ [some p]) ⟨x.cell, kk, S.cell' np hl r⟩ (.ref (x := some p) ?_ fun a ha => by cases ha; rfl)
    rw [← S.len, List.getElem?_append_right (Nat.le_refl _)]
    simp
  | _ => cases e
section
variable {Tb : Tab} {C : Call} {n : Nat}
/-- name = [..] on one line -/
theorem comp_set {X : Cx} {sc : Scope} {elt : ME} {tg : MG} {src : MI} {ifs : List ME} {own : List Nat} {x : Expr} {y : Str} {py pos : Pos} {i : Nat} (c : CxE Tb C n X) (cs : CxS X sc) (hsc : X.env.scope = sc) (hk : sc.kind = .function) (h : mE Tb X.N sc (.comp elt tg src ifs own) x = true)
    (hw : swB sc x (.Name y py) = true) (hi : X.N[i]? = some y) : ∃ te, PS X (.Assign [.Name y py] x pos) (tAsg te (gName i)) ∧ ∀ σ H Q, tX X.K (evE C (.comp elt tg src ifs own)) σ H Q → te σ H Q := by
  cases x with
  | ListComp e' gs scope p =>
    match gs, h with
    | [⟨tg', iter', ifs', as⟩], h =>
      have hl : sc.names.lookup y = some .local := by
        have z : (sc.names.lookup y == some .local && py.line == p.line && !(scope.names.any fun (n, k) => n == y && (k == .local || k == .cell))) = true := hw
        simp only [Bool.and_eq_true] at z
        simpa using z.1.1
      simp only [mE, Bool.and_eq_true, Bool.not_eq_true', decide_eq_true_eq] at h
      obtain ⟨⟨⟨⟨⟨⟨⟨⟨h1, h2⟩, h3⟩, h4⟩, h5⟩, h6⟩, h7⟩, h8⟩, h9⟩ := h
      subst h9
      have own2 : (ownN X.N own).map (·.2) = own := by
        unfold ownN
        rw [List.map_map]
        exact List.map_id' own
      have hgs : ∀ j, j ∈ tg.slots → j ∈ own := fun j hj => of_decide_eq_true (List.all_eq_true.mp h7 j hj)
      have bo := blkOk_by h6
      have bo' : BlkOk X.N X.env.scope scope (ownN X.N own) := ⟨bo.kind, bo.uniq, bo.ix, fun y hy e => cs.up _ (bo.free y hy e), bo.own⟩
      have sw : swapsWith (.ListComp e' [⟨tg', iter', ifs', 0⟩] scope p) (some (.Name y py)) pos.line X.env = pure true := by
        rw [swaps_eq (by rw [hsc]; exact hk) rfl, hsc, hw]
      have z := ps_setLc (spos := pos) (wi := tI X.K (evI C src)) (g := tG X.K tg) (tt := tB X.K (evCs C ifs)) (te := tE X.K (evE C elt)) c.calm c.nd hi (by rw [hsc]; exact hl) sw (sndI src tg' iter' c cs h1) bo'
        (fun s H C' cl fp => g_ok (X := X.blk s H scope (compEnvC scope cl C' X.env) fp) c.calm c.nd (cs.blk s H C' cl fp) tg tg' h2)
        (fun s H C' cl fp => sndCs ifs ifs' (c.blk s H scope (compEnvC scope cl C' X.env) fp) (cs.blk s H C' cl fp) h3)
        (fun s H C' cl fp => (sndE elt e' (c.blk s H scope (compEnvC scope cl C' X.env) fp) (cs.blk s H C' cl fp) h4).se.fe h5) (setFree_of h8 X.env)
      rw [own2] at z
      refine ⟨_, z, fun σ H Q w => lc_read hgs ?_⟩
      have q : evE C (.comp elt tg src ifs own) = compEv tg own (evI C src) (evCs C ifs) (evE C elt) := by
        funext env μ
        simp only [evE, compEv]
      rw [← q]
      exact w
    | [], h => simp [mE] at h
    | _ :: _ :: _, h => simp [mE] at h
  | _ => simp [mE] at h
/-- a list comprehension stands only for comp, or a cell of it -/
theorem comp_only {X : Cx} {sc : Scope} {m : ME} {x tg : Expr} (h : mE Tb X.N sc m x = true) (hw : swB sc x tg = true) : (∃ elt g src ifs own, m = .comp elt g src ifs own) ∨ ∃ elt g src ifs own, m = .cell (.comp elt g src ifs own) := by
  cases x with
  | ListComp e' gs scope p =>
    cases m with
    | comp elt g src ifs own => exact .inl ⟨_, _, _, _, _, rfl⟩
    | cell m =>
      simp only [mE, Bool.and_eq_true] at h
      cases m with
      | comp elt g src ifs own => exact .inr ⟨_, _, _, _, _, rfl⟩
      | cell m => simp [isFresh] at h
      | _ => simp [mE] at h
    | _ => simp [mE] at h
  | _ => simp [swB] at hw
/-- name = e -/
theorem name_asg {X : Cx} {sc : Scope} {m : ME} {x : Expr} {y : Str} {py pos : Pos} {i : Nat} (c : CxE Tb C n X) (cs : CxS X sc) (hsc : X.env.scope = sc) (hk : sc.kind = .function) (h : mE Tb X.N sc m x = true) (ho : isOv m = false) (hlc : isLComp x = true)
    (hi : X.N[i]? = some y) (hl : kindB sc isLoc y = true) : (∃ te, PS X (.Assign [.Name y py] x pos) (tAsg te (gName i)) ∧ ∀ σ H Q, tE X.K (evE C m) σ H Q → te σ H Q) ∧
      (isFresh Tb.T m = true → ∃ te, PS X (.Assign [.Name y py] x pos) (tAsg te (gName i)) ∧ ∀ σ H Q, tX X.K (evE C m) σ H Q → te σ H Q) := by
  have eX : ∀ (ev : Ev → Mem → Option (D × Mem)) σ H Q, tE X.K ev σ H Q → tX X.K ev σ H Q := fun ev σ H Q ⟨env, μ, ι, B, B0, d, μ', a, e, k⟩ => ⟨env, μ, ι, B, B0, d, μ', a, e, KX.of k⟩
  cases hw : swB sc x (.Name y py) with
  | false =>
    have hs : swapsWith x (some (.Name y py)) pos.line X.env = pure false := by rw [swaps_eq (by rw [hsc]; exact hk) hlc, hsc, hw]
    have A := (sndE m x c cs h).se
    obtain ⟨l1, l2⟩ := cs.loc y hl
    exact ⟨⟨_, ps_set c.nd hi l1 (A.fe ho) hs l2, fun _ _ _ w => w⟩, fun hf => ⟨_, ps_set c.nd hi l1 (A.fx hf) hs l2, fun _ _ _ w => w⟩⟩
  | true =>
    rcases comp_only h hw with ⟨elt, g, src, ifs, own, rfl⟩ | ⟨elt, g, src, ifs, own, rfl⟩
    · obtain ⟨te, z1, z2⟩ := comp_set (pos := pos) c cs hsc hk h hw hi
      exact ⟨⟨te, z1, fun σ H Q w => z2 σ H Q (eX _ σ H Q w)⟩, fun _ => ⟨te, z1, z2⟩⟩
    · have h' : mE Tb X.N sc (.comp elt g src ifs own) x = true := by
        simp only [mE, Bool.and_eq_true] at h
        exact h.2
      obtain ⟨te, z1, z2⟩ := comp_set (pos := pos) c cs hsc hk h' hw hi
      refine ⟨⟨te, z1, fun σ H Q w => z2 σ H Q (cell_read (fun env μ => ?_) σ H Q w)⟩, fun hf => by simp [isFresh] at hf⟩
      simp only [evE] <;> rfl
end
def parM (N : List Str) (sc : Scope) : List Nat → List Expr → Bool
  | [], [] => true
  | i :: is, .Name x _ :: ts => decide (N[i]? = some x) && decide (sc.names.lookup x = some .local) && !(is.contains i) && parM N sc is ts
  | _, _ => false
def parNs : List Expr → List Str
  | .Name x _ :: ts => x :: parNs ts
  | _ => []
mutual
def mS (Tb : Tab) (N : List Str) (fr : Bool) (sc : Scope) : MS → Stmt → Bool
  | .asg g e, .Assign [tg] x _ => tgOk tg && mE Tb N sc e x && !isOv e && isLComp x && (match g, tg with
    | .nm i, .Name y _ => decide (N[i]? = some y) && kindB sc isLoc y
    | .tp gs, .Tuple ts k p => mG N sc (.tp gs) (.Tuple ts k p) && swOff sc (.Tuple ts k p) x
    | _, _ => false)
  | .own i e, .Assign [.Name y _] x _ => mE Tb N sc e x && !isOv e && isFresh Tb.T e && isLComp x && decide (N[i]? = some y) && kindB sc isLoc y
  | .par is es, .Assign [.Tuple ts _ _] (.Tuple vs _ _) _ => mEs Tb N sc es vs && parM N sc is ts && swTest sc ts vs && !(vs.all (constantsAlone 8)) && decide (swNames sc ts = parNs ts) && (is.length == 2 || is.length == 3)
  | .aug i o e, .AugAssign (.Name x _) op y _ => (match o with
    | .add => decide (op = .Add)
    | .sub => decide (op = .Sub)
    | _ => false) && decide (N[i]? = some x) && kindB sc isLoc x && mE Tb N sc e y
  | .sset a i e, .Assign [.Subscript o ix _] x _ => mE Tb N sc e x && !isOv e && mE Tb N sc a o && mE Tb N sc i ix && ixPlain ix && isLComp x
  | .meth m a es, .Expr (.Call (.Attribute o nm apos) (y :: ys) [] cpos) _ => decide (nm = mthNm m) && mE Tb N sc a o && mEs Tb N sc es (y :: ys) && recvOk o && (apos.endLine == cpos.line) && decide (ys.length < 29)
  | .ometh m i es, .Expr (.Call (.Attribute (.Name x _) nm apos) (y :: ys) [] cpos) _ => decide (nm = mthNm m) && nameM N sc i x && mEs Tb N sc es (y :: ys) && (apos.endLine == cpos.line) && decide (ys.length < 29)
  | .oset i ix e, .Assign [.Subscript (.Name y _) z _] x _ => mE Tb N sc e x && !isOv e && nameM N sc i y && mE Tb N sc ix z && ixPlain z && isLComp x
  | .opop i, .Expr (.Call (.Attribute (.Name x _) nm apos) [] [] cpos) _ => decide (nm = ("pop" : Str)) && nameM N sc i x && (apos.endLine == cpos.line)
  | .expr e, .Expr x _ => mE Tb N sc e x && !isOv e && !isComp x
  | .ret e, .Return (some x) _ => mE Tb N sc e x && !isOv e && (!fr || isFresh Tb.T e)
  | .reto i, .Return (some (.Name x _)) _ => nameM N sc i x
  | .retn, .Return none _ => true
  | .iff c a b, .If x y z _ => tOk c && mE Tb N sc c x && mSs Tb N fr sc a y && mSs Tb N fr sc b z
  | .for g src body, .For tg it y [] _ => mI Tb N sc src tg it && mG N sc g tg && setFree it && mSs Tb N fr sc body y
  | .whl c body, .While x y [] _ => tOk c && mE Tb N sc c x && mSs Tb N fr sc body y
  | .pass, .Pass _ => true
  | .brk, .Break _ => true
  | .cnt, .Continue _ => true
  | .raise, .Raise _ _ _ => true
  | _, _ => false
def mSs (Tb : Tab) (N : List Str) (fr : Bool) (sc : Scope) : List MS → List Stmt → Bool
  | [], [] => true
  | m :: ms, s :: ss => mS Tb N fr sc m s && mSs Tb N fr sc ms ss
  | _, _ => false
end
end DI
set_option Elab.async false
set_option linter.all false
set_option maxRecDepth 100000
set_option maxHeartbeats 8000000
/-! DI19: a piece of the language that stands for a text is what the text does: statements, defs -/
namespace DI
open PySem PySem.Spec PyProof.Rows L2
theorem nm_slot {N : List Str} {sc : Scope} {i : Nat} {x : Str} (h : nameM N sc i x = true) : N[i]? = some x := (nameM_ok h).1
theorem parM_two {N : List Str} {sc : Scope} {is : List Nat} {ts : List Expr} (h : parM N sc is ts = true) (h2 : is.length = 2) : ∃ i j x y px py, is = [i, j] ∧ ts = [.Name x px, .Name y py] ∧ N[i]? = some x ∧ N[j]? = some y ∧ sc.names.lookup x = some .local ∧ sc.names.lookup y = some .local ∧ i ≠ j := by
  match is, h2, ts, h with
  | [i, j], _, [.Name x px, .Name y py], h =>
    simp only [parM, Bool.and_eq_true, decide_eq_true_eq, Bool.not_eq_true', List.contains_cons, List.contains_nil, Bool.or_false] at h
    obtain ⟨⟨⟨h1, h2⟩, h3⟩, ⟨⟨h4, h5⟩, _⟩, _⟩ := h
    exact ⟨i, j, x, y, px, py, rfl, rfl, h1, h4, h2, h5, by simpa using h3⟩
  | [i, j], _, [], h => simp [parM] at h
  | [i, j], _, [t], h => cases t <;> simp [parM] at h
  | [i, j], _, t :: u :: v :: w, h => cases t <;> cases u <;> simp [parM] at h
  | [i, j], _, [t, u], h => cases t <;> cases u <;> first | (simp [parM] at h; done) | (simp only [parM, Bool.and_eq_true, decide_eq_true_eq, Bool.not_eq_true', List.contains_cons, List.contains_nil, Bool.or_false] at h; obtain ⟨⟨⟨h1, h2⟩, h3⟩, ⟨⟨h4, h5⟩, _⟩, _⟩ := h; exact ⟨i, j, _, _, _, _, rfl, rfl, h1, h4, h2, h5, by simpa using h3⟩)
theorem parM_three {N : List Str} {sc : Scope} {is : List Nat} {ts : List Expr} (h : parM N sc is ts = true) (h2 : is.length = 3) : ∃ i j l x y z px py pz, is = [i, j, l] ∧ ts = [.Name x px, .Name y py, .Name z pz] ∧ N[i]? = some x ∧ N[j]? = some y ∧ N[l]? = some z ∧
    sc.names.lookup x = some .local ∧ sc.names.lookup y = some .local ∧ sc.names.lookup z = some .local ∧ i ≠ j ∧ i ≠ l ∧ j ≠ l := by
  match is, h2 with
  | [i, j, l], _ =>
    match ts with
    | [] => simp [parM] at h
    | [t] => cases t <;> simp [parM] at h
    | [t, u] => cases t <;> cases u <;> simp [parM] at h
    | t :: u :: v :: w =>
      cases t with
      | Name x px =>
        cases u with
        | Name y py =>
          cases v with
          | Name z pz =>
            cases w with
            | nil =>
              simp only [parM, Bool.and_eq_true, decide_eq_true_eq, Bool.not_eq_true', List.contains_cons, List.contains_nil, Bool.or_false, Bool.or_eq_false_iff] at h
              obtain ⟨⟨⟨h1, h2⟩, h3, h3'⟩, ⟨⟨h4, h5⟩, h6⟩, ⟨⟨h7, h8⟩, _⟩, _⟩ := h
              exact ⟨i, j, l, x, y, z, px, py, pz, rfl, rfl, h1, h4, h7, h2, h5, h8, by simpa using h3, by simpa using h3', by simpa using h6⟩
            | cons _ _ => simp [parM] at h
          | _ => simp [parM] at h
        | _ => simp [parM] at h
      | _ => simp [parM] at h
section
variable {Tb : Tab} {C : Call} {n : Nat} {H0 : Hp} {ι0 : Cells} {B0 : List Addr} {fr : Bool} {wf : Nat}
theorem snd_asg {X : Cx} {sc : Scope} (c : CxE Tb C n X) (cs : CxS X sc) (hsc : X.env.scope = sc) (hk : sc.kind = .function) (hx : X.xe = fun _ _ => False) (g : MG) (e : ME) (st : Stmt) (h : mS Tb X.N fr sc (.asg g e) st = true) : PS X st (tS X.K H0 ι0 B0 fr (evS C wf (.asg g e))) := by
    cases st with
    | Assign tgs x pos =>
      match tgs, h with
      | [tg], h =>
        simp only [mS, Bool.and_eq_true, Bool.not_eq_true'] at h
        obtain ⟨⟨⟨⟨h1, h2⟩, h3⟩, h4⟩, h5⟩ := h
        cases g with
        | nm i =>
          cases tg with
          | Name y py =>
            simp only [Bool.and_eq_true, decide_eq_true_eq] at h5
            obtain ⟨⟨te, z1, z2⟩, _⟩ := name_asg (pos := pos) (py := py) c cs hsc hk h2 h3 h4 h5.1 h5.2
            exact s_name z1 z2 fun _ _ => by simp only [evS]
          | _ => simp at h5
        | tp gs =>
          cases tg with
          | Tuple ts k p =>
            simp only [Bool.and_eq_true] at h5
            have hk' : X.env.scope.kind = .function := by rw [hsc]; exact hk
            refine s_asg ((sndE e x c cs h2).se.fe h3) (g_ok c.calm c.nd cs (.tp gs) _ h5.1) ?_ (stores_none hk' h1 (by rw [hsc]; exact h5.2)) (assign_one h1 _) fun _ _ => by simp only [evS]
            show swapsWith x (some (.Tuple ts k p)) pos.line X.env = pure false
            rw [swaps_eq hk' h4]
            cases x <;> rfl
          | _ => simp at h5
      | [], h => exact absurd (show false = true from h) Bool.false_ne_true
      | t :: _ :: _, h => cases t <;> exact absurd (show false = true from h) Bool.false_ne_true
    | _ => simp [mS] at h
theorem snd_own {X : Cx} {sc : Scope} (c : CxE Tb C n X) (cs : CxS X sc) (hsc : X.env.scope = sc) (hk : sc.kind = .function) (hx : X.xe = fun _ _ => False) (i : Nat) (e : ME) (st : Stmt) (h : mS Tb X.N fr sc (.own i e) st = true) : PS X st (tS X.K H0 ι0 B0 fr (evS C wf (.own i e))) := by
    cases st with
    | Assign tgs x pos =>
      match tgs, h with
      | [tg], h =>
        cases tg with
        | Name y py =>
          simp only [mS, Bool.and_eq_true, Bool.not_eq_true', decide_eq_true_eq] at h
          obtain ⟨⟨⟨⟨⟨h1, h2⟩, h3⟩, h4⟩, h5⟩, h6⟩ := h
          obtain ⟨_, z⟩ := name_asg (pos := pos) (py := py) c cs hsc hk h1 h2 h4 h5 h6
          obtain ⟨te, z1, z2⟩ := z h3
          exact s_own z1 z2 fun _ _ => by simp only [evS] <;> rfl
        | _ => simp [mS] at h
      | [], h => exact absurd (show false = true from h) Bool.false_ne_true
      | t :: _ :: _, h => cases t <;> exact absurd (show false = true from h) Bool.false_ne_true
    | _ => simp [mS] at h
theorem snd_par {X : Cx} {sc : Scope} (c : CxE Tb C n X) (cs : CxS X sc) (hsc : X.env.scope = sc) (hk : sc.kind = .function) (hx : X.xe = fun _ _ => False) (is : List Nat) (es : List ME) (st : Stmt) (h : mS Tb X.N fr sc (.par is es) st = true) : PS X st (tS X.K H0 ι0 B0 fr (evS C wf (.par is es))) := by
    cases st with
    | Assign tgs x pos =>
      match tgs, h with
      | [tg], h =>
        cases tg with
        | Tuple ts k p =>
          cases x with
          | Tuple vs k2 p2 =>
            simp only [mS, Bool.and_eq_true, Bool.not_eq_true', decide_eq_true_eq] at h
            obtain ⟨⟨⟨⟨⟨h1, h2⟩, h3⟩, h4⟩, h5⟩, h6⟩ := h
            have hk' : X.env.scope.kind = .function := by rw [hsc]; exact hk
            have hw := sw_some (k := k) (k2 := k2) (p := p) (p2 := p2) hk' (by rw [hsc]; exact h3) h4
            rw [hsc, h5] at hw
            obtain ⟨g1, g2, g3⟩ := sndEs es vs c cs h1
            have lv : vs.length = ts.length := by
              have z := h3
              unfold swTest at z
              simp only [Bool.and_eq_true] at z
              simpa using z.1.1.1.1.2
            rw [Bool.or_eq_true] at h6
            rcases h6 with h6 | h6
            · obtain ⟨i, j, x, y, px, py, rfl, rfl, e1, e2, e3, e4, e5⟩ := parM_two h2 (by simpa using h6)
              match vs, lv, g1, hw with
              | [a, b], _, g1, hw => exact s_par2 (ps_par c.calm c.nd e1 e2 e5 (by rw [hsc]; exact e3) (by rw [hsc]; exact e4) g1 hw rfl) fun _ _ => by simp only [evS]
            · obtain ⟨i, j, l, x, y, z, px, py, pz, rfl, rfl, e1, e2, e3, e4, e5, e6, e7, e8, e9⟩ := parM_three h2 (by simpa using h6)
              match vs, lv, g1, hw with
              | [a, b, d], _, g1, hw => exact s_par3 (ps_par3 c.calm c.nd e1 e2 e3 e7 e8 e9 (by rw [hsc]; exact e4) (by rw [hsc]; exact e5) (by rw [hsc]; exact e6) g1 hw rfl) fun _ _ => by simp only [evS]
          | _ => simp [mS] at h
        | _ => simp [mS] at h
      | [], h => exact absurd (show false = true from h) Bool.false_ne_true
      | t :: _ :: _, h => cases t <;> exact absurd (show false = true from h) Bool.false_ne_true
    | _ => simp [mS] at h
theorem snd_aug {X : Cx} {sc : Scope} (c : CxE Tb C n X) (cs : CxS X sc) (hsc : X.env.scope = sc) (hk : sc.kind = .function) (hx : X.xe = fun _ _ => False) (i : Nat) (o : Bop) (e : ME) (st : Stmt) (h : mS Tb X.N fr sc (.aug i o e) st = true) : PS X st (tS X.K H0 ι0 B0 fr (evS C wf (.aug i o e))) := by
    cases st with
    | AugAssign tg op y pos =>
      cases tg with
      | Name x px =>
        simp only [mS, Bool.and_eq_true, decide_eq_true_eq] at h
        obtain ⟨⟨⟨h1, h2⟩, h3⟩, h4⟩ := h
        obtain ⟨l1, l2⟩ := cs.loc x h3
        have ho : (o = .add ∧ op = .Add) ∨ (o = .sub ∧ op = .Sub) := by
          cases o with
          | add => exact .inl ⟨rfl, by simpa using h1⟩
          | sub => exact .inr ⟨rfl, by simpa using h1⟩
          | _ => simp at h1
        refine s_aug ho c.nd h2 l1 l2 (sndE e y c cs h4).se.fa fun env μ r q => ?_
        simp only [evS] at q
        split at q
        · rename_i u hu
          obtain ⟨⟨d, ν⟩, q1, q2⟩ := Option.bind_eq_some_iff.mp q
          dsimp only at q2
          split at q2
          · cases q2
            exact ⟨u, _, ν, hu, q1, by rw [if_pos rfl]⟩
          · cases q2
            exact ⟨u, _, ν, hu, q1, by rw [if_neg (by decide)]⟩
          · cases q2
        · cases q
      | _ => simp [mS] at h
    | _ => simp [mS] at h
theorem snd_sset {X : Cx} {sc : Scope} (c : CxE Tb C n X) (cs : CxS X sc) (hsc : X.env.scope = sc) (hk : sc.kind = .function) (hx : X.xe = fun _ _ => False) (a : ME) (i : ME) (e : ME) (st : Stmt) (h : mS Tb X.N fr sc (.sset a i e) st = true) : PS X st (tS X.K H0 ι0 B0 fr (evS C wf (.sset a i e))) := by
    cases st with
    | Assign tgs x pos =>
      match tgs, h with
      | [tg], h =>
        cases tg with
        | Subscript o ix p2 =>
          simp only [mS, Bool.and_eq_true, Bool.not_eq_true'] at h
          obtain ⟨⟨⟨⟨⟨h1, h2⟩, h3⟩, h4⟩, h5⟩, h6⟩ := h
          have hk' : X.env.scope.kind = .function := by rw [hsc]; exact hk
          refine s_sset ((sndE e x c cs h1).se.fe h2) (sndE a o c cs h3).se.fa (sndE i ix c cs h4).se.fa ?_ rfl (assign_sub h5 _) fun _ _ => by simp only [evS] <;> rfl
          show swapsWith x (some (.Subscript o ix p2)) pos.line X.env = pure false
          rw [swaps_eq hk' h6]
          cases x <;> rfl
        | _ => simp [mS] at h
      | [], h => exact absurd (show false = true from h) Bool.false_ne_true
      | t :: _ :: _, h => cases t <;> exact absurd (show false = true from h) Bool.false_ne_true
    | _ => simp [mS] at h
theorem snd_meth {X : Cx} {sc : Scope} (c : CxE Tb C n X) (cs : CxS X sc) (hsc : X.env.scope = sc) (hk : sc.kind = .function) (hx : X.xe = fun _ _ => False) (m : Mth) (a : ME) (es : List ME) (st : Stmt) (h : mS Tb X.N fr sc (.meth m a es) st = true) : PS X st (tS X.K H0 ι0 B0 fr (evS C wf (.meth m a es))) := by
    cases st with
    | Expr x pos =>
      cases x with
      | Call g xs kws cpos =>
        cases g with
        | Attribute o nm apos =>
          match xs, kws, h with
          | y :: ys, [], h =>
            simp only [mS, Bool.and_eq_true, decide_eq_true_eq] at h
            obtain ⟨⟨⟨⟨⟨h1, h2⟩, h3⟩, h4⟩, h5⟩, h6⟩ := h
            subst h1
            obtain ⟨g1, g2, g3⟩ := sndEs es (y :: ys) c cs h3
            exact s_meth (sndE a o c cs h2).se.fa g1 h4 h5 g2 (by rw [List.length_cons]; omega) fun _ _ => by simp only [evS] <;> rfl
          | [], _, h => simp [mS] at h
          | _ :: _, _ :: _, h => simp [mS] at h
        | _ => simp [mS] at h
      | _ => simp [mS] at h
    | _ => simp [mS] at h
theorem snd_ometh {X : Cx} {sc : Scope} (c : CxE Tb C n X) (cs : CxS X sc) (hsc : X.env.scope = sc) (hk : sc.kind = .function) (hx : X.xe = fun _ _ => False) (m : Mth) (i : Nat) (es : List ME) (st : Stmt) (h : mS Tb X.N fr sc (.ometh m i es) st = true) : PS X st (tS X.K H0 ι0 B0 fr (evS C wf (.ometh m i es))) := by
    cases st with
    | Expr x pos =>
      cases x with
      | Call g xs kws cpos =>
        cases g with
        | Attribute o nm apos =>
          cases o with
          | Name x px =>
            match xs, kws, h with
            | y :: ys, [], h =>
              simp only [mS, Bool.and_eq_true, decide_eq_true_eq] at h
              obtain ⟨⟨⟨⟨h1, h2⟩, h3⟩, h5⟩, h6⟩ := h
              subst h1
              obtain ⟨g1, g2, g3⟩ := sndEs es (y :: ys) c cs h3
              obtain ⟨n1, n2, n3, n4⟩ := nameM_ok h2
              exact s_ometh (pe_var n1 (cs.vis x n2) n3 n4) g1 h5 g2 (by rw [List.length_cons]; omega) fun _ _ => by simp only [evS] <;> rfl
            | [], _, h => simp [mS] at h
            | _ :: _, _ :: _, h => simp [mS] at h
          | _ => simp [mS] at h
        | _ => simp [mS] at h
      | _ => simp [mS] at h
    | _ => simp [mS] at h
theorem snd_opop {X : Cx} {sc : Scope} (c : CxE Tb C n X) (cs : CxS X sc) (hsc : X.env.scope = sc) (hk : sc.kind = .function) (hx : X.xe = fun _ _ => False) (i : Nat) (st : Stmt) (h : mS Tb X.N fr sc (.opop i) st = true) : PS X st (tS X.K H0 ι0 B0 fr (evS C wf (.opop i))) := by
    cases st with
    | Expr x pos =>
      cases x with
      | Call g xs kws cpos =>
        cases g with
        | Attribute o nm apos =>
          cases o with
          | Name x px =>
            match xs, kws, h with
            | [], [], h =>
              simp only [mS, Bool.and_eq_true, decide_eq_true_eq] at h
              obtain ⟨⟨h1, h2⟩, h3⟩ := h
              subst h1
              obtain ⟨n1, n2, n3, n4⟩ := nameM_ok h2
              exact s_opop (pe_var n1 (cs.vis x n2) n3 n4) h3 fun _ _ => by simp only [evS] <;> rfl
            | _ :: _, _, h => simp [mS] at h
            | [], _ :: _, h => simp [mS] at h
          | _ => simp [mS] at h
        | _ => simp [mS] at h
      | _ => simp [mS] at h
    | _ => simp [mS] at h
theorem snd_oset {X : Cx} {sc : Scope} (c : CxE Tb C n X) (cs : CxS X sc) (hsc : X.env.scope = sc) (hk : sc.kind = .function) (hx : X.xe = fun _ _ => False) (i : Nat) (ix : ME) (e : ME) (st : Stmt) (h : mS Tb X.N fr sc (.oset i ix e) st = true) : PS X st (tS X.K H0 ι0 B0 fr (evS C wf (.oset i ix e))) := by
    cases st with
    | Assign tgs x pos =>
      match tgs, h with
      | [tg], h =>
        cases tg with
        | Subscript o z p2 =>
          cases o with
          | Name y py =>
            simp only [mS, Bool.and_eq_true, Bool.not_eq_true'] at h
            obtain ⟨⟨⟨⟨⟨h1, h2⟩, h3⟩, h4⟩, h5⟩, h6⟩ := h
            have hk' : X.env.scope.kind = .function := by rw [hsc]; exact hk
            obtain ⟨n1, n2, n3, n4⟩ := nameM_ok h3
            refine s_oset ((sndE e x c cs h1).se.fe h2) (pe_var n1 (cs.vis y n2) n3 n4) (sndE ix z c cs h4).se.fa ?_ rfl (assign_sub h5 _) fun _ _ => by simp only [evS] <;> rfl
            show swapsWith x (some (.Subscript (.Name y py) z p2)) pos.line X.env = pure false
            rw [swaps_eq hk' h6]
            cases x <;> rfl
          | _ => simp [mS] at h
        | _ => simp [mS] at h
      | [], h => exact absurd (show false = true from h) Bool.false_ne_true
      | t :: _ :: _, h =>
        cases t with
        | Subscript a b c => cases a <;> exact absurd (show false = true from h) Bool.false_ne_true
        | _ => exact absurd (show false = true from h) Bool.false_ne_true
    | _ => simp [mS] at h
theorem snd_expr {X : Cx} {sc : Scope} (c : CxE Tb C n X) (cs : CxS X sc) (hsc : X.env.scope = sc) (hk : sc.kind = .function) (hx : X.xe = fun _ _ => False) (e : ME) (st : Stmt) (h : mS Tb X.N fr sc (.expr e) st = true) : PS X st (tS X.K H0 ι0 B0 fr (evS C wf (.expr e))) := by
    cases st with
    | Expr x pos =>
      simp only [mS, Bool.and_eq_true, Bool.not_eq_true'] at h
      obtain ⟨⟨h1, h2⟩, h3⟩ := h
      exact s_expr ((sndE e x c cs h1).se.fe h2) (swaps_none h3) fun _ _ => by simp only [evS]
    | _ => simp [mS] at h
theorem snd_ret {X : Cx} {sc : Scope} (c : CxE Tb C n X) (cs : CxS X sc) (hsc : X.env.scope = sc) (hk : sc.kind = .function) (hx : X.xe = fun _ _ => False) (e : ME) (st : Stmt) (h : mS Tb X.N fr sc (.ret e) st = true) : PS X st (tS X.K H0 ι0 B0 fr (evS C wf (.ret e))) := by
    cases st with
    | Return v pos =>
      cases v with
      | some x =>
        simp only [mS, Bool.and_eq_true, Bool.not_eq_true'] at h
        obtain ⟨⟨h1, h2⟩, h3⟩ := h
        have A := (sndE e x c cs h1).se
        refine s_ret (ea := evE C e) ?_ fun _ _ => by simp only [evS]
        cases fr with
        | true => exact A.fx (by simpa using h3)
        | false => exact A.fe h2
      | none => simp [mS] at h
    | _ => simp [mS] at h
theorem snd_reto {X : Cx} {sc : Scope} (c : CxE Tb C n X) (cs : CxS X sc) (hsc : X.env.scope = sc) (hk : sc.kind = .function) (hx : X.xe = fun _ _ => False) (i : Nat) (st : Stmt) (h : mS Tb X.N fr sc (.reto i) st = true) : PS X st (tS X.K H0 ι0 B0 fr (evS C wf (.reto i))) := by
    cases st with
    | Return v pos =>
      cases v with
      | some x =>
        cases x with
        | Name x px =>
          simp only [mS] at h
          obtain ⟨n1, n2, n3, n4⟩ := nameM_ok h
          exact s_reto (pe_var n1 (cs.vis x n2) n3 n4) fun _ _ => by simp only [evS] <;> rfl
        | _ => simp [mS] at h
      | none => simp [mS] at h
    | _ => simp [mS] at h
theorem snd_retn {X : Cx} {sc : Scope} (c : CxE Tb C n X) (cs : CxS X sc) (hsc : X.env.scope = sc) (hk : sc.kind = .function) (hx : X.xe = fun _ _ => False) (st : Stmt) (h : mS Tb X.N fr sc (.retn) st = true) : PS X st (tS X.K H0 ι0 B0 fr (evS C wf (.retn))) := by
    cases st with
    | Return v pos =>
      cases v with
      | none => exact s_retn fun _ _ => by simp only [evS]
      | some _ => simp [mS] at h
    | _ => simp [mS] at h
theorem snd_pass {X : Cx} {sc : Scope} (c : CxE Tb C n X) (cs : CxS X sc) (hsc : X.env.scope = sc) (hk : sc.kind = .function) (hx : X.xe = fun _ _ => False) (st : Stmt) (h : mS Tb X.N fr sc (.pass) st = true) : PS X st (tS X.K H0 ι0 B0 fr (evS C wf (.pass))) := by
    cases st with
    | Pass pos => exact s_pass fun _ _ => by simp only [evS]
    | _ => simp [mS] at h
theorem snd_brk {X : Cx} {sc : Scope} (c : CxE Tb C n X) (cs : CxS X sc) (hsc : X.env.scope = sc) (hk : sc.kind = .function) (hx : X.xe = fun _ _ => False) (st : Stmt) (h : mS Tb X.N fr sc (.brk) st = true) : PS X st (tS X.K H0 ι0 B0 fr (evS C wf (.brk))) := by
    cases st with
    | Break pos => exact s_brk fun _ _ => by simp only [evS]
    | _ => simp [mS] at h
theorem snd_cnt {X : Cx} {sc : Scope} (c : CxE Tb C n X) (cs : CxS X sc) (hsc : X.env.scope = sc) (hk : sc.kind = .function) (hx : X.xe = fun _ _ => False) (st : Stmt) (h : mS Tb X.N fr sc (.cnt) st = true) : PS X st (tS X.K H0 ι0 B0 fr (evS C wf (.cnt))) := by
    cases st with
    | Continue pos => exact s_cnt fun _ _ => by simp only [evS]
    | _ => simp [mS] at h
theorem snd_raise {X : Cx} {sc : Scope} (c : CxE Tb C n X) (cs : CxS X sc) (hsc : X.env.scope = sc) (hk : sc.kind = .function) (hx : X.xe = fun _ _ => False) (st : Stmt) (h : mS Tb X.N fr sc (.raise) st = true) : PS X st (tS X.K H0 ι0 B0 fr (evS C wf (.raise))) := s_raise fun _ _ => by simp only [evS]
theorem snd_doc {X : Cx} {sc : Scope} (c : CxE Tb C n X) (cs : CxS X sc) (hsc : X.env.scope = sc) (hk : sc.kind = .function) (hx : X.xe = fun _ _ => False) (st : Stmt) (h : mS Tb X.N fr sc (.doc) st = true) : PS X st (tS X.K H0 ι0 B0 fr (evS C wf (.doc))) := by cases st <;> simp [mS] at h
mutual
theorem sndS {X : Cx} {sc : Scope} (c : CxE Tb C n X) (cs : CxS X sc) (hsc : X.env.scope = sc) (hk : sc.kind = .function) (hx : X.xe = fun _ _ => False) : ∀ (m : MS) (st : Stmt), mS Tb X.N fr sc m st = true → PS X st (tS X.K H0 ι0 B0 fr (evS C wf m))
  | .asg g e, st, h => snd_asg c cs hsc hk hx g e st h
  | .own i e, st, h => snd_own c cs hsc hk hx i e st h
  | .par is es, st, h => snd_par c cs hsc hk hx is es st h
  | .aug i o e, st, h => snd_aug c cs hsc hk hx i o e st h
  | .sset a i e, st, h => snd_sset c cs hsc hk hx a i e st h
  | .meth m a es, st, h => snd_meth c cs hsc hk hx m a es st h
  | .ometh m i es, st, h => snd_ometh c cs hsc hk hx m i es st h
  | .opop i, st, h => snd_opop c cs hsc hk hx i st h
  | .oset i ix e, st, h => snd_oset c cs hsc hk hx i ix e st h
  | .expr e, st, h => snd_expr c cs hsc hk hx e st h
  | .ret e, st, h => snd_ret c cs hsc hk hx e st h
  | .reto i, st, h => snd_reto c cs hsc hk hx i st h
  | .retn, st, h => snd_retn c cs hsc hk hx st h
  | .iff z a b, st, h => by
    cases st with
    | If x y w pos =>
      simp only [mS, Bool.and_eq_true] at h
      obtain ⟨⟨⟨h1, h2⟩, h3⟩, h4⟩ := h
      exact s_if ((sndE z x c cs h2).pt h1) (sndSs c cs hsc hk hx a y h3) (sndSs c cs hsc hk hx b w h4) fun _ _ => by simp only [evS]
    | _ => simp [mS] at h
  | .for g src body, st, h => by
    cases st with
    | For tg it y els pos =>
      cases els with
      | nil =>
        simp only [mS, Bool.and_eq_true] at h
        obtain ⟨⟨⟨h1, h2⟩, h3⟩, h4⟩ := h
        exact s_for hx c.calm (sndI src tg it c cs h1) (g_ok c.calm c.nd cs g tg h2) (sndSs c cs hsc hk hx body y h4) (setFree_of h3 X.env) fun _ _ => by simp only [evS]
      | cons _ _ => simp [mS] at h
    | _ => simp [mS] at h
  | .whl z body, st, h => by
    cases st with
    | While x y els pos =>
      cases els with
      | nil =>
        simp only [mS, Bool.and_eq_true] at h
        obtain ⟨⟨h1, h2⟩, h3⟩ := h
        exact s_while (wf := wf) hx ((sndE z x c cs h2).pt h1) (sndSs c cs hsc hk hx body y h3) fun _ _ => by simp only [evS]
      | cons _ _ => simp [mS] at h
    | _ => simp [mS] at h
  | .pass, st, h => snd_pass c cs hsc hk hx st h
  | .brk, st, h => snd_brk c cs hsc hk hx st h
  | .cnt, st, h => snd_cnt c cs hsc hk hx st h
  | .raise, st, h => snd_raise c cs hsc hk hx st h
  | .doc, st, h => snd_doc c cs hsc hk hx st h
theorem sndSs {X : Cx} {sc : Scope} (c : CxE Tb C n X) (cs : CxS X sc) (hsc : X.env.scope = sc) (hk : sc.kind = .function) (hx : X.xe = fun _ _ => False) : ∀ (ms : List MS) (ss : List Stmt), mSs Tb X.N fr sc ms ss = true → PSs X ss (tS X.K H0 ι0 B0 fr (evSs C wf ms))
  | [], ss, h => by
    cases ss with
    | nil => exact s_nil fun _ _ => by simp only [evSs]
    | cons _ _ => simp [mSs] at h
  | m :: ms, ss, h => by
    cases ss with
    | nil => simp [mSs] at h
    | cons s ss =>
      simp only [mSs, Bool.and_eq_true] at h
      exact s_cons (sndS c cs hsc hk hx m s h.1) (sndSs c cs hsc hk hx ms ss h.2) fun _ _ => by simp only [evSs] <;> rfl
end
end
end DI
set_option Elab.async false
set_option linter.all false
set_option maxRecDepth 100000
set_option maxHeartbeats 4000000
/-! DI20: all defs of a text; the law's call -/
namespace DI
open PySem PySem.Spec PyProof.Rows L2
structure DefF (Tb : Tab) (K : PySem.W.Frag) (mg : Str → Option Value) (f : Nat) (m : MF) (x : Str) (ps : List Str) (addr : Addr) (fd : FuncData) : Prop where
  ex : ∃ st N dvs, FunD K x x (defArgs st) (defBody st) (defScope st) dvs [] addr fd ∧ FnScope N ps (defScope st) ∧ N.length = m.slots ∧ ps.length = m.params ∧ mSs Tb N m.fresh (defScope st) m.body (defBody st) = true
  here : mg x = some (.ref addr)
  bi : Binds K fd ps []
  kw : ∀ q, q ∈ Tb.kw → q.f = f → KwB K fd ps q.ks q.np q.perm
  df : ∀ q, q ∈ Tb.df → q.f = f → ∃ dv, Binds K fd ps dv ∧ Vals (q.ds.map V.int) dv
structure ProgF (Tb : Tab) (K : PySem.W.Frag) (mg : Str → Option Value) : Prop where
  blt : ∀ x, x ∈ Tb.blt → mg x = none
  gcd : ∀ x, x ∈ Tb.mods → mg x = some (.builtin "math.gcd")
  cmb : ∀ x, x ∈ Tb.cmb → mg x = some (.type "itertools.combinations")
  gl : ∀ (i : Nat) (x : Str) (d : D), Tb.gl[i]? = some (x, d) → ∃ v u, mg x = some u ∧ RelV v u ∧ ∀ G ι, Rep K G ι v d
  fn : ∀ f m x ps, Tb.T[f]? = some m → Tb.nm[f]? = some (x, ps) → ∃ addr fd, DefF Tb K mg f m x ps addr fd
section
variable {P : Program} {w : World} {K : PySem.W.Frag} {mg : Str → Option Value} {base : Heap} {Tb : Tab} {wf : Nat}
theorem start_env {H : Hp} {ι : Cells} {B : List Addr} {N : List Str} {vs : List V} {ds : List D} (r : Reps K (cut H ι B) ι vs ds) (hl : vs.length ≤ N.length) :
    REnv K H ι B B (L2.start N vs) (ds.map Sl.val ++ List.replicate (N.length - ds.length) .un) := by
  have l := r.length
  have at1 : ∀ (i : Nat) (s : Sl), (ds.map Sl.val ++ List.replicate (N.length - ds.length) Sl.un)[i]? = some s → (∃ d, s = .val d ∧ ds[i]? = some d) ∨ s = .un := fun i s h => by
    by_cases hi : i < ds.length
    · rw [List.getElem?_append_left (by rw [List.length_map]; exact hi), List.getElem?_map] at h
      cases e : ds[i]? with
      | none => rw [e] at h; cases h
      | some d => rw [e] at h; cases h; exact .inl ⟨d, rfl, rfl⟩
    · rw [List.getElem?_append_right (by rw [List.length_map]; omega), List.getElem?_replicate] at h
      split at h
      · cases h; exact .inr rfl
      · cases h
  refine ⟨?_, fun i d h => ?_, fun i es h => ?_, fun i j es fs a h1 h2 h3 h4 => ?_⟩
  · unfold L2.start
    rw [List.length_append, List.length_append, List.length_map, List.length_map, List.length_replicate, List.length_replicate, l]
  · rcases at1 i _ h with ⟨d', e, h'⟩ | e
    · cases e
      obtain ⟨v, e1, e2⟩ := r.get h'
      refine ⟨v, ?_, e2⟩
      unfold L2.start
      have hi := (List.getElem?_eq_some_iff.mp e1).1
      rw [List.getElem?_append_left (by rw [List.length_map]; exact hi), List.getElem?_map, e1]
      rfl
    · cases e
  · rcases at1 i _ h with ⟨d', e, _⟩ | e <;> cases e
  · rcases at1 i _ h1 with ⟨d', e, _⟩ | e <;> cases e
theorem all_fns (PF : ProgF Tb K mg) : ∀ (n f : Nat) (m : MF) (x : Str) (ps : List Str) (addr : Addr) (fd : FuncData), Tb.T[f]? = some m → Tb.nm[f]? = some (x, ps) → DefF Tb K mg f m x ps addr fd →
    FnG P w K mg base n addr fd ps (spD K (callN Tb.T wf n) f m.fresh)
  | 0, f, m, x, ps, addr, fd, hm, hn, DF => by
    have no : ∀ vs H Q E, ¬ spD K (callN Tb.T wf 0) f m.fresh vs H Q E := fun vs H Q E ⟨ds, ι, B, μ, d, μ', S, r, e, k⟩ => by cases e
    exact ⟨fun vs H Q h => (no _ _ _ _ h).elim, fun A outer s H args us vs Q _ _ _ _ _ h => (no _ _ _ _ h).elim⟩
  | n + 1, f, m, x, ps, addr, fd, hm, hn, DF => by
    obtain ⟨st, N, dvs0, F, S, lN, lp, hb⟩ := DF.ex
    have pl : ps.length ≤ N.length := by
      have := congrArg List.length S.pre
      rw [List.length_take] at this
      omega
    have unf : ∀ (ds : List D) (μ : Mem) (d : D) (μ' : Mem), callN Tb.T wf (n + 1) f ds μ = some (d, μ') → ds.length = m.params ∧ ∃ fl, evSs (callN Tb.T wf n) wf m.body (ds.map Sl.val ++ List.replicate (m.slots - m.params) .un) μ = some (fl, μ') ∧ (fl = .rt d ∨ (∃ e, fl = .nx e) ∧ d = .non) := fun ds μ d μ' e => by
      unfold callN at e
      rw [hm] at e
      simp only [Option.bind_some] at e
      split at e
      · rename_i hl
        refine ⟨hl, ?_⟩
        obtain ⟨⟨fl, ν⟩, e1, e2⟩ := Option.bind_eq_some_iff.mp e
        dsimp only at e2
        split at e2
        · cases e2; exact ⟨_, e1, .inl rfl⟩
        · cases e2; exact ⟨_, e1, .inr ⟨⟨_, rfl⟩, rfl⟩⟩
        · cases e2
      · cases e
    refine FnG.of F S (fun vs H Q ⟨ds, ι, B, μ, d, μ', Sm, r, e, k⟩ => by rw [r.length, (unf _ _ _ _ e).1, lp]) fun cdv A outer s H vs Q rm gd ⟨ds, ι, B, μ, d, μ', Sm, r, e, k⟩ => ?_
    obtain ⟨hl, fl, e1, e2⟩ := unf _ _ _ _ e
    have c : CxE Tb (callN Tb.T wf n) n (cxOf CX0 P w K mg base N x (defScope st) addr cdv A outer s H E0).nox := ⟨rfl, S.nd, rm, gd, PF.blt, PF.gcd, PF.cmb, PF.gl, fun f' m' x' ps' h1 h2 => by
      obtain ⟨addr', fd', D'⟩ := PF.fn f' m' x' ps' h1 h2
      obtain ⟨st', N', _, F', _⟩ := D'.ex
      exact ⟨addr', fd', D'.here, F'.kp, D'.bi, all_fns PF n f' m' x' ps' addr' fd' h1 h2 D', D'.kw, D'.df⟩⟩
    refine ⟨_, sndSs (H0 := H) (ι0 := ι) (B0 := B) (fr := m.fresh) (wf := wf) c (CxS.top fun _ => rfl) rfl S.kind rfl m.body (defBody st) hb, ?_⟩
    have hle : vs.length ≤ N.length := by rw [r.length, hl, ← lp]; exact pl
    have en : ds.map Sl.val ++ List.replicate (m.slots - m.params) Sl.un = ds.map Sl.val ++ List.replicate (N.length - ds.length) Sl.un := by rw [lN, hl]
    rw [en] at e1
    refine ⟨_, μ, ι, B, fl, μ', ⟨Ext.refl, Keep.refl, ⟨Sm, start_env r hle⟩⟩, e1, ?_⟩
    rcases e2 with e2 | ⟨⟨ev, e2⟩, e3⟩
    · subst e2
      exact k
    · subst e2 e3
      intro σ' H' ι' B' F' x'
      have kk : KE K H ι B μ' .non Q := by
        cases h : m.fresh with
        | true => rw [h] at k; exact k
        | false => rw [h] at k; exact k
      exact kk .non H' ι' ⟨F'.x.shrink (fun _ h => h) F'.x.sub, F'.k, F'.a.s.shrink F'.x.sub⟩ .non
end
end DI
set_option Elab.async false
set_option linter.all false
set_option maxRecDepth 100000
set_option maxHeartbeats 4000000
/-! DI21: from the text's defs to the law's own call -/
namespace DI
open PySem PySem.Spec PyProof.Rows L2
section
variable {P : Program} {w : World} {K : PySem.W.Frag} {mg mb : Str → Option Value} {k : Nat} {fa a : Addr} {fd : FuncData} {x : Str} {sp : Sp} {s1 : Shared} {vs : List Value} {ns : List Int}
theorem hid_ns {H : Hp} {a : Addr} {o0 : Obj} (ha : s1.heap.get? a = some o0) (h0 : ∀ es n, o0.data ≠ .dict es n) (only : ∀ b, H b ≠ none → b = a) {b : Addr} {m : Str → Option Value} (h : s1.heap.Ns b m) : (hidT s1.heap H).Ns b m := by
  obtain ⟨o, es, ep, e, d, r⟩ := h
  refine ⟨o, es, ep, hidT_get e ?_, d, r⟩
  cases q : H b with
  | none => rfl
  | some u =>
    have e' := only b (by rw [q]; exact fun z => nomatch z)
    rw [e', ha] at e
    cases e
    exact absurd d (h0 es ep)
/-- the law's def, called with the script alone -/
theorem call_law (KX : K.In s1.heap) (hns : s1.heap.Ns mainGlobals mg) (hb : s1.heap.Ns builtinsNs mb) (hbb : ∀ x : Str, x ≠ "__name__" → mb x = bootBuiltins x) (hlim : s1.heap.NoLimit) (hg : s1.gens = #[])
    (ha : s1.heap.get? a = some { cls := .type "list", data := .seq vs.toArray }) (hi : IntsAre vs ns) (hl : ns.length ≤ sizeLine) (hr : Room k callerA)
    (F : ∀ base : Heap, K.In base → base.Ns mainGlobals mg → FnG P w K mg base k fa fd [x] sp) (bind : Binds K fd [x] [])
    (want : ∀ H : Hp, SqL K H a (ns.map V.int) → sp [.ref a] H (fun v _ => v = .bl true) E0) :
    codeAny (model P w) callerA (.call (.ref fa) ⟨[.ref a], []⟩) (fun r s' => r = .ok (.ret (.bool true)) ∧ OldK s1.heap s'.heap ∧ s'.os = s1.os ∧ AllBare s'.gens) s1 := by
  have rv := vals_ints hi
  have len := hi.length
  obtain ⟨H, hS, hok, only, off, frz⟩ : ∃ H : Hp, SqL K H a (ns.map V.int) ∧ HOk P w H s1.heap ∧ (∀ b, H b ≠ none → b = a) ∧ (H a ≠ none → K.lookup a = none) ∧ ∀ b, H b = none ∨ ∃ o xs, H b = some (.frz o (.lst xs)) := by
    cases hk : K.lookup a with
    | some o =>
      have e := (KX a o hk).symm.trans ha
      cases e
      exact ⟨fun _ => none, .inr ⟨_, vs.toArray, _, hk, rfl, rfl, rfl, by rw [List.size_toArray, len]; exact hl, by simpa using rv⟩, (fun b u z => nomatch z), (fun b z => absurd rfl z), (fun z => absurd rfl z), fun _ => .inl rfl⟩
    | none =>
      have at1 : (fun b => if b = a then some (HO.frz { cls := .type "list", data := .seq vs.toArray } (.lst (ns.map V.int))) else none) a = some (HO.frz { cls := .type "list", data := .seq vs.toArray } (.lst (ns.map V.int))) := if_pos rfl
      have at2 : ∀ b, b ≠ a → (fun b => if b = a then some (HO.frz { cls := .type "list", data := .seq vs.toArray } (.lst (ns.map V.int))) else none) b = none := fun b hb => if_neg hb
      refine ⟨fun b => if b = a then some (HO.frz { cls := .type "list", data := .seq vs.toArray } (.lst (ns.map V.int))) else none, .inl (.inr ⟨_, at1⟩), fun b u z => ?_, fun b z => ?_, fun _ => rfl, fun b => ?_⟩
      · by_cases e : b = a
        · subst e
          have z' := at1.symm.trans z
          cases z'
          exact ⟨ha, by rw [List.length_map]; exact hl, vs, _, rv, ha⟩
        · have z' := (at2 b e).symm.trans z
          cases z'
      · by_cases e : b = a
        · exact e
        · exact absurd (at2 b e) z
      · by_cases e : b = a
        · subst e; exact .inr ⟨_, _, at1⟩
        · exact .inl (at2 b e)
  have nod : ∀ es n, ({ cls := .type "list", data := .seq vs.toArray } : Obj).data ≠ .dict es n := fun es n z => nomatch z
  have nsH : ∀ {b : Addr} {m : Str → Option Value}, s1.heap.Ns b m → (hidT s1.heap H).Ns b m := fun h => hid_ns ha nod only h
  have inH : K.In (hidT s1.heap H) := fun b o e => hidT_get (KX b o e) (by
    cases q : H b with
    | none => rfl
    | some u =>
      have e' := only b (by rw [q]; exact fun z => nomatch z)
      subst e'
      have z := off (by rw [q]; exact fun z => nomatch z)
      rw [z] at e
      cases e)
  have M : Mod K mg (hidT s1.heap H) := ⟨inH, nsH hns, ⟨mb, nsH hb, hbb⟩, by
    obtain ⟨mc, h1, h2⟩ := hlim
    exact ⟨mc, nsH h1, h2⟩⟩
  have start0 : Env0 P w K mg (hidT s1.heap H) callerA [] s1 H := ⟨rfl, M, fun b o e => of_hidT e, Nat.le_of_eq (hidT_size _ _), trivial, (fun b q => absurd (show b ∈ ([] : List Addr) from q) (by simp)), hok, .of_eq hg⟩
  refine codeAny_mono ((F _ inH (nsH hns)).run callerA [] s1 H ⟨[.ref a], []⟩ [.ref a] [.ref a] _ hr rfl start0 (bind s1 [.ref a] KX rfl) (.cons rfl .nil) (want H hS)) fun r s' h => ?_
  rcases r with e | (_ | _ | _ | u)
  · exact False.elim h
  · exact False.elim h
  · exact False.elim h
  · exact False.elim h
  · obtain ⟨v, H', os, bare, un, hok', r', q⟩ := h
    have q' : v = .bl true := q
    subst q'
    have ru : u = Value.bool true := r'
    subst ru
    refine ⟨rfl, OldK.of_keep fun b o e => ?_, os, bare⟩
    rcases frz b with z | ⟨ob, xs, z⟩
    · exact un.keep b o e z (fun q => absurd (show b ∈ ([] : List Addr) from q) (by simp)) (fun q => nomatch q)
    · obtain ⟨e1, _⟩ := hok b _ z
      obtain ⟨e2, _⟩ := hok' b _ (un.frzs b ob _ z)
      rw [e] at e1
      cases e1
      exact e2
end
/-- the goal that k_head leaves -/
theorem walk_law {l : PySem.W.OpenLaw} {n k : Nat} {q : Program} {loose : List Str} {XP : (Str → Option Value) → Heap → Prop} {YP : World → Heap → Prop} {d : DefRec} {K : Params → PySem.W.Frag} {Tb : Tab} {fi : Nat} {xs : Str}
    (hn : l.most = some n) (hn2 : n ≤ sizeLine) (hdf : d.params.defaults = []) (hr : Room k callerA)
    (hY : ∀ (w : World) (h : Heap), YP w h → (K w.params).In h)
    (F : ∀ (w : World) (mg : Str → Option Value) (h : Heap), (K w.params).In h → h.Ns mainGlobals mg → ProgF Tb (K w.params) mg)
    (hm : ∃ m, Tb.T[fi]? = some m ∧ m.fresh = false) (hnm : Tb.nm[fi]? = some (d.name, [xs]))
    (plain : ∀ ns : List Int, ns.length ≤ n → (∀ i, i ∈ ns → Builtin.Int.intBits i ≤ 1048576) → ∃ wf μ', callN Tb.T wf k fi [.lst (ns.map D.int)] [] = some (.bl true, μ')) :
    PySem.W.WalkO q loose XP YP l.row.toRowW d [] (fun f vs => PySem.call f vs) := by
  refine Att.attach_callB hn hdf fun w s₀ s₁ mg mb fa o pm cd doc a vs ns G Y ho hd hcd hmg hobj hints hlen hbits hg => ?_
  have KX := hY w _ Y
  have PF := F w mg _ KX G.T.g
  obtain ⟨m, hm, hf⟩ := hm
  obtain ⟨addr, fd, DF⟩ := PF.fn fi m d.name [xs] hm hnm
  have e := DF.here.symm.trans hmg
  cases e
  obtain ⟨wf, μ', e⟩ := plain ns hlen hbits
  refine call_law (x := xs) (sp := spD (K w.params) (callN Tb.T wf k) fi m.fresh) KX G.T.g G.T.b G.T.builtins G.T.nolimit hg hobj hints (Nat.le_trans hlen hn2) hr (fun base _ _ => all_fns PF k fi m d.name [xs] fa fd hm hnm DF) DF.bi fun H hS => ?_
  · have nocut : cut H [] [] = H := by
      funext b
      unfold cut
      rw [if_neg]
      rintro (z | z) <;> exact nomatch z
    refine ⟨[.lst (ns.map D.int)], [], [], [], .bl true, μ', ⟨rfl, (fun i j a h => nomatch h), (fun a h => nomatch h), (fun a h => nomatch h), (fun a h => nomatch h), (fun n ds h => nomatch h)⟩, ?_, e, ?_⟩
    · refine .cons (.lst (vs := ns.map V.int) (by rw [nocut]; exact hS) ?_) .nil
      clear e hS hbits hlen hints
      induction ns with
      | nil => exact .nil
      | cons i ns ih => exact .cons (.int i) ih
    · rw [hf]
      intro v H' ι' _ r
      cases r
      rfl
end DI
set_option Elab.async false
set_option linter.all false
set_option maxRecDepth 100000
set_option maxHeartbeats 4000000
/-! DI22: small helps for the printed files -/
namespace DI
open PySem PySem.Spec PyProof.Rows L2
theorem len_0 {α : Type} {l : List α} (h : l.length = 0) : l = [] := List.length_eq_zero_iff.mp h
theorem len_1 {α : Type} {l : List α} (h : l.length = 1) : ∃ a, l = [a] := match l, h with
  | [a], _ => ⟨a, rfl⟩
theorem len_2 {α : Type} {l : List α} (h : l.length = 2) : ∃ a b, l = [a, b] := match l, h with
  | [a, b], _ => ⟨a, b, rfl⟩
theorem len_3 {α : Type} {l : List α} (h : l.length = 3) : ∃ a b c, l = [a, b, c] := match l, h with
  | [a, b, c], _ => ⟨a, b, c, rfl⟩
theorem len_4 {α : Type} {l : List α} (h : l.length = 4) : ∃ a b c d, l = [a, b, c, d] := match l, h with
  | [a, b, c, d], _ => ⟨a, b, c, d, rfl⟩
theorem pick_all {α : Type} {l all : List α} (h : l.map some = all.map some) : all = l := ((List.map_inj_right fun _ _ e => Option.some.inj e).mp h).symm
end DI
set_option Elab.async false
set_option linter.all false
set_option maxRecDepth 100000
set_option maxHeartbeats 4000000
/-! DP1: reckoning with the data language -/
namespace DI
open PySem PySem.Spec PyProof.Rows L2
theorem run_ret {T : List MF} {wf n f : Nat} {ds : List D} {μ μ' : Mem} {m : MF} {d : D} (h : T[f]? = some m) (hl : ds.length = m.params)
    (e : evSs (callN T wf n) wf m.body (ds.map Sl.val ++ List.replicate (m.slots - m.params) .un) μ = some (.rt d, μ')) : callN T wf (n + 1) f ds μ = some (d, μ') := by
  unfold callN
  rw [h, Option.bind_some, if_pos hl, e]
  rfl
theorem run_nx {T : List MF} {wf n f : Nat} {ds : List D} {μ μ' : Mem} {m : MF} {env : Ev} (h : T[f]? = some m) (hl : ds.length = m.params)
    (e : evSs (callN T wf n) wf m.body (ds.map Sl.val ++ List.replicate (m.slots - m.params) .un) μ = some (.nx env, μ')) : callN T wf (n + 1) f ds μ = some (.non, μ') := by
  unfold callN
  rw [h, Option.bind_some, if_pos hl, e]
  rfl
end DI
set_option Elab.async false
set_option linter.all false
set_option maxRecDepth 100000
set_option maxHeartbeats 4000000
/-! DP2: fractions as rational numbers -/
namespace DI
open PySem PySem.Spec PyProof.Rows L2
theorem fdiv_gcd {a b : Int} (hb : b ≠ 0) {m : Int} (hm : m = if 0 < b then (b.gcd a : Int) else -(b.gcd a : Int)) : a.fdiv m = (Rat.divInt a b).num ∧ b.fdiv m = ((Rat.divInt a b).den : Int) := by
  have g0 : b.gcd a ≠ 0 := fun z => hb (Int.gcd_eq_zero_iff.mp z).1
  obtain ⟨x, hx⟩ := Int.gcd_dvd_right b a
  obtain ⟨y, hy⟩ := Int.gcd_dvd_left b a
  generalize hg : b.gcd a = g at *
  have gi : (g : Int) ≠ 0 := by omega
  rw [Rat.num_divInt, Rat.den_divInt, if_neg hb, hg]
  by_cases h : 0 < b
  · rw [if_pos h] at hm
    subst hm
    rw [Int.sign_eq_one_of_pos h]
    refine ⟨?_, ?_⟩
    · rw [Int.one_mul, hx, Int.fdiv_eq_ediv_of_nonneg _ (by omega)]
    · rw [Int.fdiv_eq_ediv_of_nonneg _ (by omega), Int.natCast_ediv, Int.natAbs_of_nonneg (by omega)]
  · rw [if_neg h] at hm
    subst hm
    have hn : b < 0 := by omega
    rw [Int.sign_eq_neg_one_of_neg hn]
    refine ⟨?_, ?_⟩
    · rw [hx, show (g : Int) * x = -(g : Int) * -x by rw [Int.neg_mul_neg], Int.mul_fdiv_cancel_left _ (by omega)]
      rw [show (-1 : Int) * (-(g : Int) * -x) = (g : Int) * (-x) by rw [Int.neg_mul_neg, Int.neg_one_mul, Int.mul_neg]]
      rw [Int.mul_ediv_cancel_left _ gi]
    · rw [Int.natCast_ediv, show ((b.natAbs : Nat) : Int) = -b by omega]
      rw [hy, show (g : Int) * y = -(g : Int) * -y by rw [Int.neg_mul_neg], Int.mul_fdiv_cancel_left _ (by omega)]
      rw [show -(-(g : Int) * -y) = (g : Int) * (-y) by rw [Int.neg_mul_neg, Int.mul_neg], Int.mul_ediv_cancel_left _ gi]
def dQ (q : Rat) : D := .tup [.int q.num, .int q.den]
def dP (p : Rat × Rat) : D := .tup [dQ p.1, dQ p.2]
theorem sub_divInt (p q : Rat) : Rat.divInt (p.num * q.den - q.num * p.den) (p.den * q.den) = p - q := by
  rw [Rat.sub_def', ← Rat.divInt_ofNat]
  norm_cast
theorem add_divInt (p q : Rat) : Rat.divInt (p.num * q.den + q.num * p.den) (p.den * q.den) = p + q := by
  rw [Rat.add_def', ← Rat.divInt_ofNat]
  norm_cast
theorem mul_divInt (p q : Rat) : Rat.divInt (p.num * q.num) (p.den * q.den) = p * q := by
  rw [Rat.mul_def', ← Rat.divInt_ofNat]
  norm_cast
def Sm (n : Nat) (q : Rat) : Prop := q.num.natAbs < 2 ^ n ∧ q.den < 2 ^ n
theorem Sm.mono {n m : Nat} {q : Rat} (h : Sm n q) (l : n ≤ m) : Sm m q := ⟨Nat.lt_of_lt_of_le h.1 (Nat.pow_le_pow_right (by decide) l), Nat.lt_of_lt_of_le h.2 (Nat.pow_le_pow_right (by decide) l)⟩
theorem sm_divInt {a b : Int} {n : Nat} (ha : a.natAbs < 2 ^ n) (hb : b.natAbs < 2 ^ n) (h1 : 1 ≤ n) : Sm n (Rat.divInt a b) := by
  refine ⟨?_, ?_⟩
  · rw [Rat.num_divInt]
    have e : (b.sign * a / (b.gcd a : Int)).natAbs ≤ (b.sign * a).natAbs := Int.natAbs_ediv_le_natAbs _ _
    have e2 : (b.sign * a).natAbs ≤ a.natAbs := by
      rw [Int.natAbs_mul]
      have : b.sign.natAbs ≤ 1 := by rw [Int.natAbs_sign]; split <;> decide
      exact Nat.le_trans (Nat.mul_le_mul_right _ this) (by omega)
    omega
  · rw [Rat.den_divInt]
    split
    · exact Nat.lt_of_lt_of_le (show 1 < 2 ^ 1 by decide) (Nat.pow_le_pow_right (by decide) h1)
    · exact Nat.lt_of_le_of_lt (Nat.div_le_self _ _) hb
theorem mul_lt_pow {a b n m : Nat} (ha : a < 2 ^ n) (hb : b < 2 ^ m) : a * b < 2 ^ (n + m) := by
  rw [Nat.pow_add]
  exact Nat.mul_lt_mul'' ha hb
theorem Sm.mul {n m : Nat} {p q : Rat} (hp : Sm n p) (hq : Sm m q) (h1 : 1 ≤ n) : Sm (n + m) (p * q) := by
  rw [← mul_divInt]
  refine sm_divInt ?_ ?_ (by omega)
  · rw [Int.natAbs_mul]; exact mul_lt_pow hp.1 hq.1
  · rw [Int.natAbs_mul]; exact mul_lt_pow hp.2 hq.2
theorem Sm.sub {n m : Nat} {p q : Rat} (hp : Sm n p) (hq : Sm m q) : Sm (n + m + 1) (p - q) := by
  rw [← sub_divInt]
  have e1 := mul_lt_pow hp.1 hq.2
  have e2 := mul_lt_pow hp.2 hq.1
  have e3 := mul_lt_pow hp.2 hq.2
  have e4 : 2 ^ (n + m + 1) = 2 ^ (n + m) * 2 := Nat.pow_succ 2 (n + m)
  refine sm_divInt ?_ ?_ (by omega)
  · have := Int.natAbs_sub_le (p.num * q.den) (q.num * p.den)
    rw [Int.natAbs_mul, Int.natAbs_mul, Int.natAbs_natCast, Int.natAbs_natCast, Nat.mul_comm q.num.natAbs] at this
    omega
  · rw [Int.natAbs_mul, Int.natAbs_natCast, Int.natAbs_natCast]; omega
theorem Sm.add {n m : Nat} {p q : Rat} (hp : Sm n p) (hq : Sm m q) : Sm (n + m + 1) (p + q) := by
  rw [← add_divInt]
  have e1 := mul_lt_pow hp.1 hq.2
  have e2 := mul_lt_pow hp.2 hq.1
  have e3 := mul_lt_pow hp.2 hq.2
  have e4 : 2 ^ (n + m + 1) = 2 ^ (n + m) * 2 := Nat.pow_succ 2 (n + m)
  refine sm_divInt ?_ ?_ (by omega)
  · have := Int.natAbs_add_le (p.num * q.den) (q.num * p.den)
    rw [Int.natAbs_mul, Int.natAbs_mul, Int.natAbs_natCast, Int.natAbs_natCast, Nat.mul_comm q.num.natAbs] at this
    omega
  · rw [Int.natAbs_mul, Int.natAbs_natCast, Int.natAbs_natCast]; omega
theorem log2_lt {a n : Nat} (h : a < 2 ^ n) : a.log2 < n + 1 := by
  by_cases z : a = 0
  · subst z; rw [Nat.log2_zero]; omega
  · have := (Nat.log2_lt z).mpr h
    omega
theorem opI_mul {i j : Int} {n m : Nat} (hi : i.natAbs < 2 ^ n) (hj : j.natAbs < 2 ^ m) (h : n + m < 999998) : opI .mul i j = some (i * j) := by
  have h1 := log2_lt hi
  have h2 := log2_lt hj
  show (if i.natAbs.log2 + j.natAbs.log2 < 1000000 then some (i * j) else none) = _
  rw [if_pos (by omega)]
theorem opI_fdiv {i j : Int} {n : Nat} (h0 : j ≠ 0) (hj : j.natAbs < 2 ^ n) (h : n < 8999) : opI .fdiv i j = some (i.fdiv j) := by
  have h2 := log2_lt hj
  show (if j ≠ 0 ∧ j.natAbs.log2 < 9000 then some (i.fdiv j) else none) = _
  rw [if_pos ⟨h0, by omega⟩]
theorem opI_mod {i j : Int} (h0 : j ≠ 0) : opI .mod i j = some (i.fmod j) := if_pos h0
end DI
set_option Elab.async false
set_option linter.all false
set_option maxRecDepth 100000
set_option maxHeartbeats 4000000
/-! DP3: plain facts of data -/
namespace DI
open PySem PySem.Spec PyProof.Rows L2
theorem compGo_pure {step : D → Mem → Option (Option D × Mem)} {ok : Mem → Bool} {μ : Mem} {g : D → Option D} (hk : ok μ = true) : ∀ xs : List D, (∀ x, x ∈ xs → step x μ = some (g x, μ)) → compGo step ok xs μ = some (xs.filterMap g, μ)
  | [], _ => rfl
  | x :: xs, h => by
    have ih := compGo_pure (step := step) hk xs fun y hy => h y (List.mem_cons_of_mem _ hy)
    unfold compGo
    rw [h x List.mem_cons_self]
    simp only [Option.bind_some, hk, if_true, ih, Option.map_some]
    rw [List.filterMap_cons]
    cases g x <;> rfl
mutual
/-- no dict in it -/
def flat : D → Bool
  | .dic _ => false
  | .tup xs => flats xs
  | .lst xs => flats xs
  | _ => true
def flats : List D → Bool
  | [] => true
  | x :: xs => flat x && flats xs
end
mutual
theorem beq_refl : ∀ d : D, flat d = true → d.beq d = true
  | .non, _ => rfl
  | .bl b, _ => by cases b <;> rfl
  | .int i, _ => by simp [D.beq]
  | .str x, _ => by simp [D.beq]
  | .tup xs, h => by
    simp only [D.beq]
    exact beqs_refl xs (by simpa only [flat] using h)
  | .lst xs, h => by
    simp only [D.beq]
    exact beqs_refl xs (by simpa only [flat] using h)
  | .ref n, _ => by simp [D.beq]
  | .dic _, h => by simp [flat] at h
theorem beqs_refl : ∀ ds : List D, flats ds = true → D.beqs ds ds = true
  | [], _ => rfl
  | x :: xs, h => by
    simp only [flats, Bool.and_eq_true] at h
    simp only [D.beqs, Bool.and_eq_true]
    exact ⟨beq_refl x h.1, beqs_refl xs h.2⟩
end
theorem flats_iff : ∀ ds : List D, flats ds = true ↔ ∀ d, d ∈ ds → flat d = true
  | [] => by simp [flats]
  | x :: xs => by simp [flats, flats_iff xs]
theorem flat_dQ (q : Rat) : flat (dQ q) = true := rfl
theorem flat_dP (p : Rat × Rat) : flat (dP p) = true := rfl
theorem flats_map {α : Type} {f : α → D} (h : ∀ x, flat (f x) = true) (l : List α) : flats (l.map f) = true := by
  rw [flats_iff]
  intro d hd
  obtain ⟨x, _, rfl⟩ := List.mem_map.mp hd
  exact h x
/-! ### as the kit's data -/
def pQ (q : Rat) : PyData := .tuple [.int q.num, .int q.den]
def pP (p : Rat × Rat) : PyData := .tuple [pQ p.1, pQ p.2]
theorem pyW_dQ {cf : Nat → Option PyData} (q : Rat) : pyW cf (dQ q) = some (pQ q) := by simp [dQ, pQ, pyW, pyWs]
theorem pyW_dP {cf : Nat → Option PyData} (p : Rat × Rat) : pyW cf (dP p) = some (pP p) := by simp [dP, pP, pyW, pyWs, pyW_dQ]
theorem pyWs_map {α : Type} {cf : Nat → Option PyData} {f : α → D} {g : α → PyData} (h : ∀ x, pyW cf (f x) = some (g x)) : ∀ l : List α, pyWs cf (l.map f) = some (l.map g)
  | [] => by simp [pyWs]
  | x :: l => by simp [pyWs, h, pyWs_map h l]
theorem eqv_pQ (p q : Rat) : PyData.eqv (pQ p) (pQ q) = decide (p = q) := by
  simp only [pQ, PyData.eqv, PyData.eqvAll, Bool.and_true]
  rw [Bool.eq_iff_iff]
  simp only [Bool.and_eq_true, beq_iff_eq, decide_eq_true_eq]
  constructor
  · rintro ⟨h1, h2⟩
    exact Rat.ext h1 (by omega)
  · rintro rfl
    exact ⟨rfl, rfl⟩
theorem eqv_pP (p q : Rat × Rat) : PyData.eqv (pP p) (pP q) = decide (p = q) := by
  simp only [pP, PyData.eqv, PyData.eqvAll, Bool.and_true, eqv_pQ]
  rw [Bool.eq_iff_iff]
  simp [Prod.ext_iff]
theorem lay_pQ (q : Rat) : (pQ q).canLay0 = true ∧ (pQ q).depth = 1 := by simp [pQ, PyData.canLay0, PyData.canLayAll0, PyData.depth, PyData.depthAll]
theorem lay_pP (p : Rat × Rat) : (pP p).canLay0 = true ∧ (pP p).depth = 2 := by simp [pP, PyData.canLay0, PyData.canLayAll0, PyData.depth, PyData.depthAll, lay_pQ]
theorem lay_map {α : Type} {g : α → PyData} {k : Nat} (h : ∀ x, (g x).canLay0 = true ∧ (g x).depth ≤ k) : ∀ l : List α, PyData.canLayAll0 (l.map g) = true ∧ PyData.depthAll (l.map g) ≤ k
  | [] => by simp [PyData.canLayAll0, PyData.depthAll]
  | x :: l => by
    have ih := lay_map h l
    have hx := h x
    simp only [List.map_cons, PyData.canLayAll0, PyData.depthAll, hx.1, ih.1, Bool.and_self, true_and]
    omega
theorem shaped_of {d : PyData} (h : d.canLay0 = true ∧ d.depth ≤ 64) : SeqAt.shaped d = true := by
  unfold SeqAt.shaped
  rw [h.1, decide_eq_true h.2]
  rfl
theorem shaped_int (i : Int) : SeqAt.shaped (.int i) = true := rfl
theorem shaped_bool (i : Bool) : SeqAt.shaped (.bool i) = true := rfl
theorem shaped_none : SeqAt.shaped .none = true := rfl
theorem shaped_pQ (q : Rat) : SeqAt.shaped (pQ q) = true := shaped_of ⟨(lay_pQ q).1, by rw [(lay_pQ q).2]; omega⟩
theorem shaped_pP (q : Rat × Rat) : SeqAt.shaped (pP q) = true := shaped_of ⟨(lay_pP q).1, by rw [(lay_pP q).2]; omega⟩
theorem shaped_pPs (l : List (Rat × Rat)) : SeqAt.shaped (.list (l.map pP)) = true := by
  have := lay_map (g := pP) (k := 2) (fun x => ⟨(lay_pP x).1, by rw [(lay_pP x).2]; exact Nat.le_refl _⟩) l
  refine shaped_of ⟨by simpa only [PyData.canLay0] using this.1, ?_⟩
  simp only [PyData.depth]
  omega
variable {μ : Mem}
theorem eqD_int (i j : Int) : eqD μ (.int i) (.int j) = some (decide (i = j)) := by
  simp only [eqD, toPy, pyW, Option.bind_some, shaped_int, Bool.and_self, if_true, PyData.eqv]
  rfl
theorem eqD_bl (i j : Bool) : eqD μ (.bl i) (.bl j) = some (i == j) := by
  simp only [eqD, toPy, pyW, Option.bind_some, shaped_bool, Bool.and_self, if_true, PyData.eqv]
theorem eqD_dQ (p q : Rat) : eqD μ (dQ p) (dQ q) = some (decide (p = q)) := by
  simp only [eqD, toPy, pyW_dQ, Option.bind_some, shaped_pQ, Bool.and_self, if_true, eqv_pQ]
theorem inD_dP (p : Rat × Rat) (l : List (Rat × Rat)) : inD μ (dP p) (.lst (l.map dP)) = some (decide (p ∈ l)) := by
  have e : inD μ (dP p) (.lst (l.map dP)) = ((toPy μ (dP p)).bind fun x => (seqV μ (.lst (l.map dP))).bind fun bs => (pyWs (cellPy μ 8) bs).bind fun ys =>
      if SeqAt.shaped x && SeqAt.shaped (.list ys) then some (ys.any fun z => PyData.eqv z x) else none) := rfl
  rw [e]
  simp only [toPy, pyW_dP, Option.bind_some, seqV, pyWs_map pyW_dP, shaped_pP, shaped_pPs, Bool.and_self, if_true, List.any_map, Function.comp_def, eqv_pP]
  congr 1
  rw [Bool.eq_iff_iff]
  simp
end DI
set_option Elab.async false
set_option linter.all false
set_option maxRecDepth 100000
set_option maxHeartbeats 4000000
/-! DP4: the evaluator, step by step -/
namespace DI
open PySem PySem.Spec PyProof.Rows L2
section
variable {C : Call} {wf : Nat} {env : Ev} {μ : Mem}
@[simp] theorem evE_var {i} : evE C (.var i) env μ = match env[i]? with
    | some (.val d) => some (d, μ)
    | _ => none := by rw [evE] <;> rfl
@[simp] theorem evE_ovar {i} : evE C (.ovar i) env μ = match env[i]? with
    | some (.own ds) => some (.lst ds, μ)
    | _ => none := by rw [evE] <;> rfl
@[simp] theorem evE_non : evE C (.non) env μ = some (.non, μ) := by rw [evE] <;> rfl
@[simp] theorem evE_bl {b} : evE C (.bl b) env μ = some (.bl b, μ) := by rw [evE] <;> rfl
@[simp] theorem evE_int {i} : evE C (.int i) env μ = some (.int i, μ) := by rw [evE] <;> rfl
@[simp] theorem evE_str {x} : evE C (.str x) env μ = some (.str x, μ) := by rw [evE] <;> rfl
@[simp] theorem evE_tup {es} : evE C (.tup es) env μ = (evEs C es env μ).bind fun p => if p.1.length ≤ sizeLine then some (.tup p.1, p.2) else none := by rw [evE] <;> rfl
@[simp] theorem evE_lst {es} : evE C (.lst es) env μ = (evEs C es env μ).bind fun p => if p.1.length ≤ sizeLine then some (.lst p.1, p.2) else none := by rw [evE] <;> rfl
@[simp] theorem evE_dic0 : evE C (.dic0) env μ = some (.dic [], μ) := by rw [evE] <;> rfl
@[simp] theorem evE_cell {e} : evE C (.cell e) env μ = (evE C e env μ).bind fun p => match p.1 with
    | .lst ds => some (.ref p.2.length, p.2 ++ [some ds])
    | _ => none := by rw [evE] <;> rfl
@[simp] theorem evE_op {o a b} : evE C (.op o a b) env μ = (evE C a env μ).bind fun p => (evE C b env p.2).bind fun q => (opD q.2 o p.1 q.1).map fun d => (d, q.2) := by rw [evE] <;> rfl
@[simp] theorem evE_neg {a} : evE C (.neg a) env μ = (evE C a env μ).bind fun p => match p.1 with
    | .int i => some (.int (-i), p.2)
    | _ => none := by rw [evE] <;> rfl
@[simp] theorem evE_not {a} : evE C (.not a) env μ = (evE C a env μ).bind fun p => (truthD p.2 p.1).map fun b => (.bl (!b), p.2) := by rw [evE] <;> rfl
@[simp] theorem evE_cmp {o a b} : evE C (.cmp o a b) env μ = (evE C a env μ).bind fun p => (evE C b env p.2).bind fun q => (cmpD q.2 o p.1 q.1).map fun d => (.bl d, q.2) := by rw [evE] <;> rfl
@[simp] theorem evE_isn {ng a} : evE C (.isn ng a) env μ = (evE C a env μ).bind fun p => match p.1 with
    | .non => some (.bl (!ng), p.2)
    | .ref _ => none
    | _ => some (.bl ng, p.2) := by rw [evE] <;> rfl
@[simp] theorem evE_isb {ng b a} : evE C (.isb ng b a) env μ = (evE C a env μ).bind fun p => match p.1 with
    | .bl k => some (.bl (if ng then !decide (k = b) else decide (k = b)), p.2)
    | _ => none := by rw [evE] <;> rfl
@[simp] theorem evE_and {a b} : evE C (.and a b) env μ = (evE C a env μ).bind fun p => match p.1 with
    | .bl true => evE C b env p.2
    | .bl false => some (.bl false, p.2)
    | _ => none := by rw [evE] <;> rfl
@[simp] theorem evE_or {a b} : evE C (.or a b) env μ = (evE C a env μ).bind fun p => match p.1 with
    | .bl false => evE C b env p.2
    | .bl true => some (.bl true, p.2)
    | _ => none := by rw [evE] <;> rfl
@[simp] theorem evE_cond {c a b} : evE C (.ite c a b) env μ = (evE C c env μ).bind fun p => (truthD p.2 p.1).bind fun k => if k then evE C a env p.2 else evE C b env p.2 := by rw [evE] <;> rfl
@[simp] theorem evE_idx {a i} : evE C (.idx a i) env μ = (evE C a env μ).bind fun p => (evE C i env p.2).bind fun q => (idxD q.2 p.1 q.1).map fun d => (d, q.2) := by rw [evE] <;> rfl
@[simp] theorem evE_slc {a lo hi} : evE C (.slc a lo hi) env μ = (evE C a env μ).bind fun p => (evO C lo env p.2).bind fun q => (evO C hi env q.2).bind fun r => (slcD r.2 p.1 q.1 r.1).map fun d => (d, r.2) := by rw [evE] <;> rfl
@[simp] theorem evE_rev {a} : evE C (.rev a) env μ = (evE C a env μ).bind fun p => (seqV p.2 p.1).map fun xs => (.lst xs.reverse, p.2) := by rw [evE] <;> rfl
@[simp] theorem evE_call {f es} : evE C (.call f es) env μ = (evEs C es env μ).bind fun p => C f p.1 p.2 := by rw [evE] <;> rfl
@[simp] theorem evE_calld {f es ds} : evE C (.calld f es ds) env μ = (evEs C es env μ).bind fun p => C f (p.1 ++ ds.map .int) p.2 := by rw [evE] <;> rfl
@[simp] theorem evE_callk {f es ks perm} : evE C (.callk f es ks perm) env μ = (evEs C es env μ).bind fun p => (evEs C ks env p.2).bind fun q => (permD (p.1 ++ q.1) perm).bind fun ds => C f ds q.2 := by rw [evE] <;> rfl
@[simp] theorem evE_bi {b es} : evE C (.bi b es) env μ = (evEs C es env μ).bind fun p => (biD p.2 b p.1).map fun d => (d, p.2) := by rw [evE] <;> rfl
@[simp] theorem evE_bits {a} : evE C (.bits a) env μ = (evE C a env μ).bind fun p => match p.1 with
    | .int i => some (.int (Builtin.Int.intBits i : Nat), p.2)
    | _ => none := by rw [evE] <;> rfl
@[simp] theorem evE_sset {a} : evE C (.sset a) env μ = (evE C a env μ).bind fun p => (seqV p.2 p.1).bind fun xs => (ssetD xs).map fun d => (d, p.2) := by rw [evE] <;> rfl
@[simp] theorem evE_sdic {a} : evE C (.sdic a) env μ = (evE C a env μ).bind fun p => (seqV p.2 p.1).bind fun xs => (sdicD xs).map fun d => (d, p.2) := by rw [evE] <;> rfl
@[simp] theorem evE_isi {a ts} : evE C (.isi a ts) env μ = (evE C a env μ).bind fun p => if liveD p.2 p.1 then some (.bl (ts.any (isT p.1)), p.2) else none := by rw [evE] <;> rfl
@[simp] theorem evEs_nil : evEs C [] env μ = some ([], μ) := by rw [evEs] <;> rfl
@[simp] theorem evEs_e (e : ME) (es : List ME) : evEs C (e :: es) env μ = (evE C e env μ).bind fun p => (evEs C es env p.2).map fun q => (p.1 :: q.1, q.2) := by rw [evEs] <;> rfl
@[simp] theorem evO_none : evO C none env μ = some (none, μ) := by rw [evO] <;> rfl
@[simp] theorem evO_some (e : ME) : evO C (some e) env μ = (evE C e env μ).bind fun p => match p.1 with
    | .int i => some (some i, p.2)
    | _ => none := by rw [evO] <;> rfl
@[simp] theorem evCs_nil : evCs C [] env μ = some (true, μ) := by rw [evCs] <;> rfl
@[simp] theorem evCs_e (e : ME) (es : List ME) : evCs C (e :: es) env μ = (evE C e env μ).bind fun p => (truthD p.2 p.1).bind fun b => if b then evCs C es env p.2 else some (false, p.2) := by rw [evCs] <;> rfl
theorem evI_seq {e} : evI C (.seq e) env μ = (evE C e env μ).bind fun p => (itemsD p.2 p.1).map fun ds => ((ds, lockOf p.2 e p.1), p.2) := by rw [evI] <;> rfl
theorem evI_rng {es} : evI C (.rng es) env μ = (evEs C es env μ).bind fun p => match p.1 with
    | [.int j] => if rangeOk j then some ((rangeD 0 j, []), p.2) else none
    | [.int i, .int j] => if rangeOk i && rangeOk j then some ((rangeD i j, []), p.2) else none
    | _ => none := by rw [evI] <;> rfl
theorem evI_zip {a b} : evI C (.zip a b) env μ = (evE C a env μ).bind fun p => (evE C b env p.2).bind fun q => match p.1, q.1 with
    | .tup xs, .tup ys => some ((zipD xs ys, []), q.2)
    | x, y => (seqV q.2 x).bind fun xs => (seqV q.2 y).map fun ys => ((zipD xs ys, lockOf q.2 a x ++ lockOf q.2 b y), q.2) := by rw [evI] <;> rfl
theorem evI_zip3 {a b c} : evI C (.zip3 a b c) env μ = (evE C a env μ).bind fun p => (evE C b env p.2).bind fun q => (evE C c env q.2).bind fun r => match p.1, q.1, r.1 with
    | .tup xs, .tup ys, .tup zs => some ((zipD3 xs ys zs, []), r.2)
    | _, _, _ => none := by rw [evI] <;> rfl
theorem evI_comb {a} : evI C (.comb a) env μ = (evE C a env μ).bind fun p => (seqV p.2 p.1).map fun ds => ((combD ds, []), p.2) := by rw [evI] <;> rfl
theorem evI_enum {a} : evI C (.enum a) env μ = (evE C a env μ).bind fun p => (seqV p.2 p.1).map fun ds => ((enumD 0 ds, lockOf p.2 a p.1), p.2) := by rw [evI] <;> rfl
@[simp] theorem evS_asg {g e} : evS C wf (.asg g e) env μ = (evE C e env μ).bind fun p => (bindG g p.1 env).map fun e1 => (.nx e1, p.2) := by rw [evS] <;> rfl
@[simp] theorem evS_own {i e} : evS C wf (.own i e) env μ = (evE C e env μ).bind fun p => match p.1 with
    | .lst ds => some (.nx (env.set i (.own ds)), p.2)
    | _ => none := by rw [evS] <;> rfl
@[simp] theorem evS_par {is es} : evS C wf (.par is es) env μ = (evEs C es env μ).bind fun p => (parE is p.1 env).map fun e1 => (.nx e1, p.2) := by rw [evS] <;> rfl
@[simp] theorem evS_aug {i o e} : evS C wf (.aug i o e) env μ = match env[i]? with
    | some (.val (.int x)) => (evE C e env μ).bind fun p => match o, p.1 with
      | .add, .int y => some (.nx (env.set i (.val (.int (x + y)))), p.2)
      | .sub, .int y => some (.nx (env.set i (.val (.int (x - y)))), p.2)
      | _, _ => none
    | _ => none := by rw [evS] <;> rfl
@[simp] theorem evS_sset {a i e} : evS C wf (.sset a i e) env μ = (evE C e env μ).bind fun p => (evE C a env p.2).bind fun q => (evE C i env q.2).bind fun r => match q.1, r.1 with
    | .ref n, .int k => (r.2[n]?).join.bind fun ds => (ixN ds.length k).map fun j => (.nx env, r.2.set n (some (ds.set j p.1)))
    | _, _ => none := by rw [evS] <;> rfl
@[simp] theorem evS_meth {m a es} : evS C wf (.meth m a es) env μ = (evE C a env μ).bind fun p => match p.1 with
    | .ref n => (p.2[n]?).join.bind fun _ => (evEs C es env p.2).bind fun q => (q.2[n]?).join.bind fun ds => (mthD m ds q.1).map fun ds' => (.nx env, q.2.set n (some ds'))
    | _ => none := by rw [evS] <;> rfl
@[simp] theorem evS_ometh {m i es} : evS C wf (.ometh m i es) env μ = match env[i]? with
    | some (.own ds) => (evEs C es env μ).bind fun q => (mthD m ds q.1).map fun ds' => (.nx (env.set i (.own ds')), q.2)
    | _ => none := by rw [evS] <;> rfl
@[simp] theorem evS_oset {i ix e} : evS C wf (.oset i ix e) env μ = (evE C e env μ).bind fun p => (evE C ix env p.2).bind fun r => match env[i]?, r.1 with
    | some (.own ds), .int k => (ixN ds.length k).map fun j => (.nx (env.set i (.own (ds.set j p.1))), r.2)
    | _, _ => none := by rw [evS] <;> rfl
@[simp] theorem evS_opop {i} : evS C wf (.opop i) env μ = match env[i]? with
    | some (.own ds) => if ds.isEmpty then none else some (.nx (env.set i (.own ds.dropLast)), μ)
    | _ => none := by rw [evS] <;> rfl
@[simp] theorem evS_expr {e} : evS C wf (.expr e) env μ = (evE C e env μ).map fun p => (.nx env, p.2) := by rw [evS] <;> rfl
@[simp] theorem evS_ret {e} : evS C wf (.ret e) env μ = (evE C e env μ).map fun p => (.rt p.1, p.2) := by rw [evS] <;> rfl
@[simp] theorem evS_reto {i} : evS C wf (.reto i) env μ = match env[i]? with
    | some (.own ds) => some (.rt (.lst ds), μ)
    | _ => none := by rw [evS] <;> rfl
@[simp] theorem evS_retn : evS C wf (.retn) env μ = some (.rt .non, μ) := by rw [evS] <;> rfl
@[simp] theorem evS_iff {c a b} : evS C wf (.iff c a b) env μ = (evT C c env μ).bind fun p => if p.1 then evSs C wf a env p.2 else evSs C wf b env p.2 := by rw [evS] <;> rfl
@[simp] theorem evS_pass : evS C wf (.pass) env μ = some (.nx env, μ) := by rw [evS] <;> rfl
@[simp] theorem evS_doc : evS C wf (.doc) env μ = some (.nx env, μ) := by rw [evS] <;> rfl
@[simp] theorem evS_brk : evS C wf (.brk) env μ = some (.bk env, μ) := by rw [evS] <;> rfl
@[simp] theorem evS_cnt : evS C wf (.cnt) env μ = some (.ct env, μ) := by rw [evS] <;> rfl
@[simp] theorem evS_raise : evS C wf (.raise) env μ = none := by rw [evS] <;> rfl
@[simp] theorem evSs_nil : evSs C wf [] env μ = some (.nx env, μ) := by rw [evSs] <;> rfl
@[simp] theorem evSs_s (s : MS) (ss : List MS) : evSs C wf (s :: ss) env μ = (evS C wf s env μ).bind fun p => match p.1 with
    | .nx e => evSs C wf ss e p.2
    | f => some (f, p.2) := by rw [evSs] <;> rfl
end
end DI
set_option Elab.async false
set_option linter.all false
set_option maxRecDepth 100000
set_option maxHeartbeats 4000000
/-! DL1: the laws' own helpers: alike -/
namespace DI
open PySem PySem.Spec PyProof.Rows L2
@[simp] theorem evT_def {C : Call} {c : ME} {env : Ev} {μ : Mem} : evT C c env μ = (evE C c env μ).bind fun p => (truthD p.2 p.1).map fun b => (b, p.2) := rfl
theorem comp_run {C : Call} {elt : ME} {tg : MG} {src : MI} {ifs : List ME} {own : List Nat} {env : Ev} {μ μ1 : Mem} {xs : List D} {lks : List Lk} {g : D → Option D}
    (hI : evI C src env μ = some ((xs, lks), μ1)) (hl : lks.all (Lk.ok env μ1) = true)
    (h : ∀ x, x ∈ xs → (bindG tg x (wipeE env own)).bind (fun e1 => (evCs C ifs e1 μ1).bind fun c => if c.1 then (evE C elt e1 c.2).map fun q => (some q.1, q.2) else some (none, c.2)) = some (g x, μ1))
    (hs : xs.length ≤ sizeLine) : evE C (.comp elt tg src ifs own) env μ = some (.lst (xs.filterMap g), μ1) := by
  rw [evE]
  simp only [hI, Option.bind_some, hl, if_true]
  rw [compGo_pure (g := g) hl xs h]
  have : (xs.filterMap g).length ≤ sizeLine := Nat.le_trans (List.length_filterMap_le _ _) hs
  simp only [Option.bind_some, this, if_true]
theorem comp_map {C : Call} {elt : ME} {tg : MG} {src : MI} {own : List Nat} {env : Ev} {μ μ1 : Mem} {xs : List D} {lks : List Lk} {g : D → D}
    (hI : evI C src env μ = some ((xs, lks), μ1)) (hl : lks.all (Lk.ok env μ1) = true)
    (h : ∀ x, x ∈ xs → (bindG tg x (wipeE env own)).bind (fun e1 => evE C elt e1 μ1) = some (g x, μ1))
    (hs : xs.length ≤ sizeLine) : evE C (.comp elt tg src [] own) env μ = some (.lst (xs.map g), μ1) := by
  rw [comp_run (g := fun x => some (g x)) hI hl (fun x hx => ?_) hs, List.filterMap_eq_map']
  have q := h x hx
  obtain ⟨e1, q1, q2⟩ := Option.bind_eq_some_iff.mp q
  rw [q1]
  simp [q2]
theorem fm_sel {α : Type} (p : α → Bool) : ∀ l : List α, (l.filterMap fun x => if p x = true then some x else none) = l.filter p
  | [] => rfl
  | x :: l => by
    rw [List.filterMap_cons, List.filter_cons, fm_sel p l]
    cases p x <;> rfl
theorem comp_sel {C : Call} {elt c : ME} {tg : MG} {src : MI} {own : List Nat} {env : Ev} {μ μ1 : Mem} {xs : List D} {lks : List Lk} {p : D → Bool}
    (hI : evI C src env μ = some ((xs, lks), μ1)) (hl : lks.all (Lk.ok env μ1) = true)
    (h : ∀ x, x ∈ xs → ∃ e1, bindG tg x (wipeE env own) = some e1 ∧ evE C c e1 μ1 = some (.bl (p x), μ1) ∧ evE C elt e1 μ1 = some (x, μ1))
    (hs : xs.length ≤ sizeLine) : evE C (.comp elt tg src [c] own) env μ = some (.lst (xs.filter p), μ1) := by
  rw [comp_run (g := fun x => if p x then some x else none) hI hl (fun x hx => ?_) hs, fm_sel]
  obtain ⟨e1, q1, q2, q3⟩ := h x hx
  rw [q1]
  cases hp : p x <;> simp [q2, q3, truthD, hp]
theorem blsD_map {α : Type} (p : α → Bool) : ∀ l : List α, blsD (l.map fun x => .bl (p x)) = some (l.map p)
  | [] => rfl
  | x :: l => by simp [blsD, blsD_map p l]
theorem bi_all {α : Type} {μ : Mem} (p : α → Bool) (l : List α) : biD μ .all [.lst (l.map fun x => .bl (p x))] = some (.bl (l.all p)) := by
  have : biD μ .all [.lst (l.map fun x => .bl (p x))] = ((blsD (l.map fun x => .bl (p x))).map fun bs => .bl (bs.all id)) := rfl
  rw [this, blsD_map, Option.map_some, List.all_map]
  rfl
@[simp] theorem bi_len {μ : Mem} (d : D) : biD μ .len [d] = (lenD μ d).map fun (n : Nat) => .int (n : Int) := rfl
@[simp] theorem cmp_eq {μ : Mem} (a b : D) : cmpD μ .eq a b = eqD μ a b := rfl
@[simp] theorem cmp_ne {μ : Mem} (a b : D) : cmpD μ .ne a b = (eqD μ a b).map (!·) := rfl
@[simp] theorem truth_bl {μ : Mem} (b : Bool) : truthD μ (.bl b) = some b := rfl
namespace B
def same (i : Nat) : MF := { params := 2, slots := 6, fresh := false, body := [
  .iff (.isi (.var 1) [.dict]) [
    .asg (.nm 2) (.and (.isi (.var 0) [.dict]) (.and (.cmp .eq (.bi .len [.var 0]) (.bi .len [.var 1])) (.bi .all [.comp (.cmp .inn (.var 3) (.var 0)) (.nm 3) (.seq (.var 1)) [] [3]]))),
    .ret (.and (.var 2) (.bi .all [.comp (.call i [.idx (.var 0) (.var 3), .idx (.var 1) (.var 3)]) (.nm 3) (.seq (.var 1)) [] [3]]))] [],
  .iff (.isi (.var 1) [.list, .tuple]) [
    .asg (.nm 2) (.and (.cmp .eq (.isi (.var 0) [.list]) (.isi (.var 1) [.list])) (.cmp .eq (.isi (.var 0) [.tuple]) (.isi (.var 1) [.tuple]))),
    .ret (.and (.var 2) (.and (.cmp .eq (.bi .len [.var 0]) (.bi .len [.var 1])) (.bi .all [.comp (.call i [.var 4, .var 5]) (.tp [.nm 4, .nm 5]) (.zip (.var 0) (.var 1)) [] [4, 5]])))] [],
  .asg (.nm 2) (.and (.not (.isi (.var 0) [.list, .tuple, .dict])) (.and (.cmp .eq (.isi (.var 0) [.int]) (.isi (.var 1) [.int])) (.cmp .eq (.isi (.var 0) [.str]) (.isi (.var 1) [.str])))),
  .ret (.and (.var 2) (.and (.cmp .eq (.isn false (.var 0)) (.isn false (.var 1))) (.and (.cmp .eq (.isi (.var 0) [.bool]) (.isi (.var 1) [.bool])) (.cmp .eq (.var 0) (.var 1)))))] }
end B
/-- the same data, up to the number of steps down; a list may be a cell -/
inductive Al (μ : Mem) : Nat → D → D → Prop
  | non {n : Nat} : Al μ n .non .non
  | bl {n : Nat} (b : Bool) : Al μ n (.bl b) (.bl b)
  | int {n : Nat} (i : Int) : Al μ n (.int i) (.int i)
  | str {n : Nat} (x : Str) (h : PyData.strOk x = true) : Al μ n (.str x) (.str x)
  | tup {n : Nat} {xs ys : List D} (hl : xs.length = ys.length) (h : ∀ x y, (x, y) ∈ xs.zip ys → Al μ n x y) (hs : xs.length ≤ sizeLine) : Al μ (n + 1) (.tup xs) (.tup ys)
  | lst {n : Nat} {xs ys : List D} (hl : xs.length = ys.length) (h : ∀ x y, (x, y) ∈ xs.zip ys → Al μ n x y) (hs : xs.length ≤ sizeLine) : Al μ (n + 1) (.lst xs) (.lst ys)
  | cel {n c : Nat} {xs ys : List D} (hc : μ[c]? = some (some xs)) (hf : flats xs = true) (hl : xs.length = ys.length) (h : ∀ x y, (x, y) ∈ xs.zip ys → Al μ n x y) (hs : xs.length ≤ sizeLine) : Al μ (n + 1) (.ref c) (.lst ys)
theorem zipD_eq : ∀ xs ys : List D, zipD xs ys = (xs.zip ys).map fun p => .tup [p.1, p.2]
  | [], _ => rfl
  | _ :: _, [] => rfl
  | x :: xs, y :: ys => by
    rw [List.zip_cons_cons, List.map_cons, ← zipD_eq xs ys]
    rfl
section
variable {T : List MF} {wf i : Nat} {μ : Mem}
theorem same_seq (hT : T[i]? = some (B.same i)) {n k : Nat} {a b : D} {xs ys : List D} (ih : ∀ x y, (x, y) ∈ xs.zip ys → callN T wf (k + n + 1) i [x, y] μ = some (.bl true, μ)) (hl : xs.length = ys.length) (hs : xs.length ≤ sizeLine)
    (hI : ∀ env : Ev, env[0]? = some (.val a) → env[1]? = some (.val b) → ∃ lks, evI (callN T wf (k + n + 1)) (.zip (.var 0) (.var 1)) env μ = some ((zipD xs ys, lks), μ) ∧ lks.all (Lk.ok env μ) = true)
    (ka : lenD μ a = some xs.length) (kb : lenD μ b = some ys.length) (la : liveD μ a = true) (lb : liveD μ b = true) (db : isT b .dict = false) (tb : (isT b .list || isT b .tuple) = true) (e1 : isT a .list = isT b .list) (e2 : isT a .tuple = isT b .tuple) :
    callN T wf (k + n + 1 + 1) i [a, b] μ = some (.bl true, μ) := by
  refine run_ret hT rfl ?_
  obtain ⟨lks, h1, h2⟩ := hI [.val a, .val b, .val (.bl true), .un, .un, .un] rfl rfl
  have hc := comp_map (tg := .tp [.nm 4, .nm 5]) (elt := .call i [.var 4, .var 5]) (own := [4, 5]) (g := fun _ => .bl true) h1 h2 (fun x hx => by
    rw [zipD_eq] at hx
    obtain ⟨⟨p, q⟩, hp, rfl⟩ := List.mem_map.mp hx
    simp [bindG, bindGs, wipeE, ih p q hp]) (by rw [zipD_eq, List.length_map, List.length_zip]; omega)
  have ha := bi_all (μ := μ) (fun _ => true) (zipD xs ys)
  simp [B.same, lb, db, tb, la, eqD_bl, e1, e2, bindG, ka, kb, hl, eqD_int]
  rw [hc]
  simp [ha]
theorem eqD_non : eqD μ .non .non = some true := by simp only [eqD, toPy, pyW, Option.bind_some, shaped_none, Bool.and_self, if_true, PyData.eqv]
theorem eqD_str {x : Str} (h : PyData.strOk x = true) : eqD μ (.str x) (.str x) = some true := by
  have : SeqAt.shaped (.str x) = true := shaped_of ⟨by simpa only [PyData.canLay0] using h, by simp [PyData.depth]⟩
  simp only [eqD, toPy, pyW, Option.bind_some, this, Bool.and_self, if_true, PyData.eqv, beq_self_eq_true]
theorem same_ok (hT : T[i]? = some (B.same i)) : ∀ (n k : Nat) (a b : D), Al μ n a b → callN T wf (k + n + 1) i [a, b] μ = some (.bl true, μ) := by
  intro n
  induction n with
  | zero =>
    intro k a b h
    cases h
    · refine run_ret hT rfl ?_
      simp [B.same, liveD, isT, eqD_bl, bindG, eqD_non]
    · refine run_ret hT rfl ?_
      simp [B.same, liveD, isT, eqD_bl, bindG]
    · refine run_ret hT rfl ?_
      simp [B.same, liveD, isT, eqD_bl, bindG, eqD_int]
    · rename_i x hx
      refine run_ret hT rfl ?_
      simp [B.same, liveD, isT, eqD_bl, bindG, eqD_str hx]
  | succ n IH =>
    intro k a b h
    cases h
    · refine run_ret hT rfl ?_
      simp [B.same, liveD, isT, eqD_bl, bindG, eqD_non]
    · refine run_ret hT rfl ?_
      simp [B.same, liveD, isT, eqD_bl, bindG]
    · refine run_ret hT rfl ?_
      simp [B.same, liveD, isT, eqD_bl, bindG, eqD_int]
    · rename_i x hx
      refine run_ret hT rfl ?_
      simp [B.same, liveD, isT, eqD_bl, bindG, eqD_str hx]
    · rename_i xs ys hl hs h
      exact same_seq hT (fun x y hxy => IH k x y (h x y hxy)) hl hs (fun env h0 h1 => ⟨[], by simp [evI_zip, h0, h1], rfl⟩) rfl rfl rfl rfl rfl rfl rfl rfl
    · rename_i xs ys hl hs h
      exact same_seq hT (fun x y hxy => IH k x y (h x y hxy)) hl hs (fun env h0 h1 => ⟨[], by simp [evI_zip, h0, h1, seqV, lockOf], rfl⟩) rfl rfl rfl rfl rfl rfl rfl rfl
    · rename_i c xs ys hc hf hl hs h
      exact same_seq hT (fun x y hxy => IH k x y (h x y hxy)) hl hs (fun env h0 h1 => ⟨[.cell c xs], by simp [evI_zip, h0, h1, seqV, lockOf, hc], by simp [Lk.ok, hc, beqs_refl xs hf]⟩) (by simp [lenD, seqV, hc]) rfl (by simp [liveD, hc]) rfl rfl rfl rfl rfl
end
end DI
set_option Elab.async false
set_option linter.all false
set_option maxRecDepth 100000
set_option maxHeartbeats 4000000
/-! DL2: the laws' own helpers: what is drawn -/
namespace DI
open PySem PySem.Spec PyProof.Rows L2
theorem forGo_inv {body : D → Ev → Mem → Option (Fl × Mem)} {ok : Ev → Mem → Bool} (P : List D → Ev → Mem → Prop) : ∀ (xs : List D) (env : Ev) (μ : Mem),
    (∀ x r env μ, P (x :: r) env μ → ∃ env' μ', body x env μ = some (.nx env', μ') ∧ ok env' μ' = true ∧ P r env' μ') → P xs env μ → ∃ env' μ', forGo body ok xs env μ = some (.nx env', μ') ∧ P [] env' μ'
  | [], env, μ, h, p => ⟨env, μ, rfl, p⟩
  | x :: xs, env, μ, h, p => by
    obtain ⟨e1, m1, h1, h2, h3⟩ := h x xs env μ p
    obtain ⟨e2, m2, h4, h5⟩ := forGo_inv P xs e1 m1 h h3
    refine ⟨e2, m2, ?_, h5⟩
    unfold forGo
    rw [h1]
    simp only [Option.bind_some, h2, if_true, h4]
/-- a loop whose body goes on -/
theorem for_run {C : Call} {wf : Nat} {tg : MG} {src : MI} {body : List MS} {env : Ev} {μ μ1 : Mem} {xs : List D} {lks : List Lk} (P : List D → Ev → Mem → Prop)
    (hI : evI C src env μ = some ((xs, lks), μ1)) (hc : lks.all Lk.isCell = true) (hk : ∀ l e ν, P l e ν → lks.all (Lk.ok e ν) = true)
    (h : ∀ x r e ν, P (x :: r) e ν → ∃ e1 e' ν', bindG tg x e = some e1 ∧ evSs C wf body e1 ν = some (.nx e', ν') ∧ P r e' ν') (p : P xs env μ1) :
    ∃ env' μ', evS C wf (.for tg src body) env μ = some (.nx env', μ') ∧ P [] env' μ' := by
  obtain ⟨e2, m2, h1, h2⟩ := forGo_inv (body := fun x e ν => (bindG tg x e).bind fun e1 => evSs C wf body e1 ν) (ok := fun e ν => lks.all (Lk.ok e ν)) P xs env μ1 (fun x r e ν q => by
    obtain ⟨e1, e', ν', a, b, c⟩ := h x r e ν q
    exact ⟨e', ν', by simp [a, b], hk _ _ _ c, c⟩) p
  refine ⟨e2, m2, ?_, h2⟩
  rw [evS]
  simp only [hI, Option.bind_some, hc, hk _ _ _ p, Bool.and_self, if_true]
  exact h1
@[simp] theorem op_int {μ : Mem} (o : Bop) (i j : Int) : opD μ o (.int i) (.int j) = (opI o i j).map .int := rfl
@[simp] theorem opI_add (i j : Int) : opI .add i j = some (i + j) := rfl
@[simp] theorem opI_sub (i j : Int) : opI .sub i j = some (i - j) := rfl
@[simp] theorem bi_int {μ : Mem} (i : Int) : biD μ .int [.int i] = some (.int i) := rfl
@[simp] theorem cmp_gt {μ : Mem} (i j : Int) : cmpD μ .gt (.int i) (.int j) = some (decide (j < i)) := rfl
@[simp] theorem cmp_lt {μ : Mem} (i j : Int) : cmpD μ .lt (.int i) (.int j) = some (decide (i < j)) := rfl
@[simp] theorem cmp_ge {μ : Mem} (i j : Int) : cmpD μ .ge (.int i) (.int j) = some (decide (j ≤ i)) := rfl
@[simp] theorem cmp_le {μ : Mem} (i j : Int) : cmpD μ .le (.int i) (.int j) = some (decide (i ≤ j)) := rfl
theorem fmod_nat (i : Int) {m : Nat} (hm : 0 < m) : ∃ r : Nat, i.fmod m = r ∧ r < m := by
  have h1 := Int.fmod_nonneg_of_pos (a := i) (b := (m : Int)) (by omega)
  have h2 := Int.fmod_lt_of_pos i (b := (m : Int)) (by omega)
  exact ⟨(i.fmod m).toNat, by omega, by omega⟩
theorem rng1 {C : Call} {es : List ME} {env : Ev} {μ μ' : Mem} {j : Int} (q : evEs C es env μ = some ([.int j], μ')) (this : rangeOk j = true) : evI C (.rng es) env μ = some ((rangeD 0 j, []), μ') := by
  rw [evI, q]
  exact if_pos this
theorem rng2 {C : Call} {es : List ME} {env : Ev} {μ μ' : Mem} {i j : Int} (q : evEs C es env μ = some ([.int i, .int j], μ')) (h1 : rangeOk i = true) (h2 : rangeOk j = true) : evI C (.rng es) env μ = some ((rangeD i j, []), μ') := by
  rw [evI, q]
  exact if_pos (by rw [h1, h2]; rfl)
namespace B
def mixed : MF := { params := 3, slots := 4, fresh := false, body := [
  .asg (.nm 3) (.op .add (.op .mul (.var 0) (.int 69069)) (.op .mul (.op .mul (.int 104729) (.var 1)) (.var 1))),
  .asg (.nm 3) (.op .mod (.bi .int [.op .add (.op .add (.var 3) (.op .mul (.int 7919) (.var 2))) (.var 1)]) (.int 2147483647)),
  .asg (.nm 3) (.op .mod (.bi .int [.op .add (.op .mul (.var 3) (.var 3)) (.int 40503)]) (.int 2147483629)),
  .ret (.op .mod (.bi .int [.op .mul (.var 3) (.int 48271)]) (.int 2147483587))] }
def draw (m : Nat) : MF := { params := 2, slots := 5, fresh := false, body := [
  .iff (.cmp .gt (.idx (.var 0) (.int 0)) (.int 0)) [
    .asg (.nm 2) (.op .mod (.bi .int [.idx (.var 0) (.int 0)]) (.var 1)),
    .sset (.var 0) (.int 0) (.op .fdiv (.idx (.var 0) (.int 0)) (.var 1)),
    .ret (.var 2)] [],
  .asg (.nm 3) (.int 0),
  .for (.nm 4) (.rng [.op .add (.int 1) (.op .fdiv (.bits (.var 1)) (.int 28))]) [
    .sset (.var 0) (.int 2) (.op .add (.idx (.var 0) (.int 2)) (.int 1)),
    .asg (.nm 3) (.op .add (.op .mul (.var 3) (.int 2147483587)) (.call m [.idx (.var 0) (.int 1), .idx (.var 0) (.int 2), .idx (.var 0) (.int 3)]))],
  .ret (.op .mod (.bi .int [.var 3]) (.var 1))] }
end B
section
variable {T : List MF} {wf n m d : Nat} {μ : Mem}
theorem mixed_ok (hT : T[m]? = some B.mixed) {s p a : Nat} (h1 : s < 2 ^ 40) (h2 : p < 2 ^ 200) (h3 : a < 2 ^ 40) : ∃ r : Nat, r < 2147483587 ∧ callN T wf (n + 1) m [.int s, .int p, .int a] μ = some (.int r, μ) := by
  have e1 := opI_mul (i := (s : Int)) (j := 69069) (n := 40) (m := 20) h1 (by decide) (by decide)
  have e2 := opI_mul (i := 104729) (j := (p : Int)) (n := 20) (m := 200) (by decide) h2 (by decide)
  have e3 := opI_mul (i := 104729 * (p : Int)) (j := (p : Int)) (n := 220) (m := 200) (by rw [Int.natAbs_mul]; exact mul_lt_pow (n := 20) (m := 200) (by decide) h2) h2 (by decide)
  have e4 := opI_mul (i := 7919) (j := (a : Int)) (n := 20) (m := 40) (by decide) h3 (by decide)
  obtain ⟨r1, f1, l1⟩ := fmod_nat ((s : Int) * 69069 + 104729 * p * p + 7919 * a + p) (m := 2147483647) (by decide)
  have e5 := opI_mul (i := (r1 : Int)) (j := (r1 : Int)) (n := 31) (m := 31) (by omega) (by omega) (by decide)
  obtain ⟨r2, f2, l2⟩ := fmod_nat ((r1 : Int) * r1 + 40503) (m := 2147483629) (by decide)
  have e6 := opI_mul (i := (r2 : Int)) (j := 48271) (n := 31) (m := 31) (by omega) (by decide) (by decide)
  obtain ⟨r3, f3, l3⟩ := fmod_nat ((r2 : Int) * 48271) (m := 2147483587) (by decide)
  refine ⟨r3, l3, run_ret hT rfl ?_⟩
  have g1 : opI .mod ((s : Int) * 69069 + 104729 * p * p + 7919 * a + p) 2147483647 = some (r1 : Int) := by rw [opI_mod (by decide)]; exact congrArg some f1
  have g2 : opI .mod ((r1 : Int) * r1 + 40503) 2147483629 = some (r2 : Int) := by rw [opI_mod (by decide)]; exact congrArg some f2
  have g3 : opI .mod ((r2 : Int) * 48271) 2147483587 = some (r3 : Int) := by rw [opI_mod (by decide)]; exact congrArg some f3
  simp [B.mixed, e1, e2, e3, e4, e5, e6, g1, g2, g3, bindG]
/-- a purse: where it lies, how often it has mixed at most -/
def Pur (μ : Mem) (c b : Nat) : Prop := ∃ p0 p1 p2 p3 : Nat, μ[c]? = some (some [.int p0, .int p1, .int p2, .int p3]) ∧ p1 < 2 ^ 40 ∧ p2 ≤ b ∧ p3 < 2 ^ 40
/-- all but the cell c stands -/
def Ot (c : Nat) (μ ν : Mem) : Prop := ν.length = μ.length ∧ ∀ j, j ≠ c → ν[j]? = μ[j]?
theorem Ot.refl {c : Nat} {μ : Mem} : Ot c μ μ := ⟨rfl, fun _ _ => rfl⟩
theorem Ot.trans {c : Nat} {μ ν ξ : Mem} (h1 : Ot c μ ν) (h2 : Ot c ν ξ) : Ot c μ ξ := ⟨h2.1.trans h1.1, fun j hj => (h2.2 j hj).trans (h1.2 j hj)⟩
theorem Ot.set {c : Nat} {μ : Mem} {x : Option (List D)} : Ot c μ (μ.set c x) := ⟨List.length_set, fun j hj => List.getElem?_set_ne (Ne.symm hj)⟩
theorem Pur.mono {c b b' : Nat} (h : Pur μ c b) (l : b ≤ b') : Pur μ c b' := by
  obtain ⟨p0, p1, p2, p3, h1, h2, h3, h4⟩ := h
  exact ⟨p0, p1, p2, p3, h1, h2, Nat.le_trans h3 l, h4⟩
theorem draw_step {q : Int} {c s p1 p3 k f : Nat} {C : Call} {y v : D} {fy : Int} (hc' : μ[c]? = some (some [.int (0 : Nat), .int p1, .int s, .int p3])) (em : opI .mul (f : Int) q = some fy) {z : Int}
    (hy : C m [.int p1, .int ((s : Int) + 1), .int p3] (μ.set c (some [.int (0 : Nat), .int p1, .int ((s : Int) + 1), .int p3])) = some (.int z, μ.set c (some [.int (0 : Nat), .int p1, .int ((s : Int) + 1), .int p3]))) :
    evSs C wf [.sset (.var 0) (.int 2) (.op .add (.idx (.var 0) (.int 2)) (.int 1)),
        .asg (.nm 3) (.op .add (.op .mul (.var 3) (.int q)) (.call m [.idx (.var 0) (.int 1), .idx (.var 0) (.int 2), .idx (.var 0) (.int 3)]))]
      [.val (.ref c), .val (.int k), .un, .val (.int f), .val v] μ = some (.nx [.val (.ref c), .val (.int k), .un, .val (.int (fy + z)), .val v], μ.set c (some [.int (0 : Nat), .int p1, .int ((s : Int) + 1), .int p3])) := by
  have cl' : c < μ.length := (List.getElem?_eq_some_iff.mp hc').1
  have g := List.getElem?_set_self (l := μ) (i := c) (a := some [D.int (0 : Nat), D.int p1, D.int ((s : Int) + 1), D.int p3]) cl'
  have a1 : ∀ p q r x : D, atI [p, x, q, r] 1 = some x := fun _ _ _ _ => rfl
  have a2 : ∀ p q r x : D, atI [p, q, x, r] 2 = some x := fun _ _ _ _ => rfl
  have a3 : ∀ p q r x : D, atI [p, q, r, x] 3 = some x := fun _ _ _ _ => rfl
  have x2 : ixN 4 2 = some 2 := rfl
  generalize hx : D.int (0 : Nat) = w0 at *
  simp [idxD, seqV, hc', a1, a2, a3, x2, bindG, em, g, hy]
theorem draw_ok (hM : T[m]? = some B.mixed) (hD : T[d]? = some (B.draw m)) {c b k : Nat} (h : Pur μ c b) (hb : b < 2 ^ 190) (hk : 0 < k) (hk2 : k < 2 ^ 200) :
    ∃ (r : Nat) (μ' : Mem), r < k ∧ callN T wf (n + 2) d [.ref c, .int k] μ = some (.int r, μ') ∧ Pur μ' c (b + 10) ∧ Ot c μ μ' := by
  obtain ⟨p0, p1, p2, p3, hc, l1, l2, l3⟩ := h
  have cl : c < μ.length := by
    have := (List.getElem?_eq_some_iff.mp hc).1
    exact this
  by_cases h0 : (0 : Int) < p0
  · obtain ⟨r, f, l⟩ := fmod_nat (p0 : Int) hk
    refine ⟨r, μ.set c (some [.int ((p0 : Int).fdiv k), .int p1, .int p2, .int p3]), l, ?_, ?_, Ot.set⟩
    · refine run_ret hD rfl ?_
      have e1 : opI .mod (p0 : Int) k = some (r : Int) := by rw [opI_mod (by omega)]; exact congrArg some f
      have e2 := opI_fdiv (i := (p0 : Int)) (j := (k : Int)) (n := 200) (by omega) (by simpa using hk2) (by decide)
      have a0 : atI [D.int p0, .int p1, .int p2, .int p3] 0 = some (.int p0) := rfl
      have x0 : ixN 4 0 = some 0 := rfl
      have h0' : 0 < p0 := by omega
      simp [B.draw, idxD, seqV, hc, a0, h0', e1, e2, bindG, x0]
    · have z : (p0 : Int).fdiv k = ((p0 / k : Nat) : Int) := by
        rw [Int.fdiv_eq_ediv_of_nonneg _ (by omega)]; rfl
      rw [z]
      exact ⟨p0 / k, p1, p2, p3, by rw [List.getElem?_set_self cl], l1, by omega, l3⟩
  · have z0 : p0 = 0 := by omega
    subst z0
    have hbits : Builtin.Int.intBits (k : Int) ≤ 200 := by
      unfold Builtin.Int.intBits
      have := log2_lt hk2
      split
      · omega
      · simp only [Int.natAbs_natCast]
        have := (Nat.log2_lt (by omega : k ≠ 0)).mpr hk2
        omega
    obtain ⟨t, ht, lt⟩ : ∃ t : Nat, (1 : Int) + ((Builtin.Int.intBits (k : Int) : Nat) : Int).fdiv 28 = t ∧ t ≤ 10 := by
      rw [Int.fdiv_eq_ediv_of_nonneg _ (by decide)]
      exact ⟨1 + Builtin.Int.intBits (k : Int) / 28, by omega, by omega⟩
    have e1 := opI_fdiv (i := ((Builtin.Int.intBits (k : Int) : Nat) : Int)) (j := 28) (n := 5) (by decide) (by decide) (by decide)
    have hI : evI (callN T wf (n + 1)) (.rng [.op .add (.int 1) (.op .fdiv (.bits (.var 1)) (.int 28))]) [.val (.ref c), .val (.int k), .un, .val (.int 0), .un] μ = some ((rangeD 0 t, []), μ) := by
      refine rng1 (by simp [e1, ht]) ?_
      simp only [rangeOk, Bool.and_eq_true, decide_eq_true_eq]
      omega
    have rl : (rangeD 0 (t : Int)).length = t := by simp [rangeD]
    obtain ⟨env', μ', hf, f, s, v4, he, hc', hs, hff, ho, -⟩ := for_run (wf := wf) (tg := .nm 4) (body := [
        .sset (.var 0) (.int 2) (.op .add (.idx (.var 0) (.int 2)) (.int 1)),
        .asg (.nm 3) (.op .add (.op .mul (.var 3) (.int 2147483587)) (.call m [.idx (.var 0) (.int 1), .idx (.var 0) (.int 2), .idx (.var 0) (.int 3)]))])
      (P := fun l e ν => ∃ (f s : Nat) (v4 : Sl), e = [.val (.ref c), .val (.int k), .un, .val (.int f), v4] ∧ ν[c]? = some (some [.int (0 : Nat), .int p1, .int s, .int p3]) ∧ s + l.length ≤ b + 10 ∧ f < 2 ^ (32 * (10 - l.length)) ∧ Ot c μ ν ∧ l.length ≤ 10)
      hI rfl (fun _ _ _ _ => rfl) (fun x r e ν q => by
        obtain ⟨f, s, v4, he, hc', hs, hff, ho, hl⟩ := q
        subst he
        rw [List.length_cons] at hs hff hl
        have l2' : s + 1 < 2 ^ 200 := by
          have : (2 : Nat) ^ 190 + 10 < 2 ^ 200 := by decide
          omega
        obtain ⟨y, ly, ey⟩ := mixed_ok (wf := wf) (n := n) (μ := ν.set c (some [.int (0 : Nat), .int p1, .int ((s + 1 : Nat) : Int), .int p3])) hM (s := p1) (p := s + 1) (a := p3) l1 l2' l3
        have cl' : c < ν.length := (List.getElem?_eq_some_iff.mp hc').1
        have g := List.getElem?_set_self (l := ν) (i := c) (a := some [D.int (0 : Nat), D.int p1, D.int ((s + 1 : Nat) : Int), D.int p3]) cl'
        have em := opI_mul (i := (f : Int)) (j := 2147483587) (n := 32 * (10 - (r.length + 1))) (m := 32) hff (by decide) (by omega)
        refine ⟨_, _, _, rfl, draw_step (y := x) hc' em ey, f * 2147483587 + y, s + 1, .val x, (by rw [Int.natCast_add, Int.natCast_mul]; rfl), g, by omega, ?_, ho.trans Ot.set, by omega⟩
        · have p1 : 2 ^ (32 * (10 - r.length)) = 2 ^ (32 * (10 - (r.length + 1))) * 2 ^ 32 := by
            rw [← Nat.pow_add]
            congr 1
            omega
          have : (2 : Nat) ^ 32 = 4294967296 := by decide
          rw [p1, this]
          omega)
      ⟨0, p2, .un, rfl, hc, by rw [rl]; omega, by rw [rl]; exact Nat.two_pow_pos _, Ot.refl, by omega⟩
    obtain ⟨r, fr, lr⟩ := fmod_nat (f : Int) hk
    have e2 : opI .mod (f : Int) k = some (r : Int) := by rw [opI_mod (by omega)]; exact congrArg some fr
    have a0 : ∀ x y z w : D, atI [x, y, z, w] 0 = some x := fun _ _ _ _ => rfl
    refine ⟨r, μ', lr, run_ret hD rfl ?_, ⟨0, p1, s, p3, hc', l1, by simpa using hs, l3⟩, ho⟩
    simp [B.draw, idxD, seqV, hc, a0, bindG]
    simp [hf, he, e2]
end
end DI
set_option Elab.async false
set_option linter.all false
set_option maxRecDepth 100000
set_option maxHeartbeats 4000000
/-! DL3: the laws' own helpers: fractions -/
namespace DI
open PySem PySem.Spec PyProof.Rows L2
namespace B
def frac : MF := { params := 2, slots := 5, fresh := false, body := [
  .par [2, 3] [.bi .abs [.var 0], .bi .abs [.var 1]],
  .whl (.cmp .ne (.var 3) (.int 0)) [
    .par [2, 3] [.var 3, .op .mod (.var 2) (.var 3)]],
  .asg (.nm 4) (.ite (.cmp .gt (.var 1) (.int 0)) (.var 2) (.neg (.var 2))),
  .ret (.tup [.op .fdiv (.var 0) (.var 4), .op .fdiv (.var 1) (.var 4)])] }
def plus (f : Nat) : MF := { params := 2, slots := 2, fresh := false, body := [
  .ret (.call f [.op .add (.op .mul (.idx (.var 0) (.int 0)) (.idx (.var 1) (.int 1))) (.op .mul (.idx (.var 1) (.int 0)) (.idx (.var 0) (.int 1))), .op .mul (.idx (.var 0) (.int 1)) (.idx (.var 1) (.int 1))])] }
def minus (f : Nat) : MF := { params := 2, slots := 2, fresh := false, body := [
  .ret (.call f [.op .sub (.op .mul (.idx (.var 0) (.int 0)) (.idx (.var 1) (.int 1))) (.op .mul (.idx (.var 1) (.int 0)) (.idx (.var 0) (.int 1))), .op .mul (.idx (.var 0) (.int 1)) (.idx (.var 1) (.int 1))])] }
def times (f : Nat) : MF := { params := 2, slots := 2, fresh := false, body := [
  .ret (.call f [.op .mul (.idx (.var 0) (.int 0)) (.idx (.var 1) (.int 0)), .op .mul (.idx (.var 0) (.int 1)) (.idx (.var 1) (.int 1))])] }
def fraction : MF := { params := 2, slots := 3, fresh := false, body := [
  .asg (.nm 2) (.ite (.cmp .gt (.var 1) (.int 0)) (.bi .gcd [.var 0, .var 1]) (.op .sub (.int 0) (.bi .gcd [.var 0, .var 1]))),
  .ret (.tup [.op .fdiv (.var 0) (.var 2), .op .fdiv (.var 1) (.var 2)])] }
def less : MF := { params := 2, slots := 2, fresh := false, body := [
  .ret (.cmp .lt (.op .mul (.idx (.var 0) (.int 0)) (.idx (.var 1) (.int 1))) (.op .mul (.idx (.var 1) (.int 0)) (.idx (.var 0) (.int 1))))] }
end B
section
variable {T : List MF} {wf n f i : Nat} {μ : Mem}
theorem while_end {c : Ev → Mem → Option (Bool × Mem)} {body : Ev → Mem → Option (Fl × Mem)} {env : Ev} {μ μ1 : Mem} (n : Nat) (h : c env μ = some (false, μ1)) : whileGo c body (n + 1) env μ = some (.nx env, μ1) := by
  unfold whileGo
  rw [h]
  rfl
theorem while_go {c : Ev → Mem → Option (Bool × Mem)} {body : Ev → Mem → Option (Fl × Mem)} {env e : Ev} {μ μ1 μ2 : Mem} (n : Nat) (h : c env μ = some (true, μ1)) (h2 : body env μ1 = some (.nx e, μ2)) : whileGo c body (n + 1) env μ = whileGo c body n e μ2 := by
  rw [whileGo, h]
  simp only [Option.bind_some, if_true, h2]
theorem gcd_loop {C : Call} {a b : D} : ∀ (w y x : Nat) (v : Sl), y < w →
    whileGo (fun e ν => evT C (.cmp .ne (.var 3) (.int 0)) e ν) (fun e ν => evSs C wf [.par [2, 3] [.var 3, .op .mod (.var 2) (.var 3)]] e ν) w [.val a, .val b, .val (.int x), .val (.int y), v] μ = some (.nx [.val a, .val b, .val (.int (Nat.gcd x y : Nat)), .val (.int 0), v], μ)
  | 0, y, x, v, h => absurd h (Nat.not_lt_zero _)
  | w + 1, y, x, v, h => by
    by_cases hy : y = 0
    · subst hy
      rw [while_end w (μ1 := μ) (by simp [eqD_int]), Nat.gcd_zero_right]
      rfl
    · have hy' : ¬ ((y : Int) = 0) := by omega
      have e : opI .mod (x : Int) y = some ((x % y : Nat) : Int) := by
        rw [opI_mod (by omega), Int.fmod_eq_emod_of_nonneg _ (by omega)]
        rfl
      have ih := gcd_loop (C := C) (a := a) (b := b) w (x % y) y v (by have := Nat.mod_lt x (Nat.pos_of_ne_zero hy); omega)
      rw [while_go w (μ1 := μ) (μ2 := μ) (e := [.val a, .val b, .val (.int y), .val (.int (x % y : Nat)), v]) (by simp [eqD_int, hy]) (by simp [e, parE, -Int.natCast_emod]), ih, Nat.gcd_comm y, ← Nat.gcd_rec, Nat.gcd_comm y]
@[simp] theorem bi_abs (i : Int) : biD μ .abs [.int i] = some (.int (if i < 0 then -i else i)) := rfl
theorem abs_nat (i : Int) : (if i < 0 then -i else i) = (i.natAbs : Int) := by split <;> omega
theorem frac_ok (hT : T[f]? = some B.frac) {a b : Int} {m : Nat} (hb : b ≠ 0) (h1 : b.natAbs < 2 ^ m) (hm : m < 8000) (hw : 2 ^ m ≤ wf) : callN T wf (n + 1) f [.int a, .int b] μ = some (dQ (Rat.divInt a b), μ) := by
  refine run_ret hT rfl ?_
  have lp := gcd_loop (μ := μ) (wf := wf) (C := callN T wf n) (a := .int a) (b := .int b) wf b.natAbs a.natAbs .un (Nat.lt_of_lt_of_le h1 hw)
  have g : ((Nat.gcd a.natAbs b.natAbs : Nat) : Int) = (b.gcd a : Int) := by
    rw [Int.gcd_comm]
    rfl
  have g0 : b.gcd a ≠ 0 := fun z => hb (Int.gcd_eq_zero_iff.mp z).1
  have gl : b.gcd a < 2 ^ m := Nat.lt_of_le_of_lt (Nat.le_of_dvd (by omega) (Int.gcd_dvd_natAbs_left b a)) h1
  rw [g] at lp
  obtain ⟨q1, q2⟩ := fdiv_gcd (a := a) hb (m := if 0 < b then (b.gcd a : Int) else -(b.gcd a : Int)) rfl
  have hd : ∀ x : Int, opI .fdiv x (if 0 < b then (b.gcd a : Int) else -(b.gcd a : Int)) = some (x.fdiv (if 0 < b then (b.gcd a : Int) else -(b.gcd a : Int))) := fun x => opI_fdiv (by split <;> omega) (n := m) (by split <;> simpa using gl) (by omega)
  simp [B.frac, parE, abs_nat]
  rw [evS, lp]
  by_cases h : 0 < b
  · simp only [if_pos h] at hd q1 q2
    simp [bindG, h, hd, q1, q2, dQ, sizeLine]
  · simp only [if_neg h] at hd q1 q2
    simp [bindG, h, hd, q1, q2, dQ, sizeLine]
theorem idx_dQ (q : Rat) : idxD μ (dQ q) (.int 0) = some (.int q.num) ∧ idxD μ (dQ q) (.int 1) = some (.int q.den) := ⟨rfl, rfl⟩
theorem idx_dP (q : Rat × Rat) : idxD μ (dP q) (.int 0) = some (dQ q.1) ∧ idxD μ (dP q) (.int 1) = some (dQ q.2) := ⟨rfl, rfl⟩
theorem den0 (p q : Rat) : ((p.den : Int) * q.den) ≠ 0 := by
  have h1 := p.den_nz
  have h2 := q.den_nz
  exact Int.mul_ne_zero (by omega) (by omega)
variable {p q : Rat} {m k : Nat}
theorem den_lt (hp : Sm m p) (hq : Sm k q) : ((p.den : Int) * q.den).natAbs < 2 ^ (m + k) := by
  rw [Int.natAbs_mul]
  exact mul_lt_pow hp.2 hq.2
theorem sm_muls (hp : Sm m p) (hq : Sm k q) (h : m + k < 8000) : opI .mul p.num q.num = some (p.num * q.num) ∧ opI .mul p.num q.den = some (p.num * q.den) ∧ opI .mul q.num p.den = some (q.num * p.den) ∧ opI .mul (p.den : Int) q.den = some (p.den * q.den) :=
  ⟨opI_mul hp.1 hq.1 (by omega), opI_mul hp.1 (m := k) (by simpa using hq.2) (by omega), opI_mul hq.1 (m := m) (by simpa using hp.2) (by omega), opI_mul (n := m) (m := k) (by simpa using hp.2) (by simpa using hq.2) (by omega)⟩
/-- f makes the fraction of two whole numbers -/
def FracOk (T : List MF) (wf f : Nat) : Prop := ∀ (n : Nat) (μ : Mem) (a b : Int) (m : Nat), b ≠ 0 → a.natAbs < 2 ^ m → b.natAbs < 2 ^ m → m < 8000 → 2 ^ m ≤ wf → callN T wf (n + 1) f [.int a, .int b] μ = some (dQ (Rat.divInt a b), μ)
theorem FracOk.law (hT : T[f]? = some B.frac) : FracOk T wf f := fun n μ a b m hb _ h1 hm hw => frac_ok hT hb h1 hm hw
theorem FracOk.prog (hT : T[f]? = some B.fraction) : FracOk T wf f := fun n μ a b m hb h1 h2 hm hw => by
  refine run_ret hT rfl ?_
  have gl : b.gcd a < 2 ^ m := Nat.lt_of_le_of_lt (Nat.le_of_dvd (by omega) (Int.gcd_dvd_natAbs_left b a)) h2
  have g0 : b.gcd a ≠ 0 := fun z => hb (Int.gcd_eq_zero_iff.mp z).1
  have gg : ∀ μ : Mem, biD μ .gcd [.int a, .int b] = some (.int (b.gcd a : Int)) := fun μ => by
    rw [Int.gcd_comm]
    rfl
  by_cases h : 0 < b
  · obtain ⟨q1, q2⟩ := fdiv_gcd (a := a) hb (m := (b.gcd a : Int)) (if_pos h).symm
    have hd : ∀ x : Int, opI .fdiv x (b.gcd a : Int) = some (x.fdiv (b.gcd a : Int)) := fun x => opI_fdiv (by omega) (n := m) (by simpa using gl) (by omega)
    simp [B.fraction, gg, h, bindG, hd, q1, q2, dQ, sizeLine]
  · obtain ⟨q1, q2⟩ := fdiv_gcd (a := a) hb (m := -(b.gcd a : Int)) (if_neg h).symm
    have hd : ∀ x : Int, opI .fdiv x (-(b.gcd a : Int)) = some (x.fdiv (-(b.gcd a : Int))) := fun x => opI_fdiv (by omega) (n := m) (by simpa using gl) (by omega)
    simp [B.fraction, gg, h, bindG, hd, q1, q2, dQ, sizeLine]
theorem num_lt {n m : Nat} {p q : Rat} (hp : Sm m p) (hq : Sm n q) : (p.num * q.den).natAbs < 2 ^ (m + n) ∧ (q.num * p.den).natAbs < 2 ^ (m + n) := by
  refine ⟨?_, ?_⟩
  · rw [Int.natAbs_mul]; exact mul_lt_pow hp.1 hq.2
  · rw [Int.natAbs_mul, Nat.add_comm m n]; exact mul_lt_pow hq.1 hp.2
theorem plus_ok (hF : FracOk T wf f) (hT : T[i]? = some (B.plus f)) (hp : Sm m p) (hq : Sm k q) (h : m + k < 7990) (hw : 2 ^ (m + k + 1) ≤ wf) : callN T wf (n + 2) i [dQ p, dQ q] μ = some (dQ (p + q), μ) := by
  refine run_ret hT rfl ?_
  obtain ⟨e1, e2, e3, e4⟩ := sm_muls hp hq (by omega)
  have z := hF n μ (p.num * q.den + q.num * p.den) (p.den * q.den) (m + k + 1) (den0 p q) (by have := num_lt hp hq; have := Int.natAbs_add_le (p.num * q.den) (q.num * p.den); have : 2 ^ (m + k + 1) = 2 ^ (m + k) * 2 := Nat.pow_succ 2 (m + k); omega) (Nat.lt_of_lt_of_le (den_lt hp hq) (Nat.pow_le_pow_right (by decide) (by omega))) (by omega) hw
  rw [add_divInt] at z
  simp [B.plus, idx_dQ, e1, e2, e3, e4, z]
theorem minus_ok (hF : FracOk T wf f) (hT : T[i]? = some (B.minus f)) (hp : Sm m p) (hq : Sm k q) (h : m + k < 7990) (hw : 2 ^ (m + k + 1) ≤ wf) : callN T wf (n + 2) i [dQ p, dQ q] μ = some (dQ (p - q), μ) := by
  refine run_ret hT rfl ?_
  obtain ⟨e1, e2, e3, e4⟩ := sm_muls hp hq (by omega)
  have z := hF n μ (p.num * q.den - q.num * p.den) (p.den * q.den) (m + k + 1) (den0 p q) (by have := num_lt hp hq; have := Int.natAbs_sub_le (p.num * q.den) (q.num * p.den); have : 2 ^ (m + k + 1) = 2 ^ (m + k) * 2 := Nat.pow_succ 2 (m + k); omega) (Nat.lt_of_lt_of_le (den_lt hp hq) (Nat.pow_le_pow_right (by decide) (by omega))) (by omega) hw
  rw [sub_divInt] at z
  simp [B.minus, idx_dQ, e1, e2, e3, e4, z]
theorem times_ok (hF : FracOk T wf f) (hT : T[i]? = some (B.times f)) (hp : Sm m p) (hq : Sm k q) (h : m + k < 7990) (hw : 2 ^ (m + k + 1) ≤ wf) : callN T wf (n + 2) i [dQ p, dQ q] μ = some (dQ (p * q), μ) := by
  refine run_ret hT rfl ?_
  obtain ⟨e1, e2, e3, e4⟩ := sm_muls hp hq (by omega)
  have z := hF n μ (p.num * q.num) (p.den * q.den) (m + k + 1) (den0 p q) (by rw [Int.natAbs_mul]; exact Nat.lt_of_lt_of_le (mul_lt_pow hp.1 hq.1) (Nat.pow_le_pow_right (by decide) (by omega))) (Nat.lt_of_lt_of_le (den_lt hp hq) (Nat.pow_le_pow_right (by decide) (by omega))) (by omega) hw
  rw [mul_divInt] at z
  simp [B.times, idx_dQ, e1, e2, e3, e4, z]
theorem less_ok (hT : T[i]? = some B.less) (hp : Sm m p) (hq : Sm k q) (h : m + k < 8000) : callN T wf (n + 1) i [dQ p, dQ q] μ = some (.bl (decide (p < q)), μ) := by
  refine run_ret hT rfl ?_
  obtain ⟨e1, e2, e3, e4⟩ := sm_muls hp hq h
  simp [B.less, idx_dQ, e2, e3, Rat.lt_iff]
end
end DI
set_option Elab.async false
set_option linter.all false
set_option maxRecDepth 100000
set_option maxHeartbeats 4000000
/-! DL4: the laws' own helpers: purses, shuffled lists -/
namespace DI
open PySem PySem.Spec PyProof.Rows L2
namespace B
def purse : MF := { params := 2, slots := 3, fresh := true, body := [
  .asg (.nm 2) (.bi .sum [.slc (.var 0) (some (.var 1)) (some (.op .add (.var 1) (.int 1)))]),
  .ret (.lst [.op .mod (.bi .int [.bi .max [.op .sub (.var 2) (.op .pow (.int 10) (.int 18)), .int 0]]) (.op .pow (.op .pow (.int 10) (.int 60)) (.int 8)), .op .mod (.bi .int [.var 2]) (.int 2147483629), .int 0, .var 1])] }
def purses (p : Nat) : MF := { params := 2, slots := 3, fresh := false, body := [
  .ret (.comp (.cell (.call p [.var 0, .var 2])) (.nm 2) (.rng [.bi .max [.int 1, .bi .min [.var 1, .bi .len [.var 0]]]]) [] [2])] }
def shuffled (d : Nat) : MF := { params := 2, slots := 4, fresh := false, body := [
  .own 2 (.lst []),
  .for (.nm 3) (.seq (.var 1)) [
    .ometh .insert 2 [.call d [.var 0, .op .add (.bi .len [.ovar 2]) (.int 1)], .var 3]],
  .reto 2] }
end B
section
variable {T : List MF} {wf n p d m : Nat} {μ : Mem}
theorem intsD_map : ∀ ns : List Int, intsD (ns.map D.int) = some ns
  | [] => rfl
  | n :: ns => by simp [intsD, intsD_map ns]
theorem cutD_map {α β : Type} (f : α → β) (xs : List α) (lo hi : Option Int) : cutD (xs.map f) lo hi = (cutD xs lo hi).map f := by
  unfold cutD
  rw [List.length_map, List.map_take, List.map_drop]
@[simp] theorem bi_max (i j : Int) : biD μ .max [.int i, .int j] = some (.int (if j > i then j else i)) := rfl
@[simp] theorem bi_min (i j : Int) : biD μ .min [.int i, .int j] = some (.int (if j < i then j else i)) := rfl
theorem bi_sum (ns : List Int) : biD μ .sum [.lst (ns.map D.int)] = some (.int ns.sum) := by
  have : biD μ .sum [.lst (ns.map D.int)] = (intsD (ns.map D.int)).map fun is => .int is.sum := rfl
  rw [this, intsD_map]
  rfl
theorem slc_lst (xs : List D) (lo hi : Option Int) : slcD μ (.lst xs) lo hi = some (.lst (cutD xs lo hi)) := rfl
theorem pow18 : opI .pow 10 18 = some (10 ^ 18) := by decide +kernel
theorem pow60 : opI .pow 10 60 = some (10 ^ 60) := by decide +kernel
theorem pow480 : opI .pow (10 ^ 60) 8 = some (((10 ^ 60) ^ 8 : Nat) : Int) := by decide +kernel
theorem purse_ok (hT : T[p]? = some B.purse) (ns : List Int) {a : Nat} (ha : a < 2 ^ 40) : ∃ p0 p1 : Nat, callN T wf (n + 1) p [.lst (ns.map D.int), .int a] μ = some (.lst [.int p0, .int p1, .int (0 : Nat), .int a], μ) ∧ p1 < 2 ^ 40 := by
  have s1 : biD μ .sum [.lst (cutD (ns.map D.int) (some (a : Int)) (some ((a : Int) + 1)))] = some (.int (cutD ns (some (a : Int)) (some ((a : Int) + 1))).sum) := by rw [cutD_map, bi_sum]
  generalize (cutD ns (some (a : Int)) (some ((a : Int) + 1))).sum = x at s1
  have f1 : ∃ r : Nat, opI .mod (if 0 > x - 10 ^ 18 then 0 else x - 10 ^ 18) (((10 ^ 60) ^ 8 : Nat) : Int) = some (r : Int) := by
    have pos : 0 < (10 ^ 60) ^ 8 := Nat.pow_pos (Nat.pow_pos (by decide))
    generalize (10 ^ 60) ^ 8 = M at pos
    obtain ⟨r, h, -⟩ := fmod_nat (if 0 > x - 10 ^ 18 then 0 else x - 10 ^ 18) pos
    exact ⟨r, by rw [opI_mod (by omega)]; exact congrArg some h⟩
  obtain ⟨p0, e1⟩ := f1
  obtain ⟨p1, g, l⟩ := fmod_nat x (m := 2147483629) (by decide)
  have e2 : opI .mod x 2147483629 = some (p1 : Int) := by rw [opI_mod (by decide)]; exact congrArg some g
  refine ⟨p0, p1, run_ret hT rfl ?_, by omega⟩
  have k1 := pow18
  have k2 := pow60
  have k3 := pow480
  generalize ((10 ^ 60) ^ 8 : Nat) = M at *
  generalize (10 : Int) ^ 60 = M1 at *
  generalize (10 : Int) ^ 18 = M2 at *
  have sl : 4 ≤ sizeLine := by decide
  simp [B.purse, slc_lst, s1, bindG, k1, k2, k3, e1, e2, sl]
/-- a comprehension that makes cells -/
theorem compGo_cells {step : D → Mem → Option (Option D × Mem)} {ok : Mem → Bool} (hk : ∀ μ, ok μ = true) (Q : D → List D → Prop) : ∀ (xs : List D) (μ : Mem), (∀ x, x ∈ xs → ∀ μ, ∃ ds, step x μ = some (some (.ref μ.length), μ ++ [some ds]) ∧ Q x ds) →
    ∃ cs : List (List D), compGo step ok xs μ = some ((List.range' μ.length xs.length).map D.ref, μ ++ cs.map some) ∧ cs.length = xs.length ∧ ∀ ds, ds ∈ cs → ∃ x, x ∈ xs ∧ Q x ds
  | [], μ, h => ⟨[], by simp [compGo], rfl, fun _ z => nomatch z⟩
  | x :: xs, μ, h => by
    obtain ⟨ds, e, q⟩ := h x List.mem_cons_self μ
    obtain ⟨cs, e2, l2, q2⟩ := compGo_cells hk Q xs (μ ++ [some ds]) fun y hy => h y (List.mem_cons_of_mem _ hy)
    refine ⟨ds :: cs, ?_, by simp [l2], fun ds' hd => ?_⟩
    · unfold compGo
      rw [e]
      simp only [Option.bind_some, hk, if_true, e2, Option.map_some, Option.toList_some]
      simp [List.range'_succ]
    · rcases List.mem_cons.mp hd with rfl | hd
      · exact ⟨x, List.mem_cons_self, q⟩
      · obtain ⟨y, hy, qy⟩ := q2 ds' hd
        exact ⟨y, List.mem_cons_of_mem _ hy, qy⟩
theorem purses_ok (hP : T[p]? = some B.purse) (hT : T[d]? = some (B.purses p)) (ns : List Int) (hn : ns.length ≤ 1000) {few : Nat} (hf : few ≤ 1000) : ∃ (k : Nat) (μ' : Mem),
    callN T wf (n + 2) d [.lst (ns.map D.int), .int few] [] = some (.lst ((List.range k).map D.ref), μ') ∧ μ'.length = k ∧ ∀ c, c < k → Pur μ' c 0 := by
  obtain ⟨k, hk, lk⟩ : ∃ k : Nat, (if 1 < (if ns.length < few then (ns.length : Int) else few) then (if ns.length < few then (ns.length : Int) else few) else 1) = k ∧ k ≤ 1000 := by
    refine ⟨(if 1 < (if ns.length < few then (ns.length : Int) else few) then (if ns.length < few then (ns.length : Int) else few) else 1).toNat, ?_, ?_⟩
    · split <;> split <;> omega
    · split <;> split <;> omega
  have ll : lenD ([] : Mem) (.lst (ns.map D.int)) = some ns.length := by simp [lenD, seqV]
  have hI : evI (callN T wf (n + 1)) (.rng [.bi .max [.int 1, .bi .min [.var 1, .bi .len [.var 0]]]]) [.val (.lst (ns.map D.int)), .val (.int few), .un] [] = some ((rangeD 0 k, []), []) := by
    refine rng1 (by simp [ll, hk]) ?_
    simp only [rangeOk, Bool.and_eq_true, decide_eq_true_eq]
    omega
  have hs : ∀ x, x ∈ rangeD 0 k → ∀ μ : Mem, ∃ ds, ((bindG (.nm 2) x (wipeE [.val (.lst (ns.map D.int)), .val (.int few), .un] [2])).bind fun e1 => (evCs (callN T wf (n + 1)) [] e1 μ).bind fun c =>
      if c.1 then (evE (callN T wf (n + 1)) (.cell (.call p [.var 0, .var 2])) e1 c.2).map fun q => (some q.1, q.2) else some (none, c.2)) = some (some (.ref μ.length), μ ++ [some ds]) ∧ ∃ p0 p1 p3 : Nat, ds = [.int p0, .int p1, .int (0 : Nat), .int p3] ∧ p1 < 2 ^ 40 ∧ p3 < 2 ^ 40 := fun x hx μ => by
    obtain ⟨a, ha, rfl⟩ := List.mem_map.mp hx
    have la : a < k := by
      have := List.mem_range.mp ha
      omega
    obtain ⟨p0, p1, e, l1⟩ := purse_ok (wf := wf) (n := n) (μ := μ) hP ns (a := a) (by omega)
    refine ⟨[.int p0, .int p1, .int (0 : Nat), .int a], ?_, p0, p1, a, rfl, l1, by omega⟩
    have : (0 : Int) + a = a := by omega
    generalize D.int (0 : Nat) = w0 at *
    simp [bindG, wipeE, this, e]
  obtain ⟨cs, e, l, q⟩ := compGo_cells (ok := fun _ => true) (fun _ => rfl) (fun _ ds => ∃ p0 p1 p3 : Nat, ds = [.int p0, .int p1, .int (0 : Nat), .int p3] ∧ p1 < 2 ^ 40 ∧ p3 < 2 ^ 40) (rangeD 0 k) [] hs
  have rl : (rangeD 0 (k : Int)).length = k := by simp [rangeD]
  rw [rl] at e l
  refine ⟨k, [] ++ cs.map some, run_ret hT rfl ?_, by simpa using l, fun c hc => ?_⟩
  · have : evE (callN T wf (n + 1)) (.comp (.cell (.call p [.var 0, .var 2])) (.nm 2) (.rng [.bi .max [.int 1, .bi .min [.var 1, .bi .len [.var 0]]]]) [] [2]) [.val (.lst (ns.map D.int)), .val (.int few), .un] [] = some (.lst ((List.range k).map D.ref), [] ++ cs.map some) := by
      rw [evE, hI]
      simp only [Option.bind_some, List.all_nil, if_true]
      rw [e]
      have : ((List.range' 0 k).map D.ref).length ≤ sizeLine := by
        rw [List.length_map, List.length_range']
        unfold sizeLine
        omega
      simp only [Option.bind_some, List.length_nil, this, if_true, List.range_eq_range']
    simp [B.purses, this]
  · obtain ⟨x, -, p0, p1, p3, e1, l1, l3⟩ := q (cs[c]'(by omega)) (List.getElem_mem _)
    refine ⟨p0, p1, 0, p3, ?_, l1, Nat.le_refl _, l3⟩
    rw [← e1]
    simp [List.getElem?_eq_getElem (show c < cs.length by omega)]
theorem shuffled_ok {α : Type} {g : α → D} (hM : T[m]? = some B.mixed) (hD : T[d]? = some (B.draw m)) {i : Nat} (hT : T[i]? = some (B.shuffled d)) {c b : Nat} (l : List α) (hl : l.length ≤ 1000) (h : Pur μ c b) (hb : b + 10 * l.length < 2 ^ 190) :
    ∃ (l' : List α) (μ' : Mem), callN T wf (n + 3) i [.ref c, .lst (l.map g)] μ = some (.lst (l'.map g), μ') ∧ l'.Perm l ∧ Pur μ' c (b + 10 * l.length) ∧ Ot c μ μ' := by
  obtain ⟨env', μ', hf, done, rest, v3, he, hall, hpm, hlen, hpur, ho⟩ := for_run (C := callN T wf (n + 2)) (wf := wf) (tg := .nm 3) (body := [.ometh .insert 2 [.call d [.var 0, .op .add (.bi .len [.ovar 2]) (.int 1)], .var 3]]) (src := .seq (.var 1))
    (env := [.val (.ref c), .val (.lst (l.map g)), .own [], .un]) (μ := μ) (μ1 := μ) (xs := l.map g) (lks := [])
    (P := fun r e ν => ∃ (done rest : List α) (v3 : Sl), e = [.val (.ref c), .val (.lst (l.map g)), .own (done.map g), v3] ∧ r = rest.map g ∧ (done ++ rest).Perm l ∧ done.length + rest.length = l.length ∧ Pur ν c (b + 10 * done.length) ∧ Ot c μ ν)
    (by simp [evI_seq, itemsD, seqV, lockOf]) rfl (fun _ _ _ _ => rfl) (fun x r e ν q => by
      obtain ⟨done, rest, v3, he, hr, hpm, hlen, hpur, ho⟩ := q
      cases rest with
      | nil => simp at hr
      | cons a rest =>
        rw [List.map_cons] at hr
        obtain ⟨rfl, rfl⟩ := List.cons.inj hr
        subst he
        rw [List.length_cons] at hlen
        have k200 : done.length + 1 < 2 ^ 200 := by
          have : (1002 : Nat) < 2 ^ 200 := by decide
          omega
        obtain ⟨y, ν', ly, ey, hp', ho'⟩ := draw_ok (T := T) (wf := wf) (n := n) (k := done.length + 1) hM hD hpur (by omega) (by omega) k200
        have ey' : callN T wf (n + 2) d [.ref c, .int ((done.length : Int) + 1)] ν = some (.int y, ν') := ey
        have ins : mthD .insert (done.map g) [.int y, g a] = some ((done.take y ++ [a] ++ done.drop y).map g) := by
          have : (done.map g).length < sizeLine ∧ (0 : Int) ≤ y ∧ (y : Int) < 2 ^ 63 := by
            rw [List.length_map]
            unfold sizeLine
            omega
          simp only [mthD]
          rw [if_pos this]
          simp [List.map_take, List.map_drop]
        refine ⟨_, _, ν', rfl, ?_, done.take y ++ [a] ++ done.drop y, rest, .val (g a), rfl, rfl, ?_, ?_, ?_, ho.trans ho'⟩
        · have ll : lenD ν (.lst (done.map g)) = some done.length := by simp [lenD, seqV]
          simp [ll, ey', ins, -List.map_append]
        · refine List.Perm.trans ?_ hpm
          have e1 : (done.take y ++ [a] ++ done.drop y).Perm (done ++ [a]) := by
            have : (done.take y ++ ([a] ++ done.drop y)).Perm (done.take y ++ (done.drop y ++ [a])) := List.Perm.append_left _ List.perm_append_comm
            rw [← List.append_assoc, ← List.append_assoc, List.take_append_drop] at this
            exact this
          have := e1.append_right rest
          rwa [List.append_assoc done [a] rest] at this
        · simp only [List.length_append, List.length_take, List.length_drop, List.length_cons, List.length_nil]
          omega
        · refine hp'.mono ?_
          simp only [List.length_append, List.length_take, List.length_drop, List.length_cons, List.length_nil]
          omega) ⟨[], l, .un, rfl, rfl, List.Perm.refl _, by simp, by simpa using h, Ot.refl⟩
  have hr0 : rest = [] := by
    cases rest with
    | nil => rfl
    | cons _ _ => simp at hall
  subst hr0
  rw [List.append_nil] at hpm
  refine ⟨done, μ', run_ret hT rfl ?_, hpm, by rw [← hpm.length_eq]; exact hpur, ho⟩
  have sl : (0 : Nat) ≤ sizeLine := Nat.zero_le _
  simp [B.shuffled, hf, he]
end
end DI
set_option Elab.async false
set_option linter.all false
set_option maxRecDepth 100000
set_option maxHeartbeats 4000000
/-! DL5: the program's own helpers: whole numbers, fractions, points -/
namespace DI
open PySem PySem.Spec PyProof.Rows L2
namespace B
def is_whole : MF := { params := 1, slots := 1, fresh := false, body := [
  .ret (.and (.isi (.var 0) [.int]) (.not (.isi (.var 0) [.bool])))] }
def is_tuple_of : MF := { params := 2, slots := 2, fresh := false, body := [
  .ret (.and (.isi (.var 0) [.tuple]) (.cmp .eq (.bi .len [.var 0]) (.var 1)))] }
def is_fraction (w t : Nat) : MF := { params := 1, slots := 1, fresh := false, body := [
  .iff (.or (.not (.call t [.var 0, .int 2])) (.or (.not (.call w [.idx (.var 0) (.int 0)])) (.or (.not (.call w [.idx (.var 0) (.int 1)])) (.cmp .lt (.idx (.var 0) (.int 1)) (.int 1))))) [
    .ret (.bl false)] [],
  .ret (.cmp .eq (.bi .gcd [.idx (.var 0) (.int 0), .idx (.var 0) (.int 1)]) (.int 1))] }
def is_point (t f : Nat) : MF := { params := 1, slots := 1, fresh := false, body := [
  .ret (.and (.call t [.var 0, .int 2]) (.and (.call f [.idx (.var 0) (.int 0)]) (.call f [.idx (.var 0) (.int 1)])))] }
def check (p : Nat) : MF := { params := 1, slots := 1, fresh := false, body := [
  .iff (.not (.call p [.var 0])) [
    .raise] []] }
def comes_ahead (l : Nat) : MF := { params := 2, slots := 2, fresh := false, body := [
  .iff (.cmp .ne (.idx (.var 0) (.int 0)) (.idx (.var 1) (.int 0))) [
    .ret (.call l [.idx (.var 0) (.int 0), .idx (.var 1) (.int 0)])] [],
  .ret (.call l [.idx (.var 0) (.int 1), .idx (.var 1) (.int 1)])] }
def are (p : Nat) : MF := { params := 1, slots := 2, fresh := false, body := [
  .ret (.and (.isi (.var 0) [.list]) (.bi .all [.comp (.call p [.var 1]) (.nm 1) (.seq (.var 0)) [] [1]]))] }
def law_ahead (l : Nat) : MF := { params := 2, slots := 2, fresh := false, body := [
  .ret (.or (.call l [.idx (.var 0) (.int 0), .idx (.var 1) (.int 0)]) (.and (.cmp .eq (.idx (.var 0) (.int 0)) (.idx (.var 1) (.int 0))) (.call l [.idx (.var 0) (.int 1), .idx (.var 1) (.int 1)])))] }
end B
/-! ### no cell anywhere -/
mutual
def bare : D → Bool
  | .ref _ => false
  | .tup xs => bares xs
  | .lst xs => bares xs
  | _ => true
def bares : List D → Bool
  | [] => true
  | x :: xs => bare x && bares xs
end
theorem live_bare {μ : Mem} {d : D} (h : bare d = true) : liveD μ d = true := by
  cases d <;> first | rfl | (simp [bare] at h)
theorem bares_iff : ∀ ds : List D, bares ds = true ↔ ∀ d, d ∈ ds → bare d = true
  | [] => by simp [bares]
  | x :: xs => by simp [bares, bares_iff xs]
def wholeB : D → Bool
  | .int _ => true
  | _ => false
def tupB : D → Int → Bool
  | .tup xs, k => decide ((xs.length : Int) = k)
  | _, _ => false
def fracB : D → Bool
  | .tup [.int a, .int b] => decide (1 ≤ b) && decide (((Nat.gcd a.natAbs b.natAbs : Nat) : Int) = 1)
  | _ => false
def pointB : D → Bool
  | .tup [a, b] => fracB a && fracB b
  | _ => false
def areB (p : D → Bool) : D → Bool
  | .lst xs => xs.all p
  | _ => false
section
variable {T : List MF} {wf n i w t f p l : Nat} {μ : Mem}
theorem is_whole_ok (hT : T[i]? = some B.is_whole) {d : D} (hb : bare d = true) : callN T wf (n + 1) i [d] μ = some (.bl (wholeB d), μ) := by
  refine run_ret hT rfl ?_
  cases d <;> first | (simp [bare] at hb; done) | (simp [B.is_whole, liveD, isT, wholeB])
theorem is_tuple_ok (hT : T[i]? = some B.is_tuple_of) {d : D} (k : Int) (hb : bare d = true) : callN T wf (n + 1) i [d, .int k] μ = some (.bl (tupB d k), μ) := by
  refine run_ret hT rfl ?_
  cases d <;> first | (simp [bare] at hb; done) | (simp [B.is_tuple_of, liveD, isT, tupB, lenD, eqD_int])
theorem fracB_len {xs : List D} (h : xs.length ≠ 2) : fracB (.tup xs) = false := by
  unfold fracB
  split
  · rename_i e
    cases e
    exact absurd rfl h
  · rfl
theorem pointB_len {xs : List D} (h : xs.length ≠ 2) : pointB (.tup xs) = false := by
  unfold pointB
  split
  · rename_i e
    cases e
    exact absurd rfl h
  · rfl
theorem is_frac_ok (hW : T[w]? = some B.is_whole) (hT : T[t]? = some B.is_tuple_of) (hF : T[i]? = some (B.is_fraction w t)) {d : D} (hb : bare d = true) : callN T wf (n + 2) i [d] μ = some (.bl (fracB d), μ) := by
  refine run_ret hF rfl ?_
  have e := is_tuple_ok (wf := wf) (n := n) (μ := μ) hT 2 hb
  have W := fun (d : D) (hb : bare d = true) => is_whole_ok (wf := wf) (n := n) (μ := μ) hW hb
  have no : tupB d 2 = false → fracB d = false → evSs (callN T wf (n + 1)) wf (B.is_fraction w t).body (List.map Sl.val [d] ++ List.replicate ((B.is_fraction w t).slots - (B.is_fraction w t).params) Sl.un) μ = some (Fl.rt (D.bl (fracB d)), μ) := fun h1 h2 => by
    simp [B.is_fraction, e, h1, h2]
  rcases d with _ | _ | _ | _ | xs | _ | _ | _
  case tup =>
    match xs, e, hb, no with
    | [], e, _, no => exact no rfl (fracB_len (by simp))
    | [_], e, _, no => exact no rfl (fracB_len (by simp))
    | _ :: _ :: _ :: _, e, _, no => exact no (by simp [tupB]; omega) (fracB_len (by simp))
    | [a, b], e, hb, no =>
      simp only [bare, bares, Bool.and_eq_true, Bool.and_true] at hb
      have Wa := W a hb.1
      have Wb := W b hb.2
      have i0 : idxD μ (.tup [a, b]) (.int 0) = some a := rfl
      have i1 : idxD μ (.tup [a, b]) (.int 1) = some b := rfl
      have t2 : tupB (.tup [a, b]) 2 = true := rfl
      cases ha : wholeB a with
      | false =>
        have : fracB (.tup [a, b]) = false := by cases a <;> first | rfl | (simp [wholeB] at ha)
        simp [B.is_fraction, e, Wa, ha, i0, i1, t2, this]
      | true =>
        cases hb' : wholeB b with
        | false =>
          have : fracB (.tup [a, b]) = false := by cases b <;> first | (cases a <;> rfl) | (simp [wholeB] at hb')
          simp [B.is_fraction, e, Wa, ha, Wb, hb', i0, i1, t2, this]
        | true =>
          cases a <;> first | (simp [wholeB] at ha; done) | skip
          cases b <;> first | (simp [wholeB] at hb'; done) | skip
          rename_i x y
          have g : ∀ μ : Mem, biD μ .gcd [.int x, .int y] = some (.int (Nat.gcd x.natAbs y.natAbs : Nat)) := fun _ => rfl
          by_cases hy : y < 1
          · have : ¬ (1 ≤ y) := by omega
            simp [B.is_fraction, e, Wa, Wb, ha, hb', i0, i1, t2, hy, fracB, this]
          · have : 1 ≤ y := by omega
            simp [B.is_fraction, e, Wa, Wb, ha, hb', i0, i1, t2, hy, fracB, this, g, eqD_int]
  all_goals first | exact no rfl rfl | (simp [bare] at hb)
theorem is_point_ok (hW : T[w]? = some B.is_whole) (hT : T[t]? = some B.is_tuple_of) (hF : T[f]? = some (B.is_fraction w t)) (hP : T[i]? = some (B.is_point t f)) {d : D} (hb : bare d = true) : callN T wf (n + 3) i [d] μ = some (.bl (pointB d), μ) := by
  refine run_ret hP rfl ?_
  have e := is_tuple_ok (wf := wf) (n := n + 1) (μ := μ) hT 2 hb
  have no : tupB d 2 = false → pointB d = false → evSs (callN T wf (n + 2)) wf (B.is_point t f).body (List.map Sl.val [d] ++ List.replicate ((B.is_point t f).slots - (B.is_point t f).params) Sl.un) μ = some (Fl.rt (D.bl (pointB d)), μ) := fun h1 h2 => by
    simp [B.is_point, e, h1, h2]
  rcases d with _ | _ | _ | _ | xs | _ | _ | _
  case tup =>
    match xs, e, hb, no with
    | [], e, _, no => exact no rfl (pointB_len (by simp))
    | [_], e, _, no => exact no rfl (pointB_len (by simp))
    | _ :: _ :: _ :: _, e, _, no => exact no (by simp [tupB]; omega) (pointB_len (by simp))
    | [a, b], e, hb, no =>
      simp only [bare, bares, Bool.and_eq_true, Bool.and_true] at hb
      have Fa := is_frac_ok (wf := wf) (n := n) (μ := μ) hW hT hF hb.1
      have Fb := is_frac_ok (wf := wf) (n := n) (μ := μ) hW hT hF hb.2
      have i0 : idxD μ (.tup [a, b]) (.int 0) = some a := rfl
      have i1 : idxD μ (.tup [a, b]) (.int 1) = some b := rfl
      have t2 : tupB (.tup [a, b]) 2 = true := rfl
      cases ha : fracB a <;> simp [B.is_point, e, Fa, Fb, ha, i0, i1, t2, pointB]
  all_goals first | exact no rfl rfl | (simp [bare] at hb)
theorem fracB_dQ (q : Rat) : fracB (dQ q) = true := by
  have h1 := q.den_pos
  have h2 : Nat.gcd q.num.natAbs q.den = 1 := q.reduced
  simp only [fracB, dQ, Int.natAbs_natCast, h2]
  simp
  omega
theorem pointB_dP (p : Rat × Rat) : pointB (dP p) = true := by simp [pointB, dP, fracB_dQ]
theorem bare_dQ (q : Rat) : bare (dQ q) = true := rfl
theorem bare_dP (q : Rat × Rat) : bare (dP q) = true := rfl
theorem bares_map {α : Type} {g : α → D} (h : ∀ x, bare (g x) = true) (l : List α) : bares (l.map g) = true := by
  rw [bares_iff]
  intro d hd
  obtain ⟨x, _, rfl⟩ := List.mem_map.mp hd
  exact h x
/-- all of a list -/
theorem are_ok {pB : D → Bool} (hT : T[i]? = some (B.are p)) (hp : ∀ d, bare d = true → callN T wf n p [d] μ = some (.bl (pB d), μ)) {d : D} (hb : bare d = true) (hs : ∀ xs, d = .lst xs → xs.length ≤ sizeLine) : callN T wf (n + 1) i [d] μ = some (.bl (areB pB d), μ) := by
  refine run_ret hT rfl ?_
  cases d with
  | lst xs =>
    have hc := comp_map (C := callN T wf n) (tg := .nm 1) (elt := .call p [.var 1]) (own := [1]) (src := .seq (.var 0)) (env := [.val (.lst xs), .un]) (μ := μ) (μ1 := μ) (xs := xs) (lks := []) (g := fun d => .bl (pB d)) (by simp [evI_seq, itemsD, seqV, lockOf]) rfl
      (fun x hx => by
        have : bare x = true := (bares_iff xs).mp (by simpa [bare] using hb) x hx
        simp [bindG, wipeE, hp x this]) (hs xs rfl)
    have ha := bi_all (μ := μ) pB xs
    simp [B.are, liveD, isT, areB]
    rw [hc]
    simp [ha]
  | ref _ => simp [bare] at hb
  | _ => simp [B.are, liveD, isT, areB]
def aheadB (p q : Rat × Rat) : Bool := if p.1 = q.1 then decide (p.2 < q.2) else decide (p.1 < q.1)
def SmP (m : Nat) (p : Rat × Rat) : Prop := Sm m p.1 ∧ Sm m p.2
theorem ahead_ok (hL : T[l]? = some B.less) (hT : T[i]? = some (B.comes_ahead l)) {m : Nat} {p q : Rat × Rat} (hp : SmP m p) (hq : SmP m q) (hm : m < 3000) : callN T wf (n + 2) i [dP p, dP q] μ = some (.bl (aheadB p q), μ) := by
  refine run_ret hT rfl ?_
  have e1 := less_ok (wf := wf) (n := n) (μ := μ) hL hp.1 hq.1 (by omega)
  have e2 := less_ok (wf := wf) (n := n) (μ := μ) hL hp.2 hq.2 (by omega)
  unfold aheadB
  by_cases h : p.1 = q.1
  · rw [h] at e1
    simp [B.comes_ahead, idx_dP, eqD_dQ, h, e2]
  · simp [B.comes_ahead, idx_dP, eqD_dQ, h, e1]
theorem law_ahead_ok (hL : T[l]? = some B.less) (hT : T[i]? = some (B.law_ahead l)) {m : Nat} {p q : Rat × Rat} (hp : SmP m p) (hq : SmP m q) (hm : m < 3000) : callN T wf (n + 2) i [dP p, dP q] μ = some (.bl (aheadB p q), μ) := by
  refine run_ret hT rfl ?_
  have e1 := less_ok (wf := wf) (n := n) (μ := μ) hL hp.1 hq.1 (by omega)
  have e2 := less_ok (wf := wf) (n := n) (μ := μ) hL hp.2 hq.2 (by omega)
  unfold aheadB
  by_cases h : p.1 = q.1
  · have : decide (p.1 < q.1) = false := by rw [h]; simp [Rat.lt_irrefl]
    rw [this, ] at e1
    simp [B.law_ahead, idx_dP, eqD_dQ, h, e2]
    rw [h] at e1
    simp [e1, e2]
  · by_cases h2 : p.1 < q.1 <;> simp [B.law_ahead, idx_dP, eqD_dQ, h, e1, h2]
end
end DI
set_option Elab.async false
set_option linter.all false
set_option maxRecDepth 100000
set_option maxHeartbeats 4000000
/-! DL6: sets of points -/
namespace DI
open PySem PySem.Spec PyProof.Rows L2
abbrev Pt := Rat × Rat
/-! ### the order -/
theorem ahead_irrefl (p : Pt) : aheadB p p = false := by simp [aheadB, Rat.lt_irrefl]
theorem ahead_trans {p q r : Pt} (h1 : aheadB p q = true) (h2 : aheadB q r = true) : aheadB p r = true := by
  unfold aheadB at *
  split at h1 <;> split at h2 <;> rename_i e1 e2 <;> simp only [decide_eq_true_eq] at h1 h2
  · rw [if_pos (e1.trans e2)]
    simp only [decide_eq_true_eq]
    grind
  · rw [if_neg (by rw [e1]; exact e2)]
    simp only [decide_eq_true_eq]
    grind
  · rw [if_neg (by rw [← e2]; exact e1)]
    simp only [decide_eq_true_eq]
    grind
  · rw [if_neg (by grind)]
    simp only [decide_eq_true_eq]
    grind
theorem ahead_asymm {p q : Pt} (h : aheadB p q = true) : aheadB q p = false := by
  cases e : aheadB q p with
  | false => rfl
  | true => exact (Bool.false_ne_true ((ahead_irrefl p).symm.trans (ahead_trans h e))).elim
theorem ahead_total {p q : Pt} (h : aheadB p q = false) (n : p ≠ q) : aheadB q p = true := by
  unfold aheadB at *
  by_cases e : p.1 = q.1
  · rw [if_pos e] at h
    rw [if_pos e.symm]
    simp only [decide_eq_false_iff_not, decide_eq_true_eq] at *
    have : p.2 ≠ q.2 := fun z => n (Prod.ext e z)
    grind
  · rw [if_neg e] at h
    rw [if_neg (fun z => e z.symm)]
    simp only [decide_eq_false_iff_not, decide_eq_true_eq] at *
    grind
/-! ### laid into its place -/
def Srt (l : List Pt) : Prop := l.Pairwise fun p q => aheadB p q = true
def insP (f : List Pt) (p : Pt) : List Pt := if p ∈ f then f else f.take (f.filter (aheadB · p)).length ++ [p] ++ f.drop (f.filter (aheadB · p)).length
theorem srt_cut {α : Type} {R : α → α → Prop} (g : α → Bool) : ∀ l : List α, l.Pairwise R → (∀ a b, R a b → g b = true → g a = true) → l.filter g = l.take (l.filter g).length ∧ (l.filter fun x => !g x) = l.drop (l.filter g).length
  | [], _, _ => ⟨rfl, rfl⟩
  | x :: l, h, k => by
    have ih := srt_cut g l (List.pairwise_cons.mp h).2 k
    cases e : g x with
    | true =>
      simp only [List.filter_cons, e, if_true, List.length_cons, List.take_succ_cons, List.drop_succ_cons, Bool.not_true, Bool.false_eq_true, if_false]
      exact ⟨congrArg _ ih.1, ih.2⟩
    | false =>
      have all : ∀ y, y ∈ l → g y = false := fun y hy => by
        cases e2 : g y with
        | false => rfl
        | true =>
          have := k x y ((List.pairwise_cons.mp h).1 y hy) e2
          rw [e] at this
          cases this
      have e3 : l.filter g = [] := List.filter_eq_nil_iff.mpr fun y hy => by rw [all y hy]; decide
      have e4 : (l.filter fun x => !g x) = l := List.filter_eq_self.mpr fun y hy => by rw [all y hy]; rfl
      simp only [List.filter_cons, e, Bool.false_eq_true, if_false, e3, List.length_nil, List.take_zero, List.drop_zero, Bool.not_false, if_true, e4]
      refine ⟨?_, ?_⟩ <;> first | trivial | rfl
theorem insP_eq {f : List Pt} {p : Pt} (h : Srt f) (hp : p ∉ f) : insP f p = f.filter (aheadB · p) ++ [p] ++ f.filter (fun x => !aheadB x p) := by
  obtain ⟨h1, h2⟩ := srt_cut (aheadB · p) f h fun a b hab hb => ahead_trans hab hb
  unfold insP
  rw [if_neg hp, ← h2, ← h1]
theorem insP_srt {f : List Pt} {p : Pt} (h : Srt f) : Srt (insP f p) := by
  by_cases hp : p ∈ f
  · unfold insP
    rw [if_pos hp]
    exact h
  · rw [insP_eq h hp]
    unfold Srt
    rw [List.append_assoc, List.pairwise_append]
    refine ⟨h.filter _, ?_, fun a ha b hb => ?_⟩
    · rw [List.singleton_append, List.pairwise_cons]
      refine ⟨fun b hb => ?_, h.filter _⟩
      obtain ⟨b1, b2⟩ := List.mem_filter.mp hb
      exact ahead_total (by simpa using b2) fun e => hp (e ▸ b1)
    · obtain ⟨a1, a2⟩ := List.mem_filter.mp ha
      rcases List.mem_append.mp hb with hb | hb
      · rw [List.mem_singleton.mp hb]
        exact a2
      · obtain ⟨b1, b2⟩ := List.mem_filter.mp hb
        have := ahead_total (p := b) (q := p) (by simpa using b2) fun e => hp (e ▸ b1)
        exact ahead_trans a2 this
theorem insP_mem {f : List Pt} {p x : Pt} : x ∈ insP f p ↔ x = p ∨ x ∈ f := by
  unfold insP
  split
  · rename_i h
    exact ⟨.inr, fun h' => h'.elim (fun e => e ▸ h) id⟩
  · rw [List.mem_append, List.mem_append, List.mem_singleton]
    have := List.take_append_drop (f.filter (aheadB · p)).length f
    constructor
    · rintro ((h | h) | h)
      · exact .inr (List.mem_of_mem_take h)
      · exact .inl h
      · exact .inr (List.mem_of_mem_drop h)
    · rintro (h | h)
      · exact .inl (.inr h)
      · rw [← this, List.mem_append] at h
        exact h.elim (fun h => .inl (.inl h)) .inr
theorem insP_len {f : List Pt} {p : Pt} : (insP f p).length ≤ f.length + 1 := by
  unfold insP
  split
  · omega
  · simp only [List.length_append, List.length_take, List.length_drop, List.length_cons, List.length_nil]
    omega
def sortP (l : List Pt) : List Pt := l.foldl insP []
theorem fold_srt : ∀ (l f : List Pt), Srt f → Srt (l.foldl insP f)
  | [], _, h => h
  | p :: l, f, h => fold_srt l (insP f p) (insP_srt h)
theorem fold_mem {x : Pt} : ∀ (l f : List Pt), x ∈ l.foldl insP f ↔ x ∈ l ∨ x ∈ f
  | [], f => by simp
  | p :: l, f => by
    rw [List.foldl_cons, fold_mem l (insP f p), insP_mem, List.mem_cons]
    constructor
    · rintro (h | h | h)
      · exact .inl (.inr h)
      · exact .inl (.inl h)
      · exact .inr h
    · rintro ((h | h) | h)
      · exact .inr (.inl h)
      · exact .inl h
      · exact .inr (.inr h)
theorem sortP_srt (l : List Pt) : Srt (sortP l) := fold_srt l [] List.Pairwise.nil
theorem sortP_mem {l : List Pt} {x : Pt} : x ∈ sortP l ↔ x ∈ l := by
  unfold sortP
  rw [fold_mem]
  simp
/-- each ahead of the next -/
def chainB : List Pt → Bool
  | p :: q :: r => aheadB p q && chainB (q :: r)
  | _ => true
theorem chain_srt : ∀ l : List Pt, chainB l = true ↔ Srt l
  | [] => ⟨fun _ => List.Pairwise.nil, fun _ => rfl⟩
  | [p] => ⟨fun _ => List.pairwise_singleton _ _, fun _ => rfl⟩
  | p :: q :: r => by
    have ih := chain_srt (q :: r)
    unfold chainB
    rw [Bool.and_eq_true, ih]
    constructor
    · rintro ⟨h1, h2⟩
      refine List.pairwise_cons.mpr ⟨fun b hb => ?_, h2⟩
      rcases List.mem_cons.mp hb with rfl | hb
      · exact h1
      · exact ahead_trans h1 ((List.pairwise_cons.mp h2).1 b hb)
    · intro h
      exact ⟨(List.pairwise_cons.mp h).1 q List.mem_cons_self, (List.pairwise_cons.mp h).2⟩
theorem chain_zip : ∀ l : List Pt, ((l.zip (l.drop 1)).all fun x => aheadB x.1 x.2) = chainB l
  | [] => rfl
  | [p] => rfl
  | p :: q :: r => by
    have ih := chain_zip (q :: r)
    simp only [List.drop_succ_cons, List.drop_zero, List.zip_cons_cons, List.all_cons, chainB] at ih ⊢
    rw [ih]
/-- sorted once: the same when sorted again -/
theorem sortP_id {l : List Pt} (h : Srt l) : sortP l = l := by
  have key : ∀ (m f : List Pt), Srt (f ++ m) → m.foldl insP f = f ++ m := by
    intro m
    induction m with
    | nil => intro f _; simp
    | cons p m ih =>
      intro f hs
      have hs1 : Srt f := (List.pairwise_append.mp hs).1
      have hf : ∀ x, x ∈ f → aheadB x p = true := fun x hx => (List.pairwise_append.mp hs).2.2 x hx p List.mem_cons_self
      have hp : p ∉ f := fun z => Bool.false_ne_true ((ahead_irrefl p).symm.trans (hf p z))
      have e : insP f p = f ++ [p] := by
        rw [insP_eq hs1 hp, List.filter_eq_self.mpr hf, List.filter_eq_nil_iff.mpr fun x hx => by rw [hf x hx]; decide, List.append_nil]
      rw [List.foldl_cons, e, ih (f ++ [p]) (by rw [List.append_assoc]; exact hs), List.append_assoc]
      rfl
  exact key l [] h
end DI
set_option Elab.async false
set_option linter.all false
set_option maxRecDepth 100000
set_option maxHeartbeats 4000000
/-! DL7: what the helpers on points reckon -/
namespace DI
open PySem PySem.Spec PyProof.Rows L2
theorem compGo_pureA {α : Type} {step : D → Mem → Option (Option D × Mem)} {ok : Mem → Bool} {μ : Mem} {e : α → D} {g : α → Option D} (hk : ok μ = true) : ∀ l : List α, (∀ a, a ∈ l → step (e a) μ = some (g a, μ)) → compGo step ok (l.map e) μ = some (l.filterMap g, μ)
  | [], _ => rfl
  | x :: xs, h => by
    have ih := compGo_pureA (step := step) (e := e) hk xs fun y hy => h y (List.mem_cons_of_mem _ hy)
    rw [List.map_cons]
    unfold compGo
    rw [h x List.mem_cons_self]
    simp only [Option.bind_some, hk, if_true, ih, Option.map_some]
    rw [List.filterMap_cons]
    cases g x <;> rfl
theorem comp_mapA {α : Type} {C : Call} {elt : ME} {tg : MG} {src : MI} {own : List Nat} {env : Ev} {μ μ1 : Mem} {l : List α} {lks : List Lk} {e g : α → D}
    (hI : evI C src env μ = some ((l.map e, lks), μ1)) (hl : lks.all (Lk.ok env μ1) = true)
    (h : ∀ a, a ∈ l → (bindG tg (e a) (wipeE env own)).bind (fun e1 => evE C elt e1 μ1) = some (g a, μ1))
    (hs : l.length ≤ sizeLine) : evE C (.comp elt tg src [] own) env μ = some (.lst (l.map g), μ1) := by
  rw [evE]
  simp only [hI, Option.bind_some, hl, if_true]
  rw [compGo_pureA (g := fun a => some (g a)) hl l fun a ha => ?_]
  · rw [List.filterMap_eq_map']
    have : (l.map g).length ≤ sizeLine := by rw [List.length_map]; exact hs
    simp only [Option.bind_some, this, if_true]
  · have q := h a ha
    obtain ⟨e1, q1, q2⟩ := Option.bind_eq_some_iff.mp q
    rw [q1]
    simp [q2]
theorem comp_selA {α : Type} {C : Call} {elt c : ME} {tg : MG} {src : MI} {own : List Nat} {env : Ev} {μ μ1 : Mem} {l : List α} {lks : List Lk} {e : α → D} {p : α → Bool}
    (hI : evI C src env μ = some ((l.map e, lks), μ1)) (hl : lks.all (Lk.ok env μ1) = true)
    (h : ∀ a, a ∈ l → ∃ e1, bindG tg (e a) (wipeE env own) = some e1 ∧ evE C c e1 μ1 = some (.bl (p a), μ1) ∧ evE C elt e1 μ1 = some (e a, μ1))
    (hs : l.length ≤ sizeLine) : evE C (.comp elt tg src [c] own) env μ = some (.lst ((l.filter p).map e), μ1) := by
  rw [evE]
  simp only [hI, Option.bind_some, hl, if_true]
  rw [compGo_pureA (g := fun a => if p a = true then some (e a) else none) hl l fun a ha => ?_]
  · have e1 : ∀ l : List α, (l.filterMap fun a => if p a = true then some (e a) else none) = (l.filter p).map e := fun l => by
      induction l with
      | nil => rfl
      | cons x l ih =>
        rw [List.filterMap_cons, List.filter_cons, ih]
        cases p x <;> rfl
    rw [e1]
    have : ((l.filter p).map e).length ≤ sizeLine := by
      rw [List.length_map]
      exact Nat.le_trans (List.length_filter_le _ _) hs
    simp only [Option.bind_some, this, if_true]
  · obtain ⟨e1, q1, q2, q3⟩ := h a ha
    rw [q1]
    cases hp : p a <;> simp [q2, q3, truthD, hp]
theorem zipD_map {α β : Type} (f : α → D) (g : β → D) : ∀ (l : List α) (m : List β), zipD (l.map f) (m.map g) = (l.zip m).map fun x => .tup [f x.1, g x.2]
  | [], _ => rfl
  | _ :: _, [] => rfl
  | x :: l, y :: m => by
    rw [List.map_cons, List.map_cons, List.zip_cons_cons, List.map_cons, ← zipD_map f g l m]
    rfl
theorem cut_from {α : Type} (xs : List α) (k : Nat) : cutD xs (some (k : Int)) none = xs.drop k := by
  unfold cutD
  rw [show HT.sIx xs.length 0 (some (k : Int)) = min k xs.length from HT.sIx_nat xs.length 0 k, HT.sIx_none]
  by_cases h : k ≤ xs.length
  · rw [Nat.min_eq_left h, List.take_of_length_le (by rw [List.length_drop]; exact Nat.le_refl _)]
  · rw [Nat.min_eq_right (by omega), Nat.sub_self, List.take_zero, List.drop_eq_nil_of_le (by omega)]
theorem cut_to {α : Type} (xs : List α) (k : Nat) : cutD xs none (some (k : Int)) = xs.take k := by
  unfold cutD
  rw [HT.sIx_none, show HT.sIx xs.length xs.length (some (k : Int)) = min k xs.length from HT.sIx_nat xs.length _ k, List.drop_zero, Nat.sub_zero]
  by_cases h : k ≤ xs.length
  · rw [Nat.min_eq_left h]
  · rw [Nat.min_eq_right (by omega), List.take_of_length_le (Nat.le_refl _), List.take_of_length_le (by omega)]
@[simp] theorem bi_allA {α : Type} {μ : Mem} (p : α → Bool) (l : List α) : biD μ .all [.lst (l.map fun x => .bl (p x))] = some (.bl (l.all p)) := bi_all p l
@[simp] theorem len_lst {μ : Mem} {α : Type} (g : α → D) (l : List α) : lenD μ (.lst (l.map g)) = some l.length := by simp [lenD, seqV]
theorem add_lst {μ : Mem} (xs ys : List D) (h : xs.length + ys.length ≤ sizeLine) : opD μ .add (.lst xs) (.lst ys) = some (.lst (xs ++ ys)) := by
  have : opD μ .add (.lst xs) (.lst ys) = mkL (xs ++ ys) := rfl
  rw [this]
  unfold mkL
  rw [if_pos (by rw [List.length_append]; exact h)]
@[simp] theorem cmp_in {μ : Mem} (a b : D) : cmpD μ .inn a b = inD μ a b := rfl
@[simp] theorem cmp_nin {μ : Mem} (a b : D) : cmpD μ .nin a b = (inD μ a b).map (!·) := rfl
namespace B
def is_set (a c : Nat) : MF := { params := 1, slots := 3, fresh := false, body := [
  .ret (.and (.call a [.var 0]) (.bi .all [.comp (.call c [.var 1, .var 2]) (.tp [.nm 1, .nm 2]) (.zip (.var 0) (.slc (.var 0) (some (.int 1)) none)) [] [1, 2]]))] }
def sorted_there (c : Nat) : MF := { params := 1, slots := 5, fresh := true, body := [
  .own 1 (.lst []),
  .for (.nm 2) (.seq (.var 0)) [
    .iff (.cmp .nin (.var 2) (.ovar 1)) [
      .asg (.nm 3) (.bi .len [.comp (.var 4) (.nm 4) (.seq (.ovar 1)) [.call c [.var 4, .var 2]] [4]]),
      .own 1 (.op .add (.op .add (.slc (.ovar 1) none (some (.var 3))) (.lst [.var 2])) (.slc (.ovar 1) (some (.var 3)) none))] []],
  .reto 1] }
def sorted_points (a s : Nat) : MF := { params := 1, slots := 1, fresh := true, body := [
  .iff (.not (.call a [.var 0])) [
    .raise] [],
  .ret (.call s [.var 0])] }
def turn (mi ti : Nat) : MF := { params := 3, slots := 4, fresh := false, body := [
  .asg (.nm 3) (.call ti [.call mi [.idx (.var 1) (.int 0), .idx (.var 0) (.int 0)], .call mi [.idx (.var 2) (.int 1), .idx (.var 0) (.int 1)]]),
  .ret (.call mi [.var 3, .call ti [.call mi [.idx (.var 1) (.int 1), .idx (.var 0) (.int 1)], .call mi [.idx (.var 2) (.int 0), .idx (.var 0) (.int 0)]]])] }
def sign_of : MF := { params := 1, slots := 1, fresh := false, body := [
  .ret (.op .sub (.cmp .gt (.idx (.var 0) (.int 0)) (.int 0)) (.cmp .lt (.idx (.var 0) (.int 0)) (.int 0)))] }
def law_sign : MF := { params := 1, slots := 1, fresh := false, body := [
  .ret (.ite (.cmp .gt (.idx (.var 0) (.int 0)) (.int 0)) (.int 1) (.ite (.cmp .lt (.idx (.var 0) (.int 0)) (.int 0)) (.neg (.int 1)) (.int 0)))] }
def turn_of (ch tt : Nat) : MF := { params := 3, slots := 4, fresh := false, body := [
  .for (.nm 3) (.seq (.tup [.var 0, .var 1, .var 2])) [
    .expr (.call ch [.var 3])],
  .ret (.call tt [.var 0, .var 1, .var 2])] }
def order_of (s t : Nat) : MF := { params := 3, slots := 3, fresh := false, body := [
  .ret (.call s [.call t [.var 0, .var 1, .var 2]])] }
def law_mid (pl mi ti : Nat) : MF := { params := 3, slots := 4, fresh := false, body := [
  .ret (.bi .tuple [.comp (.call pl [.idx (.var 0) (.var 3), .call ti [.var 2, .call mi [.idx (.var 1) (.var 3), .idx (.var 0) (.var 3)]]]) (.nm 3) (.rng [.int 2]) [] [3]])] }
end B
section
variable {T : List MF} {wf n i a c s m : Nat} {μ : Mem}
/-- c tells which of two points comes ahead -/
def AheadOk (T : List MF) (wf n m c : Nat) : Prop := ∀ (μ : Mem) (p q : Pt), SmP m p → SmP m q → callN T wf n c [dP p, dP q] μ = some (.bl (aheadB p q), μ)
theorem is_set_ok (hT : T[i]? = some (B.is_set a c)) (hA : ∀ (μ : Mem) (d : D), bare d = true → (∀ xs, d = .lst xs → xs.length ≤ sizeLine) → callN T wf n a [d] μ = some (.bl (areB pointB d), μ)) (hC : AheadOk T wf n m c)
    {l : List Pt} (hl : ∀ p, p ∈ l → SmP m p) (hs : l.length ≤ sizeLine) : callN T wf (n + 1) i [.lst (l.map dP)] μ = some (.bl (chainB l), μ) := by
  refine run_ret hT rfl ?_
  have b : bare (.lst (l.map dP)) = true := by simpa only [bare] using bares_map bare_dP l
  have eA := hA μ (.lst (l.map dP)) b (fun xs e => by cases e; rw [List.length_map]; exact hs)
  have tA : areB pointB (.lst (l.map dP)) = true := by simp [areB, List.all_map, Function.comp_def, pointB_dP]
  have cu : cutD (l.map dP) (some 1) none = l.tail.map dP := by rw [show (1 : Int) = ((1 : Nat) : Int) from rfl, cut_from, ← List.map_drop, List.drop_one]
  have hc := comp_mapA (C := callN T wf n) (tg := .tp [.nm 1, .nm 2]) (elt := .call c [.var 1, .var 2]) (own := [1, 2]) (src := .zip (.var 0) (.slc (.var 0) (some (.int 1)) none)) (env := [.val (.lst (l.map dP)), .un, .un]) (μ := μ) (μ1 := μ) (l := l.zip l.tail) (lks := []) (e := fun x => .tup [dP x.1, dP x.2]) (g := fun x => .bl (aheadB x.1 x.2))
    (by simp [evI_zip, seqV, slcD, cu, zipD_map, lockOf, -List.map_tail]) rfl
    (fun x hx => by
      obtain ⟨x1, x2⟩ := x
      have := hC μ x1 x2 (hl _ (List.of_mem_zip hx).1) (hl _ (List.mem_of_mem_tail (List.of_mem_zip hx).2))
      simp [bindG, bindGs, wipeE, this]) (by rw [List.length_zip]; omega)
  simp [B.is_set, eA, tA]
  rw [hc]
  have := chain_zip l
  rw [List.drop_one] at this
  simp [this]
theorem is_set_no (hT : T[i]? = some (B.is_set a c)) (hA : ∀ (μ : Mem) (d : D), bare d = true → (∀ xs, d = .lst xs → xs.length ≤ sizeLine) → callN T wf n a [d] μ = some (.bl (areB pointB d), μ)) {d : D} (hb : bare d = true) (hs : ∀ xs, d = .lst xs → xs.length ≤ sizeLine)
    (h : areB pointB d = false) : callN T wf (n + 1) i [d] μ = some (.bl false, μ) := by
  refine run_ret hT rfl ?_
  have eA := hA μ d hb hs
  simp [B.is_set, eA, h]
theorem filter_small {l : List Pt} {g : Pt → Bool} : ((l.filter g).length) ≤ l.length := List.length_filter_le _ _
theorem sorted_there_ok (hT : T[i]? = some (B.sorted_there c)) (hC : AheadOk T wf n m c) {l : List Pt} (hl : ∀ p, p ∈ l → SmP m p) (hs : l.length ≤ 1000) : callN T wf (n + 1) i [.lst (l.map dP)] μ = some (.lst ((sortP l).map dP), μ) := by
  refine run_ret hT rfl ?_
  obtain ⟨env', μ', hf, f, rest, v2, v3, v4, he, hr, hall, hfl, hmu⟩ := for_run (C := callN T wf n) (wf := wf) (tg := .nm 2) (body := [
    .iff (.cmp .nin (.var 2) (.ovar 1)) [
      .asg (.nm 3) (.bi .len [.comp (.var 4) (.nm 4) (.seq (.ovar 1)) [.call c [.var 4, .var 2]] [4]]),
      .own 1 (.op .add (.op .add (.slc (.ovar 1) none (some (.var 3))) (.lst [.var 2])) (.slc (.ovar 1) (some (.var 3)) none))] []]) (src := .seq (.var 0))
    (env := [.val (.lst (l.map dP)), .own [], .un, .un, .un]) (μ := μ) (μ1 := μ) (xs := l.map dP) (lks := [])
    (P := fun r e ν => ∃ (f rest : List Pt) (v2 v3 v4 : Sl), e = [.val (.lst (l.map dP)), .own (f.map dP), v2, v3, v4] ∧ r = rest.map dP ∧ rest.foldl insP f = sortP l ∧ ((∀ p, p ∈ f → SmP m p) ∧ (∀ p, p ∈ rest → SmP m p) ∧ f.length + rest.length ≤ 1000) ∧ ν = μ)
    (by simp [evI_seq, itemsD, seqV, lockOf]) rfl (fun _ _ _ _ => rfl) (fun x r e ν q => by
      obtain ⟨f, rest, v2, v3, v4, he, hr, hall, ⟨s1, s2, s3⟩, hmu⟩ := q
      subst hmu he
      cases rest with
      | nil => simp at hr
      | cons p rest =>
        rw [List.map_cons] at hr
        obtain ⟨rfl, rfl⟩ := List.cons.inj hr
        rw [List.length_cons] at s3
        have sp : SmP m p := s2 p List.mem_cons_self
        have fin := inD_dP (μ := ν) p f
        refine ⟨_, [.val (.lst (l.map dP)), .own ((insP f p).map dP), .val (dP p), if p ∈ f then v3 else .val (.int (f.filter (aheadB · p)).length), v4], ν, rfl, ?_, insP f p, rest, _, _, _, rfl, rfl, hall, ⟨fun x hx => ?_, fun x hx => s2 x (List.mem_cons_of_mem _ hx), ?_⟩, rfl⟩
        · by_cases hp : p ∈ f
          · have fe : insP f p = f := by unfold insP; rw [if_pos hp]
            simp [fin, hp, fe]
          · have hc := comp_selA (C := callN T wf n) (tg := .nm 4) (elt := .var 4) (c := .call c [.var 4, .var 2]) (own := [4]) (src := .seq (.ovar 1)) (env := [.val (.lst (l.map dP)), .own (f.map dP), .val (dP p), v3, v4]) (μ := ν) (μ1 := ν) (l := f) (lks := [.own 1 (f.map dP)]) (e := dP) (p := (aheadB · p))
              (by simp [evI_seq, itemsD, seqV, lockOf]) (by simp [Lk.ok, beqs_refl _ (flats_map flat_dP f)])
              (fun x hx => ⟨_, rfl, by simp [wipeE, hC ν x p (s1 x hx) sp], by simp [wipeE]⟩) (by unfold sizeLine; omega)
            have fl := filter_small (l := f) (g := (aheadB · p))
            have ad1 := add_lst (μ := ν) ((f.map dP).take (f.filter (aheadB · p)).length) [dP p] (by simp only [List.length_take, List.length_map, List.length_cons, List.length_nil]; unfold sizeLine; omega)
            have ad2 := add_lst (μ := ν) ((f.map dP).take (f.filter (aheadB · p)).length ++ [dP p]) ((f.map dP).drop (f.filter (aheadB · p)).length) (by simp only [List.length_append, List.length_take, List.length_drop, List.length_map, List.length_cons, List.length_nil]; unfold sizeLine; omega)
            have fe : (insP f p).map dP = (f.map dP).take (f.filter (aheadB · p)).length ++ [dP p] ++ (f.map dP).drop (f.filter (aheadB · p)).length := by unfold insP; rw [if_neg hp]; simp [List.map_take, List.map_drop]
            have sl : 1 ≤ sizeLine := by decide
            rw [fe]
            simp [fin, hp]
            rw [hc]
            simp [bindG, slcD, seqV, cut_to, cut_from, ad1, ad2, sl]
        · rcases insP_mem.mp hx with rfl | hx
          · exact sp
          · exact s1 x hx
        · have := insP_len (f := f) (p := p)
          omega) ⟨[], l, .un, .un, .un, rfl, rfl, rfl, ⟨(fun _ z => nomatch z), hl, by simpa using hs⟩, rfl⟩
  cases rest with
  | cons _ _ => simp at hr
  | nil =>
    rw [List.foldl_nil] at hall
    subst hmu hall
    have sl : (0 : Nat) ≤ sizeLine := Nat.zero_le _
    simp [B.sorted_there, hf, he]
end
end DI
set_option Elab.async false
set_option linter.all false
set_option maxRecDepth 100000
set_option maxHeartbeats 4000000
/-! DL8: turns, drawn points -/
namespace DI
open PySem PySem.Spec PyProof.Rows L2
namespace B
def law_number (d f : Nat) : MF := { params := 1, slots := 3, fresh := false, body := [
  .asg (.nm 1) (.call d [.var 0, .int 6]),
  .asg (.nm 2) (.ite (.cmp .eq (.var 1) (.int 0)) (.op .pow (.int 10) (.int 6)) (.ite (.cmp .lt (.var 1) (.int 4)) (.int 4) (.int 30))),
  .ret (.call f [.op .sub (.call d [.var 0, .op .add (.op .mul (.int 2) (.var 2)) (.int 1)]) (.var 2), .ite (.cmp .lt (.var 1) (.int 3)) (.int 1) (.op .add (.int 1) (.call d [.var 0, .int 6]))])] }
def law_point (k : Nat) : MF := { params := 1, slots := 1, fresh := false, body := [
  .ret (.tup [.call k [.var 0], .call k [.var 0]])] }
end B
def turnQ (a b c : Pt) : Rat := (b.1 - a.1) * (c.2 - a.2) - (b.2 - a.2) * (c.1 - a.1)
def sgQ (q : Rat) : Int := if 0 < q.num then 1 else if q.num < 0 then -1 else 0
section
variable {T : List MF} {wf n i m : Nat} {μ : Mem}
/-- two fractions to a third -/
def OpOk (T : List MF) (wf : Nat) (f : Rat → Rat → Rat) (i : Nat) : Prop := ∀ (n : Nat) (μ : Mem) (m k : Nat) (p q : Rat), Sm m p → Sm k q → m + k < 7990 → 2 ^ (m + k + 1) ≤ wf → callN T wf (n + 2) i [dQ p, dQ q] μ = some (dQ (f p q), μ)
theorem OpOk.plus {f : Nat} (hF : FracOk T wf f) (hT : T[i]? = some (B.plus f)) : OpOk T wf (· + ·) i := fun n μ m k p q hp hq h hw => plus_ok hF hT hp hq h hw
theorem OpOk.minus {f : Nat} (hF : FracOk T wf f) (hT : T[i]? = some (B.minus f)) : OpOk T wf (· - ·) i := fun n μ m k p q hp hq h hw => minus_ok hF hT hp hq h hw
theorem OpOk.times {f : Nat} (hF : FracOk T wf f) (hT : T[i]? = some (B.times f)) : OpOk T wf (· * ·) i := fun n μ m k p q hp hq h hw => times_ok hF hT hp hq h hw
theorem pow_le {a b w : Nat} (h : 2 ^ b ≤ w) (l : a ≤ b) : 2 ^ a ≤ w := Nat.le_trans (Nat.pow_le_pow_right (by decide) l) h
theorem turn_ok {mi ti : Nat} (hM : OpOk T wf (· - ·) mi) (hX : OpOk T wf (· * ·) ti) (hT : T[i]? = some (B.turn mi ti)) {a b c : Pt} (ha : SmP m a) (hb : SmP m b) (hc : SmP m c) (hm : m < 900) (hw : 2 ^ (8 * m + 10) ≤ wf) :
    callN T wf (n + 3) i [dP a, dP b, dP c] μ = some (dQ (turnQ a b c), μ) ∧ Sm (8 * m + 7) (turnQ a b c) := by
  have s1 := hb.1.sub ha.1
  have s2 := hc.2.sub ha.2
  have s3 := hb.2.sub ha.2
  have s4 := hc.1.sub ha.1
  have s5 := s1.mul s2 (by omega)
  have s6 := s3.mul s4 (by omega)
  have s7 := s5.sub s6
  refine ⟨?_, s7.mono (by omega)⟩
  have e1 := hM n μ m m b.1 a.1 hb.1 ha.1 (by omega) (pow_le hw (by omega))
  have e2 := hM n μ m m c.2 a.2 hc.2 ha.2 (by omega) (pow_le hw (by omega))
  have e3 := hM n μ m m b.2 a.2 hb.2 ha.2 (by omega) (pow_le hw (by omega))
  have e4 := hM n μ m m c.1 a.1 hc.1 ha.1 (by omega) (pow_le hw (by omega))
  have e5 := hX n μ _ _ _ _ s1 s2 (by omega) (pow_le hw (by omega))
  have e6 := hX n μ _ _ _ _ s3 s4 (by omega) (pow_le hw (by omega))
  have e7 := hM n μ _ _ _ _ s5 s6 (by omega) (pow_le hw (by omega))
  refine run_ret hT rfl ?_
  simp [B.turn, idx_dP, e1, e2, e3, e4, e5, e6, e7, bindG, turnQ]
theorem sign_of_ok (hT : T[i]? = some B.sign_of) (q : Rat) : callN T wf (n + 1) i [dQ q] μ = some (.int (sgQ q), μ) := by
  refine run_ret hT rfl ?_
  have ob : ∀ a b : Bool, opD μ .sub (.bl a) (.bl b) = some (.int (b2i a - b2i b)) := fun _ _ => rfl
  unfold sgQ
  by_cases h1 : 0 < q.num
  · have h2 : ¬ q.num < 0 := by omega
    simp [B.sign_of, idx_dQ, h1, h2, ob, b2i]
  · by_cases h2 : q.num < 0 <;> simp [B.sign_of, idx_dQ, h1, h2, ob, b2i]
theorem law_sign_ok (hT : T[i]? = some B.law_sign) (q : Rat) : callN T wf (n + 1) i [dQ q] μ = some (.int (sgQ q), μ) := by
  refine run_ret hT rfl ?_
  unfold sgQ
  by_cases h1 : 0 < q.num
  · simp [B.law_sign, idx_dQ, h1]
  · by_cases h2 : q.num < 0 <;> simp [B.law_sign, idx_dQ, h1, h2]
theorem check_ok {p : Nat} {pB : D → Bool} (hT : T[i]? = some (B.check p)) {d : D} (hp : callN T wf n p [d] μ = some (.bl (pB d), μ)) (h : pB d = true) : callN T wf (n + 1) i [d] μ = some (.non, μ) := by
  refine run_nx (env := [.val d]) hT rfl ?_
  simp [B.check, hp, h]
theorem turn_of_ok {ch tt : Nat} (hT : T[i]? = some (B.turn_of ch tt)) {a b c : Pt} {r : D} (hC : ∀ p : Pt, callN T wf n ch [dP p] μ = some (.non, μ)) (hR : callN T wf n tt [dP a, dP b, dP c] μ = some (r, μ)) : callN T wf (n + 1) i [dP a, dP b, dP c] μ = some (r, μ) := by
  refine run_ret hT rfl ?_
  obtain ⟨env', μ', hf, v, rest, he, hr, hmu⟩ := for_run (C := callN T wf n) (wf := wf) (tg := .nm 3) (body := [.expr (.call ch [.var 3])]) (src := .seq (.tup [.var 0, .var 1, .var 2])) (env := [.val (dP a), .val (dP b), .val (dP c), .un]) (μ := μ) (μ1 := μ) (xs := [a, b, c].map dP) (lks := [])
    (P := fun r e ν => ∃ (v : Sl) (rest : List Pt), e = [.val (dP a), .val (dP b), .val (dP c), v] ∧ r = rest.map dP ∧ ν = μ)
    (by simp [evI_seq, itemsD, lockOf, sizeLine]) rfl (fun _ _ _ _ => rfl) (fun x r e ν q => by
      obtain ⟨v, rest, he, hr, hmu⟩ := q
      subst hmu he
      cases rest with
      | nil => simp at hr
      | cons p rest =>
        rw [List.map_cons] at hr
        obtain ⟨rfl, rfl⟩ := List.cons.inj hr
        exact ⟨_, [.val (dP a), .val (dP b), .val (dP c), .val (dP p)], _, rfl, by simp [hC p], .val (dP p), rest, rfl, rfl, rfl⟩) ⟨.un, [a, b, c], rfl, rfl, rfl⟩
  subst hmu
  simp [B.turn_of, hf, he, hR]
theorem order_of_ok {s t : Nat} (hT : T[i]? = some (B.order_of s t)) (hS : ∀ q : Rat, callN T wf n s [dQ q] μ = some (.int (sgQ q), μ)) {a b c : Pt} {q : Rat} (hR : callN T wf n t [dP a, dP b, dP c] μ = some (dQ q, μ)) : callN T wf (n + 1) i [dP a, dP b, dP c] μ = some (.int (sgQ q), μ) := by
  refine run_ret hT rfl ?_
  simp [B.order_of, hR, hS q]
theorem sorted_points_ok {a s : Nat} (hT : T[i]? = some (B.sorted_points a s)) {l : List Pt} {r : D} (hA : callN T wf n a [.lst (l.map dP)] μ = some (.bl true, μ)) (hS : callN T wf n s [.lst (l.map dP)] μ = some (r, μ)) : callN T wf (n + 1) i [.lst (l.map dP)] μ = some (r, μ) := by
  refine run_ret hT rfl ?_
  simp [B.sorted_points, hA, hS]
theorem ss_nx {C : Call} {s : MS} {ss : List MS} {env e : Ev} {μ1 : Mem} (h : evS C wf s env μ = some (.nx e, μ1)) : evSs C wf (s :: ss) env μ = evSs C wf ss e μ1 := by
  rw [evSs, h]
  rfl
theorem ss_rt {C : Call} {s : MS} {ss : List MS} {env : Ev} {d : D} {μ1 : Mem} (h : evS C wf s env μ = some (.rt d, μ1)) : evSs C wf (s :: ss) env μ = some (.rt d, μ1) := by
  rw [evSs, h]
  rfl
theorem ss_asg {C : Call} {j : Nat} {x : ME} {ss : List MS} {env : Ev} {d : D} {μ1 : Mem} (h : evE C x env μ = some (d, μ1)) : evSs C wf (.asg (.nm j) x :: ss) env μ = evSs C wf ss (env.set j (.val d)) μ1 := ss_nx (by simp [h, bindG])
theorem ss_ret {C : Call} {x : ME} {ss : List MS} {env : Ev} {d : D} {μ1 : Mem} (h : evE C x env μ = some (d, μ1)) : evSs C wf (.ret x :: ss) env μ = some (.rt d, μ1) := ss_rt (by simp [h])
theorem ss_iff {C : Call} {x : ME} {a b ss : List MS} {env : Ev} {k : Bool} {μ1 : Mem} (h : evE C x env μ = some (.bl k, μ1)) : evSs C wf (.iff x a b :: ss) env μ = (evSs C wf (if k then a else b) env μ1).bind fun p => match p.1 with
    | .nx e => evSs C wf ss e p.2
    | f => some (f, p.2) := by
  rw [evSs]
  cases k <;> simp [h] <;> rfl
theorem ss_skip {C : Call} {x : ME} {a ss : List MS} {env : Ev} {μ1 : Mem} (h : evE C x env μ = some (.bl false, μ1)) : evSs C wf (.iff x a [] :: ss) env μ = evSs C wf ss env μ1 := by
  rw [ss_iff h]
  simp
/-! ### drawn -/
/-- d draws from a purse -/
def DrawOk (T : List MF) (wf n d : Nat) : Prop := ∀ (μ : Mem) (c b k : Nat), Pur μ c b → b < 2 ^ 190 → 0 < k → k < 2 ^ 200 → ∃ (r : Nat) (μ' : Mem), r < k ∧ callN T wf n d [.ref c, .int k] μ = some (.int r, μ') ∧ Pur μ' c (b + 10) ∧ Ot c μ μ'
theorem DrawOk.mk {m d : Nat} (hM : T[m]? = some B.mixed) (hD : T[d]? = some (B.draw m)) : DrawOk T wf (n + 2) d := fun μ c b k h hb hk hk2 => draw_ok hM hD h hb hk hk2
theorem pow6 : opI .pow 10 6 = some 1000000 := by decide +kernel
theorem number_ok {d f : Nat} (hD : DrawOk T wf (n + 1) d) (hF : FracOk T wf f) (hT : T[i]? = some (B.law_number d f)) (hw : 2 ^ 30 ≤ wf) {c b : Nat} (h : Pur μ c b) (hb : b + 30 < 2 ^ 190) :
    ∃ (q : Rat) (μ' : Mem), callN T wf (n + 2) i [.ref c] μ = some (dQ q, μ') ∧ Sm 30 q ∧ Pur μ' c (b + 30) ∧ Ot c μ μ' := by
  obtain ⟨w, μ1, lw, e1, h1, o1⟩ := hD μ c b 6 h (by omega) (by decide) (by decide)
  obtain ⟨k, hk, lk⟩ : ∃ k : Nat, (if w = 0 then (1000000 : Int) else if w < 4 then 4 else 30) = k ∧ k ≤ 1000000 := by
    refine ⟨if w = 0 then 1000000 else if w < 4 then 4 else 30, ?_, ?_⟩
    · split
      · rfl
      · split <;> rfl
    · split
      · omega
      · split <;> omega
  obtain ⟨x, μ2, lx, e2, h2, o2⟩ := hD μ1 c (b + 10) (2 * k + 1) h1 (by omega) (by omega) (Nat.lt_of_le_of_lt (show 2 * k + 1 ≤ 2000001 by omega) (by decide))
  have e2' : callN T wf (n + 1) d [.ref c, .int (2 * (k : Int) + 1)] μ1 = some (.int x, μ2) := e2
  have ev : evE (callN T wf (n + 1)) (.ite (.cmp .eq (.var 1) (.int 0)) (.op .pow (.int 10) (.int 6)) (.ite (.cmp .lt (.var 1) (.int 4)) (.int 4) (.int 30))) [.val (.ref c), .val (.int w), .un] μ1 = some (.int k, μ1) := by
    rw [← hk]
    by_cases h0 : w = 0
    · simp [eqD_int, h0, pow6]
    · have h0' : ¬ ((w : Int) = 0) := by omega
      by_cases h4 : w < 4
      · have : (w : Int) < 4 := by omega
        simp [eqD_int, h0, h4, this]
      · have : ¬ (w : Int) < 4 := by omega
        simp [eqD_int, h0, h4, this]
  have em := opI_mul (i := 2) (j := (k : Int)) (n := 2) (m := 30) (by decide) (by omega) (by decide)
  have la : ((x : Int) - k).natAbs < 2 ^ 30 := by omega
  by_cases h3 : w < 3
  · have h3' : (w : Int) < 3 := by omega
    have e3 := hF n μ2 ((x : Int) - k) 1 30 (by decide) la (by decide) (by decide) hw
    refine ⟨_, μ2, run_ret hT rfl ?_, sm_divInt la (b := 1) (by decide) (by decide), h2.mono (by omega), o1.trans o2⟩
    refine (ss_asg (d := .int w) (μ1 := μ1) (by simpa using e1)).trans ((ss_asg ev).trans (ss_ret ?_))
    simp [em, e2', h3', e3]
  · have h3' : ¬ (w : Int) < 3 := by omega
    obtain ⟨y, μ3, ly, e4, h4, o3⟩ := hD μ2 c (b + 20) 6 h2 (by omega) (by decide) (by decide)
    have e4' : callN T wf (n + 1) d [.ref c, .int 6] μ2 = some (.int y, μ3) := e4
    have e1' : callN T wf (n + 1) d [.ref c, .int 6] μ = some (.int w, μ1) := e1
    have e3 := hF n μ3 ((x : Int) - k) (1 + y) 30 (by omega) la (by omega) (by decide) hw
    refine ⟨_, μ3, run_ret hT rfl ?_, sm_divInt la (b := 1 + y) (by omega) (by decide), h4.mono (by omega), (o1.trans o2).trans o3⟩
    refine (ss_asg (d := .int w) (μ1 := μ1) (by simpa using e1')).trans ((ss_asg ev).trans (ss_ret ?_))
    simp [em, e2', h3', e4', e3]
theorem point_ok {k : Nat} (hN : ∀ (μ : Mem) (c b : Nat), Pur μ c b → b + 30 < 2 ^ 190 → ∃ (q : Rat) (μ' : Mem), callN T wf n k [.ref c] μ = some (dQ q, μ') ∧ Sm 30 q ∧ Pur μ' c (b + 30) ∧ Ot c μ μ') (hT : T[i]? = some (B.law_point k)) {c b : Nat} (h : Pur μ c b) (hb : b + 60 < 2 ^ 190) :
    ∃ (p : Pt) (μ' : Mem), callN T wf (n + 1) i [.ref c] μ = some (dP p, μ') ∧ SmP 30 p ∧ Pur μ' c (b + 60) ∧ Ot c μ μ' := by
  obtain ⟨q1, μ1, e1, s1, h1, o1⟩ := hN μ c b h (by omega)
  obtain ⟨q2, μ2, e2, s2, h2, o2⟩ := hN μ1 c (b + 30) h1 (by omega)
  refine ⟨(q1, q2), μ2, run_ret hT rfl ?_, ⟨s1, s2⟩, h2, o1.trans o2⟩
  have sl : 2 ≤ sizeLine := by decide
  simp [B.law_point, e1, e2, sl, dP]
def midP (a b : Pt) (s : Rat) : Pt := (a.1 + s * (b.1 - a.1), a.2 + s * (b.2 - a.2))
theorem mid_ok {pl mi ti : Nat} (hP : OpOk T wf (· + ·) pl) (hM : OpOk T wf (· - ·) mi) (hX : OpOk T wf (· * ·) ti) (hT : T[i]? = some (B.law_mid pl mi ti)) {a b : Pt} {s : Rat} (ha : SmP m a) (hb : SmP m b) (hs : Sm m s) (hm : m < 900) (h1 : 1 ≤ m) (hw : 2 ^ (8 * m + 10) ≤ wf) :
    callN T wf (n + 3) i [dP a, dP b, dQ s] μ = some (dP (midP a b s), μ) ∧ SmP (4 * m + 2) (midP a b s) := by
  have s1 := hb.1.sub ha.1
  have s2 := hb.2.sub ha.2
  have s3 := hs.mul s1 h1
  have s4 := hs.mul s2 h1
  have s5 := ha.1.add s3
  have s6 := ha.2.add s4
  refine ⟨?_, s5.mono (by omega), s6.mono (by omega)⟩
  have e1 := fun μ => hM n μ m m b.1 a.1 hb.1 ha.1 (by omega) (pow_le hw (by omega))
  have e2 := fun μ => hM n μ m m b.2 a.2 hb.2 ha.2 (by omega) (pow_le hw (by omega))
  have e3 := fun μ => hX n μ _ _ _ _ hs s1 (by omega) (pow_le hw (by omega))
  have e4 := fun μ => hX n μ _ _ _ _ hs s2 (by omega) (pow_le hw (by omega))
  have e5 := fun μ => hP n μ _ _ _ _ ha.1 s3 (by omega) (pow_le hw (by omega))
  have e6 := fun μ => hP n μ _ _ _ _ ha.2 s4 (by omega) (pow_le hw (by omega))
  refine run_ret hT rfl ?_
  have hI : evI (callN T wf (n + 2)) (.rng [.int 2]) [.val (dP a), .val (dP b), .val (dQ s), .un] μ = some (([0, 1].map fun (i : Int) => D.int i, []), μ) := rng1 (j := 2) (by simp) (by decide)
  have hc := comp_mapA (C := callN T wf (n + 2)) (tg := .nm 3) (elt := .call pl [.idx (.var 0) (.var 3), .call ti [.var 2, .call mi [.idx (.var 1) (.var 3), .idx (.var 0) (.var 3)]]]) (own := [3]) (env := [.val (dP a), .val (dP b), .val (dQ s), .un]) (μ := μ) (l := [0, 1]) (lks := [])
    (g := fun i => if i = 0 then dQ (a.1 + s * (b.1 - a.1)) else dQ (a.2 + s * (b.2 - a.2))) hI rfl (fun x hx => by
      rcases List.mem_cons.mp hx with rfl | hx
      · simp [bindG, wipeE, idx_dP, e1, e3, e5]
      · rw [List.mem_singleton] at hx
        subst hx
        simp [bindG, wipeE, idx_dP, e2, e4, e6]) (by decide)
  refine ss_ret (env := [.val (dP a), .val (dP b), .val (dQ s), .un]) ?_
  simp only [evE_bi, evEs_e, evEs_nil, hc]
  rfl
end
end DI
set_option Elab.async false
set_option linter.all false
set_option maxRecDepth 100000
set_option maxHeartbeats 400000
/-! DL9: how points are shown -/
namespace DI
open PySem PySem.Spec PyProof.Rows L2
theorem ok_app {x y : Str} (h1 : PyData.strOk x = true) (h2 : PyData.strOk y = true) : PyData.strOk (x ++ y) = true := by
  unfold PyData.strOk at *
  show ((x.cps ++ y.cps).all _) = true
  rw [Array.all_append, h1, h2]
  rfl
theorem ok_of (s : String) : PyData.strOk (Str.ofString s) = true := by
  unfold PyData.strOk
  rw [Str.ofString_eq_toList]
  simp only [List.all_toArray, List.all_eq_true, List.all_map, Function.comp_def, decide_eq_true_eq]
  intro c _
  have := c.valid
  simp only [Char.toNat]
  rcases this with h | ⟨_, h⟩
  · omega
  · exact h
theorem ok_from : ∀ (ts : List Str) (k : Nat) (acc : Str), PyData.strOk acc = true → (∀ t, t ∈ ts → PyData.strOk t = true) → PyData.strOk (textFrom k acc ts) = true
  | [], _, _, h, _ => h
  | t :: ts, k, acc, h, hs => ok_from ts (k + 1) _ (ok_app (ok_app h (ok_of _)) (hs t List.mem_cons_self)) fun u hu => hs u (List.mem_cons_of_mem _ hu)
theorem ok_list {ts : List Str} (h : ∀ t, t ∈ ts → PyData.strOk t = true) : PyData.strOk (listText ts) = true := ok_app (ok_from ts 0 _ (ok_of _) h) (ok_of _)
theorem ok_join (sep : Str) (hs : PyData.strOk sep = true) : ∀ ts : List Str, (∀ t, t ∈ ts → PyData.strOk t = true) → PyData.strOk (Str.join sep ts) = true
  | [], _ => ok_of ""
  | [x], h => h x List.mem_cons_self
  | x :: y :: r, h => ok_app (ok_app (h x List.mem_cons_self) hs) (ok_join sep hs (y :: r) fun t ht => h t (List.mem_cons_of_mem _ ht))
theorem ok_tuple {ts : List Str} (h : ∀ t, t ∈ ts → PyData.strOk t = true) : PyData.strOk (tupleText ts) = true := ok_app (ok_app (ok_of _) (ok_join _ (ok_of _) ts h)) (ok_of _)
theorem ok_pQ (q : Rat) : PyData.strOk (pQ q).shown = true := by
  simp only [pQ, PyData.shown, PyData.shownAll]
  refine ok_tuple fun t ht => ?_
  simp only [List.mem_cons, List.not_mem_nil, or_false] at ht
  rcases ht with rfl | rfl <;> exact ok_of _
theorem ok_pP (q : Pt) : PyData.strOk (pP q).shown = true := by
  simp only [pP, PyData.shown, PyData.shownAll]
  refine ok_tuple fun t ht => ?_
  simp only [List.mem_cons, List.not_mem_nil, or_false] at ht
  rcases ht with rfl | rfl <;> exact ok_pQ _
theorem shownAll_map {α : Type} (g : α → PyData) : ∀ l : List α, PyData.shownAll (l.map g) = l.map fun x => (g x).shown
  | [] => rfl
  | x :: l => by simp only [List.map_cons, PyData.shownAll, shownAll_map g l]
theorem ok_pPs (l : List Pt) : PyData.strOk (PyData.list (l.map pP)).shown = true := by
  simp only [PyData.shown]
  rw [shownAll_map]
  refine ok_list fun t ht => ?_
  obtain ⟨p, _, rfl⟩ := List.mem_map.mp ht
  exact ok_pP p
/-! ### how long -/
theorem len_int {i : Int} {m : Nat} (h : i.natAbs < 2 ^ m) : (Str.ofString (toString i)).length ≤ m + 2 := by
  have e : (Str.ofString (toString i)).length = (toString i).length := by
    rw [Str.ofString_eq_toList]
    show (List.map Char.toNat (toString i).toList).toArray.size = _
    rw [List.size_toArray, List.length_map]
    exact String.length_toList
  rw [e]
  exact int_text_length_le (Nat.succ_pos m) (log2_lt h)
theorem len_pQ {q : Rat} {m : Nat} (h : Sm m q) : (pQ q).shown.length ≤ 2 * m + 11 := by
  have h1 := len_int h.1
  have h2 := len_int (i := (q.den : Int)) (m := m) (by simpa using h.2)
  have := tupleText_len_le [Str.ofString (toString q.num), Str.ofString (toString (q.den : Int))]
  simp only [List.map_cons, List.map_nil, List.sum_cons, List.sum_nil, List.length_cons, List.length_nil] at this
  show (tupleText [Str.ofString (toString q.num), Str.ofString (toString (q.den : Int))]).length ≤ _
  omega
theorem len_pP {p : Pt} {m : Nat} (h : SmP m p) : (pP p).shown.length ≤ 4 * m + 29 := by
  have h1 := len_pQ h.1
  have h2 := len_pQ h.2
  have := tupleText_len_le [(pQ p.1).shown, (pQ p.2).shown]
  simp only [List.map_cons, List.map_nil, List.sum_cons, List.sum_nil, List.length_cons, List.length_nil] at this
  show (tupleText [(pQ p.1).shown, (pQ p.2).shown]).length ≤ _
  omega
theorem sum_le {α : Type} {g : α → Nat} {b : Nat} : ∀ l : List α, (∀ x, x ∈ l → g x ≤ b) → (l.map g).sum ≤ b * l.length
  | [], _ => by simp
  | x :: l, h => by
    have := sum_le (g := g) l fun y hy => h y (List.mem_cons_of_mem _ hy)
    have := h x List.mem_cons_self
    rw [List.map_cons, List.sum_cons, List.length_cons, Nat.mul_add, Nat.mul_one]
    omega
theorem len_aux {a s n k m : Nat} (h1 : a ≤ s + 2 * n + 3) (h2 : s ≤ (4 * m + 29) * k) (h3 : n = k) : a ≤ (4 * m + 31) * k + 3 := by
  subst h3
  have e : (4 * m + 31) * n = (4 * m + 29) * n + 2 * n := by
    rw [← Nat.add_mul]
  omega
theorem len_pPs {l : List Pt} {m : Nat} (h : ∀ p, p ∈ l → SmP m p) : (PyData.list (l.map pP)).shown.length ≤ (4 * m + 31) * l.length + 3 := by
  have h2 := sum_le (g := fun x => (pP x).shown.length) (b := 4 * m + 29) l fun x hx => len_pP (h x hx)
  have key : PyData.shown (.list (l.map pP)) = listText (l.map fun x => (pP x).shown) := by rw [PyData.shown, shownAll_map]
  rw [key]
  exact len_aux (listText_len_le (l.map fun x => (pP x).shown)) (by rw [List.map_map]; simpa only [Function.comp_def] using h2) (by rw [List.length_map])
theorem show_pP {p : Pt} {m : Nat} (h : SmP m p) (hm : m < 1900) : (pP p).showable = true := by
  have k : ∀ {q : Rat}, Sm m q → (pQ q).showable = true := fun {q} hq => by
    have h1 := log2_lt hq.1
    have h2 := log2_lt hq.2
    simp only [pQ, PyData.showable, PyData.showableAll, Bool.and_eq_true, decide_eq_true_eq, Int.natAbs_natCast, and_true]
    omega
  simp only [pP, PyData.showable, PyData.showableAll, k h.1, k h.2, Bool.and_self]
theorem show_pPs {l : List Pt} {m : Nat} (h : ∀ p, p ∈ l → SmP m p) (hm : m < 1900) : (PyData.list (l.map pP)).showable = true := by
  simp only [PyData.showable]
  induction l with
  | nil => rfl
  | cons p l ih => simp only [List.map_cons, PyData.showableAll, show_pP (h p List.mem_cons_self) hm, ih fun x hx => h x (List.mem_cons_of_mem _ hx), Bool.and_self]
theorem repr_pts {μ : Mem} {l : List Pt} {m : Nat} (h : ∀ p, p ∈ l → SmP m p) (hm : m < 1900) (hl : (4 * m + 31) * l.length + 3 ≤ sizeLine) : biD μ .repr [.lst (l.map dP)] = some (.str (PyData.list (l.map pP)).shown) := by
  have e : toPy μ (.lst (l.map dP)) = some (.list (l.map pP)) := by simp [toPy, pyW, pyWs_map pyW_dP]
  have : biD μ .repr [.lst (l.map dP)] = ((toPy μ (.lst (l.map dP))).bind fun x => if SeqAt.shaped x && (x.showable && decide (x.shown.length ≤ sizeLine)) then some (.str x.shown) else none) := rfl
  rw [this, e]
  have hlen : (PyData.list (l.map pP)).shown.length ≤ sizeLine := Nat.le_trans (len_pPs h) hl
  simp only [Option.bind_some, shaped_pPs, show_pPs h hm, decide_eq_true hlen, Bool.and_self, if_true]
end DI
set_option Elab.async false
set_option linter.all false
set_option maxRecDepth 100000
set_option maxHeartbeats 400000
/-! DS1: sizes found by themselves -/
namespace DI
open PySem PySem.Spec PyProof.Rows L2
section
variable {i : Nat} {d : D} {env : Ev} {g : MG} {gs : List MG} {ds : List D}
@[simp] theorem bG_nm : bindG (.nm i) d env = some (env.set i (.val d)) := by rw [bindG]
@[simp] theorem bG_tup : bindG (.tp gs) (.tup ds) env = bindGs gs ds env := by rw [bindG]
@[simp] theorem bG_lst : bindG (.tp gs) (.lst ds) env = bindGs gs ds env := by rw [bindG]
@[simp] theorem bGs_nil : bindGs [] [] env = some env := by rw [bindGs]
@[simp] theorem bGs_cons : bindGs (g :: gs) (d :: ds) env = (bindG g d env).bind fun e => bindGs gs ds e := by rw [bindGs]
end
/-- a fraction of fewer than n bits above and below -/
class Sz (n : outParam Nat) (q : Rat) : Prop where
  h : Sm n q
/-- a whole number of at most n bits -/
class Sw (n : outParam Nat) (z : Int) : Prop where
  h : z.natAbs < 2 ^ n
class SzP (n : outParam Nat) (p : Rat × Rat) : Prop where
  h : SmP n p
theorem SmP.mono {n m : Nat} {p : Rat × Rat} (h : SmP n p) (l : n ≤ m) : SmP m p := ⟨h.1.mono l, h.2.mono l⟩
abbrev WF (wf : Nat) : Prop := ∀ k, k ≤ 8000 → 2 ^ k ≤ wf
theorem Sm.pos {n : Nat} {q : Rat} (h : Sm n q) : 1 ≤ n := by
  have h1 := h.2
  have h2 := q.den_pos
  cases n with
  | zero => simp at h1; omega
  | succ n => omega
theorem div_divInt {p q : Rat} (h : q ≠ 0) : Rat.divInt (p.num * q.den) (p.den * q.num) = p / q := by
  have e := Rat.num_divInt_den p
  rw [Rat.div_def, Rat.inv_def, show p * Rat.divInt q.den q.num = Rat.divInt p.num p.den * Rat.divInt q.den q.num by rw [e], Rat.divInt_mul_divInt]
theorem Sm.div {n m : Nat} {p q : Rat} (hp : Sm n p) (hq : Sm m q) : Sm (n + m) (p / q) := by
  have h1 := hp.pos
  by_cases z : q = 0
  · subst z
    have : p / 0 = 0 := by rw [Rat.div_def, Rat.inv_zero, Rat.mul_zero]
    rw [this]
    refine ⟨?_, ?_⟩
    · exact Nat.two_pow_pos _
    · exact Nat.lt_of_lt_of_le (show 1 < 2 ^ 1 by decide) (Nat.pow_le_pow_right (by decide) (by omega))
  · have e := (div_divInt (p := p) z).symm
    rw [e]
    refine sm_divInt ?_ ?_ (by omega)
    · rw [Int.natAbs_mul]; exact mul_lt_pow hp.1 hq.2
    · rw [Int.natAbs_mul]; exact mul_lt_pow hp.2 hq.1
theorem Sm.neg {n : Nat} {q : Rat} (h : Sm n q) : Sm n (-q) := by
  refine ⟨?_, h.2⟩
  have : (-q).num = -q.num := rfl
  rw [this, Int.natAbs_neg]
  exact h.1
section
variable {n m : Nat} {p q : Rat} {x y : Int} {a b : Rat × Rat}
instance [hp : Sz n p] [hq : Sz m q] : Sz (n + m + 1) (p + q) := ⟨hp.h.add hq.h⟩
instance [hp : Sz n p] [hq : Sz m q] : Sz (n + m + 1) (p - q) := ⟨hp.h.sub hq.h⟩
instance [hp : Sz n p] [hq : Sz m q] : Sz (n + m) (p * q) := ⟨hp.h.mul hq.h hp.h.pos⟩
instance [hp : Sz n p] [hq : Sz m q] : Sz (n + m) (p / q) := ⟨hp.h.div hq.h⟩
instance [hp : Sz n p] : Sz n (-p) := ⟨hp.h.neg⟩
instance : Sz 1 0 := ⟨⟨by decide, by decide⟩⟩
instance : Sz 1 1 := ⟨⟨by decide, by decide⟩⟩
instance [hp : SzP n a] : Sz n a.1 := ⟨hp.h.1⟩
instance [hp : SzP n a] : Sz n a.2 := ⟨hp.h.2⟩
instance [hp : Sz n p] [hq : Sz m q] : SzP (n + m) (p, q) := ⟨hp.h.mono (Nat.le_add_right ..), hq.h.mono (Nat.le_add_left ..)⟩
instance [hp : Sw n x] [hq : Sw m y] : Sw (n + m) (x * y) := ⟨by rw [Int.natAbs_mul]; exact mul_lt_pow hp.h hq.h⟩
theorem Sw.add' (hp : x.natAbs < 2 ^ n) (hq : y.natAbs < 2 ^ m) : x.natAbs + y.natAbs < 2 ^ (max n m + 1) := by
  have h1 : 2 ^ n ≤ 2 ^ (max n m) := Nat.pow_le_pow_right (by decide) (by omega)
  have h2 : 2 ^ m ≤ 2 ^ (max n m) := Nat.pow_le_pow_right (by decide) (by omega)
  have h3 : 2 ^ (max n m + 1) = 2 ^ (max n m) * 2 := Nat.pow_succ 2 _
  omega
instance instSwHAddInt [hp : Sw n x] [hq : Sw m y] : Sw (max n m + 1) (x + y) := ⟨Nat.lt_of_le_of_lt (Int.natAbs_add_le x y) (Sw.add' hp.h hq.h)⟩
instance instSwHSubInt [hp : Sw n x] [hq : Sw m y] : Sw (max n m + 1) (x - y) := ⟨Nat.lt_of_le_of_lt (Int.natAbs_sub_le x y) (Sw.add' hp.h hq.h)⟩
instance [hp : Sw n x] : Sw n (-x) := ⟨by rw [Int.natAbs_neg]; exact hp.h⟩
theorem num_int (z : Int) : (z : Rat).num = z := rfl
theorem den_int (z : Int) : (z : Rat).den = 1 := rfl
instance sz_int [hp : Sw n x] : Sz (n + 1) (x : Rat) := ⟨by rw [Sm, num_int, den_int]; exact ⟨Nat.lt_of_lt_of_le hp.h (Nat.pow_le_pow_right (by decide) (by omega)), Nat.lt_of_lt_of_le (show 1 < 2 ^ 1 by decide) (Nat.pow_le_pow_right (by decide) (by omega))⟩⟩
theorem q_int (z : Int) : D.tup [.int z, .int 1] = dQ (z : Rat) := rfl
theorem q_zero : D.tup [.int 0, .int 1] = dQ 0 := rfl
theorem q_one : D.tup [.int 1, .int 1] = dQ 1 := rfl
theorem dP_mk (p q : Rat) : dP (p, q) = .tup [dQ p, dQ q] := rfl
end
section
variable {T : List MF} {wf n f i m k : Nat} {μ : Mem} {p q : Rat}
theorem plusE (hF : FracOk T wf f) (hT : T[i]? = some (B.plus f)) (hw : WF wf) [hp : Sz m p] [hq : Sz k q] (h : m + k < 7990) : callN T wf (n + 2) i [dQ p, dQ q] μ = some (dQ (p + q), μ) := plus_ok hF hT hp.h hq.h h (hw _ (by omega))
theorem minusE (hF : FracOk T wf f) (hT : T[i]? = some (B.minus f)) (hw : WF wf) [hp : Sz m p] [hq : Sz k q] (h : m + k < 7990) : callN T wf (n + 2) i [dQ p, dQ q] μ = some (dQ (p - q), μ) := minus_ok hF hT hp.h hq.h h (hw _ (by omega))
theorem timesE (hF : FracOk T wf f) (hT : T[i]? = some (B.times f)) (hw : WF wf) [hp : Sz m p] [hq : Sz k q] (h : m + k < 7990) : callN T wf (n + 2) i [dQ p, dQ q] μ = some (dQ (p * q), μ) := times_ok hF hT hp.h hq.h h (hw _ (by omega))
namespace B
def over (f : Nat) : MF := { params := 2, slots := 2, fresh := false, body := [
  .ret (.call f [.op .mul (.idx (.var 0) (.int 0)) (.idx (.var 1) (.int 1)), .op .mul (.idx (.var 0) (.int 1)) (.idx (.var 1) (.int 0))])] }
end B
theorem overE (hF : FracOk T wf f) (hT : T[i]? = some (B.over f)) (hw : WF wf) [hp : Sz m p] [hq : Sz k q] (h : m + k < 7990) (h0 : q ≠ 0) : callN T wf (n + 2) i [dQ p, dQ q] μ = some (dQ (p / q), μ) := by
  refine run_ret hT rfl ?_
  have e1 := opI_mul (i := p.num) (j := (q.den : Int)) (n := m) (m := k) hp.h.1 (by simpa using hq.h.2) (by omega)
  have e2 := opI_mul (i := (p.den : Int)) (j := q.num) (n := m) (m := k) (by simpa using hp.h.2) hq.h.1 (by omega)
  have z0 : (p.den : Int) * q.num ≠ 0 := Int.mul_ne_zero (by have := p.den_nz; omega) (fun z => h0 (Rat.num_eq_zero.mp z))
  have z := hF n μ (p.num * q.den) (p.den * q.num) (m + k) z0 (by rw [Int.natAbs_mul]; exact mul_lt_pow hp.h.1 hq.h.2) (by rw [Int.natAbs_mul]; exact mul_lt_pow hp.h.2 hq.h.1) (by omega) (hw _ (by omega))
  rw [div_divInt h0] at z
  simp [B.over, idx_dQ, e1, e2, z]
theorem lessE (hT : T[i]? = some B.less) [hp : Sz m p] [hq : Sz k q] (h : m + k < 8000) : callN T wf (n + 1) i [dQ p, dQ q] μ = some (.bl (decide (p < q)), μ) := less_ok hT hp.h hq.h h
/-- whole numbers -/
theorem mulI {x y : Int} [hp : Sw m x] [hq : Sw k y] (h : m + k < 999998) : opI .mul x y = some (x * y) := opI_mul hp.h hq.h h
theorem eqD_P (p q : Rat × Rat) : eqD μ (dP p) (dP q) = some (decide (p = q)) := by
  simp only [eqD, toPy, pyW_dP, Option.bind_some, shaped_pP, Bool.and_self, if_true, eqv_pP]
theorem sgQ_zero {q : Rat} : sgQ q = 0 ↔ q = 0 := by
  unfold sgQ
  rw [← Rat.num_eq_zero]
  split
  · omega
  · split <;> omega
end
end DI
set_option Elab.async false
set_option linter.all false
set_option maxRecDepth 100000
set_option maxHeartbeats 400000
/-! DS2: motions, lines: what is meant -/
namespace DI
open PySem PySem.Spec PyProof.Rows L2
structure Mo where
  a : Rat
  b : Rat
  c : Rat
  d : Rat
  e : Rat
  f : Rat
  deriving DecidableEq
def dM (M : Mo) : D := .tup [dQ M.a, dQ M.b, dQ M.c, dQ M.d, dQ M.e, dQ M.f]
class SzM (n : outParam Nat) (M : Mo) : Prop where
  h : Sm n M.a ∧ Sm n M.b ∧ Sm n M.c ∧ Sm n M.d ∧ Sm n M.e ∧ Sm n M.f
section
variable {n m k : Nat} {M N : Mo} {p q : Rat × Rat}
instance [h : SzM n M] : Sz n M.a := ⟨h.h.1⟩
instance [h : SzM n M] : Sz n M.b := ⟨h.h.2.1⟩
instance [h : SzM n M] : Sz n M.c := ⟨h.h.2.2.1⟩
instance [h : SzM n M] : Sz n M.d := ⟨h.h.2.2.2.1⟩
instance [h : SzM n M] : Sz n M.e := ⟨h.h.2.2.2.2.1⟩
instance [h : SzM n M] : Sz n M.f := ⟨h.h.2.2.2.2.2⟩
theorem SzM.mk' {M : Mo} {a b c d e f n : Nat} [h1 : Sz a M.a] [h2 : Sz b M.b] [h3 : Sz c M.c] [h4 : Sz d M.d] [h5 : Sz e M.e] [h6 : Sz f M.f] (q1 : a ≤ n) (q2 : b ≤ n) (q3 : c ≤ n) (q4 : d ≤ n) (q5 : e ≤ n) (q6 : f ≤ n) : SzM n M :=
  ⟨h1.h.mono q1, h2.h.mono q2, h3.h.mono q3, h4.h.mono q4, h5.h.mono q5, h6.h.mono q6⟩
def wM (M : Mo) : Rat := M.a * M.e - M.b * M.d
instance [SzM n M] : Sz (n + n + (n + n) + 1) (wM M) := by unfold wM; infer_instance
def mv (M : Mo) (p : Rat × Rat) : Rat × Rat := (M.a * p.1 + M.b * p.2 + M.c, M.d * p.1 + M.e * p.2 + M.f)
theorem szmv [h1 : SzM m M] [h2 : SzP k p] : SzP (3 * m + 2 * k + 2) (mv M p) := by
  have h3 : Sz (m + k + (m + k) + 1 + m + 1) (M.a * p.1 + M.b * p.2 + M.c) := inferInstance
  have h4 : Sz (m + k + (m + k) + 1 + m + 1) (M.d * p.1 + M.e * p.2 + M.f) := inferInstance
  exact ⟨h3.h.mono (by omega), h4.h.mono (by omega)⟩
instance [h1 : SzM m M] [h2 : SzP k p] : SzP (3 * m + 2 * k + 2) (mv M p) := szmv
/-- the one, then the other -/
def thenM (M N : Mo) : Mo := ⟨N.a * M.a + N.b * M.d, N.a * M.b + N.b * M.e, N.a * M.c + N.b * M.f + N.c, N.d * M.a + N.e * M.d, N.d * M.b + N.e * M.e, N.d * M.c + N.e * M.f + N.f⟩
def byM (s r h : Rat × Rat) : Mo := ⟨r.1 - s.1, h.1 - s.1, s.1, r.2 - s.2, h.2 - s.2, s.2⟩
def backM (M : Mo) : Mo := ⟨M.e / wM M, (0 - M.b) / wM M, (M.b * M.f - M.c * M.e) / wM M, (0 - M.d) / wM M, M.a / wM M, (M.c * M.d - M.a * M.f) / wM M⟩
def idM : Mo := ⟨1, 0, 0, 0, 1, 0⟩
instance szby {x y z : Rat × Rat} {m k r : Nat} [SzP m x] [SzP k y] [SzP r z] : SzM (max k r + m + 1) (byM x y z) :=
  SzM.mk' (a := k + m + 1) (b := r + m + 1) (c := m) (d := k + m + 1) (e := r + m + 1) (f := m) (h1 := by unfold byM; exact inferInstanceAs (Sz _ (y.1 - x.1))) (h2 := by unfold byM; exact inferInstanceAs (Sz _ (z.1 - x.1))) (h3 := by unfold byM; exact inferInstanceAs (Sz _ x.1))
    (h4 := by unfold byM; exact inferInstanceAs (Sz _ (y.2 - x.2))) (h5 := by unfold byM; exact inferInstanceAs (Sz _ (z.2 - x.2))) (h6 := by unfold byM; exact inferInstanceAs (Sz _ x.2)) (by omega) (by omega) (by omega) (by omega) (by omega) (by omega)
instance szback {m : Nat} {M : Mo} [SzM m M] : SzM (8 * m + 3) (backM M) :=
  SzM.mk' (a := m + (m + m + (m + m) + 1)) (b := 1 + m + 1 + (m + m + (m + m) + 1)) (c := m + m + (m + m) + 1 + (m + m + (m + m) + 1)) (d := 1 + m + 1 + (m + m + (m + m) + 1)) (e := m + (m + m + (m + m) + 1)) (f := m + m + (m + m) + 1 + (m + m + (m + m) + 1))
    (h1 := by unfold backM; exact inferInstanceAs (Sz _ (M.e / wM M))) (h2 := by unfold backM; exact inferInstanceAs (Sz _ ((0 - M.b) / wM M))) (h3 := by unfold backM; exact inferInstanceAs (Sz _ ((M.b * M.f - M.c * M.e) / wM M)))
    (h4 := by unfold backM; exact inferInstanceAs (Sz _ ((0 - M.d) / wM M))) (h5 := by unfold backM; exact inferInstanceAs (Sz _ (M.a / wM M))) (h6 := by unfold backM; exact inferInstanceAs (Sz _ ((M.c * M.d - M.a * M.f) / wM M))) (by omega) (by omega) (by omega) (by omega) (by omega) (by omega)
instance szthen {m k : Nat} {M N : Mo} [SzM m M] [SzM k N] : SzM (2 * m + 3 * k + 2) (thenM M N) :=
  SzM.mk' (a := k + m + (k + m) + 1) (b := k + m + (k + m) + 1) (c := k + m + (k + m) + 1 + k + 1) (d := k + m + (k + m) + 1) (e := k + m + (k + m) + 1) (f := k + m + (k + m) + 1 + k + 1)
    (h1 := by unfold thenM; exact inferInstanceAs (Sz _ (N.a * M.a + N.b * M.d))) (h2 := by unfold thenM; exact inferInstanceAs (Sz _ (N.a * M.b + N.b * M.e))) (h3 := by unfold thenM; exact inferInstanceAs (Sz _ (N.a * M.c + N.b * M.f + N.c)))
    (h4 := by unfold thenM; exact inferInstanceAs (Sz _ (N.d * M.a + N.e * M.d))) (h5 := by unfold thenM; exact inferInstanceAs (Sz _ (N.d * M.b + N.e * M.e))) (h6 := by unfold thenM; exact inferInstanceAs (Sz _ (N.d * M.c + N.e * M.f + N.f))) (by omega) (by omega) (by omega) (by omega) (by omega) (by omega)
theorem mv_then (M N : Mo) (p : Rat × Rat) : mv (thenM M N) p = mv N (mv M p) := by
  unfold mv thenM
  ext <;> grind
theorem w_then (M N : Mo) : wM (thenM M N) = wM M * wM N := by unfold wM thenM; grind
theorem by_then (M N : Mo) : byM (mv N (mv M (0, 0))) (mv N (mv M (1, 0))) (mv N (mv M (0, 1))) = thenM M N := by
  unfold byM mv thenM
  simp only [Mo.mk.injEq]
  refine ⟨?_, ?_, ?_, ?_, ?_, ?_⟩ <;> grind
theorem w_back {M : Mo} (h : wM M ≠ 0) : wM (backM M) = 1 / wM M := by
  have e : wM M = M.a * M.e - M.b * M.d := rfl
  show M.e / wM M * (M.a / wM M) - (0 - M.b) / wM M * ((0 - M.d) / wM M) = 1 / wM M
  generalize wM M = w at *
  grind
theorem back_then {M : Mo} (h : wM M ≠ 0) : thenM M (backM M) = idM := by
  have e : wM M = M.a * M.e - M.b * M.d := rfl
  unfold thenM backM idM
  generalize wM M = w at *
  simp only [Mo.mk.injEq]
  refine ⟨?_, ?_, ?_, ?_, ?_, ?_⟩ <;> grind
theorem then_back {M : Mo} (h : wM M ≠ 0) : thenM (backM M) M = idM := by
  have e : wM M = M.a * M.e - M.b * M.d := rfl
  unfold thenM backM idM
  generalize wM M = w at *
  simp only [Mo.mk.injEq]
  refine ⟨?_, ?_, ?_, ?_, ?_, ?_⟩ <;> grind
theorem back_back {M : Mo} (h : wM M ≠ 0) : backM (backM M) = M := by
  have e : wM M = M.a * M.e - M.b * M.d := rfl
  have e2 := w_back h
  obtain ⟨a, b, c, d, e', f⟩ := M
  unfold backM
  rw [show wM ⟨e' / wM ⟨a, b, c, d, e', f⟩, (0 - b) / wM ⟨a, b, c, d, e', f⟩, (b * f - c * e') / wM ⟨a, b, c, d, e', f⟩, (0 - d) / wM ⟨a, b, c, d, e', f⟩, a / wM ⟨a, b, c, d, e', f⟩, (c * d - a * f) / wM ⟨a, b, c, d, e', f⟩⟩ = _ from e2]
  generalize wM ⟨a, b, c, d, e', f⟩ = w at *
  simp only [Mo.mk.injEq] at *
  refine ⟨?_, ?_, ?_, ?_, ?_, ?_⟩ <;> grind
theorem mv_id (p : Rat × Rat) : mv idM p = p := by unfold mv idM; ext <;> grind
theorem mv_back {M : Mo} (h : wM M ≠ 0) (p : Rat × Rat) : mv (backM M) (mv M p) = p := by rw [← mv_then, back_then h, mv_id]
theorem mv_inj {M : Mo} (h : wM M ≠ 0) {p q : Rat × Rat} (e : mv M p = mv M q) : p = q := by rw [← mv_back h p, e, mv_back h]
/-- how turns go along -/
theorem turn_mv (M : Mo) (a b c : Rat × Rat) : turnQ (mv M a) (mv M b) (mv M c) = wM M * turnQ a b c := by unfold turnQ mv wM; grind
theorem w_by (a b c : Rat × Rat) : wM (byM a b c) = turnQ a b c := by unfold wM byM turnQ; grind
theorem mv_by (a b c : Rat × Rat) : mv (byM a b c) (0, 0) = a ∧ mv (byM a b c) (1, 0) = b ∧ mv (byM a b c) (0, 1) = c := by
  unfold mv byM
  refine ⟨?_, ?_, ?_⟩ <;> ext <;> grind
/-- the motion that brings three to three -/
def three (a b c x y z : Rat × Rat) : Mo := thenM (backM (byM a b c)) (byM x y z)
theorem three_mv {a b c x y z : Rat × Rat} (h : turnQ a b c ≠ 0) : mv (three a b c x y z) a = x ∧ mv (three a b c x y z) b = y ∧ mv (three a b c x y z) c = z := by
  obtain ⟨e1, e2, e3⟩ := mv_by a b c
  obtain ⟨f1, f2, f3⟩ := mv_by x y z
  have h' : wM (byM a b c) ≠ 0 := by rw [w_by]; exact h
  unfold three
  have k := fun p => mv_back h' p
  refine ⟨?_, ?_, ?_⟩
  · rw [mv_then]; have := k (0, 0); rw [e1] at this; rw [this, f1]
  · rw [mv_then]; have := k (1, 0); rw [e2] at this; rw [this, f2]
  · rw [mv_then]; have := k (0, 1); rw [e3] at this; rw [this, f3]
theorem w_three {a b c x y z : Rat × Rat} (h : turnQ a b c ≠ 0) : wM (three a b c x y z) = turnQ x y z / turnQ a b c := by
  unfold three
  rw [w_then, w_back (by rw [w_by]; exact h), w_by, w_by]
  grind
end
end DI
set_option Elab.async false
set_option linter.all false
set_option maxRecDepth 100000
set_option maxHeartbeats 400000
/-! DS3: lines: what is meant -/
namespace DI
open PySem PySem.Spec PyProof.Rows L2
structure Ln where
  a : Int
  b : Int
  c : Int
  deriving DecidableEq
def dL (l : Ln) : D := .tup [.int l.a, .int l.b, .int l.c]
class SzL (n : outParam Nat) (l : Ln) : Prop where
  h : l.a.natAbs < 2 ^ n ∧ l.b.natAbs < 2 ^ n ∧ l.c.natAbs < 2 ^ n
section
variable {n : Nat} {l : Ln}
instance [h : SzL n l] : Sw n l.a := ⟨h.h.1⟩
instance [h : SzL n l] : Sw n l.b := ⟨h.h.2.1⟩
instance [h : SzL n l] : Sw n l.c := ⟨h.h.2.2⟩
end
def gc (a b c : Int) : Nat := Nat.gcd (Nat.gcd a.natAbs b.natAbs) c.natAbs
def Lead (a b : Int) : Prop := 0 < a ∨ (a = 0 ∧ 0 < b)
instance {a b : Int} : Decidable (Lead a b) := by unfold Lead; infer_instance
def mC (a b c : Int) : Int := if Lead a b then (gc a b c : Int) else 0 - (gc a b c : Int)
def canon (a b c : Int) : Ln := ⟨a.fdiv (mC a b c), b.fdiv (mC a b c), c.fdiv (mC a b c)⟩
def IsL (l : Ln) : Prop := Lead l.a l.b ∧ gc l.a l.b l.c = 1
instance {l : Ln} : Decidable (IsL l) := by unfold IsL; infer_instance
theorem gc_mul (t x y z : Int) : gc (t * x) (t * y) (t * z) = t.natAbs * gc x y z := by
  unfold gc
  rw [Int.natAbs_mul, Int.natAbs_mul, Int.natAbs_mul, Nat.gcd_mul_left, Nat.gcd_mul_left]
theorem gc_neg (x y z : Int) : gc (-x) (-y) (-z) = gc x y z := by
  unfold gc
  rw [Int.natAbs_neg, Int.natAbs_neg, Int.natAbs_neg]
theorem gc_pos {a b c : Int} (h : a ≠ 0 ∨ b ≠ 0) : 0 < gc a b c := by
  unfold gc
  refine Nat.gcd_pos_of_pos_left _ ?_
  rcases h with h | h
  · exact Nat.gcd_pos_of_pos_left _ (by omega)
  · exact Nat.gcd_pos_of_pos_right _ (by omega)
theorem gc_parts (a b c : Int) : ∃ x y z : Int, a = gc a b c * x ∧ b = gc a b c * y ∧ c = gc a b c * z := by
  have h1 : (gc a b c : Int) ∣ a := Int.ofNat_dvd_left.mpr (Nat.dvd_trans (Nat.gcd_dvd_left ..) (Nat.gcd_dvd_left ..))
  have h2 : (gc a b c : Int) ∣ b := Int.ofNat_dvd_left.mpr (Nat.dvd_trans (Nat.gcd_dvd_left ..) (Nat.gcd_dvd_right ..))
  have h3 : (gc a b c : Int) ∣ c := Int.ofNat_dvd_left.mpr (Nat.gcd_dvd_right ..)
  obtain ⟨x, hx⟩ := h1
  obtain ⟨y, hy⟩ := h2
  obtain ⟨z, hz⟩ := h3
  exact ⟨x, y, z, hx, hy, hz⟩
theorem mC_ne {a b c : Int} (h : a ≠ 0 ∨ b ≠ 0) : mC a b c ≠ 0 := by
  have := gc_pos (c := c) h
  unfold mC
  split <;> omega
theorem canon_spec {a b c : Int} (h : a ≠ 0 ∨ b ≠ 0) : IsL (canon a b c) ∧ a = mC a b c * (canon a b c).a ∧ b = mC a b c * (canon a b c).b ∧ c = mC a b c * (canon a b c).c := by
  have g0 := gc_pos (c := c) h
  obtain ⟨x, y, z, hx, hy, hz⟩ := gc_parts a b c
  have g1 : gc x y z = 1 := by
    have e : gc a b c = gc a b c * gc x y z := by
      have : gc a b c = gc (gc a b c * x) (gc a b c * y) (gc a b c * z) := by rw [← hx, ← hy, ← hz]
      rw [gc_mul, Int.natAbs_natCast] at this
      exact this
    have e' : gc a b c * gc x y z = gc a b c * 1 := by omega
    exact Nat.eq_of_mul_eq_mul_left g0 e'
  generalize hg : gc a b c = g at *
  have gi : (g : Int) ≠ 0 := by omega
  by_cases hl : Lead a b
  · have m1 : mC a b c = g := by unfold mC; rw [if_pos hl, hg]
    have f : ∀ u v : Int, u = g * v → u.fdiv g = v := fun u v e => by rw [e, Int.mul_fdiv_cancel_left _ gi]
    have ec : canon a b c = ⟨x, y, z⟩ := by unfold canon; rw [m1, f a x hx, f b y hy, f c z hz]
    rw [ec, m1]
    refine ⟨⟨?_, g1⟩, hx, hy, hz⟩
    show Lead x y
    rcases hl with hl | ⟨h1, h2⟩
    · left
      rw [hx] at hl
      exact Int.pos_of_mul_pos_right hl (by omega)
    · right
      refine ⟨?_, ?_⟩
      · rw [hx] at h1
        exact (Int.mul_eq_zero.mp h1).resolve_left gi
      · rw [hy] at h2
        exact Int.pos_of_mul_pos_right h2 (by omega)
  · have m1 : mC a b c = -g := by unfold mC; rw [if_neg hl, hg]; omega
    have f : ∀ u v : Int, u = g * v → u.fdiv (-g) = -v := fun u v e => by rw [e, ← Int.neg_mul_neg, Int.mul_fdiv_cancel_left _ (by omega)]
    have ec : canon a b c = ⟨-x, -y, -z⟩ := by unfold canon; rw [m1, f a x hx, f b y hy, f c z hz]
    rw [ec, m1]
    refine ⟨⟨?_, (gc_neg x y z).trans g1⟩, by rw [Int.neg_mul_neg]; exact hx, by rw [Int.neg_mul_neg]; exact hy, by rw [Int.neg_mul_neg]; exact hz⟩
    show Lead (-x) (-y)
    have gp : (0 : Int) < g := by omega
    by_cases ha : a = 0
    · have hx0 : x = 0 := by rw [hx] at ha; exact (Int.mul_eq_zero.mp ha).resolve_left gi
      right
      refine ⟨by omega, ?_⟩
      have hb : b < 0 := by
        have : ¬ 0 < b := fun z => hl (.inr ⟨ha, z⟩)
        rcases h with h | h
        · exact absurd ha h
        · omega
      rw [hy] at hb
      have := Int.neg_of_mul_neg_right hb (by omega)
      omega
    · left
      have hb : a < 0 := by
        have : ¬ 0 < a := fun z => hl (.inl z)
        omega
      rw [hx] at hb
      have := Int.neg_of_mul_neg_right hb (by omega)
      omega
theorem isl_ne {l : Ln} (h : IsL l) : l.a ≠ 0 ∨ l.b ≠ 0 := by
  rcases h.1 with h | h <;> omega
theorem isl_unique {l l' : Ln} {t t' : Int} (h : IsL l) (h' : IsL l') (h0 : t ≠ 0) (e1 : t * l.a = t' * l'.a) (e2 : t * l.b = t' * l'.b) (e3 : t * l.c = t' * l'.c) : l = l' := by
  have g := gc_mul t l.a l.b l.c
  rw [e1, e2, e3, gc_mul, h.2, h'.2] at g
  have tt : t = t' ∨ t = -t' := by omega
  obtain ⟨a, b, c⟩ := l
  obtain ⟨a', b', c'⟩ := l'
  have l1 := h.1
  have l2 := h'.1
  unfold Lead at l1 l2
  simp only at *
  rcases tt with rfl | rfl
  · rw [Int.eq_of_mul_eq_mul_left h0 e1, Int.eq_of_mul_eq_mul_left h0 e2, Int.eq_of_mul_eq_mul_left h0 e3]
  · exfalso
    have k1 : a' = -a := Int.eq_of_mul_eq_mul_left (a := t') (by omega) (by rw [← e1, Int.neg_mul, Int.mul_neg])
    have k2 : b' = -b := Int.eq_of_mul_eq_mul_left (a := t') (by omega) (by rw [← e2, Int.neg_mul, Int.mul_neg])
    omega
theorem canon_self {l : Ln} (h : IsL l) : canon l.a l.b l.c = l := by
  have m1 : mC l.a l.b l.c = 1 := by unfold mC; rw [if_pos h.1, h.2]; rfl
  unfold canon
  rw [m1, Int.fdiv_one, Int.fdiv_one, Int.fdiv_one]
theorem canon_le {a b c : Int} (h : a ≠ 0 ∨ b ≠ 0) : (canon a b c).a.natAbs ≤ a.natAbs ∧ (canon a b c).b.natAbs ≤ b.natAbs ∧ (canon a b c).c.natAbs ≤ c.natAbs := by
  obtain ⟨_, e1, e2, e3⟩ := canon_spec (c := c) h
  have m0 := mC_ne (c := c) h
  have f : ∀ x y : Int, x = mC a b c * y → y.natAbs ≤ x.natAbs := fun x y e => by
    rw [e, Int.natAbs_mul]
    exact Nat.le_mul_of_pos_left _ (by omega)
  exact ⟨f _ _ e1, f _ _ e2, f _ _ e3⟩
/-! ### points on lines -/
def abv (l : Ln) (p : Rat × Rat) : Rat := (l.a : Rat) * p.1 + (l.b : Rat) * p.2 - (l.c : Rat)
def On (l : Ln) (p : Rat × Rat) : Prop := abv l p = 0
def nn (l : Ln) : Rat := (l.a : Rat) * (l.a : Rat) + (l.b : Rat) * (l.b : Rat)
theorem sq_nonneg (x : Rat) : 0 ≤ x * x := by
  rcases (Rat.le_total : 0 ≤ x ∨ x ≤ 0) with h | h
  · exact Rat.mul_nonneg h h
  · have := Rat.mul_nonneg (a := -x) (b := -x) (by grind) (by grind)
    grind
theorem sq_pos {x : Rat} (h : x ≠ 0) : 0 < x * x := by
  have h1 := sq_nonneg x
  have h2 : x * x ≠ 0 := by grind
  grind
theorem sum_sq {x y : Rat} (h : x ≠ 0 ∨ y ≠ 0) : 0 < x * x + y * y := by
  have h1 := sq_nonneg x
  have h2 := sq_nonneg y
  rcases h with h | h
  · have := sq_pos h
    grind
  · have := sq_pos h
    grind
theorem cast_ne {x : Int} (h : x ≠ 0) : (x : Rat) ≠ 0 := fun z => h (Rat.intCast_inj.mp (by rw [z]; rfl))
theorem nn_pos {l : Ln} (h : IsL l) : 0 < nn l := sum_sq (by
  rcases isl_ne h with h | h
  · exact .inl (cast_ne h)
  · exact .inr (cast_ne h))
theorem nn_ne {l : Ln} (h : IsL l) : nn l ≠ 0 := by
  have := nn_pos h
  grind
def p0 (l : Ln) : Rat × Rat := ((l.a : Rat) * (l.c : Rat) / nn l, (l.b : Rat) * (l.c : Rat) / nn l)
def p1 (l : Ln) : Rat × Rat := ((p0 l).1 + (l.b : Rat), (p0 l).2 - (l.a : Rat))
theorem on_p0 {l : Ln} (h : IsL l) : On l (p0 l) := by
  have := nn_ne h
  have e : nn l = (l.a : Rat) * (l.a : Rat) + (l.b : Rat) * (l.b : Rat) := rfl
  unfold On abv p0
  simp only
  generalize nn l = n at *
  grind
theorem on_p1 {l : Ln} (h : IsL l) : On l (p1 l) := by
  have := on_p0 h
  unfold On abv p1 at *
  simp only
  grind
theorem p0_ne_p1 {l : Ln} (h : IsL l) : p0 l ≠ p1 l := fun e => by
  have e1 := congrArg Prod.fst e
  have e2 := congrArg Prod.snd e
  simp only [p1] at e1 e2
  rcases isl_ne h with h | h
  · have := cast_ne h
    grind
  · have := cast_ne h
    grind
theorem rat_mul_eq {x y : Int} {u v : Int} (h : (x : Rat) * (y : Rat) = (u : Rat) * (v : Rat)) : x * y = u * v := by
  rw [← Rat.intCast_mul, ← Rat.intCast_mul] at h
  exact Rat.intCast_inj.mp h
/-- whole numbers told by rational ones -/
theorem rat_eq {x y : Int} (h : (x : Rat) = (y : Rat)) : x = y := Rat.intCast_inj.mp h
theorem on_unique {l l' : Ln} {p q : Rat × Rat} (h : IsL l) (h' : IsL l') (hp : On l p) (hq : On l q) (hp' : On l' p) (hq' : On l' q) (ne : p ≠ q) : l = l' := by
  have n' := nn_pos h'
  have ne2 : q.1 - p.1 ≠ 0 ∨ q.2 - p.2 ≠ 0 := by
    by_cases z : q.1 - p.1 = 0
    · refine .inr fun z2 => ne (Prod.ext ?_ ?_) <;> grind
    · exact .inl z
  unfold On abv at hp hq hp' hq'
  have cr : (l.a : Rat) * (l'.b : Rat) = (l'.a : Rat) * (l.b : Rat) := by
    have d1 : (l.a : Rat) * (q.1 - p.1) + (l.b : Rat) * (q.2 - p.2) = 0 := by grind
    have d2 : (l'.a : Rat) * (q.1 - p.1) + (l'.b : Rat) * (q.2 - p.2) = 0 := by grind
    rcases ne2 with z | z
    · have : (q.1 - p.1) * ((l.a : Rat) * (l'.b : Rat)) = (q.1 - p.1) * ((l'.a : Rat) * (l.b : Rat)) := by grind
      grind
    · have : (q.2 - p.2) * ((l.a : Rat) * (l'.b : Rat)) = (q.2 - p.2) * ((l'.a : Rat) * (l.b : Rat)) := by grind
      grind
  refine isl_unique (t := l'.a * l'.a + l'.b * l'.b) (t' := l.a * l'.a + l.b * l'.b) h h' ?_ ?_ ?_ ?_
  · intro z
    have : nn l' = 0 := by
      unfold nn
      rw [← Rat.intCast_mul, ← Rat.intCast_mul, ← Rat.intCast_add, z]
      rfl
    grind
  · apply rat_eq
    simp only [Rat.intCast_mul, Rat.intCast_add]
    grind
  · apply rat_eq
    simp only [Rat.intCast_mul, Rat.intCast_add]
    grind
  · apply rat_eq
    simp only [Rat.intCast_mul, Rat.intCast_add]
    have c1 : (l.c : Rat) = (l.a : Rat) * p.1 + (l.b : Rat) * p.2 := by grind
    have c2 : (l'.c : Rat) = (l'.a : Rat) * p.1 + (l'.b : Rat) * p.2 := by grind
    rw [c1, c2]
    grind
end DI
set_option Elab.async false
set_option linter.all false
set_option maxRecDepth 100000
set_option maxHeartbeats 400000
/-! DS4: the line through two points; lines moved -/
namespace DI
open PySem PySem.Spec PyProof.Rows L2
theorem on_canon {x y z : Int} {p : Rat × Rat} (h : x ≠ 0 ∨ y ≠ 0) (e : (x : Rat) * p.1 + (y : Rat) * p.2 = (z : Rat)) : On (canon x y z) p := by
  obtain ⟨_, e1, e2, e3⟩ := canon_spec (c := z) h
  have m0 := cast_ne (mC_ne (c := z) h)
  have f1 := congrArg (Int.cast (R := Rat)) e1
  have f2 := congrArg (Int.cast (R := Rat)) e2
  have f3 := congrArg (Int.cast (R := Rat)) e3
  rw [Rat.intCast_mul] at f1 f2 f3
  unfold On abv
  generalize (mC x y z : Rat) = m at *
  generalize (canon x y z) = l at *
  have : m * ((l.a : Rat) * p.1 + (l.b : Rat) * p.2 - (l.c : Rat)) = 0 := by grind
  grind
theorem num_den (q : Rat) : (q.num : Rat) = q * (q.den : Rat) := by
  have h := Rat.num_divInt_den q
  have d0 : ((q.den : Int) : Rat) ≠ 0 := cast_ne (by have := q.den_nz; omega)
  rw [Rat.divInt_eq_div] at h
  have e : ((q.den : Int) : Rat) = (q.den : Rat) := rfl
  rw [e] at h d0
  grind
theorem den_ne (q : Rat) : (q.den : Rat) ≠ 0 := cast_ne (x := (q.den : Int)) (by have := q.den_nz; omega)
/-- three fractions as whole numbers -/
theorem scaled (a b c : Rat) : ∃ x y z : Int, ∃ n : Rat, n ≠ 0 ∧ (x : Rat) = n * a ∧ (y : Rat) = n * b ∧ (z : Rat) = n * c := by
  have h1 := num_den a
  have h2 := num_den b
  have h3 := num_den c
  have d1 := den_ne a
  have d2 := den_ne b
  have d3 := den_ne c
  refine ⟨a.num * (b.den * c.den : Int), b.num * (a.den * c.den : Int), c.num * (a.den * b.den : Int), (a.den : Rat) * (b.den : Rat) * (c.den : Rat), ?_, ?_, ?_, ?_⟩
  · grind
  · rw [Rat.intCast_mul, Rat.intCast_mul, h1]
    show _ * ((b.den : Rat) * (c.den : Rat)) = _
    grind
  · rw [Rat.intCast_mul, Rat.intCast_mul, h2]
    show _ * ((a.den : Rat) * (c.den : Rat)) = _
    grind
  · rw [Rat.intCast_mul, Rat.intCast_mul, h3]
    show _ * ((a.den : Rat) * (b.den : Rat)) = _
    grind
/-- whole numbers that are shares of a line's three are its line -/
theorem line_of {a b c : Rat} {x y z : Int} {n : Rat} (h : a ≠ 0 ∨ b ≠ 0) (n0 : n ≠ 0) (e1 : (x : Rat) = n * a) (e2 : (y : Rat) = n * b) (e3 : (z : Rat) = n * c) : (x ≠ 0 ∨ y ≠ 0) ∧ ∀ p : Rat × Rat, a * p.1 + b * p.2 = c → On (canon x y z) p := by
  have h' : x ≠ 0 ∨ y ≠ 0 := by
    rcases h with h | h
    · refine .inl fun z => ?_
      subst z
      have : ((0 : Int) : Rat) = 0 := rfl
      rw [this] at e1
      grind
    · refine .inr fun z => ?_
      subst z
      have : ((0 : Int) : Rat) = 0 := rfl
      rw [this] at e2
      grind
  refine ⟨h', fun p hp => on_canon h' ?_⟩
  rw [e1, e2, e3]
  grind
theorem ab_ne {p q : Rat × Rat} (ne : p ≠ q) : p.2 - q.2 ≠ 0 ∨ q.1 - p.1 ≠ 0 := by
  by_cases z : p.2 - q.2 = 0
  · refine .inr fun z2 => ne (Prod.ext ?_ ?_) <;> grind
  · exact .inl z
theorem exists_line {p q : Rat × Rat} (ne : p ≠ q) : ∃ l, IsL l ∧ On l p ∧ On l q := by
  obtain ⟨x, y, z, n, n0, e1, e2, e3⟩ := scaled (p.2 - q.2) (q.1 - p.1) ((p.2 - q.2) * p.1 + (q.1 - p.1) * p.2)
  obtain ⟨h1, h2⟩ := line_of (ab_ne ne) n0 e1 e2 e3
  exact ⟨canon x y z, (canon_spec h1).1, h2 p rfl, h2 q (by grind)⟩
open Classical in
noncomputable def thr (p q : Rat × Rat) : Ln := if h : ∃ l, IsL l ∧ On l p ∧ On l q then Classical.choose h else ⟨0, 0, 0⟩
theorem thr_spec {p q : Rat × Rat} (ne : p ≠ q) : IsL (thr p q) ∧ On (thr p q) p ∧ On (thr p q) q := by
  have h := exists_line ne
  unfold thr
  rw [dif_pos h]
  exact Classical.choose_spec h
theorem thr_eq {p q : Rat × Rat} {l : Ln} (ne : p ≠ q) (h : IsL l) (hp : On l p) (hq : On l q) : thr p q = l := by
  obtain ⟨h1, h2, h3⟩ := thr_spec ne
  exact on_unique h1 h h2 h3 hp hq ne
noncomputable def ml (M : Mo) (l : Ln) : Ln := thr (mv M (p0 l)) (mv M (p1 l))
theorem mv_ne {M : Mo} (h : wM M ≠ 0) {p q : Rat × Rat} (ne : p ≠ q) : mv M p ≠ mv M q := fun e => ne (mv_inj h e)
theorem ml_is {M : Mo} {l : Ln} (h : wM M ≠ 0) (hl : IsL l) : IsL (ml M l) := (thr_spec (mv_ne h (p0_ne_p1 hl))).1
/-- how sides go along -/
theorem ml_side {M : Mo} {l : Ln} (h : wM M ≠ 0) (hl : IsL l) : ∃ s : Rat, s ≠ 0 ∧ ∀ r, abv (ml M l) (mv M r) = s * abv l r := by
  obtain ⟨h1, h2, h3⟩ := thr_spec (mv_ne h (p0_ne_p1 hl))
  change IsL (ml M l) at h1
  change On (ml M l) _ at h2
  change On (ml M l) _ at h3
  generalize ml M l = L at *
  have n0 := nn_ne hl
  have en : nn l = (l.a : Rat) * (l.a : Rat) + (l.b : Rat) * (l.b : Rat) := rfl
  have ew : wM M = M.a * M.e - M.b * M.d := rfl
  have L0 : (L.a : Rat) ≠ 0 ∨ (L.b : Rat) ≠ 0 := by
    rcases isl_ne h1 with z | z
    · exact .inl (cast_ne z)
    · exact .inr (cast_ne z)
  unfold On abv at h2 h3
  have e1 : (p1 l).1 = (p0 l).1 + (l.b : Rat) := rfl
  have e2 : (p1 l).2 = (p0 l).2 - (l.a : Rat) := rfl
  have e3 : (p0 l).1 = (l.a : Rat) * (l.c : Rat) / nn l := rfl
  have e4 : (p0 l).2 = (l.b : Rat) * (l.c : Rat) / nn l := rfl
  simp only [mv, e1, e2, e3, e4] at h2 h3
  unfold abv
  simp only [mv]
  generalize nn l = n at *
  generalize (l.a : Rat) = a at *
  generalize (l.b : Rat) = b at *
  generalize (l.c : Rat) = c at *
  generalize (L.a : Rat) = A at *
  generalize (L.b : Rat) = B at *
  generalize (L.c : Rat) = G at *
  generalize wM M = w at *
  obtain ⟨ma, mb, mc, md, me, mf⟩ := M
  simp only at *
  have k1 : (A * ma + B * md) * b = (A * mb + B * me) * a := by grind
  refine ⟨((A * ma + B * md) * a + (A * mb + B * me) * b) / n, ?_, fun r => ?_⟩
  · intro z
    have z1 : (A * ma + B * md) * a + (A * mb + B * me) * b = 0 := by grind
    have z2 : n * (A * ma + B * md) = 0 := by grind
    have z3 : n * (A * mb + B * me) = 0 := by grind
    have z4 : A * ma + B * md = 0 := by grind
    have z5 : A * mb + B * me = 0 := by grind
    have z6 : w * A = 0 := by grind
    have z7 : w * B = 0 := by grind
    grind
  · have z2 : n * (A * ma + B * md) = a * ((A * ma + B * md) * a + (A * mb + B * me) * b) := by grind
    have z3 : n * (A * mb + B * me) = b * ((A * ma + B * md) * a + (A * mb + B * me) * b) := by grind
    grind
theorem ml_on {M : Mo} {l : Ln} (h : wM M ≠ 0) (hl : IsL l) {r : Rat × Rat} (hr : On l r) : On (ml M l) (mv M r) := by
  obtain ⟨s, _, e⟩ := ml_side h hl
  unfold On at *
  rw [e, hr, Rat.mul_zero]
theorem mv_back' {M : Mo} (h : wM M ≠ 0) (p : Rat × Rat) : mv M (mv (backM M) p) = p := by rw [← mv_then, then_back h, mv_id]
theorem w_back_ne {M : Mo} (h : wM M ≠ 0) : wM (backM M) ≠ 0 := by rw [w_back h]; grind
theorem ml_back {M : Mo} {l : Ln} (h : wM M ≠ 0) (hl : IsL l) : ml (backM M) (ml M l) = l := by
  obtain ⟨s, s0, e⟩ := ml_side h hl
  have k : ∀ r, On (ml M l) r → On l (mv (backM M) r) := fun r hr => by
    have := e (mv (backM M) r)
    rw [mv_back' h] at this
    unfold On at *
    grind
  exact thr_eq (mv_ne (w_back_ne h) (p0_ne_p1 (ml_is h hl))) hl (k _ (on_p0 (ml_is h hl))) (k _ (on_p1 (ml_is h hl)))
theorem ml_thr {M : Mo} {p q : Rat × Rat} (h : wM M ≠ 0) (ne : p ≠ q) : ml M (thr p q) = thr (mv M p) (mv M q) := by
  obtain ⟨h1, h2, h3⟩ := thr_spec ne
  exact (thr_eq (mv_ne h ne) (ml_is h h1) (ml_on h h1 h2) (ml_on h h1 h3)).symm
section
variable {k : Nat} {l : Ln}
theorem p0_div (l : Ln) : p0 l = (Rat.divInt (l.a * l.c) (l.a * l.a + l.b * l.b), Rat.divInt (l.b * l.c) (l.a * l.a + l.b * l.b)) := by
  unfold p0 nn
  rw [Rat.divInt_eq_div, Rat.divInt_eq_div, Rat.intCast_mul, Rat.intCast_mul, Rat.intCast_add, Rat.intCast_mul, Rat.intCast_mul]
theorem nn_lt [h : SzL k l] : (l.a * l.a + l.b * l.b).natAbs < 2 ^ (2 * k + 1) := by
  have s : Sw (max (k + k) (k + k) + 1) (l.a * l.a + l.b * l.b) := inferInstance
  have e : max (k + k) (k + k) + 1 = 2 * k + 1 := by omega
  rw [e] at s
  exact s.h
instance szp0 [h : SzL k l] : SzP (2 * k + 1) (p0 l) := by
  have s1 : Sw (k + k) (l.a * l.c) := inferInstance
  have s2 : Sw (k + k) (l.b * l.c) := inferInstance
  have pw : 2 ^ (k + k) ≤ 2 ^ (2 * k + 1) := Nat.pow_le_pow_right (by decide) (by omega)
  rw [p0_div]
  exact ⟨sm_divInt (Nat.lt_of_lt_of_le s1.h pw) nn_lt (by omega), sm_divInt (Nat.lt_of_lt_of_le s2.h pw) nn_lt (by omega)⟩
theorem szp1 (hl : IsL l) [h : SzL k l] : SzP (3 * k + 2) (p1 l) := by
  have s1 : Sw (max (k + k) (k + (2 * k + 1)) + 1) (l.a * l.c + l.b * (l.a * l.a + l.b * l.b)) := @instSwHAddInt _ _ _ _ inferInstance ⟨by rw [Int.natAbs_mul]; exact mul_lt_pow h.h.2.1 nn_lt⟩
  have s2 : Sw (max (k + k) (k + (2 * k + 1)) + 1) (l.b * l.c - l.a * (l.a * l.a + l.b * l.b)) := @instSwHSubInt _ _ _ _ inferInstance ⟨by rw [Int.natAbs_mul]; exact mul_lt_pow h.h.1 nn_lt⟩
  have e : max (k + k) (k + (2 * k + 1)) + 1 = 3 * k + 2 := by omega
  rw [e] at s1 s2
  have pw : 2 ^ (2 * k + 1) ≤ 2 ^ (3 * k + 2) := Nat.pow_le_pow_right (by decide) (by omega)
  have n0 := nn_ne hl
  have en : ((l.a * l.a + l.b * l.b : Int) : Rat) = nn l := by
    unfold nn
    rw [Rat.intCast_add, Rat.intCast_mul, Rat.intCast_mul]
  have e1 : p1 l = (Rat.divInt (l.a * l.c + l.b * (l.a * l.a + l.b * l.b)) (l.a * l.a + l.b * l.b), Rat.divInt (l.b * l.c - l.a * (l.a * l.a + l.b * l.b)) (l.a * l.a + l.b * l.b)) := by
    unfold p1 p0
    rw [Rat.divInt_eq_div, Rat.divInt_eq_div, en, Rat.intCast_add, Rat.intCast_sub, Rat.intCast_mul l.b (l.a * l.a + l.b * l.b), Rat.intCast_mul l.a (l.a * l.a + l.b * l.b), en, Rat.intCast_mul, Rat.intCast_mul]
    ext <;> grind
  rw [e1]
  exact ⟨sm_divInt s1.h (Nat.lt_of_lt_of_le nn_lt pw) (by omega), sm_divInt s2.h (Nat.lt_of_lt_of_le nn_lt pw) (by omega)⟩
end
/-! ### signs -/
theorem sgQ_mul (p q : Rat) : sgQ (p * q) = sgQ p * sgQ q := by
  have f : ∀ x : Rat, (0 < x → sgQ x = 1) ∧ (x < 0 → sgQ x = -1) := fun x => by
    refine ⟨fun h => ?_, fun h => ?_⟩
    · have : 0 < x.num := by simpa [Rat.lt_iff] using h
      unfold sgQ
      rw [if_pos this]
    · have : x.num < 0 := by simpa [Rat.lt_iff] using h
      unfold sgQ
      rw [if_neg (by omega), if_pos this]
  have tri : ∀ x : Rat, 0 < x ∨ x = 0 ∨ x < 0 := fun x => by grind
  have z : sgQ 0 = 0 := rfl
  rcases tri p with h1 | h1 | h1
  · rcases tri q with h2 | h2 | h2
    · rw [(f _).1 (Rat.mul_pos h1 h2), (f _).1 h1, (f _).1 h2]; rfl
    · subst h2; rw [Rat.mul_zero, z, Int.mul_zero]
    · rw [(f _).2 (by have := Rat.mul_pos (a := p) (b := -q) h1 (by grind); grind), (f _).1 h1, (f _).2 h2]; rfl
  · subst h1; rw [Rat.zero_mul, z, Int.zero_mul]
  · rcases tri q with h2 | h2 | h2
    · rw [(f _).2 (by have := Rat.mul_pos (a := -p) (b := q) (by grind) h2; grind), (f _).2 h1, (f _).1 h2]; rfl
    · subst h2; rw [Rat.mul_zero, z, Int.mul_zero]
    · rw [(f _).1 (by have := Rat.mul_pos (a := -p) (b := -q) (by grind) (by grind); grind), (f _).2 h1, (f _).2 h2]; rfl
theorem sgQ_sq {q : Rat} : sgQ q * sgQ q = 0 ∨ sgQ q * sgQ q = 1 := by
  unfold sgQ
  split
  · right; rfl
  · split
    · right; rfl
    · left; rfl
end DI
set_option Elab.async false
set_option linter.all false
set_option maxRecDepth 100000
set_option maxHeartbeats 400000
/-! DS5: lists drawn; loops of the helpers -/
namespace DI
open PySem PySem.Spec PyProof.Rows L2
section
variable {C : Call} {wf n c : Nat} {μ : Mem}
/-- a list of drawn things -/
theorem draws {α : Type} (g : α → D) (P : α → Prop) (K : Nat) {step : D → Mem → Option (Option D × Mem)} {c : Nat} (hstep : ∀ (x : D) (μ : Mem) (b : Nat), Pur μ c b → b + K < 2 ^ 190 → ∃ (a : α) (μ' : Mem), step x μ = some (some (g a), μ') ∧ P a ∧ Pur μ' c (b + K) ∧ Ot c μ μ') :
    ∀ (xs : List D) (b : Nat) (μ : Mem), Pur μ c b → b + K * xs.length < 2 ^ 190 → ∃ (l : List α) (μ' : Mem), compGo step (fun _ => true) xs μ = some (l.map g, μ') ∧ l.length = xs.length ∧ (∀ p, p ∈ l → P p) ∧ Pur μ' c (b + K * xs.length) ∧ Ot c μ μ'
  | [], b, μ, h, _ => ⟨[], μ, rfl, rfl, (fun _ z => nomatch z), h, Ot.refl⟩
  | x :: xs, b, μ, h, hb => by
    rw [List.length_cons, Nat.mul_succ] at hb
    obtain ⟨p, μ1, e1, s1, h1, o1⟩ := hstep x μ b h (by omega)
    obtain ⟨l, μ2, e2, l2, s2, h2, o2⟩ := draws g P K hstep xs (b + K) μ1 h1 (by omega)
    refine ⟨p :: l, μ2, ?_, by simp [l2], fun q hq => ?_, by rw [List.length_cons, Nat.mul_succ]; exact h2.mono (by omega), o1.trans o2⟩
    · unfold compGo
      rw [e1]
      simp [e2]
    · rcases List.mem_cons.mp hq with rfl | hq
      · exact s1
      · exact s2 q hq
/-- [.. for i in range(k)], drawn -/
theorem draws_rng {α : Type} (g : α → D) (P : α → Prop) (K : Nat) {elt : ME} {j k c b : Nat} {es : List ME} {own : List Nat} {env : Ev} {μ μ0 : Mem} (hk : evEs C es env μ0 = some ([.int k], μ)) (lk : k ≤ 1000000)
    (hstep : ∀ (x : D) (μ : Mem) (b : Nat), Pur μ c b → b + K < 2 ^ 190 → ∃ (a : α) (μ' : Mem), evE C elt ((wipeE env own).set j (.val x)) μ = some (g a, μ') ∧ P a ∧ Pur μ' c (b + K) ∧ Ot c μ μ') (h : Pur μ c b) (hb : b + K * k < 2 ^ 190) :
    ∃ (l : List α) (μ' : Mem), evE C (.comp elt (.nm j) (.rng es) [] own) env μ0 = some (.lst (l.map g), μ') ∧ l.length = k ∧ (∀ p, p ∈ l → P p) ∧ Pur μ' c (b + K * k) ∧ Ot c μ μ' := by
  have hI : evI C (.rng es) env μ0 = some ((rangeD 0 k, []), μ) := by
    refine rng1 hk ?_
    simp only [rangeOk, Bool.and_eq_true, decide_eq_true_eq]
    omega
  have rl : (rangeD 0 (k : Int)).length = k := by simp [rangeD]
  obtain ⟨l, μ2, e2, l2, q2, h2, o2⟩ := draws g P K (c := c) (step := fun x ν => (bindG (.nm j) x (wipeE env own)).bind fun e1 => (evCs C [] e1 ν).bind fun cc =>
          if cc.1 then (evE C elt e1 cc.2).map fun q => (some q.1, q.2) else some (none, cc.2)) (fun x μ b h hb => by
    obtain ⟨p, μ', e, q, h', o'⟩ := hstep x μ b h hb
    exact ⟨p, μ', by simp [e], q, h', o'⟩) (rangeD 0 k) b μ h (by rw [rl]; omega)
  rw [rl] at h2 l2
  refine ⟨l, μ2, ?_, l2, q2, h2, o2⟩
  rw [evE, hI]
  simp only [Option.bind_some, List.all_nil, if_true]
  rw [e2]
  have sl : (l.map g).length ≤ sizeLine := by
    rw [List.length_map]
    unfold sizeLine
    omega
  simp only [Option.bind_some, sl, if_true]
theorem gcd_loop6 {a b c : D} : ∀ (w y x : Nat) (v : Sl), y < w →
    whileGo (fun e ν => evT C (.cmp .ne (.var 4) (.int 0)) e ν) (fun e ν => evSs C wf [.par [3, 4] [.var 4, .op .mod (.var 3) (.var 4)]] e ν) w [.val a, .val b, .val c, .val (.int x), .val (.int y), v] μ = some (.nx [.val a, .val b, .val c, .val (.int (Nat.gcd x y : Nat)), .val (.int 0), v], μ)
  | 0, y, x, v, h => absurd h (Nat.not_lt_zero _)
  | w + 1, y, x, v, h => by
    by_cases hy : y = 0
    · subst hy
      rw [while_end w (μ1 := μ) (by simp [eqD_int]), Nat.gcd_zero_right]
      rfl
    · have hy' : ¬ ((y : Int) = 0) := by omega
      have e : opI .mod (x : Int) y = some ((x % y : Nat) : Int) := by
        rw [opI_mod (by omega), Int.fmod_eq_emod_of_nonneg _ (by omega)]
        rfl
      have ih := gcd_loop6 (a := a) (b := b) (c := c) w (x % y) y v (by have := Nat.mod_lt x (Nat.pos_of_ne_zero hy); omega)
      rw [while_go w (μ1 := μ) (μ2 := μ) (e := [.val a, .val b, .val c, .val (.int y), .val (.int (x % y : Nat)), v]) (by simp [eqD_int, hy]) (by simp [e, parE, -Int.natCast_emod]), ih, Nat.gcd_comm y, ← Nat.gcd_rec, Nat.gcd_comm y]
theorem bi_gcd (i j : Int) : biD μ .gcd [.int i, .int j] = some (.int (Nat.gcd i.natAbs j.natAbs : Nat)) := rfl
end
namespace B
def plain_line : MF := { params := 3, slots := 4, fresh := false, body := [
  .asg (.nm 3) (.bi .gcd [.bi .gcd [.var 0, .var 1], .var 2]),
  .asg (.nm 3) (.ite (.or (.cmp .gt (.var 0) (.int 0)) (.and (.cmp .eq (.var 0) (.int 0)) (.cmp .gt (.var 1) (.int 0)))) (.var 3) (.op .sub (.int 0) (.var 3))),
  .ret (.tup [.op .fdiv (.var 0) (.var 3), .op .fdiv (.var 1) (.var 3), .op .fdiv (.var 2) (.var 3)])] }
def law_line : MF := { params := 3, slots := 6, fresh := false, body := [
  .par [3, 4] [.bi .abs [.var 0], .bi .abs [.var 1]],
  .whl (.cmp .ne (.var 4) (.int 0)) [
    .par [3, 4] [.var 4, .op .mod (.var 3) (.var 4)]],
  .asg (.nm 4) (.bi .abs [.var 2]),
  .whl (.cmp .ne (.var 4) (.int 0)) [
    .par [3, 4] [.var 4, .op .mod (.var 3) (.var 4)]],
  .asg (.nm 5) (.ite (.or (.cmp .gt (.var 0) (.int 0)) (.and (.cmp .eq (.var 0) (.int 0)) (.cmp .gt (.var 1) (.int 0)))) (.var 3) (.neg (.var 3))),
  .ret (.tup [.op .fdiv (.var 0) (.var 5), .op .fdiv (.var 1) (.var 5), .op .fdiv (.var 2) (.var 5)])] }
def common_below : MF := { params := 1, slots := 4, fresh := false, body := [
  .asg (.nm 1) (.int 1),
  .for (.tp [.nm 2, .nm 3]) (.seq (.var 0)) [
    .asg (.nm 1) (.op .mul (.var 1) (.op .fdiv (.var 3) (.bi .gcd [.var 1, .var 3])))],
  .ret (.var 1)] }
def wholes (c : Nat) : MF := { params := 1, slots := 4, fresh := false, body := [
  .asg (.nm 1) (.call c [.var 0]),
  .ret (.comp (.op .mul (.var 2) (.op .fdiv (.var 1) (.var 3))) (.tp [.nm 2, .nm 3]) (.seq (.var 0)) [] [2, 3])] }
end B
section
variable {T : List MF} {wf n i m : Nat} {μ : Mem} {x y z : Int}
theorem mC_lt (h : x ≠ 0 ∨ y ≠ 0) [hx : Sw m x] [hy : Sw m y] : (mC x y z).natAbs < 2 ^ m := by
  have e : (mC x y z).natAbs = gc x y z := by unfold mC; split <;> omega
  rw [e]
  unfold gc
  rcases h with h | h
  · exact Nat.lt_of_le_of_lt (Nat.le_of_dvd (by omega) (Nat.dvd_trans (Nat.gcd_dvd_left ..) (Nat.gcd_dvd_left ..))) hx.h
  · exact Nat.lt_of_le_of_lt (Nat.le_of_dvd (by omega) (Nat.dvd_trans (Nat.gcd_dvd_left ..) (Nat.gcd_dvd_right ..))) hy.h
theorem plain_ok (hT : T[i]? = some B.plain_line) (h : x ≠ 0 ∨ y ≠ 0) [Sw m x] [Sw m y] (hm : m < 8990) : callN T wf (n + 1) i [.int x, .int y, .int z] μ = some (dL (canon x y z), μ) := by
  refine run_ret hT rfl ?_
  have lt := mC_lt (z := z) h
  have ne := mC_ne (c := z) h
  have hd : ∀ u : Int, opI .fdiv u (mC x y z) = some (u.fdiv (mC x y z)) := fun u => opI_fdiv ne lt (by omega)
  have e2 : (if Lead x y then (gc x y z : Int) else 0 - (gc x y z : Int)) = mC x y z := rfl
  have gg : Nat.gcd (Nat.gcd x.natAbs y.natAbs) z.natAbs = gc x y z := rfl
  unfold canon dL
  by_cases l1 : 0 < x
  · have : Lead x y := .inl l1
    rw [if_pos this] at e2
    simp [B.plain_line, bi_gcd, l1, gg, e2, hd, sizeLine]
  · by_cases l2 : x = 0
    · by_cases l3 : 0 < y
      · have : Lead x y := .inr ⟨l2, l3⟩
        rw [if_pos this] at e2
        subst l2
        simp only [Int.natAbs_zero] at gg
        simp [B.plain_line, bi_gcd, l3, gg, e2, hd, sizeLine, eqD_int]
        simp at gg
        simp [gg, e2, hd]
      · have : ¬ Lead x y := fun z => by rcases z with z | z <;> omega
        rw [if_neg this] at e2
        subst l2
        simp only [Int.natAbs_zero] at gg
        simp at gg e2
        simp [B.plain_line, bi_gcd, l3, gg, e2, hd, sizeLine, eqD_int]
    · have : ¬ Lead x y := fun z => by rcases z with z | z <;> omega
      rw [if_neg this] at e2
      simp at e2
      simp [B.plain_line, bi_gcd, l1, l2, gg, e2, hd, sizeLine, eqD_int]
theorem law_line_ok (hT : T[i]? = some B.law_line) (h : x ≠ 0 ∨ y ≠ 0) [hx : Sw m x] [hy : Sw m y] [hz : Sw m z] (hm : m < 8000) (hw : WF wf) : callN T wf (n + 1) i [.int x, .int y, .int z] μ = some (dL (canon x y z), μ) := by
  refine run_ret hT rfl ?_
  have lt := mC_lt (z := z) h
  have ne := mC_ne (c := z) h
  have hd : ∀ u : Int, opI .fdiv u (mC x y z) = some (u.fdiv (mC x y z)) := fun u => opI_fdiv ne lt (by omega)
  have e2 : (if Lead x y then (gc x y z : Int) else 0 - (gc x y z : Int)) = mC x y z := rfl
  have gg : Nat.gcd (Nat.gcd x.natAbs y.natAbs) z.natAbs = gc x y z := rfl
  have pw := hw m (by omega)
  have lp1 := gcd_loop6 (C := callN T wf n) (wf := wf) (μ := μ) (a := .int x) (b := .int y) (c := .int z) wf y.natAbs x.natAbs .un (Nat.lt_of_lt_of_le hy.h pw)
  have lp2 := gcd_loop6 (C := callN T wf n) (wf := wf) (μ := μ) (a := .int x) (b := .int y) (c := .int z) wf z.natAbs (Nat.gcd x.natAbs y.natAbs) .un (Nat.lt_of_lt_of_le hz.h pw)
  rw [gg] at lp2
  unfold canon dL
  refine (ss_nx (e := [.val (.int x), .val (.int y), .val (.int z), .val (.int (x.natAbs : Nat)), .val (.int (y.natAbs : Nat)), .un]) (μ1 := μ) (by simp [B.law_line, parE, abs_nat])).trans ?_
  refine (ss_nx (by rw [evS]; exact lp1)).trans ?_
  refine (ss_nx (e := [.val (.int x), .val (.int y), .val (.int z), .val (.int (Nat.gcd x.natAbs y.natAbs : Nat)), .val (.int (z.natAbs : Nat)), .un]) (μ1 := μ) (by simp [abs_nat])).trans ?_
  refine (ss_nx (by rw [evS]; exact lp2)).trans ?_
  refine (ss_asg (d := .int (mC x y z)) (μ1 := μ) ?_).trans (ss_ret ?_)
  · by_cases l1 : 0 < x
    · have : Lead x y := .inl l1
      rw [if_pos this] at e2
      simp [l1, e2]
    · by_cases l2 : x = 0
      · by_cases l3 : 0 < y
        · have : Lead x y := .inr ⟨l2, l3⟩
          rw [if_pos this] at e2
          simp [l1, l2, l3, eqD_int]
          rw [← l2, e2]
        · have : ¬ Lead x y := fun z => by rcases z with z | z <;> omega
          rw [if_neg this, Int.zero_sub] at e2
          simp [l1, l2, l3, eqD_int]
          rw [← l2, e2]
      · have : ¬ Lead x y := fun z => by rcases z with z | z <;> omega
        rw [if_neg this, Int.zero_sub] at e2
        simp [l1, l2, eqD_int, e2]
  · simp [hd, sizeLine]
/-! ### whole numbers of fractions -/
theorem dvd_prod {l : List Rat} {q : Rat} (h : q ∈ l) : q.den ∣ (l.map Rat.den).prod := by
  induction l with
  | nil => cases h
  | cons a l ih =>
    rw [List.map_cons, List.prod_cons]
    rcases List.mem_cons.mp h with rfl | h
    · exact Nat.dvd_mul_right ..
    · exact Nat.dvd_trans (ih h) (Nat.dvd_mul_left ..)
theorem prod_pos (l : List Rat) : 0 < (l.map Rat.den).prod := by
  induction l with
  | nil => simp
  | cons a l ih =>
    rw [List.map_cons, List.prod_cons]
    exact Nat.mul_pos a.den_pos ih
theorem common_ok (hT : T[i]? = some B.common_below) {l : List Rat} {k : Nat} (hB : (l.map Rat.den).prod < 2 ^ k) (hk : k < 8990) :
    ∃ N : Nat, 0 < N ∧ (∀ q, q ∈ l → q.den ∣ N) ∧ N ∣ (l.map Rat.den).prod ∧ callN T wf (n + 1) i [.lst (l.map dQ)] μ = some (.int N, μ) := by
  have pp := prod_pos l
  obtain ⟨env', μ', hf, f, done, rest, v2, v3, he, hr, hall, h0, h1, h2, hmu⟩ := for_run (C := callN T wf n) (wf := wf) (tg := .tp [.nm 2, .nm 3]) (body := [.asg (.nm 1) (.op .mul (.var 1) (.op .fdiv (.var 3) (.bi .gcd [.var 1, .var 3])))]) (src := .seq (.var 0))
    (env := [.val (.lst (l.map dQ)), .val (.int 1), .un, .un]) (μ := μ) (μ1 := μ) (xs := l.map dQ) (lks := [])
    (P := fun r e ν => ∃ (f : Nat) (done rest : List Rat) (v2 v3 : Sl), e = [.val (.lst (l.map dQ)), .val (.int f), v2, v3] ∧ r = rest.map dQ ∧ done ++ rest = l ∧ 0 < f ∧ (∀ q, q ∈ done → q.den ∣ f) ∧ f ∣ (done.map Rat.den).prod ∧ ν = μ)
    (by simp [evI_seq, itemsD, seqV, lockOf]) rfl (fun _ _ _ _ => rfl) (fun x r e ν q => by
      obtain ⟨f, done, rest, v2, v3, he, hr, hall, h0, h1, h2, hmu⟩ := q
      subst hmu he
      cases rest with
      | nil => simp at hr
      | cons q rest =>
        rw [List.map_cons] at hr
        obtain ⟨rfl, rfl⟩ := List.cons.inj hr
        have hd := Nat.le_of_dvd pp (dvd_prod (l := l) (q := q) (by rw [← hall]; simp))
        have hfp : f * q.den ∣ (l.map Rat.den).prod := by
          rw [← hall, List.map_append, List.prod_append, List.map_cons, List.prod_cons, ← Nat.mul_assoc]
          exact Nat.dvd_trans (Nat.mul_dvd_mul h2 (Nat.dvd_refl _)) (Nat.dvd_mul_right ..)
        have hfl := Nat.le_of_dvd pp hfp
        have q0 := q.den_pos
        have g0 : 0 < Nat.gcd f q.den := Nat.gcd_pos_of_pos_left _ h0
        have gd : Nat.gcd f q.den ≤ q.den := Nat.le_of_dvd q0 (Nat.gcd_dvd_right ..)
        have f1 : f ≤ f * q.den := Nat.le_mul_of_pos_right _ q0
        have e1 : opI .fdiv (q.den : Int) (Nat.gcd f q.den : Nat) = some ((q.den / Nat.gcd f q.den : Nat) : Int) := by
          rw [opI_fdiv (n := k) (by omega) (by rw [Int.natAbs_natCast]; omega) (by omega), Int.fdiv_eq_ediv_of_nonneg _ (by omega)]
          rfl
        have l2 : q.den / Nat.gcd f q.den ≤ q.den := Nat.div_le_self ..
        have e2 : opI .mul (f : Int) ((q.den / Nat.gcd f q.den : Nat) : Int) = some ((f * (q.den / Nat.gcd f q.den) : Nat) : Int) := by
          rw [opI_mul (n := k) (m := k) (by rw [Int.natAbs_natCast]; omega) (by rw [Int.natAbs_natCast]; omega) (by omega), Int.natCast_mul]
        have e3 : biD ν .gcd [.int f, .int q.den] = some (.int (Nat.gcd f q.den : Nat)) := rfl
        refine ⟨_, [.val (.lst (l.map dQ)), .val (.int (f * (q.den / Nat.gcd f q.den) : Nat)), .val (.int q.num), .val (.int q.den)], ν, rfl, ?_, f * (q.den / Nat.gcd f q.den), done ++ [q], rest, _, _, rfl, rfl, by rw [← hall]; simp, ?_, ?_, ?_, rfl⟩
        · simp [e1, e2, e3, -Int.natCast_ediv, -Int.natCast_mul]
        · exact Nat.mul_pos h0 (Nat.div_pos gd g0)
        · intro p hp
          rcases List.mem_append.mp hp with hp | hp
          · exact Nat.dvd_trans (h1 p hp) (Nat.dvd_mul_right ..)
          · rw [List.mem_singleton] at hp
            subst hp
            obtain ⟨k1, hk1⟩ := Nat.gcd_dvd_left f p.den
            have : f * (p.den / Nat.gcd f p.den) = k1 * p.den := by
              conv => lhs; arg 1; rw [hk1]
              rw [Nat.mul_right_comm, Nat.mul_div_cancel' (Nat.gcd_dvd_right ..), Nat.mul_comm]
            rw [this]
            exact Nat.dvd_mul_left ..
        · rw [List.map_append, List.prod_append, List.map_cons, List.map_nil, List.prod_cons, List.prod_nil, Nat.mul_one]
          exact Nat.mul_dvd_mul h2 (Nat.div_dvd_of_dvd (Nat.gcd_dvd_right ..))) ⟨1, [], l, .un, .un, rfl, rfl, rfl, by omega, (fun _ z => nomatch z), by simp, rfl⟩
  have hr0 : rest = [] := by
    cases rest with
    | nil => rfl
    | cons _ _ => simp at hr
  subst hr0 hmu
  rw [List.append_nil] at hall
  subst hall
  exact ⟨f, h0, h1, h2, run_ret hT rfl (by simp [B.common_below, hf, he])⟩
theorem wholes_ok {c : Nat} (hC : T[c]? = some B.common_below) (hT : T[i]? = some (B.wholes c)) {l : List Rat} {k s : Nat} (hB : (l.map Rat.den).prod < 2 ^ k) (hk : k < 8990) (hs : ∀ q, q ∈ l → q.num.natAbs < 2 ^ s) (hs2 : s < 8990) (hl : l.length ≤ 1000) :
    ∃ N : Nat, 0 < N ∧ (∀ q, q ∈ l → q.den ∣ N) ∧ N ∣ (l.map Rat.den).prod ∧ callN T wf (n + 2) i [.lst (l.map dQ)] μ = some (.lst (l.map fun q => .int (q.num * (N / q.den : Nat))), μ) := by
  obtain ⟨N, h0, h1, h2, e⟩ := common_ok (wf := wf) (n := n) (μ := μ) hC hB hk
  have pp := Nat.le_of_dvd (prod_pos l) h2
  refine ⟨N, h0, h1, h2, run_ret hT rfl ?_⟩
  have hc := comp_mapA (C := callN T wf (n + 1)) (tg := .tp [.nm 2, .nm 3]) (elt := .op .mul (.var 2) (.op .fdiv (.var 1) (.var 3))) (own := [2, 3]) (src := .seq (.var 0)) (env := [.val (.lst (l.map dQ)), .val (.int N), .un, .un]) (μ := μ) (μ1 := μ) (l := l) (lks := []) (e := dQ) (g := fun q => .int (q.num * (N / q.den : Nat)))
    (by simp [evI_seq, itemsD, seqV, lockOf]) rfl (fun q hq => by
      have d1 := Nat.le_of_dvd h0 (h1 q hq)
      have q0 := q.den_pos
      have e1 : opI .fdiv (N : Int) q.den = some ((N / q.den : Nat) : Int) := by
        rw [opI_fdiv (n := k) (by omega) (by rw [Int.natAbs_natCast]; omega) (by omega), Int.fdiv_eq_ediv_of_nonneg _ (by omega)]
        rfl
      have l2 : N / q.den ≤ N := Nat.div_le_self ..
      have e2 := opI_mul (i := q.num) (j := ((N / q.den : Nat) : Int)) (n := s) (m := k) (hs q hq) (by rw [Int.natAbs_natCast]; omega) (by omega)
      simp [dQ, wipeE, e1, e2, -Int.natCast_ediv]) (by unfold sizeLine; omega)
  refine (ss_asg (d := .int N) (μ1 := μ) (by simp [e])).trans (ss_ret hc)
end
end DI
set_option Elab.async false
set_option linter.all false
set_option maxRecDepth 100000
set_option maxHeartbeats 400000
/-! DS6: drawn numbers closer told; the same data are equal -/
namespace DI
open PySem PySem.Spec PyProof.Rows L2
/-- a drawn number: above, below -/
def Nm (q : Rat) : Prop := ∃ u v : Int, q = Rat.divInt u v ∧ u.natAbs ≤ 1000000 ∧ 1 ≤ v ∧ v ≤ 6
def NmP (p : Rat × Rat) : Prop := Nm p.1 ∧ Nm p.2
theorem Nm.sm {q : Rat} (h : Nm q) : Sm 30 q := by
  obtain ⟨u, v, rfl, h1, h2, h3⟩ := h
  exact sm_divInt (by omega) (by omega) (by decide)
theorem NmP.sz {p : Rat × Rat} (h : NmP p) : SzP 30 p := ⟨h.1.sm, h.2.sm⟩
/-- a share of sixty -/
theorem Nm.sixty {q : Rat} (h : Nm q) : ∃ k : Int, k.natAbs ≤ 60000000 ∧ (k : Rat) = 60 * q := by
  obtain ⟨u, v, rfl, h1, h2, h3⟩ := h
  have f : ∀ w : Int, v * w = 60 → w.natAbs ≤ 60 → ∃ k : Int, k.natAbs ≤ 60000000 ∧ (k : Rat) = 60 * Rat.divInt u v := fun w e l => by
    refine ⟨u * w, ?_, ?_⟩
    · rw [Int.natAbs_mul]
      have := Nat.mul_le_mul h1 l
      omega
    · rw [Rat.divInt_eq_div, Rat.intCast_mul]
      have v0 : (v : Rat) ≠ 0 := cast_ne (by omega)
      have e2 : (v : Rat) * (w : Rat) = 60 := by
        rw [← Rat.intCast_mul, e]
        rfl
      grind
  have : v = 1 ∨ v = 2 ∨ v = 3 ∨ v = 4 ∨ v = 5 ∨ v = 6 := by omega
  rcases this with rfl | rfl | rfl | rfl | rfl | rfl
  · exact f 60 rfl (by decide)
  · exact f 30 rfl (by decide)
  · exact f 20 rfl (by decide)
  · exact f 15 rfl (by decide)
  · exact f 12 rfl (by decide)
  · exact f 10 rfl (by decide)
theorem thr_nm {p q : Rat × Rat} (ne : p ≠ q) (hp : NmP p) (hq : NmP q) : SzL 54 (thr p q) := by
  obtain ⟨a, a1, a2⟩ := hp.1.sixty
  obtain ⟨b, b1, b2⟩ := hp.2.sixty
  obtain ⟨c, c1, c2⟩ := hq.1.sixty
  obtain ⟨d, d1, d2⟩ := hq.2.sixty
  have e1 : ((60 * (b - d) : Int) : Rat) = 3600 * (p.2 - q.2) := by
    rw [Rat.intCast_mul, Rat.intCast_sub, b2, d2]
    show (60 : Rat) * _ = _
    grind
  have e2 : ((60 * (c - a) : Int) : Rat) = 3600 * (q.1 - p.1) := by
    rw [Rat.intCast_mul, Rat.intCast_sub, a2, c2]
    show (60 : Rat) * _ = _
    grind
  have e3 : (((b - d) * a + (c - a) * b : Int) : Rat) = 3600 * ((p.2 - q.2) * p.1 + (q.1 - p.1) * p.2) := by
    rw [Rat.intCast_add, Rat.intCast_mul, Rat.intCast_mul, Rat.intCast_sub, Rat.intCast_sub, a2, b2, c2, d2]
    grind
  obtain ⟨h1, h2⟩ := line_of (ab_ne ne) (by grind) e1 e2 e3
  rw [thr_eq ne (canon_spec h1).1 (h2 p rfl) (h2 q (by grind))]
  obtain ⟨l1, l2, l3⟩ := canon_le (c := (b - d) * a + (c - a) * b) h1
  have bd : (b - d).natAbs ≤ 120000000 := by omega
  have ca : (c - a).natAbs ≤ 120000000 := by omega
  have t1 : ((b - d) * a).natAbs ≤ 120000000 * 60000000 := by rw [Int.natAbs_mul]; exact Nat.mul_le_mul bd a1
  have t2 : ((c - a) * b).natAbs ≤ 120000000 * 60000000 := by rw [Int.natAbs_mul]; exact Nat.mul_le_mul ca b1
  exact ⟨by omega, by omega, by omega⟩
section
variable {T : List MF} {wf n i : Nat} {μ : Mem}
theorem number_nm {d f : Nat} (hD : DrawOk T wf (n + 1) d) (hF : FracOk T wf f) (hT : T[i]? = some (B.law_number d f)) (hw : 2 ^ 30 ≤ wf) {c b : Nat} (h : Pur μ c b) (hb : b + 30 < 2 ^ 190) :
    ∃ (q : Rat) (μ' : Mem), callN T wf (n + 2) i [.ref c] μ = some (dQ q, μ') ∧ Nm q ∧ Pur μ' c (b + 30) ∧ Ot c μ μ' := by
  obtain ⟨w, μ1, lw, e1, h1, o1⟩ := hD μ c b 6 h (by omega) (by decide) (by decide)
  obtain ⟨k, hk, lk⟩ : ∃ k : Nat, (if w = 0 then (1000000 : Int) else if w < 4 then 4 else 30) = k ∧ k ≤ 1000000 := by
    refine ⟨if w = 0 then 1000000 else if w < 4 then 4 else 30, ?_, ?_⟩
    · split
      · rfl
      · split <;> rfl
    · split
      · omega
      · split <;> omega
  obtain ⟨x, μ2, lx, e2, h2, o2⟩ := hD μ1 c (b + 10) (2 * k + 1) h1 (by omega) (by omega) (Nat.lt_of_le_of_lt (show 2 * k + 1 ≤ 2000001 by omega) (by decide))
  have e2' : callN T wf (n + 1) d [.ref c, .int (2 * (k : Int) + 1)] μ1 = some (.int x, μ2) := e2
  have ev : evE (callN T wf (n + 1)) (.ite (.cmp .eq (.var 1) (.int 0)) (.op .pow (.int 10) (.int 6)) (.ite (.cmp .lt (.var 1) (.int 4)) (.int 4) (.int 30))) [.val (.ref c), .val (.int w), .un] μ1 = some (.int k, μ1) := by
    rw [← hk]
    by_cases h0 : w = 0
    · simp [eqD_int, h0, pow6]
    · have h0' : ¬ ((w : Int) = 0) := by omega
      by_cases h4 : w < 4
      · have : (w : Int) < 4 := by omega
        simp [eqD_int, h0, h4, this]
      · have : ¬ (w : Int) < 4 := by omega
        simp [eqD_int, h0, h4, this]
  have em := opI_mul (i := 2) (j := (k : Int)) (n := 2) (m := 30) (by decide) (by omega) (by decide)
  have la : ((x : Int) - k).natAbs < 2 ^ 30 := by omega
  by_cases h3 : w < 3
  · have h3' : (w : Int) < 3 := by omega
    have e3 := hF n μ2 ((x : Int) - k) 1 30 (by decide) la (by decide) (by decide) hw
    refine ⟨_, μ2, run_ret hT rfl ?_, ⟨(x : Int) - k, 1, rfl, by omega, by decide, by decide⟩, h2.mono (by omega), o1.trans o2⟩
    refine (ss_asg (d := .int w) (μ1 := μ1) (by simpa using e1)).trans ((ss_asg ev).trans (ss_ret ?_))
    simp [em, e2', h3', e3]
  · have h3' : ¬ (w : Int) < 3 := by omega
    obtain ⟨y, μ3, ly, e4, h4, o3⟩ := hD μ2 c (b + 20) 6 h2 (by omega) (by decide) (by decide)
    have e4' : callN T wf (n + 1) d [.ref c, .int 6] μ2 = some (.int y, μ3) := e4
    have e1' : callN T wf (n + 1) d [.ref c, .int 6] μ = some (.int w, μ1) := e1
    have e3 := hF n μ3 ((x : Int) - k) (1 + y) 30 (by omega) la (by omega) (by decide) hw
    refine ⟨_, μ3, run_ret hT rfl ?_, ⟨(x : Int) - k, 1 + y, rfl, by omega, by omega, by omega⟩, h4.mono (by omega), (o1.trans o2).trans o3⟩
    refine (ss_asg (d := .int w) (μ1 := μ1) (by simpa using e1')).trans ((ss_asg ev).trans (ss_ret ?_))
    simp [em, e2', h3', e4', e3]
theorem point_nm {k : Nat} (hN : ∀ (μ : Mem) (c b : Nat), Pur μ c b → b + 30 < 2 ^ 190 → ∃ (q : Rat) (μ' : Mem), callN T wf n k [.ref c] μ = some (dQ q, μ') ∧ Nm q ∧ Pur μ' c (b + 30) ∧ Ot c μ μ') (hT : T[i]? = some (B.law_point k)) {c b : Nat} (h : Pur μ c b) (hb : b + 60 < 2 ^ 190) :
    ∃ (p : Pt) (μ' : Mem), callN T wf (n + 1) i [.ref c] μ = some (dP p, μ') ∧ NmP p ∧ Pur μ' c (b + 60) ∧ Ot c μ μ' := by
  obtain ⟨q1, μ1, e1, s1, h1, o1⟩ := hN μ c b h (by omega)
  obtain ⟨q2, μ2, e2, s2, h2, o2⟩ := hN μ1 c (b + 30) h1 (by omega)
  refine ⟨(q1, q2), μ2, run_ret hT rfl ?_, ⟨s1, s2⟩, h2, o1.trans o2⟩
  have sl : 2 ≤ sizeLine := by decide
  simp [B.law_point, e1, e2, sl, dP]
end
/-- without cells, texts and dicts, of so many steps down -/
def plainD : Nat → D → Bool
  | _, .non => true
  | _, .bl _ => true
  | _, .int _ => true
  | n + 1, .tup xs => xs.all (plainD n) && decide (xs.length ≤ 1000)
  | n + 1, .lst xs => xs.all (plainD n) && decide (xs.length ≤ 1000)
  | _, _ => false
theorem zip_self {α : Type} : ∀ (l : List α) (x y : α), (x, y) ∈ l.zip l → x = y ∧ x ∈ l
  | [], x, y, h => by simp at h
  | a :: l, x, y, h => by
    rw [List.zip_cons_cons, List.mem_cons] at h
    rcases h with e | hp
    · cases e; exact ⟨rfl, List.mem_cons_self⟩
    · have := zip_self l x y hp
      exact ⟨this.1, List.mem_cons_of_mem _ this.2⟩
theorem al_plain {μ : Mem} : ∀ (n : Nat) (d : D), plainD n d = true → Al μ n d d
  | 0, d, h => by
    cases d <;> first | exact .non | exact .bl _ | exact .int _ | (simp [plainD] at h)
  | n + 1, d, h => by
    have ih := al_plain (μ := μ) n
    have seq : ∀ xs : List D, (∀ x ∈ xs, plainD n x = true) → ∀ x y, (x, y) ∈ xs.zip xs → Al μ n x y := fun xs hx x y hxy => by
      obtain ⟨e, m⟩ := zip_self xs x y hxy
      rw [← e]
      exact ih x (hx x m)
    cases d with
    | non => exact .non
    | bl _ => exact .bl _
    | int _ => exact .int _
    | tup xs =>
      simp only [plainD, Bool.and_eq_true, decide_eq_true_eq, List.all_eq_true] at h
      exact .tup rfl (seq xs h.1) (by unfold sizeLine; omega)
    | lst xs =>
      simp only [plainD, Bool.and_eq_true, decide_eq_true_eq, List.all_eq_true] at h
      exact .lst rfl (seq xs h.1) (by unfold sizeLine; omega)
    | _ => simp [plainD] at h
/-- as the kit's data -/
theorem py_plain {cf : Nat → Option PyData} : ∀ (n : Nat) (d : D), plainD n d = true → ∃ x, pyW cf d = some x ∧ x.canLay0 = true ∧ x.depth ≤ n ∧ PyData.eqv x x = true
  | 0, d, h => by
    cases d with
    | non => exact ⟨.none, by simp [pyW], rfl, by simp [PyData.depth], by simp [PyData.eqv]⟩
    | bl b => exact ⟨.bool b, by simp [pyW], rfl, by simp [PyData.depth], by simp [PyData.eqv]⟩
    | int i => exact ⟨.int i, by simp [pyW], rfl, by simp [PyData.depth], by simp [PyData.eqv]⟩
    | _ => simp [plainD] at h
  | n + 1, d, h => by
    have ih := py_plain (cf := cf) n
    have seq : ∀ xs : List D, (∀ x ∈ xs, plainD n x = true) → ∃ ys, pyWs cf xs = some ys ∧ PyData.canLayAll0 ys = true ∧ PyData.depthAll ys ≤ n ∧ PyData.eqvAll ys ys = true := fun xs => by
      induction xs with
      | nil => exact fun _ => ⟨[], by simp [pyWs], by simp [PyData.canLayAll0], by simp [PyData.depthAll], by simp [PyData.eqvAll]⟩
      | cons a xs ih2 =>
        intro hx
        obtain ⟨y, y1, y2, y3, y4⟩ := ih a (hx a List.mem_cons_self)
        obtain ⟨ys, z1, z2, z3, z4⟩ := ih2 fun x hm => hx x (List.mem_cons_of_mem _ hm)
        refine ⟨y :: ys, by simp [pyWs, y1, z1], by simp [PyData.canLayAll0, y2, z2], ?_, by simp [PyData.eqvAll, y4, z4]⟩
        simp only [PyData.depthAll]
        omega
    cases d with
    | non => exact ⟨.none, by simp [pyW], rfl, by simp [PyData.depth], by simp [PyData.eqv]⟩
    | bl b => exact ⟨.bool b, by simp [pyW], rfl, by simp [PyData.depth], by simp [PyData.eqv]⟩
    | int i => exact ⟨.int i, by simp [pyW], rfl, by simp [PyData.depth], by simp [PyData.eqv]⟩
    | tup xs =>
      simp only [plainD, Bool.and_eq_true, decide_eq_true_eq, List.all_eq_true] at h
      obtain ⟨ys, z1, z2, z3, z4⟩ := seq xs h.1
      exact ⟨.tuple ys, by simp [pyW, z1], by simpa [PyData.canLay0] using z2, by simp only [PyData.depth]; omega, by simp [PyData.eqv, z4]⟩
    | lst xs =>
      simp only [plainD, Bool.and_eq_true, decide_eq_true_eq, List.all_eq_true] at h
      obtain ⟨ys, z1, z2, z3, z4⟩ := seq xs h.1
      exact ⟨.list ys, by simp [pyW, z1], by simpa [PyData.canLay0] using z2, by simp only [PyData.depth]; omega, by simp [PyData.eqv, z4]⟩
    | _ => simp [plainD] at h
theorem eqD_refl {μ : Mem} (n : Nat) {d : D} (h : plainD n d = true) (hn : n ≤ 60) : eqD μ d d = some true := by
  obtain ⟨x, h1, h2, h3, h4⟩ := py_plain (cf := cellPy μ 8) n d h
  have sh := shaped_of (d := x) ⟨h2, by omega⟩
  unfold eqD toPy
  rw [h1]
  simp [sh, h4]
/-! ### at most one key -/
theorem putD_one {k : Key} {v : D} {kvs : List (Key × D)} (h : ∀ p, p ∈ kvs → p.1 = k) (l : kvs.length ≤ 1) : (putD kvs k v).length ≤ 1 ∧ ∀ p, p ∈ putD kvs k v → p.1 = k := by
  match kvs, h, l with
  | [], _, _ => simp [putD]
  | [(k', v')], h, _ =>
    have : k' = k := h (k', v') List.mem_cons_self
    subst this
    simp [putD]
  | _ :: _ :: _, _, l => simp at l
theorem mergeD_one {k : Key} : ∀ (ms kvs : List (Key × D)), (∀ p, p ∈ ms → p.1 = k) → (∀ p, p ∈ kvs → p.1 = k) → kvs.length ≤ 1 → (mergeD kvs ms).length ≤ 1
  | [], kvs, _, _, l => l
  | m :: ms, kvs, h1, h2, l => by
    have hm : m.1 = k := h1 m List.mem_cons_self
    obtain ⟨a, b⟩ := putD_one (k := m.1) (v := m.2) (kvs := kvs) (by rw [hm]; exact h2) l
    rw [hm] at a b
    have := mergeD_one ms (putD kvs k m.2) (fun p hp => h1 p (List.mem_cons_of_mem _ hp)) b a
    have e : mergeD kvs (m :: ms) = mergeD (putD kvs m.1 m.2) ms := rfl
    rw [e, hm]
    exact this
end DI
set_option Elab.async false
set_option linter.all false
set_option maxRecDepth 100000
set_option maxHeartbeats 400000
/-! DS7: how plain data are shown; helpers of the second kind -/
namespace DI
open PySem PySem.Spec PyProof.Rows L2
/-! ### repr -/
mutual
/-- as many signs at most, whole numbers of fewer than m bits -/
def wt (m : Nat) : D → Nat
  | .tup xs => wts m xs + 2 * xs.length + 3
  | .lst xs => wts m xs + 2 * xs.length + 3
  | _ => m + 5
def wts (m : Nat) : List D → Nat
  | [] => 0
  | x :: xs => wt m x + wts m xs
end
mutual
/-- whole numbers of fewer than m bits -/
def bitsD (m : Nat) : D → Bool
  | .int i => decide (i.natAbs < 2 ^ m)
  | .tup xs => bitsDs m xs
  | .lst xs => bitsDs m xs
  | _ => true
def bitsDs (m : Nat) : List D → Bool
  | [] => true
  | x :: xs => bitsD m x && bitsDs m xs
end
theorem wts_map {α : Type} {m b : Nat} {g : α → D} : ∀ l : List α, (∀ x, x ∈ l → wt m (g x) ≤ b) → wts m (l.map g) ≤ b * l.length
  | [], _ => by simp [wts]
  | x :: l, h => by
    have h1 := wts_map (b := b) l fun y hy => h y (List.mem_cons_of_mem _ hy)
    have h2 := h x List.mem_cons_self
    rw [List.map_cons, wts, List.length_cons, Nat.mul_add, Nat.mul_one]
    omega
theorem bits_map {α : Type} {m : Nat} {g : α → D} : ∀ l : List α, (∀ x, x ∈ l → bitsD m (g x) = true) → bitsDs m (l.map g) = true
  | [], _ => rfl
  | x :: l, h => by
    rw [List.map_cons, bitsDs, h x List.mem_cons_self, bits_map l fun y hy => h y (List.mem_cons_of_mem _ hy)]
    rfl
theorem show_plain {cf : Nat → Option PyData} {m : Nat} (hm : m < 1900) : ∀ (n : Nat) (d : D), plainD n d = true → bitsD m d = true → ∃ x, pyW cf d = some x ∧ x.canLay0 = true ∧ x.depth ≤ n ∧ x.showable = true ∧ PyData.strOk x.shown = true ∧ x.shown.length ≤ wt m d := by
  have leaf : ∀ (n : Nat) (d : D), plainD 0 d = true → bitsD m d = true → ∃ x, pyW cf d = some x ∧ x.canLay0 = true ∧ x.depth ≤ n ∧ x.showable = true ∧ PyData.strOk x.shown = true ∧ x.shown.length ≤ wt m d := fun n d h hb => by
    cases d with
    | non => exact ⟨.none, by simp [pyW], rfl, by simp [PyData.depth], rfl, ok_of _, Nat.le_trans (show _ ≤ 4 by decide) (by simp only [wt]; omega)⟩
    | bl b => exact ⟨.bool b, by simp [pyW], rfl, by simp [PyData.depth], rfl, by cases b <;> exact ok_of _, Nat.le_trans (show _ ≤ 5 by cases b <;> decide) (by simp only [wt]; omega)⟩
    | int i =>
      simp only [bitsD, decide_eq_true_eq] at hb
      refine ⟨.int i, by simp [pyW], rfl, by simp [PyData.depth], ?_, ok_of _, Nat.le_trans (len_int hb) (by simp only [wt]; omega)⟩
      have := log2_lt hb
      simp only [PyData.showable, decide_eq_true_eq]
      omega
    | _ => simp [plainD] at h
  intro n
  induction n with
  | zero => exact fun d h hb => leaf 0 d h hb
  | succ n ih =>
    have seq : ∀ xs : List D, (∀ x ∈ xs, plainD n x = true) → bitsDs m xs = true → ∃ ys, pyWs cf xs = some ys ∧ PyData.canLayAll0 ys = true ∧ PyData.depthAll ys ≤ n ∧ PyData.showableAll ys = true ∧ (∀ t, t ∈ PyData.shownAll ys → PyData.strOk t = true) ∧ ((PyData.shownAll ys).map (fun t => t.length)).sum ≤ wts m xs ∧ (PyData.shownAll ys).length = xs.length := fun xs => by
      induction xs with
      | nil => exact fun _ _ => ⟨[], by simp [pyWs], by simp [PyData.canLayAll0], by simp [PyData.depthAll], by simp [PyData.showableAll], by simp [PyData.shownAll], by simp [PyData.shownAll], by simp [PyData.shownAll]⟩
      | cons a xs ih2 =>
        intro hx hb
        simp only [bitsDs, Bool.and_eq_true] at hb
        obtain ⟨y, y1, y2, y3, y4, y5, y6⟩ := ih a (hx a List.mem_cons_self) hb.1
        obtain ⟨ys, z1, z2, z3, z4, z5, z6, z7⟩ := ih2 (fun x hm => hx x (List.mem_cons_of_mem _ hm)) hb.2
        refine ⟨y :: ys, by simp [pyWs, y1, z1], by simp [PyData.canLayAll0, y2, z2], ?_, by simp [PyData.showableAll, y4, z4], fun t ht => ?_, ?_, by simp [PyData.shownAll, z7]⟩
        · simp only [PyData.depthAll]
          omega
        · simp only [PyData.shownAll] at ht
          rcases List.mem_cons.mp ht with rfl | ht
          · exact y5
          · exact z5 t ht
        · simp only [PyData.shownAll, List.map_cons, List.sum_cons, wts]
          omega
    intro d h hb
    cases d with
    | non => exact leaf _ _ rfl hb
    | bl b => exact leaf _ _ rfl hb
    | int i => exact leaf _ _ rfl hb
    | tup xs =>
      simp only [plainD, Bool.and_eq_true, decide_eq_true_eq, List.all_eq_true] at h
      simp only [bitsD] at hb
      obtain ⟨ys, z1, z2, z3, z4, z5, z6, z7⟩ := seq xs h.1 hb
      refine ⟨.tuple ys, by simp [pyW, z1], by simpa [PyData.canLay0] using z2, by simp only [PyData.depth]; omega, by simpa [PyData.showable] using z4, by simp only [PyData.shown]; exact ok_tuple z5, ?_⟩
      have := tupleText_len_le (PyData.shownAll ys)
      have key : PyData.shown (.tuple ys) = tupleText (PyData.shownAll ys) := by rw [PyData.shown]
      rw [key]
      simp only [wt]
      omega
    | lst xs =>
      simp only [plainD, Bool.and_eq_true, decide_eq_true_eq, List.all_eq_true] at h
      simp only [bitsD] at hb
      obtain ⟨ys, z1, z2, z3, z4, z5, z6, z7⟩ := seq xs h.1 hb
      refine ⟨.list ys, by simp [pyW, z1], by simpa [PyData.canLay0] using z2, by simp only [PyData.depth]; omega, by simpa [PyData.showable] using z4, by simp only [PyData.shown]; exact ok_list z5, ?_⟩
      have := listText_len_le (PyData.shownAll ys)
      have key : PyData.shown (.list ys) = listText (PyData.shownAll ys) := by rw [PyData.shown]
      rw [key]
      simp only [wt]
      omega
    | _ => simp [plainD] at h
theorem repr_plain {m n : Nat} {xs : List D} (h : plainD n (.lst xs) = true) (hn : n ≤ 60) (hb : bitsD m (.lst xs) = true) (hm : m < 1900) (hw : wt m (.lst xs) ≤ sizeLine) : ∃ t : Str, PyData.strOk t = true ∧ ∀ μ : Mem, biD μ .repr [.lst xs] = some (.str t) := by
  have key : ∀ μ : Mem, ∃ x, pyW (cellPy μ 8) (.lst xs) = some x ∧ biD μ .repr [.lst xs] = some (.str x.shown) ∧ PyData.strOk x.shown = true := fun μ => by
    obtain ⟨x, h1, h2, h3, h4, h5, h6⟩ := show_plain (cf := cellPy μ 8) hm n (.lst xs) h hb
    have sh := shaped_of (d := x) ⟨h2, by omega⟩
    refine ⟨x, h1, ?_, h5⟩
    have e : toPy μ (.lst xs) = some x := h1
    have : biD μ .repr [.lst xs] = ((toPy μ (.lst xs)).bind fun x => if SeqAt.shaped x && (x.showable && decide (x.shown.length ≤ sizeLine)) then some (.str x.shown) else none) := rfl
    rw [this, e]
    simp only [Option.bind_some, sh, h4, decide_eq_true (Nat.le_trans h6 hw), Bool.and_self, if_true]
  have noref : ∀ (n : Nat) (d : D), plainD n d = true → ∀ cf cg, pyW cf d = pyW cg d := fun n => by
    induction n with
    | zero => intro d h cf cg; cases d <;> first | (simp only [pyW]; done) | (simp [plainD] at h)
    | succ n ih =>
      have seq : ∀ xs : List D, (∀ x ∈ xs, plainD n x = true) → ∀ cf cg, pyWs cf xs = pyWs cg xs := fun xs => by
        induction xs with
        | nil => intro _ cf cg; simp only [pyWs]
        | cons a xs ih2 =>
          intro hx cf cg
          simp only [pyWs, ih a (hx a List.mem_cons_self) cf cg, ih2 (fun x hm => hx x (List.mem_cons_of_mem _ hm)) cf cg]
      intro d h cf cg
      cases d with
      | tup xs =>
        simp only [plainD, Bool.and_eq_true, decide_eq_true_eq, List.all_eq_true] at h
        simp only [pyW, seq xs h.1 cf cg]
      | lst xs =>
        simp only [plainD, Bool.and_eq_true, decide_eq_true_eq, List.all_eq_true] at h
        simp only [pyW, seq xs h.1 cf cg]
      | non => simp only [pyW]
      | bl _ => simp only [pyW]
      | int _ => simp only [pyW]
      | _ => simp [plainD] at h
  obtain ⟨x, h1, h2, h3⟩ := key []
  refine ⟨x.shown, h3, fun μ => ?_⟩
  obtain ⟨y, g1, g2, g3⟩ := key μ
  rw [noref n _ h (cellPy [] 8) (cellPy μ 8), g1] at h1
  cases h1
  exact g2
/-! ### fractions, made with int() -/
namespace B
def frac2 : MF := { params := 2, slots := 5, fresh := false, body := [
  .par [2, 3] [.bi .abs [.var 0], .bi .abs [.var 1]],
  .whl (.cmp .ne (.var 3) (.int 0)) [
    .par [2, 3] [.var 3, .op .mod (.bi .int [.var 2]) (.var 3)]],
  .asg (.nm 4) (.ite (.cmp .gt (.var 1) (.int 0)) (.var 2) (.op .sub (.int 0) (.var 2))),
  .ret (.tup [.op .fdiv (.var 0) (.var 4), .op .fdiv (.var 1) (.var 4)])] }
def gcd2 : MF := { params := 2, slots := 2, fresh := false, body := [
  .par [0, 1] [.bi .abs [.var 0], .bi .abs [.var 1]],
  .whl (.cmp .ne (.var 1) (.int 0)) [
    .par [0, 1] [.var 1, .op .mod (.bi .int [.var 0]) (.var 1)]],
  .ret (.var 0)] }
def law_line2 (g : Nat) : MF := { params := 3, slots := 4, fresh := false, body := [
  .asg (.nm 3) (.call g [.call g [.var 0, .var 1], .var 2]),
  .asg (.nm 3) (.ite (.or (.cmp .gt (.var 0) (.int 0)) (.and (.cmp .eq (.var 0) (.int 0)) (.cmp .gt (.var 1) (.int 0)))) (.var 3) (.op .sub (.int 0) (.var 3))),
  .ret (.tup [.op .fdiv (.var 0) (.var 3), .op .fdiv (.var 1) (.var 3), .op .fdiv (.var 2) (.var 3)])] }
def number2 (d f : Nat) : MF := { params := 2, slots := 2, fresh := false, body := [
  .ret (.call f [.op .sub (.call d [.var 0, .op .add (.op .mul (.int 2) (.var 1)) (.int 1)]) (.var 1), .ite (.cmp .gt (.call d [.var 0, .int 3]) (.int 0)) (.int 1) (.op .add (.int 1) (.call d [.var 0, .int 4]))])] }
def point2 (k : Nat) : MF := { params := 2, slots := 2, fresh := false, body := [
  .ret (.tup [.call k [.var 0, .var 1], .call k [.var 0, .var 1]])] }
end B
section
variable {T : List MF} {wf n f i m : Nat} {μ : Mem} {x y z : Int}
theorem gcd_loop2 {C : Call} {a b : D} : ∀ (w y x : Nat) (v : Sl), y < w →
    whileGo (fun e ν => evT C (.cmp .ne (.var 3) (.int 0)) e ν) (fun e ν => evSs C wf [.par [2, 3] [.var 3, .op .mod (.bi .int [.var 2]) (.var 3)]] e ν) w [.val a, .val b, .val (.int x), .val (.int y), v] μ = some (.nx [.val a, .val b, .val (.int (Nat.gcd x y : Nat)), .val (.int 0), v], μ)
  | 0, y, x, v, h => absurd h (Nat.not_lt_zero _)
  | w + 1, y, x, v, h => by
    by_cases hy : y = 0
    · subst hy
      rw [while_end w (μ1 := μ) (by simp [eqD_int]), Nat.gcd_zero_right]
      rfl
    · have hy' : ¬ ((y : Int) = 0) := by omega
      have e : opI .mod (x : Int) y = some ((x % y : Nat) : Int) := by
        rw [opI_mod (by omega), Int.fmod_eq_emod_of_nonneg _ (by omega)]
        rfl
      have ih := gcd_loop2 (C := C) (a := a) (b := b) w (x % y) y v (by have := Nat.mod_lt x (Nat.pos_of_ne_zero hy); omega)
      rw [while_go w (μ1 := μ) (μ2 := μ) (e := [.val a, .val b, .val (.int y), .val (.int (x % y : Nat)), v]) (by simp [eqD_int, hy]) (by simp [e, parE, -Int.natCast_emod]), ih, Nat.gcd_comm y, ← Nat.gcd_rec, Nat.gcd_comm y]
theorem FracOk.law2 (hT : T[f]? = some B.frac2) : FracOk T wf f := fun n μ a b m hb _ h1 hm hw => by
  refine run_ret hT rfl ?_
  have lp := gcd_loop2 (μ := μ) (wf := wf) (C := callN T wf n) (a := .int a) (b := .int b) wf b.natAbs a.natAbs .un (Nat.lt_of_lt_of_le h1 hw)
  have g : ((Nat.gcd a.natAbs b.natAbs : Nat) : Int) = (b.gcd a : Int) := by
    rw [Int.gcd_comm]
    rfl
  have g0 : b.gcd a ≠ 0 := fun z => hb (Int.gcd_eq_zero_iff.mp z).1
  have gl : b.gcd a < 2 ^ m := Nat.lt_of_le_of_lt (Nat.le_of_dvd (by omega) (Int.gcd_dvd_natAbs_left b a)) h1
  rw [g] at lp
  obtain ⟨q1, q2⟩ := fdiv_gcd (a := a) hb (m := if 0 < b then (b.gcd a : Int) else -(b.gcd a : Int)) rfl
  have hd : ∀ x : Int, opI .fdiv x (if 0 < b then (b.gcd a : Int) else -(b.gcd a : Int)) = some (x.fdiv (if 0 < b then (b.gcd a : Int) else -(b.gcd a : Int))) := fun x => opI_fdiv (by split <;> omega) (n := m) (by split <;> simpa using gl) (by omega)
  refine (ss_nx (e := [.val (.int a), .val (.int b), .val (.int (a.natAbs : Nat)), .val (.int (b.natAbs : Nat)), .un]) (μ1 := μ) (by simp [B.frac2, parE, abs_nat])).trans ?_
  refine (ss_nx (by rw [evS]; exact lp)).trans ?_
  refine (ss_asg (d := .int (if 0 < b then (b.gcd a : Int) else -(b.gcd a : Int))) (μ1 := μ) ?_).trans (ss_ret ?_)
  · by_cases h : 0 < b <;> simp [h]
  · simp [hd, q1, q2, dQ, sizeLine]
theorem gcd_loop3 {C : Call} : ∀ (w y x : Nat), y < w →
    whileGo (fun e ν => evT C (.cmp .ne (.var 1) (.int 0)) e ν) (fun e ν => evSs C wf [.par [0, 1] [.var 1, .op .mod (.bi .int [.var 0]) (.var 1)]] e ν) w [.val (.int x), .val (.int y)] μ = some (.nx [.val (.int (Nat.gcd x y : Nat)), .val (.int 0)], μ)
  | 0, y, x, h => absurd h (Nat.not_lt_zero _)
  | w + 1, y, x, h => by
    by_cases hy : y = 0
    · subst hy
      rw [while_end w (μ1 := μ) (by simp [eqD_int]), Nat.gcd_zero_right]
      rfl
    · have hy' : ¬ ((y : Int) = 0) := by omega
      have e : opI .mod (x : Int) y = some ((x % y : Nat) : Int) := by
        rw [opI_mod (by omega), Int.fmod_eq_emod_of_nonneg _ (by omega)]
        rfl
      have ih := gcd_loop3 (C := C) w (x % y) y (by have := Nat.mod_lt x (Nat.pos_of_ne_zero hy); omega)
      rw [while_go w (μ1 := μ) (μ2 := μ) (e := [.val (.int y), .val (.int (x % y : Nat))]) (by simp [eqD_int, hy]) (by simp [e, parE, -Int.natCast_emod]), ih, Nat.gcd_comm y, ← Nat.gcd_rec, Nat.gcd_comm y]
theorem gcd2_ok (hT : T[i]? = some B.gcd2) (hy : y.natAbs < wf) : callN T wf (n + 1) i [.int x, .int y] μ = some (.int (Nat.gcd x.natAbs y.natAbs : Nat), μ) := by
  refine run_ret hT rfl ?_
  refine (ss_nx (e := [.val (.int (x.natAbs : Nat)), .val (.int (y.natAbs : Nat))]) (μ1 := μ) (by simp [B.gcd2, parE, abs_nat])).trans ?_
  refine (ss_nx (by rw [evS]; exact gcd_loop3 wf y.natAbs x.natAbs hy)).trans (ss_ret (by simp))
theorem law_line2_ok {g : Nat} (hG : T[g]? = some B.gcd2) (hT : T[i]? = some (B.law_line2 g)) (h : x ≠ 0 ∨ y ≠ 0) [hx : Sw m x] [hy : Sw m y] [hz : Sw m z] (hm : m < 8000) (hw : WF wf) : callN T wf (n + 2) i [.int x, .int y, .int z] μ = some (dL (canon x y z), μ) := by
  refine run_ret hT rfl ?_
  show evSs (callN T wf (n + 1)) wf (B.law_line2 g).body [.val (.int x), .val (.int y), .val (.int z), .un] μ = _
  have lt := mC_lt (z := z) h
  have ne := mC_ne (c := z) h
  have pw := hw m (by omega)
  have hd : ∀ u : Int, opI .fdiv u (mC x y z) = some (u.fdiv (mC x y z)) := fun u => opI_fdiv ne lt (by omega)
  have e2 : (if Lead x y then (gc x y z : Int) else 0 - (gc x y z : Int)) = mC x y z := rfl
  have g1 := gcd2_ok (n := n) (μ := μ) (wf := wf) (x := x) (y := y) hG (Nat.lt_of_lt_of_le hy.h pw)
  have g2 := gcd2_ok (n := n) (μ := μ) (wf := wf) (x := ((Nat.gcd x.natAbs y.natAbs : Nat) : Int)) (y := z) hG (Nat.lt_of_lt_of_le hz.h pw)
  rw [Int.natAbs_natCast, show Nat.gcd (Nat.gcd x.natAbs y.natAbs) z.natAbs = gc x y z from rfl] at g2
  unfold canon dL
  refine (ss_asg (d := .int (gc x y z : Nat)) (μ1 := μ) (by simp [g1, g2])).trans ?_
  refine (ss_asg (d := .int (mC x y z)) (μ1 := μ) ?_).trans (ss_ret ?_)
  · by_cases l1 : 0 < x
    · have : Lead x y := .inl l1
      rw [if_pos this] at e2
      simp [l1, e2]
    · by_cases l2 : x = 0
      · by_cases l3 : 0 < y
        · have : Lead x y := .inr ⟨l2, l3⟩
          rw [if_pos this] at e2
          simp [l1, l2, l3, eqD_int]
          rw [← l2, e2]
        · have : ¬ Lead x y := fun z => by rcases z with z | z <;> omega
          rw [if_neg this, Int.zero_sub] at e2
          simp [l1, l2, l3, eqD_int]
          rw [← l2, e2]
      · have : ¬ Lead x y := fun z => by rcases z with z | z <;> omega
        rw [if_neg this, Int.zero_sub] at e2
        simp [l1, l2, eqD_int, e2]
  · simp [hd, sizeLine]
/-- a drawn number: above, below; the greatest told -/
theorem number2_ok {d f most : Nat} (hD : DrawOk T wf (n + 1) d) (hF : FracOk T wf f) (hT : T[i]? = some (B.number2 d f)) (hw : 2 ^ 30 ≤ wf) (hmost : most ≤ 1000000) {c b : Nat} (h : Pur μ c b) (hb : b + 30 < 2 ^ 190) :
    ∃ (q : Rat) (μ' : Mem), callN T wf (n + 2) i [.ref c, .int most] μ = some (dQ q, μ') ∧ Nm q ∧ Pur μ' c (b + 30) ∧ Ot c μ μ' := by
  obtain ⟨x, μ1, lx, e1, h1, o1⟩ := hD μ c b (2 * most + 1) h (by omega) (by omega) (Nat.lt_of_le_of_lt (show 2 * most + 1 ≤ 2000001 by omega) (by decide))
  obtain ⟨w, μ2, lw, e2, h2, o2⟩ := hD μ1 c (b + 10) 3 h1 (by omega) (by decide) (by decide)
  have e1' : callN T wf (n + 1) d [.ref c, .int (2 * (most : Int) + 1)] μ = some (.int x, μ1) := e1
  have e2' : callN T wf (n + 1) d [.ref c, .int 3] μ1 = some (.int w, μ2) := e2
  have em := opI_mul (i := 2) (j := (most : Int)) (n := 2) (m := 30) (by decide) (by omega) (by decide)
  have la : ((x : Int) - most).natAbs < 2 ^ 30 := by omega
  by_cases h3 : 0 < w
  · have h3' : (0 : Int) < w := by omega
    have e3 := hF n μ2 ((x : Int) - most) 1 30 (by decide) la (by decide) (by decide) hw
    refine ⟨_, μ2, run_ret hT rfl ?_, ⟨(x : Int) - most, 1, rfl, by omega, by decide, by decide⟩, h2.mono (by omega), o1.trans o2⟩
    exact ss_ret (by simp [em, e1', e2', h3, e3])
  · have h3' : ¬ (0 : Int) < w := by omega
    obtain ⟨y, μ3, ly, e4, h4, o3⟩ := hD μ2 c (b + 20) 4 h2 (by omega) (by decide) (by decide)
    have e4' : callN T wf (n + 1) d [.ref c, .int 4] μ2 = some (.int y, μ3) := e4
    have e3 := hF n μ3 ((x : Int) - most) (1 + y) 30 (by omega) la (by omega) (by decide) hw
    refine ⟨_, μ3, run_ret hT rfl ?_, ⟨(x : Int) - most, 1 + y, rfl, by omega, by omega, by omega⟩, h4.mono (by omega), (o1.trans o2).trans o3⟩
    exact ss_ret (by simp [em, e1', e2', h3, e4', e3])
theorem point2_ok {k most : Nat} (hN : ∀ (μ : Mem) (c b : Nat), Pur μ c b → b + 30 < 2 ^ 190 → ∃ (q : Rat) (μ' : Mem), callN T wf n k [.ref c, .int most] μ = some (dQ q, μ') ∧ Nm q ∧ Pur μ' c (b + 30) ∧ Ot c μ μ') (hT : T[i]? = some (B.point2 k)) {c b : Nat} (h : Pur μ c b) (hb : b + 60 < 2 ^ 190) :
    ∃ (p : Pt) (μ' : Mem), callN T wf (n + 1) i [.ref c, .int most] μ = some (dP p, μ') ∧ NmP p ∧ Pur μ' c (b + 60) ∧ Ot c μ μ' := by
  obtain ⟨q1, μ1, e1, s1, h1, o1⟩ := hN μ c b h (by omega)
  obtain ⟨q2, μ2, e2, s2, h2, o2⟩ := hN μ1 c (b + 30) h1 (by omega)
  exact ⟨(q1, q2), μ2, run_ret hT rfl (ss_ret (by simp [e1, e2, sizeLine, dP])), ⟨s1, s2⟩, h2, o1.trans o2⟩
end
end DI
set_option Elab.async false
set_option linter.all false
set_option maxRecDepth 100000
set_option maxHeartbeats 400000
/-! DS8: exact; lists that may be cells; lines in order -/
namespace DI
open PySem PySem.Spec PyProof.Rows L2
namespace B
def exact (i : Nat) : MF := { params := 2, slots := 7, fresh := false, body := [
  .iff (.isi (.var 0) [.dict]) [
    .iff (.or (.not (.isi (.var 1) [.dict])) (.cmp .ne (.bi .len [.var 0]) (.bi .len [.var 1]))) [
      .ret (.bl false)] [],
    .ret (.bi .all [.comp (.and (.cmp .inn (.var 2) (.var 1)) (.call i [.idx (.var 0) (.var 2), .idx (.var 1) (.var 2)])) (.nm 2) (.seq (.var 0)) [] [2]])] [],
  .iff (.isi (.var 0) [.list, .tuple]) [
    .asg (.nm 3) (.cmp .eq (.isi (.var 1) [.list]) (.isi (.var 0) [.list])),
    .asg (.nm 4) (.and (.var 3) (.cmp .eq (.isi (.var 1) [.tuple]) (.isi (.var 0) [.tuple]))),
    .ret (.and (.var 4) (.and (.cmp .eq (.bi .len [.var 0]) (.bi .len [.var 1])) (.bi .all [.comp (.call i [.var 5, .var 6]) (.tp [.nm 5, .nm 6]) (.zip (.var 0) (.var 1)) [] [5, 6]])))] [],
  .iff (.or (.isi (.var 1) [.list, .tuple, .dict]) (.cmp .ne (.isn false (.var 0)) (.isn false (.var 1)))) [
    .ret (.bl false)] [],
  .asg (.nm 4) (.and (.cmp .eq (.isi (.var 0) [.int]) (.isi (.var 1) [.int])) (.cmp .eq (.isi (.var 0) [.str]) (.isi (.var 1) [.str]))),
  .ret (.and (.var 4) (.and (.cmp .eq (.isi (.var 0) [.bool]) (.isi (.var 1) [.bool])) (.cmp .eq (.var 0) (.var 1))))] }
end B
section
variable {T : List MF} {wf i : Nat} {μ : Mem}
theorem exact_seq (hT : T[i]? = some (B.exact i)) {n k : Nat} {a b : D} {xs ys : List D} (ih : ∀ x y, (x, y) ∈ xs.zip ys → callN T wf (k + n + 1) i [x, y] μ = some (.bl true, μ)) (hl : xs.length = ys.length) (hs : xs.length ≤ sizeLine)
    (hI : ∀ env : Ev, env[0]? = some (.val a) → env[1]? = some (.val b) → ∃ lks, evI (callN T wf (k + n + 1)) (.zip (.var 0) (.var 1)) env μ = some ((zipD xs ys, lks), μ) ∧ lks.all (Lk.ok env μ) = true)
    (ka : lenD μ a = some xs.length) (kb : lenD μ b = some ys.length) (la : liveD μ a = true) (lb : liveD μ b = true) (da : isT a .dict = false) (ta : (isT a .list || isT a .tuple) = true) (e1 : isT b .list = isT a .list) (e2 : isT b .tuple = isT a .tuple) :
    callN T wf (k + n + 1 + 1) i [a, b] μ = some (.bl true, μ) := by
  refine run_ret hT rfl ?_
  obtain ⟨lks, h1, h2⟩ := hI [.val a, .val b, .un, .val (.bl true), .val (.bl true), .un, .un] rfl rfl
  have hc := comp_map (tg := .tp [.nm 5, .nm 6]) (elt := .call i [.var 5, .var 6]) (own := [5, 6]) (g := fun _ => .bl true) h1 h2 (fun x hx => by
    rw [zipD_eq] at hx
    obtain ⟨⟨p, q⟩, hp, rfl⟩ := List.mem_map.mp hx
    simp [wipeE, ih p q hp]) (by rw [zipD_eq, List.length_map, List.length_zip]; omega)
  have ha := bi_all (μ := μ) (fun _ => true) (zipD xs ys)
  simp [B.exact, lb, da, ta, la, eqD_bl, e1, e2, ka, kb, hl, eqD_int]
  rw [hc]
  simp [ha]
theorem zip_turn : ∀ {xs ys : List D} {x y : D}, (x, y) ∈ xs.zip ys → (y, x) ∈ ys.zip xs
  | [], _, _, _, h => by simp at h
  | _ :: _, [], _, _, h => by simp at h
  | a :: xs, b :: ys, x, y, h => by
    rw [List.zip_cons_cons, List.mem_cons] at h ⊢
    rcases h with e | h
    · cases e; exact .inl rfl
    · exact .inr (zip_turn h)
/-- a is plain, b the same, lists may be cells -/
theorem exact_ok (hT : T[i]? = some (B.exact i)) : ∀ (n k : Nat) (a b : D), Al μ n b a → callN T wf (k + n + 1) i [a, b] μ = some (.bl true, μ) := by
  have leaf : ∀ (n k : Nat) (a b : D), Al μ 0 b a → callN T wf (k + n + 1) i [a, b] μ = some (.bl true, μ) := fun n k a b h => by
    cases h
    · refine run_ret hT rfl ?_
      simp [B.exact, liveD, isT, eqD_bl, eqD_non]
    · refine run_ret hT rfl ?_
      simp [B.exact, liveD, isT, eqD_bl]
    · refine run_ret hT rfl ?_
      simp [B.exact, liveD, isT, eqD_bl, eqD_int]
    · rename_i x hx
      refine run_ret hT rfl ?_
      simp [B.exact, liveD, isT, eqD_bl, eqD_str hx]
  intro n
  induction n with
  | zero => exact fun k a b h => leaf 0 k a b h
  | succ n IH =>
    intro k a b h
    cases h
    · exact leaf (n + 1) k _ _ .non
    · exact leaf (n + 1) k _ _ (.bl _)
    · exact leaf (n + 1) k _ _ (.int _)
    · rename_i x hx
      exact leaf (n + 1) k _ _ (.str _ hx)
    · rename_i xs ys hl hs h
      refine exact_seq hT (xs := ys) (ys := xs) (fun x y hxy => IH k x y (h y x ?_)) hl.symm (by rw [← hl]; exact hs) (fun env h0 h1 => ⟨[], by simp [evI_zip, h0, h1], rfl⟩) rfl rfl rfl rfl rfl rfl rfl rfl
      exact zip_turn hxy
    · rename_i xs ys hl hs h
      refine exact_seq hT (xs := ys) (ys := xs) (fun x y hxy => IH k x y (h y x ?_)) hl.symm (by rw [← hl]; exact hs) (fun env h0 h1 => ⟨[], by simp [evI_zip, h0, h1, seqV, lockOf], rfl⟩) rfl rfl rfl rfl rfl rfl rfl rfl
      exact zip_turn hxy
    · rename_i c xs ys hc hf hl hs h
      refine exact_seq hT (xs := ys) (ys := xs) (fun x y hxy => IH k x y (h y x ?_)) hl.symm (by rw [← hl]; exact hs) (fun env h0 h1 => ⟨[.cell c xs], by simp [evI_zip, h0, h1, seqV, lockOf, hc], by simp [Lk.ok, hc, beqs_refl xs hf]⟩) rfl (by simp [lenD, seqV, hc]) rfl (by simp [liveD, hc]) rfl rfl rfl rfl
      exact zip_turn hxy
/-! ### a list, or a cell that holds it -/
def LL (μ : Mem) (d : D) (xs : List D) : Prop := (d = .lst xs ∨ ∃ c, d = .ref c ∧ μ[c]? = some (some xs)) ∧ flats xs = true
variable {d : D} {xs : List D}
theorem LL.lst (h : flats xs = true) : LL μ (.lst xs) xs := ⟨.inl rfl, h⟩
theorem LL.seq (h : LL μ d xs) : seqV μ d = some xs := by
  rcases h.1 with rfl | ⟨c, rfl, hc⟩
  · rfl
  · simp [seqV, hc]
theorem LL.len (h : LL μ d xs) : lenD μ d = some xs.length := by
  rcases h.1 with rfl | ⟨c, rfl, hc⟩
  · rfl
  · simp [lenD, seqV, hc]
theorem LL.live (h : LL μ d xs) : liveD μ d = true := by
  rcases h.1 with rfl | ⟨c, rfl, hc⟩
  · rfl
  · simp [liveD, hc]
theorem LL.isL (h : LL μ d xs) : isT d .list = true := by
  rcases h.1 with rfl | ⟨c, rfl, hc⟩ <;> rfl
theorem LL.items (h : LL μ d xs) : itemsD μ d = some xs := by
  rcases h.1 with rfl | ⟨c, rfl, hc⟩
  · rfl
  · simp [itemsD, seqV, hc]
theorem LL.tail (h : LL μ d xs) : slcD μ d (some 1) none = some (.lst (xs.drop 1)) := by
  have e := cut_from xs 1
  rcases h.1 with rfl | ⟨c, rfl, hc⟩
  · show some (D.lst (cutD xs (some ((1 : Nat) : Int)) none)) = _
    rw [e]
  · show (seqV μ (.ref c)).map _ = _
    simp only [seqV, hc, Option.join_some, Option.map_some]
    show some (D.lst (cutD xs (some ((1 : Nat) : Int)) none)) = _
    rw [e]
/-- what is gone through -/
theorem LL.walk (h : LL μ d xs) {C : Call} {env : Ev} {j : Nat} (he : env[j]? = some (.val d)) : ∃ lks, evI C (.seq (.var j)) env μ = some ((xs, lks), μ) ∧ lks.all (Lk.ok env μ) = true ∧ lks.all Lk.isCell = true ∧ ∀ e : Ev, lks.all (Lk.ok e μ) = true := by
  rcases h.1 with rfl | ⟨c, rfl, hc⟩
  · exact ⟨[], by simp [evI_seq, he, itemsD, seqV, lockOf], rfl, rfl, fun _ => rfl⟩
  · have ok : ∀ e : Ev, [Lk.cell c xs].all (Lk.ok e μ) = true := fun e => by simp [Lk.ok, hc, beqs_refl xs h.2]
    exact ⟨[.cell c xs], by simp [evI_seq, he, itemsD, seqV, lockOf, hc], ok env, rfl, ok⟩
theorem LL.pairs (h : LL μ d xs) {C : Call} {env : Ev} {j : Nat} (he : env[j]? = some (.val d)) : ∃ lks, evI C (.zip (.var j) (.slc (.var j) (some (.int 1)) none)) env μ = some ((zipD xs (xs.drop 1), lks), μ) ∧ lks.all (Lk.ok env μ) = true := by
  have t := h.tail
  rcases h.1 with rfl | ⟨c, rfl, hc⟩
  · exact ⟨[], by simp [evI_zip, he, t, seqV, lockOf, -List.drop_one], rfl⟩
  · exact ⟨[.cell c xs], by simp [evI_zip, he, t, seqV, lockOf, hc, -List.drop_one], by simp [Lk.ok, hc, beqs_refl xs h.2]⟩
end
/-! ### lists of points -/
section
variable {T : List MF} {wf n i p a c m : Nat} {μ : Mem} {d : D}
theorem areL {l : List Pt} (hT : T[i]? = some (B.are p)) (hp : ∀ q : Pt, callN T wf n p [dP q] μ = some (.bl true, μ)) (h : LL μ d (l.map dP)) (hs : l.length ≤ 1000) : callN T wf (n + 1) i [d] μ = some (.bl true, μ) := by
  refine run_ret hT rfl ?_
  obtain ⟨lks, w1, w2, _, _⟩ := h.walk (C := callN T wf n) (env := [.val d, .un]) (j := 0) rfl
  have hc := comp_mapA (C := callN T wf n) (tg := .nm 1) (elt := .call p [.var 1]) (own := [1]) (e := dP) (g := fun _ => .bl true) w1 w2 (fun q hq => by simp [wipeE, hp q]) (by unfold sizeLine; omega)
  have ha := bi_all (μ := μ) (fun _ : Pt => true) l
  refine ss_ret (env := [.val d, .un]) ?_
  simp [h.live, h.isL, hc, ha]
theorem is_setL {l : List Pt} (hT : T[i]? = some (B.is_set a c)) (hA : callN T wf n a [d] μ = some (.bl true, μ)) (hC : AheadOk T wf n m c) (h : LL μ d (l.map dP)) (hl : ∀ p, p ∈ l → SmP m p) (hs : l.length ≤ 1000) : callN T wf (n + 1) i [d] μ = some (.bl (chainB l), μ) := by
  refine run_ret hT rfl ?_
  obtain ⟨lks, w1, w2⟩ := h.pairs (C := callN T wf n) (env := [.val d, .un, .un]) (j := 0) rfl
  rw [← List.map_drop, zipD_map] at w1
  have hc := comp_mapA (C := callN T wf n) (tg := .tp [.nm 1, .nm 2]) (elt := .call c [.var 1, .var 2]) (own := [1, 2]) (l := l.zip (l.drop 1)) (e := fun x => .tup [dP x.1, dP x.2]) (g := fun x => .bl (aheadB x.1 x.2)) w1 w2
    (fun x hx => by
      obtain ⟨x1, x2⟩ := x
      have := hC μ x1 x2 (hl _ (List.of_mem_zip hx).1) (hl _ (List.mem_of_mem_drop (List.of_mem_zip hx).2))
      simp [wipeE, this]) (by rw [List.length_zip]; unfold sizeLine; omega)
  refine ss_ret (env := [.val d, .un, .un]) ?_
  have cz := chain_zip l
  simp [hA, -List.drop_one]
  rw [hc]
  simp [cz, -List.drop_one]
theorem sortedL {l : List Pt} (hT : T[i]? = some (B.sorted_there c)) (hC : AheadOk T wf n m c) (h : LL μ d (l.map dP)) (hl : ∀ p, p ∈ l → SmP m p) (hs : l.length ≤ 1000) : callN T wf (n + 1) i [d] μ = some (.lst ((sortP l).map dP), μ) := by
  refine run_ret hT rfl ?_
  obtain ⟨lks, w1, w2, w3, w4⟩ := h.walk (C := callN T wf n) (env := [.val d, .own [], .un, .un, .un]) (j := 0) rfl
  obtain ⟨env', μ', hf, f, rest, v2, v3, v4, he, hr, hall, hfl, hmu⟩ := for_run (C := callN T wf n) (wf := wf) (tg := .nm 2) (body := [
    .iff (.cmp .nin (.var 2) (.ovar 1)) [
      .asg (.nm 3) (.bi .len [.comp (.var 4) (.nm 4) (.seq (.ovar 1)) [.call c [.var 4, .var 2]] [4]]),
      .own 1 (.op .add (.op .add (.slc (.ovar 1) none (some (.var 3))) (.lst [.var 2])) (.slc (.ovar 1) (some (.var 3)) none))] []]) (src := .seq (.var 0))
    (env := [.val d, .own [], .un, .un, .un]) (μ := μ) (μ1 := μ) (xs := l.map dP) (lks := lks)
    (P := fun r e ν => ∃ (f rest : List Pt) (v2 v3 v4 : Sl), e = [.val d, .own (f.map dP), v2, v3, v4] ∧ r = rest.map dP ∧ rest.foldl insP f = sortP l ∧ ((∀ p, p ∈ f → SmP m p) ∧ (∀ p, p ∈ rest → SmP m p) ∧ f.length + rest.length ≤ 1000) ∧ ν = μ)
    w1 w3 (fun _ e ν ⟨_, _, _, _, _, _, _, _, _, q⟩ => by subst q; exact w4 e) (fun x r e ν q => by
      obtain ⟨f, rest, v2, v3, v4, he, hr, hall, ⟨s1, s2, s3⟩, hmu⟩ := q
      subst hmu he
      cases rest with
      | nil => simp at hr
      | cons p rest =>
        rw [List.map_cons] at hr
        obtain ⟨rfl, rfl⟩ := List.cons.inj hr
        rw [List.length_cons] at s3
        have sp : SmP m p := s2 p List.mem_cons_self
        have fin := inD_dP (μ := ν) p f
        refine ⟨_, [.val d, .own ((insP f p).map dP), .val (dP p), if p ∈ f then v3 else .val (.int (f.filter (aheadB · p)).length), v4], ν, rfl, ?_, insP f p, rest, _, _, _, rfl, rfl, hall, ⟨fun x hx => ?_, fun x hx => s2 x (List.mem_cons_of_mem _ hx), ?_⟩, rfl⟩
        · by_cases hp : p ∈ f
          · have fe : insP f p = f := by unfold insP; rw [if_pos hp]
            simp [fin, hp, fe]
          · have hc := comp_selA (C := callN T wf n) (tg := .nm 4) (elt := .var 4) (c := .call c [.var 4, .var 2]) (own := [4]) (src := .seq (.ovar 1)) (env := [.val d, .own (f.map dP), .val (dP p), v3, v4]) (μ := ν) (μ1 := ν) (l := f) (lks := [.own 1 (f.map dP)]) (e := dP) (p := (aheadB · p))
              (by simp [evI_seq, itemsD, seqV, lockOf]) (by simp [Lk.ok, beqs_refl _ (flats_map flat_dP f)])
              (fun x hx => ⟨_, rfl, by simp [wipeE, hC ν x p (s1 x hx) sp], by simp [wipeE]⟩) (by unfold sizeLine; omega)
            have fl := filter_small (l := f) (g := (aheadB · p))
            have ad1 := add_lst (μ := ν) ((f.map dP).take (f.filter (aheadB · p)).length) [dP p] (by simp only [List.length_take, List.length_map, List.length_cons, List.length_nil]; unfold sizeLine; omega)
            have ad2 := add_lst (μ := ν) ((f.map dP).take (f.filter (aheadB · p)).length ++ [dP p]) ((f.map dP).drop (f.filter (aheadB · p)).length) (by simp only [List.length_append, List.length_take, List.length_drop, List.length_map, List.length_cons, List.length_nil]; unfold sizeLine; omega)
            have fe : (insP f p).map dP = (f.map dP).take (f.filter (aheadB · p)).length ++ [dP p] ++ (f.map dP).drop (f.filter (aheadB · p)).length := by unfold insP; rw [if_neg hp]; simp [List.map_take, List.map_drop]
            have sl : 1 ≤ sizeLine := by decide
            rw [fe]
            simp [fin, hp]
            rw [hc]
            simp [slcD, seqV, cut_to, cut_from, ad1, ad2, sl]
        · rcases insP_mem.mp hx with rfl | hx
          · exact sp
          · exact s1 x hx
        · have := insP_len (f := f) (p := p)
          omega) ⟨[], l, .un, .un, .un, rfl, rfl, rfl, ⟨(fun _ z => nomatch z), hl, by simpa using hs⟩, rfl⟩
  cases rest with
  | cons _ _ => simp at hr
  | nil =>
    rw [List.foldl_nil] at hall
    subst hmu hall
    refine (ss_nx (e := [.val d, .own [], .un, .un, .un]) (μ1 := μ') (by simp [B.sorted_there])).trans ((ss_nx hf).trans ?_)
    rw [he]
    exact ss_rt (by simp)
end
/-! ### lines in their order -/
def keyL (l : Ln) : List Int := [l.a, l.b, l.c]
def leL (p q : Ln) : Bool := decide (keyL p ≤ keyL q)
def sortL (l : List Ln) : List Ln := l.mergeSort leL
theorem key_inj {p q : Ln} (h : keyL p = keyL q) : p = q := by
  obtain ⟨a, b, c⟩ := p
  obtain ⟨a', b', c'⟩ := q
  simp [keyL] at h
  simp [h]
def ltL (p q : Ln) : Prop := keyL p < keyL q
instance {p q : Ln} : Decidable (ltL p q) := by unfold ltL; infer_instance
theorem ltL_asym (p q : Ln) (h1 : ltL p q) (h2 : ltL q p) : False := List.lt_irrefl _ (List.lt_trans h1 h2)
theorem sortL_mem {l : List Ln} {p : Ln} : p ∈ sortL l ↔ p ∈ l := List.mem_mergeSort
theorem sortL_len (l : List Ln) : (sortL l).length = l.length := List.length_mergeSort _
theorem sortL_srt {l : List Ln} (h : l.Nodup) : (sortL l).Pairwise ltL := by
  have h1 : (sortL l).Pairwise (fun p q => leL p q = true) :=
    List.pairwise_mergeSort (le := leL) (fun a b c h1 h2 => decide_eq_true (List.le_trans (of_decide_eq_true h1) (of_decide_eq_true h2))) (fun a b => by
      unfold leL
      rcases li_total (keyL a) (keyL b) with z | z <;> simp [z]) l
  have h2 : (sortL l).Nodup := (List.mergeSort_perm l _).nodup_iff.mpr h
  exact List.Pairwise.imp₂ (fun p q a b => li_strict (of_decide_eq_true a) fun e => b (key_inj e)) h1 h2
theorem sortL_is {l m : List Ln} (h : l.Pairwise ltL) (hm : m.Nodup) (e : ∀ p, p ∈ l ↔ p ∈ m) : sortL m = l :=
  strict_one ltL_asym _ _ (sortL_srt hm) h fun p => sortL_mem.trans (e p).symm
theorem dL_key (l : Ln) : dL l = .tup ((keyL l).map .int) := rfl
def pL (l : Ln) : PyData := .tuple ((keyL l).map .int)
theorem py_dL {cf : Nat → Option PyData} (l : Ln) : pyW cf (dL l) = some (pL l) := by simp [dL, pL, keyL, pyW, pyWs]
theorem pL_lt (p q : Ln) : PySem.W.dataLt (pL p) (pL q) = decide (keyL p < keyL q) := by
  have z := PySem.W.dataLt_ints (keyL p) (keyL q)
  unfold PySem.W.rowLt at z
  unfold pL
  rw [PySem.W.dataLt_tuple, z]
theorem pL_le : PySem.W.dataLe false pL = leL := by
  funext a b
  have e : PySem.W.dataLe false pL a b = !PySem.W.dataLt (pL b) (pL a) := rfl
  unfold leL
  rw [e, pL_lt]
  by_cases h : keyL b < keyL a
  · have : ¬ keyL a ≤ keyL b := fun z => z h
    simp [h, this]
  · have : keyL a ≤ keyL b := h
    simp [h, this]
theorem pL_alike (p q : Ln) : PySem.W.alike (pL p) (pL q) = true := row_alike (keyL p) (keyL q)
theorem pL_depth (p : Ln) : (pL p).depth = 1 := by simp [pL, keyL, PyData.depth, PyData.depthAll]
/-- one < other -/
theorem lt_dL {μ : Mem} (p q : Ln) : cmpD μ .lt (dL p) (dL q) = some (decide (keyL p < keyL q)) := by
  have e : cmpD μ .lt (dL p) (dL q) = ordD μ PySem.W.dataLt (dL p) (dL q) := rfl
  have ok : ltOk (pL p) (pL q) = true := by
    unfold ltOk
    rw [pL_alike, pL_depth]
    rfl
  rw [e]
  unfold ordD toPy
  rw [py_dL, py_dL]
  simp only [Option.bind_some, ok, if_true, pL_lt]
theorem pyPairs_dL {μ : Mem} : ∀ l : List Ln, pyPairs μ (l.map dL) = some (l.map fun x => (dL x, pL x))
  | [] => rfl
  | x :: l => by
    rw [List.map_cons, pyPairs, pyPairs_dL l, show toPy μ (dL x) = some (pL x) from py_dL x]
    rfl
/-- sorted(lines) -/
theorem sort_dL {μ : Mem} (l : List Ln) : sortD μ (l.map dL) = some (.lst ((sortL l).map dL)) := by
  unfold sortD
  rw [pyPairs_dL]
  have ok : sortOk ((l.map fun x => (dL x, pL x)).map Prod.snd) = true := by
    rw [List.map_map]
    unfold sortOk
    rw [Bool.and_eq_true, Bool.and_eq_true, Bool.or_eq_true]
    refine ⟨⟨?_, .inl ?_⟩, ?_⟩
    · rw [List.all_eq_true]
      intro x hx
      rw [List.all_eq_true]
      intro y hy
      obtain ⟨p, _, rfl⟩ := List.mem_map.mp hx
      obtain ⟨q, _, rfl⟩ := List.mem_map.mp hy
      exact pL_alike p q
    · rw [List.all_eq_true]
      intro x hx
      obtain ⟨p, _, rfl⟩ := List.mem_map.mp hx
      rfl
    · rw [List.all_eq_true]
      intro x hx
      obtain ⟨p, _, rfl⟩ := List.mem_map.mp hx
      simp [pL_depth]
  simp only [Option.bind_some, ok, if_true]
  have e := PySem.W.sort_maps (r := PySem.W.dataLe false pL) (s := PySem.W.dataLe false Prod.snd) (fun x : Ln => (dL x, pL x)) (l := l) (fun _ _ _ _ => rfl)
  rw [← e, pL_le, List.map_map]
  rfl
@[simp] theorem bi_sorted {μ : Mem} (xs : List D) : biD μ .sorted [.lst xs] = sortD μ xs := rfl
/-- sorted(set(lines)) -/
theorem keysD_dL : ∀ l : List Ln, keysD (l.map dL) = some (l.map keyL)
  | [] => rfl
  | x :: l => by
    rw [List.map_cons, dL_key]
    show (intsD ((keyL x).map .int)).bind _ = _
    rw [intsD_map, keysD_dL l]
    rfl
theorem dedup_len : ∀ ks : List (List Int), (dedupI ks).length ≤ ks.length
  | [] => Nat.le_refl _
  | k :: r => by
    have := dedup_len r
    unfold dedupI
    split
    · rw [List.length_cons]; omega
    · rw [List.length_cons, List.length_cons]; omega
theorem sset_dL (l : List Ln) (h : l.length < 64) : ∃ F : List Ln, ssetD (l.map dL) = some (.lst (F.map dL)) ∧ F.Pairwise ltL ∧ (∀ p, p ∈ F ↔ p ∈ l) ∧ F.length ≤ l.length := by
  have few : (l.map keyL).length < 64 := by rw [List.length_map]; exact h
  obtain ⟨F, hF⟩ : ∃ F : List Ln, onceI (l.map keyL) = F.map keyL := by
    have : ∀ ks : List (List Int), (∀ k, k ∈ ks → k ∈ l.map keyL) → ∃ F : List Ln, ks = F.map keyL := fun ks => by
      induction ks with
      | nil => exact fun _ => ⟨[], rfl⟩
      | cons k ks ih =>
        intro hk
        obtain ⟨p, _, rfl⟩ := List.mem_map.mp (hk k List.mem_cons_self)
        obtain ⟨F, rfl⟩ := ih fun x hx => hk x (List.mem_cons_of_mem _ hx)
        exact ⟨p :: F, rfl⟩
    exact this _ fun k hk => once_mem.mp hk
  refine ⟨F, ?_, ?_, fun p => ?_, ?_⟩
  · unfold ssetD
    rw [keysD_dL]
    simp only [Option.bind_some, few, if_true, hF, List.map_map]
    rfl
  · have z := once_srt (l.map keyL)
    rw [hF] at z
    have z' := (List.pairwise_map (f := keyL) (R := (· < ·))).mp z
    exact z'
  · have z := once_mem (ks := l.map keyL) (k := keyL p)
    rw [hF] at z
    refine ⟨fun h => ?_, fun h => ?_⟩
    · obtain ⟨q, hq, e⟩ := List.mem_map.mp (z.mp (List.mem_map.mpr ⟨p, h, rfl⟩))
      rw [← key_inj e]; exact hq
    · obtain ⟨q, hq, e⟩ := List.mem_map.mp (z.mpr (List.mem_map.mpr ⟨p, h, rfl⟩))
      rw [← key_inj e]; exact hq
  · have e := congrArg List.length hF
    have d := dedup_len (l.map keyL)
    unfold onceI at e
    rw [List.length_mergeSort, List.length_map] at e
    rw [List.length_map] at d
    omega
end DI
set_option Elab.async false
set_option linter.all false
set_option maxRecDepth 100000
set_option maxHeartbeats 400000
/-! DS9: points and lines turned about -/
namespace DI
open PySem PySem.Spec PyProof.Rows L2
/-- one line by two triples -/
theorem canon_same {x y z x' y' z' : Int} {a b c n n' : Rat} (h : a ≠ 0 ∨ b ≠ 0) (n0 : n ≠ 0) (n0' : n' ≠ 0) (e1 : (x : Rat) = n * a) (e2 : (y : Rat) = n * b) (e3 : (z : Rat) = n * c)
    (f1 : (x' : Rat) = n' * a) (f2 : (y' : Rat) = n' * b) (f3 : (z' : Rat) = n' * c) : canon x y z = canon x' y' z' := by
  obtain ⟨h1, _⟩ := line_of h n0 e1 e2 e3
  obtain ⟨h2, _⟩ := line_of h n0' f1 f2 f3
  obtain ⟨i1, p1, p2, p3⟩ := canon_spec (c := z) h1
  obtain ⟨i2, q1, q2, q3⟩ := canon_spec (c := z') h2
  have m1 := mC_ne (c := z) h1
  have m2 := mC_ne (c := z') h2
  have r1 := num_den (n' / n)
  have d1 := den_ne (n' / n)
  have key : ∀ (u v w w' : Int) (k : Rat), u = mC x y z * w → v = mC x' y' z' * w' → (u : Rat) = n * k → (v : Rat) = n' * k → (mC x y z * (n' / n).num) * w = (mC x' y' z' * ((n' / n).den : Int)) * w' := fun u v w w' k g1 g2 g3 g4 => by
    apply rat_eq
    rw [Rat.intCast_mul, Rat.intCast_mul, Rat.intCast_mul, Rat.intCast_mul, r1]
    have g1' := congrArg (Int.cast (R := Rat)) g1
    have g2' := congrArg (Int.cast (R := Rat)) g2
    rw [Rat.intCast_mul] at g1' g2'
    have dd : (((n' / n).den : Int) : Rat) = ((n' / n).den : Rat) := rfl
    rw [dd]
    generalize ((n' / n).den : Rat) = D at *
    have e1 : (mC x y z : Rat) * (w : Rat) = n * k := by rw [← g1', g3]
    have e2 : (mC x' y' z' : Rat) * (w' : Rat) = n' * k := by rw [← g2', g4]
    grind
  refine isl_unique i1 i2 ?_ (key _ _ _ _ _ p1 q1 e1 f1) (key _ _ _ _ _ p2 q2 e2 f2) (key _ _ _ _ _ p3 q3 e3 f3)
  refine Int.mul_ne_zero m1 fun z => ?_
  rw [z] at r1
  have : ((0 : Int) : Rat) = 0 := rfl
  rw [this] at r1
  grind
/-- the line of all places that a point's number and turn give -/
def dl (p : Rat × Rat) : Ln := canon (p.1.num * p.2.den) (0 - p.1.den * p.2.den) (p.2.num * p.1.den)
def dualP (l : Ln) : Rat × Rat := (Rat.divInt (0 - l.a) l.b, Rat.divInt (0 - l.c) l.b)
theorem dl_tri (p : Rat × Rat) : ((p.1.num * p.2.den : Int) : Rat) = ((p.1.den : Rat) * (p.2.den : Rat)) * p.1 ∧ ((0 - p.1.den * p.2.den : Int) : Rat) = ((p.1.den : Rat) * (p.2.den : Rat)) * (-1) ∧ ((p.2.num * p.1.den : Int) : Rat) = ((p.1.den : Rat) * (p.2.den : Rat)) * p.2 := by
  have e1 := num_den p.1
  have e2 := num_den p.2
  have d1 : ((p.1.den : Int) : Rat) = (p.1.den : Rat) := rfl
  have d2 : ((p.2.den : Int) : Rat) = (p.2.den : Rat) := rfl
  refine ⟨?_, ?_, ?_⟩
  · rw [Rat.intCast_mul, e1, d2]; grind
  · rw [Rat.intCast_sub, Rat.intCast_mul, d1, d2]
    have : ((0 : Int) : Rat) = 0 := rfl
    rw [this]
    grind
  · rw [Rat.intCast_mul, e2, d1]; grind
theorem dl_ne (p : Rat × Rat) : p.1.num * p.2.den ≠ 0 ∨ 0 - (p.1.den : Int) * p.2.den ≠ 0 := .inr (by
  have h1 := p.1.den_nz
  have h2 := p.2.den_nz
  have : (p.1.den : Int) * p.2.den ≠ 0 := Int.mul_ne_zero (by omega) (by omega)
  omega)
theorem dl_is (p : Rat × Rat) : IsL (dl p) := (canon_spec (dl_ne p)).1
/-- its three numbers are shares of x, -1, y -/
theorem dl_share (p : Rat × Rat) : ∃ t : Rat, t ≠ 0 ∧ ((dl p).a : Rat) = t * p.1 ∧ ((dl p).b : Rat) = t * (-1) ∧ ((dl p).c : Rat) = t * p.2 := by
  obtain ⟨_, q1, q2, q3⟩ := canon_spec (c := p.2.num * p.1.den) (dl_ne p)
  obtain ⟨f1, f2, f3⟩ := dl_tri p
  have m0 := cast_ne (mC_ne (c := p.2.num * p.1.den) (dl_ne p))
  have d1 := den_ne p.1
  have d2 := den_ne p.2
  have g1 := congrArg (Int.cast (R := Rat)) q1
  have g2 := congrArg (Int.cast (R := Rat)) q2
  have g3 := congrArg (Int.cast (R := Rat)) q3
  rw [f1, Rat.intCast_mul] at g1
  rw [f2, Rat.intCast_mul] at g2
  rw [f3, Rat.intCast_mul] at g3
  change _ = _ * ((dl p).a : Rat) at g1
  change _ = _ * ((dl p).b : Rat) at g2
  change _ = _ * ((dl p).c : Rat) at g3
  generalize (mC (p.1.num * p.2.den) (0 - p.1.den * p.2.den) (p.2.num * p.1.den) : Rat) = m at *
  refine ⟨((p.1.den : Rat) * (p.2.den : Rat)) / m, ?_, ?_, ?_, ?_⟩ <;> grind
theorem dl_b (p : Rat × Rat) : (dl p).b ≠ 0 := fun z => by
  obtain ⟨t, t0, _, e2, _⟩ := dl_share p
  rw [z] at e2
  have : ((0 : Int) : Rat) = 0 := rfl
  rw [this] at e2
  grind
theorem dualP_eq {l : Ln} (h : l.b ≠ 0) : dualP l = (-(l.a : Rat) / (l.b : Rat), -(l.c : Rat) / (l.b : Rat)) := by
  have z : ((0 : Int) : Rat) = 0 := rfl
  unfold dualP
  rw [Rat.divInt_eq_div, Rat.divInt_eq_div, Rat.intCast_sub, Rat.intCast_sub, z]
  ext <;> grind
theorem dual_dl (p : Rat × Rat) : dualP (dl p) = p := by
  obtain ⟨t, t0, e1, e2, e3⟩ := dl_share p
  rw [dualP_eq (dl_b p), e1, e2, e3]
  ext <;> grind
theorem dl_dual {l : Ln} (hl : IsL l) (h : l.b ≠ 0) : dl (dualP l) = l := by
  have b0 := cast_ne h
  have e := dualP_eq h
  obtain ⟨f1, f2, f3⟩ := dl_tri (dualP l)
  have d1 := den_ne (dualP l).1
  have d2 := den_ne (dualP l).2
  have s := canon_same (x := (dualP l).1.num * (dualP l).2.den) (y := 0 - (dualP l).1.den * (dualP l).2.den) (z := (dualP l).2.num * (dualP l).1.den) (x' := l.a) (y' := l.b) (z' := l.c) (a := (dualP l).1) (b := -1) (c := (dualP l).2)
    (n := ((dualP l).1.den : Rat) * ((dualP l).2.den : Rat)) (n' := -(l.b : Rat)) (.inr (by decide)) (by grind) (by grind) f1 f2 f3 (by rw [e]; grind) (by grind) (by rw [e]; grind)
  rw [canon_self hl] at s
  exact s
/-- above a line that isn't upright -/
def abL (l : Ln) (p : Rat × Rat) : Int := sgQ (abv l p) * (if 0 < l.b then 1 else -1)
def hgt (l : Ln) (p : Rat × Rat) : Rat := p.2 - ((l.c : Rat) - (l.a : Rat) * p.1) / (l.b : Rat)
theorem sgQ_int {b : Int} (h : b ≠ 0) : sgQ (b : Rat) = if 0 < b then 1 else -1 := by
  unfold sgQ
  rw [num_int]
  split
  · rfl
  · rw [if_pos (by omega)]
theorem abL_eq {l : Ln} (h : l.b ≠ 0) (p : Rat × Rat) : abL l p = sgQ (hgt l p) := by
  have b0 := cast_ne h
  have e : abv l p = (l.b : Rat) * hgt l p := by
    unfold abv hgt
    grind
  unfold abL
  rw [e, sgQ_mul, ← sgQ_int h]
  have : sgQ (l.b : Rat) * sgQ (l.b : Rat) = 1 := by
    rw [sgQ_int h]
    split <;> rfl
  rw [Int.mul_right_comm, this, Int.one_mul]
theorem hgt_dual {l : Ln} (h : l.b ≠ 0) (p : Rat × Rat) : hgt (dl p) (dualP l) = hgt l p := by
  obtain ⟨t, t0, e1, e2, e3⟩ := dl_share p
  have b0 := cast_ne h
  unfold hgt
  rw [e1, e2, e3, dualP_eq h]
  simp only
  grind
theorem dl_inj {p q : Rat × Rat} (h : dl p = dl q) : p = q := by rw [← dual_dl p, h, dual_dl]
theorem dualP_inj {k l : Ln} (hk : IsL k) (bk : k.b ≠ 0) (hl : IsL l) (bl : l.b ≠ 0) (h : dualP k = dualP l) : k = l := by rw [← dl_dual hk bk, h, dl_dual hl bl]
/-! ### sizes -/
theorem dl_sz {m : Nat} {p : Rat × Rat} (h : SmP m p) : SzL (2 * m) (dl p) := by
  obtain ⟨l1, l2, l3⟩ := canon_le (c := p.2.num * p.1.den) (dl_ne p)
  have e : m + m = 2 * m := by omega
  have b1 : (p.1.num * (p.2.den : Int)).natAbs < 2 ^ (2 * m) := by rw [Int.natAbs_mul, ← e]; exact mul_lt_pow h.1.1 (by simpa using h.2.2)
  have b2 : (0 - (p.1.den : Int) * p.2.den).natAbs < 2 ^ (2 * m) := by rw [Int.zero_sub, Int.natAbs_neg, Int.natAbs_mul, ← e]; exact mul_lt_pow (by simpa using h.1.2) (by simpa using h.2.2)
  have b3 : (p.2.num * (p.1.den : Int)).natAbs < 2 ^ (2 * m) := by rw [Int.natAbs_mul, ← e]; exact mul_lt_pow h.2.1 (by simpa using h.1.2)
  exact ⟨Nat.lt_of_le_of_lt l1 b1, Nat.lt_of_le_of_lt l2 b2, Nat.lt_of_le_of_lt l3 b3⟩
theorem dual_sz {k : Nat} {l : Ln} [h : SzL k l] (hk : 1 ≤ k) : SmP k (dualP l) := by
  unfold dualP
  rw [Int.zero_sub, Int.zero_sub]
  exact ⟨sm_divInt (by rw [Int.natAbs_neg]; exact h.h.1) h.h.2.1 hk, sm_divInt (by rw [Int.natAbs_neg]; exact h.h.2.2) h.h.2.1 hk⟩
/-! ### sets of points -/
theorem chain_sort (l : List Pt) : chainB (sortP l) = true := (chain_srt _).mpr (sortP_srt l)
theorem sortP_is {l m : List Pt} (h : Srt l) (e : ∀ p, p ∈ l ↔ p ∈ m) : sortP m = l :=
  strict_one (lt := fun p q => aheadB p q = true) (fun x y a b => by rw [ahead_asymm a] at b; cases b) _ _ (sortP_srt m) h fun p => sortP_mem.trans (e p).symm
theorem srt_nodup {l : List Pt} (h : Srt l) : l.Nodup := List.Pairwise.imp (fun {a b} z e => by rw [e, ahead_irrefl] at z; cases z) h
theorem ltL_nodup {l : List Ln} (h : l.Pairwise ltL) : l.Nodup := List.Pairwise.imp (fun {a b} z e => by rw [e] at z; exact List.lt_irrefl _ z) h
/-- there and back -/
theorem there_back {ps : List Pt} (h : Srt ps) : sortP ((sortL (ps.map dl)).map dualP) = ps := sortP_is h fun p => by
  constructor
  · intro hp
    exact List.mem_map.mpr ⟨dl p, sortL_mem.mpr (List.mem_map.mpr ⟨p, hp, rfl⟩), dual_dl p⟩
  · intro hp
    obtain ⟨l, hl, rfl⟩ := List.mem_map.mp hp
    obtain ⟨q, hq, rfl⟩ := List.mem_map.mp (sortL_mem.mp hl)
    rw [dual_dl]
    exact hq
theorem nodup_dl {ps : List Pt} (h : ps.Nodup) : (ps.map dl).Nodup := List.pairwise_map.mpr (h.imp fun ne e => ne (dl_inj e))
theorem back_there {F : List Ln} (h : F.Pairwise ltL) (hF : ∀ l, l ∈ F → IsL l ∧ l.b ≠ 0) : sortL ((sortP (F.map dualP)).map dl) = F := by
  refine sortL_is h (nodup_dl (srt_nodup (sortP_srt _))) fun l => ?_
  constructor
  · intro hl
    exact List.mem_map.mpr ⟨dualP l, sortP_mem.mpr (List.mem_map.mpr ⟨l, hl, rfl⟩), dl_dual (hF l hl).1 (hF l hl).2⟩
  · intro hl
    obtain ⟨p, hp, rfl⟩ := List.mem_map.mp hl
    obtain ⟨k, hk, rfl⟩ := List.mem_map.mp (sortP_mem.mp hp)
    rw [dl_dual (hF k hk).1 (hF k hk).2]
    exact hk
theorem flats_dL (l : List Ln) : flats (l.map dL) = true := flats_map (fun _ => rfl) l
theorem flats_dP (l : List Pt) : flats (l.map dP) = true := flats_map flat_dP l
/-- all cells but c stand, some come behind -/
def Ot2 (c : Nat) (μ ν : Mem) : Prop := μ.length ≤ ν.length ∧ ∀ j, j ≠ c → j < μ.length → ν[j]? = μ[j]?
theorem Ot.two {c : Nat} {μ ν : Mem} (h : Ot c μ ν) : Ot2 c μ ν := ⟨by rw [h.1]; exact Nat.le_refl _, fun j hj _ => h.2 j hj⟩
theorem Ot2.trans {c : Nat} {μ ν ξ : Mem} (h : Ot2 c μ ν) (k : Ot2 c ν ξ) : Ot2 c μ ξ := ⟨Nat.le_trans h.1 k.1, fun j hj hl => (k.2 j hj (Nat.lt_of_lt_of_le hl h.1)).trans (h.2 j hj hl)⟩
theorem Ot2.refl {c : Nat} {μ : Mem} : Ot2 c μ μ := ⟨Nat.le_refl _, fun _ _ _ => rfl⟩
theorem Ot2.app {c : Nat} {μ ν : Mem} : Ot2 c μ (μ ++ ν) := ⟨by rw [List.length_append]; omega, fun j _ hl => List.getElem?_append_left hl⟩
theorem Ot2.set {c k : Nat} {μ ν : Mem} {x : Option (List D)} (h : Ot2 c μ ν) (hk : μ.length ≤ k) : Ot2 c μ (ν.set k x) := ⟨by rw [List.length_set]; exact h.1, fun j hj hl => by rw [List.getElem?_set_ne (by omega)]; exact h.2 j hj hl⟩
theorem Pur.app {c b : Nat} {μ ν : Mem} (h : Pur μ c b) : Pur (μ ++ ν) c b := by
  obtain ⟨p0, p1, p2, p3, h1, h2, h3, h4⟩ := h
  exact ⟨p0, p1, p2, p3, by rw [List.getElem?_append_left (List.getElem?_eq_some_iff.mp h1).1]; exact h1, h2, h3, h4⟩
theorem Pur.lt {c b : Nat} {μ : Mem} (h : Pur μ c b) : c < μ.length := by
  obtain ⟨p0, p1, p2, p3, h1, _⟩ := h
  exact (List.getElem?_eq_some_iff.mp h1).1
theorem Pur.set {c b k : Nat} {μ : Mem} {x : Option (List D)} (h : Pur μ c b) (hk : k ≠ c) : Pur (μ.set k x) c b := by
  obtain ⟨p0, p1, p2, p3, h1, h2⟩ := h
  exact ⟨p0, p1, p2, p3, by rw [List.getElem?_set_ne hk]; exact h1, h2⟩
theorem Pur.ot2 {c d b : Nat} {μ ν : Mem} (h : Pur μ d b) (o : Ot2 c μ ν) (ne : d ≠ c) : Pur ν d b := by
  obtain ⟨p0, p1, p2, p3, h1, h2⟩ := id h
  exact ⟨p0, p1, p2, p3, (o.2 d ne h.lt).trans h1, h2⟩
end DI
set_option Elab.async false
set_option linter.all false
set_option maxRecDepth 100000
set_option maxHeartbeats 400000
/-! DS10: where two lines cross, lines by a slope, feet, distances -/
namespace DI
open PySem PySem.Spec PyProof.Rows L2
theorem fracI {T : List MF} {wf f m k n : Nat} {μ : Mem} {x y : Int} (hF : FracOk T wf f) (hw : WF wf) [hx : Sw m x] [hy : Sw k y] (h0 : y ≠ 0) (h : m + k < 7990) : callN T wf (n + 1) f [.int x, .int y] μ = some (dQ ((x : Rat) / (y : Rat)), μ) := by
  have z := hF n μ x y (m + k) h0 (Nat.lt_of_lt_of_le hx.h (Nat.pow_le_pow_right (by decide) (by omega))) (Nat.lt_of_lt_of_le hy.h (Nat.pow_le_pow_right (by decide) (by omega))) (by omega) (hw _ (by omega))
  rw [Rat.divInt_eq_div] at z
  exact z
abbrev detI (k l : Ln) : Int := k.a * l.b - l.a * k.b
def crossP (k l : Ln) : Rat × Rat := (((k.c * l.b - l.c * k.b : Int) : Rat) / ((k.a * l.b - l.a * k.b : Int) : Rat), ((k.a * l.c - l.a * k.c : Int) : Rat) / ((k.a * l.b - l.a * k.b : Int) : Rat))
theorem det_symm (k l : Ln) : detI l k = - detI k l := by unfold detI; omega
theorem cross_symm (k l : Ln) : crossP l k = crossP k l := by
  unfold crossP
  simp only [Rat.intCast_sub, Rat.intCast_mul]
  ext <;> grind
/-- a line by two whole numbers, through a point -/
def slopeL (x y : Int) (p : Rat × Rat) : Ln := canon (x * (((x : Rat) * p.1 + (y : Rat) * p.2).den : Int)) (y * (((x : Rat) * p.1 + (y : Rat) * p.2).den : Int)) ((x : Rat) * p.1 + (y : Rat) * p.2).num
theorem slope_ne {x y : Int} (h : x ≠ 0 ∨ y ≠ 0) (q : Rat) : x * (q.den : Int) ≠ 0 ∨ y * (q.den : Int) ≠ 0 := by
  have d : (q.den : Int) ≠ 0 := by have := q.den_nz; omega
  exact h.elim (fun z => .inl (Int.mul_ne_zero z d)) fun z => .inr (Int.mul_ne_zero z d)
theorem share_of {a b c : Rat} {x y z : Int} {n : Rat} (h : x ≠ 0 ∨ y ≠ 0) (n0 : n ≠ 0) (e1 : (x : Rat) = n * a) (e2 : (y : Rat) = n * b) (e3 : (z : Rat) = n * c) :
    ∃ t : Rat, t ≠ 0 ∧ ((canon x y z).a : Rat) = t * a ∧ ((canon x y z).b : Rat) = t * b ∧ ((canon x y z).c : Rat) = t * c := by
  obtain ⟨_, q1, q2, q3⟩ := canon_spec (c := z) h
  have m0 := cast_ne (mC_ne (c := z) h)
  have g1 := congrArg (Int.cast (R := Rat)) q1
  have g2 := congrArg (Int.cast (R := Rat)) q2
  have g3 := congrArg (Int.cast (R := Rat)) q3
  rw [Rat.intCast_mul] at g1 g2 g3
  generalize (mC x y z : Rat) = m at *
  refine ⟨n / m, ?_, ?_, ?_, ?_⟩ <;> grind
theorem slope_tri (x y : Int) (p : Rat × Rat) : ((x * (((x : Rat) * p.1 + (y : Rat) * p.2).den : Int) : Int) : Rat) = ((((x : Rat) * p.1 + (y : Rat) * p.2).den : Int) : Rat) * (x : Rat) ∧ ((y * (((x : Rat) * p.1 + (y : Rat) * p.2).den : Int) : Int) : Rat) = ((((x : Rat) * p.1 + (y : Rat) * p.2).den : Int) : Rat) * (y : Rat) ∧
    ((((x : Rat) * p.1 + (y : Rat) * p.2).num : Int) : Rat) = ((((x : Rat) * p.1 + (y : Rat) * p.2).den : Int) : Rat) * ((x : Rat) * p.1 + (y : Rat) * p.2) := by
  have e := num_den ((x : Rat) * p.1 + (y : Rat) * p.2)
  have d : ((((x : Rat) * p.1 + (y : Rat) * p.2).den : Int) : Rat) = (((x : Rat) * p.1 + (y : Rat) * p.2).den : Rat) := rfl
  refine ⟨?_, ?_, ?_⟩
  · rw [Rat.intCast_mul]; grind
  · rw [Rat.intCast_mul]; grind
  · rw [e, d]; grind
theorem den_cast (q : Rat) : ((q.den : Int) : Rat) ≠ 0 := cast_ne (by have := q.den_nz; omega)
theorem slope_is {x y : Int} (h : x ≠ 0 ∨ y ≠ 0) (p : Rat × Rat) : IsL (slopeL x y p) := (canon_spec (slope_ne h _)).1
theorem slope_share {x y : Int} (h : x ≠ 0 ∨ y ≠ 0) (p : Rat × Rat) : ∃ t : Rat, t ≠ 0 ∧ ((slopeL x y p).a : Rat) = t * (x : Rat) ∧ ((slopeL x y p).b : Rat) = t * (y : Rat) ∧ ((slopeL x y p).c : Rat) = t * ((x : Rat) * p.1 + (y : Rat) * p.2) := by
  obtain ⟨e1, e2, e3⟩ := slope_tri x y p
  exact share_of (slope_ne h _) (den_cast _) e1 e2 e3
theorem slope_sz {x y : Int} {p : Rat × Rat} {m k : Nat} [hx : Sw m x] [hy : Sw m y] [hp : SzP k p] (h : x ≠ 0 ∨ y ≠ 0) : SzL (3 * m + 2 * k + 3) (slopeL x y p) := by
  obtain ⟨l1, l2, l3⟩ := canon_le (c := ((x : Rat) * p.1 + (y : Rat) * p.2).num) (slope_ne h ((x : Rat) * p.1 + (y : Rat) * p.2))
  have s : Sz ((m + 1) + k + ((m + 1) + k) + 1) ((x : Rat) * p.1 + (y : Rat) * p.2) := inferInstance
  have e : (m + 1) + k + ((m + 1) + k) + 1 = 2 * m + 2 * k + 3 := by omega
  rw [e] at s
  have mono : ∀ (u v j : Nat), u ≤ v → v < 2 ^ j → j ≤ 3 * m + 2 * k + 3 → u < 2 ^ (3 * m + 2 * k + 3) := fun u v j h1 h2 h3 => Nat.lt_of_le_of_lt h1 (Nat.lt_of_lt_of_le h2 (Nat.pow_le_pow_right (by decide) h3))
  have b1 : (x * (((x : Rat) * p.1 + (y : Rat) * p.2).den : Int)).natAbs < 2 ^ (m + (2 * m + 2 * k + 3)) := by rw [Int.natAbs_mul]; exact mul_lt_pow hx.h (by simpa using s.h.2)
  have b2 : (y * (((x : Rat) * p.1 + (y : Rat) * p.2).den : Int)).natAbs < 2 ^ (m + (2 * m + 2 * k + 3)) := by rw [Int.natAbs_mul]; exact mul_lt_pow hy.h (by simpa using s.h.2)
  exact ⟨mono _ _ _ l1 b1 (by omega), mono _ _ _ l2 b2 (by omega), mono _ _ _ l3 s.h.1 (by omega)⟩
theorem div_is {N d r : Rat} (h : d ≠ 0) (e : N = r * d) : N / d = r := by
  subst e
  grind
/-- the foot -/
def footP (l : Ln) (p : Rat × Rat) : Rat × Rat := (p.1 - (l.a : Rat) * abv l p / nn l, p.2 - (l.b : Rat) * abv l p / nn l)
theorem ne_ba {l : Ln} (hl : IsL l) : l.b ≠ 0 ∨ 0 - l.a ≠ 0 := by
  have := isl_ne hl
  omega
theorem det_slope {l : Ln} (hl : IsL l) (p : Rat × Rat) : detI l (slopeL l.b (0 - l.a) p) ≠ 0 := fun z => by
  obtain ⟨t, t0, e1, e2, _⟩ := slope_share (ne_ba hl) p
  have n0 := nn_ne hl
  have z' := congrArg (Int.cast (R := Rat)) z
  unfold detI at z'
  rw [Rat.intCast_sub, Rat.intCast_mul, Rat.intCast_mul, e1, e2, Rat.intCast_sub] at z'
  have z0 : ((0 : Int) : Rat) = 0 := rfl
  rw [z0] at z'
  unfold nn at n0
  grind
theorem foot_eq {l : Ln} (hl : IsL l) (p : Rat × Rat) : crossP l (slopeL l.b (0 - l.a) p) = footP l p := by
  obtain ⟨t, t0, e1, e2, e3⟩ := slope_share (ne_ba hl) p
  have n0 := nn_ne hl
  have z0 : ((0 : Int) : Rat) = 0 := rfl
  unfold crossP footP
  simp only [Rat.intCast_sub, Rat.intCast_mul, e1, e2, e3, z0]
  have d0 : (l.a : Rat) * (t * (0 - (l.a : Rat))) - t * (l.b : Rat) * (l.b : Rat) ≠ 0 := by
    unfold nn at n0
    grind
  unfold abv nn at *
  ext
  · simp only
    refine div_is d0 ?_
    grind
  · simp only
    refine div_is d0 ?_
    grind
theorem abv_foot {l : Ln} (hl : IsL l) (p : Rat × Rat) : abv l (footP l p) = 0 := by
  have n0 := nn_ne hl
  unfold footP abv nn at *
  simp only
  grind
/-- how far, times itself -/
def farQ (p q : Rat × Rat) : Rat := (q.1 - p.1) * (q.1 - p.1) + (q.2 - p.2) * (q.2 - p.2)
theorem far_foot {l : Ln} (hl : IsL l) (p : Rat × Rat) : farQ (footP l p) p = abv l p * abv l p / nn l := by
  have n0 := nn_ne hl
  unfold farQ footP
  simp only
  generalize abv l p = m
  unfold nn at *
  grind
/-- a point of the line -/
def onP (l : Ln) (t : Int) : Rat × Rat := (((l.a * l.c + t * l.b : Int) : Rat) / ((l.a * l.a + l.b * l.b : Int) : Rat), ((l.b * l.c - t * l.a : Int) : Rat) / ((l.a * l.a + l.b * l.b : Int) : Rat))
theorem nn_int (l : Ln) : ((l.a * l.a + l.b * l.b : Int) : Rat) = nn l := by
  rw [Rat.intCast_add, Rat.intCast_mul, Rat.intCast_mul]
  rfl
theorem abv_on {l : Ln} (hl : IsL l) (t : Int) : abv l (onP l t) = 0 := by
  have n0 := nn_ne hl
  unfold onP
  rw [nn_int]
  unfold abv
  simp only [Rat.intCast_add, Rat.intCast_sub, Rat.intCast_mul]
  unfold nn at *
  grind
/-- the foot is nearest -/
theorem foot_least {l : Ln} (hl : IsL l) {x : Rat × Rat} (hx : abv l x = 0) (p : Rat × Rat) : ¬ farQ x p < farQ (footP l p) p := by
  rw [far_foot hl]
  have n0 := nn_pos hl
  have sq := sq_nonneg ((l.a : Rat) * (p.2 - x.2) - (l.b : Rat) * (p.1 - x.1))
  have id : abv l p * abv l p + ((l.a : Rat) * (p.2 - x.2) - (l.b : Rat) * (p.1 - x.1)) * ((l.a : Rat) * (p.2 - x.2) - (l.b : Rat) * (p.1 - x.1)) = farQ x p * nn l := by
    unfold abv at hx
    unfold abv farQ nn
    grind
  have le : abv l p * abv l p ≤ farQ x p * nn l := by grind
  rw [Rat.lt_div_iff n0]
  exact Rat.not_lt.mpr le
theorem nnI_ne {l : Ln} (hl : IsL l) : l.a * l.a + l.b * l.b ≠ 0 := fun z => nn_ne hl (by rw [← nn_int, z]; rfl)
/-- a line by its multiples -/
theorem canon_mul {l : Ln} (hl : IsL l) {t : Int} (t0 : t ≠ 0) : canon (l.a * t) (l.b * t) (l.c * t) = l := by
  have s := canon_same (x := l.a * t) (y := l.b * t) (z := l.c * t) (x' := l.a) (y' := l.b) (z' := l.c) (a := (l.a : Rat)) (b := (l.b : Rat)) (c := (l.c : Rat)) (n := (t : Rat)) (n' := 1) ((isl_ne hl).elim (fun z => .inl (cast_ne z)) fun z => .inr (cast_ne z)) (cast_ne t0) (by decide)
    (by rw [Rat.intCast_mul]; grind) (by rw [Rat.intCast_mul]; grind) (by rw [Rat.intCast_mul]; grind) (by grind) (by grind) (by grind)
  rw [s, canon_self hl]
end DI
set_option Elab.async false
set_option linter.all false
set_option maxRecDepth 100000
set_option maxHeartbeats 400000
/-! DS11: fractions with a number below that is above nought; directions by two whole numbers -/
namespace DI
open PySem PySem.Spec PyProof.Rows L2
namespace B
def low : MF := { params := 2, slots := 4, fresh := false, body := [
  .par [2, 3] [.bi .abs [.var 0], .var 1],
  .whl (.cmp .gt (.var 3) (.int 0)) [
    .par [2, 3] [.var 3, .op .mod (.var 2) (.var 3)]],
  .ret (.tup [.op .fdiv (.var 0) (.var 2), .op .fdiv (.var 1) (.var 2)])] }
def lcap : MF := { params := 2, slots := 4, fresh := false, body := [
  .par [2, 3] [.bi .abs [.var 0], .bi .abs [.var 1]],
  .whl (.cmp .gt (.var 3) (.int 0)) [
    .par [2, 3] [.var 3, .op .mod (.var 2) (.var 3)]],
  .ret (.tup [.op .fdiv (.var 0) (.var 2), .op .fdiv (.var 1) (.var 2)])] }
def pcap : MF := { params := 2, slots := 3, fresh := false, body := [
  .asg (.nm 2) (.bi .gcd [.var 0, .var 1]),
  .ret (.tup [.op .fdiv (.var 0) (.var 2), .op .fdiv (.var 1) (.var 2)])] }
def over3 (f : Nat) : MF := { params := 2, slots := 3, fresh := false, body := [
  .asg (.nm 2) (.op .mul (.idx (.var 0) (.int 1)) (.idx (.var 1) (.int 0))),
  .ret (.call f [.op .mul (.op .mul (.idx (.var 0) (.int 0)) (.idx (.var 1) (.int 1))) (.ite (.cmp .gt (.var 2) (.int 0)) (.int 1) (.neg (.int 1))), .bi .abs [.var 2]])] }
end B
section
variable {T : List MF} {wf n f i m k : Nat} {μ : Mem} {p q : Rat}
theorem gcd_loop4 {C : Call} {a b : D} : ∀ (w y x : Nat), y < w →
    whileGo (fun e ν => evT C (.cmp .gt (.var 3) (.int 0)) e ν) (fun e ν => evSs C wf [.par [2, 3] [.var 3, .op .mod (.var 2) (.var 3)]] e ν) w [.val a, .val b, .val (.int x), .val (.int y)] μ = some (.nx [.val a, .val b, .val (.int (Nat.gcd x y : Nat)), .val (.int 0)], μ)
  | 0, y, x, h => absurd h (Nat.not_lt_zero _)
  | w + 1, y, x, h => by
    by_cases hy : y = 0
    · subst hy
      rw [while_end w (μ1 := μ) (by simp), Nat.gcd_zero_right]
      rfl
    · have hy' : 0 < y := by omega
      have e : opI .mod (x : Int) y = some ((x % y : Nat) : Int) := by
        rw [opI_mod (by omega), Int.fmod_eq_emod_of_nonneg _ (by omega)]
        rfl
      have ih := gcd_loop4 (C := C) (a := a) (b := b) w (x % y) y (by have := Nat.mod_lt x hy'; omega)
      rw [while_go w (μ1 := μ) (μ2 := μ) (e := [.val a, .val b, .val (.int y), .val (.int (x % y : Nat))]) (by simp [hy']) (by simp [e, parE, -Int.natCast_emod]), ih, Nat.gcd_comm y, ← Nat.gcd_rec, Nat.gcd_comm y]
def FracP (T : List MF) (wf f : Nat) : Prop := ∀ (n : Nat) (μ : Mem) (a b : Int) (m : Nat), 0 < b → a.natAbs < 2 ^ m → b.natAbs < 2 ^ m → m < 8000 → 2 ^ m ≤ wf → callN T wf (n + 1) f [.int a, .int b] μ = some (dQ (Rat.divInt a b), μ)
theorem FracP.low (hT : T[f]? = some B.low) : FracP T wf f := fun n μ a b m hb _ h1 hm hw => by
  refine run_ret hT rfl ?_
  have lp := gcd_loop4 (μ := μ) (wf := wf) (C := callN T wf n) (a := .int a) (b := .int b) wf b.natAbs a.natAbs (Nat.lt_of_lt_of_le h1 hw)
  have g : ((Nat.gcd a.natAbs b.natAbs : Nat) : Int) = (b.gcd a : Int) := by
    rw [Int.gcd_comm]
    rfl
  have hb0 : b ≠ 0 := by omega
  have g0 : b.gcd a ≠ 0 := fun z => hb0 (Int.gcd_eq_zero_iff.mp z).1
  have gl : b.gcd a < 2 ^ m := Nat.lt_of_le_of_lt (Nat.le_of_dvd (by omega) (Int.gcd_dvd_natAbs_left b a)) h1
  rw [g] at lp
  obtain ⟨q1, q2⟩ := fdiv_gcd (a := a) hb0 (m := (b.gcd a : Int)) (if_pos hb).symm
  have hd : ∀ x : Int, opI .fdiv x (b.gcd a : Int) = some (x.fdiv (b.gcd a : Int)) := fun x => opI_fdiv (by omega) (n := m) (by simpa using gl) (by omega)
  have nb : (b.natAbs : Int) = b := by omega
  refine (ss_nx (e := [.val (.int a), .val (.int b), .val (.int (a.natAbs : Nat)), .val (.int (b.natAbs : Nat))]) (μ1 := μ) (by simp [B.low, parE, abs_nat, nb])).trans ?_
  refine (ss_nx (by rw [evS]; exact lp)).trans (ss_ret ?_)
  simp [hd, q1, q2, dQ, sizeLine]
theorem plusP (hF : FracP T wf f) (hT : T[i]? = some (B.plus f)) (hw : WF wf) [hp : Sz m p] [hq : Sz k q] (h : m + k < 7990) : callN T wf (n + 2) i [dQ p, dQ q] μ = some (dQ (p + q), μ) := by
  refine run_ret hT rfl ?_
  have hp := hp.h
  have hq := hq.h
  obtain ⟨e1, e2, e3, e4⟩ := sm_muls hp hq (by omega)
  have z := hF n μ (p.num * q.den + q.num * p.den) (p.den * q.den) (m + k + 1) (Int.mul_pos (by have := p.den_pos; omega) (by have := q.den_pos; omega)) (by have := num_lt hp hq; have := Int.natAbs_add_le (p.num * q.den) (q.num * p.den); have : 2 ^ (m + k + 1) = 2 ^ (m + k) * 2 := Nat.pow_succ 2 (m + k); omega) (Nat.lt_of_lt_of_le (den_lt hp hq) (Nat.pow_le_pow_right (by decide) (by omega))) (by omega) (hw _ (by omega))
  rw [add_divInt] at z
  simp [B.plus, idx_dQ, e1, e2, e3, e4, z]
theorem minusP (hF : FracP T wf f) (hT : T[i]? = some (B.minus f)) (hw : WF wf) [hp : Sz m p] [hq : Sz k q] (h : m + k < 7990) : callN T wf (n + 2) i [dQ p, dQ q] μ = some (dQ (p - q), μ) := by
  refine run_ret hT rfl ?_
  have hp := hp.h
  have hq := hq.h
  obtain ⟨e1, e2, e3, e4⟩ := sm_muls hp hq (by omega)
  have z := hF n μ (p.num * q.den - q.num * p.den) (p.den * q.den) (m + k + 1) (Int.mul_pos (by have := p.den_pos; omega) (by have := q.den_pos; omega)) (by have := num_lt hp hq; have := Int.natAbs_sub_le (p.num * q.den) (q.num * p.den); have : 2 ^ (m + k + 1) = 2 ^ (m + k) * 2 := Nat.pow_succ 2 (m + k); omega) (Nat.lt_of_lt_of_le (den_lt hp hq) (Nat.pow_le_pow_right (by decide) (by omega))) (by omega) (hw _ (by omega))
  rw [sub_divInt] at z
  simp [B.minus, idx_dQ, e1, e2, e3, e4, z]
theorem timesP (hF : FracP T wf f) (hT : T[i]? = some (B.times f)) (hw : WF wf) [hp : Sz m p] [hq : Sz k q] (h : m + k < 7990) : callN T wf (n + 2) i [dQ p, dQ q] μ = some (dQ (p * q), μ) := by
  refine run_ret hT rfl ?_
  have hp := hp.h
  have hq := hq.h
  obtain ⟨e1, e2, e3, e4⟩ := sm_muls hp hq (by omega)
  have z := hF n μ (p.num * q.num) (p.den * q.den) (m + k + 1) (Int.mul_pos (by have := p.den_pos; omega) (by have := q.den_pos; omega)) (by rw [Int.natAbs_mul]; exact Nat.lt_of_lt_of_le (mul_lt_pow hp.1 hq.1) (Nat.pow_le_pow_right (by decide) (by omega))) (Nat.lt_of_lt_of_le (den_lt hp hq) (Nat.pow_le_pow_right (by decide) (by omega))) (by omega) (hw _ (by omega))
  rw [mul_divInt] at z
  simp [B.times, idx_dQ, e1, e2, e3, e4, z]
theorem over3E (hF : FracP T wf f) (hT : T[i]? = some (B.over3 f)) (hw : WF wf) [hp : Sz m p] [hq : Sz k q] (h : m + k < 7990) (h0 : q ≠ 0) : callN T wf (n + 2) i [dQ p, dQ q] μ = some (dQ (p / q), μ) := by
  refine run_ret hT rfl ?_
  have e1 := opI_mul (i := p.num) (j := (q.den : Int)) (n := m) (m := k) hp.h.1 (by simpa using hq.h.2) (by omega)
  have e2 := opI_mul (i := (p.den : Int)) (j := q.num) (n := m) (m := k) (by simpa using hp.h.2) hq.h.1 (by omega)
  have z0 : (p.den : Int) * q.num ≠ 0 := Int.mul_ne_zero (by have := p.den_nz; omega) (fun z => h0 (Rat.num_eq_zero.mp z))
  have b1 : (p.num * (q.den : Int)).natAbs < 2 ^ (m + k) := by rw [Int.natAbs_mul]; exact mul_lt_pow hp.h.1 hq.h.2
  have b2 : ((p.den : Int) * q.num).natAbs < 2 ^ (m + k) := by rw [Int.natAbs_mul]; exact mul_lt_pow hp.h.2 hq.h.1
  have dv := div_divInt (p := p) h0
  generalize hB : (p.den : Int) * q.num = Bq at *
  generalize hA : p.num * (q.den : Int) = Aq at *
  by_cases pos : 0 < Bq
  · have z := hF n μ Aq Bq (m + k) pos b1 b2 (by omega) (hw _ (by omega))
    rw [dv] at z
    have e3 := opI_mul (i := Aq) (j := 1) (n := m + k) (m := 1) b1 (by decide) (by omega)
    have nn : ¬ Bq < 0 := by omega
    rw [Int.mul_one] at e3
    simp [B.over3, idx_dQ, e1, e2, hA, hB, pos, e3, nn, z]
  · have z := hF n μ (-Aq) (-Bq) (m + k) (by omega) (by rw [Int.natAbs_neg]; exact b1) (by rw [Int.natAbs_neg]; exact b2) (by omega) (hw _ (by omega))
    have ng : Rat.divInt (-Aq) (-Bq) = Rat.divInt Aq Bq := by
      have b0 := cast_ne z0
      rw [Rat.divInt_eq_div, Rat.divInt_eq_div, Rat.intCast_neg, Rat.intCast_neg]
      grind
    rw [ng, dv] at z
    have e3 := opI_mul (i := Aq) (j := -1) (n := m + k) (m := 1) b1 (by decide) (by omega)
    have nn : Bq < 0 := by omega
    have m1 : Aq * -1 = -Aq := by omega
    rw [m1] at e3
    simp [B.over3, idx_dQ, e1, e2, hA, hB, pos, e3, nn, z]
/-- a direction without a common part -/
def capI (a b : Int) : Int × Int := (a.fdiv (Int.gcd a b), b.fdiv (Int.gcd a b))
def dC (c : Int × Int) : D := .tup [.int c.1, .int c.2]
theorem gcd_ne {a b : Int} (h : a ≠ 0 ∨ b ≠ 0) : Int.gcd a b ≠ 0 := fun z => by
  have := Int.gcd_eq_zero_iff.mp z
  omega
theorem gcd_le_pow {a b : Int} {m : Nat} [ha : Sw m a] [hb : Sw m b] (h : a ≠ 0 ∨ b ≠ 0) : Int.gcd a b < 2 ^ m := by
  rcases h with h | h
  · exact Nat.lt_of_le_of_lt (Nat.le_of_dvd (by omega) (Int.gcd_dvd_natAbs_left a b)) ha.h
  · exact Nat.lt_of_le_of_lt (Nat.le_of_dvd (by omega) (Int.gcd_dvd_natAbs_right a b)) hb.h
theorem lcap_ok (hT : T[i]? = some B.lcap) {a b : Int} [ha : Sw m a] [hb : Sw m b] (h : a ≠ 0 ∨ b ≠ 0) (hm : m < 7990) (hw : WF wf) : callN T wf (n + 1) i [.int a, .int b] μ = some (dC (capI a b), μ) := by
  refine run_ret hT rfl ?_
  have lp := gcd_loop4 (μ := μ) (wf := wf) (C := callN T wf n) (a := .int a) (b := .int b) wf b.natAbs a.natAbs (Nat.lt_of_lt_of_le hb.h (hw _ (by omega)))
  have gl := gcd_le_pow (a := a) (b := b) h
  have g0 := gcd_ne h
  have g : ((Nat.gcd a.natAbs b.natAbs : Nat) : Int) = (Int.gcd a b : Int) := rfl
  rw [g] at lp
  have hd : ∀ x : Int, opI .fdiv x (Int.gcd a b : Int) = some (x.fdiv (Int.gcd a b : Int)) := fun x => opI_fdiv (by omega) (n := m) (by simpa using gl) (by omega)
  refine (ss_nx (e := [.val (.int a), .val (.int b), .val (.int (a.natAbs : Nat)), .val (.int (b.natAbs : Nat))]) (μ1 := μ) (by simp [B.lcap, parE, abs_nat])).trans ?_
  refine (ss_nx (by rw [evS]; exact lp)).trans (ss_ret ?_)
  simp [hd, dC, capI, sizeLine]
theorem pcap_ok (hT : T[i]? = some B.pcap) {a b : Int} [ha : Sw m a] [hb : Sw m b] (h : a ≠ 0 ∨ b ≠ 0) (hm : m < 7990) : callN T wf (n + 1) i [.int a, .int b] μ = some (dC (capI a b), μ) := by
  refine run_ret hT rfl ?_
  have gl := gcd_le_pow (a := a) (b := b) h
  have g0 := gcd_ne h
  have hd : ∀ x : Int, opI .fdiv x (Int.gcd a b : Int) = some (x.fdiv (Int.gcd a b : Int)) := fun x => opI_fdiv (by omega) (n := m) (by simpa using gl) (by omega)
  have gg : biD μ .gcd [.int a, .int b] = some (.int (Int.gcd a b : Int)) := rfl
  simp [B.pcap, gg, hd, dC, capI, sizeLine]
end
end DI
set_option Elab.async false
set_option linter.all false
set_option maxRecDepth 100000
set_option maxHeartbeats 400000
/-! DS12: weights on both sides of a line; through each point one halves -/
namespace DI
open PySem PySem.Spec PyProof.Rows L2
/-- points with weights -/
abbrev Rows := List (Pt × Int)
def sumF (f : Pt → Bool) : Rows → Int
  | [] => 0
  | r :: rs => (if f r.1 then r.2 else 0) + sumF f rs
def tot (rs : Rows) : Int := (rs.map (·.2)).sum
theorem tot_cons (r : Pt × Int) (rs : Rows) : tot (r :: rs) = r.2 + tot rs := by simp [tot]
theorem sumF_nonneg (f : Pt → Bool) : ∀ rs : Rows, (∀ r, r ∈ rs → 0 ≤ r.2) → 0 ≤ sumF f rs
  | [], _ => Int.le_refl _
  | r :: rs, h => by
    have z := sumF_nonneg f rs fun x hx => h x (List.mem_cons_of_mem _ hx)
    have y := h r List.mem_cons_self
    unfold sumF
    split <;> omega
theorem sumF_two (f g : Pt → Bool) : ∀ rs : Rows, (∀ r, r ∈ rs → 0 ≤ r.2) → (∀ r, r ∈ rs → ¬ (f r.1 = true ∧ g r.1 = true)) → sumF f rs + sumF g rs ≤ tot rs
  | [], _, _ => by simp [sumF, tot]
  | r :: rs, h, d => by
    have z := sumF_two f g rs (fun x hx => h x (List.mem_cons_of_mem _ hx)) fun x hx => d x (List.mem_cons_of_mem _ hx)
    have y := h r List.mem_cons_self
    have e := d r List.mem_cons_self
    rw [tot_cons]
    unfold sumF
    by_cases a : f r.1 = true
    · have b : ¬ g r.1 = true := fun b => e ⟨a, b⟩
      rw [if_pos a, if_neg b]
      omega
    · rw [if_neg a]
      split <;> omega
theorem sumF_congr {f g : Pt → Bool} : ∀ {rs : Rows}, (∀ r, r ∈ rs → f r.1 = g r.1) → sumF f rs = sumF g rs
  | [], _ => rfl
  | r :: rs, h => by
    unfold sumF
    rw [h r List.mem_cons_self, sumF_congr fun x hx => h x (List.mem_cons_of_mem _ hx)]
theorem sumF_none {f : Pt → Bool} : ∀ {rs : Rows}, (∀ r, r ∈ rs → f r.1 = false) → sumF f rs = 0
  | [], _ => rfl
  | r :: rs, h => by
    unfold sumF
    rw [h r List.mem_cons_self, sumF_none fun x hx => h x (List.mem_cons_of_mem _ hx)]
    rfl
def lessW (l : Ln) (rs : Rows) : Int := sumF (fun p => decide (abv l p < 0)) rs
def moreW (l : Ln) (rs : Rows) : Int := sumF (fun p => decide (0 < abv l p)) rs
def halfB (l : Ln) (rs : Rows) : Bool := decide (2 * max (lessW l rs) (moreW l rs) ≤ tot rs)
/-! ### directions -/
def cr (u v : Pt) : Rat := u.1 * v.2 - u.2 * v.1
def vec (p q : Pt) : Pt := (q.1 - p.1, q.2 - p.2)
def neg (u : Pt) : Pt := (-u.1, -u.2)
theorem cr_neg (u v : Pt) : cr (neg u) v = - cr u v := by unfold cr neg; grind
theorem cr_neg2 (u v : Pt) : cr u (neg v) = - cr u v := by unfold cr neg; grind
theorem cr_symm (u v : Pt) : cr v u = - cr u v := by unfold cr; grind
theorem cr_self (u : Pt) : cr u u = 0 := by unfold cr; grind
theorem neg_neg' (u : Pt) : neg (neg u) = u := by unfold neg; ext <;> grind
theorem pos_of_mul {a b : Rat} (ha : 0 < a) (h : 0 < a * b) : 0 < b := by
  refine Classical.byContradiction fun n => ?_
  have z := Rat.mul_le_mul_of_nonneg_left (Rat.not_lt.mp n) (Rat.le_of_lt ha)
  rw [Rat.mul_zero] at z
  exact Rat.not_lt.mpr z h
theorem cr_trans {w a b c : Pt} (ha : 0 < cr w a) (hb : 0 < cr w b) (hc : 0 < cr w c) (h1 : 0 < cr a b) (h2 : 0 < cr b c) : 0 < cr a c := by
  have id : cr w b * cr a c = cr w a * cr b c + cr w c * cr a b := by unfold cr; grind
  have p1 := Rat.mul_pos ha h2
  have p2 := Rat.mul_pos hc h1
  refine pos_of_mul hb ?_
  rw [id]
  grind
/-- a last one -/
theorem last_dir {w : Pt} : ∀ l : List Pt, l ≠ [] → (∀ a, a ∈ l → 0 < cr w a) → ∃ m, m ∈ l ∧ ∀ x, x ∈ l → ¬ 0 < cr m x
  | [], h, _ => absurd rfl h
  | [a], _, _ => ⟨a, List.mem_cons_self, fun x hx => by
      rw [List.mem_singleton] at hx
      subst hx
      rw [cr_self]
      exact Rat.lt_irrefl⟩
  | a :: b :: l, _, h => by
    obtain ⟨m, hm, hx⟩ := last_dir (b :: l) (by simp) fun x hx => h x (List.mem_cons_of_mem _ hx)
    by_cases g : 0 < cr m a
    · refine ⟨a, List.mem_cons_self, fun x hx' => ?_⟩
      rcases List.mem_cons.mp hx' with rfl | hx'
      · rw [cr_self]
        exact Rat.lt_irrefl
      · intro z
        exact hx x hx' (cr_trans (h m (List.mem_cons_of_mem _ hm)) (h a List.mem_cons_self) (h x (List.mem_cons_of_mem _ hx')) g z)
    · refine ⟨m, List.mem_cons_of_mem _ hm, fun x hx' => ?_⟩
      rcases List.mem_cons.mp hx' with rfl | hx'
      · exact g
      · exact hx x hx'
/-- a first one -/
theorem first_dir {w : Pt} (l : List Pt) (ne : l ≠ []) (h : ∀ a, a ∈ l → 0 < cr w a) : ∃ m, m ∈ l ∧ ∀ x, x ∈ l → ¬ 0 < cr x m := by
  have mir : ∀ u v : Pt, cr (-u.1, u.2) (-v.1, v.2) = - cr u v := fun u v => by unfold cr; grind
  obtain ⟨m, hm, hx⟩ := last_dir (w := (w.1, -w.2)) (l.map fun u => (-u.1, u.2)) (by simpa using ne) fun a ha => by
    obtain ⟨b, hb, rfl⟩ := List.mem_map.mp ha
    have z := h b hb
    unfold cr at z ⊢
    simp only
    grind
  obtain ⟨b, hb, rfl⟩ := List.mem_map.mp hm
  refine ⟨b, hb, fun x hx' z => hx _ (List.mem_map.mpr ⟨x, hx', rfl⟩) ?_⟩
  rw [mir, cr_symm x b]
  grind
section
variable (rs : Rows) (p : Pt)
def leftW (u : Pt) : Int := sumF (fun q => decide (0 < cr u (vec p q))) rs
def rightW (u : Pt) : Int := sumF (fun q => decide (cr u (vec p q) < 0)) rs
theorem left_neg (u : Pt) : leftW rs p (neg u) = rightW rs p u := sumF_congr fun r _ => by
  rw [cr_neg, decide_eq_decide]
  constructor <;> intro h <;> grind
theorem right_neg (u : Pt) : rightW rs p (neg u) = leftW rs p u := by rw [← left_neg, neg_neg']
/-- the directions to the other points, both ways -/
def dirs : List Pt := (rs.filter fun r => decide (r.1 ≠ p)).flatMap fun r => [vec p r.1, neg (vec p r.1)]
theorem dirs_mem {u : Pt} : u ∈ dirs rs p ↔ ∃ r, r ∈ rs ∧ r.1 ≠ p ∧ (u = vec p r.1 ∨ u = neg (vec p r.1)) := by
  unfold dirs
  rw [List.mem_flatMap]
  constructor
  · rintro ⟨r, hr, hu⟩
    obtain ⟨h1, h2⟩ := List.mem_filter.mp hr
    simp only [List.mem_cons, List.not_mem_nil, or_false] at hu
    exact ⟨r, h1, of_decide_eq_true h2, hu⟩
  · rintro ⟨r, h1, h2, hu⟩
    exact ⟨r, List.mem_filter.mpr ⟨h1, decide_eq_true h2⟩, by simpa using hu⟩
theorem dirs_neg {u : Pt} (h : u ∈ dirs rs p) : neg u ∈ dirs rs p := by
  obtain ⟨r, h1, h2, h3⟩ := (dirs_mem rs p).mp h
  refine (dirs_mem rs p).mpr ⟨r, h1, h2, ?_⟩
  rcases h3 with rfl | rfl
  · exact .inr rfl
  · exact .inl (neg_neg' _)
theorem vec_dir {r : Pt × Int} (hr : r ∈ rs) {u : Pt} (h : 0 < cr u (vec p r.1) ∨ cr u (vec p r.1) < 0) : vec p r.1 ∈ dirs rs p := by
  refine (dirs_mem rs p).mpr ⟨r, hr, fun e => ?_, .inl rfl⟩
  have z : cr u (vec p r.1) = 0 := by
    rw [e]
    unfold cr vec
    grind
  rw [z] at h
  rcases h with h | h <;> exact Rat.lt_irrefl h
variable {rs p}
/-- two heavy sides without a common point -/
theorem two_heavy (hn : ∀ r, r ∈ rs → 0 ≤ r.2) {u v : Pt} (hu : tot rs < 2 * leftW rs p u) (hv : tot rs < 2 * rightW rs p v) (no : ∀ w, w ∈ dirs rs p → 0 < cr u w → 0 < cr w v → False) : False := by
  have z := sumF_two (fun q => decide (0 < cr u (vec p q))) (fun q => decide (cr v (vec p q) < 0)) rs hn fun r hr ⟨h1, h2⟩ => by
    have h1 := of_decide_eq_true h1
    have h2 := of_decide_eq_true h2
    refine no _ (vec_dir rs p hr (.inl h1)) h1 ?_
    rw [cr_symm]
    grind
  unfold leftW at hu
  unfold rightW at hv
  omega
theorem some_half (hn : ∀ r, r ∈ rs → 0 ≤ r.2) {q : Pt × Int} (hq : q ∈ rs) (ne : q.1 ≠ p) : ∃ r, r ∈ rs ∧ r.1 ≠ p ∧ 2 * leftW rs p (vec p r.1) ≤ tot rs ∧ 2 * rightW rs p (vec p r.1) ≤ tot rs := by
  refine Classical.byContradiction fun none => ?_
  have heavy : ∀ u, u ∈ dirs rs p → tot rs < 2 * leftW rs p u ∨ tot rs < 2 * rightW rs p u := fun u hu => by
    obtain ⟨r, h1, h2, h3⟩ := (dirs_mem rs p).mp hu
    have z : ¬ (2 * leftW rs p (vec p r.1) ≤ tot rs ∧ 2 * rightW rs p (vec p r.1) ≤ tot rs) := fun z => none ⟨r, h1, h2, z⟩
    rcases h3 with rfl | rfl
    · omega
    · rw [left_neg, right_neg]
      omega
  have d0 : vec p q.1 ∈ dirs rs p := (dirs_mem rs p).mpr ⟨q, hq, ne, .inl rfl⟩
  obtain ⟨u0, hu0, l0⟩ : ∃ u, u ∈ dirs rs p ∧ tot rs < 2 * leftW rs p u := by
    rcases heavy _ d0 with z | z
    · exact ⟨_, d0, z⟩
    · exact ⟨_, dirs_neg rs p d0, by rw [left_neg]; exact z⟩
  by_cases B : ∃ v, v ∈ dirs rs p ∧ 0 < cr u0 v ∧ tot rs < 2 * rightW rs p v
  · -- the first right-heavy one
    obtain ⟨v, hv, hf⟩ := first_dir (w := u0) ((dirs rs p).filter fun v => decide (0 < cr u0 v ∧ tot rs < 2 * rightW rs p v)) (fun z => by
      obtain ⟨v, b1, b2⟩ := B
      have : v ∈ (dirs rs p).filter fun v => decide (0 < cr u0 v ∧ tot rs < 2 * rightW rs p v) := List.mem_filter.mpr ⟨b1, decide_eq_true b2⟩
      rw [z] at this
      cases this) fun a ha => (of_decide_eq_true (List.mem_filter.mp ha).2).1
    obtain ⟨v1, v2⟩ := List.mem_filter.mp hv
    obtain ⟨v3, v4⟩ := of_decide_eq_true v2
    -- the last left-heavy one ahead of it
    obtain ⟨u, hu, hl⟩ := last_dir (w := neg v) ((dirs rs p).filter fun u => decide (0 ≤ cr u0 u ∧ 0 < cr u v ∧ tot rs < 2 * leftW rs p u)) (fun z => by
      have : u0 ∈ (dirs rs p).filter fun u => decide (0 ≤ cr u0 u ∧ 0 < cr u v ∧ tot rs < 2 * leftW rs p u) := List.mem_filter.mpr ⟨hu0, decide_eq_true ⟨by rw [cr_self]; exact Rat.le_refl, v3, l0⟩⟩
      rw [z] at this
      cases this) fun a ha => by
        have z := (of_decide_eq_true (List.mem_filter.mp ha).2).2.1
        rw [cr_neg, cr_symm]
        grind
    obtain ⟨u1, u2⟩ := List.mem_filter.mp hu
    obtain ⟨u3, u4, u5⟩ := of_decide_eq_true u2
    refine two_heavy hn u5 v4 fun w hw h1 h2 => ?_
    have pos : 0 < cr u0 w := by
      have id : cr u v * cr u0 w = cr w v * cr u0 u + cr u w * cr u0 v := by unfold cr; grind
      have p1 := Rat.mul_nonneg (Rat.le_of_lt h2) u3
      have p2 := Rat.mul_pos h1 v3
      refine pos_of_mul u4 ?_
      rw [id]
      grind
    rcases heavy w hw with z | z
    · exact hl w (List.mem_filter.mpr ⟨hw, decide_eq_true ⟨Rat.le_of_lt pos, h2, z⟩⟩) h1
    · exact hf w (List.mem_filter.mpr ⟨hw, decide_eq_true ⟨pos, z⟩⟩) h2
  · have allL : ∀ v, v ∈ dirs rs p → 0 < cr u0 v → tot rs < 2 * leftW rs p v := fun v hv h => by
      rcases heavy v hv with z | z
      · exact z
      · exact absurd ⟨v, hv, h, z⟩ B
    by_cases E : (dirs rs p).filter (fun u => decide (0 < cr u0 u)) = []
    · have z : leftW rs p u0 = 0 := sumF_none fun r hr => by
        rw [decide_eq_false_iff_not]
        intro h
        have : vec p r.1 ∈ (dirs rs p).filter (fun u => decide (0 < cr u0 u)) := List.mem_filter.mpr ⟨vec_dir rs p hr (.inl h), decide_eq_true h⟩
        rw [E] at this
        cases this
      have t0 : 0 ≤ tot rs := by
        have := sumF_two (fun _ => false) (fun _ => false) rs hn fun _ _ h => nomatch h.1
        rw [sumF_none fun _ _ => rfl] at this
        omega
      omega
    · obtain ⟨u, hu, hl⟩ := last_dir (w := u0) _ E fun a ha => of_decide_eq_true (List.mem_filter.mp ha).2
      obtain ⟨u1, u2⟩ := List.mem_filter.mp hu
      have u3 := of_decide_eq_true u2
      refine two_heavy (v := neg u0) hn (allL u u1 u3) (by rw [right_neg]; exact l0) fun w hw h1 h2 => ?_
      rw [cr_neg2, ← cr_symm] at h2
      exact hl w (List.mem_filter.mpr ⟨hw, decide_eq_true h2⟩) h1
end
end DI
set_option Elab.async false
set_option linter.all false
set_option maxRecDepth 100000
set_option maxHeartbeats 400000
/-! DS13: weights on both sides, reckoned; rows in their order; a line by its sums -/
namespace DI
open PySem PySem.Spec PyProof.Rows L2
/-- [g x for x in .. if p x] -/
theorem comp_selG {α : Type} {C : Call} {elt c : ME} {tg : MG} {src : MI} {own : List Nat} {env : Ev} {μ μ1 : Mem} {l : List α} {lks : List Lk} {e g : α → D} {p : α → Bool}
    (hI : evI C src env μ = some ((l.map e, lks), μ1)) (hl : lks.all (Lk.ok env μ1) = true)
    (h : ∀ a, a ∈ l → ∃ e1, bindG tg (e a) (wipeE env own) = some e1 ∧ evE C c e1 μ1 = some (.bl (p a), μ1) ∧ (p a = true → evE C elt e1 μ1 = some (g a, μ1)))
    (hs : l.length ≤ sizeLine) : evE C (.comp elt tg src [c] own) env μ = some (.lst ((l.filter p).map g), μ1) := by
  rw [evE]
  simp only [hI, Option.bind_some, hl, if_true]
  rw [compGo_pureA (g := fun a => if p a = true then some (g a) else none) hl l fun a ha => ?_]
  · have e1 : ∀ l : List α, (l.filterMap fun a => if p a = true then some (g a) else none) = (l.filter p).map g := fun l => by
      induction l with
      | nil => rfl
      | cons x l ih =>
        rw [List.filterMap_cons, List.filter_cons, ih]
        cases p x <;> rfl
    rw [e1]
    have : ((l.filter p).map g).length ≤ sizeLine := by
      rw [List.length_map]
      exact Nat.le_trans (List.length_filter_le _ _) hs
    simp only [Option.bind_some, this, if_true]
  · obtain ⟨e1, q1, q2, q3⟩ := h a ha
    rw [q1]
    cases hp : p a
    · simp [q2, truthD, hp]
    · simp [q2, q3 hp, truthD, hp]
/-! ### rows of whole numbers in their order -/
def rowD (ks : List Int) : D := .tup (ks.map .int)
def rowP (ks : List Int) : PyData := .tuple (ks.map .int)
theorem pyW_ints {cf : Nat → Option PyData} : ∀ ks : List Int, pyWs cf (ks.map D.int) = some (ks.map PyData.int)
  | [] => by simp [pyWs]
  | k :: ks => by simp [pyWs, pyW, pyW_ints ks]
theorem py_row {cf : Nat → Option PyData} (ks : List Int) : pyW cf (rowD ks) = some (rowP ks) := by simp [rowD, rowP, pyW, pyW_ints]
theorem depths_ints : ∀ ks : List Int, PyData.depthAll (ks.map PyData.int) = 0
  | [] => by simp [PyData.depthAll]
  | k :: ks => by simp [PyData.depthAll, PyData.depth, depths_ints ks]
theorem row_depth (ks : List Int) : (rowP ks).depth = 1 := by simp [rowP, PyData.depth, depths_ints]
theorem pyPairs_row {μ : Mem} : ∀ l : List (List Int), pyPairs μ (l.map rowD) = some (l.map fun x => (rowD x, rowP x))
  | [] => rfl
  | x :: l => by
    rw [List.map_cons, pyPairs, pyPairs_row l, show toPy μ (rowD x) = some (rowP x) from py_row x]
    rfl
theorem sort_row (l : List (List Int)) (hn : ∀ x, x ∈ l → x ≠ []) : ∃ m : List (List Int), (∀ μ : Mem, sortD μ (l.map rowD) = some (.lst (m.map rowD))) ∧ m.length = l.length ∧ ∀ x, x ∈ m ↔ x ∈ l := by
  refine ⟨l.mergeSort (PySem.W.dataLe false rowP), fun μ => ?_, List.length_mergeSort _, fun x => List.mem_mergeSort⟩
  unfold sortD
  rw [pyPairs_row]
  have ok : sortOk ((l.map fun x => (rowD x, rowP x)).map Prod.snd) = true := by
    rw [List.map_map]
    unfold sortOk
    rw [Bool.and_eq_true, Bool.and_eq_true, Bool.or_eq_true]
    refine ⟨⟨?_, .inl ?_⟩, ?_⟩
    · rw [List.all_eq_true]
      intro x hx
      rw [List.all_eq_true]
      intro y hy
      obtain ⟨p, _, rfl⟩ := List.mem_map.mp hx
      obtain ⟨q, _, rfl⟩ := List.mem_map.mp hy
      exact row_alike p q
    · rw [List.all_eq_true]
      intro x hx
      obtain ⟨p, hp, rfl⟩ := List.mem_map.mp hx
      cases p with
      | nil => exact absurd rfl (hn _ hp)
      | cons _ _ => rfl
    · rw [List.all_eq_true]
      intro x hx
      obtain ⟨p, _, rfl⟩ := List.mem_map.mp hx
      simp [row_depth]
  simp only [Option.bind_some, ok, if_true]
  have e := PySem.W.sort_maps (r := PySem.W.dataLe false rowP) (s := PySem.W.dataLe false Prod.snd) (fun x : List Int => (rowD x, rowP x)) (l := l) (fun _ _ _ _ => rfl)
  rw [← e, List.map_map]
  rfl
theorem dC_row (c : Int × Int) : dC c = rowD [c.1, c.2] := rfl
/-- lines == [] -/
theorem eqD_nil {μ : Mem} (l : List Ln) (hl : l.length ≤ 1000) : eqD μ (.lst (l.map dL)) (.lst []) = some (decide (l = [])) := by
  cases l with
  | nil => exact eqD_refl 1 rfl (by decide)
  | cons x l =>
    have pl : plainD 3 (.lst ((x :: l).map dL)) = true := by
      simp only [plainD, Bool.and_eq_true, decide_eq_true_eq, List.all_eq_true, List.length_map]
      refine ⟨fun y hy => ?_, hl⟩
      obtain ⟨z, _, rfl⟩ := List.mem_map.mp hy
      rfl
    obtain ⟨y, y1, y2, y3, _⟩ := py_plain (cf := cellPy μ 8) 3 _ pl
    obtain ⟨z, z1, z2, z3, _⟩ := py_plain (cf := cellPy μ 8) 1 (.lst []) rfl
    have sy : SeqAt.shaped y = true := shaped_of ⟨y2, by omega⟩
    have sz : SeqAt.shaped z = true := shaped_of ⟨z2, by omega⟩
    have hz : z = .list [] := by simpa [pyW, pyWs] using z1.symm
    have hy : ∃ a b, y = .list (a :: b) := by
      rw [List.map_cons, pyW, pyWs] at y1
      obtain ⟨ys, e1, e2⟩ := Option.map_eq_some_iff.mp y1
      obtain ⟨a, e3, e4⟩ := Option.bind_eq_some_iff.mp e1
      obtain ⟨b, e5, e6⟩ := Option.map_eq_some_iff.mp e4
      exact ⟨a, b, by rw [← e2, ← e6]⟩
    obtain ⟨a, b, rfl⟩ := hy
    subst hz
    unfold eqD toPy
    rw [y1, z1]
    simp only [Option.bind_some, sy, sz, Bool.and_self, if_true]
    simp [PyData.eqv, PyData.eqvAll]
theorem strict_same {F G : List Ln} (hF : F.Pairwise ltL) (hG : G.Pairwise ltL) (e : ∀ p, p ∈ F ↔ p ∈ G) : F = G := strict_one ltL_asym _ _ hF hG e
/-! ### sums -/
theorem sgQ_pos {q : Rat} (h : 0 < q) : sgQ q = 1 := by
  have : 0 < q.num := by simpa [Rat.lt_iff] using h
  unfold sgQ
  rw [if_pos this]
theorem sgQ_neg {q : Rat} (h : q < 0) : sgQ q = -1 := by
  have n : q.num < 0 := by simpa [Rat.lt_iff] using h
  unfold sgQ
  rw [if_neg (by omega), if_pos n]
theorem sum_filter (f : Pt → Bool) : ∀ rs : Rows, ((rs.filter fun r => f r.1).map (·.2)).sum = sumF f rs
  | [] => rfl
  | r :: rs => by
    have ih := sum_filter f rs
    rw [List.filter_cons]
    unfold sumF
    cases f r.1 <;> simp [ih]
theorem sumF_le (f : Pt → Bool) (rs : Rows) (h : ∀ r, r ∈ rs → 0 ≤ r.2) : sumF f rs ≤ tot rs := by
  have := sumF_two f (fun _ => false) rs h (fun _ _ z => nomatch z.2)
  rw [sumF_none (f := fun _ => false) fun _ _ => rfl] at this
  omega
theorem tot_le {b : Nat} : ∀ rs : Rows, (∀ r, r ∈ rs → r.2 ≤ b) → tot rs ≤ b * rs.length
  | [], _ => by simp [tot]
  | r :: rs, h => by
    have ih := tot_le rs fun x hx => h x (List.mem_cons_of_mem _ hx)
    have := h r List.mem_cons_self
    rw [tot_cons, List.length_cons, Int.natCast_add, Int.mul_add]
    omega
/-! ### a line through two points -/
theorem mul_sz {a b : Rat} {m k : Nat} (ha : Sm m a) (hb : Sm k b) (h : True := trivial) : (a.num * (b.den : Int)).natAbs < 2 ^ (m + k) := by
  rw [Int.natAbs_mul]
  exact mul_lt_pow ha.1 (by simpa using hb.2)
theorem thr_sz {p q : Pt} {m k : Nat} [hp : SzP m p] [hq : SzP k q] (ne : p ≠ q) : SzL (m + k + 1 + (k + m + 1) + (m + k + 1 + m + (k + m + 1 + m) + 1)) (thr p q) := by
  have sA : Sz (m + k + 1) (p.2 - q.2) := inferInstance
  have sB : Sz (k + m + 1) (q.1 - p.1) := inferInstance
  have sC : Sz (m + k + 1 + m + (k + m + 1 + m) + 1) ((p.2 - q.2) * p.1 + (q.1 - p.1) * p.2) := inferInstance
  generalize hA : p.2 - q.2 = A at *
  generalize hB : q.1 - p.1 = B at *
  generalize hC : A * p.1 + B * p.2 = C at *
  have h1 := num_den A
  have h2 := num_den B
  have h3 := num_den C
  have d1 := den_ne A
  have d2 := den_ne B
  have d3 := den_ne C
  have ab : A ≠ 0 ∨ B ≠ 0 := by rw [← hA, ← hB]; exact ab_ne ne
  obtain ⟨l1, l2⟩ := line_of (a := A) (b := B) (c := C) (x := A.num * (B.den * C.den : Int)) (y := B.num * (A.den * C.den : Int)) (z := C.num * (A.den * B.den : Int)) (n := (A.den : Rat) * (B.den : Rat) * (C.den : Rat)) ab (by grind)
    (by rw [Rat.intCast_mul, Rat.intCast_mul, h1]
        show _ * ((B.den : Rat) * (C.den : Rat)) = _
        grind)
    (by rw [Rat.intCast_mul, Rat.intCast_mul, h2]
        show _ * ((A.den : Rat) * (C.den : Rat)) = _
        grind)
    (by rw [Rat.intCast_mul, Rat.intCast_mul, h3]
        show _ * ((A.den : Rat) * (B.den : Rat)) = _
        grind)
  rw [thr_eq ne (canon_spec l1).1 (l2 p hC) (l2 q (by rw [← hC, ← hA, ← hB]; grind))]
  obtain ⟨c1, c2, c3⟩ := canon_le (c := C.num * (A.den * B.den : Int)) l1
  have da : (A.den : Int).natAbs < 2 ^ (m + k + 1) := by simpa using sA.h.2
  have db : (B.den : Int).natAbs < 2 ^ (k + m + 1) := by simpa using sB.h.2
  have dc : (C.den : Int).natAbs < 2 ^ (m + k + 1 + m + (k + m + 1 + m) + 1) := by simpa using sC.h.2
  refine ⟨Nat.lt_of_le_of_lt c1 ?_, Nat.lt_of_le_of_lt c2 ?_, Nat.lt_of_le_of_lt c3 ?_⟩
  · rw [Int.natAbs_mul, Int.natAbs_mul, Nat.add_assoc]
    exact mul_lt_pow sA.h.1 (mul_lt_pow db dc)
  · rw [Int.natAbs_mul, Int.natAbs_mul, Nat.add_comm (m + k + 1), Nat.add_assoc]
    exact mul_lt_pow sB.h.1 (mul_lt_pow da dc)
  · rw [Int.natAbs_mul, Int.natAbs_mul, Nat.add_comm]
    exact mul_lt_pow sC.h.1 (mul_lt_pow da db)
/-- above a line through two points is left or right of the way -/
theorem abv_thr {p q : Pt} (ne : p ≠ q) : ∃ t : Rat, t ≠ 0 ∧ ∀ r : Pt, abv (thr p q) r = t * cr (vec p q) (vec p r) := by
  obtain ⟨hl, hp, hq⟩ := thr_spec ne
  generalize thr p q = l at *
  have ab := isl_ne hl
  unfold On abv at hp hq
  by_cases z : q.1 - p.1 = 0
  · have z2 : q.2 - p.2 ≠ 0 := fun z2 => ne (Prod.ext (by grind) (by grind))
    have b0 : (l.b : Rat) = 0 := by
      have : (l.b : Rat) * (q.2 - p.2) = 0 := by grind
      rcases Rat.mul_eq_zero.mp this with h | h
      · exact h
      · exact absurd h z2
    have a0 : (l.a : Rat) ≠ 0 := by
      rcases ab with h | h
      · exact cast_ne h
      · exact absurd b0 (cast_ne h)
    refine ⟨-(l.a : Rat) / (q.2 - p.2), ?_, fun r => ?_⟩
    · intro h
      have e : (l.a : Rat) = -((-(l.a : Rat) / (q.2 - p.2)) * (q.2 - p.2)) := by grind
      rw [h] at e
      grind
    · unfold abv cr vec
      simp only
      grind
  · have t : (l.a : Rat) = -((l.b : Rat) * (q.2 - p.2) / (q.1 - p.1)) := by grind
    have b0 : (l.b : Rat) ≠ 0 := fun b0 => by
      rcases ab with h | h
      · exact cast_ne h (by rw [t, b0]; grind)
      · exact cast_ne h b0
    refine ⟨(l.b : Rat) / (q.1 - p.1), ?_, fun r => ?_⟩
    · intro h
      have e : (l.b : Rat) = ((l.b : Rat) / (q.1 - p.1)) * (q.1 - p.1) := by grind
      rw [h] at e
      grind
    · unfold abv cr vec
      simp only
      grind
theorem half_thr {rs : Rows} {p q : Pt} (ne : p ≠ q) (h1 : 2 * leftW rs p (vec p q) ≤ tot rs) (h2 : 2 * rightW rs p (vec p q) ≤ tot rs) : halfB (thr p q) rs = true := by
  obtain ⟨t, t0, e⟩ := abv_thr ne
  unfold halfB
  rw [decide_eq_true_eq]
  by_cases tp : 0 < t
  · have a : lessW (thr p q) rs = rightW rs p (vec p q) := sumF_congr fun r _ => by
      rw [e, decide_eq_decide]
      constructor
      · intro h
        refine Classical.byContradiction fun n => ?_
        have := Rat.mul_nonneg (Rat.le_of_lt tp) (Rat.not_lt.mp n)
        exact Rat.not_lt.mpr this h
      · intro h
        have := Rat.mul_pos tp (show 0 < - cr (vec p q) (vec p r.1) by grind)
        grind
    have b : moreW (thr p q) rs = leftW rs p (vec p q) := sumF_congr fun r _ => by
      rw [e, decide_eq_decide]
      exact ⟨fun h => pos_of_mul tp h, fun h => Rat.mul_pos tp h⟩
    omega
  · have tn : 0 < -t := by grind
    have a : lessW (thr p q) rs = leftW rs p (vec p q) := sumF_congr fun r _ => by
      rw [e, decide_eq_decide]
      constructor
      · intro h
        refine pos_of_mul tn ?_
        grind
      · intro h
        have := Rat.mul_pos tn h
        grind
    have b : moreW (thr p q) rs = rightW rs p (vec p q) := sumF_congr fun r _ => by
      rw [e, decide_eq_decide]
      constructor
      · intro h
        have : 0 < - cr (vec p q) (vec p r.1) := by
          refine pos_of_mul tn ?_
          grind
        grind
      · intro h
        have := Rat.mul_pos tn (show 0 < - cr (vec p q) (vec p r.1) by grind)
        grind
    omega
/-- the lines through p and other points that halve -/
noncomputable def hlines (rs : Rows) (p : Pt) : List Ln := (((rs.map (·.1)).filter fun q => decide (q ≠ p)).map (thr p)).filter (halfB · rs)
theorem some_line {rs : Rows} {p : Pt} (hn : ∀ r, r ∈ rs → 0 ≤ r.2) : hlines rs p = [] ↔ ((rs.map (·.1)).filter fun q => decide (q ≠ p)) = [] := by
  constructor
  · intro h
    refine Classical.byContradiction fun n => ?_
    obtain ⟨q, hq⟩ := List.exists_mem_of_ne_nil _ n
    obtain ⟨h1, h2⟩ := List.mem_filter.mp hq
    obtain ⟨r, hr, rfl⟩ := List.mem_map.mp h1
    obtain ⟨s, s1, s2, s3, s4⟩ := some_half hn hr (of_decide_eq_true h2)
    have : thr p s.1 ∈ hlines rs p := List.mem_filter.mpr ⟨List.mem_map.mpr ⟨s.1, List.mem_filter.mpr ⟨List.mem_map.mpr ⟨s, s1, rfl⟩, decide_eq_true s2⟩, rfl⟩, half_thr (fun e => s2 e.symm) s3 s4⟩
    rw [h] at this
    cases this
  · intro h
    unfold hlines
    rw [h]
    rfl
end DI
set_option Elab.async false
set_option linter.all false
set_option maxRecDepth 100000
set_option maxHeartbeats 400000
/-! DS14: exact, of lists and tuples alone -/
namespace DI
open PySem PySem.Spec PyProof.Rows L2
namespace B
def exact2 (i : Nat) : MF := { params := 2, slots := 6, fresh := false, body := [
  .iff (.isi (.var 0) [.list, .tuple]) [
    .asg (.nm 2) (.cmp .eq (.isi (.var 1) [.list]) (.isi (.var 0) [.list])),
    .asg (.nm 3) (.and (.var 2) (.cmp .eq (.isi (.var 1) [.tuple]) (.isi (.var 0) [.tuple]))),
    .ret (.and (.var 3) (.and (.cmp .eq (.bi .len [.var 0]) (.bi .len [.var 1])) (.bi .all [.comp (.call i [.var 4, .var 5]) (.tp [.nm 4, .nm 5]) (.zip (.var 0) (.var 1)) [] [4, 5]])))] [],
  .iff (.or (.isi (.var 1) [.list, .tuple]) (.cmp .ne (.isn false (.var 0)) (.isn false (.var 1)))) [
    .ret (.bl false)] [],
  .asg (.nm 3) (.and (.cmp .eq (.isi (.var 0) [.int]) (.isi (.var 1) [.int])) (.cmp .eq (.isi (.var 0) [.str]) (.isi (.var 1) [.str]))),
  .ret (.and (.var 3) (.and (.cmp .eq (.isi (.var 0) [.bool]) (.isi (.var 1) [.bool])) (.cmp .eq (.var 0) (.var 1))))] }
end B
section
variable {T : List MF} {wf i : Nat} {μ : Mem}
theorem exact2_seq (hT : T[i]? = some (B.exact2 i)) {n k : Nat} {a b : D} {xs ys : List D} (ih : ∀ x y, (x, y) ∈ xs.zip ys → callN T wf (k + n + 1) i [x, y] μ = some (.bl true, μ)) (hl : xs.length = ys.length) (hs : xs.length ≤ sizeLine)
    (hI : ∀ env : Ev, env[0]? = some (.val a) → env[1]? = some (.val b) → ∃ lks, evI (callN T wf (k + n + 1)) (.zip (.var 0) (.var 1)) env μ = some ((zipD xs ys, lks), μ) ∧ lks.all (Lk.ok env μ) = true)
    (ka : lenD μ a = some xs.length) (kb : lenD μ b = some ys.length) (la : liveD μ a = true) (lb : liveD μ b = true) (da : isT a .dict = false) (ta : (isT a .list || isT a .tuple) = true) (e1 : isT b .list = isT a .list) (e2 : isT b .tuple = isT a .tuple) :
    callN T wf (k + n + 1 + 1) i [a, b] μ = some (.bl true, μ) := by
  refine run_ret hT rfl ?_
  obtain ⟨lks, h1, h2⟩ := hI [.val a, .val b, .val (.bl true), .val (.bl true), .un, .un] rfl rfl
  have hc := comp_map (tg := .tp [.nm 4, .nm 5]) (elt := .call i [.var 4, .var 5]) (own := [4, 5]) (g := fun _ => .bl true) h1 h2 (fun x hx => by
    rw [zipD_eq] at hx
    obtain ⟨⟨p, q⟩, hp, rfl⟩ := List.mem_map.mp hx
    simp [wipeE, ih p q hp]) (by rw [zipD_eq, List.length_map, List.length_zip]; omega)
  have ha := bi_all (μ := μ) (fun _ => true) (zipD xs ys)
  simp [B.exact2, lb, ta, la, eqD_bl, e1, e2, ka, kb, hl, eqD_int]
  rw [hc]
  simp [ha]
/-- a is plain, b the same, lists may be cells -/
theorem exact2_ok (hT : T[i]? = some (B.exact2 i)) : ∀ (n k : Nat) (a b : D), Al μ n b a → callN T wf (k + n + 1) i [a, b] μ = some (.bl true, μ) := by
  have leaf : ∀ (n k : Nat) (a b : D), Al μ 0 b a → callN T wf (k + n + 1) i [a, b] μ = some (.bl true, μ) := fun n k a b h => by
    cases h
    · refine run_ret hT rfl ?_
      simp [B.exact2, liveD, isT, eqD_bl, eqD_non]
    · refine run_ret hT rfl ?_
      simp [B.exact2, liveD, isT, eqD_bl]
    · refine run_ret hT rfl ?_
      simp [B.exact2, liveD, isT, eqD_bl, eqD_int]
    · rename_i x hx
      refine run_ret hT rfl ?_
      simp [B.exact2, liveD, isT, eqD_bl, eqD_str hx]
  intro n
  induction n with
  | zero => exact fun k a b h => leaf 0 k a b h
  | succ n IH =>
    intro k a b h
    cases h
    · exact leaf (n + 1) k _ _ .non
    · exact leaf (n + 1) k _ _ (.bl _)
    · exact leaf (n + 1) k _ _ (.int _)
    · rename_i x hx
      exact leaf (n + 1) k _ _ (.str _ hx)
    · rename_i xs ys hl hs h
      refine exact2_seq hT (xs := ys) (ys := xs) (fun x y hxy => IH k x y (h y x ?_)) hl.symm (by rw [← hl]; exact hs) (fun env h0 h1 => ⟨[], by simp [evI_zip, h0, h1], rfl⟩) rfl rfl rfl rfl rfl rfl rfl rfl
      exact zip_turn hxy
    · rename_i xs ys hl hs h
      refine exact2_seq hT (xs := ys) (ys := xs) (fun x y hxy => IH k x y (h y x ?_)) hl.symm (by rw [← hl]; exact hs) (fun env h0 h1 => ⟨[], by simp [evI_zip, h0, h1, seqV, lockOf], rfl⟩) rfl rfl rfl rfl rfl rfl rfl rfl
      exact zip_turn hxy
    · rename_i c xs ys hc hf hl hs h
      refine exact2_seq hT (xs := ys) (ys := xs) (fun x y hxy => IH k x y (h y x ?_)) hl.symm (by rw [← hl]; exact hs) (fun env h0 h1 => ⟨[.cell c xs], by simp [evI_zip, h0, h1, seqV, lockOf, hc], by simp [Lk.ok, hc, beqs_refl xs hf]⟩) rfl (by simp [lenD, seqV, hc]) rfl (by simp [liveD, hc]) rfl rfl rfl rfl
      exact zip_turn hxy
end
end DI
set_option Elab.async false
set_option linter.all false
set_option maxRecDepth 100000
set_option maxHeartbeats 400000
/-! DS15: points laid into a list that is no one's own; things drawn along a list -/
namespace DI
open PySem PySem.Spec PyProof.Rows L2
namespace B
def law_set (c : Nat) : MF := { params := 1, slots := 5, fresh := false, body := [
  .asg (.nm 1) (.lst []),
  .for (.nm 2) (.seq (.var 0)) [
    .iff (.cmp .nin (.var 2) (.var 1)) [
      .asg (.nm 3) (.bi .len [.comp (.var 4) (.nm 4) (.seq (.var 1)) [.call c [.var 4, .var 2]] [4]]),
      .asg (.nm 1) (.op .add (.op .add (.slc (.var 1) none (some (.var 3))) (.lst [.var 2])) (.slc (.var 1) (some (.var 3)) none))] []],
  .ret (.var 1)] }
end B
section
variable {T : List MF} {wf n i m c : Nat} {μ : Mem}
theorem law_set_ok (hT : T[i]? = some (B.law_set c)) (hC : AheadOk T wf n m c) {l : List Pt} (hl : ∀ p, p ∈ l → SmP m p) (hs : l.length ≤ 1000) : callN T wf (n + 1) i [.lst (l.map dP)] μ = some (.lst ((sortP l).map dP), μ) := by
  refine run_ret hT rfl ?_
  obtain ⟨env', μ', hf, f, rest, v2, v3, v4, he, hr, hall, hfl, hmu⟩ := for_run (C := callN T wf n) (wf := wf) (tg := .nm 2) (body := [
    .iff (.cmp .nin (.var 2) (.var 1)) [
      .asg (.nm 3) (.bi .len [.comp (.var 4) (.nm 4) (.seq (.var 1)) [.call c [.var 4, .var 2]] [4]]),
      .asg (.nm 1) (.op .add (.op .add (.slc (.var 1) none (some (.var 3))) (.lst [.var 2])) (.slc (.var 1) (some (.var 3)) none))] []]) (src := .seq (.var 0))
    (env := [.val (.lst (l.map dP)), .val (.lst []), .un, .un, .un]) (μ := μ) (μ1 := μ) (xs := l.map dP) (lks := [])
    (P := fun r e ν => ∃ (f rest : List Pt) (v2 v3 v4 : Sl), e = [.val (.lst (l.map dP)), .val (.lst (f.map dP)), v2, v3, v4] ∧ r = rest.map dP ∧ rest.foldl insP f = sortP l ∧ ((∀ p, p ∈ f → SmP m p) ∧ (∀ p, p ∈ rest → SmP m p) ∧ f.length + rest.length ≤ 1000) ∧ ν = μ)
    (by simp [evI_seq, itemsD, seqV, lockOf]) rfl (fun _ _ _ _ => rfl) (fun x r e ν q => by
      obtain ⟨f, rest, v2, v3, v4, he, hr, hall, ⟨s1, s2, s3⟩, hmu⟩ := q
      subst hmu he
      cases rest with
      | nil => simp at hr
      | cons p rest =>
        rw [List.map_cons] at hr
        obtain ⟨rfl, rfl⟩ := List.cons.inj hr
        rw [List.length_cons] at s3
        have sp : SmP m p := s2 p List.mem_cons_self
        have fin := inD_dP (μ := ν) p f
        refine ⟨_, [.val (.lst (l.map dP)), .val (.lst ((insP f p).map dP)), .val (dP p), if p ∈ f then v3 else .val (.int (f.filter (aheadB · p)).length), v4], ν, rfl, ?_, insP f p, rest, _, _, _, rfl, rfl, hall, ⟨fun x hx => ?_, fun x hx => s2 x (List.mem_cons_of_mem _ hx), ?_⟩, rfl⟩
        · by_cases hp : p ∈ f
          · have fe : insP f p = f := by unfold insP; rw [if_pos hp]
            simp [fin, hp, fe]
          · have hc := comp_selA (C := callN T wf n) (tg := .nm 4) (elt := .var 4) (c := .call c [.var 4, .var 2]) (own := [4]) (src := .seq (.var 1)) (env := [.val (.lst (l.map dP)), .val (.lst (f.map dP)), .val (dP p), v3, v4]) (μ := ν) (μ1 := ν) (l := f) (lks := []) (e := dP) (p := (aheadB · p))
              (by simp [evI_seq, itemsD, seqV, lockOf]) rfl
              (fun x hx => ⟨_, rfl, by simp [wipeE, hC ν x p (s1 x hx) sp], by simp [wipeE]⟩) (by unfold sizeLine; omega)
            have fl := filter_small (l := f) (g := (aheadB · p))
            have ad1 := add_lst (μ := ν) ((f.map dP).take (f.filter (aheadB · p)).length) [dP p] (by simp only [List.length_take, List.length_map, List.length_cons, List.length_nil]; unfold sizeLine; omega)
            have ad2 := add_lst (μ := ν) ((f.map dP).take (f.filter (aheadB · p)).length ++ [dP p]) ((f.map dP).drop (f.filter (aheadB · p)).length) (by simp only [List.length_append, List.length_take, List.length_drop, List.length_map, List.length_cons, List.length_nil]; unfold sizeLine; omega)
            have fe : (insP f p).map dP = (f.map dP).take (f.filter (aheadB · p)).length ++ [dP p] ++ (f.map dP).drop (f.filter (aheadB · p)).length := by unfold insP; rw [if_neg hp]; simp [List.map_take, List.map_drop]
            have sl : 1 ≤ sizeLine := by decide
            rw [fe]
            simp [fin, hp]
            rw [hc]
            simp [bindG, slcD, seqV, lenD, cut_to, cut_from, ad1, ad2, sl]
        · rcases insP_mem.mp hx with rfl | hx
          · exact sp
          · exact s1 x hx
        · have := insP_len (f := f) (p := p)
          omega) ⟨[], l, .un, .un, .un, rfl, rfl, rfl, ⟨(fun _ z => nomatch z), hl, by simpa using hs⟩, rfl⟩
  cases rest with
  | cons _ _ => simp at hr
  | nil =>
    rw [List.foldl_nil] at hall
    subst hmu hall
    have sl : (0 : Nat) ≤ sizeLine := Nat.zero_le _
    simp [B.law_set, hf, he]
/-- [.. for x in a list], drawn -/
theorem draws_seq {α : Type} {C : Call} (g : α → D) (P : α → Prop) (K : Nat) {elt : ME} {j b : Nat} {src : MI} {xs : List D} {own : List Nat} {env : Ev} {μ μ0 : Mem} (hI : evI C src env μ0 = some ((xs, []), μ)) (lk : xs.length ≤ 1000000)
    (hstep : ∀ (x : D) (μ : Mem) (b : Nat), Pur μ c b → b + K < 2 ^ 190 → ∃ (a : α) (μ' : Mem), evE C elt ((wipeE env own).set j (.val x)) μ = some (g a, μ') ∧ P a ∧ Pur μ' c (b + K) ∧ Ot c μ μ') (h : Pur μ c b) (hb : b + K * xs.length < 2 ^ 190) :
    ∃ (l : List α) (μ' : Mem), evE C (.comp elt (.nm j) src [] own) env μ0 = some (.lst (l.map g), μ') ∧ l.length = xs.length ∧ (∀ p, p ∈ l → P p) ∧ Pur μ' c (b + K * xs.length) ∧ Ot c μ μ' := by
  obtain ⟨l, μ2, e2, l2, q2, h2, o2⟩ := draws g P K (c := c) (step := fun x ν => (bindG (.nm j) x (wipeE env own)).bind fun e1 => (evCs C [] e1 ν).bind fun cc =>
          if cc.1 then (evE C elt e1 cc.2).map fun q => (some q.1, q.2) else some (none, cc.2)) (fun x μ b h hb => by
    obtain ⟨p, μ', e, q, h', o'⟩ := hstep x μ b h hb
    exact ⟨p, μ', by simp [e], q, h', o'⟩) xs b μ h hb
  refine ⟨l, μ2, ?_, l2, q2, h2, o2⟩
  rw [evE, hI]
  simp only [Option.bind_some, List.all_nil, if_true]
  rw [e2]
  have sl : (l.map g).length ≤ sizeLine := by
    rw [List.length_map]
    unfold sizeLine
    omega
  simp only [Option.bind_some, sl, if_true]
end
end DI
set_option Elab.async false
set_option linter.all false
set_option maxRecDepth 100000
set_option maxHeartbeats 400000
/-! DS16: cells just made, held against lists; ends without a common part -/
namespace DI
open PySem PySem.Spec PyProof.Rows L2
abbrev more : D := .str (Str.ofString "more")
/-! ### two new cells -/
theorem two_a (ν : Mem) (A B : List D) : (ν ++ [some A] ++ [some B])[ν.length]? = some (some A) := by simp
theorem two_b (ν : Mem) (A B : List D) : (ν ++ [some A] ++ [some B])[ν.length + 1]? = some (some B) := by simp
theorem two_o (ν : Mem) (A B : List D) {j : Nat} (h : j < ν.length) : (ν ++ [some A] ++ [some B])[j]? = ν[j]? := by
  rw [List.append_assoc, List.getElem?_append_left h]
theorem two_len (ν : Mem) (A B : List D) : (ν ++ [some A] ++ [some B]).length = ν.length + 2 := by simp
theorem cells2 {C : Call} {x y : ME} {env : Ev} {ν : Mem} {A B : List D} (h1 : evE C x env ν = some (.lst A, ν)) (h2 : evE C y env (ν ++ [some A]) = some (.lst B, ν ++ [some A])) : evE C (.lst [.cell x, .cell y]) env ν = some (.lst [.ref ν.length, .ref (ν.length + 1)], ν ++ [some A] ++ [some B]) := by
  simp [h1, h2, sizeLine]
theorem al_lst {ν : Mem} {n : Nat} {xs : List D} (h : plainD (n + 1) (.lst xs) = true) : Al ν (n + 1) (.lst xs) (.lst xs) := al_plain (n + 1) _ h
theorem flats_plain : ∀ (n : Nat) (xs : List D), (∀ x, x ∈ xs → plainD n x = true) → flats xs = true := by
  have one : ∀ (n : Nat) (d : D), plainD n d = true → flat d = true := fun n => by
    induction n with
    | zero => intro d h; cases d <;> first | rfl | (simp [plainD] at h)
    | succ n ih =>
      intro d h
      cases d with
      | tup xs =>
        simp only [plainD, Bool.and_eq_true, List.all_eq_true] at h
        simp only [flat]
        exact (flats_iff xs).mpr fun x hx => ih x (h.1 x hx)
      | lst xs =>
        simp only [plainD, Bool.and_eq_true, List.all_eq_true] at h
        simp only [flat]
        exact (flats_iff xs).mpr fun x hx => ih x (h.1 x hx)
      | non => rfl
      | bl _ => rfl
      | int _ => rfl
      | _ => simp [plainD] at h
  exact fun n xs h => (flats_iff xs).mpr fun x hx => one n x (h x hx)
theorem al_cel {ν : Mem} {n k : Nat} {xs : List D} (hk : ν[k]? = some (some xs)) (h : plainD (n + 1) (.lst xs) = true) : Al ν (n + 1) (.ref k) (.lst xs) := by
  have h' := h
  simp only [plainD, Bool.and_eq_true, decide_eq_true_eq, List.all_eq_true] at h'
  refine .cel hk (flats_plain n xs h'.1) rfl (fun x y hxy => ?_) (by unfold sizeLine; omega)
  obtain ⟨e, m⟩ := zip_self xs x y hxy
  rw [← e]
  exact al_plain n x (h'.1 x m)
theorem al_two {ν : Mem} {n : Nat} {a b u v : D} (h1 : Al ν n a u) (h2 : Al ν n b v) : Al ν (n + 1) (.lst [a, b]) (.lst [u, v]) := .lst rfl (fun x y hxy => by
  simp only [List.zip_cons_cons, List.zip_nil_right, List.mem_cons, List.not_mem_nil, or_false, Prod.mk.injEq] at hxy
  rcases hxy with ⟨rfl, rfl⟩ | ⟨rfl, rfl⟩
  · exact h1
  · exact h2) (by unfold sizeLine; simp)
theorem plain_dP (p : Pt) : plainD 2 (dP p) = true := rfl
theorem plain_dL (l : Ln) : plainD 2 (dL l) = true := rfl
theorem plain_list {α : Type} {g : α → D} (h : ∀ x, plainD 2 (g x) = true) (l : List α) (hl : l.length ≤ 1000) : plainD 3 (.lst (l.map g)) = true := by
  simp only [plainD, Bool.and_eq_true, decide_eq_true_eq, List.all_eq_true, List.length_map]
  refine ⟨fun x hx => ?_, hl⟩
  obtain ⟨y, _, rfl⟩ := List.mem_map.mp hx
  exact h y
theorem cells2c {C : Call} {x y : ME} {env : Ev} {ν : Mem} {A B : List D} {Z : Option (List D)} (h1 : evE C x env ν = some (.lst A, ν ++ [Z])) (h2 : evE C y env (ν ++ [Z] ++ [some A]) = some (.lst B, ν ++ [Z] ++ [some A] ++ [Z])) :
    evE C (.lst [.cell x, .cell y]) env ν = some (.lst [.ref (ν.length + 1), .ref (ν.length + 3)], ν ++ [Z] ++ [some A] ++ [Z] ++ [some B]) := by
  have l1 : (ν ++ [Z]).length = ν.length + 1 := by simp
  have l3 : (ν ++ [Z] ++ [some A] ++ [Z]).length = ν.length + 3 := by simp
  simp only [evE_lst, evEs_e, evEs_nil, evE_cell, h1, h2, Option.bind_some, Option.map_some, l1, l3]
  simp [sizeLine]
theorem four_b (ν : Mem) (Z W : Option (List D)) (A B : List D) : (ν ++ [Z] ++ [some A] ++ [W] ++ [some B])[ν.length + 1]? = some (some A) := by simp
theorem four_d (ν : Mem) (Z W : Option (List D)) (A B : List D) : (ν ++ [Z] ++ [some A] ++ [W] ++ [some B])[ν.length + 3]? = some (some B) := by simp
/-- both ends of each line's way -/
def capK (F : List Ln) : List (List Int) := F.flatMap fun l => [[(capI l.a l.b).1, (capI l.a l.b).2], [-(capI l.a l.b).1, -(capI l.a l.b).2]]
theorem capK_app (F : List Ln) (l : Ln) : capK (F ++ [l]) = capK F ++ [[(capI l.a l.b).1, (capI l.a l.b).2], [-(capI l.a l.b).1, -(capI l.a l.b).2]] := by
  unfold capK
  rw [List.flatMap_append]
  rfl
theorem capK_len (F : List Ln) : (capK F).length = 2 * F.length := by
  unfold capK
  induction F with
  | nil => rfl
  | cons l F ih => rw [List.flatMap_cons, List.length_append, ih, List.length_cons, List.length_cons, List.length_cons, List.length_nil]; omega
theorem capK_row {F : List Ln} {x : List Int} (h : x ∈ capK F) : x.length = 2 := by
  unfold capK at h
  obtain ⟨l, _, hx⟩ := List.mem_flatMap.mp h
  simp only [List.mem_cons, List.not_mem_nil, or_false] at hx
  rcases hx with rfl | rfl <;> rfl
/-- sorted -/
theorem caps_sorted (F : List Ln) (h : F.length ≤ 100) : ∃ S : List D, (∀ μ : Mem, sortD μ ((capK F).map rowD) = some (.lst S)) ∧ plainD 3 (.lst S) = true ∧ S.length ≤ 200 := by
  obtain ⟨m, m1, m2, m3⟩ := sort_row (capK F) (fun x hx e => by
    have := capK_row hx
    rw [e] at this
    simp at this)
  have l := capK_len F
  refine ⟨m.map rowD, m1, ?_, by rw [List.length_map]; omega⟩
  simp only [plainD, Bool.and_eq_true, decide_eq_true_eq, List.all_eq_true, List.length_map]
  refine ⟨fun x hx => ?_, by omega⟩
  obtain ⟨ks, hk, rfl⟩ := List.mem_map.mp hx
  have r := capK_row ((m3 ks).mp hk)
  unfold rowD
  simp only [plainD, Bool.and_eq_true, decide_eq_true_eq, List.all_eq_true, List.length_map]
  refine ⟨fun y hy => ?_, by omega⟩
  obtain ⟨i, _, rfl⟩ := List.mem_map.mp hy
  rfl
end DI
set_option Elab.async false
set_option linter.all false
set_option maxRecDepth 100000
set_option maxHeartbeats 400000
/-! DS17: all pairs of a set; the lines through them -/
namespace DI
open PySem PySem.Spec PyProof.Rows L2
def pairsP : List Pt → List (Pt × Pt)
  | [] => []
  | p :: ps => ps.map (fun q => (p, q)) ++ pairsP ps
theorem comb_dP : ∀ ps : List Pt, combD (ps.map dP) = (pairsP ps).map fun w => .tup [dP w.1, dP w.2]
  | [] => rfl
  | p :: ps => by
    rw [List.map_cons, combD, comb_dP ps, pairsP, List.map_append, List.map_map, List.map_map]
    rfl
theorem pairs_len : ∀ ps : List Pt, 2 * (pairsP ps).length + ps.length = ps.length * ps.length
  | [] => rfl
  | p :: ps => by
    have ih := pairs_len ps
    have e : (ps.length + 1) * (ps.length + 1) = ps.length * ps.length + 2 * ps.length + 1 := by
      rw [Nat.add_mul, Nat.mul_add ps.length]
      omega
    rw [pairsP, List.length_append, List.length_map, List.length_cons, e]
    omega
theorem pairs_small {ps : List Pt} (h : ps.length ≤ 10) : (pairsP ps).length < 64 := by
  have l := pairs_len ps
  have m := Nat.mul_le_mul h h
  omega
theorem pairs_ne : ∀ {ps : List Pt}, Srt ps → ∀ w, w ∈ pairsP ps → w.1 ≠ w.2 ∧ w.1 ∈ ps ∧ w.2 ∈ ps
  | [], _, w, h => by cases h
  | p :: ps, hs, w, h => by
    obtain ⟨h1, h2⟩ := List.pairwise_cons.mp hs
    rw [pairsP] at h
    rcases List.mem_append.mp h with h | h
    · obtain ⟨q, hq, rfl⟩ := List.mem_map.mp h
      refine ⟨fun e => ?_, List.mem_cons_self, List.mem_cons_of_mem _ hq⟩
      have z := h1 q hq
      simp only at e
      rw [e, ahead_irrefl] at z
      cases z
    · obtain ⟨a, b, c⟩ := pairs_ne h2 w h
      exact ⟨a, List.mem_cons_of_mem _ b, List.mem_cons_of_mem _ c⟩
noncomputable def pairsL (ps : List Pt) : List Ln := (pairsP ps).map fun w => thr w.1 w.2
theorem pairsL_cons (p : Pt) (ps : List Pt) : pairsL (p :: ps) = ps.map (thr p) ++ pairsL ps := by
  unfold pairsL
  rw [pairsP, List.map_append, List.map_map]
  rfl
/-- the lines of a set, those that halve -/
structure DueL (rs : Rows) (F G : List Ln) : Prop where
  all : ssetD ((pairsL (rs.map (·.1))).map dL) = some (.lst (G.map dL))
  set : ssetD (((pairsL (rs.map (·.1))).filter (halfB · rs)).map dL) = some (.lst (F.map dL))
  fil : G.filter (halfB · rs) = F
  srt : F.Pairwise ltL
  mem : ∀ l, l ∈ F ↔ l ∈ (pairsL (rs.map (·.1))).filter (halfB · rs)
  memG : ∀ l, l ∈ G ↔ l ∈ pairsL (rs.map (·.1))
  len : G.length ≤ 63
theorem dueL_is {rs : Rows} (hl : rs.length ≤ 10) : ∃ F G, DueL rs F G := by
  have l1 : (pairsL (rs.map (·.1))).length < 64 := by
    unfold pairsL
    rw [List.length_map]
    exact pairs_small (by rw [List.length_map]; exact hl)
  have l2 := List.length_filter_le (halfB · rs) (pairsL (rs.map (·.1)))
  obtain ⟨G, g1, g2, g3, g4⟩ := sset_dL (pairsL (rs.map (·.1))) l1
  obtain ⟨F, f1, f2, f3, f4⟩ := sset_dL ((pairsL (rs.map (·.1))).filter (halfB · rs)) (by omega)
  refine ⟨F, G, g1, f1, strict_same (g2.filter _) f2 fun l => ?_, f2, f3, g3, by omega⟩
  rw [f3, List.mem_filter, List.mem_filter, g3]
theorem thr_sz30 {p q : Pt} (hp : SmP 30 p) (hq : SmP 30 q) (ne : p ≠ q) : SzL 305 (thr p q) := by
  have s1 : SzP 30 p := ⟨hp⟩
  have s2 : SzP 30 q := ⟨hq⟩
  exact thr_sz ne
end DI
set_option Elab.async false
set_option linter.all false
set_option maxRecDepth 100000
set_option maxHeartbeats 4000000
namespace K64
open PySem PySem.Spec PyProof.Rows L2 DI
/-- value -/
def b_is_whole : MF := { params := 1, slots := 1, fresh := false, body := [
  .ret (.and (.isi (.var 0) [.int]) (.not (.isi (.var 0) [.bool])))] }
/-- value, least -/
def b_is_count : MF := { params := 2, slots := 2, fresh := false, body := [
  .ret (.and (.call 0 [.var 0]) (.cmp .ge (.var 0) (.bi .max [.var 1, .int 0])))] }
/-- value, size -/
def b_is_tuple_of : MF := { params := 2, slots := 2, fresh := false, body := [
  .ret (.and (.isi (.var 0) [.tuple]) (.cmp .eq (.bi .len [.var 0]) (.var 1)))] }
/-- value -/
def b_is_fraction : MF := { params := 1, slots := 1, fresh := false, body := [
  .iff (.or (.not (.call 2 [.var 0, .int 2])) (.or (.not (.call 0 [.idx (.var 0) (.int 0)])) (.or (.not (.call 0 [.idx (.var 0) (.int 1)])) (.cmp .lt (.idx (.var 0) (.int 1)) (.int 1))))) [
    .ret (.bl false)] [],
  .ret (.cmp .eq (.bi .gcd [.idx (.var 0) (.int 0), .idx (.var 0) (.int 1)]) (.int 1))] }
/-- above, below, many -/
def b_fraction : MF := { params := 2, slots := 3, fresh := false, body := [
  .asg (.nm 2) (.ite (.cmp .gt (.var 1) (.int 0)) (.bi .gcd [.var 0, .var 1]) (.op .sub (.int 0) (.bi .gcd [.var 0, .var 1]))),
  .ret (.tup [.op .fdiv (.var 0) (.var 2), .op .fdiv (.var 1) (.var 2)])] }
/-- one, other -/
def b_plus : MF := { params := 2, slots := 2, fresh := false, body := [
  .ret (.call 4 [.op .add (.op .mul (.idx (.var 0) (.int 0)) (.idx (.var 1) (.int 1))) (.op .mul (.idx (.var 1) (.int 0)) (.idx (.var 0) (.int 1))), .op .mul (.idx (.var 0) (.int 1)) (.idx (.var 1) (.int 1))])] }
/-- one, other -/
def b_minus : MF := { params := 2, slots := 2, fresh := false, body := [
  .ret (.call 4 [.op .sub (.op .mul (.idx (.var 0) (.int 0)) (.idx (.var 1) (.int 1))) (.op .mul (.idx (.var 1) (.int 0)) (.idx (.var 0) (.int 1))), .op .mul (.idx (.var 0) (.int 1)) (.idx (.var 1) (.int 1))])] }
/-- one, other -/
def b_times : MF := { params := 2, slots := 2, fresh := false, body := [
  .ret (.call 4 [.op .mul (.idx (.var 0) (.int 0)) (.idx (.var 1) (.int 0)), .op .mul (.idx (.var 0) (.int 1)) (.idx (.var 1) (.int 1))])] }
/-- one, other -/
def b_is_less : MF := { params := 2, slots := 2, fresh := false, body := [
  .ret (.cmp .lt (.op .mul (.idx (.var 0) (.int 0)) (.idx (.var 1) (.int 1))) (.op .mul (.idx (.var 1) (.int 0)) (.idx (.var 0) (.int 1))))] }
/-- fractions, found, above, below -/
def b_common_below : MF := { params := 1, slots := 4, fresh := false, body := [
  .asg (.nm 1) (.int 1),
  .for (.tp [.nm 2, .nm 3]) (.seq (.var 0)) [
    .asg (.nm 1) (.op .mul (.var 1) (.op .fdiv (.var 3) (.bi .gcd [.var 1, .var 3])))],
  .ret (.var 1)] }
/-- fractions, many, above, below -/
def b_wholes : MF := { params := 1, slots := 4, fresh := false, body := [
  .asg (.nm 1) (.call 9 [.var 0]),
  .ret (.comp (.op .mul (.var 2) (.op .fdiv (.var 1) (.var 3))) (.tp [.nm 2, .nm 3]) (.seq (.var 0)) [] [2, 3])] }
/-- value -/
def b_is_point : MF := { params := 1, slots := 1, fresh := false, body := [
  .ret (.and (.call 2 [.var 0, .int 2]) (.and (.call 3 [.idx (.var 0) (.int 0)]) (.call 3 [.idx (.var 0) (.int 1)])))] }
/-- one, other -/
def b_comes_ahead : MF := { params := 2, slots := 2, fresh := false, body := [
  .iff (.cmp .ne (.idx (.var 0) (.int 0)) (.idx (.var 1) (.int 0))) [
    .ret (.call 8 [.idx (.var 0) (.int 0), .idx (.var 1) (.int 0)])] [],
  .ret (.call 8 [.idx (.var 0) (.int 1), .idx (.var 1) (.int 1)])] }
/-- value, point -/
def b_are_points : MF := { params := 1, slots := 2, fresh := false, body := [
  .ret (.and (.isi (.var 0) [.list]) (.bi .all [.comp (.call 11 [.var 1]) (.nm 1) (.seq (.var 0)) [] [1]]))] }
/-- value, one, late -/
def b_is_set : MF := { params := 1, slots := 3, fresh := false, body := [
  .ret (.and (.call 13 [.var 0]) (.bi .all [.comp (.call 12 [.var 1, .var 2]) (.tp [.nm 1, .nm 2]) (.zip (.var 0) (.slc (.var 0) (some (.int 1)) none)) [] [1, 2]]))] }
/-- number -/
def b_sign_of : MF := { params := 1, slots := 1, fresh := false, body := [
  .ret (.op .sub (.cmp .gt (.idx (.var 0) (.int 0)) (.int 0)) (.cmp .lt (.idx (.var 0) (.int 0)) (.int 0)))] }
/-- a, b, c, many -/
def b_plain_line : MF := { params := 3, slots := 4, fresh := false, body := [
  .asg (.nm 3) (.bi .gcd [.bi .gcd [.var 0, .var 1], .var 2]),
  .asg (.nm 3) (.ite (.or (.cmp .gt (.var 0) (.int 0)) (.and (.cmp .eq (.var 0) (.int 0)) (.cmp .gt (.var 1) (.int 0)))) (.var 3) (.op .sub (.int 0) (.var 3))),
  .ret (.tup [.op .fdiv (.var 0) (.var 3), .op .fdiv (.var 1) (.var 3), .op .fdiv (.var 2) (.var 3)])] }
/-- value, number, a, b, c -/
def b_is_line : MF := { params := 1, slots := 5, fresh := false, body := [
  .iff (.or (.not (.call 2 [.var 0, .int 3])) (.not (.bi .all [.comp (.call 0 [.var 1]) (.nm 1) (.seq (.var 0)) [] [1]]))) [
    .ret (.bl false)] [],
  .asg (.tp [.nm 2, .nm 3, .nm 4]) (.var 0),
  .ret (.and (.or (.cmp .gt (.var 2) (.int 0)) (.and (.cmp .eq (.var 2) (.int 0)) (.cmp .gt (.var 3) (.int 0)))) (.cmp .eq (.bi .gcd [.bi .gcd [.var 2, .var 3], .var 4]) (.int 1)))] }
/-- value -/
def b_check_line : MF := { params := 1, slots := 1, fresh := false, body := [
  .iff (.not (.call 17 [.var 0])) [
    .raise] []] }
/-- one, other, a, b, c, first, second, third -/
def b_through_there : MF := { params := 2, slots := 8, fresh := false, body := [
  .par [2, 3] [.call 6 [.idx (.var 0) (.int 1), .idx (.var 1) (.int 1)], .call 6 [.idx (.var 1) (.int 0), .idx (.var 0) (.int 0)]],
  .asg (.nm 4) (.call 5 [.call 7 [.var 2, .idx (.var 0) (.int 0)], .call 7 [.var 3, .idx (.var 0) (.int 1)]]),
  .asg (.tp [.nm 5, .nm 6, .nm 7]) (.call 10 [.lst [.var 2, .var 3, .var 4]]),
  .ret (.call 16 [.var 5, .var 6, .var 7])] }
/-- line, point, a, b, c -/
def b_above_by : MF := { params := 2, slots := 5, fresh := false, body := [
  .asg (.tp [.nm 2, .nm 3, .nm 4]) (.var 0),
  .ret (.call 6 [.call 5 [.call 7 [.tup [.var 2, .int 1], .idx (.var 1) (.int 0)], .call 7 [.tup [.var 3, .int 1], .idx (.var 1) (.int 1)]], .tup [.var 4, .int 1]])] }
/-- line, point -/
def b_side_there : MF := { params := 2, slots := 2, fresh := false, body := [
  .ret (.call 15 [.call 20 [.var 0, .var 1]])] }
/-- points -/
def b_check_set : MF := { params := 1, slots := 1, fresh := false, body := [
  .iff (.not (.call 14 [.var 0])) [
    .raise] []] }
/-- points, value, weight -/
def b_are_weights : MF := { params := 2, slots := 3, fresh := false, body := [
  .iff (.or (.not (.isi (.var 1) [.list])) (.or (.cmp .ne (.bi .len [.var 1]) (.bi .len [.var 0])) (.not (.bi .all [.comp (.calld 1 [.var 2] [0]) (.nm 2) (.seq (.var 1)) [] [2]])))) [
    .ret (.bl false)] [],
  .ret (.cmp .gt (.bi .sum [.var 1]) (.int 0))] }
/-- points, weights -/
def b_check_weighted : MF := { params := 2, slots := 2, fresh := false, body := [
  .expr (.call 22 [.var 0]),
  .iff (.not (.call 23 [.var 0, .var 1])) [
    .raise] []] }
/-- points, weights, line, found, point, weight, at -/
def b_side_weights_there : MF := { params := 3, slots := 7, fresh := false, body := [
  .own 3 (.lst [.int 0, .int 0, .int 0]),
  .for (.tp [.nm 4, .nm 5]) (.zip (.var 0) (.var 1)) [
    .asg (.nm 6) (.op .add (.call 21 [.var 2, .var 4]) (.int 1)),
    .oset 3 (.var 6) (.op .add (.idx (.ovar 3) (.var 6)) (.var 5))],
  .ret (.tup [.idx (.ovar 3) (.int 0), .idx (.ovar 3) (.int 1), .idx (.ovar 3) (.int 2)])] }
/-- points, weights, line, less, on, more -/
def b_halves_there : MF := { params := 3, slots := 6, fresh := false, body := [
  .asg (.tp [.nm 3, .nm 4, .nm 5]) (.call 25 [.var 0, .var 1, .var 2]),
  .ret (.cmp .le (.op .mul (.int 2) (.bi .max [.var 3, .var 5])) (.bi .sum [.var 1]))] }
/-- points, one, other -/
def b_lines_of : MF := { params := 1, slots := 3, fresh := true, body := [
  .ret (.sset (.comp (.call 19 [.var 1, .var 2]) (.tp [.nm 1, .nm 2]) (.comb (.var 0)) [] [1, 2]))] }
/-- points, weights, line -/
def b_side_weights : MF := { params := 3, slots := 3, fresh := false, body := [
  .expr (.call 24 [.var 0, .var 1]),
  .expr (.call 18 [.var 2]),
  .ret (.call 25 [.var 0, .var 1, .var 2])] }
/-- points, weights, line -/
def b_does_halve : MF := { params := 3, slots := 3, fresh := false, body := [
  .expr (.call 24 [.var 0, .var 1]),
  .expr (.call 18 [.var 2]),
  .ret (.call 26 [.var 0, .var 1, .var 2])] }
/-- points, weights, line -/
def b_halving_lines : MF := { params := 2, slots := 3, fresh := true, body := [
  .expr (.call 24 [.var 0, .var 1]),
  .ret (.comp (.var 2) (.nm 2) (.seq (.call 27 [.var 0])) [.call 26 [.var 0, .var 1, .var 2]] [2])] }
/-- script, at, seed -/
def b__law_purse : MF := { params := 2, slots := 3, fresh := true, body := [
  .asg (.nm 2) (.bi .sum [.slc (.var 0) (some (.var 1)) (some (.op .add (.var 1) (.int 1)))]),
  .ret (.lst [.op .mod (.bi .int [.bi .max [.op .sub (.var 2) (.op .pow (.int 10) (.int 18)), .int 0]]) (.op .pow (.op .pow (.int 10) (.int 60)) (.int 8)), .op .mod (.bi .int [.var 2]) (.int 2147483629), .int 0, .var 1])] }
/-- seed, spin, at, mixed -/
def b__law_mixed : MF := { params := 3, slots := 4, fresh := false, body := [
  .asg (.nm 3) (.op .add (.op .mul (.var 0) (.int 69069)) (.op .mul (.op .mul (.int 104729) (.var 1)) (.var 1))),
  .asg (.nm 3) (.op .mod (.bi .int [.op .add (.op .add (.var 3) (.op .mul (.int 7919) (.var 2))) (.var 1)]) (.int 2147483647)),
  .asg (.nm 3) (.op .mod (.bi .int [.op .add (.op .mul (.var 3) (.var 3)) (.int 40503)]) (.int 2147483629)),
  .ret (.op .mod (.bi .int [.op .mul (.var 3) (.int 48271)]) (.int 2147483587))] }
/-- purse, many, drawn, found, piece -/
def b__law_draw : MF := { params := 2, slots := 5, fresh := false, body := [
  .iff (.cmp .gt (.idx (.var 0) (.int 0)) (.int 0)) [
    .asg (.nm 2) (.op .mod (.bi .int [.idx (.var 0) (.int 0)]) (.var 1)),
    .sset (.var 0) (.int 0) (.op .fdiv (.idx (.var 0) (.int 0)) (.var 1)),
    .ret (.var 2)] [],
  .asg (.nm 3) (.int 0),
  .for (.nm 4) (.rng [.op .add (.int 1) (.op .fdiv (.bits (.var 1)) (.int 28))]) [
    .sset (.var 0) (.int 2) (.op .add (.idx (.var 0) (.int 2)) (.int 1)),
    .asg (.nm 3) (.op .add (.op .mul (.var 3) (.int 2147483587)) (.call 32 [.idx (.var 0) (.int 1), .idx (.var 0) (.int 2), .idx (.var 0) (.int 3)]))],
  .ret (.op .mod (.bi .int [.var 3]) (.var 1))] }
/-- script, few, at -/
def b__law_purses : MF := { params := 2, slots := 3, fresh := false, body := [
  .ret (.comp (.cell (.call 31 [.var 0, .var 2])) (.nm 2) (.rng [.bi .max [.int 1, .bi .min [.var 1, .bi .len [.var 0]]]]) [] [2])] }
/-- purse, some -/
def b__law_one_of : MF := { params := 2, slots := 2, fresh := false, body := [
  .ret (.idx (.var 1) (.call 33 [.var 0, .bi .len [.var 1]]))] }
/-- purse, some, found, item -/
def b__law_shuffled : MF := { params := 2, slots := 4, fresh := false, body := [
  .own 2 (.lst []),
  .for (.nm 3) (.seq (.var 1)) [
    .ometh .insert 2 [.call 33 [.var 0, .op .add (.bi .len [.ovar 2]) (.int 1)], .var 3]],
  .reto 2] }
/-- mine, theirs, is_list, is_like, a, b -/
def b__law_exact : MF := { params := 2, slots := 6, fresh := false, body := [
  .iff (.isi (.var 0) [.list, .tuple]) [
    .asg (.nm 2) (.cmp .eq (.isi (.var 1) [.list]) (.isi (.var 0) [.list])),
    .asg (.nm 3) (.and (.var 2) (.cmp .eq (.isi (.var 1) [.tuple]) (.isi (.var 0) [.tuple]))),
    .ret (.and (.var 3) (.and (.cmp .eq (.bi .len [.var 0]) (.bi .len [.var 1])) (.bi .all [.comp (.call 37 [.var 4, .var 5]) (.tp [.nm 4, .nm 5]) (.zip (.var 0) (.var 1)) [] [4, 5]])))] [],
  .iff (.or (.isi (.var 1) [.list, .tuple]) (.cmp .ne (.isn false (.var 0)) (.isn false (.var 1)))) [
    .ret (.bl false)] [],
  .asg (.nm 3) (.and (.cmp .eq (.isi (.var 0) [.int]) (.isi (.var 1) [.int])) (.cmp .eq (.isi (.var 0) [.str]) (.isi (.var 1) [.str]))),
  .ret (.and (.var 3) (.and (.cmp .eq (.isi (.var 0) [.bool]) (.isi (.var 1) [.bool])) (.cmp .eq (.var 0) (.var 1))))] }
/-- purse, most, x -/
def b__law_point : MF := { params := 2, slots := 3, fresh := false, body := [
  .asg (.nm 2) (.call 39 [.op .sub (.call 33 [.var 0, .var 1]) (.op .fdiv (.var 1) (.int 3)), .call 35 [.var 0, .lst [.int 1, .int 1, .int 1, .int 2, .int 3]]]),
  .ret (.tup [.var 2, .call 39 [.op .sub (.call 33 [.var 0, .var 1]) (.op .fdiv (.var 1) (.int 3)), .call 35 [.var 0, .lst [.int 1, .int 1, .int 1, .int 2]]]])] }
/-- above, below, one, other -/
def b__law_low : MF := { params := 2, slots := 4, fresh := false, body := [
  .par [2, 3] [.bi .abs [.var 0], .var 1],
  .whl (.cmp .gt (.var 3) (.int 0)) [
    .par [2, 3] [.var 3, .op .mod (.var 2) (.var 3)]],
  .ret (.tup [.op .fdiv (.var 0) (.var 2), .op .fdiv (.var 1) (.var 2)])] }
/-- one, other -/
def b__law_plus : MF := { params := 2, slots := 2, fresh := false, body := [
  .ret (.call 39 [.op .add (.op .mul (.idx (.var 0) (.int 0)) (.idx (.var 1) (.int 1))) (.op .mul (.idx (.var 1) (.int 0)) (.idx (.var 0) (.int 1))), .op .mul (.idx (.var 0) (.int 1)) (.idx (.var 1) (.int 1))])] }
/-- one, other -/
def b__law_minus : MF := { params := 2, slots := 2, fresh := false, body := [
  .ret (.call 39 [.op .sub (.op .mul (.idx (.var 0) (.int 0)) (.idx (.var 1) (.int 1))) (.op .mul (.idx (.var 1) (.int 0)) (.idx (.var 0) (.int 1))), .op .mul (.idx (.var 0) (.int 1)) (.idx (.var 1) (.int 1))])] }
/-- one, other -/
def b__law_times : MF := { params := 2, slots := 2, fresh := false, body := [
  .ret (.call 39 [.op .mul (.idx (.var 0) (.int 0)) (.idx (.var 1) (.int 0)), .op .mul (.idx (.var 0) (.int 1)) (.idx (.var 1) (.int 1))])] }
/-- one, other -/
def b__law_less : MF := { params := 2, slots := 2, fresh := false, body := [
  .ret (.cmp .lt (.op .mul (.idx (.var 0) (.int 0)) (.idx (.var 1) (.int 1))) (.op .mul (.idx (.var 1) (.int 0)) (.idx (.var 0) (.int 1))))] }
/-- one, other -/
def b__law_ahead : MF := { params := 2, slots := 2, fresh := false, body := [
  .ret (.or (.call 43 [.idx (.var 0) (.int 0), .idx (.var 1) (.int 0)]) (.and (.cmp .eq (.idx (.var 0) (.int 0)) (.idx (.var 1) (.int 0))) (.call 43 [.idx (.var 0) (.int 1), .idx (.var 1) (.int 1)])))] }
/-- points, found, point, at, late -/
def b__law_set : MF := { params := 1, slots := 5, fresh := false, body := [
  .asg (.nm 1) (.lst []),
  .for (.nm 2) (.seq (.var 0)) [
    .iff (.cmp .nin (.var 2) (.var 1)) [
      .asg (.nm 3) (.bi .len [.comp (.var 4) (.nm 4) (.seq (.var 1)) [.call 44 [.var 4, .var 2]] [4]]),
      .asg (.nm 1) (.op .add (.op .add (.slc (.var 1) none (some (.var 3))) (.lst [.var 2])) (.slc (.var 1) (some (.var 3)) none))] []],
  .ret (.var 1)] }
/-- purse, most, wide, many, way, found, spin, x, y -/
def b__law_points : MF := { params := 3, slots := 9, fresh := false, body := [
  .par [3, 4] [.op .add (.int 1) (.call 33 [.var 0, .var 1]), .call 33 [.var 0, .int 5]],
  .asg (.nm 5) (.comp (.call 38 [.var 0, .var 2]) (.nm 6) (.rng [.var 3]) [] [6]),
  .iff (.cmp .eq (.var 4) (.int 0)) [
    .asg (.nm 5) (.comp (.tup [.var 7, .tup [.idx (.var 7) (.int 0), .idx (.var 7) (.int 1)]]) (.tp [.nm 7, .nm 8]) (.seq (.var 5)) [] [7, 8])] [],
  .iff (.cmp .eq (.var 4) (.int 1)) [
    .asg (.nm 5) (.op .add (.var 5) (.comp (.tup [.call 39 [.int 0, .int 1], .var 8]) (.tp [.nm 7, .nm 8]) (.seq (.slc (.var 5) none (some (.int 2)))) [] [7, 8]))] [],
  .ret (.call 45 [.var 5])] }
/-- purse, points, many, found, point -/
def b__law_weights : MF := { params := 2, slots := 5, fresh := false, body := [
  .asg (.nm 2) (.call 35 [.var 0, .lst [.int 1, .int 1, .int 3, .int 5, .int 40]]),
  .asg (.nm 3) (.comp (.ite (.cmp .gt (.var 2) (.int 1)) (.call 33 [.var 0, .op .add (.var 2) (.int 1)]) (.int 1)) (.nm 4) (.seq (.var 1)) [] [4]),
  .ret (.ite (.cmp .gt (.bi .sum [.var 3]) (.int 0)) (.var 3) (.op .mul (.lst [.int 1]) (.bi .len [.var 1])))] }
/-- one, other, a, b, c, below, whole, late, much, here -/
def b__law_line : MF := { params := 2, slots := 10, fresh := false, body := [
  .par [2, 3] [.call 41 [.idx (.var 0) (.int 1), .idx (.var 1) (.int 1)], .call 41 [.idx (.var 1) (.int 0), .idx (.var 0) (.int 0)]],
  .asg (.nm 4) (.call 40 [.call 42 [.var 2, .idx (.var 0) (.int 0)], .call 42 [.var 3, .idx (.var 0) (.int 1)]]),
  .asg (.nm 5) (.op .mul (.op .mul (.idx (.var 2) (.int 1)) (.idx (.var 3) (.int 1))) (.idx (.var 4) (.int 1))),
  .asg (.nm 6) (.comp (.op .mul (.idx (.var 7) (.int 0)) (.op .fdiv (.var 5) (.idx (.var 7) (.int 1)))) (.nm 7) (.seq (.lst [.var 2, .var 3, .var 4])) [] [7]),
  .asg (.nm 8) (.int 0),
  .for (.nm 7) (.seq (.var 6)) [
    .asg (.nm 9) (.bi .abs [.var 7]),
    .whl (.cmp .gt (.var 9) (.int 0)) [
      .asg (.tp [.nm 8, .nm 9]) (.tup [.var 9, .op .mod (.var 8) (.var 9)])]],
  .iff (.or (.cmp .lt (.idx (.var 6) (.int 0)) (.int 0)) (.and (.cmp .eq (.idx (.var 6) (.int 0)) (.int 0)) (.cmp .lt (.idx (.var 6) (.int 1)) (.int 0)))) [
    .asg (.nm 8) (.neg (.var 8))] [],
  .ret (.bi .tuple [.comp (.op .fdiv (.var 7) (.var 8)) (.nm 7) (.seq (.var 6)) [] [7]])] }
/-- line, point, much -/
def b__law_above : MF := { params := 2, slots := 3, fresh := false, body := [
  .asg (.nm 2) (.call 40 [.call 42 [.tup [.idx (.var 0) (.int 0), .int 1], .idx (.var 1) (.int 0)], .call 42 [.tup [.idx (.var 0) (.int 1), .int 1], .idx (.var 1) (.int 1)]]),
  .ret (.idx (.call 41 [.var 2, .tup [.idx (.var 0) (.int 2), .int 1]]) (.int 0))] }
/-- points, weights, line, more, point, weight, less -/
def b__law_halves : MF := { params := 3, slots := 7, fresh := false, body := [
  .asg (.nm 3) (.bi .sum [.comp (.var 5) (.tp [.nm 4, .nm 5]) (.zip (.var 0) (.var 1)) [.cmp .gt (.call 49 [.var 2, .var 4]) (.int 0)] [4, 5]]),
  .asg (.nm 6) (.bi .sum [.comp (.var 5) (.tp [.nm 4, .nm 5]) (.zip (.var 0) (.var 1)) [.cmp .lt (.call 49 [.var 2, .var 4]) (.int 0)] [4, 5]]),
  .ret (.cmp .le (.op .mul (.int 2) (.bi .max [.var 3, .var 6])) (.bi .sum [.var 1]))] }
/-- purse, points, found, spin, one, other, late -/
def b__law_some_lines : MF := { params := 2, slots := 7, fresh := false, body := [
  .asg (.nm 2) (.lst []),
  .for (.nm 3) (.rng [.int 4]) [
    .par [4, 5] [.call 38 [.var 0, .int 12], .call 35 [.var 0, .var 1]],
    .asg (.nm 6) (.call 38 [.var 0, .int 12]),
    .asg (.nm 2) (.op .add (.var 2) (.ite (.cmp .ne (.var 4) (.var 5)) (.lst [.call 48 [.var 4, .var 5]]) (.lst []))),
    .asg (.nm 2) (.op .add (.var 2) (.ite (.cmp .ne (.var 4) (.var 6)) (.lst [.call 48 [.var 4, .var 6]]) (.lst [])))],
  .ret (.var 2)] }
/-- purse, points, weights, kept, lines, at, one, other, due, line, told, sides, point, less, side, weight, more, row, is_so, late -/
def b__law_case_right : MF := { params := 1, slots := 20, fresh := false, body := [
  .asg (.nm 1) (.call 46 [.var 0, .int 8, .int 10]),
  .asg (.nm 2) (.call 47 [.var 0, .var 1]),
  .par [3, 4] [.bi .repr [.lst [.var 1, .var 2]], .lst []],
  .for (.tp [.nm 5, .nm 6]) (.enum (.var 1)) [
    .asg (.nm 4) (.op .add (.var 4) (.comp (.call 48 [.var 6, .var 7]) (.nm 7) (.seq (.slc (.var 1) (some (.op .add (.var 5) (.int 1))) none)) [] [7]))],
  .asg (.nm 8) (.sset (.comp (.var 9) (.nm 9) (.seq (.var 4)) [.call 50 [.var 1, .var 2, .var 9]] [9])),
  .asg (.nm 10) (.lst [.cell (.call 30 [.var 1, .var 2]), .cell (.callk 30 [] [.var 2, .var 1] [1, 0])]),
  .iff (.not (.call 37 [.lst [.var 8, .var 8], .var 10])) [
    .ret (.bl false)] [],
  .meth .append (.idx (.var 10) (.int 0)) [.str (Str.ofString "more")],
  .for (.nm 9) (.seq (.op .add (.slc (.call 36 [.var 0, .var 4]) none (some (.int 4))) (.call 51 [.var 0, .var 1]))) [
    .asg (.nm 11) (.comp (.call 49 [.var 9, .var 12]) (.nm 12) (.seq (.var 1)) [] [12]),
    .asg (.nm 13) (.bi .sum [.comp (.var 15) (.tp [.nm 14, .nm 15]) (.zip (.var 11) (.var 2)) [.cmp .lt (.var 14) (.int 0)] [14, 15]]),
    .asg (.nm 16) (.bi .sum [.comp (.var 15) (.tp [.nm 14, .nm 15]) (.zip (.var 11) (.var 2)) [.cmp .gt (.var 14) (.int 0)] [14, 15]]),
    .asg (.nm 17) (.tup [.var 13, .op .sub (.op .sub (.bi .sum [.var 2]) (.var 13)) (.var 16), .var 16]),
    .asg (.nm 10) (.lst [.call 28 [.var 1, .var 2, .var 9], .callk 28 [] [.var 9, .var 2, .var 1] [2, 1, 0]]),
    .asg (.nm 18) (.cmp .le (.op .mul (.int 2) (.bi .max [.var 13, .var 16])) (.bi .sum [.var 2])),
    .asg (.nm 19) (.lst [.call 29 [.var 1, .var 2, .var 9], .callk 29 [] [.var 9, .var 2, .var 1] [2, 1, 0]]),
    .iff (.not (.call 37 [.lst [.lst [.var 17, .var 17], .lst [.var 18, .var 18]], .lst [.var 10, .var 19]])) [
      .ret (.bl false)] []],
  .ret (.and (.call 37 [.var 8, .cell (.call 30 [.var 1, .var 2])]) (.cmp .eq (.bi .repr [.lst [.var 1, .var 2]]) (.var 3)))] }
/-- script, purse, four, ones, due, told -/
def b_law : MF := { params := 1, slots := 6, fresh := false, body := [
  .for (.nm 1) (.seq (.call 34 [.var 0, .int 3])) [
    .iff (.not (.call 52 [.var 1])) [
      .ret (.bl false)] []],
  .par [2, 3] [.lst [.tup [.tup [.int 0, .int 1], .tup [.int 0, .int 1]], .tup [.tup [.int 0, .int 1], .tup [.int 2, .int 1]], .tup [.tup [.int 2, .int 1], .tup [.int 0, .int 1]], .tup [.tup [.int 2, .int 1], .tup [.int 2, .int 1]]], .lst [.int 1, .int 1, .int 1, .int 1]],
  .asg (.nm 4) (.lst [.tup [.int 0, .int 1, .int 0], .tup [.int 0, .int 1, .int 2], .tup [.int 1, .neg (.int 1), .int 0], .tup [.int 1, .int 0, .int 0], .tup [.int 1, .int 0, .int 2], .tup [.int 1, .int 1, .int 2]]),
  .asg (.nm 5) (.lst [.cell (.call 30 [.var 2, .var 3]), .cell (.call 30 [.slc (.var 2) none (some (.int 1)), .lst [.int 1]]), .call 28 [.var 2, .var 3, .tup [.int 1, .int 0, .int 1]]]),
  .ret (.call 37 [.lst [.var 4, .lst [], .tup [.int 2, .int 0, .int 2]], .var 5])] }
def tbT : List MF := [b_is_whole, b_is_count, b_is_tuple_of, b_is_fraction, b_fraction, b_plus, b_minus, b_times, b_is_less, b_common_below, b_wholes, b_is_point, b_comes_ahead, b_are_points, b_is_set, b_sign_of, b_plain_line, b_is_line, b_check_line, b_through_there, b_above_by, b_side_there, b_check_set, b_are_weights, b_check_weighted, b_side_weights_there, b_halves_there, b_lines_of, b_side_weights, b_does_halve, b_halving_lines, b__law_purse, b__law_mixed, b__law_draw, b__law_purses, b__law_one_of, b__law_shuffled, b__law_exact, b__law_point, b__law_low, b__law_plus, b__law_minus, b__law_times, b__law_less, b__law_ahead, b__law_set, b__law_points, b__law_weights, b__law_line, b__law_above, b__law_halves, b__law_some_lines, b__law_case_right, b_law]
def tb : Tab := { T := tbT, nm := [(Str.ofString "is_whole", [Str.ofString "value"]), (Str.ofString "is_count", [Str.ofString "value", Str.ofString "least"]), (Str.ofString "is_tuple_of", [Str.ofString "value", Str.ofString "size"]), (Str.ofString "is_fraction", [Str.ofString "value"]), (Str.ofString "fraction", [Str.ofString "above", Str.ofString "below"]), (Str.ofString "plus", [Str.ofString "one", Str.ofString "other"]), (Str.ofString "minus", [Str.ofString "one", Str.ofString "other"]), (Str.ofString "times", [Str.ofString "one", Str.ofString "other"]), (Str.ofString "is_less", [Str.ofString "one", Str.ofString "other"]), (Str.ofString "common_below", [Str.ofString "fractions"]), (Str.ofString "wholes", [Str.ofString "fractions"]), (Str.ofString "is_point", [Str.ofString "value"]), (Str.ofString "comes_ahead", [Str.ofString "one", Str.ofString "other"]), (Str.ofString "are_points", [Str.ofString "value"]), (Str.ofString "is_set", [Str.ofString "value"]), (Str.ofString "sign_of", [Str.ofString "number"]), (Str.ofString "plain_line", [Str.ofString "a", Str.ofString "b", Str.ofString "c"]), (Str.ofString "is_line", [Str.ofString "value"]), (Str.ofString "check_line", [Str.ofString "value"]), (Str.ofString "through_there", [Str.ofString "one", Str.ofString "other"]), (Str.ofString "above_by", [Str.ofString "line", Str.ofString "point"]), (Str.ofString "side_there", [Str.ofString "line", Str.ofString "point"]), (Str.ofString "check_set", [Str.ofString "points"]), (Str.ofString "are_weights", [Str.ofString "points", Str.ofString "value"]), (Str.ofString "check_weighted", [Str.ofString "points", Str.ofString "weights"]), (Str.ofString "side_weights_there", [Str.ofString "points", Str.ofString "weights", Str.ofString "line"]), (Str.ofString "halves_there", [Str.ofString "points", Str.ofString "weights", Str.ofString "line"]), (Str.ofString "lines_of", [Str.ofString "points"]), (Str.ofString "side_weights", [Str.ofString "points", Str.ofString "weights", Str.ofString "line"]), (Str.ofString "does_halve", [Str.ofString "points", Str.ofString "weights", Str.ofString "line"]), (Str.ofString "halving_lines", [Str.ofString "points", Str.ofString "weights"]), (Str.ofString "_law_purse", [Str.ofString "script", Str.ofString "at"]), (Str.ofString "_law_mixed", [Str.ofString "seed", Str.ofString "spin", Str.ofString "at"]), (Str.ofString "_law_draw", [Str.ofString "purse", Str.ofString "many"]), (Str.ofString "_law_purses", [Str.ofString "script", Str.ofString "few"]), (Str.ofString "_law_one_of", [Str.ofString "purse", Str.ofString "some"]), (Str.ofString "_law_shuffled", [Str.ofString "purse", Str.ofString "some"]), (Str.ofString "_law_exact", [Str.ofString "mine", Str.ofString "theirs"]), (Str.ofString "_law_point", [Str.ofString "purse", Str.ofString "most"]), (Str.ofString "_law_low", [Str.ofString "above", Str.ofString "below"]), (Str.ofString "_law_plus", [Str.ofString "one", Str.ofString "other"]), (Str.ofString "_law_minus", [Str.ofString "one", Str.ofString "other"]), (Str.ofString "_law_times", [Str.ofString "one", Str.ofString "other"]), (Str.ofString "_law_less", [Str.ofString "one", Str.ofString "other"]), (Str.ofString "_law_ahead", [Str.ofString "one", Str.ofString "other"]), (Str.ofString "_law_set", [Str.ofString "points"]), (Str.ofString "_law_points", [Str.ofString "purse", Str.ofString "most", Str.ofString "wide"]), (Str.ofString "_law_weights", [Str.ofString "purse", Str.ofString "points"]), (Str.ofString "_law_line", [Str.ofString "one", Str.ofString "other"]), (Str.ofString "_law_above", [Str.ofString "line", Str.ofString "point"]), (Str.ofString "_law_halves", [Str.ofString "points", Str.ofString "weights", Str.ofString "line"]), (Str.ofString "_law_some_lines", [Str.ofString "purse", Str.ofString "points"]), (Str.ofString "_law_case_right", [Str.ofString "purse"]), (Str.ofString "law", [Str.ofString "script"])], blt := [Str.ofString "abs", Str.ofString "all", Str.ofString "bool", Str.ofString "enumerate", Str.ofString "int", Str.ofString "isinstance", Str.ofString "len", Str.ofString "list", Str.ofString "max", Str.ofString "min", Str.ofString "range", Str.ofString "repr", Str.ofString "set", Str.ofString "sorted", Str.ofString "str", Str.ofString "sum", Str.ofString "tuple", Str.ofString "zip"], mods := [Str.ofString "gcd"], gl := [], kw := [⟨30, [Str.ofString "weights", Str.ofString "points"], 0, [1, 0]⟩, ⟨28, [Str.ofString "line", Str.ofString "weights", Str.ofString "points"], 0, [2, 1, 0]⟩, ⟨29, [Str.ofString "line", Str.ofString "weights", Str.ofString "points"], 0, [2, 1, 0]⟩], df := [⟨1, 1, [0]⟩], cmb := [Str.ofString "combinations"] }
theorem at_is_whole : tbT[0]? = some b_is_whole := rfl
theorem at_is_count : tbT[1]? = some b_is_count := rfl
theorem at_is_tuple_of : tbT[2]? = some b_is_tuple_of := rfl
theorem at_is_fraction : tbT[3]? = some b_is_fraction := rfl
theorem at_fraction : tbT[4]? = some b_fraction := rfl
theorem at_plus : tbT[5]? = some b_plus := rfl
theorem at_minus : tbT[6]? = some b_minus := rfl
theorem at_times : tbT[7]? = some b_times := rfl
theorem at_is_less : tbT[8]? = some b_is_less := rfl
theorem at_common_below : tbT[9]? = some b_common_below := rfl
theorem at_wholes : tbT[10]? = some b_wholes := rfl
theorem at_is_point : tbT[11]? = some b_is_point := rfl
theorem at_comes_ahead : tbT[12]? = some b_comes_ahead := rfl
theorem at_are_points : tbT[13]? = some b_are_points := rfl
theorem at_is_set : tbT[14]? = some b_is_set := rfl
theorem at_sign_of : tbT[15]? = some b_sign_of := rfl
theorem at_plain_line : tbT[16]? = some b_plain_line := rfl
theorem at_is_line : tbT[17]? = some b_is_line := rfl
theorem at_check_line : tbT[18]? = some b_check_line := rfl
theorem at_through_there : tbT[19]? = some b_through_there := rfl
theorem at_above_by : tbT[20]? = some b_above_by := rfl
theorem at_side_there : tbT[21]? = some b_side_there := rfl
theorem at_check_set : tbT[22]? = some b_check_set := rfl
theorem at_are_weights : tbT[23]? = some b_are_weights := rfl
theorem at_check_weighted : tbT[24]? = some b_check_weighted := rfl
theorem at_side_weights_there : tbT[25]? = some b_side_weights_there := rfl
theorem at_halves_there : tbT[26]? = some b_halves_there := rfl
theorem at_lines_of : tbT[27]? = some b_lines_of := rfl
theorem at_side_weights : tbT[28]? = some b_side_weights := rfl
theorem at_does_halve : tbT[29]? = some b_does_halve := rfl
theorem at_halving_lines : tbT[30]? = some b_halving_lines := rfl
theorem at__law_purse : tbT[31]? = some b__law_purse := rfl
theorem at__law_mixed : tbT[32]? = some b__law_mixed := rfl
theorem at__law_draw : tbT[33]? = some b__law_draw := rfl
theorem at__law_purses : tbT[34]? = some b__law_purses := rfl
theorem at__law_one_of : tbT[35]? = some b__law_one_of := rfl
theorem at__law_shuffled : tbT[36]? = some b__law_shuffled := rfl
theorem at__law_exact : tbT[37]? = some b__law_exact := rfl
theorem at__law_point : tbT[38]? = some b__law_point := rfl
theorem at__law_low : tbT[39]? = some b__law_low := rfl
theorem at__law_plus : tbT[40]? = some b__law_plus := rfl
theorem at__law_minus : tbT[41]? = some b__law_minus := rfl
theorem at__law_times : tbT[42]? = some b__law_times := rfl
theorem at__law_less : tbT[43]? = some b__law_less := rfl
theorem at__law_ahead : tbT[44]? = some b__law_ahead := rfl
theorem at__law_set : tbT[45]? = some b__law_set := rfl
theorem at__law_points : tbT[46]? = some b__law_points := rfl
theorem at__law_weights : tbT[47]? = some b__law_weights := rfl
theorem at__law_line : tbT[48]? = some b__law_line := rfl
theorem at__law_above : tbT[49]? = some b__law_above := rfl
theorem at__law_halves : tbT[50]? = some b__law_halves := rfl
theorem at__law_some_lines : tbT[51]? = some b__law_some_lines := rfl
theorem at__law_case_right : tbT[52]? = some b__law_case_right := rfl
theorem at_law : tbT[53]? = some b_law := rfl
end K64
set_option Elab.async false
set_option linter.all false
set_option maxRecDepth 100000
set_option maxHeartbeats 4000000
namespace K64
open PySem PySem.Spec PyProof.Rows L2 DI
def topS (i : Nat) : Stmt := PySem.Challenge.pw_straightcuts_k64_whole_lines_that_halve.main.body.getD i (.Pass ⟨0, 0, 0, 0⟩)
abbrev t_is_whole : Stmt := topS 3
def n_is_whole : List Str := [Str.ofString "value"]
theorem m_is_whole : mSs tb n_is_whole false (defScope t_is_whole) b_is_whole.body (defBody t_is_whole) = true := by decide +kernel
theorem c_is_whole : FnScope n_is_whole [Str.ofString "value"] (defScope t_is_whole) := ⟨rfl, rfl, rfl, by decide +kernel, rfl, by decide +kernel, by decide +kernel⟩
abbrev t_is_count : Stmt := topS 4
def n_is_count : List Str := [Str.ofString "value", Str.ofString "least"]
theorem m_is_count : mSs tb n_is_count false (defScope t_is_count) b_is_count.body (defBody t_is_count) = true := by decide +kernel
theorem c_is_count : FnScope n_is_count [Str.ofString "value", Str.ofString "least"] (defScope t_is_count) := ⟨rfl, rfl, rfl, by decide +kernel, rfl, by decide +kernel, by decide +kernel⟩
abbrev t_is_tuple_of : Stmt := topS 5
def n_is_tuple_of : List Str := [Str.ofString "value", Str.ofString "size"]
theorem m_is_tuple_of : mSs tb n_is_tuple_of false (defScope t_is_tuple_of) b_is_tuple_of.body (defBody t_is_tuple_of) = true := by decide +kernel
theorem c_is_tuple_of : FnScope n_is_tuple_of [Str.ofString "value", Str.ofString "size"] (defScope t_is_tuple_of) := ⟨rfl, rfl, rfl, by decide +kernel, rfl, by decide +kernel, by decide +kernel⟩
abbrev t_is_fraction : Stmt := topS 10
def n_is_fraction : List Str := [Str.ofString "value"]
theorem m_is_fraction : mSs tb n_is_fraction false (defScope t_is_fraction) b_is_fraction.body (defBody t_is_fraction) = true := by decide +kernel
theorem c_is_fraction : FnScope n_is_fraction [Str.ofString "value"] (defScope t_is_fraction) := ⟨rfl, rfl, rfl, by decide +kernel, rfl, by decide +kernel, by decide +kernel⟩
abbrev t_fraction : Stmt := topS 11
def n_fraction : List Str := [Str.ofString "above", Str.ofString "below", Str.ofString "many"]
theorem m_fraction : mSs tb n_fraction false (defScope t_fraction) b_fraction.body (defBody t_fraction) = true := by decide +kernel
theorem c_fraction : FnScope n_fraction [Str.ofString "above", Str.ofString "below"] (defScope t_fraction) := ⟨rfl, rfl, rfl, by decide +kernel, rfl, by decide +kernel, by decide +kernel⟩
abbrev t_plus : Stmt := topS 12
def n_plus : List Str := [Str.ofString "one", Str.ofString "other"]
theorem m_plus : mSs tb n_plus false (defScope t_plus) b_plus.body (defBody t_plus) = true := by decide +kernel
theorem c_plus : FnScope n_plus [Str.ofString "one", Str.ofString "other"] (defScope t_plus) := ⟨rfl, rfl, rfl, by decide +kernel, rfl, by decide +kernel, by decide +kernel⟩
abbrev t_minus : Stmt := topS 13
def n_minus : List Str := [Str.ofString "one", Str.ofString "other"]
theorem m_minus : mSs tb n_minus false (defScope t_minus) b_minus.body (defBody t_minus) = true := by decide +kernel
theorem c_minus : FnScope n_minus [Str.ofString "one", Str.ofString "other"] (defScope t_minus) := ⟨rfl, rfl, rfl, by decide +kernel, rfl, by decide +kernel, by decide +kernel⟩
abbrev t_times : Stmt := topS 14
def n_times : List Str := [Str.ofString "one", Str.ofString "other"]
theorem m_times : mSs tb n_times false (defScope t_times) b_times.body (defBody t_times) = true := by decide +kernel
theorem c_times : FnScope n_times [Str.ofString "one", Str.ofString "other"] (defScope t_times) := ⟨rfl, rfl, rfl, by decide +kernel, rfl, by decide +kernel, by decide +kernel⟩
abbrev t_is_less : Stmt := topS 15
def n_is_less : List Str := [Str.ofString "one", Str.ofString "other"]
theorem m_is_less : mSs tb n_is_less false (defScope t_is_less) b_is_less.body (defBody t_is_less) = true := by decide +kernel
theorem c_is_less : FnScope n_is_less [Str.ofString "one", Str.ofString "other"] (defScope t_is_less) := ⟨rfl, rfl, rfl, by decide +kernel, rfl, by decide +kernel, by decide +kernel⟩
abbrev t_common_below : Stmt := topS 16
def n_common_below : List Str := [Str.ofString "fractions", Str.ofString "found", Str.ofString "above", Str.ofString "below"]
theorem m_common_below : mSs tb n_common_below false (defScope t_common_below) b_common_below.body (defBody t_common_below) = true := by decide +kernel
theorem c_common_below : FnScope n_common_below [Str.ofString "fractions"] (defScope t_common_below) := ⟨rfl, rfl, rfl, by decide +kernel, rfl, by decide +kernel, by decide +kernel⟩
abbrev t_wholes : Stmt := topS 17
def n_wholes : List Str := [Str.ofString "fractions", Str.ofString "many", Str.ofString "above", Str.ofString "below"]
theorem m_wholes : mSs tb n_wholes false (defScope t_wholes) b_wholes.body (defBody t_wholes) = true := by decide +kernel
theorem c_wholes : FnScope n_wholes [Str.ofString "fractions"] (defScope t_wholes) := ⟨rfl, rfl, rfl, by decide +kernel, rfl, by decide +kernel, by decide +kernel⟩
abbrev t_is_point : Stmt := topS 19
def n_is_point : List Str := [Str.ofString "value"]
theorem m_is_point : mSs tb n_is_point false (defScope t_is_point) b_is_point.body (defBody t_is_point) = true := by decide +kernel
theorem c_is_point : FnScope n_is_point [Str.ofString "value"] (defScope t_is_point) := ⟨rfl, rfl, rfl, by decide +kernel, rfl, by decide +kernel, by decide +kernel⟩
abbrev t_comes_ahead : Stmt := topS 20
def n_comes_ahead : List Str := [Str.ofString "one", Str.ofString "other"]
theorem m_comes_ahead : mSs tb n_comes_ahead false (defScope t_comes_ahead) b_comes_ahead.body (defBody t_comes_ahead) = true := by decide +kernel
theorem c_comes_ahead : FnScope n_comes_ahead [Str.ofString "one", Str.ofString "other"] (defScope t_comes_ahead) := ⟨rfl, rfl, rfl, by decide +kernel, rfl, by decide +kernel, by decide +kernel⟩
abbrev t_are_points : Stmt := topS 21
def n_are_points : List Str := [Str.ofString "value", Str.ofString "point"]
theorem m_are_points : mSs tb n_are_points false (defScope t_are_points) b_are_points.body (defBody t_are_points) = true := by decide +kernel
theorem c_are_points : FnScope n_are_points [Str.ofString "value"] (defScope t_are_points) := ⟨rfl, rfl, rfl, by decide +kernel, rfl, by decide +kernel, by decide +kernel⟩
abbrev t_is_set : Stmt := topS 22
def n_is_set : List Str := [Str.ofString "value", Str.ofString "one", Str.ofString "late"]
theorem m_is_set : mSs tb n_is_set false (defScope t_is_set) b_is_set.body (defBody t_is_set) = true := by decide +kernel
theorem c_is_set : FnScope n_is_set [Str.ofString "value"] (defScope t_is_set) := ⟨rfl, rfl, rfl, by decide +kernel, rfl, by decide +kernel, by decide +kernel⟩
abbrev t_sign_of : Stmt := topS 23
def n_sign_of : List Str := [Str.ofString "number"]
theorem m_sign_of : mSs tb n_sign_of false (defScope t_sign_of) b_sign_of.body (defBody t_sign_of) = true := by decide +kernel
theorem c_sign_of : FnScope n_sign_of [Str.ofString "number"] (defScope t_sign_of) := ⟨rfl, rfl, rfl, by decide +kernel, rfl, by decide +kernel, by decide +kernel⟩
abbrev t_plain_line : Stmt := topS 25
def n_plain_line : List Str := [Str.ofString "a", Str.ofString "b", Str.ofString "c", Str.ofString "many"]
theorem m_plain_line : mSs tb n_plain_line false (defScope t_plain_line) b_plain_line.body (defBody t_plain_line) = true := by decide +kernel
theorem c_plain_line : FnScope n_plain_line [Str.ofString "a", Str.ofString "b", Str.ofString "c"] (defScope t_plain_line) := ⟨rfl, rfl, rfl, by decide +kernel, rfl, by decide +kernel, by decide +kernel⟩
abbrev t_is_line : Stmt := topS 26
def n_is_line : List Str := [Str.ofString "value", Str.ofString "number", Str.ofString "a", Str.ofString "b", Str.ofString "c"]
theorem m_is_line : mSs tb n_is_line false (defScope t_is_line) b_is_line.body (defBody t_is_line) = true := by decide +kernel
theorem c_is_line : FnScope n_is_line [Str.ofString "value"] (defScope t_is_line) := ⟨rfl, rfl, rfl, by decide +kernel, rfl, by decide +kernel, by decide +kernel⟩
abbrev t_check_line : Stmt := topS 27
def n_check_line : List Str := [Str.ofString "value"]
theorem m_check_line : mSs tb n_check_line false (defScope t_check_line) b_check_line.body (defBody t_check_line) = true := by decide +kernel
theorem c_check_line : FnScope n_check_line [Str.ofString "value"] (defScope t_check_line) := ⟨rfl, rfl, rfl, by decide +kernel, rfl, by decide +kernel, by decide +kernel⟩
abbrev t_through_there : Stmt := topS 28
def n_through_there : List Str := [Str.ofString "one", Str.ofString "other", Str.ofString "a", Str.ofString "b", Str.ofString "c", Str.ofString "first", Str.ofString "second", Str.ofString "third"]
theorem m_through_there : mSs tb n_through_there false (defScope t_through_there) b_through_there.body (defBody t_through_there) = true := by decide +kernel
theorem c_through_there : FnScope n_through_there [Str.ofString "one", Str.ofString "other"] (defScope t_through_there) := ⟨rfl, rfl, rfl, by decide +kernel, rfl, by decide +kernel, by decide +kernel⟩
abbrev t_above_by : Stmt := topS 29
def n_above_by : List Str := [Str.ofString "line", Str.ofString "point", Str.ofString "a", Str.ofString "b", Str.ofString "c"]
theorem m_above_by : mSs tb n_above_by false (defScope t_above_by) b_above_by.body (defBody t_above_by) = true := by decide +kernel
theorem c_above_by : FnScope n_above_by [Str.ofString "line", Str.ofString "point"] (defScope t_above_by) := ⟨rfl, rfl, rfl, by decide +kernel, rfl, by decide +kernel, by decide +kernel⟩
abbrev t_side_there : Stmt := topS 30
def n_side_there : List Str := [Str.ofString "line", Str.ofString "point"]
theorem m_side_there : mSs tb n_side_there false (defScope t_side_there) b_side_there.body (defBody t_side_there) = true := by decide +kernel
theorem c_side_there : FnScope n_side_there [Str.ofString "line", Str.ofString "point"] (defScope t_side_there) := ⟨rfl, rfl, rfl, by decide +kernel, rfl, by decide +kernel, by decide +kernel⟩
abbrev t_check_set : Stmt := topS 35
def n_check_set : List Str := [Str.ofString "points"]
theorem m_check_set : mSs tb n_check_set false (defScope t_check_set) b_check_set.body (defBody t_check_set) = true := by decide +kernel
theorem c_check_set : FnScope n_check_set [Str.ofString "points"] (defScope t_check_set) := ⟨rfl, rfl, rfl, by decide +kernel, rfl, by decide +kernel, by decide +kernel⟩
abbrev t_are_weights : Stmt := topS 36
def n_are_weights : List Str := [Str.ofString "points", Str.ofString "value", Str.ofString "weight"]
theorem m_are_weights : mSs tb n_are_weights false (defScope t_are_weights) b_are_weights.body (defBody t_are_weights) = true := by decide +kernel
theorem c_are_weights : FnScope n_are_weights [Str.ofString "points", Str.ofString "value"] (defScope t_are_weights) := ⟨rfl, rfl, rfl, by decide +kernel, rfl, by decide +kernel, by decide +kernel⟩
abbrev t_check_weighted : Stmt := topS 37
def n_check_weighted : List Str := [Str.ofString "points", Str.ofString "weights"]
theorem m_check_weighted : mSs tb n_check_weighted false (defScope t_check_weighted) b_check_weighted.body (defBody t_check_weighted) = true := by decide +kernel
theorem c_check_weighted : FnScope n_check_weighted [Str.ofString "points", Str.ofString "weights"] (defScope t_check_weighted) := ⟨rfl, rfl, rfl, by decide +kernel, rfl, by decide +kernel, by decide +kernel⟩
abbrev t_side_weights_there : Stmt := topS 38
def n_side_weights_there : List Str := [Str.ofString "points", Str.ofString "weights", Str.ofString "line", Str.ofString "found", Str.ofString "point", Str.ofString "weight", Str.ofString "at"]
theorem m_side_weights_there : mSs tb n_side_weights_there false (defScope t_side_weights_there) b_side_weights_there.body (defBody t_side_weights_there) = true := by decide +kernel
theorem c_side_weights_there : FnScope n_side_weights_there [Str.ofString "points", Str.ofString "weights", Str.ofString "line"] (defScope t_side_weights_there) := ⟨rfl, rfl, rfl, by decide +kernel, rfl, by decide +kernel, by decide +kernel⟩
abbrev t_halves_there : Stmt := topS 39
def n_halves_there : List Str := [Str.ofString "points", Str.ofString "weights", Str.ofString "line", Str.ofString "less", Str.ofString "on", Str.ofString "more"]
theorem m_halves_there : mSs tb n_halves_there false (defScope t_halves_there) b_halves_there.body (defBody t_halves_there) = true := by decide +kernel
theorem c_halves_there : FnScope n_halves_there [Str.ofString "points", Str.ofString "weights", Str.ofString "line"] (defScope t_halves_there) := ⟨rfl, rfl, rfl, by decide +kernel, rfl, by decide +kernel, by decide +kernel⟩
abbrev t_lines_of : Stmt := topS 41
def n_lines_of : List Str := [Str.ofString "points", Str.ofString "one", Str.ofString "other"]
theorem m_lines_of : mSs tb n_lines_of true (defScope t_lines_of) b_lines_of.body (defBody t_lines_of) = true := by decide +kernel
theorem c_lines_of : FnScope n_lines_of [Str.ofString "points"] (defScope t_lines_of) := ⟨rfl, rfl, rfl, by decide +kernel, rfl, by decide +kernel, by decide +kernel⟩
abbrev t_side_weights : Stmt := topS 43
def n_side_weights : List Str := [Str.ofString "points", Str.ofString "weights", Str.ofString "line"]
theorem m_side_weights : mSs tb n_side_weights false (defScope t_side_weights) b_side_weights.body (defBody t_side_weights) = true := by decide +kernel
theorem c_side_weights : FnScope n_side_weights [Str.ofString "points", Str.ofString "weights", Str.ofString "line"] (defScope t_side_weights) := ⟨rfl, rfl, rfl, by decide +kernel, rfl, by decide +kernel, by decide +kernel⟩
abbrev t_does_halve : Stmt := topS 44
def n_does_halve : List Str := [Str.ofString "points", Str.ofString "weights", Str.ofString "line"]
theorem m_does_halve : mSs tb n_does_halve false (defScope t_does_halve) b_does_halve.body (defBody t_does_halve) = true := by decide +kernel
theorem c_does_halve : FnScope n_does_halve [Str.ofString "points", Str.ofString "weights", Str.ofString "line"] (defScope t_does_halve) := ⟨rfl, rfl, rfl, by decide +kernel, rfl, by decide +kernel, by decide +kernel⟩
abbrev t_halving_lines : Stmt := topS 45
def n_halving_lines : List Str := [Str.ofString "points", Str.ofString "weights", Str.ofString "line"]
theorem m_halving_lines : mSs tb n_halving_lines true (defScope t_halving_lines) b_halving_lines.body (defBody t_halving_lines) = true := by decide +kernel
theorem c_halving_lines : FnScope n_halving_lines [Str.ofString "points", Str.ofString "weights"] (defScope t_halving_lines) := ⟨rfl, rfl, rfl, by decide +kernel, rfl, by decide +kernel, by decide +kernel⟩
abbrev t__law_purse : Stmt := topS 47
def n__law_purse : List Str := [Str.ofString "script", Str.ofString "at", Str.ofString "seed"]
theorem m__law_purse : mSs tb n__law_purse true (defScope t__law_purse) b__law_purse.body (defBody t__law_purse) = true := by decide +kernel
theorem c__law_purse : FnScope n__law_purse [Str.ofString "script", Str.ofString "at"] (defScope t__law_purse) := ⟨rfl, rfl, rfl, by decide +kernel, rfl, by decide +kernel, by decide +kernel⟩
abbrev t__law_mixed : Stmt := topS 48
def n__law_mixed : List Str := [Str.ofString "seed", Str.ofString "spin", Str.ofString "at", Str.ofString "mixed"]
theorem m__law_mixed : mSs tb n__law_mixed false (defScope t__law_mixed) b__law_mixed.body (defBody t__law_mixed) = true := by decide +kernel
theorem c__law_mixed : FnScope n__law_mixed [Str.ofString "seed", Str.ofString "spin", Str.ofString "at"] (defScope t__law_mixed) := ⟨rfl, rfl, rfl, by decide +kernel, rfl, by decide +kernel, by decide +kernel⟩
abbrev t__law_draw : Stmt := topS 49
def n__law_draw : List Str := [Str.ofString "purse", Str.ofString "many", Str.ofString "drawn", Str.ofString "found", Str.ofString "piece"]
theorem m__law_draw : mSs tb n__law_draw false (defScope t__law_draw) b__law_draw.body (defBody t__law_draw) = true := by decide +kernel
theorem c__law_draw : FnScope n__law_draw [Str.ofString "purse", Str.ofString "many"] (defScope t__law_draw) := ⟨rfl, rfl, rfl, by decide +kernel, rfl, by decide +kernel, by decide +kernel⟩
abbrev t__law_purses : Stmt := topS 50
def n__law_purses : List Str := [Str.ofString "script", Str.ofString "few", Str.ofString "at"]
theorem m__law_purses : mSs tb n__law_purses false (defScope t__law_purses) b__law_purses.body (defBody t__law_purses) = true := by decide +kernel
theorem c__law_purses : FnScope n__law_purses [Str.ofString "script", Str.ofString "few"] (defScope t__law_purses) := ⟨rfl, rfl, rfl, by decide +kernel, rfl, by decide +kernel, by decide +kernel⟩
abbrev t__law_one_of : Stmt := topS 51
def n__law_one_of : List Str := [Str.ofString "purse", Str.ofString "some"]
theorem m__law_one_of : mSs tb n__law_one_of false (defScope t__law_one_of) b__law_one_of.body (defBody t__law_one_of) = true := by decide +kernel
theorem c__law_one_of : FnScope n__law_one_of [Str.ofString "purse", Str.ofString "some"] (defScope t__law_one_of) := ⟨rfl, rfl, rfl, by decide +kernel, rfl, by decide +kernel, by decide +kernel⟩
abbrev t__law_shuffled : Stmt := topS 52
def n__law_shuffled : List Str := [Str.ofString "purse", Str.ofString "some", Str.ofString "found", Str.ofString "item"]
theorem m__law_shuffled : mSs tb n__law_shuffled false (defScope t__law_shuffled) b__law_shuffled.body (defBody t__law_shuffled) = true := by decide +kernel
theorem c__law_shuffled : FnScope n__law_shuffled [Str.ofString "purse", Str.ofString "some"] (defScope t__law_shuffled) := ⟨rfl, rfl, rfl, by decide +kernel, rfl, by decide +kernel, by decide +kernel⟩
abbrev t__law_exact : Stmt := topS 53
def n__law_exact : List Str := [Str.ofString "mine", Str.ofString "theirs", Str.ofString "is_list", Str.ofString "is_like", Str.ofString "a", Str.ofString "b"]
theorem m__law_exact : mSs tb n__law_exact false (defScope t__law_exact) b__law_exact.body (defBody t__law_exact) = true := by decide +kernel
theorem c__law_exact : FnScope n__law_exact [Str.ofString "mine", Str.ofString "theirs"] (defScope t__law_exact) := ⟨rfl, rfl, rfl, by decide +kernel, rfl, by decide +kernel, by decide +kernel⟩
abbrev t__law_point : Stmt := topS 54
def n__law_point : List Str := [Str.ofString "purse", Str.ofString "most", Str.ofString "x"]
theorem m__law_point : mSs tb n__law_point false (defScope t__law_point) b__law_point.body (defBody t__law_point) = true := by decide +kernel
theorem c__law_point : FnScope n__law_point [Str.ofString "purse", Str.ofString "most"] (defScope t__law_point) := ⟨rfl, rfl, rfl, by decide +kernel, rfl, by decide +kernel, by decide +kernel⟩
abbrev t__law_low : Stmt := topS 55
def n__law_low : List Str := [Str.ofString "above", Str.ofString "below", Str.ofString "one", Str.ofString "other"]
theorem m__law_low : mSs tb n__law_low false (defScope t__law_low) b__law_low.body (defBody t__law_low) = true := by decide +kernel
theorem c__law_low : FnScope n__law_low [Str.ofString "above", Str.ofString "below"] (defScope t__law_low) := ⟨rfl, rfl, rfl, by decide +kernel, rfl, by decide +kernel, by decide +kernel⟩
abbrev t__law_plus : Stmt := topS 56
def n__law_plus : List Str := [Str.ofString "one", Str.ofString "other"]
theorem m__law_plus : mSs tb n__law_plus false (defScope t__law_plus) b__law_plus.body (defBody t__law_plus) = true := by decide +kernel
theorem c__law_plus : FnScope n__law_plus [Str.ofString "one", Str.ofString "other"] (defScope t__law_plus) := ⟨rfl, rfl, rfl, by decide +kernel, rfl, by decide +kernel, by decide +kernel⟩
abbrev t__law_minus : Stmt := topS 57
def n__law_minus : List Str := [Str.ofString "one", Str.ofString "other"]
theorem m__law_minus : mSs tb n__law_minus false (defScope t__law_minus) b__law_minus.body (defBody t__law_minus) = true := by decide +kernel
theorem c__law_minus : FnScope n__law_minus [Str.ofString "one", Str.ofString "other"] (defScope t__law_minus) := ⟨rfl, rfl, rfl, by decide +kernel, rfl, by decide +kernel, by decide +kernel⟩
abbrev t__law_times : Stmt := topS 58
def n__law_times : List Str := [Str.ofString "one", Str.ofString "other"]
theorem m__law_times : mSs tb n__law_times false (defScope t__law_times) b__law_times.body (defBody t__law_times) = true := by decide +kernel
theorem c__law_times : FnScope n__law_times [Str.ofString "one", Str.ofString "other"] (defScope t__law_times) := ⟨rfl, rfl, rfl, by decide +kernel, rfl, by decide +kernel, by decide +kernel⟩
abbrev t__law_less : Stmt := topS 59
def n__law_less : List Str := [Str.ofString "one", Str.ofString "other"]
theorem m__law_less : mSs tb n__law_less false (defScope t__law_less) b__law_less.body (defBody t__law_less) = true := by decide +kernel
theorem c__law_less : FnScope n__law_less [Str.ofString "one", Str.ofString "other"] (defScope t__law_less) := ⟨rfl, rfl, rfl, by decide +kernel, rfl, by decide +kernel, by decide +kernel⟩
abbrev t__law_ahead : Stmt := topS 60
def n__law_ahead : List Str := [Str.ofString "one", Str.ofString "other"]
theorem m__law_ahead : mSs tb n__law_ahead false (defScope t__law_ahead) b__law_ahead.body (defBody t__law_ahead) = true := by decide +kernel
theorem c__law_ahead : FnScope n__law_ahead [Str.ofString "one", Str.ofString "other"] (defScope t__law_ahead) := ⟨rfl, rfl, rfl, by decide +kernel, rfl, by decide +kernel, by decide +kernel⟩
abbrev t__law_set : Stmt := topS 61
def n__law_set : List Str := [Str.ofString "points", Str.ofString "found", Str.ofString "point", Str.ofString "at", Str.ofString "late"]
theorem m__law_set : mSs tb n__law_set false (defScope t__law_set) b__law_set.body (defBody t__law_set) = true := by decide +kernel
theorem c__law_set : FnScope n__law_set [Str.ofString "points"] (defScope t__law_set) := ⟨rfl, rfl, rfl, by decide +kernel, rfl, by decide +kernel, by decide +kernel⟩
abbrev t__law_points : Stmt := topS 62
def n__law_points : List Str := [Str.ofString "purse", Str.ofString "most", Str.ofString "wide", Str.ofString "many", Str.ofString "way", Str.ofString "found", Str.ofString "spin", Str.ofString "x", Str.ofString "y"]
theorem m__law_points : mSs tb n__law_points false (defScope t__law_points) b__law_points.body (defBody t__law_points) = true := by decide +kernel
theorem c__law_points : FnScope n__law_points [Str.ofString "purse", Str.ofString "most", Str.ofString "wide"] (defScope t__law_points) := ⟨rfl, rfl, rfl, by decide +kernel, rfl, by decide +kernel, by decide +kernel⟩
abbrev t__law_weights : Stmt := topS 63
def n__law_weights : List Str := [Str.ofString "purse", Str.ofString "points", Str.ofString "many", Str.ofString "found", Str.ofString "point"]
theorem m__law_weights : mSs tb n__law_weights false (defScope t__law_weights) b__law_weights.body (defBody t__law_weights) = true := by decide +kernel
theorem c__law_weights : FnScope n__law_weights [Str.ofString "purse", Str.ofString "points"] (defScope t__law_weights) := ⟨rfl, rfl, rfl, by decide +kernel, rfl, by decide +kernel, by decide +kernel⟩
abbrev t__law_line : Stmt := topS 64
def n__law_line : List Str := [Str.ofString "one", Str.ofString "other", Str.ofString "a", Str.ofString "b", Str.ofString "c", Str.ofString "below", Str.ofString "whole", Str.ofString "late", Str.ofString "much", Str.ofString "here"]
theorem m__law_line : mSs tb n__law_line false (defScope t__law_line) b__law_line.body (defBody t__law_line) = true := by decide +kernel
theorem c__law_line : FnScope n__law_line [Str.ofString "one", Str.ofString "other"] (defScope t__law_line) := ⟨rfl, rfl, rfl, by decide +kernel, rfl, by decide +kernel, by decide +kernel⟩
abbrev t__law_above : Stmt := topS 65
def n__law_above : List Str := [Str.ofString "line", Str.ofString "point", Str.ofString "much"]
theorem m__law_above : mSs tb n__law_above false (defScope t__law_above) b__law_above.body (defBody t__law_above) = true := by decide +kernel
theorem c__law_above : FnScope n__law_above [Str.ofString "line", Str.ofString "point"] (defScope t__law_above) := ⟨rfl, rfl, rfl, by decide +kernel, rfl, by decide +kernel, by decide +kernel⟩
abbrev t__law_halves : Stmt := topS 66
def n__law_halves : List Str := [Str.ofString "points", Str.ofString "weights", Str.ofString "line", Str.ofString "more", Str.ofString "point", Str.ofString "weight", Str.ofString "less"]
theorem m__law_halves : mSs tb n__law_halves false (defScope t__law_halves) b__law_halves.body (defBody t__law_halves) = true := by decide +kernel
theorem c__law_halves : FnScope n__law_halves [Str.ofString "points", Str.ofString "weights", Str.ofString "line"] (defScope t__law_halves) := ⟨rfl, rfl, rfl, by decide +kernel, rfl, by decide +kernel, by decide +kernel⟩
abbrev t__law_some_lines : Stmt := topS 67
def n__law_some_lines : List Str := [Str.ofString "purse", Str.ofString "points", Str.ofString "found", Str.ofString "spin", Str.ofString "one", Str.ofString "other", Str.ofString "late"]
theorem m__law_some_lines : mSs tb n__law_some_lines false (defScope t__law_some_lines) b__law_some_lines.body (defBody t__law_some_lines) = true := by decide +kernel
theorem c__law_some_lines : FnScope n__law_some_lines [Str.ofString "purse", Str.ofString "points"] (defScope t__law_some_lines) := ⟨rfl, rfl, rfl, by decide +kernel, rfl, by decide +kernel, by decide +kernel⟩
abbrev t__law_case_right : Stmt := topS 68
def n__law_case_right : List Str := [Str.ofString "purse", Str.ofString "points", Str.ofString "weights", Str.ofString "kept", Str.ofString "lines", Str.ofString "at", Str.ofString "one", Str.ofString "other", Str.ofString "due", Str.ofString "line", Str.ofString "told", Str.ofString "sides", Str.ofString "point", Str.ofString "less", Str.ofString "side", Str.ofString "weight", Str.ofString "more", Str.ofString "row", Str.ofString "is_so", Str.ofString "late"]
theorem m__law_case_right : mSs tb n__law_case_right false (defScope t__law_case_right) b__law_case_right.body (defBody t__law_case_right) = true := by decide +kernel
theorem c__law_case_right : FnScope n__law_case_right [Str.ofString "purse"] (defScope t__law_case_right) := ⟨rfl, rfl, rfl, by decide +kernel, rfl, by decide +kernel, by decide +kernel⟩
abbrev t_law : Stmt := topS 69
def n_law : List Str := [Str.ofString "script", Str.ofString "purse", Str.ofString "four", Str.ofString "ones", Str.ofString "due", Str.ofString "told"]
theorem m_law : mSs tb n_law false (defScope t_law) b_law.body (defBody t_law) = true := by decide +kernel
theorem c_law : FnScope n_law [Str.ofString "script"] (defScope t_law) := ⟨rfl, rfl, rfl, by decide +kernel, rfl, by decide +kernel, by decide +kernel⟩
theorem all_mk {K : PySem.W.Frag} {h : Heap} {mg : Str → Option Value} {f0 f1 f2 f3 f4 f5 f6 f7 f8 f9 f10 f11 f12 f13 f14 f15 f16 f17 f18 f19 f20 f21 f22 f23 f24 f25 f26 f27 f28 f29 f30 f31 f32 f33 f34 f35 f36 f37 f38 f39 f40 f41 f42 f43 f44 f45 f46 f47 f48 f49 f50 f51 f52 f53 : Addr} (X : K.In h) (G : h.Ns mainGlobals mg)
    {od0 an0 od1 an1 od2 an2 od3 an3 od4 an4 od5 an5 od6 an6 od7 an7 od8 an8 od9 an9 od10 an10 od11 an11 od12 an12 od13 an13 od14 an14 od15 an15 od16 an16 od17 an17 od18 an18 od19 an19 od20 an20 od21 an21 od22 an22 od23 an23 od24 an24 od25 an25 od26 an26 od27 an27 od28 an28 od29 an29 od30 an30 od31 an31 od32 an32 od33 an33 od34 an34 od35 an35 od36 an36 od37 an37 od38 an38 od39 an39 od40 an40 od41 an41 od42 an42 od43 an43 od44 an44 od45 an45 od46 an46 od47 an47 od48 an48 od49 an49 od50 an50 od51 an51 od52 an52 od53 an53 : Option Addr} {sl0 sl1 sl2 sl3 sl4 sl5 sl6 sl7 sl8 sl9 sl10 sl11 sl12 sl13 sl14 sl15 sl16 sl17 sl18 sl19 sl20 sl21 sl22 sl23 sl24 sl25 sl26 sl27 sl28 sl29 sl30 sl31 sl32 sl33 sl34 sl35 sl36 sl37 sl38 sl39 sl40 sl41 sl42 sl43 sl44 sl45 sl46 sl47 sl48 sl49 sl50 sl51 sl52 sl53 : Array (Option Value)} {oc0 kV0 dc0 pm0 cd0 ct0 oc1 kV1 dc1 pm1 cd1 ct1 oc2 kV2 dc2 pm2 cd2 ct2 oc3 kV3 dc3 pm3 cd3 ct3 oc4 kV4 dc4 pm4 cd4 ct4 oc5 kV5 dc5 pm5 cd5 ct5 oc6 kV6 dc6 pm6 cd6 ct6 oc7 kV7 dc7 pm7 cd7 ct7 oc8 kV8 dc8 pm8 cd8 ct8 oc9 kV9 dc9 pm9 cd9 ct9 oc10 kV10 dc10 pm10 cd10 ct10 oc11 kV11 dc11 pm11 cd11 ct11 oc12 kV12 dc12 pm12 cd12 ct12 oc13 kV13 dc13 pm13 cd13 ct13 oc14 kV14 dc14 pm14 cd14 ct14 oc15 kV15 dc15 pm15 cd15 ct15 oc16 kV16 dc16 pm16 cd16 ct16 oc17 kV17 dc17 pm17 cd17 ct17 oc18 kV18 dc18 pm18 cd18 ct18 oc19 kV19 dc19 pm19 cd19 ct19 oc20 kV20 dc20 pm20 cd20 ct20 oc21 kV21 dc21 pm21 cd21 ct21 oc22 kV22 dc22 pm22 cd22 ct22 oc23 kV23 dc23 pm23 cd23 ct23 oc24 kV24 dc24 pm24 cd24 ct24 oc25 kV25 dc25 pm25 cd25 ct25 oc26 kV26 dc26 pm26 cd26 ct26 oc27 kV27 dc27 pm27 cd27 ct27 oc28 kV28 dc28 pm28 cd28 ct28 oc29 kV29 dc29 pm29 cd29 ct29 oc30 kV30 dc30 pm30 cd30 ct30 oc31 kV31 dc31 pm31 cd31 ct31 oc32 kV32 dc32 pm32 cd32 ct32 oc33 kV33 dc33 pm33 cd33 ct33 oc34 kV34 dc34 pm34 cd34 ct34 oc35 kV35 dc35 pm35 cd35 ct35 oc36 kV36 dc36 pm36 cd36 ct36 oc37 kV37 dc37 pm37 cd37 ct37 oc38 kV38 dc38 pm38 cd38 ct38 oc39 kV39 dc39 pm39 cd39 ct39 oc40 kV40 dc40 pm40 cd40 ct40 oc41 kV41 dc41 pm41 cd41 ct41 oc42 kV42 dc42 pm42 cd42 ct42 oc43 kV43 dc43 pm43 cd43 ct43 oc44 kV44 dc44 pm44 cd44 ct44 oc45 kV45 dc45 pm45 cd45 ct45 oc46 kV46 dc46 pm46 cd46 ct46 oc47 kV47 dc47 pm47 cd47 ct47 oc48 kV48 dc48 pm48 cd48 ct48 oc49 kV49 dc49 pm49 cd49 ct49 oc50 kV50 dc50 pm50 cd50 ct50 oc51 kV51 dc51 pm51 cd51 ct51 oc52 kV52 dc52 pm52 cd52 ct52 oc53 kV53 dc53 pm53 cd53 ct53 : Value}
    {dT1 : Addr} {dod1 : Option Addr} {dsl1 : Array (Option Value)} {dn1 : Nat} {dt1_0 : Tok}
    (a0 : PySem.W.nsIn K mainGlobals "is_whole" = some (some (.ref f0))) (l0 : K.lookup f0 = some ⟨oc0, od0, .func (PySem.W.fnOf "is_whole" "is_whole" (defArgs t_is_whole) (defBody t_is_whole) (defScope t_is_whole) .none kV0 dc0 pm0 an0 cd0 ct0), sl0⟩) (c0 : PySem.W.codeIn K cd0 "is_whole" = true) (k0 : PySem.W.keepIn K (.ref f0) = true)
    (a1 : PySem.W.nsIn K mainGlobals "is_count" = some (some (.ref f1))) (l1 : K.lookup f1 = some ⟨oc1, od1, .func (PySem.W.fnOf "is_count" "is_count" (defArgs t_is_count) (defBody t_is_count) (defScope t_is_count) (.ref dT1) kV1 dc1 pm1 an1 cd1 ct1), sl1⟩) (c1 : PySem.W.codeIn K cd1 "is_count" = true) (k1 : PySem.W.keepIn K (.ref f1) = true)
    (a2 : PySem.W.nsIn K mainGlobals "is_tuple_of" = some (some (.ref f2))) (l2 : K.lookup f2 = some ⟨oc2, od2, .func (PySem.W.fnOf "is_tuple_of" "is_tuple_of" (defArgs t_is_tuple_of) (defBody t_is_tuple_of) (defScope t_is_tuple_of) .none kV2 dc2 pm2 an2 cd2 ct2), sl2⟩) (c2 : PySem.W.codeIn K cd2 "is_tuple_of" = true) (k2 : PySem.W.keepIn K (.ref f2) = true)
    (a3 : PySem.W.nsIn K mainGlobals "is_fraction" = some (some (.ref f3))) (l3 : K.lookup f3 = some ⟨oc3, od3, .func (PySem.W.fnOf "is_fraction" "is_fraction" (defArgs t_is_fraction) (defBody t_is_fraction) (defScope t_is_fraction) .none kV3 dc3 pm3 an3 cd3 ct3), sl3⟩) (c3 : PySem.W.codeIn K cd3 "is_fraction" = true) (k3 : PySem.W.keepIn K (.ref f3) = true)
    (a4 : PySem.W.nsIn K mainGlobals "fraction" = some (some (.ref f4))) (l4 : K.lookup f4 = some ⟨oc4, od4, .func (PySem.W.fnOf "fraction" "fraction" (defArgs t_fraction) (defBody t_fraction) (defScope t_fraction) .none kV4 dc4 pm4 an4 cd4 ct4), sl4⟩) (c4 : PySem.W.codeIn K cd4 "fraction" = true) (k4 : PySem.W.keepIn K (.ref f4) = true)
    (a5 : PySem.W.nsIn K mainGlobals "plus" = some (some (.ref f5))) (l5 : K.lookup f5 = some ⟨oc5, od5, .func (PySem.W.fnOf "plus" "plus" (defArgs t_plus) (defBody t_plus) (defScope t_plus) .none kV5 dc5 pm5 an5 cd5 ct5), sl5⟩) (c5 : PySem.W.codeIn K cd5 "plus" = true) (k5 : PySem.W.keepIn K (.ref f5) = true)
    (a6 : PySem.W.nsIn K mainGlobals "minus" = some (some (.ref f6))) (l6 : K.lookup f6 = some ⟨oc6, od6, .func (PySem.W.fnOf "minus" "minus" (defArgs t_minus) (defBody t_minus) (defScope t_minus) .none kV6 dc6 pm6 an6 cd6 ct6), sl6⟩) (c6 : PySem.W.codeIn K cd6 "minus" = true) (k6 : PySem.W.keepIn K (.ref f6) = true)
    (a7 : PySem.W.nsIn K mainGlobals "times" = some (some (.ref f7))) (l7 : K.lookup f7 = some ⟨oc7, od7, .func (PySem.W.fnOf "times" "times" (defArgs t_times) (defBody t_times) (defScope t_times) .none kV7 dc7 pm7 an7 cd7 ct7), sl7⟩) (c7 : PySem.W.codeIn K cd7 "times" = true) (k7 : PySem.W.keepIn K (.ref f7) = true)
    (a8 : PySem.W.nsIn K mainGlobals "is_less" = some (some (.ref f8))) (l8 : K.lookup f8 = some ⟨oc8, od8, .func (PySem.W.fnOf "is_less" "is_less" (defArgs t_is_less) (defBody t_is_less) (defScope t_is_less) .none kV8 dc8 pm8 an8 cd8 ct8), sl8⟩) (c8 : PySem.W.codeIn K cd8 "is_less" = true) (k8 : PySem.W.keepIn K (.ref f8) = true)
    (a9 : PySem.W.nsIn K mainGlobals "common_below" = some (some (.ref f9))) (l9 : K.lookup f9 = some ⟨oc9, od9, .func (PySem.W.fnOf "common_below" "common_below" (defArgs t_common_below) (defBody t_common_below) (defScope t_common_below) .none kV9 dc9 pm9 an9 cd9 ct9), sl9⟩) (c9 : PySem.W.codeIn K cd9 "common_below" = true) (k9 : PySem.W.keepIn K (.ref f9) = true)
    (a10 : PySem.W.nsIn K mainGlobals "wholes" = some (some (.ref f10))) (l10 : K.lookup f10 = some ⟨oc10, od10, .func (PySem.W.fnOf "wholes" "wholes" (defArgs t_wholes) (defBody t_wholes) (defScope t_wholes) .none kV10 dc10 pm10 an10 cd10 ct10), sl10⟩) (c10 : PySem.W.codeIn K cd10 "wholes" = true) (k10 : PySem.W.keepIn K (.ref f10) = true)
    (a11 : PySem.W.nsIn K mainGlobals "is_point" = some (some (.ref f11))) (l11 : K.lookup f11 = some ⟨oc11, od11, .func (PySem.W.fnOf "is_point" "is_point" (defArgs t_is_point) (defBody t_is_point) (defScope t_is_point) .none kV11 dc11 pm11 an11 cd11 ct11), sl11⟩) (c11 : PySem.W.codeIn K cd11 "is_point" = true) (k11 : PySem.W.keepIn K (.ref f11) = true)
    (a12 : PySem.W.nsIn K mainGlobals "comes_ahead" = some (some (.ref f12))) (l12 : K.lookup f12 = some ⟨oc12, od12, .func (PySem.W.fnOf "comes_ahead" "comes_ahead" (defArgs t_comes_ahead) (defBody t_comes_ahead) (defScope t_comes_ahead) .none kV12 dc12 pm12 an12 cd12 ct12), sl12⟩) (c12 : PySem.W.codeIn K cd12 "comes_ahead" = true) (k12 : PySem.W.keepIn K (.ref f12) = true)
    (a13 : PySem.W.nsIn K mainGlobals "are_points" = some (some (.ref f13))) (l13 : K.lookup f13 = some ⟨oc13, od13, .func (PySem.W.fnOf "are_points" "are_points" (defArgs t_are_points) (defBody t_are_points) (defScope t_are_points) .none kV13 dc13 pm13 an13 cd13 ct13), sl13⟩) (c13 : PySem.W.codeIn K cd13 "are_points" = true) (k13 : PySem.W.keepIn K (.ref f13) = true)
    (a14 : PySem.W.nsIn K mainGlobals "is_set" = some (some (.ref f14))) (l14 : K.lookup f14 = some ⟨oc14, od14, .func (PySem.W.fnOf "is_set" "is_set" (defArgs t_is_set) (defBody t_is_set) (defScope t_is_set) .none kV14 dc14 pm14 an14 cd14 ct14), sl14⟩) (c14 : PySem.W.codeIn K cd14 "is_set" = true) (k14 : PySem.W.keepIn K (.ref f14) = true)
    (a15 : PySem.W.nsIn K mainGlobals "sign_of" = some (some (.ref f15))) (l15 : K.lookup f15 = some ⟨oc15, od15, .func (PySem.W.fnOf "sign_of" "sign_of" (defArgs t_sign_of) (defBody t_sign_of) (defScope t_sign_of) .none kV15 dc15 pm15 an15 cd15 ct15), sl15⟩) (c15 : PySem.W.codeIn K cd15 "sign_of" = true) (k15 : PySem.W.keepIn K (.ref f15) = true)
    (a16 : PySem.W.nsIn K mainGlobals "plain_line" = some (some (.ref f16))) (l16 : K.lookup f16 = some ⟨oc16, od16, .func (PySem.W.fnOf "plain_line" "plain_line" (defArgs t_plain_line) (defBody t_plain_line) (defScope t_plain_line) .none kV16 dc16 pm16 an16 cd16 ct16), sl16⟩) (c16 : PySem.W.codeIn K cd16 "plain_line" = true) (k16 : PySem.W.keepIn K (.ref f16) = true)
    (a17 : PySem.W.nsIn K mainGlobals "is_line" = some (some (.ref f17))) (l17 : K.lookup f17 = some ⟨oc17, od17, .func (PySem.W.fnOf "is_line" "is_line" (defArgs t_is_line) (defBody t_is_line) (defScope t_is_line) .none kV17 dc17 pm17 an17 cd17 ct17), sl17⟩) (c17 : PySem.W.codeIn K cd17 "is_line" = true) (k17 : PySem.W.keepIn K (.ref f17) = true)
    (a18 : PySem.W.nsIn K mainGlobals "check_line" = some (some (.ref f18))) (l18 : K.lookup f18 = some ⟨oc18, od18, .func (PySem.W.fnOf "check_line" "check_line" (defArgs t_check_line) (defBody t_check_line) (defScope t_check_line) .none kV18 dc18 pm18 an18 cd18 ct18), sl18⟩) (c18 : PySem.W.codeIn K cd18 "check_line" = true) (k18 : PySem.W.keepIn K (.ref f18) = true)
    (a19 : PySem.W.nsIn K mainGlobals "through_there" = some (some (.ref f19))) (l19 : K.lookup f19 = some ⟨oc19, od19, .func (PySem.W.fnOf "through_there" "through_there" (defArgs t_through_there) (defBody t_through_there) (defScope t_through_there) .none kV19 dc19 pm19 an19 cd19 ct19), sl19⟩) (c19 : PySem.W.codeIn K cd19 "through_there" = true) (k19 : PySem.W.keepIn K (.ref f19) = true)
    (a20 : PySem.W.nsIn K mainGlobals "above_by" = some (some (.ref f20))) (l20 : K.lookup f20 = some ⟨oc20, od20, .func (PySem.W.fnOf "above_by" "above_by" (defArgs t_above_by) (defBody t_above_by) (defScope t_above_by) .none kV20 dc20 pm20 an20 cd20 ct20), sl20⟩) (c20 : PySem.W.codeIn K cd20 "above_by" = true) (k20 : PySem.W.keepIn K (.ref f20) = true)
    (a21 : PySem.W.nsIn K mainGlobals "side_there" = some (some (.ref f21))) (l21 : K.lookup f21 = some ⟨oc21, od21, .func (PySem.W.fnOf "side_there" "side_there" (defArgs t_side_there) (defBody t_side_there) (defScope t_side_there) .none kV21 dc21 pm21 an21 cd21 ct21), sl21⟩) (c21 : PySem.W.codeIn K cd21 "side_there" = true) (k21 : PySem.W.keepIn K (.ref f21) = true)
    (a22 : PySem.W.nsIn K mainGlobals "check_set" = some (some (.ref f22))) (l22 : K.lookup f22 = some ⟨oc22, od22, .func (PySem.W.fnOf "check_set" "check_set" (defArgs t_check_set) (defBody t_check_set) (defScope t_check_set) .none kV22 dc22 pm22 an22 cd22 ct22), sl22⟩) (c22 : PySem.W.codeIn K cd22 "check_set" = true) (k22 : PySem.W.keepIn K (.ref f22) = true)
    (a23 : PySem.W.nsIn K mainGlobals "are_weights" = some (some (.ref f23))) (l23 : K.lookup f23 = some ⟨oc23, od23, .func (PySem.W.fnOf "are_weights" "are_weights" (defArgs t_are_weights) (defBody t_are_weights) (defScope t_are_weights) .none kV23 dc23 pm23 an23 cd23 ct23), sl23⟩) (c23 : PySem.W.codeIn K cd23 "are_weights" = true) (k23 : PySem.W.keepIn K (.ref f23) = true)
    (a24 : PySem.W.nsIn K mainGlobals "check_weighted" = some (some (.ref f24))) (l24 : K.lookup f24 = some ⟨oc24, od24, .func (PySem.W.fnOf "check_weighted" "check_weighted" (defArgs t_check_weighted) (defBody t_check_weighted) (defScope t_check_weighted) .none kV24 dc24 pm24 an24 cd24 ct24), sl24⟩) (c24 : PySem.W.codeIn K cd24 "check_weighted" = true) (k24 : PySem.W.keepIn K (.ref f24) = true)
    (a25 : PySem.W.nsIn K mainGlobals "side_weights_there" = some (some (.ref f25))) (l25 : K.lookup f25 = some ⟨oc25, od25, .func (PySem.W.fnOf "side_weights_there" "side_weights_there" (defArgs t_side_weights_there) (defBody t_side_weights_there) (defScope t_side_weights_there) .none kV25 dc25 pm25 an25 cd25 ct25), sl25⟩) (c25 : PySem.W.codeIn K cd25 "side_weights_there" = true) (k25 : PySem.W.keepIn K (.ref f25) = true)
    (a26 : PySem.W.nsIn K mainGlobals "halves_there" = some (some (.ref f26))) (l26 : K.lookup f26 = some ⟨oc26, od26, .func (PySem.W.fnOf "halves_there" "halves_there" (defArgs t_halves_there) (defBody t_halves_there) (defScope t_halves_there) .none kV26 dc26 pm26 an26 cd26 ct26), sl26⟩) (c26 : PySem.W.codeIn K cd26 "halves_there" = true) (k26 : PySem.W.keepIn K (.ref f26) = true)
    (a27 : PySem.W.nsIn K mainGlobals "lines_of" = some (some (.ref f27))) (l27 : K.lookup f27 = some ⟨oc27, od27, .func (PySem.W.fnOf "lines_of" "lines_of" (defArgs t_lines_of) (defBody t_lines_of) (defScope t_lines_of) .none kV27 dc27 pm27 an27 cd27 ct27), sl27⟩) (c27 : PySem.W.codeIn K cd27 "lines_of" = true) (k27 : PySem.W.keepIn K (.ref f27) = true)
    (a28 : PySem.W.nsIn K mainGlobals "side_weights" = some (some (.ref f28))) (l28 : K.lookup f28 = some ⟨oc28, od28, .func (PySem.W.fnOf "side_weights" "side_weights" (defArgs t_side_weights) (defBody t_side_weights) (defScope t_side_weights) .none kV28 dc28 pm28 an28 cd28 ct28), sl28⟩) (c28 : PySem.W.codeIn K cd28 "side_weights" = true) (k28 : PySem.W.keepIn K (.ref f28) = true)
    (a29 : PySem.W.nsIn K mainGlobals "does_halve" = some (some (.ref f29))) (l29 : K.lookup f29 = some ⟨oc29, od29, .func (PySem.W.fnOf "does_halve" "does_halve" (defArgs t_does_halve) (defBody t_does_halve) (defScope t_does_halve) .none kV29 dc29 pm29 an29 cd29 ct29), sl29⟩) (c29 : PySem.W.codeIn K cd29 "does_halve" = true) (k29 : PySem.W.keepIn K (.ref f29) = true)
    (a30 : PySem.W.nsIn K mainGlobals "halving_lines" = some (some (.ref f30))) (l30 : K.lookup f30 = some ⟨oc30, od30, .func (PySem.W.fnOf "halving_lines" "halving_lines" (defArgs t_halving_lines) (defBody t_halving_lines) (defScope t_halving_lines) .none kV30 dc30 pm30 an30 cd30 ct30), sl30⟩) (c30 : PySem.W.codeIn K cd30 "halving_lines" = true) (k30 : PySem.W.keepIn K (.ref f30) = true)
    (a31 : PySem.W.nsIn K mainGlobals "_law_purse" = some (some (.ref f31))) (l31 : K.lookup f31 = some ⟨oc31, od31, .func (PySem.W.fnOf "_law_purse" "_law_purse" (defArgs t__law_purse) (defBody t__law_purse) (defScope t__law_purse) .none kV31 dc31 pm31 an31 cd31 ct31), sl31⟩) (c31 : PySem.W.codeIn K cd31 "_law_purse" = true) (k31 : PySem.W.keepIn K (.ref f31) = true)
    (a32 : PySem.W.nsIn K mainGlobals "_law_mixed" = some (some (.ref f32))) (l32 : K.lookup f32 = some ⟨oc32, od32, .func (PySem.W.fnOf "_law_mixed" "_law_mixed" (defArgs t__law_mixed) (defBody t__law_mixed) (defScope t__law_mixed) .none kV32 dc32 pm32 an32 cd32 ct32), sl32⟩) (c32 : PySem.W.codeIn K cd32 "_law_mixed" = true) (k32 : PySem.W.keepIn K (.ref f32) = true)
    (a33 : PySem.W.nsIn K mainGlobals "_law_draw" = some (some (.ref f33))) (l33 : K.lookup f33 = some ⟨oc33, od33, .func (PySem.W.fnOf "_law_draw" "_law_draw" (defArgs t__law_draw) (defBody t__law_draw) (defScope t__law_draw) .none kV33 dc33 pm33 an33 cd33 ct33), sl33⟩) (c33 : PySem.W.codeIn K cd33 "_law_draw" = true) (k33 : PySem.W.keepIn K (.ref f33) = true)
    (a34 : PySem.W.nsIn K mainGlobals "_law_purses" = some (some (.ref f34))) (l34 : K.lookup f34 = some ⟨oc34, od34, .func (PySem.W.fnOf "_law_purses" "_law_purses" (defArgs t__law_purses) (defBody t__law_purses) (defScope t__law_purses) .none kV34 dc34 pm34 an34 cd34 ct34), sl34⟩) (c34 : PySem.W.codeIn K cd34 "_law_purses" = true) (k34 : PySem.W.keepIn K (.ref f34) = true)
    (a35 : PySem.W.nsIn K mainGlobals "_law_one_of" = some (some (.ref f35))) (l35 : K.lookup f35 = some ⟨oc35, od35, .func (PySem.W.fnOf "_law_one_of" "_law_one_of" (defArgs t__law_one_of) (defBody t__law_one_of) (defScope t__law_one_of) .none kV35 dc35 pm35 an35 cd35 ct35), sl35⟩) (c35 : PySem.W.codeIn K cd35 "_law_one_of" = true) (k35 : PySem.W.keepIn K (.ref f35) = true)
    (a36 : PySem.W.nsIn K mainGlobals "_law_shuffled" = some (some (.ref f36))) (l36 : K.lookup f36 = some ⟨oc36, od36, .func (PySem.W.fnOf "_law_shuffled" "_law_shuffled" (defArgs t__law_shuffled) (defBody t__law_shuffled) (defScope t__law_shuffled) .none kV36 dc36 pm36 an36 cd36 ct36), sl36⟩) (c36 : PySem.W.codeIn K cd36 "_law_shuffled" = true) (k36 : PySem.W.keepIn K (.ref f36) = true)
    (a37 : PySem.W.nsIn K mainGlobals "_law_exact" = some (some (.ref f37))) (l37 : K.lookup f37 = some ⟨oc37, od37, .func (PySem.W.fnOf "_law_exact" "_law_exact" (defArgs t__law_exact) (defBody t__law_exact) (defScope t__law_exact) .none kV37 dc37 pm37 an37 cd37 ct37), sl37⟩) (c37 : PySem.W.codeIn K cd37 "_law_exact" = true) (k37 : PySem.W.keepIn K (.ref f37) = true)
    (a38 : PySem.W.nsIn K mainGlobals "_law_point" = some (some (.ref f38))) (l38 : K.lookup f38 = some ⟨oc38, od38, .func (PySem.W.fnOf "_law_point" "_law_point" (defArgs t__law_point) (defBody t__law_point) (defScope t__law_point) .none kV38 dc38 pm38 an38 cd38 ct38), sl38⟩) (c38 : PySem.W.codeIn K cd38 "_law_point" = true) (k38 : PySem.W.keepIn K (.ref f38) = true)
    (a39 : PySem.W.nsIn K mainGlobals "_law_low" = some (some (.ref f39))) (l39 : K.lookup f39 = some ⟨oc39, od39, .func (PySem.W.fnOf "_law_low" "_law_low" (defArgs t__law_low) (defBody t__law_low) (defScope t__law_low) .none kV39 dc39 pm39 an39 cd39 ct39), sl39⟩) (c39 : PySem.W.codeIn K cd39 "_law_low" = true) (k39 : PySem.W.keepIn K (.ref f39) = true)
    (a40 : PySem.W.nsIn K mainGlobals "_law_plus" = some (some (.ref f40))) (l40 : K.lookup f40 = some ⟨oc40, od40, .func (PySem.W.fnOf "_law_plus" "_law_plus" (defArgs t__law_plus) (defBody t__law_plus) (defScope t__law_plus) .none kV40 dc40 pm40 an40 cd40 ct40), sl40⟩) (c40 : PySem.W.codeIn K cd40 "_law_plus" = true) (k40 : PySem.W.keepIn K (.ref f40) = true)
    (a41 : PySem.W.nsIn K mainGlobals "_law_minus" = some (some (.ref f41))) (l41 : K.lookup f41 = some ⟨oc41, od41, .func (PySem.W.fnOf "_law_minus" "_law_minus" (defArgs t__law_minus) (defBody t__law_minus) (defScope t__law_minus) .none kV41 dc41 pm41 an41 cd41 ct41), sl41⟩) (c41 : PySem.W.codeIn K cd41 "_law_minus" = true) (k41 : PySem.W.keepIn K (.ref f41) = true)
    (a42 : PySem.W.nsIn K mainGlobals "_law_times" = some (some (.ref f42))) (l42 : K.lookup f42 = some ⟨oc42, od42, .func (PySem.W.fnOf "_law_times" "_law_times" (defArgs t__law_times) (defBody t__law_times) (defScope t__law_times) .none kV42 dc42 pm42 an42 cd42 ct42), sl42⟩) (c42 : PySem.W.codeIn K cd42 "_law_times" = true) (k42 : PySem.W.keepIn K (.ref f42) = true)
    (a43 : PySem.W.nsIn K mainGlobals "_law_less" = some (some (.ref f43))) (l43 : K.lookup f43 = some ⟨oc43, od43, .func (PySem.W.fnOf "_law_less" "_law_less" (defArgs t__law_less) (defBody t__law_less) (defScope t__law_less) .none kV43 dc43 pm43 an43 cd43 ct43), sl43⟩) (c43 : PySem.W.codeIn K cd43 "_law_less" = true) (k43 : PySem.W.keepIn K (.ref f43) = true)
    (a44 : PySem.W.nsIn K mainGlobals "_law_ahead" = some (some (.ref f44))) (l44 : K.lookup f44 = some ⟨oc44, od44, .func (PySem.W.fnOf "_law_ahead" "_law_ahead" (defArgs t__law_ahead) (defBody t__law_ahead) (defScope t__law_ahead) .none kV44 dc44 pm44 an44 cd44 ct44), sl44⟩) (c44 : PySem.W.codeIn K cd44 "_law_ahead" = true) (k44 : PySem.W.keepIn K (.ref f44) = true)
    (a45 : PySem.W.nsIn K mainGlobals "_law_set" = some (some (.ref f45))) (l45 : K.lookup f45 = some ⟨oc45, od45, .func (PySem.W.fnOf "_law_set" "_law_set" (defArgs t__law_set) (defBody t__law_set) (defScope t__law_set) .none kV45 dc45 pm45 an45 cd45 ct45), sl45⟩) (c45 : PySem.W.codeIn K cd45 "_law_set" = true) (k45 : PySem.W.keepIn K (.ref f45) = true)
    (a46 : PySem.W.nsIn K mainGlobals "_law_points" = some (some (.ref f46))) (l46 : K.lookup f46 = some ⟨oc46, od46, .func (PySem.W.fnOf "_law_points" "_law_points" (defArgs t__law_points) (defBody t__law_points) (defScope t__law_points) .none kV46 dc46 pm46 an46 cd46 ct46), sl46⟩) (c46 : PySem.W.codeIn K cd46 "_law_points" = true) (k46 : PySem.W.keepIn K (.ref f46) = true)
    (a47 : PySem.W.nsIn K mainGlobals "_law_weights" = some (some (.ref f47))) (l47 : K.lookup f47 = some ⟨oc47, od47, .func (PySem.W.fnOf "_law_weights" "_law_weights" (defArgs t__law_weights) (defBody t__law_weights) (defScope t__law_weights) .none kV47 dc47 pm47 an47 cd47 ct47), sl47⟩) (c47 : PySem.W.codeIn K cd47 "_law_weights" = true) (k47 : PySem.W.keepIn K (.ref f47) = true)
    (a48 : PySem.W.nsIn K mainGlobals "_law_line" = some (some (.ref f48))) (l48 : K.lookup f48 = some ⟨oc48, od48, .func (PySem.W.fnOf "_law_line" "_law_line" (defArgs t__law_line) (defBody t__law_line) (defScope t__law_line) .none kV48 dc48 pm48 an48 cd48 ct48), sl48⟩) (c48 : PySem.W.codeIn K cd48 "_law_line" = true) (k48 : PySem.W.keepIn K (.ref f48) = true)
    (a49 : PySem.W.nsIn K mainGlobals "_law_above" = some (some (.ref f49))) (l49 : K.lookup f49 = some ⟨oc49, od49, .func (PySem.W.fnOf "_law_above" "_law_above" (defArgs t__law_above) (defBody t__law_above) (defScope t__law_above) .none kV49 dc49 pm49 an49 cd49 ct49), sl49⟩) (c49 : PySem.W.codeIn K cd49 "_law_above" = true) (k49 : PySem.W.keepIn K (.ref f49) = true)
    (a50 : PySem.W.nsIn K mainGlobals "_law_halves" = some (some (.ref f50))) (l50 : K.lookup f50 = some ⟨oc50, od50, .func (PySem.W.fnOf "_law_halves" "_law_halves" (defArgs t__law_halves) (defBody t__law_halves) (defScope t__law_halves) .none kV50 dc50 pm50 an50 cd50 ct50), sl50⟩) (c50 : PySem.W.codeIn K cd50 "_law_halves" = true) (k50 : PySem.W.keepIn K (.ref f50) = true)
    (a51 : PySem.W.nsIn K mainGlobals "_law_some_lines" = some (some (.ref f51))) (l51 : K.lookup f51 = some ⟨oc51, od51, .func (PySem.W.fnOf "_law_some_lines" "_law_some_lines" (defArgs t__law_some_lines) (defBody t__law_some_lines) (defScope t__law_some_lines) .none kV51 dc51 pm51 an51 cd51 ct51), sl51⟩) (c51 : PySem.W.codeIn K cd51 "_law_some_lines" = true) (k51 : PySem.W.keepIn K (.ref f51) = true)
    (a52 : PySem.W.nsIn K mainGlobals "_law_case_right" = some (some (.ref f52))) (l52 : K.lookup f52 = some ⟨oc52, od52, .func (PySem.W.fnOf "_law_case_right" "_law_case_right" (defArgs t__law_case_right) (defBody t__law_case_right) (defScope t__law_case_right) .none kV52 dc52 pm52 an52 cd52 ct52), sl52⟩) (c52 : PySem.W.codeIn K cd52 "_law_case_right" = true) (k52 : PySem.W.keepIn K (.ref f52) = true)
    (a53 : PySem.W.nsIn K mainGlobals "law" = some (some (.ref f53))) (l53 : K.lookup f53 = some ⟨oc53, od53, .func (PySem.W.fnOf "law" "law" (defArgs t_law) (defBody t_law) (defScope t_law) .none kV53 dc53 pm53 an53 cd53 ct53), sl53⟩) (c53 : PySem.W.codeIn K cd53 "law" = true) (k53 : PySem.W.keepIn K (.ref f53) = true)
    (d1 : K.lookup dT1 = some ⟨.type "tuple", dod1, .seq #[.int 0 dt1_0] dn1, dsl1⟩)
    (z0 : PySem.W.nsIn K mainGlobals "abs" = some none)
    (z1 : PySem.W.nsIn K mainGlobals "all" = some none)
    (z2 : PySem.W.nsIn K mainGlobals "bool" = some none)
    (z3 : PySem.W.nsIn K mainGlobals "enumerate" = some none)
    (z4 : PySem.W.nsIn K mainGlobals "int" = some none)
    (z5 : PySem.W.nsIn K mainGlobals "isinstance" = some none)
    (z6 : PySem.W.nsIn K mainGlobals "len" = some none)
    (z7 : PySem.W.nsIn K mainGlobals "list" = some none)
    (z8 : PySem.W.nsIn K mainGlobals "max" = some none)
    (z9 : PySem.W.nsIn K mainGlobals "min" = some none)
    (z10 : PySem.W.nsIn K mainGlobals "range" = some none)
    (z11 : PySem.W.nsIn K mainGlobals "repr" = some none)
    (z12 : PySem.W.nsIn K mainGlobals "set" = some none)
    (z13 : PySem.W.nsIn K mainGlobals "sorted" = some none)
    (z14 : PySem.W.nsIn K mainGlobals "str" = some none)
    (z15 : PySem.W.nsIn K mainGlobals "sum" = some none)
    (z16 : PySem.W.nsIn K mainGlobals "tuple" = some none)
    (z17 : PySem.W.nsIn K mainGlobals "zip" = some none)
    (y0 : PySem.W.nsIn K mainGlobals "combinations" = some (some (.type "itertools.combinations")))
    (g0 : PySem.W.nsIn K mainGlobals "gcd" = some (some (.builtin "math.gcd"))) : ProgF tb K mg := by
  refine ⟨fun x hx => ?_, fun x hx => ?_, fun x hx => ?_, fun i x d h => ?_, fun f m x ps h1 h2 => ?_⟩
  · skip
    simp only [tb, List.mem_cons, List.not_mem_nil, or_false] at hx
    rcases hx with rfl | rfl | rfl | rfl | rfl | rfl | rfl | rfl | rfl | rfl | rfl | rfl | rfl | rfl | rfl | rfl | rfl | rfl
    · exact PySem.W.mg_none_of X G z0
    · exact PySem.W.mg_none_of X G z1
    · exact PySem.W.mg_none_of X G z2
    · exact PySem.W.mg_none_of X G z3
    · exact PySem.W.mg_none_of X G z4
    · exact PySem.W.mg_none_of X G z5
    · exact PySem.W.mg_none_of X G z6
    · exact PySem.W.mg_none_of X G z7
    · exact PySem.W.mg_none_of X G z8
    · exact PySem.W.mg_none_of X G z9
    · exact PySem.W.mg_none_of X G z10
    · exact PySem.W.mg_none_of X G z11
    · exact PySem.W.mg_none_of X G z12
    · exact PySem.W.mg_none_of X G z13
    · exact PySem.W.mg_none_of X G z14
    · exact PySem.W.mg_none_of X G z15
    · exact PySem.W.mg_none_of X G z16
    · exact PySem.W.mg_none_of X G z17
  · skip
    simp only [tb, List.mem_cons, List.not_mem_nil, or_false] at hx
    rcases hx with rfl
    · exact PySem.W.mg_of X G g0
  · skip
    simp only [tb, List.mem_cons, List.not_mem_nil, or_false] at hx
    rcases hx with rfl
    · exact PySem.W.mg_of X G y0
  · simp [tb] at h
  · match f, h1, h2 with
    | 0, h1, h2 =>
      obtain rfl := Option.some.inj h1
      obtain ⟨rfl, rfl⟩ := Prod.mk.inj (Option.some.inj h2)
      have F := fun_mk (st := t_is_whole) l0 c0 k0
      refine ⟨f0, _, ⟨⟨t_is_whole, n_is_whole, _, toD F, c_is_whole, rfl, rfl, m_is_whole⟩, PySem.W.mg_of X G a0, F.binds fun _ _ _ _ _ _ us hl => match us, hl with | [_], _ => rfl, fun q hq hf => ?_, fun q hq hf => ?_⟩⟩
      · simp only [tb, List.mem_cons, List.not_mem_nil, or_false] at hq
        rcases hq with rfl | rfl | rfl
        · exact absurd hf (by decide)
        · exact absurd hf (by decide)
        · exact absurd hf (by decide)
      · simp only [tb, List.mem_cons, List.not_mem_nil, or_false] at hq
        rcases hq with rfl
        · exact absurd hf (by decide)
    | 1, h1, h2 =>
      obtain rfl := Option.some.inj h1
      obtain ⟨rfl, rfl⟩ := Prod.mk.inj (Option.some.inj h2)
      have F : FunD K "is_count" "is_count" (defArgs t_is_count) (defBody t_is_count) (defScope t_is_count) [V.int 0] [] f1 _ := ⟨⟨_, _, .ref dT1, kV1, dc1, pm1, an1, cd1, ct1, _, rfl, l1, c1, .inr ⟨by simp, dT1, _, [.int 0 dt1_0], _, rfl, d1, rfl, (.cons ⟨_, rfl⟩ .nil)⟩, .inl rfl⟩, k1⟩
      refine ⟨f1, _, ⟨⟨t_is_count, n_is_count, _, F, c_is_count, rfl, rfl, m_is_count⟩, PySem.W.mg_of X G a1, ?_, fun q hq hf => ?_, fun q hq hf => ?_⟩⟩
      · skip
        obtain ⟨ds, r, b⟩ := F.binds1 (ps := [Str.ofString "value", Str.ofString "least"]) 2 1 (by simp) rfl (fun T _ _ _ _ _ _ us its hu hi => by
          obtain ⟨u0, u1, rfl⟩ := len_2 hu
          obtain ⟨i0, rfl⟩ := len_1 hi
          exact ⟨_, rfl, by with_unfolding_all rfl⟩)
        cases r
        exact b
      · simp only [tb, List.mem_cons, List.not_mem_nil, or_false] at hq
        rcases hq with rfl | rfl | rfl
        · exact absurd hf (by decide)
        · exact absurd hf (by decide)
        · exact absurd hf (by decide)
      · simp only [tb, List.mem_cons, List.not_mem_nil, or_false] at hq
        rcases hq with rfl
        · skip
          obtain ⟨ds, r, b⟩ := F.binds1 (ps := [Str.ofString "value", Str.ofString "least"]) 1 0 (by simp) rfl (fun T _ _ _ _ _ _ us its hu hi => by
            obtain ⟨u0, rfl⟩ := len_1 hu
            obtain ⟨i0, rfl⟩ := len_1 hi
            exact ⟨_, rfl, by with_unfolding_all rfl⟩)
          exact ⟨ds, b, r⟩
    | 2, h1, h2 =>
      obtain rfl := Option.some.inj h1
      obtain ⟨rfl, rfl⟩ := Prod.mk.inj (Option.some.inj h2)
      have F := fun_mk (st := t_is_tuple_of) l2 c2 k2
      refine ⟨f2, _, ⟨⟨t_is_tuple_of, n_is_tuple_of, _, toD F, c_is_tuple_of, rfl, rfl, m_is_tuple_of⟩, PySem.W.mg_of X G a2, F.binds fun _ _ _ _ _ _ us hl => match us, hl with | [_, _], _ => rfl, fun q hq hf => ?_, fun q hq hf => ?_⟩⟩
      · simp only [tb, List.mem_cons, List.not_mem_nil, or_false] at hq
        rcases hq with rfl | rfl | rfl
        · exact absurd hf (by decide)
        · exact absurd hf (by decide)
        · exact absurd hf (by decide)
      · simp only [tb, List.mem_cons, List.not_mem_nil, or_false] at hq
        rcases hq with rfl
        · exact absurd hf (by decide)
    | 3, h1, h2 =>
      obtain rfl := Option.some.inj h1
      obtain ⟨rfl, rfl⟩ := Prod.mk.inj (Option.some.inj h2)
      have F := fun_mk (st := t_is_fraction) l3 c3 k3
      refine ⟨f3, _, ⟨⟨t_is_fraction, n_is_fraction, _, toD F, c_is_fraction, rfl, rfl, m_is_fraction⟩, PySem.W.mg_of X G a3, F.binds fun _ _ _ _ _ _ us hl => match us, hl with | [_], _ => rfl, fun q hq hf => ?_, fun q hq hf => ?_⟩⟩
      · simp only [tb, List.mem_cons, List.not_mem_nil, or_false] at hq
        rcases hq with rfl | rfl | rfl
        · exact absurd hf (by decide)
        · exact absurd hf (by decide)
        · exact absurd hf (by decide)
      · simp only [tb, List.mem_cons, List.not_mem_nil, or_false] at hq
        rcases hq with rfl
        · exact absurd hf (by decide)
    | 4, h1, h2 =>
      obtain rfl := Option.some.inj h1
      obtain ⟨rfl, rfl⟩ := Prod.mk.inj (Option.some.inj h2)
      have F := fun_mk (st := t_fraction) l4 c4 k4
      refine ⟨f4, _, ⟨⟨t_fraction, n_fraction, _, toD F, c_fraction, rfl, rfl, m_fraction⟩, PySem.W.mg_of X G a4, F.binds fun _ _ _ _ _ _ us hl => match us, hl with | [_, _], _ => rfl, fun q hq hf => ?_, fun q hq hf => ?_⟩⟩
      · simp only [tb, List.mem_cons, List.not_mem_nil, or_false] at hq
        rcases hq with rfl | rfl | rfl
        · exact absurd hf (by decide)
        · exact absurd hf (by decide)
        · exact absurd hf (by decide)
      · simp only [tb, List.mem_cons, List.not_mem_nil, or_false] at hq
        rcases hq with rfl
        · exact absurd hf (by decide)
    | 5, h1, h2 =>
      obtain rfl := Option.some.inj h1
      obtain ⟨rfl, rfl⟩ := Prod.mk.inj (Option.some.inj h2)
      have F := fun_mk (st := t_plus) l5 c5 k5
      refine ⟨f5, _, ⟨⟨t_plus, n_plus, _, toD F, c_plus, rfl, rfl, m_plus⟩, PySem.W.mg_of X G a5, F.binds fun _ _ _ _ _ _ us hl => match us, hl with | [_, _], _ => rfl, fun q hq hf => ?_, fun q hq hf => ?_⟩⟩
      · simp only [tb, List.mem_cons, List.not_mem_nil, or_false] at hq
        rcases hq with rfl | rfl | rfl
        · exact absurd hf (by decide)
        · exact absurd hf (by decide)
        · exact absurd hf (by decide)
      · simp only [tb, List.mem_cons, List.not_mem_nil, or_false] at hq
        rcases hq with rfl
        · exact absurd hf (by decide)
    | 6, h1, h2 =>
      obtain rfl := Option.some.inj h1
      obtain ⟨rfl, rfl⟩ := Prod.mk.inj (Option.some.inj h2)
      have F := fun_mk (st := t_minus) l6 c6 k6
      refine ⟨f6, _, ⟨⟨t_minus, n_minus, _, toD F, c_minus, rfl, rfl, m_minus⟩, PySem.W.mg_of X G a6, F.binds fun _ _ _ _ _ _ us hl => match us, hl with | [_, _], _ => rfl, fun q hq hf => ?_, fun q hq hf => ?_⟩⟩
      · simp only [tb, List.mem_cons, List.not_mem_nil, or_false] at hq
        rcases hq with rfl | rfl | rfl
        · exact absurd hf (by decide)
        · exact absurd hf (by decide)
        · exact absurd hf (by decide)
      · simp only [tb, List.mem_cons, List.not_mem_nil, or_false] at hq
        rcases hq with rfl
        · exact absurd hf (by decide)
    | 7, h1, h2 =>
      obtain rfl := Option.some.inj h1
      obtain ⟨rfl, rfl⟩ := Prod.mk.inj (Option.some.inj h2)
      have F := fun_mk (st := t_times) l7 c7 k7
      refine ⟨f7, _, ⟨⟨t_times, n_times, _, toD F, c_times, rfl, rfl, m_times⟩, PySem.W.mg_of X G a7, F.binds fun _ _ _ _ _ _ us hl => match us, hl with | [_, _], _ => rfl, fun q hq hf => ?_, fun q hq hf => ?_⟩⟩
      · simp only [tb, List.mem_cons, List.not_mem_nil, or_false] at hq
        rcases hq with rfl | rfl | rfl
        · exact absurd hf (by decide)
        · exact absurd hf (by decide)
        · exact absurd hf (by decide)
      · simp only [tb, List.mem_cons, List.not_mem_nil, or_false] at hq
        rcases hq with rfl
        · exact absurd hf (by decide)
    | 8, h1, h2 =>
      obtain rfl := Option.some.inj h1
      obtain ⟨rfl, rfl⟩ := Prod.mk.inj (Option.some.inj h2)
      have F := fun_mk (st := t_is_less) l8 c8 k8
      refine ⟨f8, _, ⟨⟨t_is_less, n_is_less, _, toD F, c_is_less, rfl, rfl, m_is_less⟩, PySem.W.mg_of X G a8, F.binds fun _ _ _ _ _ _ us hl => match us, hl with | [_, _], _ => rfl, fun q hq hf => ?_, fun q hq hf => ?_⟩⟩
      · simp only [tb, List.mem_cons, List.not_mem_nil, or_false] at hq
        rcases hq with rfl | rfl | rfl
        · exact absurd hf (by decide)
        · exact absurd hf (by decide)
        · exact absurd hf (by decide)
      · simp only [tb, List.mem_cons, List.not_mem_nil, or_false] at hq
        rcases hq with rfl
        · exact absurd hf (by decide)
    | 9, h1, h2 =>
      obtain rfl := Option.some.inj h1
      obtain ⟨rfl, rfl⟩ := Prod.mk.inj (Option.some.inj h2)
      have F := fun_mk (st := t_common_below) l9 c9 k9
      refine ⟨f9, _, ⟨⟨t_common_below, n_common_below, _, toD F, c_common_below, rfl, rfl, m_common_below⟩, PySem.W.mg_of X G a9, F.binds fun _ _ _ _ _ _ us hl => match us, hl with | [_], _ => rfl, fun q hq hf => ?_, fun q hq hf => ?_⟩⟩
      · simp only [tb, List.mem_cons, List.not_mem_nil, or_false] at hq
        rcases hq with rfl | rfl | rfl
        · exact absurd hf (by decide)
        · exact absurd hf (by decide)
        · exact absurd hf (by decide)
      · simp only [tb, List.mem_cons, List.not_mem_nil, or_false] at hq
        rcases hq with rfl
        · exact absurd hf (by decide)
    | 10, h1, h2 =>
      obtain rfl := Option.some.inj h1
      obtain ⟨rfl, rfl⟩ := Prod.mk.inj (Option.some.inj h2)
      have F := fun_mk (st := t_wholes) l10 c10 k10
      refine ⟨f10, _, ⟨⟨t_wholes, n_wholes, _, toD F, c_wholes, rfl, rfl, m_wholes⟩, PySem.W.mg_of X G a10, F.binds fun _ _ _ _ _ _ us hl => match us, hl with | [_], _ => rfl, fun q hq hf => ?_, fun q hq hf => ?_⟩⟩
      · simp only [tb, List.mem_cons, List.not_mem_nil, or_false] at hq
        rcases hq with rfl | rfl | rfl
        · exact absurd hf (by decide)
        · exact absurd hf (by decide)
        · exact absurd hf (by decide)
      · simp only [tb, List.mem_cons, List.not_mem_nil, or_false] at hq
        rcases hq with rfl
        · exact absurd hf (by decide)
    | 11, h1, h2 =>
      obtain rfl := Option.some.inj h1
      obtain ⟨rfl, rfl⟩ := Prod.mk.inj (Option.some.inj h2)
      have F := fun_mk (st := t_is_point) l11 c11 k11
      refine ⟨f11, _, ⟨⟨t_is_point, n_is_point, _, toD F, c_is_point, rfl, rfl, m_is_point⟩, PySem.W.mg_of X G a11, F.binds fun _ _ _ _ _ _ us hl => match us, hl with | [_], _ => rfl, fun q hq hf => ?_, fun q hq hf => ?_⟩⟩
      · simp only [tb, List.mem_cons, List.not_mem_nil, or_false] at hq
        rcases hq with rfl | rfl | rfl
        · exact absurd hf (by decide)
        · exact absurd hf (by decide)
        · exact absurd hf (by decide)
      · simp only [tb, List.mem_cons, List.not_mem_nil, or_false] at hq
        rcases hq with rfl
        · exact absurd hf (by decide)
    | 12, h1, h2 =>
      obtain rfl := Option.some.inj h1
      obtain ⟨rfl, rfl⟩ := Prod.mk.inj (Option.some.inj h2)
      have F := fun_mk (st := t_comes_ahead) l12 c12 k12
      refine ⟨f12, _, ⟨⟨t_comes_ahead, n_comes_ahead, _, toD F, c_comes_ahead, rfl, rfl, m_comes_ahead⟩, PySem.W.mg_of X G a12, F.binds fun _ _ _ _ _ _ us hl => match us, hl with | [_, _], _ => rfl, fun q hq hf => ?_, fun q hq hf => ?_⟩⟩
      · simp only [tb, List.mem_cons, List.not_mem_nil, or_false] at hq
        rcases hq with rfl | rfl | rfl
        · exact absurd hf (by decide)
        · exact absurd hf (by decide)
        · exact absurd hf (by decide)
      · simp only [tb, List.mem_cons, List.not_mem_nil, or_false] at hq
        rcases hq with rfl
        · exact absurd hf (by decide)
    | 13, h1, h2 =>
      obtain rfl := Option.some.inj h1
      obtain ⟨rfl, rfl⟩ := Prod.mk.inj (Option.some.inj h2)
      have F := fun_mk (st := t_are_points) l13 c13 k13
      refine ⟨f13, _, ⟨⟨t_are_points, n_are_points, _, toD F, c_are_points, rfl, rfl, m_are_points⟩, PySem.W.mg_of X G a13, F.binds fun _ _ _ _ _ _ us hl => match us, hl with | [_], _ => rfl, fun q hq hf => ?_, fun q hq hf => ?_⟩⟩
      · simp only [tb, List.mem_cons, List.not_mem_nil, or_false] at hq
        rcases hq with rfl | rfl | rfl
        · exact absurd hf (by decide)
        · exact absurd hf (by decide)
        · exact absurd hf (by decide)
      · simp only [tb, List.mem_cons, List.not_mem_nil, or_false] at hq
        rcases hq with rfl
        · exact absurd hf (by decide)
    | 14, h1, h2 =>
      obtain rfl := Option.some.inj h1
      obtain ⟨rfl, rfl⟩ := Prod.mk.inj (Option.some.inj h2)
      have F := fun_mk (st := t_is_set) l14 c14 k14
      refine ⟨f14, _, ⟨⟨t_is_set, n_is_set, _, toD F, c_is_set, rfl, rfl, m_is_set⟩, PySem.W.mg_of X G a14, F.binds fun _ _ _ _ _ _ us hl => match us, hl with | [_], _ => rfl, fun q hq hf => ?_, fun q hq hf => ?_⟩⟩
      · simp only [tb, List.mem_cons, List.not_mem_nil, or_false] at hq
        rcases hq with rfl | rfl | rfl
        · exact absurd hf (by decide)
        · exact absurd hf (by decide)
        · exact absurd hf (by decide)
      · simp only [tb, List.mem_cons, List.not_mem_nil, or_false] at hq
        rcases hq with rfl
        · exact absurd hf (by decide)
    | 15, h1, h2 =>
      obtain rfl := Option.some.inj h1
      obtain ⟨rfl, rfl⟩ := Prod.mk.inj (Option.some.inj h2)
      have F := fun_mk (st := t_sign_of) l15 c15 k15
      refine ⟨f15, _, ⟨⟨t_sign_of, n_sign_of, _, toD F, c_sign_of, rfl, rfl, m_sign_of⟩, PySem.W.mg_of X G a15, F.binds fun _ _ _ _ _ _ us hl => match us, hl with | [_], _ => rfl, fun q hq hf => ?_, fun q hq hf => ?_⟩⟩
      · simp only [tb, List.mem_cons, List.not_mem_nil, or_false] at hq
        rcases hq with rfl | rfl | rfl
        · exact absurd hf (by decide)
        · exact absurd hf (by decide)
        · exact absurd hf (by decide)
      · simp only [tb, List.mem_cons, List.not_mem_nil, or_false] at hq
        rcases hq with rfl
        · exact absurd hf (by decide)
    | 16, h1, h2 =>
      obtain rfl := Option.some.inj h1
      obtain ⟨rfl, rfl⟩ := Prod.mk.inj (Option.some.inj h2)
      have F := fun_mk (st := t_plain_line) l16 c16 k16
      refine ⟨f16, _, ⟨⟨t_plain_line, n_plain_line, _, toD F, c_plain_line, rfl, rfl, m_plain_line⟩, PySem.W.mg_of X G a16, F.binds fun _ _ _ _ _ _ us hl => match us, hl with | [_, _, _], _ => rfl, fun q hq hf => ?_, fun q hq hf => ?_⟩⟩
      · simp only [tb, List.mem_cons, List.not_mem_nil, or_false] at hq
        rcases hq with rfl | rfl | rfl
        · exact absurd hf (by decide)
        · exact absurd hf (by decide)
        · exact absurd hf (by decide)
      · simp only [tb, List.mem_cons, List.not_mem_nil, or_false] at hq
        rcases hq with rfl
        · exact absurd hf (by decide)
    | 17, h1, h2 =>
      obtain rfl := Option.some.inj h1
      obtain ⟨rfl, rfl⟩ := Prod.mk.inj (Option.some.inj h2)
      have F := fun_mk (st := t_is_line) l17 c17 k17
      refine ⟨f17, _, ⟨⟨t_is_line, n_is_line, _, toD F, c_is_line, rfl, rfl, m_is_line⟩, PySem.W.mg_of X G a17, F.binds fun _ _ _ _ _ _ us hl => match us, hl with | [_], _ => rfl, fun q hq hf => ?_, fun q hq hf => ?_⟩⟩
      · simp only [tb, List.mem_cons, List.not_mem_nil, or_false] at hq
        rcases hq with rfl | rfl | rfl
        · exact absurd hf (by decide)
        · exact absurd hf (by decide)
        · exact absurd hf (by decide)
      · simp only [tb, List.mem_cons, List.not_mem_nil, or_false] at hq
        rcases hq with rfl
        · exact absurd hf (by decide)
    | 18, h1, h2 =>
      obtain rfl := Option.some.inj h1
      obtain ⟨rfl, rfl⟩ := Prod.mk.inj (Option.some.inj h2)
      have F := fun_mk (st := t_check_line) l18 c18 k18
      refine ⟨f18, _, ⟨⟨t_check_line, n_check_line, _, toD F, c_check_line, rfl, rfl, m_check_line⟩, PySem.W.mg_of X G a18, F.binds fun _ _ _ _ _ _ us hl => match us, hl with | [_], _ => rfl, fun q hq hf => ?_, fun q hq hf => ?_⟩⟩
      · simp only [tb, List.mem_cons, List.not_mem_nil, or_false] at hq
        rcases hq with rfl | rfl | rfl
        · exact absurd hf (by decide)
        · exact absurd hf (by decide)
        · exact absurd hf (by decide)
      · simp only [tb, List.mem_cons, List.not_mem_nil, or_false] at hq
        rcases hq with rfl
        · exact absurd hf (by decide)
    | 19, h1, h2 =>
      obtain rfl := Option.some.inj h1
      obtain ⟨rfl, rfl⟩ := Prod.mk.inj (Option.some.inj h2)
      have F := fun_mk (st := t_through_there) l19 c19 k19
      refine ⟨f19, _, ⟨⟨t_through_there, n_through_there, _, toD F, c_through_there, rfl, rfl, m_through_there⟩, PySem.W.mg_of X G a19, F.binds fun _ _ _ _ _ _ us hl => match us, hl with | [_, _], _ => rfl, fun q hq hf => ?_, fun q hq hf => ?_⟩⟩
      · simp only [tb, List.mem_cons, List.not_mem_nil, or_false] at hq
        rcases hq with rfl | rfl | rfl
        · exact absurd hf (by decide)
        · exact absurd hf (by decide)
        · exact absurd hf (by decide)
      · simp only [tb, List.mem_cons, List.not_mem_nil, or_false] at hq
        rcases hq with rfl
        · exact absurd hf (by decide)
    | 20, h1, h2 =>
      obtain rfl := Option.some.inj h1
      obtain ⟨rfl, rfl⟩ := Prod.mk.inj (Option.some.inj h2)
      have F := fun_mk (st := t_above_by) l20 c20 k20
      refine ⟨f20, _, ⟨⟨t_above_by, n_above_by, _, toD F, c_above_by, rfl, rfl, m_above_by⟩, PySem.W.mg_of X G a20, F.binds fun _ _ _ _ _ _ us hl => match us, hl with | [_, _], _ => rfl, fun q hq hf => ?_, fun q hq hf => ?_⟩⟩
      · simp only [tb, List.mem_cons, List.not_mem_nil, or_false] at hq
        rcases hq with rfl | rfl | rfl
        · exact absurd hf (by decide)
        · exact absurd hf (by decide)
        · exact absurd hf (by decide)
      · simp only [tb, List.mem_cons, List.not_mem_nil, or_false] at hq
        rcases hq with rfl
        · exact absurd hf (by decide)
    | 21, h1, h2 =>
      obtain rfl := Option.some.inj h1
      obtain ⟨rfl, rfl⟩ := Prod.mk.inj (Option.some.inj h2)
      have F := fun_mk (st := t_side_there) l21 c21 k21
      refine ⟨f21, _, ⟨⟨t_side_there, n_side_there, _, toD F, c_side_there, rfl, rfl, m_side_there⟩, PySem.W.mg_of X G a21, F.binds fun _ _ _ _ _ _ us hl => match us, hl with | [_, _], _ => rfl, fun q hq hf => ?_, fun q hq hf => ?_⟩⟩
      · simp only [tb, List.mem_cons, List.not_mem_nil, or_false] at hq
        rcases hq with rfl | rfl | rfl
        · exact absurd hf (by decide)
        · exact absurd hf (by decide)
        · exact absurd hf (by decide)
      · simp only [tb, List.mem_cons, List.not_mem_nil, or_false] at hq
        rcases hq with rfl
        · exact absurd hf (by decide)
    | 22, h1, h2 =>
      obtain rfl := Option.some.inj h1
      obtain ⟨rfl, rfl⟩ := Prod.mk.inj (Option.some.inj h2)
      have F := fun_mk (st := t_check_set) l22 c22 k22
      refine ⟨f22, _, ⟨⟨t_check_set, n_check_set, _, toD F, c_check_set, rfl, rfl, m_check_set⟩, PySem.W.mg_of X G a22, F.binds fun _ _ _ _ _ _ us hl => match us, hl with | [_], _ => rfl, fun q hq hf => ?_, fun q hq hf => ?_⟩⟩
      · simp only [tb, List.mem_cons, List.not_mem_nil, or_false] at hq
        rcases hq with rfl | rfl | rfl
        · exact absurd hf (by decide)
        · exact absurd hf (by decide)
        · exact absurd hf (by decide)
      · simp only [tb, List.mem_cons, List.not_mem_nil, or_false] at hq
        rcases hq with rfl
        · exact absurd hf (by decide)
    | 23, h1, h2 =>
      obtain rfl := Option.some.inj h1
      obtain ⟨rfl, rfl⟩ := Prod.mk.inj (Option.some.inj h2)
      have F := fun_mk (st := t_are_weights) l23 c23 k23
      refine ⟨f23, _, ⟨⟨t_are_weights, n_are_weights, _, toD F, c_are_weights, rfl, rfl, m_are_weights⟩, PySem.W.mg_of X G a23, F.binds fun _ _ _ _ _ _ us hl => match us, hl with | [_, _], _ => rfl, fun q hq hf => ?_, fun q hq hf => ?_⟩⟩
      · simp only [tb, List.mem_cons, List.not_mem_nil, or_false] at hq
        rcases hq with rfl | rfl | rfl
        · exact absurd hf (by decide)
        · exact absurd hf (by decide)
        · exact absurd hf (by decide)
      · simp only [tb, List.mem_cons, List.not_mem_nil, or_false] at hq
        rcases hq with rfl
        · exact absurd hf (by decide)
    | 24, h1, h2 =>
      obtain rfl := Option.some.inj h1
      obtain ⟨rfl, rfl⟩ := Prod.mk.inj (Option.some.inj h2)
      have F := fun_mk (st := t_check_weighted) l24 c24 k24
      refine ⟨f24, _, ⟨⟨t_check_weighted, n_check_weighted, _, toD F, c_check_weighted, rfl, rfl, m_check_weighted⟩, PySem.W.mg_of X G a24, F.binds fun _ _ _ _ _ _ us hl => match us, hl with | [_, _], _ => rfl, fun q hq hf => ?_, fun q hq hf => ?_⟩⟩
      · simp only [tb, List.mem_cons, List.not_mem_nil, or_false] at hq
        rcases hq with rfl | rfl | rfl
        · exact absurd hf (by decide)
        · exact absurd hf (by decide)
        · exact absurd hf (by decide)
      · simp only [tb, List.mem_cons, List.not_mem_nil, or_false] at hq
        rcases hq with rfl
        · exact absurd hf (by decide)
    | 25, h1, h2 =>
      obtain rfl := Option.some.inj h1
      obtain ⟨rfl, rfl⟩ := Prod.mk.inj (Option.some.inj h2)
      have F := fun_mk (st := t_side_weights_there) l25 c25 k25
      refine ⟨f25, _, ⟨⟨t_side_weights_there, n_side_weights_there, _, toD F, c_side_weights_there, rfl, rfl, m_side_weights_there⟩, PySem.W.mg_of X G a25, F.binds fun _ _ _ _ _ _ us hl => match us, hl with | [_, _, _], _ => rfl, fun q hq hf => ?_, fun q hq hf => ?_⟩⟩
      · simp only [tb, List.mem_cons, List.not_mem_nil, or_false] at hq
        rcases hq with rfl | rfl | rfl
        · exact absurd hf (by decide)
        · exact absurd hf (by decide)
        · exact absurd hf (by decide)
      · simp only [tb, List.mem_cons, List.not_mem_nil, or_false] at hq
        rcases hq with rfl
        · exact absurd hf (by decide)
    | 26, h1, h2 =>
      obtain rfl := Option.some.inj h1
      obtain ⟨rfl, rfl⟩ := Prod.mk.inj (Option.some.inj h2)
      have F := fun_mk (st := t_halves_there) l26 c26 k26
      refine ⟨f26, _, ⟨⟨t_halves_there, n_halves_there, _, toD F, c_halves_there, rfl, rfl, m_halves_there⟩, PySem.W.mg_of X G a26, F.binds fun _ _ _ _ _ _ us hl => match us, hl with | [_, _, _], _ => rfl, fun q hq hf => ?_, fun q hq hf => ?_⟩⟩
      · simp only [tb, List.mem_cons, List.not_mem_nil, or_false] at hq
        rcases hq with rfl | rfl | rfl
        · exact absurd hf (by decide)
        · exact absurd hf (by decide)
        · exact absurd hf (by decide)
      · simp only [tb, List.mem_cons, List.not_mem_nil, or_false] at hq
        rcases hq with rfl
        · exact absurd hf (by decide)
    | 27, h1, h2 =>
      obtain rfl := Option.some.inj h1
      obtain ⟨rfl, rfl⟩ := Prod.mk.inj (Option.some.inj h2)
      have F := fun_mk (st := t_lines_of) l27 c27 k27
      refine ⟨f27, _, ⟨⟨t_lines_of, n_lines_of, _, toD F, c_lines_of, rfl, rfl, m_lines_of⟩, PySem.W.mg_of X G a27, F.binds fun _ _ _ _ _ _ us hl => match us, hl with | [_], _ => rfl, fun q hq hf => ?_, fun q hq hf => ?_⟩⟩
      · simp only [tb, List.mem_cons, List.not_mem_nil, or_false] at hq
        rcases hq with rfl | rfl | rfl
        · exact absurd hf (by decide)
        · exact absurd hf (by decide)
        · exact absurd hf (by decide)
      · simp only [tb, List.mem_cons, List.not_mem_nil, or_false] at hq
        rcases hq with rfl
        · exact absurd hf (by decide)
    | 28, h1, h2 =>
      obtain rfl := Option.some.inj h1
      obtain ⟨rfl, rfl⟩ := Prod.mk.inj (Option.some.inj h2)
      have F := fun_mk (st := t_side_weights) l28 c28 k28
      refine ⟨f28, _, ⟨⟨t_side_weights, n_side_weights, _, toD F, c_side_weights, rfl, rfl, m_side_weights⟩, PySem.W.mg_of X G a28, F.binds fun _ _ _ _ _ _ us hl => match us, hl with | [_, _, _], _ => rfl, fun q hq hf => ?_, fun q hq hf => ?_⟩⟩
      · simp only [tb, List.mem_cons, List.not_mem_nil, or_false] at hq
        rcases hq with rfl | rfl | rfl
        · exact absurd hf (by decide)
        · refine ⟨fun s us ws all e1 e2 e3 => ?_⟩
          obtain rfl := len_0 e1
          obtain ⟨w0, w1, w2, rfl⟩ := len_3 e2
          obtain rfl := pick_all (l := [w2, w1, w0]) e3
          exact .of_eq rfl
        · exact absurd hf (by decide)
      · simp only [tb, List.mem_cons, List.not_mem_nil, or_false] at hq
        rcases hq with rfl
        · exact absurd hf (by decide)
    | 29, h1, h2 =>
      obtain rfl := Option.some.inj h1
      obtain ⟨rfl, rfl⟩ := Prod.mk.inj (Option.some.inj h2)
      have F := fun_mk (st := t_does_halve) l29 c29 k29
      refine ⟨f29, _, ⟨⟨t_does_halve, n_does_halve, _, toD F, c_does_halve, rfl, rfl, m_does_halve⟩, PySem.W.mg_of X G a29, F.binds fun _ _ _ _ _ _ us hl => match us, hl with | [_, _, _], _ => rfl, fun q hq hf => ?_, fun q hq hf => ?_⟩⟩
      · simp only [tb, List.mem_cons, List.not_mem_nil, or_false] at hq
        rcases hq with rfl | rfl | rfl
        · exact absurd hf (by decide)
        · exact absurd hf (by decide)
        · refine ⟨fun s us ws all e1 e2 e3 => ?_⟩
          obtain rfl := len_0 e1
          obtain ⟨w0, w1, w2, rfl⟩ := len_3 e2
          obtain rfl := pick_all (l := [w2, w1, w0]) e3
          exact .of_eq rfl
      · simp only [tb, List.mem_cons, List.not_mem_nil, or_false] at hq
        rcases hq with rfl
        · exact absurd hf (by decide)
    | 30, h1, h2 =>
      obtain rfl := Option.some.inj h1
      obtain ⟨rfl, rfl⟩ := Prod.mk.inj (Option.some.inj h2)
      have F := fun_mk (st := t_halving_lines) l30 c30 k30
      refine ⟨f30, _, ⟨⟨t_halving_lines, n_halving_lines, _, toD F, c_halving_lines, rfl, rfl, m_halving_lines⟩, PySem.W.mg_of X G a30, F.binds fun _ _ _ _ _ _ us hl => match us, hl with | [_, _], _ => rfl, fun q hq hf => ?_, fun q hq hf => ?_⟩⟩
      · simp only [tb, List.mem_cons, List.not_mem_nil, or_false] at hq
        rcases hq with rfl | rfl | rfl
        · refine ⟨fun s us ws all e1 e2 e3 => ?_⟩
          obtain rfl := len_0 e1
          obtain ⟨w0, w1, rfl⟩ := len_2 e2
          obtain rfl := pick_all (l := [w1, w0]) e3
          exact .of_eq rfl
        · exact absurd hf (by decide)
        · exact absurd hf (by decide)
      · simp only [tb, List.mem_cons, List.not_mem_nil, or_false] at hq
        rcases hq with rfl
        · exact absurd hf (by decide)
    | 31, h1, h2 =>
      obtain rfl := Option.some.inj h1
      obtain ⟨rfl, rfl⟩ := Prod.mk.inj (Option.some.inj h2)
      have F := fun_mk (st := t__law_purse) l31 c31 k31
      refine ⟨f31, _, ⟨⟨t__law_purse, n__law_purse, _, toD F, c__law_purse, rfl, rfl, m__law_purse⟩, PySem.W.mg_of X G a31, F.binds fun _ _ _ _ _ _ us hl => match us, hl with | [_, _], _ => rfl, fun q hq hf => ?_, fun q hq hf => ?_⟩⟩
      · simp only [tb, List.mem_cons, List.not_mem_nil, or_false] at hq
        rcases hq with rfl | rfl | rfl
        · exact absurd hf (by decide)
        · exact absurd hf (by decide)
        · exact absurd hf (by decide)
      · simp only [tb, List.mem_cons, List.not_mem_nil, or_false] at hq
        rcases hq with rfl
        · exact absurd hf (by decide)
    | 32, h1, h2 =>
      obtain rfl := Option.some.inj h1
      obtain ⟨rfl, rfl⟩ := Prod.mk.inj (Option.some.inj h2)
      have F := fun_mk (st := t__law_mixed) l32 c32 k32
      refine ⟨f32, _, ⟨⟨t__law_mixed, n__law_mixed, _, toD F, c__law_mixed, rfl, rfl, m__law_mixed⟩, PySem.W.mg_of X G a32, F.binds fun _ _ _ _ _ _ us hl => match us, hl with | [_, _, _], _ => rfl, fun q hq hf => ?_, fun q hq hf => ?_⟩⟩
      · simp only [tb, List.mem_cons, List.not_mem_nil, or_false] at hq
        rcases hq with rfl | rfl | rfl
        · exact absurd hf (by decide)
        · exact absurd hf (by decide)
        · exact absurd hf (by decide)
      · simp only [tb, List.mem_cons, List.not_mem_nil, or_false] at hq
        rcases hq with rfl
        · exact absurd hf (by decide)
    | 33, h1, h2 =>
      obtain rfl := Option.some.inj h1
      obtain ⟨rfl, rfl⟩ := Prod.mk.inj (Option.some.inj h2)
      have F := fun_mk (st := t__law_draw) l33 c33 k33
      refine ⟨f33, _, ⟨⟨t__law_draw, n__law_draw, _, toD F, c__law_draw, rfl, rfl, m__law_draw⟩, PySem.W.mg_of X G a33, F.binds fun _ _ _ _ _ _ us hl => match us, hl with | [_, _], _ => rfl, fun q hq hf => ?_, fun q hq hf => ?_⟩⟩
      · simp only [tb, List.mem_cons, List.not_mem_nil, or_false] at hq
        rcases hq with rfl | rfl | rfl
        · exact absurd hf (by decide)
        · exact absurd hf (by decide)
        · exact absurd hf (by decide)
      · simp only [tb, List.mem_cons, List.not_mem_nil, or_false] at hq
        rcases hq with rfl
        · exact absurd hf (by decide)
    | 34, h1, h2 =>
      obtain rfl := Option.some.inj h1
      obtain ⟨rfl, rfl⟩ := Prod.mk.inj (Option.some.inj h2)
      have F := fun_mk (st := t__law_purses) l34 c34 k34
      refine ⟨f34, _, ⟨⟨t__law_purses, n__law_purses, _, toD F, c__law_purses, rfl, rfl, m__law_purses⟩, PySem.W.mg_of X G a34, F.binds fun _ _ _ _ _ _ us hl => match us, hl with | [_, _], _ => rfl, fun q hq hf => ?_, fun q hq hf => ?_⟩⟩
      · simp only [tb, List.mem_cons, List.not_mem_nil, or_false] at hq
        rcases hq with rfl | rfl | rfl
        · exact absurd hf (by decide)
        · exact absurd hf (by decide)
        · exact absurd hf (by decide)
      · simp only [tb, List.mem_cons, List.not_mem_nil, or_false] at hq
        rcases hq with rfl
        · exact absurd hf (by decide)
    | 35, h1, h2 =>
      obtain rfl := Option.some.inj h1
      obtain ⟨rfl, rfl⟩ := Prod.mk.inj (Option.some.inj h2)
      have F := fun_mk (st := t__law_one_of) l35 c35 k35
      refine ⟨f35, _, ⟨⟨t__law_one_of, n__law_one_of, _, toD F, c__law_one_of, rfl, rfl, m__law_one_of⟩, PySem.W.mg_of X G a35, F.binds fun _ _ _ _ _ _ us hl => match us, hl with | [_, _], _ => rfl, fun q hq hf => ?_, fun q hq hf => ?_⟩⟩
      · simp only [tb, List.mem_cons, List.not_mem_nil, or_false] at hq
        rcases hq with rfl | rfl | rfl
        · exact absurd hf (by decide)
        · exact absurd hf (by decide)
        · exact absurd hf (by decide)
      · simp only [tb, List.mem_cons, List.not_mem_nil, or_false] at hq
        rcases hq with rfl
        · exact absurd hf (by decide)
    | 36, h1, h2 =>
      obtain rfl := Option.some.inj h1
      obtain ⟨rfl, rfl⟩ := Prod.mk.inj (Option.some.inj h2)
      have F := fun_mk (st := t__law_shuffled) l36 c36 k36
      refine ⟨f36, _, ⟨⟨t__law_shuffled, n__law_shuffled, _, toD F, c__law_shuffled, rfl, rfl, m__law_shuffled⟩, PySem.W.mg_of X G a36, F.binds fun _ _ _ _ _ _ us hl => match us, hl with | [_, _], _ => rfl, fun q hq hf => ?_, fun q hq hf => ?_⟩⟩
      · simp only [tb, List.mem_cons, List.not_mem_nil, or_false] at hq
        rcases hq with rfl | rfl | rfl
        · exact absurd hf (by decide)
        · exact absurd hf (by decide)
        · exact absurd hf (by decide)
      · simp only [tb, List.mem_cons, List.not_mem_nil, or_false] at hq
        rcases hq with rfl
        · exact absurd hf (by decide)
    | 37, h1, h2 =>
      obtain rfl := Option.some.inj h1
      obtain ⟨rfl, rfl⟩ := Prod.mk.inj (Option.some.inj h2)
      have F := fun_mk (st := t__law_exact) l37 c37 k37
      refine ⟨f37, _, ⟨⟨t__law_exact, n__law_exact, _, toD F, c__law_exact, rfl, rfl, m__law_exact⟩, PySem.W.mg_of X G a37, F.binds fun _ _ _ _ _ _ us hl => match us, hl with | [_, _], _ => rfl, fun q hq hf => ?_, fun q hq hf => ?_⟩⟩
      · simp only [tb, List.mem_cons, List.not_mem_nil, or_false] at hq
        rcases hq with rfl | rfl | rfl
        · exact absurd hf (by decide)
        · exact absurd hf (by decide)
        · exact absurd hf (by decide)
      · simp only [tb, List.mem_cons, List.not_mem_nil, or_false] at hq
        rcases hq with rfl
        · exact absurd hf (by decide)
    | 38, h1, h2 =>
      obtain rfl := Option.some.inj h1
      obtain ⟨rfl, rfl⟩ := Prod.mk.inj (Option.some.inj h2)
      have F := fun_mk (st := t__law_point) l38 c38 k38
      refine ⟨f38, _, ⟨⟨t__law_point, n__law_point, _, toD F, c__law_point, rfl, rfl, m__law_point⟩, PySem.W.mg_of X G a38, F.binds fun _ _ _ _ _ _ us hl => match us, hl with | [_, _], _ => rfl, fun q hq hf => ?_, fun q hq hf => ?_⟩⟩
      · simp only [tb, List.mem_cons, List.not_mem_nil, or_false] at hq
        rcases hq with rfl | rfl | rfl
        · exact absurd hf (by decide)
        · exact absurd hf (by decide)
        · exact absurd hf (by decide)
      · simp only [tb, List.mem_cons, List.not_mem_nil, or_false] at hq
        rcases hq with rfl
        · exact absurd hf (by decide)
    | 39, h1, h2 =>
      obtain rfl := Option.some.inj h1
      obtain ⟨rfl, rfl⟩ := Prod.mk.inj (Option.some.inj h2)
      have F := fun_mk (st := t__law_low) l39 c39 k39
      refine ⟨f39, _, ⟨⟨t__law_low, n__law_low, _, toD F, c__law_low, rfl, rfl, m__law_low⟩, PySem.W.mg_of X G a39, F.binds fun _ _ _ _ _ _ us hl => match us, hl with | [_, _], _ => rfl, fun q hq hf => ?_, fun q hq hf => ?_⟩⟩
      · simp only [tb, List.mem_cons, List.not_mem_nil, or_false] at hq
        rcases hq with rfl | rfl | rfl
        · exact absurd hf (by decide)
        · exact absurd hf (by decide)
        · exact absurd hf (by decide)
      · simp only [tb, List.mem_cons, List.not_mem_nil, or_false] at hq
        rcases hq with rfl
        · exact absurd hf (by decide)
    | 40, h1, h2 =>
      obtain rfl := Option.some.inj h1
      obtain ⟨rfl, rfl⟩ := Prod.mk.inj (Option.some.inj h2)
      have F := fun_mk (st := t__law_plus) l40 c40 k40
      refine ⟨f40, _, ⟨⟨t__law_plus, n__law_plus, _, toD F, c__law_plus, rfl, rfl, m__law_plus⟩, PySem.W.mg_of X G a40, F.binds fun _ _ _ _ _ _ us hl => match us, hl with | [_, _], _ => rfl, fun q hq hf => ?_, fun q hq hf => ?_⟩⟩
      · simp only [tb, List.mem_cons, List.not_mem_nil, or_false] at hq
        rcases hq with rfl | rfl | rfl
        · exact absurd hf (by decide)
        · exact absurd hf (by decide)
        · exact absurd hf (by decide)
      · simp only [tb, List.mem_cons, List.not_mem_nil, or_false] at hq
        rcases hq with rfl
        · exact absurd hf (by decide)
    | 41, h1, h2 =>
      obtain rfl := Option.some.inj h1
      obtain ⟨rfl, rfl⟩ := Prod.mk.inj (Option.some.inj h2)
      have F := fun_mk (st := t__law_minus) l41 c41 k41
      refine ⟨f41, _, ⟨⟨t__law_minus, n__law_minus, _, toD F, c__law_minus, rfl, rfl, m__law_minus⟩, PySem.W.mg_of X G a41, F.binds fun _ _ _ _ _ _ us hl => match us, hl with | [_, _], _ => rfl, fun q hq hf => ?_, fun q hq hf => ?_⟩⟩
      · simp only [tb, List.mem_cons, List.not_mem_nil, or_false] at hq
        rcases hq with rfl | rfl | rfl
        · exact absurd hf (by decide)
        · exact absurd hf (by decide)
        · exact absurd hf (by decide)
      · simp only [tb, List.mem_cons, List.not_mem_nil, or_false] at hq
        rcases hq with rfl
        · exact absurd hf (by decide)
    | 42, h1, h2 =>
      obtain rfl := Option.some.inj h1
      obtain ⟨rfl, rfl⟩ := Prod.mk.inj (Option.some.inj h2)
      have F := fun_mk (st := t__law_times) l42 c42 k42
      refine ⟨f42, _, ⟨⟨t__law_times, n__law_times, _, toD F, c__law_times, rfl, rfl, m__law_times⟩, PySem.W.mg_of X G a42, F.binds fun _ _ _ _ _ _ us hl => match us, hl with | [_, _], _ => rfl, fun q hq hf => ?_, fun q hq hf => ?_⟩⟩
      · simp only [tb, List.mem_cons, List.not_mem_nil, or_false] at hq
        rcases hq with rfl | rfl | rfl
        · exact absurd hf (by decide)
        · exact absurd hf (by decide)
        · exact absurd hf (by decide)
      · simp only [tb, List.mem_cons, List.not_mem_nil, or_false] at hq
        rcases hq with rfl
        · exact absurd hf (by decide)
    | 43, h1, h2 =>
      obtain rfl := Option.some.inj h1
      obtain ⟨rfl, rfl⟩ := Prod.mk.inj (Option.some.inj h2)
      have F := fun_mk (st := t__law_less) l43 c43 k43
      refine ⟨f43, _, ⟨⟨t__law_less, n__law_less, _, toD F, c__law_less, rfl, rfl, m__law_less⟩, PySem.W.mg_of X G a43, F.binds fun _ _ _ _ _ _ us hl => match us, hl with | [_, _], _ => rfl, fun q hq hf => ?_, fun q hq hf => ?_⟩⟩
      · simp only [tb, List.mem_cons, List.not_mem_nil, or_false] at hq
        rcases hq with rfl | rfl | rfl
        · exact absurd hf (by decide)
        · exact absurd hf (by decide)
        · exact absurd hf (by decide)
      · simp only [tb, List.mem_cons, List.not_mem_nil, or_false] at hq
        rcases hq with rfl
        · exact absurd hf (by decide)
    | 44, h1, h2 =>
      obtain rfl := Option.some.inj h1
      obtain ⟨rfl, rfl⟩ := Prod.mk.inj (Option.some.inj h2)
      have F := fun_mk (st := t__law_ahead) l44 c44 k44
      refine ⟨f44, _, ⟨⟨t__law_ahead, n__law_ahead, _, toD F, c__law_ahead, rfl, rfl, m__law_ahead⟩, PySem.W.mg_of X G a44, F.binds fun _ _ _ _ _ _ us hl => match us, hl with | [_, _], _ => rfl, fun q hq hf => ?_, fun q hq hf => ?_⟩⟩
      · simp only [tb, List.mem_cons, List.not_mem_nil, or_false] at hq
        rcases hq with rfl | rfl | rfl
        · exact absurd hf (by decide)
        · exact absurd hf (by decide)
        · exact absurd hf (by decide)
      · simp only [tb, List.mem_cons, List.not_mem_nil, or_false] at hq
        rcases hq with rfl
        · exact absurd hf (by decide)
    | 45, h1, h2 =>
      obtain rfl := Option.some.inj h1
      obtain ⟨rfl, rfl⟩ := Prod.mk.inj (Option.some.inj h2)
      have F := fun_mk (st := t__law_set) l45 c45 k45
      refine ⟨f45, _, ⟨⟨t__law_set, n__law_set, _, toD F, c__law_set, rfl, rfl, m__law_set⟩, PySem.W.mg_of X G a45, F.binds fun _ _ _ _ _ _ us hl => match us, hl with | [_], _ => rfl, fun q hq hf => ?_, fun q hq hf => ?_⟩⟩
      · simp only [tb, List.mem_cons, List.not_mem_nil, or_false] at hq
        rcases hq with rfl | rfl | rfl
        · exact absurd hf (by decide)
        · exact absurd hf (by decide)
        · exact absurd hf (by decide)
      · simp only [tb, List.mem_cons, List.not_mem_nil, or_false] at hq
        rcases hq with rfl
        · exact absurd hf (by decide)
    | 46, h1, h2 =>
      obtain rfl := Option.some.inj h1
      obtain ⟨rfl, rfl⟩ := Prod.mk.inj (Option.some.inj h2)
      have F := fun_mk (st := t__law_points) l46 c46 k46
      refine ⟨f46, _, ⟨⟨t__law_points, n__law_points, _, toD F, c__law_points, rfl, rfl, m__law_points⟩, PySem.W.mg_of X G a46, F.binds fun _ _ _ _ _ _ us hl => match us, hl with | [_, _, _], _ => rfl, fun q hq hf => ?_, fun q hq hf => ?_⟩⟩
      · simp only [tb, List.mem_cons, List.not_mem_nil, or_false] at hq
        rcases hq with rfl | rfl | rfl
        · exact absurd hf (by decide)
        · exact absurd hf (by decide)
        · exact absurd hf (by decide)
      · simp only [tb, List.mem_cons, List.not_mem_nil, or_false] at hq
        rcases hq with rfl
        · exact absurd hf (by decide)
    | 47, h1, h2 =>
      obtain rfl := Option.some.inj h1
      obtain ⟨rfl, rfl⟩ := Prod.mk.inj (Option.some.inj h2)
      have F := fun_mk (st := t__law_weights) l47 c47 k47
      refine ⟨f47, _, ⟨⟨t__law_weights, n__law_weights, _, toD F, c__law_weights, rfl, rfl, m__law_weights⟩, PySem.W.mg_of X G a47, F.binds fun _ _ _ _ _ _ us hl => match us, hl with | [_, _], _ => rfl, fun q hq hf => ?_, fun q hq hf => ?_⟩⟩
      · simp only [tb, List.mem_cons, List.not_mem_nil, or_false] at hq
        rcases hq with rfl | rfl | rfl
        · exact absurd hf (by decide)
        · exact absurd hf (by decide)
        · exact absurd hf (by decide)
      · simp only [tb, List.mem_cons, List.not_mem_nil, or_false] at hq
        rcases hq with rfl
        · exact absurd hf (by decide)
    | 48, h1, h2 =>
      obtain rfl := Option.some.inj h1
      obtain ⟨rfl, rfl⟩ := Prod.mk.inj (Option.some.inj h2)
      have F := fun_mk (st := t__law_line) l48 c48 k48
      refine ⟨f48, _, ⟨⟨t__law_line, n__law_line, _, toD F, c__law_line, rfl, rfl, m__law_line⟩, PySem.W.mg_of X G a48, F.binds fun _ _ _ _ _ _ us hl => match us, hl with | [_, _], _ => rfl, fun q hq hf => ?_, fun q hq hf => ?_⟩⟩
      · simp only [tb, List.mem_cons, List.not_mem_nil, or_false] at hq
        rcases hq with rfl | rfl | rfl
        · exact absurd hf (by decide)
        · exact absurd hf (by decide)
        · exact absurd hf (by decide)
      · simp only [tb, List.mem_cons, List.not_mem_nil, or_false] at hq
        rcases hq with rfl
        · exact absurd hf (by decide)
    | 49, h1, h2 =>
      obtain rfl := Option.some.inj h1
      obtain ⟨rfl, rfl⟩ := Prod.mk.inj (Option.some.inj h2)
      have F := fun_mk (st := t__law_above) l49 c49 k49
      refine ⟨f49, _, ⟨⟨t__law_above, n__law_above, _, toD F, c__law_above, rfl, rfl, m__law_above⟩, PySem.W.mg_of X G a49, F.binds fun _ _ _ _ _ _ us hl => match us, hl with | [_, _], _ => rfl, fun q hq hf => ?_, fun q hq hf => ?_⟩⟩
      · simp only [tb, List.mem_cons, List.not_mem_nil, or_false] at hq
        rcases hq with rfl | rfl | rfl
        · exact absurd hf (by decide)
        · exact absurd hf (by decide)
        · exact absurd hf (by decide)
      · simp only [tb, List.mem_cons, List.not_mem_nil, or_false] at hq
        rcases hq with rfl
        · exact absurd hf (by decide)
    | 50, h1, h2 =>
      obtain rfl := Option.some.inj h1
      obtain ⟨rfl, rfl⟩ := Prod.mk.inj (Option.some.inj h2)
      have F := fun_mk (st := t__law_halves) l50 c50 k50
      refine ⟨f50, _, ⟨⟨t__law_halves, n__law_halves, _, toD F, c__law_halves, rfl, rfl, m__law_halves⟩, PySem.W.mg_of X G a50, F.binds fun _ _ _ _ _ _ us hl => match us, hl with | [_, _, _], _ => rfl, fun q hq hf => ?_, fun q hq hf => ?_⟩⟩
      · simp only [tb, List.mem_cons, List.not_mem_nil, or_false] at hq
        rcases hq with rfl | rfl | rfl
        · exact absurd hf (by decide)
        · exact absurd hf (by decide)
        · exact absurd hf (by decide)
      · simp only [tb, List.mem_cons, List.not_mem_nil, or_false] at hq
        rcases hq with rfl
        · exact absurd hf (by decide)
    | 51, h1, h2 =>
      obtain rfl := Option.some.inj h1
      obtain ⟨rfl, rfl⟩ := Prod.mk.inj (Option.some.inj h2)
      have F := fun_mk (st := t__law_some_lines) l51 c51 k51
      refine ⟨f51, _, ⟨⟨t__law_some_lines, n__law_some_lines, _, toD F, c__law_some_lines, rfl, rfl, m__law_some_lines⟩, PySem.W.mg_of X G a51, F.binds fun _ _ _ _ _ _ us hl => match us, hl with | [_, _], _ => rfl, fun q hq hf => ?_, fun q hq hf => ?_⟩⟩
      · simp only [tb, List.mem_cons, List.not_mem_nil, or_false] at hq
        rcases hq with rfl | rfl | rfl
        · exact absurd hf (by decide)
        · exact absurd hf (by decide)
        · exact absurd hf (by decide)
      · simp only [tb, List.mem_cons, List.not_mem_nil, or_false] at hq
        rcases hq with rfl
        · exact absurd hf (by decide)
    | 52, h1, h2 =>
      obtain rfl := Option.some.inj h1
      obtain ⟨rfl, rfl⟩ := Prod.mk.inj (Option.some.inj h2)
      have F := fun_mk (st := t__law_case_right) l52 c52 k52
      refine ⟨f52, _, ⟨⟨t__law_case_right, n__law_case_right, _, toD F, c__law_case_right, rfl, rfl, m__law_case_right⟩, PySem.W.mg_of X G a52, F.binds fun _ _ _ _ _ _ us hl => match us, hl with | [_], _ => rfl, fun q hq hf => ?_, fun q hq hf => ?_⟩⟩
      · simp only [tb, List.mem_cons, List.not_mem_nil, or_false] at hq
        rcases hq with rfl | rfl | rfl
        · exact absurd hf (by decide)
        · exact absurd hf (by decide)
        · exact absurd hf (by decide)
      · simp only [tb, List.mem_cons, List.not_mem_nil, or_false] at hq
        rcases hq with rfl
        · exact absurd hf (by decide)
    | 53, h1, h2 =>
      obtain rfl := Option.some.inj h1
      obtain ⟨rfl, rfl⟩ := Prod.mk.inj (Option.some.inj h2)
      have F := fun_mk (st := t_law) l53 c53 k53
      refine ⟨f53, _, ⟨⟨t_law, n_law, _, toD F, c_law, rfl, rfl, m_law⟩, PySem.W.mg_of X G a53, F.binds fun _ _ _ _ _ _ us hl => match us, hl with | [_], _ => rfl, fun q hq hf => ?_, fun q hq hf => ?_⟩⟩
      · simp only [tb, List.mem_cons, List.not_mem_nil, or_false] at hq
        rcases hq with rfl | rfl | rfl
        · exact absurd hf (by decide)
        · exact absurd hf (by decide)
        · exact absurd hf (by decide)
      · simp only [tb, List.mem_cons, List.not_mem_nil, or_false] at hq
        rcases hq with rfl
        · exact absurd hf (by decide)
    | i + 54, h1, h2 => exact nomatch h1
end K64
set_option Elab.async false
set_option linter.all false
set_option maxRecDepth 100000
set_option maxHeartbeats 400000
namespace K64
open PySem PySem.Spec PyProof.Rows L2 DI
/-! fractions, points -/
section
variable {wf n m k r : Nat} {μ : Mem} {p q : Rat} {a b c : Pt}
theorem fr : FracOk tbT wf 4 := FracOk.prog at_fraction
theorem E_tuple (k : Int) {d : D} (hb : bare d = true) : callN tbT wf (n + 1) 2 [d, .int k] μ = some (.bl (tupB d k), μ) := is_tuple_ok at_is_tuple_of k hb
theorem E_frac {d : D} (hb : bare d = true) : callN tbT wf (n + 2) 3 [d] μ = some (.bl (fracB d), μ) := is_frac_ok at_is_whole at_is_tuple_of at_is_fraction hb
variable (hw : WF wf)
include hw
theorem E_plus [Sz m p] [Sz k q] (h : m + k < 7990) : callN tbT wf (n + 2) 5 [dQ p, dQ q] μ = some (dQ (p + q), μ) := plusE fr at_plus hw h
theorem E_minus [Sz m p] [Sz k q] (h : m + k < 7990) : callN tbT wf (n + 2) 6 [dQ p, dQ q] μ = some (dQ (p - q), μ) := minusE fr at_minus hw h
theorem E_times [Sz m p] [Sz k q] (h : m + k < 7990) : callN tbT wf (n + 2) 7 [dQ p, dQ q] μ = some (dQ (p * q), μ) := timesE fr at_times hw h
omit hw in
theorem E_less [Sz m p] [Sz k q] (h : m + k < 8000) : callN tbT wf (n + 1) 8 [dQ p, dQ q] μ = some (.bl (decide (p < q)), μ) := lessE at_is_less h
omit hw in
theorem E_sign : callN tbT wf (n + 1) 15 [dQ q] μ = some (.int (sgQ q), μ) := sign_of_ok at_sign_of q
omit hw in
theorem E_point {d : D} (hb : bare d = true) : callN tbT wf (n + 3) 11 [d] μ = some (.bl (pointB d), μ) := is_point_ok at_is_whole at_is_tuple_of at_is_fraction at_is_point hb
omit hw in
theorem E_are {d : D} (hb : bare d = true) (hs : ∀ xs, d = .lst xs → xs.length ≤ sizeLine) : callN tbT wf (n + 4) 13 [d] μ = some (.bl (areB pointB d), μ) := are_ok at_are_points (fun d h => E_point h) hb hs
omit hw in
theorem areT (l : List Pt) : areB pointB (.lst (l.map dP)) = true := by simp [areB, List.all_map, Function.comp_def, pointB_dP]
omit hw in
theorem bareT (l : List Pt) : bare (.lst (l.map dP)) = true := by simpa only [bare] using bares_map bare_dP l
end
end K64
set_option Elab.async false
set_option linter.all false
set_option maxRecDepth 100000
set_option maxHeartbeats 400000
namespace K64
open PySem PySem.Spec PyProof.Rows L2 DI
/-! lines -/
section
variable {wf n m k : Nat} {μ : Mem} {x y z : Int} {p q : Pt} {l : Ln} {M : Mo}
theorem E_plain (h : x ≠ 0 ∨ y ≠ 0) [Sw m x] [Sw m y] (hm : m < 8990) : callN tbT wf (n + 1) 16 [.int x, .int y, .int z] μ = some (dL (canon x y z), μ) := plain_ok at_plain_line h hm
theorem E_whole {d : D} (hb : bare d = true) : callN tbT wf (n + 1) 0 [d] μ = some (.bl (wholeB d), μ) := is_whole_ok at_is_whole hb
theorem E_isL (h : IsL l) : callN tbT wf (n + 2) 17 [dL l] μ = some (.bl true, μ) := by
  refine run_ret at_is_line rfl ?_
  have hb : bare (dL l) = true := rfl
  have t3 : tupB (dL l) 3 = true := rfl
  have hc := comp_mapA (C := callN tbT wf (n + 1)) (tg := .nm 1) (elt := .call 0 [.var 1]) (own := [1]) (src := .seq (.var 0)) (env := [.val (dL l), .un, .un, .un, .un]) (μ := μ) (μ1 := μ) (l := [l.a, l.b, l.c]) (lks := []) (e := D.int) (g := fun _ => .bl true) (by simp [evI_seq, itemsD, lockOf, dL]) rfl
    (fun x hx => by simp [wipeE, E_whole (show bare (D.int x) = true from rfl), wholeB]) (by unfold sizeLine; simp)
  have ha : biD μ .all [.lst [.bl true, .bl true, .bl true]] = some (.bl true) := rfl
  have e1 : evE (callN tbT wf (n + 1)) (.or (.not (.call 2 [.var 0, .int 3])) (.not (.bi .all [.comp (.call 0 [.var 1]) (.nm 1) (.seq (.var 0)) [] [1]]))) [.val (dL l), .un, .un, .un, .un] μ = some (.bl false, μ) := by
    simp [E_tuple 3 hb, t3, hc, ha]
  refine (ss_skip e1).trans ((ss_nx (e := [.val (dL l), .un, .val (.int l.a), .val (.int l.b), .val (.int l.c)]) (μ1 := μ) (by simp [dL])).trans (ss_ret ?_))
  have g1 : Nat.gcd (Nat.gcd l.a.natAbs l.b.natAbs) l.c.natAbs = 1 := h.2
  rcases h.1 with h1 | ⟨h1, h2⟩
  · simp [bi_gcd, h1, g1, eqD_int]
  · rw [h1] at g1
    simp at g1
    simp [bi_gcd, h1, h2, g1, eqD_int]
theorem E_chkL (h : IsL l) : callN tbT wf (n + 3) 18 [dL l] μ = some (.non, μ) := check_ok (pB := fun _ => true) at_check_line (E_isL h) rfl
theorem cast_num (q : Rat) (N : Nat) (h : q.den ∣ N) : ((q.num * ((N / q.den : Nat) : Int) : Int) : Rat) = (N : Rat) * q := by
  obtain ⟨k, hk⟩ := h
  have e : N / q.den = k := by rw [hk, Nat.mul_div_cancel_left _ q.den_pos]
  rw [e, Rat.intCast_mul, num_den, hk]
  have e2 : ((k : Int) : Rat) = (k : Rat) := rfl
  have e3 : ((q.den * k : Nat) : Rat) = (q.den : Rat) * (k : Rat) := by
    have := Rat.intCast_mul (q.den : Int) (k : Int)
    exact this
  rw [e2, e3]
  grind
variable (hw : WF wf)
include hw
theorem E_through [hp : SzP m p] [hq : SzP k q] (ne : p ≠ q) (h : 10 * m + 6 * k + 30 < 8990) : callN tbT wf (n + 3) 19 [dP p, dP q] μ = some (dL (thr p q), μ) := by
  have sA : Sz (m + k + 1) (p.2 - q.2) := inferInstance
  have sB : Sz (k + m + 1) (q.1 - p.1) := inferInstance
  have sC : Sz (m + k + 1 + m + (k + m + 1 + m) + 1) ((p.2 - q.2) * p.1 + (q.1 - p.1) * p.2) := inferInstance
  have pd : (([p.2 - q.2, q.1 - p.1, (p.2 - q.2) * p.1 + (q.1 - p.1) * p.2] : List Rat).map Rat.den).prod < 2 ^ (m + k + 1 + (k + m + 1 + (m + k + 1 + m + (k + m + 1 + m) + 1))) := by
    simp only [List.map_cons, List.map_nil, List.prod_cons, List.prod_nil, Nat.mul_one]
    exact mul_lt_pow sA.h.2 (mul_lt_pow sB.h.2 sC.h.2)
  obtain ⟨N, N0, Nd, Np, eW⟩ := wholes_ok (T := tbT) (wf := wf) (n := n) (μ := μ) (i := 10) (c := 9) at_common_below at_wholes pd (by omega) (s := m + k + 1 + m + (k + m + 1 + m) + 1) (fun q' hq' => by
    simp only [List.mem_cons, List.not_mem_nil, or_false] at hq'
    rcases hq' with rfl | rfl | rfl
    · exact (sA.h.mono (by omega)).1
    · exact (sB.h.mono (by omega)).1
    · exact sC.h.1) (by omega) (by simp)
  simp only [List.map_cons, List.map_nil] at eW
  have c1 := cast_num (p.2 - q.2) N (Nd _ (by simp))
  have c2 := cast_num (q.1 - p.1) N (Nd _ (by simp))
  have c3 := cast_num ((p.2 - q.2) * p.1 + (q.1 - p.1) * p.2) N (Nd _ (by simp))
  have NN := Nat.lt_of_le_of_lt (Nat.le_of_dvd (prod_pos _) Np) pd
  have sx : ∀ (r : Rat) (s : Nat), Sm s r → s ≤ m + k + 1 + m + (k + m + 1 + m) + 1 → (r.num * ((N / r.den : Nat) : Int)).natAbs < 2 ^ (m + k + 1 + m + (k + m + 1 + m) + 1 + (m + k + 1 + (k + m + 1 + (m + k + 1 + m + (k + m + 1 + m) + 1)))) := fun r s hr hs => by
    rw [Int.natAbs_mul, Int.natAbs_natCast]
    exact mul_lt_pow (hr.mono hs).1 (Nat.lt_of_le_of_lt (Nat.div_le_self ..) NN)
  have s1 : Sw _ _ := ⟨sx _ _ sA.h (by omega)⟩
  have s2 : Sw _ _ := ⟨sx _ _ sB.h (by omega)⟩
  obtain ⟨h1, h2⟩ := line_of (ab_ne ne) (cast_ne (x := (N : Int)) (by omega)) c1 c2 c3
  have eP := @E_plain wf (n + 1) _ μ _ _ ((((p.2 - q.2) * p.1 + (q.1 - p.1) * p.2)).num * ((N / ((p.2 - q.2) * p.1 + (q.1 - p.1) * p.2).den : Nat) : Int)) h1 s1 s2 (by omega)
  rw [← thr_eq ne (canon_spec h1).1 (h2 p rfl) (h2 q (by grind))] at eP
  refine run_ret at_through_there rfl ?_
  have ea := E_minus (n := n) (μ := μ) (p := p.2) (q := q.2) hw (by omega)
  have eb := E_minus (n := n) (μ := μ) (p := q.1) (q := p.1) hw (by omega)
  have f1 := E_times (n := n) (μ := μ) (p := p.2 - q.2) (q := p.1) hw (by omega)
  have f2 := E_times (n := n) (μ := μ) (p := q.1 - p.1) (q := p.2) hw (by omega)
  have f3 := E_plus (n := n) (μ := μ) (p := (p.2 - q.2) * p.1) (q := (q.1 - p.1) * p.2) hw (by omega)
  generalize hA : (p.2 - q.2) = A at *
  generalize hB : (q.1 - p.1) = B at *
  generalize hC : A * p.1 + B * p.2 = G at *
  refine (ss_nx (e := [.val (dP p), .val (dP q), .val (dQ A), .val (dQ B), .un, .un, .un, .un]) (μ1 := μ) (by simp [b_through_there, idx_dP, ea, eb, parE])).trans ?_
  refine (ss_asg (d := dQ G) (μ1 := μ) (by simp [idx_dP, f1, f2, f3])).trans ?_
  refine (ss_nx (e := [.val (dP p), .val (dP q), .val (dQ A), .val (dQ B), .val (dQ G), .val (.int (A.num * ((N / A.den : Nat) : Int))), .val (.int (B.num * ((N / B.den : Nat) : Int))), .val (.int (G.num * ((N / G.den : Nat) : Int)))]) (μ1 := μ) (by simp [eW, sizeLine, -Int.natCast_ediv])).trans ?_
  exact ss_ret (by simp [eP, -Int.natCast_ediv])
theorem E_above [SzL k l] [SzP m p] (h : 4 * k + 2 * m + 20 < 7990) : callN tbT wf (n + 3) 20 [dL l, dP p] μ = some (dQ (abv l p), μ) := by
  refine run_ret at_above_by rfl ?_
  simp (disch := first | omega | (simp; done) | fail) [b_above_by, dL, idx_dP, sizeLine, q_int, E_times hw, E_plus hw, E_minus hw, abv]
theorem E_side_there [SzL k l] [SzP m p] (h : 4 * k + 2 * m + 20 < 7990) : callN tbT wf (n + 4) 21 [dL l, dP p] μ = some (.int (sgQ (abv l p)), μ) := by
  refine run_ret at_side_there rfl ?_
  simp [b_side_there, E_above (n := n) hw h, E_sign]
end
end K64
set_option Elab.async false
set_option linter.all false
set_option maxRecDepth 100000
set_option maxHeartbeats 400000
namespace K64
open PySem PySem.Spec PyProof.Rows L2 DI
/-! points and lines turned about -/
section
variable {wf n m k r : Nat} {μ : Mem} {x y z : Int} {p q : Pt} {l : Ln} {d : D}
theorem q_m1 : D.tup [.int (-1), .int 1] = dQ (-1) := rfl
theorem sz_m1 : Sz 1 (-1) := ⟨⟨by decide, by decide⟩⟩
theorem E_ahead (h : m < 3000) : AheadOk tbT wf (n + 2) m 12 := fun μ p q hp hq => ahead_ok at_is_less at_comes_ahead hp hq h
theorem L_ahead (h : m < 3000) : AheadOk tbT wf (n + 2) m 44 := fun μ p q hp hq => law_ahead_ok at__law_less at__law_ahead hp hq h
theorem E_areL {l : List Pt} (h : LL μ d (l.map dP)) (hs : l.length ≤ 1000) : callN tbT wf (n + 4) 13 [d] μ = some (.bl true, μ) := areL at_are_points (fun q => by rw [E_point (bare_dP q), pointB_dP]) h hs
theorem E_setL {l : List Pt} (h : LL μ d (l.map dP)) (hl : ∀ p, p ∈ l → SmP m p) (hm : m < 3000) (hs : l.length ≤ 1000) : callN tbT wf (n + 5) 14 [d] μ = some (.bl (chainB l), μ) := is_setL at_is_set (E_areL h hs) (E_ahead (n := n + 2) hm) h hl hs
variable (hw : WF wf)
include hw
/-! ### the law's own -/
omit hw in
/-- the height of a line at a place -/
theorem height_eq (l : Ln) (q : Rat) (hb : l.b ≠ 0) : Rat.divInt (l.c * q.den - l.a * q.num) (l.b * q.den) = ((l.c : Rat) - (l.a : Rat) * q) / (l.b : Rat) := by
  have d0 := den_ne q
  have e := num_den q
  have b0 := cast_ne hb
  have dd : ((q.den : Int) : Rat) = (q.den : Rat) := rfl
  rw [Rat.divInt_eq_div, Rat.intCast_sub, Rat.intCast_mul, Rat.intCast_mul, Rat.intCast_mul, dd, e]
  grind
omit hw in
theorem L_draw : DrawOk tbT wf (n + 2) 33 := DrawOk.mk at__law_mixed at__law_draw
omit hw in
theorem L_one_of {xs : List D} (h0 : xs ≠ []) (hl : xs.length ≤ 1000) (μ : Mem) (c b : Nat) (h : Pur μ c b) (hb : b < 2 ^ 190) : ∃ (d : D) (μ' : Mem), callN tbT wf (n + 3) 35 [.ref c, .lst xs] μ = some (d, μ') ∧ d ∈ xs ∧ Pur μ' c (b + 10) ∧ Ot c μ μ' := by
  have l0 : 0 < xs.length := List.length_pos_iff.mpr h0
  obtain ⟨i, μ1, l1, e1, h1, o1⟩ := L_draw (wf := wf) (n := n) μ c b xs.length h hb l0 (Nat.lt_of_le_of_lt hl (by decide))
  refine ⟨xs[i], μ1, run_ret at__law_one_of rfl ?_, List.getElem_mem l1, h1, o1⟩
  have hi : atI xs (i : Int) = some xs[i] := by
    unfold atI ixN
    simp [l1]
  simp [b__law_one_of, lenD, seqV, e1, idxD, hi]
omit hw in
theorem L_exact (n k : Nat) {a b : D} (h : Al μ n b a) : callN tbT wf (k + n + 1) 37 [a, b] μ = some (.bl true, μ) := by first | exact exact_ok at__law_exact n k a b h | exact exact2_ok at__law_exact n k a b h
omit hw in
theorem L_exactP (n k : Nat) {d : D} (h : plainD n d = true) : callN tbT wf (k + n + 1) 37 [d, d] μ = some (.bl true, μ) := L_exact n k (al_plain n d h)
end
end K64
set_option Elab.async false
set_option linter.all false
set_option maxRecDepth 100000
set_option maxHeartbeats 400000
namespace K64
open PySem PySem.Spec PyProof.Rows L2 DI
/-! weighted sets; halving -/
abbrev dPs (rs : Rows) : D := .lst ((rs.map (·.1)).map dP)
abbrev dWs (rs : Rows) : D := .lst ((rs.map (·.2)).map D.int)
/-- a weighted set -/
structure WS (rs : Rows) (m : Nat) : Prop where
  srt : Srt (rs.map (·.1))
  sz : ∀ r, r ∈ rs → SmP m r.1
  lo : ∀ r, r ∈ rs → 0 ≤ r.2
  hi : ∀ r, r ∈ rs → r.2 ≤ (1000 : Nat)
  pos : 0 < tot rs
  len : rs.length ≤ 30
theorem WS.tot_le {rs : Rows} {m : Nat} (h : WS rs m) : tot rs ≤ 30000 := by
  have := DI.tot_le rs h.hi
  have l := h.len
  have : ((1000 : Nat) : Int) * (rs.length : Int) ≤ 30000 := by omega
  omega
theorem WS.part {rs : Rows} {m : Nat} (h : WS rs m) (f : Pt → Bool) : 0 ≤ sumF f rs ∧ sumF f rs ≤ 30000 := by
  have a := sumF_nonneg f rs h.lo
  have b := sumF_le f rs h.lo
  have c := h.tot_le
  omega
theorem zip_rows (rs : Rows) : zipD ((rs.map (·.1)).map dP) ((rs.map (·.2)).map D.int) = rs.map fun r => .tup [dP r.1, .int r.2] := by
  rw [zipD_map]
  congr 1
  induction rs with
  | nil => rfl
  | cons r rs ih => simp [ih]
theorem zip_rows' (rs : Rows) : ((rs.map (·.1)).zip (rs.map (·.2))) = rs := by
  induction rs with
  | nil => rfl
  | cons r rs ih => simp [ih]
section
variable {wf n m k r : Nat} {μ : Mem} {x y z : Int} {p q : Pt} {l : Ln} {d : D} {rs : Rows} {u v : Rat}
theorem lfp : FracP tbT wf 39 := FracP.low at__law_low
theorem E_count (i : Int) : callN tbT wf (n + 2) 1 [.int i, .int 0] μ = some (.bl (decide (0 ≤ i)), μ) := by
  refine run_ret at_is_count rfl ?_
  have e := E_whole (wf := wf) (n := n) (μ := μ) (d := .int i) rfl
  have b : biD μ .max [.int 0, .int 0] = some (.int 0) := rfl
  simp [b_is_count, e, wholeB, b]
theorem E_weights (h : WS rs m) : callN tbT wf (n + 3) 23 [dPs rs, dWs rs] μ = some (.bl true, μ) := by
  refine run_ret at_are_weights rfl ?_
  have hc := comp_mapA (C := callN tbT wf (n + 2)) (tg := .nm 2) (elt := .calld 1 [.var 2] [0]) (own := [2]) (src := .seq (.var 1)) (env := [.val (dPs rs), .val (dWs rs), .un]) (μ := μ) (μ1 := μ) (l := rs) (lks := []) (e := fun r => D.int r.2) (g := fun _ => .bl true)
    (by simp [evI_seq, itemsD, seqV, lockOf]) rfl (fun r hr => by
      have e := E_count (wf := wf) (n := n) (μ := μ) r.2
      simp [wipeE, e, h.lo r hr]) (by have := h.len; unfold sizeLine; omega)
  have ha := bi_all (μ := μ) (fun _ : Pt × Int => true) rs
  have s := bi_sum (μ := μ) (rs.map (·.2))
  have ts : (rs.map (·.2)).sum = tot rs := rfl
  have t := h.pos
  refine (ss_skip (μ1 := μ) ?_).trans (ss_ret ?_)
  · have e0 : evE (callN tbT wf (n + 2)) (.not (.bi .all [.comp (.calld 1 [.var 2] [0]) (.nm 2) (.seq (.var 1)) [] [2]])) [.val (dPs rs), .val (dWs rs), .un] μ = some (.bl false, μ) := by
      simp only [evE_not, evE_bi, evEs_e, evEs_nil, hc, Option.bind_some, Option.map_some, ha]
      simp
    have e1 : evE (callN tbT wf (n + 2)) (.not (.isi (.var 1) [.list])) [.val (dPs rs), .val (dWs rs), .un] μ = some (.bl false, μ) := by simp [liveD, isT]
    have e2 : evE (callN tbT wf (n + 2)) (.cmp .ne (.bi .len [.var 1]) (.bi .len [.var 0])) [.val (dPs rs), .val (dWs rs), .un] μ = some (.bl false, μ) := by simp [lenD, seqV, eqD_int]
    have o2 : evE (callN tbT wf (n + 2)) (.or (.cmp .ne (.bi .len [.var 1]) (.bi .len [.var 0])) (.not (.bi .all [.comp (.calld 1 [.var 2] [0]) (.nm 2) (.seq (.var 1)) [] [2]]))) [.val (dPs rs), .val (dWs rs), .un] μ = some (.bl false, μ) := by
      rw [evE_or, e2]
      exact e0
    show evE (callN tbT wf (n + 2)) (.or (.not (.isi (.var 1) [.list])) (.or (.cmp .ne (.bi .len [.var 1]) (.bi .len [.var 0])) (.not (.bi .all [.comp (.calld 1 [.var 2] [0]) (.nm 2) (.seq (.var 1)) [] [2]])))) [.val (dPs rs), .val (dWs rs), .un] μ = _
    rw [evE_or, e1]
    exact o2
  · have s' : biD μ .sum [dWs rs] = some (.int (tot rs)) := by rw [← ts]; exact s
    show evE (callN tbT wf (n + 2)) (.cmp .gt (.bi .sum [.var 1]) (.int 0)) [.val (dPs rs), .val (dWs rs), .un] μ = _
    simp only [evE_cmp, evE_bi, evEs_e, evEs_nil]
    simp [s', t]
theorem E_chkSet (h : WS rs m) (hm : m < 3000) : callN tbT wf (n + 6) 22 [dPs rs] μ = some (.non, μ) := check_ok (pB := fun _ => true) at_check_set (by
  rw [E_setL (n := n) (LL.lst (flats_dP _)) (m := m) (fun p hp => by
    obtain ⟨r, hr, rfl⟩ := List.mem_map.mp hp
    exact h.sz r hr) hm (by rw [List.length_map]; have := h.len; omega), (chain_srt _).mpr h.srt]) rfl
theorem E_chkW (h : WS rs m) (hm : m < 3000) : callN tbT wf (n + 7) 24 [dPs rs, dWs rs] μ = some (.non, μ) := by
  have e1 := E_chkSet (wf := wf) (n := n) (μ := μ) h hm
  have e2 := E_weights (wf := wf) (n := n + 3) (μ := μ) h
  exact run_nx at_check_weighted rfl <| (ss_nx (e := [.val (dPs rs), .val (dWs rs)]) (μ1 := μ) (by simp [b_check_weighted, e1])).trans ((ss_skip (μ1 := μ) (by simp [e2])).trans (evSs_nil ..))
variable (hw : WF wf)
include hw
theorem L_plus [Sz m u] [Sz k v] (h : m + k < 7990) : callN tbT wf (n + 2) 40 [dQ u, dQ v] μ = some (dQ (u + v), μ) := plusP lfp at__law_plus hw h
theorem L_minus [Sz m u] [Sz k v] (h : m + k < 7990) : callN tbT wf (n + 2) 41 [dQ u, dQ v] μ = some (dQ (u - v), μ) := minusP lfp at__law_minus hw h
theorem L_times [Sz m u] [Sz k v] (h : m + k < 7990) : callN tbT wf (n + 2) 42 [dQ u, dQ v] μ = some (dQ (u * v), μ) := timesP lfp at__law_times hw h
/-- the weights less, on, more -/
theorem E_sides [SzL k l] (h : WS rs m) (hk : 4 * k + 2 * m + 20 < 7990) : ∃ on : Int, on = tot rs - lessW l rs - moreW l rs ∧ callN tbT wf (n + 5) 25 [dPs rs, dWs rs, dL l] μ = some (.tup [.int (lessW l rs), .int on, .int (moreW l rs)], μ) := by
  obtain ⟨env', μ', hf, a, b, c, v4, v5, v6, rest, he, hmu, hr, ha, hc, hon, hin⟩ := for_run (C := callN tbT wf (n + 4)) (wf := wf) (tg := .tp [.nm 4, .nm 5]) (src := .zip (.var 0) (.var 1)) (body := [
    .asg (.nm 6) (.op .add (.call 21 [.var 2, .var 4]) (.int 1)),
    .oset 3 (.var 6) (.op .add (.idx (.ovar 3) (.var 6)) (.var 5))])
    (env := [.val (dPs rs), .val (dWs rs), .val (dL l), .own [.int 0, .int 0, .int 0], .un, .un, .un]) (μ := μ) (μ1 := μ) (xs := rs.map fun r => .tup [dP r.1, .int r.2]) (lks := [])
    (P := fun r e ν => ∃ (a b c : Int) (v4 v5 v6 : Sl) (rest : Rows), e = [.val (dPs rs), .val (dWs rs), .val (dL l), .own [.int a, .int b, .int c], v4, v5, v6] ∧ ν = μ ∧ r = rest.map (fun r => .tup [dP r.1, .int r.2]) ∧ a + lessW l rest = lessW l rs ∧ c + moreW l rest = moreW l rs ∧ b + (tot rest - lessW l rest - moreW l rest) = tot rs - lessW l rs - moreW l rs ∧ ∀ r, r ∈ rest → r ∈ rs)
    (by simp only [evI_zip, evE_var, List.getElem?_cons_zero, List.getElem?_cons_succ, Option.bind_some, Option.map_some, seqV, lockOf, zip_rows]; rfl) rfl (fun _ _ _ _ => rfl) (fun x r e ν q => by
      obtain ⟨a, b, c, v4, v5, v6, rest, he, hmu, hr, ha, hc, hon, hin⟩ := q
      subst he hmu
      cases rest with
      | nil => simp at hr
      | cons w rest =>
        rw [List.map_cons] at hr
        obtain ⟨rfl, rfl⟩ := List.cons.inj hr
        have sw : SzP m w.1 := ⟨h.sz w (hin w List.mem_cons_self)⟩
        have es := E_side_there (n := n) (μ := ν) (l := l) (p := w.1) hw (by omega)
        have hin' : ∀ r, r ∈ rest → r ∈ rs := fun r hr => hin r (List.mem_cons_of_mem _ hr)
        rw [tot_cons] at hon
        by_cases p1 : 0 < abv l w.1
        · rw [sgQ_pos p1] at es
          have n1 : ¬ abv l w.1 < 0 := fun z => Rat.lt_irrefl (Std.lt_trans p1 z)
          have q1 : lessW l (w :: rest) = lessW l rest := by simp [lessW, sumF, n1]
          have q2 : moreW l (w :: rest) = w.2 + moreW l rest := by simp [moreW, sumF, p1]
          rw [q1] at ha hon
          rw [q2] at hc hon
          refine ⟨_, [.val (dPs rs), .val (dWs rs), .val (dL l), .own [.int a, .int b, .int (c + w.2)], .val (dP w.1), .val (.int w.2), .val (.int 2)], ν, rfl, ?_, _, _, _, _, _, _, rest, rfl, rfl, rfl, ha, by omega, by omega, hin'⟩
          refine (ss_asg (d := .int 2) (μ1 := ν) (by simp [es])).trans ((ss_nx ?_).trans (evSs_nil ..))
          simp [idxD, atI, ixN, seqV]
        · by_cases p2 : abv l w.1 < 0
          · rw [sgQ_neg p2] at es
            have q1 : lessW l (w :: rest) = w.2 + lessW l rest := by simp [lessW, sumF, p2]
            have q2 : moreW l (w :: rest) = moreW l rest := by simp [moreW, sumF, p1]
            rw [q1] at ha hon
            rw [q2] at hc hon
            refine ⟨_, [.val (dPs rs), .val (dWs rs), .val (dL l), .own [.int (a + w.2), .int b, .int c], .val (dP w.1), .val (.int w.2), .val (.int 0)], ν, rfl, ?_, _, _, _, _, _, _, rest, rfl, rfl, rfl, by omega, hc, by omega, hin'⟩
            refine (ss_asg (d := .int 0) (μ1 := ν) (by simp [es])).trans ((ss_nx ?_).trans (evSs_nil ..))
            simp [idxD, atI, ixN, seqV]
          · have z0 : abv l w.1 = 0 := by grind
            rw [sgQ_zero.mpr z0] at es
            have q1 : lessW l (w :: rest) = lessW l rest := by simp [lessW, sumF, p2]
            have q2 : moreW l (w :: rest) = moreW l rest := by simp [moreW, sumF, p1]
            rw [q1] at ha hon
            rw [q2] at hc hon
            refine ⟨_, [.val (dPs rs), .val (dWs rs), .val (dL l), .own [.int a, .int (b + w.2), .int c], .val (dP w.1), .val (.int w.2), .val (.int 1)], ν, rfl, ?_, _, _, _, _, _, _, rest, rfl, rfl, rfl, ha, hc, by omega, hin'⟩
            refine (ss_asg (d := .int 1) (μ1 := ν) (by simp [es])).trans ((ss_nx ?_).trans (evSs_nil ..))
            simp [idxD, atI, ixN, seqV]) ⟨0, 0, 0, .un, .un, .un, rs, rfl, rfl, rfl, Int.zero_add _, Int.zero_add _, Int.zero_add _, fun _ h => h⟩
  cases rest with
  | cons _ _ => simp at hr
  | nil =>
    subst he hmu
    have a' : a = lessW l rs := by rw [← ha]; exact (Int.add_zero a).symm
    have c' : c = moreW l rs := by rw [← hc]; exact (Int.add_zero c).symm
    subst a' c'
    refine ⟨b, by rw [← hon]; simp [tot, lessW, moreW, sumF], run_ret at_side_weights_there rfl ?_⟩
    refine (ss_nx (e := [.val (dPs rs), .val (dWs rs), .val (dL l), .own [.int 0, .int 0, .int 0], .un, .un, .un]) (μ1 := μ') (by simp [b_side_weights_there, sizeLine])).trans ((ss_nx hf).trans (ss_ret ?_))
    simp [idxD, atI, ixN, seqV, sizeLine]
theorem E_halves [SzL k l] (h : WS rs m) (hk : 4 * k + 2 * m + 20 < 7990) : callN tbT wf (n + 6) 26 [dPs rs, dWs rs, dL l] μ = some (.bl (halfB l rs), μ) := by
  obtain ⟨on, -, e⟩ := E_sides (n := n) (μ := μ) (l := l) hw h hk
  have s := bi_sum (μ := μ) (rs.map (·.2))
  have s' : biD μ .sum [dWs rs] = some (.int (tot rs)) := s
  have b1 := h.part fun p => decide (abv l p < 0)
  have b2 := h.part fun p => decide (0 < abv l p)
  have mx : (if lessW l rs < moreW l rs then moreW l rs else lessW l rs) = max (lessW l rs) (moreW l rs) := by
    split <;> omega
  have mm : opI .mul 2 (if lessW l rs < moreW l rs then moreW l rs else lessW l rs) = some (2 * max (lessW l rs) (moreW l rs)) := by
   rw [mx]
   exact opI_mul (n := 2) (m := 20) (by decide) (by
    unfold lessW moreW
    omega) (by decide)
  refine run_ret at_halves_there rfl ?_
  refine (ss_nx (e := [.val (dPs rs), .val (dWs rs), .val (dL l), .val (.int (lessW l rs)), .val (.int on), .val (.int (moreW l rs))]) (μ1 := μ) (by simp [b_halves_there, e])).trans (ss_ret ?_)
  simp [mm, s', halfB]
end
end K64
set_option Elab.async false
set_option linter.all false
set_option maxRecDepth 100000
set_option maxHeartbeats 400000
namespace K64
open PySem PySem.Spec PyProof.Rows L2 DI
theorem gcd_loop10 {wf : Nat} {C : Call} {μ : Mem} {e0 e1 e2 e3 e4 e5 e6 e7 : Sl} : ∀ (w y x : Nat), y < w →
    whileGo (fun e ν => evT C (.cmp .gt (.var 9) (.int 0)) e ν) (fun e ν => evSs C wf [.asg (.tp [.nm 8, .nm 9]) (.tup [.var 9, .op .mod (.var 8) (.var 9)])] e ν) w [e0, e1, e2, e3, e4, e5, e6, e7, .val (.int x), .val (.int y)] μ = some (.nx [e0, e1, e2, e3, e4, e5, e6, e7, .val (.int (Nat.gcd x y : Nat)), .val (.int 0)], μ)
  | 0, y, x, h => absurd h (Nat.not_lt_zero _)
  | w + 1, y, x, h => by
    by_cases hy : y = 0
    · subst hy
      rw [while_end w (μ1 := μ) (by simp), Nat.gcd_zero_right]
      rfl
    · have hy' : 0 < y := by omega
      have e : opI .mod (x : Int) y = some ((x % y : Nat) : Int) := by
        rw [opI_mod (by omega), Int.fmod_eq_emod_of_nonneg _ (by omega)]
        rfl
      have ih := gcd_loop10 (wf := wf) (C := C) (μ := μ) (e0 := e0) (e1 := e1) (e2 := e2) (e3 := e3) (e4 := e4) (e5 := e5) (e6 := e6) (e7 := e7) w (x % y) y (by have := Nat.mod_lt x hy'; omega)
      rw [while_go w (μ1 := μ) (μ2 := μ) (e := [e0, e1, e2, e3, e4, e5, e6, e7, .val (.int y), .val (.int (x % y : Nat))]) (by simp [hy']) (by simp [e, sizeLine, -Int.natCast_emod]), ih, Nat.gcd_comm y, ← Nat.gcd_rec, Nat.gcd_comm y]
section
variable {wf n m k r c b : Nat} {μ : Mem} {x y z : Int} {p q : Pt} {l : Ln} {d : D} {rs : Rows} {u v : Rat}
variable (hw : WF wf)
include hw
theorem L_line [hp : SzP m p] [hq : SzP k q] (ne : p ≠ q) (h : 10 * m + 6 * k + 30 < 7990) : callN tbT wf (n + 3) 48 [dP p, dP q] μ = some (dL (thr p q), μ) := by
  have sA : Sz (m + k + 1) (p.2 - q.2) := inferInstance
  have sB : Sz (k + m + 1) (q.1 - p.1) := inferInstance
  have sC : Sz (m + k + 1 + m + (k + m + 1 + m) + 1) ((p.2 - q.2) * p.1 + (q.1 - p.1) * p.2) := inferInstance
  have ea := L_minus (n := n) (μ := μ) (u := p.2) (v := q.2) hw (by omega)
  have eb := L_minus (n := n) (μ := μ) (u := q.1) (v := p.1) hw (by omega)
  have f1 := L_times (n := n) (μ := μ) (u := p.2 - q.2) (v := p.1) hw (by omega)
  have f2 := L_times (n := n) (μ := μ) (u := q.1 - p.1) (v := p.2) hw (by omega)
  have f3 := L_plus (n := n) (μ := μ) (u := (p.2 - q.2) * p.1) (v := (q.1 - p.1) * p.2) hw (by omega)
  have ab := ab_ne ne
  have hthr : ∀ l : Ln, IsL l → On l p → On l q → thr p q = l := fun l h1 h2 h3 => thr_eq ne h1 h2 h3
  have onp : (p.2 - q.2) * p.1 + (q.1 - p.1) * p.2 = (p.2 - q.2) * p.1 + (q.1 - p.1) * p.2 := rfl
  have onq : (p.2 - q.2) * q.1 + (q.1 - p.1) * q.2 = (p.2 - q.2) * p.1 + (q.1 - p.1) * p.2 := by grind
  generalize hA : (p.2 - q.2) = A at *
  generalize hB : (q.1 - p.1) = B at *
  generalize hC : A * p.1 + B * p.2 = G at *
  have d1 := A.den_pos
  have d2 := B.den_pos
  have d3 := G.den_pos
  generalize hN : A.den * B.den * G.den = N
  have N0 : 0 < N := by rw [← hN]; exact Nat.mul_pos (Nat.mul_pos d1 d2) d3
  have v1 : A.den ∣ N := ⟨B.den * G.den, by rw [← hN, Nat.mul_assoc]⟩
  have v2 : B.den ∣ N := ⟨A.den * G.den, by rw [← hN, Nat.mul_comm A.den, Nat.mul_assoc]⟩
  have v3 : G.den ∣ N := ⟨A.den * B.den, by rw [← hN, Nat.mul_comm]⟩
  have c1 := cast_num A N v1
  have c2 := cast_num B N v2
  have c3 := cast_num G N v3
  have m1 : opI .mul (A.den : Int) (B.den : Int) = some ((A.den : Int) * B.den) := opI_mul (n := m + k + 1) (m := k + m + 1) (by simpa using sA.h.2) (by simpa using sB.h.2) (by omega)
  have N1 : A.den * B.den < 2 ^ (m + k + 1 + (k + m + 1)) := mul_lt_pow sA.h.2 sB.h.2
  have m2 : opI .mul ((A.den : Int) * B.den) (G.den : Int) = some (N : Int) := by
    rw [opI_mul (n := m + k + 1 + (k + m + 1)) (m := m + k + 1 + m + (k + m + 1 + m) + 1) (by rw [Int.natAbs_mul]; simpa using N1) (by simpa using sC.h.2) (by omega), ← hN]
    simp
  have N2 : N < 2 ^ (m + k + 1 + (k + m + 1) + (m + k + 1 + m + (k + m + 1 + m) + 1)) := by rw [← hN]; exact mul_lt_pow N1 sC.h.2
  have fd : ∀ D0 : Nat, 0 < D0 → D0 ∣ N → D0 < 2 ^ (m + k + 1 + m + (k + m + 1 + m) + 1) → opI .fdiv (N : Int) (D0 : Int) = some ((N / D0 : Nat) : Int) := fun D0 h0 _ h1 => by
    rw [opI_fdiv (by omega) (n := m + k + 1 + m + (k + m + 1 + m) + 1) (by simpa using h1) (by omega), Int.fdiv_eq_ediv_of_nonneg _ (by omega)]
    rfl
  have up : ∀ {a b : Nat} {r : Rat}, Sm a r → a ≤ b → r.den < 2 ^ b := fun h l => (h.mono l).2
  have g1 := fd A.den d1 v1 (up sA.h (by omega))
  have g2 := fd B.den d2 v2 (up sB.h (by omega))
  have g3 := fd G.den d3 v3 sC.h.2
  have sx : ∀ (r : Rat), Sm (m + k + 1 + m + (k + m + 1 + m) + 1) r → (r.num * ((N / r.den : Nat) : Int)).natAbs < 2 ^ (m + k + 1 + m + (k + m + 1 + m) + 1 + (m + k + 1 + (k + m + 1) + (m + k + 1 + m + (k + m + 1 + m) + 1))) ∧ opI .mul r.num ((N / r.den : Nat) : Int) = some (r.num * ((N / r.den : Nat) : Int)) := fun r hr => by
    have q1 : N / r.den < 2 ^ (m + k + 1 + (k + m + 1) + (m + k + 1 + m + (k + m + 1 + m) + 1)) := Nat.lt_of_le_of_lt (Nat.div_le_self ..) N2
    refine ⟨?_, opI_mul (n := m + k + 1 + m + (k + m + 1 + m) + 1) (m := m + k + 1 + (k + m + 1) + (m + k + 1 + m + (k + m + 1 + m) + 1)) hr.1 (by rw [Int.natAbs_natCast]; exact q1) (by omega)⟩
    rw [Int.natAbs_mul, Int.natAbs_natCast]
    exact mul_lt_pow hr.1 q1
  obtain ⟨s1, o1⟩ := sx A (sA.h.mono (by omega))
  obtain ⟨s2, o2⟩ := sx B (sB.h.mono (by omega))
  obtain ⟨s3, o3⟩ := sx G sC.h
  obtain ⟨h1, h2⟩ := line_of ab (cast_ne (x := (N : Int)) (by omega)) c1 c2 c3
  rw [hthr _ (canon_spec h1).1 (h2 p hC) (h2 q onq)]
  clear c1 c2 c3 hthr h2
  generalize hX : A.num * ((N / A.den : Nat) : Int) = X at *
  generalize hY : B.num * ((N / B.den : Nat) : Int) = Y at *
  generalize hZ : G.num * ((N / G.den : Nat) : Int) = Z at *
  have pw : 2 ^ (m + k + 1 + m + (k + m + 1 + m) + 1 + (m + k + 1 + (k + m + 1) + (m + k + 1 + m + (k + m + 1 + m) + 1))) ≤ wf := hw _ (by omega)
  have sX : Sw _ X := ⟨s1⟩
  have sY : Sw _ Y := ⟨s2⟩
  have lt := mC_lt (z := Z) h1
  have nez := mC_ne (c := Z) h1
  have hd : ∀ u : Int, opI .fdiv u (mC X Y Z) = some (u.fdiv (mC X Y Z)) := fun u => opI_fdiv nez lt (by omega)
  have hcc := comp_mapA (C := callN tbT wf (n + 2)) (tg := .nm 7) (elt := .op .mul (.idx (.var 7) (.int 0)) (.op .fdiv (.var 5) (.idx (.var 7) (.int 1)))) (own := [7]) (src := .seq (.lst [.var 2, .var 3, .var 4])) (env := [.val (dP p), .val (dP q), .val (dQ A), .val (dQ B), .val (dQ G), .val (.int N), .un, .un, .un, .un]) (μ := μ) (μ1 := μ) (lks := []) (l := [(A, X), (B, Y), (G, Z)]) (e := fun w => dQ w.1) (g := fun w => .int w.2)
    (by simp [evI_seq, itemsD, seqV, lockOf, sizeLine]) rfl (fun w hx => by
      simp only [List.mem_cons, List.not_mem_nil, or_false] at hx
      rcases hx with rfl | rfl | rfl
      · simp [wipeE, idx_dQ, g1, o1, -Int.natCast_ediv]
      · simp [wipeE, idx_dQ, g2, o2, -Int.natCast_ediv]
      · simp [wipeE, idx_dQ, g3, o3, -Int.natCast_ediv]) (by unfold sizeLine; simp)
  simp only [List.map_cons, List.map_nil] at hcc
  have lp := fun (x y : Nat) (hy : y < wf) (e7 : Sl) => gcd_loop10 (wf := wf) (C := callN tbT wf (n + 2)) (μ := μ) (e0 := .val (dP p)) (e1 := .val (dP q)) (e2 := .val (dQ A)) (e3 := .val (dQ B)) (e4 := .val (dQ G)) (e5 := .val (.int N)) (e6 := .val (.lst [.int X, .int Y, .int Z])) (e7 := e7) wf y x hy
  have step : ∀ (x : Nat) (w : Int) (e7 e9 : Sl), w.natAbs < wf → evSs (callN tbT wf (n + 2)) wf [
      .asg (.nm 9) (.bi .abs [.var 7]),
      .whl (.cmp .gt (.var 9) (.int 0)) [
        .asg (.tp [.nm 8, .nm 9]) (.tup [.var 9, .op .mod (.var 8) (.var 9)])]] [.val (dP p), .val (dP q), .val (dQ A), .val (dQ B), .val (dQ G), .val (.int N), .val (.lst [.int X, .int Y, .int Z]), .val (.int w), .val (.int x), e9] μ = some (.nx [.val (dP p), .val (dP q), .val (dQ A), .val (dQ B), .val (dQ G), .val (.int N), .val (.lst [.int X, .int Y, .int Z]), .val (.int w), .val (.int (Nat.gcd x w.natAbs : Nat)), .val (.int 0)], μ) := fun x w e7 e9 hw' => by
    refine (ss_asg (d := .int (w.natAbs : Nat)) (μ1 := μ) (by simp [abs_nat])).trans ((ss_nx (by rw [evS]; exact lp x w.natAbs hw' _)).trans (evSs_nil ..))
  have hfor : evS (callN tbT wf (n + 2)) wf (.for (.nm 7) (.seq (.var 6)) [
      .asg (.nm 9) (.bi .abs [.var 7]),
      .whl (.cmp .gt (.var 9) (.int 0)) [
        .asg (.tp [.nm 8, .nm 9]) (.tup [.var 9, .op .mod (.var 8) (.var 9)])]]) [.val (dP p), .val (dP q), .val (dQ A), .val (dQ B), .val (dQ G), .val (.int N), .val (.lst [.int X, .int Y, .int Z]), .un, .val (.int ((0 : Nat) : Int)), .un] μ =
      some (.nx [.val (dP p), .val (dP q), .val (dQ A), .val (dQ B), .val (dQ G), .val (.int N), .val (.lst [.int X, .int Y, .int Z]), .val (.int Z), .val (.int (gc X Y Z : Nat)), .val (.int 0)], μ) := by
    have t1 := step 0 X .un .un (Nat.lt_of_lt_of_le s1 pw)
    have t2 := step (Nat.gcd 0 X.natAbs) Y .un (.val (.int 0)) (Nat.lt_of_lt_of_le s2 pw)
    have t3 := step (Nat.gcd (Nat.gcd 0 X.natAbs) Y.natAbs) Z .un (.val (.int 0)) (Nat.lt_of_lt_of_le s3 pw)
    rw [Nat.gcd_zero_left] at t1 t2 t3
    rw [show Nat.gcd (Nat.gcd X.natAbs Y.natAbs) Z.natAbs = gc X Y Z from rfl] at t3
    rw [evS]
    simp only [evI_seq, evE_var, List.getElem?_cons_zero, List.getElem?_cons_succ, Option.bind_some, Option.map_some, itemsD, seqV, lockOf, List.all_nil, Bool.and_self, if_true, forGo, DI.bindG, List.set_cons_succ, List.set_cons_zero]
    rw [t1]
    simp only [Option.bind_some, List.set_cons_succ, List.set_cons_zero]
    rw [t2]
    simp only [Option.bind_some, List.set_cons_succ, List.set_cons_zero]
    rw [t3]
    simp
  refine run_ret at__law_line rfl ?_
  refine (ss_nx (e := [.val (dP p), .val (dP q), .val (dQ A), .val (dQ B), .un, .un, .un, .un, .un, .un]) (μ1 := μ) (by simp [b__law_line, idx_dP, ea, eb, parE])).trans ?_
  refine (ss_asg (d := dQ G) (μ1 := μ) (by simp [idx_dP, f1, f2, f3])).trans ?_
  refine (ss_asg (d := .int N) (μ1 := μ) (by simp [idx_dQ, m1, m2])).trans ?_
  refine (ss_asg hcc).trans ((ss_asg (d := .int ((0 : Nat) : Int)) (μ1 := μ) (by simp)).trans ((ss_nx hfor).trans ?_))
  have i0 : ∀ x y z : Int, idxD μ (.lst [.int x, .int y, .int z]) (.int 0) = some (.int x) := fun _ _ _ => rfl
  have i1 : ∀ x y z : Int, idxD μ (.lst [.int x, .int y, .int z]) (.int 1) = some (.int y) := fun _ _ _ => rfl
  have cond : evE (callN tbT wf (n + 2)) (.or (.cmp .lt (.idx (.var 6) (.int 0)) (.int 0)) (.and (.cmp .eq (.idx (.var 6) (.int 0)) (.int 0)) (.cmp .lt (.idx (.var 6) (.int 1)) (.int 0)))) [.val (dP p), .val (dP q), .val (dQ A), .val (dQ B), .val (dQ G), .val (.int N), .val (.lst [.int X, .int Y, .int Z]), .val (.int Z), .val (.int (gc X Y Z : Nat)), .val (.int 0)] μ = some (.bl (decide (¬ Lead X Y)), μ) := by
    by_cases l1 : X < 0
    · have : ¬ Lead X Y := fun z => by rcases z with z | z <;> omega
      simp [i0, l1, this]
    · by_cases l2 : X = 0
      · by_cases l3 : Y < 0
        · have : ¬ Lead X Y := fun z => by rcases z with z | z <;> omega
          rw [l2] at this
          simp [i0, i1, l2, l3, eqD_int, this]
        · have : Lead X Y := .inr ⟨l2, by omega⟩
          rw [l2] at this
          simp [i0, i1, l2, l3, eqD_int, this]
      · have : Lead X Y := .inl (by omega)
        simp [i0, l1, l2, eqD_int, this]
  have fin : ∀ (M : Int), M = mC X Y Z → evSs (callN tbT wf (n + 2)) wf (b__law_line.body.drop 7) [.val (dP p), .val (dP q), .val (dQ A), .val (dQ B), .val (dQ G), .val (.int N), .val (.lst [.int X, .int Y, .int Z]), .val (.int Z), .val (.int M), .val (.int 0)] μ = some (.rt (dL (canon X Y Z)), μ) := fun M hM => by
    subst hM
    have hcd := comp_mapA (C := callN tbT wf (n + 2)) (tg := .nm 7) (elt := .op .fdiv (.var 7) (.var 8)) (own := [7]) (src := .seq (.var 6)) (env := [.val (dP p), .val (dP q), .val (dQ A), .val (dQ B), .val (dQ G), .val (.int N), .val (.lst [.int X, .int Y, .int Z]), .val (.int Z), .val (.int (mC X Y Z)), .val (.int 0)]) (μ := μ) (μ1 := μ) (lks := []) (l := [X, Y, Z]) (e := D.int) (g := fun w => .int (w.fdiv (mC X Y Z)))
      (by simp [evI_seq, itemsD, seqV, lockOf]) rfl (fun w hx => by simp [wipeE, hd]) (by unfold sizeLine; simp)
    refine ss_ret ?_
    simp only [evE_bi, evEs_e, evEs_nil, hcd, Option.bind_some, Option.map_some]
    rfl
  by_cases L : Lead X Y
  · refine (ss_skip (μ1 := μ) (by rw [cond]; simp [L])).trans (fin _ ?_)
    unfold mC
    rw [if_pos L]
  · refine (ss_nx (e := [.val (dP p), .val (dP q), .val (dQ A), .val (dQ B), .val (dQ G), .val (.int N), .val (.lst [.int X, .int Y, .int Z]), .val (.int Z), .val (.int (-(gc X Y Z : Int))), .val (.int 0)]) (μ1 := μ) ?_).trans (fin _ ?_)
    · rw [evS]
      unfold evT
      rw [cond]
      simp [L]
    · unfold mC
      rw [if_neg L, Int.zero_sub]
theorem L_aboveN [SzL k l] [SzP m p] (h : 4 * k + 2 * m + 20 < 7990) : callN tbT wf (n + 3) 49 [dL l, dP p] μ = some (.int (abv l p).num, μ) := by
  refine run_ret at__law_above rfl ?_
  have a0 : idxD μ (dL l) (.int 0) = some (.int l.a) := rfl
  have a1 : idxD μ (dL l) (.int 1) = some (.int l.b) := rfl
  have a2 : idxD μ (dL l) (.int 2) = some (.int l.c) := rfl
  have f1 := L_times (n := n) (μ := μ) (u := (l.a : Rat)) (v := p.1) hw (by omega)
  have f2 := L_times (n := n) (μ := μ) (u := (l.b : Rat)) (v := p.2) hw (by omega)
  have f3 := L_plus (n := n) (μ := μ) (u := (l.a : Rat) * p.1) (v := (l.b : Rat) * p.2) hw (by omega)
  have f4 := L_minus (n := n) (μ := μ) (u := (l.a : Rat) * p.1 + (l.b : Rat) * p.2) (v := (l.c : Rat)) hw (by omega)
  refine (ss_asg (d := dQ ((l.a : Rat) * p.1 + (l.b : Rat) * p.2)) (μ1 := μ) (by simp [a0, a1, idx_dP, sizeLine, q_int, f1, f2, f3])).trans (ss_ret ?_)
  simp [b__law_above, a2, sizeLine, q_int, f4, idx_dQ, abv]
theorem L_halves [SzL k l] (h : WS rs m) (hk : 4 * k + 2 * m + 20 < 7990) : callN tbT wf (n + 4) 50 [dPs rs, dWs rs, dL l] μ = some (.bl (halfB l rs), μ) := by
  have ln := h.len
  have numlt : ∀ q : Rat, q.num < 0 ↔ q < 0 := fun q => by simp [Rat.lt_iff]
  have numgt : ∀ q : Rat, 0 < q.num ↔ 0 < q := fun q => by simp [Rat.lt_iff]
  have c1 : ∀ s3 s6 : Sl, evE (callN tbT wf (n + 3)) (.comp (.var 5) (.tp [.nm 4, .nm 5]) (.zip (.var 0) (.var 1)) [.cmp .gt (.call 49 [.var 2, .var 4]) (.int 0)] [4, 5]) [.val (dPs rs), .val (dWs rs), .val (dL l), s3, .un, .un, s6] μ = some (.lst ((rs.filter fun r => decide (0 < abv l r.1)).map fun r => .int r.2), μ) := fun s3 s6 =>
    comp_selG (l := rs) (lks := []) (e := fun r => .tup [dP r.1, .int r.2]) (g := fun r => .int r.2) (p := fun r => decide (0 < abv l r.1))
      (by simp only [evI_zip, evE_var, List.getElem?_cons_zero, List.getElem?_cons_succ, Option.bind_some, Option.map_some, seqV, lockOf, zip_rows]; rfl) rfl (fun r hr => by
        have sr : SzP m r.1 := ⟨h.sz r hr⟩
        have e := L_aboveN (n := n) (μ := μ) (l := l) (p := r.1) hw hk
        exact ⟨[.val (dPs rs), .val (dWs rs), .val (dL l), s3, .val (dP r.1), .val (.int r.2), s6], rfl, by simp [e, numgt], fun _ => by simp⟩) (by unfold sizeLine; omega)
  have c2 : ∀ s3 s6 : Sl, evE (callN tbT wf (n + 3)) (.comp (.var 5) (.tp [.nm 4, .nm 5]) (.zip (.var 0) (.var 1)) [.cmp .lt (.call 49 [.var 2, .var 4]) (.int 0)] [4, 5]) [.val (dPs rs), .val (dWs rs), .val (dL l), s3, .un, .un, s6] μ = some (.lst ((rs.filter fun r => decide (abv l r.1 < 0)).map fun r => .int r.2), μ) := fun s3 s6 =>
    comp_selG (l := rs) (lks := []) (e := fun r => .tup [dP r.1, .int r.2]) (g := fun r => .int r.2) (p := fun r => decide (abv l r.1 < 0))
      (by simp only [evI_zip, evE_var, List.getElem?_cons_zero, List.getElem?_cons_succ, Option.bind_some, Option.map_some, seqV, lockOf, zip_rows]; rfl) rfl (fun r hr => by
        have sr : SzP m r.1 := ⟨h.sz r hr⟩
        have e := L_aboveN (n := n) (μ := μ) (l := l) (p := r.1) hw hk
        exact ⟨[.val (dPs rs), .val (dWs rs), .val (dL l), s3, .val (dP r.1), .val (.int r.2), s6], rfl, by simp [e, numlt], fun _ => by simp⟩) (by unfold sizeLine; omega)
  have s1 : biD μ .sum [.lst ((rs.filter fun r => decide (0 < abv l r.1)).map fun r => .int r.2)] = some (.int (moreW l rs)) := by
    have := bi_sum (μ := μ) ((rs.filter fun r => decide (0 < abv l r.1)).map (·.2))
    rw [List.map_map, sum_filter (fun p => decide (0 < abv l p))] at this
    exact this
  have s2 : biD μ .sum [.lst ((rs.filter fun r => decide (abv l r.1 < 0)).map fun r => .int r.2)] = some (.int (lessW l rs)) := by
    have := bi_sum (μ := μ) ((rs.filter fun r => decide (abv l r.1 < 0)).map (·.2))
    rw [List.map_map, sum_filter (fun p => decide (abv l p < 0))] at this
    exact this
  have s' : biD μ .sum [dWs rs] = some (.int (tot rs)) := bi_sum (μ := μ) (rs.map (·.2))
  have b1 := h.part fun p => decide (abv l p < 0)
  have b2 := h.part fun p => decide (0 < abv l p)
  have mx : (if moreW l rs < lessW l rs then lessW l rs else moreW l rs) = max (lessW l rs) (moreW l rs) := by
    split <;> omega
  have mm : opI .mul 2 (if moreW l rs < lessW l rs then lessW l rs else moreW l rs) = some (2 * max (lessW l rs) (moreW l rs)) := by
   rw [mx]
   exact opI_mul (n := 2) (m := 20) (by decide) (by
    unfold lessW moreW
    omega) (by decide)
  refine run_ret at__law_halves rfl ?_
  refine (ss_asg (d := .int (moreW l rs)) (μ1 := μ) ?_).trans ((ss_asg (d := .int (lessW l rs)) (μ1 := μ) ?_).trans (ss_ret ?_))
  · have := c1 .un .un
    simp only [evE_bi, evEs_e, evEs_nil]
    show (((evE (callN tbT wf (n + 3)) (.comp (.var 5) (.tp [.nm 4, .nm 5]) (.zip (.var 0) (.var 1)) [.cmp .gt (.call 49 [.var 2, .var 4]) (.int 0)] [4, 5]) [.val (dPs rs), .val (dWs rs), .val (dL l), .un, .un, .un, .un] μ).bind _).bind _) = _
    rw [this]
    simp [s1]
  · have := c2 (.val (.int (moreW l rs))) .un
    simp only [evE_bi, evEs_e, evEs_nil]
    show (((evE (callN tbT wf (n + 3)) (.comp (.var 5) (.tp [.nm 4, .nm 5]) (.zip (.var 0) (.var 1)) [.cmp .lt (.call 49 [.var 2, .var 4]) (.int 0)] [4, 5]) [.val (dPs rs), .val (dWs rs), .val (dL l), .val (.int (moreW l rs)), .un, .un, .un] μ).bind _).bind _) = _
    rw [this]
    simp [s2]
  · simp [b__law_halves, mm, s', halfB]
end
end K64
set_option Elab.async false
set_option linter.all false
set_option maxRecDepth 100000
set_option maxHeartbeats 400000
namespace K64
open PySem PySem.Spec PyProof.Rows L2 DI
theorem q_two : D.tup [.int 2, .int 1] = dQ 2 := rfl
theorem q_three : D.tup [.int 3, .int 1] = dQ 3 := rfl
theorem sz_two : Sz 3 (2 : Rat) := ⟨⟨by decide +kernel, by decide +kernel⟩⟩
theorem sz_three : Sz 3 (3 : Rat) := ⟨⟨by decide +kernel, by decide +kernel⟩⟩
theorem two_ne : (2 : Rat) ≠ 0 := by decide +kernel
theorem three_ne : (3 : Rat) ≠ 0 := by decide +kernel
theorem nm_zero : Nm 0 := ⟨0, 1, by decide +kernel, by decide, by decide, by decide⟩
def diagP (p : Pt) : Pt := (p.1, p.1)
def zeroP (p : Pt) : Pt := (0, p.2)
theorem sortP_len2 (l : List Pt) : (sortP l).length ≤ l.length := by
  have fold_len : ∀ (l f : List Pt), (l.foldl insP f).length ≤ f.length + l.length := fun l => by
    induction l with
    | nil => exact fun f => Nat.le_refl _
    | cons x l ih =>
      intro f
      have h1 := ih (insP f x)
      have h2 := insP_len (f := f) (p := x)
      rw [List.foldl_cons, List.length_cons]
      omega
  have z := fold_len l []
  rw [List.length_nil, Nat.zero_add] at z
  exact z
section
variable {wf n m k r c b : Nat} {μ : Mem} {x y z : Int} {p q : Pt} {l : Ln} {d : D} {rs : Rows} {u v : Rat}
variable (hw : WF wf)
include hw
omit hw in
theorem L_setP {l : List Pt} (hm : m < 3000) (hl : ∀ p, p ∈ l → SmP m p) (hs : l.length ≤ 1000) : callN tbT wf (n + 3) 45 [.lst (l.map dP)] μ = some (.lst ((sortP l).map dP), μ) := law_set_ok at__law_set (L_ahead (n := n) hm) hl hs
theorem L_low (x y : Int) (m : Nat) (h0 : 0 < y) (h1 : x.natAbs < 2 ^ m) (h2 : y.natAbs < 2 ^ m) (hm : m < 8000) : callN tbT wf (n + 1) 39 [.int x, .int y] μ = some (dQ (Rat.divInt x y), μ) := lfp n μ x y m h0 h1 h2 hm (hw _ (by omega))
theorem coord {most : Nat} (m0 : 0 < most) (mm : most ≤ 1000000) {es : List ME} {xs : List D} (hes : ∀ (env : Ev) (μ : Mem), evE (callN tbT wf (n + 3)) (.lst es) env μ = some (.lst xs, μ)) (x0 : xs ≠ []) (xl : xs.length ≤ 1000) (hx : ∀ d, d ∈ xs → ∃ v : Int, d = .int v ∧ 1 ≤ v ∧ v ≤ 6) {s : Sl} (h : Pur μ c b) (hb : b + 30 < 2 ^ 190) :
    ∃ (q : Rat) (μ' : Mem), evE (callN tbT wf (n + 3)) (.call 39 [.op .sub (.call 33 [.var 0, .var 1]) (.op .fdiv (.var 1) (.int 3)), .call 35 [.var 0, .lst es]]) [.val (.ref c), .val (.int most), s] μ = some (dQ q, μ') ∧ Nm q ∧ Pur μ' c (b + 20) ∧ Ot c μ μ' := by
  obtain ⟨r, μ1, lr, e1, h1, o1⟩ := L_draw (wf := wf) (n := n + 1) μ c b most h (by omega) m0 (Nat.lt_of_le_of_lt mm (by decide))
  obtain ⟨d, μ2, e2, md, h2, o2⟩ := L_one_of (wf := wf) (n := n) (xs := xs) x0 xl μ1 c (b + 10) h1 (by omega)
  obtain ⟨v, rfl, v1, v2⟩ := hx d md
  have fd : opI .fdiv (most : Int) 3 = some ((most / 3 : Nat) : Int) := by
    rw [opI_fdiv (by decide) (n := 2) (by decide) (by decide), Int.fdiv_eq_ediv_of_nonneg _ (by omega)]
    rfl
  have ab : ((r : Int) - ((most / 3 : Nat) : Int)).natAbs ≤ 1000000 := by omega
  have e3 := L_low (n := n + 2) (μ := μ2) hw ((r : Int) - ((most / 3 : Nat) : Int)) v 30 (by omega) (by omega) (by omega) (by decide)
  have e1' : callN tbT wf (n + 3) 33 [.ref c, .int most] μ = some (.int r, μ1) := e1
  refine ⟨_, μ2, ?_, ⟨_, v, rfl, ab, v1, v2⟩, h2.mono (by omega), o1.trans o2⟩
  have hl := hes [.val (.ref c), .val (.int most), s] μ1
  simp [e1', fd, hl, e2, e3, -evE_lst, -Int.natCast_ediv]
theorem L_pt {most : Nat} (m0 : 0 < most) (mm : most ≤ 1000000) (h : Pur μ c b) (hb : b + 60 < 2 ^ 190) : ∃ (p : Pt) (μ' : Mem), callN tbT wf (n + 4) 38 [.ref c, .int most] μ = some (dP p, μ') ∧ NmP p ∧ Pur μ' c (b + 60) ∧ Ot c μ μ' := by
  obtain ⟨x, μ1, e1, n1, h1, o1⟩ := coord (n := n) (es := [.int 1, .int 1, .int 1, .int 2, .int 3]) (xs := [.int 1, .int 1, .int 1, .int 2, .int 3]) (s := .un) hw m0 mm (fun env μ => by simp [sizeLine]) (by simp) (by simp) (fun d hd => by
    simp only [List.mem_cons, List.not_mem_nil, or_false] at hd
    rcases hd with rfl | rfl | rfl | rfl | rfl
    · exact ⟨1, rfl, by decide, by decide⟩
    · exact ⟨1, rfl, by decide, by decide⟩
    · exact ⟨1, rfl, by decide, by decide⟩
    · exact ⟨2, rfl, by decide, by decide⟩
    · exact ⟨3, rfl, by decide, by decide⟩) h (by omega)
  obtain ⟨y, μ2, e2, n2, h2, o2⟩ := coord (n := n) (es := [.int 1, .int 1, .int 1, .int 2]) (xs := [.int 1, .int 1, .int 1, .int 2]) (s := .val (dQ x)) hw m0 mm (fun env μ => by simp [sizeLine]) (by simp) (by simp) (fun d hd => by
    simp only [List.mem_cons, List.not_mem_nil, or_false] at hd
    rcases hd with rfl | rfl | rfl | rfl
    · exact ⟨1, rfl, by decide, by decide⟩
    · exact ⟨1, rfl, by decide, by decide⟩
    · exact ⟨1, rfl, by decide, by decide⟩
    · exact ⟨2, rfl, by decide, by decide⟩) h1 (by omega)
  refine ⟨(x, y), μ2, run_ret at__law_point rfl ((ss_asg e1).trans (ss_ret ?_)), ⟨n1, n2⟩, h2.mono (by omega), o1.trans o2⟩
  rw [evE_tup, evEs_e]
  show ((evE (callN tbT wf (n + 3)) (.var 2) [.val (.ref c), .val (.int most), .val (dQ x)] μ1).bind _).bind _ = _
  rw [dP_mk]
  have e2' := e2
  simp only [evEs_e, evEs_nil, evE_var, List.getElem?_cons_zero, List.getElem?_cons_succ, Option.bind_some, Option.map_some]
  show (Option.map _ (Option.bind (evE (callN tbT wf (n + 3)) (.call 39 [.op .sub (.call 33 [.var 0, .var 1]) (.op .fdiv (.var 1) (.int 3)), .call 35 [.var 0, .lst [.int 1, .int 1, .int 1, .int 2]]]) [.val (.ref c), .val (.int most), .val (dQ x)] μ1) _)).bind _ = _
  rw [e2']
  simp [sizeLine]
theorem L_pts (h : Pur μ c b) (hb : b + 1000 < 2 ^ 190) : ∃ (ps : List Pt) (μ' : Mem), callN tbT wf (n + 6) 46 [.ref c, .int 8, .int 10] μ = some (.lst (ps.map dP), μ') ∧ Srt ps ∧ (∀ p, p ∈ ps → NmP p) ∧ 0 < ps.length ∧ ps.length ≤ 10 ∧ Pur μ' c (b + 1000) ∧ Ot c μ μ' := by
  obtain ⟨k, μ1, lk, e1, h1, o1⟩ := L_draw (wf := wf) (n := n + 3) μ c b 8 h (by omega) (by decide) (by decide)
  obtain ⟨w, μ2, lw, e2, h2, o2⟩ := L_draw (wf := wf) (n := n + 3) μ1 c (b + 10) 5 h1 (by omega) (by decide) (by decide)
  have e1' : callN tbT wf (n + 5) 33 [.ref c, .int 8] μ = some (.int k, μ1) := e1
  have e2' : callN tbT wf (n + 5) 33 [.ref c, .int 5] μ1 = some (.int w, μ2) := e2
  obtain ⟨l, μ3, e3, l3, q3, h3, o3⟩ := draws_rng (C := callN tbT wf (n + 5)) dP NmP 60 (elt := .call 38 [.var 0, .var 2]) (j := 6) (k := 1 + k) (c := c) (b := b + 10 + 10) (es := [.var 3]) (own := [6]) (env := [.val (.ref c), .val (.int 8), .val (.int 10), .val (.int (1 + k : Nat)), .val (.int w), .un, .un, .un, .un]) (μ := μ2) (μ0 := μ2) (by simp) (by omega)
    (fun x μ b h hb => by
      obtain ⟨p, μ', e, q, h', o'⟩ := L_pt (n := n + 1) (most := 10) hw (by decide) (by decide) h hb
      have e' : callN tbT wf (n + 5) 38 [.ref c, .int 10] μ = some (dP p, μ') := e
      exact ⟨p, μ', by simp [wipeE, e'], q, h', o'⟩) h2 (by omega)
  have oo := (o1.trans o2).trans o3
  have hh : Pur μ3 c (b + 1000) := h3.mono (by omega)
  have st1 : evSs (callN tbT wf (n + 5)) wf b__law_points.body [.val (.ref c), .val (.int 8), .val (.int 10), .un, .un, .un, .un, .un, .un] μ = evSs (callN tbT wf (n + 5)) wf (b__law_points.body.drop 2) [.val (.ref c), .val (.int 8), .val (.int 10), .val (.int (1 + k : Nat)), .val (.int w), .val (.lst (l.map dP)), .un, .un, .un] μ3 := by
    refine (ss_nx (e := [.val (.ref c), .val (.int 8), .val (.int 10), .val (.int (1 + k : Nat)), .val (.int w), .un, .un, .un, .un]) (μ1 := μ2) (by simp [e1', e2', parE])).trans ?_
    exact ss_asg e3
  have fin : ∀ (l' : List Pt), (∀ p, p ∈ l' → NmP p) → l'.length ≤ 10 → 0 < l'.length → evSs (callN tbT wf (n + 5)) wf (b__law_points.body.drop 4) [.val (.ref c), .val (.int 8), .val (.int 10), .val (.int (1 + k : Nat)), .val (.int w), .val (.lst (l'.map dP)), .un, .un, .un] μ3 = some (.rt (.lst ((sortP l').map dP)), μ3) ∧ Srt (sortP l') ∧ (∀ p, p ∈ sortP l' → NmP p) ∧ 0 < (sortP l').length ∧ (sortP l').length ≤ 10 := fun l' hq hl hp => by
    have es := L_setP (wf := wf) (n := n + 2) (μ := μ3) (m := 30) (l := l') (by decide) (fun p hp => (hq p hp).sz.h) (by omega)
    have es' : callN tbT wf (n + 5) 45 [.lst (l'.map dP)] μ3 = some (.lst ((sortP l').map dP), μ3) := es
    refine ⟨ss_ret (by simp [es']), sortP_srt l', fun p hp => hq p (sortP_mem.mp hp), ?_, Nat.le_trans (sortP_len2 l') hl⟩
    obtain ⟨p, hp⟩ := List.exists_mem_of_length_pos hp
    exact List.length_pos_of_mem (sortP_mem.mpr hp)
  have sk1 : w ≠ 1 → ∀ X : D, evSs (callN tbT wf (n + 5)) wf (b__law_points.body.drop 3) [.val (.ref c), .val (.int 8), .val (.int 10), .val (.int (1 + k : Nat)), .val (.int w), .val X, .un, .un, .un] μ3 = evSs (callN tbT wf (n + 5)) wf (b__law_points.body.drop 4) [.val (.ref c), .val (.int 8), .val (.int 10), .val (.int (1 + k : Nat)), .val (.int w), .val X, .un, .un, .un] μ3 := fun w1 X => by
    have w1' : ¬ ((w : Int) = 1) := by omega
    exact ss_skip (by simp [eqD_int, w1, w1'])
  by_cases w0 : w = 0
  · have c1 := comp_mapA (C := callN tbT wf (n + 5)) (tg := .tp [.nm 7, .nm 8]) (elt := .tup [.var 7, .tup [.idx (.var 7) (.int 0), .idx (.var 7) (.int 1)]]) (own := [7, 8]) (src := .seq (.var 5)) (env := [.val (.ref c), .val (.int 8), .val (.int 10), .val (.int (1 + k : Nat)), .val (.int w), .val (.lst (l.map dP)), .un, .un, .un]) (μ := μ3) (μ1 := μ3) (l := l) (lks := []) (e := dP) (g := dP ∘ diagP)
      (by simp [evI_seq, itemsD, seqV, lockOf]) rfl (fun p hp => by simp [wipeE, dP, diagP, idx_dQ, sizeLine]; rfl) (by unfold sizeLine; omega)
    obtain ⟨f1, f2, f3, f4, f5⟩ := fin (l.map diagP) (fun p hp => by
      obtain ⟨q, hq, rfl⟩ := List.mem_map.mp hp
      exact ⟨(q3 q hq).1, (q3 q hq).1⟩) (by rw [List.length_map]; omega) (by rw [List.length_map]; omega)
    refine ⟨_, μ3, run_ret at__law_points rfl (st1.trans ?_), f2, f3, f4, f5, hh, oo⟩
    have w1 : w ≠ 1 := by omega
    have g3 := (sk1 w1 (.lst ((l.map diagP).map dP))).trans f1
    have tr : evE (callN tbT wf (n + 5)) (.cmp .eq (.var 4) (.int 0)) [.val (.ref c), .val (.int 8), .val (.int 10), .val (.int (1 + k : Nat)), .val (.int w), .val (.lst (l.map dP)), .un, .un, .un] μ3 = some (.bl true, μ3) := by simp [eqD_int, w0]
    rw [List.map_map] at g3
    have g1 : evSs (callN tbT wf (n + 5)) wf (b__law_points.body.drop 2) [.val (.ref c), .val (.int 8), .val (.int 10), .val (.int (1 + k : Nat)), .val (.int w), .val (.lst (l.map dP)), .un, .un, .un] μ3 = evSs (callN tbT wf (n + 5)) wf (b__law_points.body.drop 3) [.val (.ref c), .val (.int 8), .val (.int 10), .val (.int (1 + k : Nat)), .val (.int w), .val (.lst (l.map (dP ∘ diagP))), .un, .un, .un] μ3 := by
      refine ss_nx ?_
      rw [evS]
      unfold evT
      rw [tr]
      show evSs (callN tbT wf (n + 5)) wf [.asg (.nm 5) (.comp (.tup [.var 7, .tup [.idx (.var 7) (.int 0), .idx (.var 7) (.int 1)]]) (.tp [.nm 7, .nm 8]) (.seq (.var 5)) [] [7, 8])] _ μ3 = _
      rw [ss_asg c1]
      rfl
    exact g1.trans g3
  · have w0' : ¬ ((w : Int) = 0) := by omega
    by_cases w1 : w = 1
    · have lz := L_low (n := n + 4) (μ := μ3) hw 0 1 2 (by decide) (by decide) (by decide) (by decide)
      rw [show Rat.divInt 0 1 = 0 by decide +kernel] at lz
      have cu : slcD μ3 (.lst (l.map dP)) none (some 2) = some (.lst ((l.take 2).map dP)) := by
        show some (D.lst (cutD (l.map dP) none (some ((2 : Nat) : Int)))) = _
        rw [cut_to, List.map_take]
      have c1 := comp_mapA (C := callN tbT wf (n + 5)) (tg := .tp [.nm 7, .nm 8]) (elt := .tup [.call 39 [.int 0, .int 1], .var 8]) (own := [7, 8]) (src := .seq (.slc (.var 5) none (some (.int 2)))) (env := [.val (.ref c), .val (.int 8), .val (.int 10), .val (.int (1 + k : Nat)), .val (.int w), .val (.lst (l.map dP)), .un, .un, .un]) (μ := μ3) (μ1 := μ3) (l := l.take 2) (lks := []) (e := dP) (g := dP ∘ zeroP)
        (by simp [evI_seq, itemsD, seqV, lockOf, cu]) rfl (fun p hp => by simp [wipeE, dP, zeroP, lz, sizeLine]) (by rw [List.length_take]; unfold sizeLine; omega)
      have ad := add_lst (μ := μ3) (l.map dP) ((l.take 2).map (dP ∘ zeroP)) (by simp only [List.length_map, List.length_take]; unfold sizeLine; omega)
      obtain ⟨f1, f2, f3, f4, f5⟩ := fin (l ++ (l.take 2).map zeroP) (fun p hp => by
        rcases List.mem_append.mp hp with hp | hp
        · exact q3 p hp
        · obtain ⟨q, hq, rfl⟩ := List.mem_map.mp hp
          exact ⟨nm_zero, (q3 q (List.mem_of_mem_take hq)).2⟩) (by simp only [List.length_append, List.length_map, List.length_take]; omega) (by simp only [List.length_append, List.length_map, List.length_take]; omega)
      refine ⟨_, μ3, run_ret at__law_points rfl (st1.trans ?_), f2, f3, f4, f5, hh, oo⟩
      refine (ss_skip (μ1 := μ3) (by simp [eqD_int, w0, w0'])).trans ((ss_nx (e := [.val (.ref c), .val (.int 8), .val (.int 10), .val (.int (1 + k : Nat)), .val (.int w), .val (.lst ((l ++ (l.take 2).map zeroP).map dP)), .un, .un, .un]) (μ1 := μ3) ?_).trans f1)
      rw [evS]
      unfold evT
      rw [show evE (callN tbT wf (n + 5)) (.cmp .eq (.var 4) (.int 1)) [.val (.ref c), .val (.int 8), .val (.int 10), .val (.int (1 + k : Nat)), .val (.int w), .val (.lst (l.map dP)), .un, .un, .un] μ3 = some (.bl true, μ3) by simp [eqD_int, w1]]
      show evSs (callN tbT wf (n + 5)) wf [.asg (.nm 5) (.op .add (.var 5) (.comp (.tup [.call 39 [.int 0, .int 1], .var 8]) (.tp [.nm 7, .nm 8]) (.seq (.slc (.var 5) none (some (.int 2)))) [] [7, 8]))] _ μ3 = _
      have sum : evE (callN tbT wf (n + 5)) (.op .add (.var 5) (.comp (.tup [.call 39 [.int 0, .int 1], .var 8]) (.tp [.nm 7, .nm 8]) (.seq (.slc (.var 5) none (some (.int 2)))) [] [7, 8])) [.val (.ref c), .val (.int 8), .val (.int 10), .val (.int (1 + k : Nat)), .val (.int w), .val (.lst (l.map dP)), .un, .un, .un] μ3 = some (.lst ((l ++ (l.take 2).map zeroP).map dP), μ3) := by
        rw [evE_op]
        show ((evE (callN tbT wf (n + 5)) (.comp (.tup [.call 39 [.int 0, .int 1], .var 8]) (.tp [.nm 7, .nm 8]) (.seq (.slc (.var 5) none (some (.int 2)))) [] [7, 8]) [.val (.ref c), .val (.int 8), .val (.int 10), .val (.int (1 + k : Nat)), .val (.int w), .val (.lst (l.map dP)), .un, .un, .un] μ3).bind _) = _
        rw [c1]
        show Option.map _ (opD μ3 .add (.lst (l.map dP)) (.lst ((l.take 2).map (dP ∘ zeroP)))) = _
        rw [ad, List.map_append, List.map_map]
        rfl
      rw [ss_asg sum]
      rfl
    · have w1' : ¬ ((w : Int) = 1) := by omega
      obtain ⟨f1, f2, f3, f4, f5⟩ := fin l q3 (by omega) (by omega)
      exact ⟨_, μ3, run_ret at__law_points rfl (st1.trans ((ss_skip (μ1 := μ3) (by simp [eqD_int, w0, w0'])).trans ((ss_skip (μ1 := μ3) (by simp [eqD_int, w1, w1'])).trans f1))), f2, f3, f4, f5, hh, oo⟩
omit hw in
theorem L_ws {ps : List Pt} (h : Pur μ c b) (hb : b + 1000 < 2 ^ 190) (p0 : 0 < ps.length) (pl : ps.length ≤ 10) : ∃ (ws : List Int) (μ' : Mem), callN tbT wf (n + 4) 47 [.ref c, .lst (ps.map dP)] μ = some (.lst (ws.map D.int), μ') ∧ ws.length = ps.length ∧ (∀ w, w ∈ ws → 0 ≤ w ∧ w ≤ 1000) ∧ 0 < ws.sum ∧ Pur μ' c (b + 1000) ∧ Ot c μ μ' := by
  obtain ⟨d, μ1, e1, m1, h1, o1⟩ := L_one_of (wf := wf) (n := n) (xs := [.int 1, .int 1, .int 3, .int 5, .int 40]) (by simp) (by simp) μ c b h (by omega)
  obtain ⟨t, rfl, t1, t2⟩ : ∃ t : Nat, d = .int t ∧ 1 ≤ t ∧ t ≤ 40 := by
    simp only [List.mem_cons, List.not_mem_nil, or_false] at m1
    rcases m1 with rfl | rfl | rfl | rfl | rfl
    · exact ⟨1, rfl, by decide, by decide⟩
    · exact ⟨1, rfl, by decide, by decide⟩
    · exact ⟨3, rfl, by decide, by decide⟩
    · exact ⟨5, rfl, by decide, by decide⟩
    · exact ⟨40, rfl, by decide, by decide⟩
  have hI : evI (callN tbT wf (n + 3)) (.seq (.var 1)) [.val (.ref c), .val (.lst (ps.map dP)), .val (.int t), .un, .un] μ1 = some ((ps.map dP, []), μ1) := by simp [evI_seq, itemsD, seqV, lockOf]
  obtain ⟨ws, μ2, e2, l2, q2, h2, o2⟩ := draws_seq (C := callN tbT wf (n + 3)) D.int (fun w : Int => 0 ≤ w ∧ w ≤ 1000) 10 (elt := .ite (.cmp .gt (.var 2) (.int 1)) (.call 33 [.var 0, .op .add (.var 2) (.int 1)]) (.int 1)) (j := 4) (own := [4]) hI (by rw [List.length_map]; omega)
    (fun x μ b h hb => by
      by_cases t0 : 1 < t
      · obtain ⟨r, μ', lr, e, h', o'⟩ := L_draw (wf := wf) (n := n + 1) μ c b (t + 1) h (by omega) (by omega) (Nat.lt_of_le_of_lt (show t + 1 ≤ 41 by omega) (by decide))
        have e' : callN tbT wf (n + 3) 33 [.ref c, .int ((t : Int) + 1)] μ = some (.int r, μ') := e
        have t0' : (1 : Int) < t := by omega
        exact ⟨r, μ', by simp [wipeE, t0, e']; intro z; omega, by omega, h', o'⟩
      · have t0' : ¬ (1 : Int) < t := by omega
        exact ⟨1, μ, by simp [wipeE, t0]; intro z; omega, by omega, h.mono (by omega), Ot.refl⟩) h1 (by rw [List.length_map]; omega)
  rw [List.length_map] at l2 h2
  have a1 := ss_asg (C := callN tbT wf (n + 3)) (wf := wf) (j := 2) (ss := b__law_weights.body.drop 1) (env := [.val (.ref c), .val (.lst (ps.map dP)), .un, .un, .un]) (μ := μ) (x := .call 35 [.var 0, .lst [.int 1, .int 1, .int 3, .int 5, .int 40]]) (d := .int t) (μ1 := μ1) (by simp [sizeLine, e1])
  have bs := bi_sum (μ := μ2) ws
  by_cases s0 : 0 < ws.sum
  · refine ⟨ws, μ2, run_ret at__law_weights rfl (a1.trans ((ss_asg e2).trans (ss_ret ?_))), l2, q2, s0, h2.mono (by omega), o1.trans o2⟩
    simp [bs, s0]
  · have rp : ∀ k : Nat, (List.replicate k [D.int 1]).flatten = (List.replicate k (1 : Int)).map D.int := fun k => by
      induction k with
      | zero => rfl
      | succ k ih => rw [List.replicate_succ, List.replicate_succ, List.flatten_cons, ih]; rfl
    have mu : opD μ2 .mul (.lst [.int 1]) (.int (ps.length : Nat)) = some (.lst ((List.replicate ps.length (1 : Int)).map D.int)) := by
      rw [← rp]
      show (if 0 ≤ ((ps.length : Nat) : Int) ∧ ((ps.length : Nat) : Int) ≤ 1000 ∧ [D.int 1].length ≤ 1000 then some (D.lst (List.replicate ((ps.length : Nat) : Int).toNat [D.int 1]).flatten) else none) = _
      rw [if_pos ⟨by omega, by omega, by simp⟩, Int.toNat_natCast]
    refine ⟨List.replicate ps.length 1, μ2, run_ret at__law_weights rfl (a1.trans ((ss_asg e2).trans (ss_ret ?_))), List.length_replicate, fun w hw => ?_, ?_, h2.mono (by omega), o1.trans o2⟩
    · simp [bs, s0, lenD, seqV, sizeLine, mu, -List.map_replicate]
    · obtain ⟨_, rfl⟩ := List.mem_replicate.mp hw
      exact ⟨by decide, by decide⟩
    · rw [List.sum_replicate_int]
      omega
end
end K64
set_option Elab.async false
set_option linter.all false
set_option maxRecDepth 100000
set_option maxHeartbeats 400000
namespace K64
open PySem PySem.Spec PyProof.Rows L2 DI
theorem WS.shown {rs : Rows} (h : WS rs 30) : ∃ t : Str, PyData.strOk t = true ∧ ∀ μ : Mem, biD μ .repr [.lst [dPs rs, dWs rs]] = some (.str t) := by
  have wq : ∀ q : Rat, wt 30 (dQ q) ≤ 90 := fun q => by simp [dQ, wt, wts]
  have wp : ∀ p : Pt, wt 30 (dP p) ≤ 200 := fun p => by
    have h1 := wq p.1
    have h2 := wq p.2
    simp only [dP, wt, wts, List.length_cons, List.length_nil]
    omega
  have wl : ∀ i : Int, wt 30 (D.int i) ≤ 200 := fun l => by simp [wt]
  have bq : ∀ q : Rat, Sm 30 q → bitsD 30 (dQ q) = true := fun q h => by
    have h1 := h.1
    have h2 := h.2
    simp only [dQ, bitsD, bitsDs, Bool.and_eq_true, decide_eq_true_eq, Int.natAbs_natCast, and_true]
    exact ⟨h1, h2⟩
  have bp : ∀ p, p ∈ rs.map (·.1) → bitsD 30 (dP p) = true := fun p hp => by
    obtain ⟨r, hr, rfl⟩ := List.mem_map.mp hp
    have z := h.sz r hr
    simp only [dP, bitsD, bitsDs, bq _ z.1, bq _ z.2, Bool.and_self]
  have bl : ∀ w, w ∈ rs.map (·.2) → bitsD 30 (D.int w) = true := fun w hw => by
    obtain ⟨r, hr, rfl⟩ := List.mem_map.mp hw
    have z1 := h.lo r hr
    have z2 := h.hi r hr
    have h1 : r.2.natAbs < 2 ^ 30 := by omega
    simp only [bitsD, decide_eq_true h1]
  have ln := h.len
  have pi : ∀ (l : List Int), l.length ≤ 1000 → plainD 3 (.lst (l.map D.int)) = true := fun l hl => plain_list (fun _ => rfl) l hl
  refine repr_plain (m := 30) (n := 4) ?_ (by decide) ?_ (by decide) ?_
  · simp only [plainD, List.all_cons, List.all_nil, Bool.and_true, Bool.and_eq_true, decide_eq_true_eq]
    have h1 := plain_list plain_dP (rs.map (·.1)) (by rw [List.length_map]; omega)
    have h2 := pi (rs.map (·.2)) (by rw [List.length_map]; omega)
    simp only [plainD, Bool.and_eq_true, decide_eq_true_eq] at h1 h2
    exact ⟨⟨h1, h2⟩, by simp⟩
  · simp only [bitsD, bitsDs, bits_map _ bp, bits_map _ bl, Bool.and_self]
  · have h1 := wts_map (m := 30) (b := 200) (rs.map (·.1)) (fun p _ => wp p)
    have h2 := wts_map (m := 30) (b := 200) (rs.map (·.2)) (fun p _ => wl p)
    rw [List.length_map] at h1 h2
    simp only [wt, wts, List.length_map, List.length_cons, List.length_nil]
    unfold sizeLine
    omega
abbrev row (l : Ln) (rs : Rows) : D := .tup [.int (lessW l rs), .int (tot rs - lessW l rs - moreW l rs), .int (moreW l rs)]
/-- a line that is drawn -/
def Gl' (l : Ln) : Prop := IsL l ∧ SzL 305 l
section
variable {wf n m k r c b : Nat} {μ : Mem} {p q : Pt} {l : Ln} {rs : Rows} {F G : List Ln}
variable (hw : WF wf)
include hw
theorem E_lines (h : WS rs 30) (hl : rs.length ≤ 10) (hd : DueL rs F G) : callN tbT wf (n + 4) 27 [dPs rs] μ = some (.lst (G.map dL), μ) := by
  have c1 := comp_mapA (C := callN tbT wf (n + 3)) (tg := .tp [.nm 1, .nm 2]) (elt := .call 19 [.var 1, .var 2]) (own := [1, 2]) (src := .comb (.var 0)) (env := [.val (dPs rs), .un, .un]) (μ := μ) (μ1 := μ) (l := pairsP (rs.map (·.1))) (lks := []) (e := fun w => .tup [dP w.1, dP w.2]) (g := fun w => dL (thr w.1 w.2))
    (by rw [evI_comb]; simp only [evE_var, List.getElem?_cons_zero, Option.bind_some, seqV, Option.map_some, comb_dP]) rfl (fun w hx => by
      obtain ⟨w1, w2, w3⟩ := pairs_ne h.srt w hx
      obtain ⟨r1, hr1, e1⟩ := List.mem_map.mp w2
      obtain ⟨r2, hr2, e2⟩ := List.mem_map.mp w3
      have s1 : SzP 30 w.1 := ⟨by rw [← e1]; exact h.sz r1 hr1⟩
      have s2 : SzP 30 w.2 := ⟨by rw [← e2]; exact h.sz r2 hr2⟩
      simp [wipeE, E_through (n := n) (μ := μ) hw w1 (by decide)]) (by
      have := pairs_small (ps := rs.map (·.1)) (by rw [List.length_map]; exact hl)
      unfold sizeLine
      omega)
  refine run_ret at_lines_of rfl (ss_ret ?_)
  rw [evE_sset]
  show (evE (callN tbT wf (n + 3)) (.comp (.call 19 [.var 1, .var 2]) (.tp [.nm 1, .nm 2]) (.comb (.var 0)) [] [1, 2]) [.val (dPs rs), .un, .un] μ).bind _ = _
  rw [c1]
  simp only [Option.bind_some, seqV]
  rw [show ((pairsP (rs.map (·.1))).map fun w => dL (thr w.1 w.2)) = (pairsL (rs.map (·.1))).map dL by unfold pairsL; rw [List.map_map]; rfl, hd.all]
  rfl
omit hw in
theorem good_of (h : WS rs 30) (hd : DueL rs F G) : ∀ l, l ∈ G → Gl' l := fun l hl => by
  have z := (hd.memG l).mp hl
  unfold pairsL at z
  obtain ⟨w, hx, rfl⟩ := List.mem_map.mp z
  obtain ⟨w1, w2, w3⟩ := pairs_ne h.srt w hx
  obtain ⟨r1, hr1, e1⟩ := List.mem_map.mp w2
  obtain ⟨r2, hr2, e2⟩ := List.mem_map.mp w3
  exact ⟨(thr_spec w1).1, thr_sz30 (by rw [← e1]; exact h.sz r1 hr1) (by rw [← e2]; exact h.sz r2 hr2) w1⟩
theorem E_hl (h : WS rs 30) (hl : rs.length ≤ 10) (hd : DueL rs F G) : callN tbT wf (n + 8) 30 [dPs rs, dWs rs] μ = some (.lst (F.map dL), μ) := by
  have e1 := E_chkW (wf := wf) (n := n) (μ := μ) h (by decide)
  have e2 := E_lines (n := n + 3) (μ := μ) hw h hl hd
  have gd := good_of h hd
  have c2 := comp_selG (C := callN tbT wf (n + 7)) (tg := .nm 2) (elt := .var 2) (c := .call 26 [.var 0, .var 1, .var 2]) (own := [2]) (src := .seq (.call 27 [.var 0])) (env := [.val (dPs rs), .val (dWs rs), .un]) (μ := μ) (μ1 := μ) (l := G) (lks := []) (e := dL) (g := dL) (p := (halfB · rs))
    (by simp [evI_seq, e2, itemsD, seqV, lockOf]) rfl (fun l hl => by
      have sl := (gd l hl).2
      have eh := E_halves (n := n + 1) (μ := μ) (l := l) hw h (by decide)
      exact ⟨[.val (dPs rs), .val (dWs rs), .val (dL l)], rfl, by simp [eh], fun _ => by simp⟩) (by have := hd.len; unfold sizeLine; omega)
  rw [hd.fil] at c2
  refine run_ret at_halving_lines rfl ?_
  exact (ss_nx (e := [.val (dPs rs), .val (dWs rs), .un]) (μ1 := μ) (by simp [b_halving_lines, e1])).trans (ss_ret c2)
theorem E_sw (h : WS rs 30) (g : Gl' l) : callN tbT wf (n + 8) 28 [dPs rs, dWs rs, dL l] μ = some (row l rs, μ) := by
  have e1 := E_chkW (wf := wf) (n := n) (μ := μ) h (by decide)
  have e2 := E_chkL (wf := wf) (n := n + 4) (μ := μ) g.1
  have sl := g.2
  obtain ⟨on, ho, e3⟩ := E_sides (n := n + 2) (μ := μ) (l := l) hw h (by decide)
  subst ho
  refine run_ret at_side_weights rfl ?_
  exact (ss_nx (e := [.val (dPs rs), .val (dWs rs), .val (dL l)]) (μ1 := μ) (by simp [b_side_weights, e1])).trans ((ss_nx (e := [.val (dPs rs), .val (dWs rs), .val (dL l)]) (μ1 := μ) (by simp [e2])).trans (ss_ret (by simp [e3])))
theorem E_dh (h : WS rs 30) (g : Gl' l) : callN tbT wf (n + 8) 29 [dPs rs, dWs rs, dL l] μ = some (.bl (halfB l rs), μ) := by
  have e1 := E_chkW (wf := wf) (n := n) (μ := μ) h (by decide)
  have e2 := E_chkL (wf := wf) (n := n + 4) (μ := μ) g.1
  have sl := g.2
  have e3 := E_halves (n := n + 1) (μ := μ) (l := l) hw h (by decide)
  refine run_ret at_does_halve rfl ?_
  exact (ss_nx (e := [.val (dPs rs), .val (dWs rs), .val (dL l)]) (μ1 := μ) (by simp [b_does_halve, e1])).trans ((ss_nx (e := [.val (dPs rs), .val (dWs rs), .val (dL l)]) (μ1 := μ) (by simp [e2])).trans (ss_ret (by simp [e3])))
/-- some lines, drawn -/
theorem L_sl {ps : List Pt} (h : Pur μ c b) (hb : b + 1000 < 2 ^ 190) (p0 : 0 < ps.length) (pl : ps.length ≤ 10) (hp : ∀ p, p ∈ ps → NmP p) : ∃ (ls : List Ln) (μ' : Mem), callN tbT wf (n + 5) 51 [.ref c, .lst (ps.map dP)] μ = some (.lst (ls.map dL), μ') ∧ ls.length ≤ 8 ∧ (∀ l, l ∈ ls → Gl' l) ∧ Pur μ' c (b + 1000) ∧ Ot c μ μ' := by
  have pick : ∀ (μ : Mem) (b : Nat), Pur μ c b → b < 2 ^ 190 → ∃ (p : Pt) (μ' : Mem), callN tbT wf (n + 4) 35 [.ref c, .lst (ps.map dP)] μ = some (dP p, μ') ∧ NmP p ∧ Pur μ' c (b + 10) ∧ Ot c μ μ' := fun μ b h hb => by
    obtain ⟨d, μ', e, md, h', o'⟩ := L_one_of (wf := wf) (n := n + 1) (xs := ps.map dP) (fun z => by rw [List.map_eq_nil_iff] at z; rw [z] at p0; simp at p0) (by rw [List.length_map]; omega) μ c b h hb
    obtain ⟨p, hp', rfl⟩ := List.mem_map.mp md
    exact ⟨p, μ', e, hp p hp', h', o'⟩
  obtain ⟨env', μ', hf, done, v3, v4, v5, v6, he, hd, hl, hP, ho⟩ := for_run (C := callN tbT wf (n + 4)) (wf := wf) (tg := .nm 3) (src := .rng [.int 4]) (body := [
    .par [4, 5] [.call 38 [.var 0, .int 12], .call 35 [.var 0, .var 1]],
    .asg (.nm 6) (.call 38 [.var 0, .int 12]),
    .asg (.nm 2) (.op .add (.var 2) (.ite (.cmp .ne (.var 4) (.var 5)) (.lst [.call 48 [.var 4, .var 5]]) (.lst []))),
    .asg (.nm 2) (.op .add (.var 2) (.ite (.cmp .ne (.var 4) (.var 6)) (.lst [.call 48 [.var 4, .var 6]]) (.lst [])))])
    (env := [.val (.ref c), .val (.lst (ps.map dP)), .val (.lst []), .un, .un, .un, .un]) (μ := μ) (μ1 := μ) (xs := [0, 1, 2, 3].map fun (i : Int) => D.int i) (lks := [])
    (P := fun r e ν => ∃ (done : List Ln) (v3 v4 v5 v6 : Sl), e = [.val (.ref c), .val (.lst (ps.map dP)), .val (.lst (done.map dL)), v3, v4, v5, v6] ∧ (∀ l, l ∈ done → Gl' l) ∧ done.length + 2 * r.length ≤ 8 ∧ Pur ν c (b + 200 * (4 - r.length)) ∧ Ot c μ ν)
    (rng1 (j := 4) (by simp) (by decide)) rfl (fun _ _ _ _ => rfl) (fun x r e ν hq => by
      obtain ⟨done, v3, v4, v5, v6, he, hd, hl, hP, ho⟩ := hq
      subst he
      rw [List.length_cons] at hl hP
      obtain ⟨a0, ν1, e1, n1, h1, o1⟩ := L_pt (n := n) (most := 12) hw (by decide) (by decide) hP (by omega)
      have e1' : callN tbT wf (n + 4) 38 [.ref c, .int 12] ν = some (dP a0, ν1) := e1
      obtain ⟨a1, ν2, e2, n2, h2, o2⟩ := pick ν1 _ h1 (by omega)
      obtain ⟨a2, ν3, e3, n3, h3, o3⟩ := L_pt (n := n) (most := 12) hw (by decide) (by decide) h2 (by omega)
      have e3' : callN tbT wf (n + 4) 38 [.ref c, .int 12] ν2 = some (dP a2, ν3) := e3
      have z0 := n1.sz
      have z1 := n2.sz
      have z2 := n3.sz
      have one : ∀ (dn : List Ln) (p q : Pt) (hp : SzP 30 p) (hq : SzP 30 q), (∀ l, l ∈ dn → Gl' l) → dn.length ≤ 7 → ∃ dn' : List Ln, (∀ l, l ∈ dn' → Gl' l) ∧ dn'.length ≤ dn.length + 1 ∧ ∀ (i : Nat) (env : Ev), env[2]? = some (.val (.lst (dn.map dL))) → env[4]? = some (.val (dP p)) → env[i]? = some (.val (dP q)) →
          evE (callN tbT wf (n + 4)) (.op .add (.var 2) (.ite (.cmp .ne (.var 4) (.var i)) (.lst [.call 48 [.var 4, .var i]]) (.lst []))) env ν3 = some (.lst (dn'.map dL), ν3) := fun dn p q hp hq hg hl => by
        by_cases ne : p = q
        · refine ⟨dn, hg, Nat.le_succ _, fun i env q1 q2 q3 => ?_⟩
          have ad := add_lst (μ := ν3) (dn.map dL) [] (by rw [List.length_map, List.length_nil]; unfold sizeLine; omega)
          simp [q1, q2, q3, eqD_P, ne, ad]
        · refine ⟨dn ++ [thr p q], fun l hl => ?_, by rw [List.length_append]; simp, fun i env q1 q2 q3 => ?_⟩
          · rcases List.mem_append.mp hl with hl | hl
            · exact hg l hl
            · rw [List.mem_singleton] at hl
              rw [hl]
              exact ⟨(thr_spec ne).1, thr_sz30 hp.h hq.h ne⟩
          · have ad := add_lst (μ := ν3) (dn.map dL) [dL (thr p q)] (by rw [List.length_map, List.length_cons, List.length_nil]; unfold sizeLine; omega)
            simp [q1, q2, q3, eqD_P, ne, L_line (n := n + 1) (μ := ν3) hw ne (by decide), ad, sizeLine]
      obtain ⟨d1, g1, l1, f1⟩ := one done a0 a1 z0 z1 hd (by omega)
      obtain ⟨d2, g2, l2, f2⟩ := one d1 a0 a2 z0 z2 g1 (by omega)
      refine ⟨_, [.val (.ref c), .val (.lst (ps.map dP)), .val (.lst (d2.map dL)), .val x, .val (dP a0), .val (dP a1), .val (dP a2)], ν3, rfl, ?_, d2, _, _, _, _, rfl, g2, by omega, h3.mono (by omega), ((ho.trans o1).trans o2).trans o3⟩
      refine (ss_nx (e := [.val (.ref c), .val (.lst (ps.map dP)), .val (.lst (done.map dL)), .val x, .val (dP a0), .val (dP a1), v6]) (μ1 := ν2) (by simp [e1', e2, parE])).trans ?_
      refine (ss_asg (d := dP a2) (μ1 := ν3) (by simp [e3'])).trans ?_
      exact (ss_asg (f1 5 _ rfl rfl rfl)).trans ((ss_asg (f2 6 _ rfl rfl rfl)).trans (evSs_nil ..))) ⟨[], .un, .un, .un, .un, rfl, (fun _ z => nomatch z), by simp, h.mono (by omega), Ot.refl⟩
  refine ⟨done, μ', run_ret at__law_some_lines rfl ?_, by simpa using hl, hd, hP.mono (by simp), ho⟩
  refine (ss_asg (d := .lst []) (μ1 := μ) (by simp [sizeLine])).trans ((ss_nx hf).trans ?_)
  rw [he]
  exact ss_ret (by simp)
end
end K64
set_option Elab.async false
set_option linter.all false
set_option maxRecDepth 100000
set_option maxHeartbeats 400000
namespace K64
open PySem PySem.Spec PyProof.Rows L2 DI
def b1 : List MS := match b__law_case_right.body.drop 3 with
  | .for _ _ b :: _ => b
  | _ => []
def b2 : List MS := match b__law_case_right.body.drop 8 with
  | .for _ _ b :: _ => b
  | _ => []
theorem case1 : b__law_case_right.body.drop 3 = .for (.tp [.nm 5, .nm 6]) (.enum (.var 1)) b1 :: b__law_case_right.body.drop 4 := rfl
theorem case2 : b__law_case_right.body.drop 8 = .for (.nm 9) (.seq (.op .add (.slc (.call 36 [.var 0, .var 4]) none (some (.int 4))) (.call 51 [.var 0, .var 1]))) b2 :: b__law_case_right.body.drop 9 := rfl
theorem zip_nums (l : Ln) (rs : Rows) : zipD ((rs.map (·.1)).map fun p => D.int (abv l p).num) ((rs.map (·.2)).map D.int) = rs.map fun r => .tup [.int (abv l r.1).num, .int r.2] := by
  rw [zipD_map, zip_rows']
section
variable {wf n m k r c b : Nat} {μ ν : Mem} {p q : Pt} {l : Ln} {rs : Rows} {F G : List Ln}
variable (hw : WF wf)
include hw
theorem ln_step (h : WS rs 30) (g : Gl' l) {s0 s3 s4 s5 s6 s7 s8 s10 s11 s13 s16 s17 s18 s19 : Sl} : ∃ (u10 u11 u13 u16 u17 u18 u19 : Sl), evSs (callN tbT wf (n + 20)) wf b2 [s0, .val (dPs rs), .val (dWs rs), s3, s4, s5, s6, s7, s8, .val (dL l), s10, s11, .un, s13, .un, .un, s16, s17, s18, s19] ν =
    some (.nx [s0, .val (dPs rs), .val (dWs rs), s3, s4, s5, s6, s7, s8, .val (dL l), u10, u11, .un, u13, .un, .un, u16, u17, u18, u19], ν) := by
  have ln := h.len
  have sl := g.2
  have numlt : ∀ q : Rat, q.num < 0 ↔ q < 0 := fun q => by simp [Rat.lt_iff]
  have numgt : ∀ q : Rat, 0 < q.num ↔ 0 < q := fun q => by simp [Rat.lt_iff]
  have c0 := comp_mapA (C := callN tbT wf (n + 20)) (tg := .nm 12) (elt := .call 49 [.var 9, .var 12]) (own := [12]) (src := .seq (.var 1)) (env := [s0, .val (dPs rs), .val (dWs rs), s3, s4, s5, s6, s7, s8, .val (dL l), s10, s11, .un, s13, .un, .un, s16, s17, s18, s19]) (μ := ν) (μ1 := ν) (l := rs.map (·.1)) (lks := []) (e := dP) (g := fun p => .int (abv l p).num)
    (by simp [evI_seq, itemsD, seqV, lockOf]) rfl (fun p hp => by
      obtain ⟨r, hr, rfl⟩ := List.mem_map.mp hp
      have sr : SzP 30 r.1 := ⟨h.sz r hr⟩
      simp [wipeE, L_aboveN (n := n + 17) (μ := ν) (l := l) (p := r.1) hw (by decide)]) (by rw [List.length_map]; unfold sizeLine; omega)
  have a0 := ss_asg (C := callN tbT wf (n + 20)) (wf := wf) (j := 11) (ss := b2.drop 1) c0
  generalize hS : (.lst ((rs.map (·.1)).map fun p => D.int (abv l p).num) : D) = Sd at a0
  have zp : ∀ (env : Ev), env[11]? = some (.val Sd) → env[2]? = some (.val (dWs rs)) → evI (callN tbT wf (n + 20)) (.zip (.var 11) (.var 2)) env ν = some ((rs.map fun r => .tup [.int (abv l r.1).num, .int r.2], []), ν) := fun env q1 q2 => by
    rw [← hS] at q1
    simp only [evI_zip, evE_var, q1, q2, Option.bind_some, Option.map_some, seqV, lockOf, zip_nums]
    rfl
  have c1 := comp_selG (C := callN tbT wf (n + 20)) (elt := .var 15) (tg := .tp [.nm 14, .nm 15]) (c := .cmp .lt (.var 14) (.int 0)) (own := [14, 15]) (env := [s0, .val (dPs rs), .val (dWs rs), s3, s4, s5, s6, s7, s8, .val (dL l), s10, .val Sd, .un, s13, .un, .un, s16, s17, s18, s19]) (μ := ν) (μ1 := ν) (l := rs) (lks := []) (e := fun r => .tup [.int (abv l r.1).num, .int r.2]) (g := fun r => .int r.2) (p := fun r => decide (abv l r.1 < 0))
    (zp _ rfl rfl) rfl (fun r hr => ⟨[s0, .val (dPs rs), .val (dWs rs), s3, s4, s5, s6, s7, s8, .val (dL l), s10, .val Sd, .un, s13, .val (.int (abv l r.1).num), .val (.int r.2), s16, s17, s18, s19], rfl, by simp [numlt], fun _ => by simp⟩) (by unfold sizeLine; omega)
  have s2 : biD ν .sum [.lst ((rs.filter fun r => decide (abv l r.1 < 0)).map fun r => .int r.2)] = some (.int (lessW l rs)) := by
    have := bi_sum (μ := ν) ((rs.filter fun r => decide (abv l r.1 < 0)).map (·.2))
    rw [List.map_map, sum_filter (fun p => decide (abv l p < 0))] at this
    exact this
  have a1 := ss_asg (C := callN tbT wf (n + 20)) (wf := wf) (j := 13) (ss := b2.drop 2) (x := .bi .sum [.comp (.var 15) (.tp [.nm 14, .nm 15]) (.zip (.var 11) (.var 2)) [.cmp .lt (.var 14) (.int 0)] [14, 15]]) (env := [s0, .val (dPs rs), .val (dWs rs), s3, s4, s5, s6, s7, s8, .val (dL l), s10, .val Sd, .un, s13, .un, .un, s16, s17, s18, s19]) (μ := ν) (μ1 := ν) (d := .int (lessW l rs)) (by
    simp only [evE_bi, evEs_e, evEs_nil, c1, Option.bind_some, Option.map_some, s2])
  have c2 := comp_selG (C := callN tbT wf (n + 20)) (elt := .var 15) (tg := .tp [.nm 14, .nm 15]) (c := .cmp .gt (.var 14) (.int 0)) (own := [14, 15]) (env := [s0, .val (dPs rs), .val (dWs rs), s3, s4, s5, s6, s7, s8, .val (dL l), s10, .val Sd, .un, .val (.int (lessW l rs)), .un, .un, s16, s17, s18, s19]) (μ := ν) (μ1 := ν) (l := rs) (lks := []) (e := fun r => .tup [.int (abv l r.1).num, .int r.2]) (g := fun r => .int r.2) (p := fun r => decide (0 < abv l r.1))
    (zp _ rfl rfl) rfl (fun r hr => ⟨[s0, .val (dPs rs), .val (dWs rs), s3, s4, s5, s6, s7, s8, .val (dL l), s10, .val Sd, .un, .val (.int (lessW l rs)), .val (.int (abv l r.1).num), .val (.int r.2), s16, s17, s18, s19], rfl, by simp [numgt], fun _ => by simp⟩) (by unfold sizeLine; omega)
  have s1 : biD ν .sum [.lst ((rs.filter fun r => decide (0 < abv l r.1)).map fun r => .int r.2)] = some (.int (moreW l rs)) := by
    have := bi_sum (μ := ν) ((rs.filter fun r => decide (0 < abv l r.1)).map (·.2))
    rw [List.map_map, sum_filter (fun p => decide (0 < abv l p))] at this
    exact this
  have a2 := ss_asg (C := callN tbT wf (n + 20)) (wf := wf) (j := 16) (ss := b2.drop 3) (x := .bi .sum [.comp (.var 15) (.tp [.nm 14, .nm 15]) (.zip (.var 11) (.var 2)) [.cmp .gt (.var 14) (.int 0)] [14, 15]]) (env := [s0, .val (dPs rs), .val (dWs rs), s3, s4, s5, s6, s7, s8, .val (dL l), s10, .val Sd, .un, .val (.int (lessW l rs)), .un, .un, s16, s17, s18, s19]) (μ := ν) (μ1 := ν) (d := .int (moreW l rs)) (by
    simp only [evE_bi, evEs_e, evEs_nil, c2, Option.bind_some, Option.map_some, s1])
  have s' : biD ν .sum [dWs rs] = some (.int (tot rs)) := bi_sum (μ := ν) (rs.map (·.2))
  have a3 := ss_asg (C := callN tbT wf (n + 20)) (wf := wf) (j := 17) (ss := b2.drop 4) (x := .tup [.var 13, .op .sub (.op .sub (.bi .sum [.var 2]) (.var 13)) (.var 16), .var 16]) (env := [s0, .val (dPs rs), .val (dWs rs), s3, s4, s5, s6, s7, s8, .val (dL l), s10, .val Sd, .un, .val (.int (lessW l rs)), .un, .un, .val (.int (moreW l rs)), s17, s18, s19]) (μ := ν) (μ1 := ν) (d := row l rs) (by simp [s', sizeLine])
  have T1 := E_sw (n := n + 12) (μ := ν) hw h g
  have T2 := E_dh (n := n + 12) (μ := ν) hw h g
  generalize hR : row l rs = R at *
  have a4 := ss_asg (C := callN tbT wf (n + 20)) (wf := wf) (j := 10) (ss := b2.drop 5) (x := .lst [.call 28 [.var 1, .var 2, .var 9], .callk 28 [] [.var 9, .var 2, .var 1] [2, 1, 0]]) (env := [s0, .val (dPs rs), .val (dWs rs), s3, s4, s5, s6, s7, s8, .val (dL l), s10, .val Sd, .un, .val (.int (lessW l rs)), .un, .un, .val (.int (moreW l rs)), .val R, s18, s19]) (μ := ν) (μ1 := ν) (d := .lst [R, R]) (by simp [T1, permD, sizeLine])
  have b1 := h.part fun p => decide (abv l p < 0)
  have b2' := h.part fun p => decide (0 < abv l p)
  have mx : (if lessW l rs < moreW l rs then moreW l rs else lessW l rs) = max (lessW l rs) (moreW l rs) := by
    split <;> omega
  have mm : opI .mul 2 (if lessW l rs < moreW l rs then moreW l rs else lessW l rs) = some (2 * max (lessW l rs) (moreW l rs)) := by
   rw [mx]
   exact opI_mul (n := 2) (m := 20) (by decide) (by
    unfold lessW moreW
    omega) (by decide)
  have a5 := ss_asg (C := callN tbT wf (n + 20)) (wf := wf) (j := 18) (ss := b2.drop 6) (x := .cmp .le (.op .mul (.int 2) (.bi .max [.var 13, .var 16])) (.bi .sum [.var 2])) (env := [s0, .val (dPs rs), .val (dWs rs), s3, s4, s5, s6, s7, s8, .val (dL l), .val (.lst [R, R]), .val Sd, .un, .val (.int (lessW l rs)), .un, .un, .val (.int (moreW l rs)), .val R, s18, s19]) (μ := ν) (μ1 := ν) (d := .bl (halfB l rs)) (by simp [mm, s', halfB])
  generalize hH : halfB l rs = Hb at *
  have a6 := ss_asg (C := callN tbT wf (n + 20)) (wf := wf) (j := 19) (ss := b2.drop 7) (x := .lst [.call 29 [.var 1, .var 2, .var 9], .callk 29 [] [.var 9, .var 2, .var 1] [2, 1, 0]]) (env := [s0, .val (dPs rs), .val (dWs rs), s3, s4, s5, s6, s7, s8, .val (dL l), .val (.lst [R, R]), .val Sd, .un, .val (.int (lessW l rs)), .un, .un, .val (.int (moreW l rs)), .val R, .val (.bl Hb), s19]) (μ := ν) (μ1 := ν) (d := .lst [.bl Hb, .bl Hb]) (by simp [T2, permD, sizeLine])
  have x1 := L_exactP (wf := wf) (μ := ν) 4 (n + 15) (d := .lst [.lst [R, R], .lst [.bl Hb, .bl Hb]]) (by rw [← hR]; rfl)
  have x1' : callN tbT wf (n + 20) 37 [.lst [.lst [R, R], .lst [.bl Hb, .bl Hb]], .lst [.lst [R, R], .lst [.bl Hb, .bl Hb]]] ν = some (.bl true, ν) := x1
  have a7 := ss_skip (C := callN tbT wf (n + 20)) (wf := wf) (ss := b2.drop 8) (a := [.ret (.bl false)]) (x := .not (.call 37 [.lst [.lst [.var 17, .var 17], .lst [.var 18, .var 18]], .lst [.var 10, .var 19]])) (env := [s0, .val (dPs rs), .val (dWs rs), s3, s4, s5, s6, s7, s8, .val (dL l), .val (.lst [R, R]), .val Sd, .un, .val (.int (lessW l rs)), .un, .un, .val (.int (moreW l rs)), .val R, .val (.bl Hb), .val (.lst [.bl Hb, .bl Hb])]) (μ := ν) (μ1 := ν) (by simp [x1', sizeLine])
  exact ⟨_, _, _, _, _, _, _, a0.trans (a1.trans (a2.trans (a3.trans (a4.trans (a5.trans (a6.trans (a7.trans (evSs_nil ..))))))))⟩
/-- all lines, pair by pair -/
theorem all_lines {ps : List Pt} (hs : Srt ps) (hz : ∀ p, p ∈ ps → SmP 30 p) (hl : ps.length ≤ 10) {s0 s2 s3 s7 s8 s9 s10 s11 s12 s13 s14 s15 s16 s17 s18 s19 : Sl} : ∃ (u5 u6 : Sl), evS (callN tbT wf (n + 20)) wf (.for (.tp [.nm 5, .nm 6]) (.enum (.var 1)) b1) [s0, .val (.lst (ps.map dP)), s2, s3, .val (.lst []), .un, .un, s7, s8, s9, s10, s11, s12, s13, s14, s15, s16, s17, s18, s19] ν =
    some (.nx [s0, .val (.lst (ps.map dP)), s2, s3, .val (.lst ((pairsL ps).map dL)), u5, u6, s7, s8, s9, s10, s11, s12, s13, s14, s15, s16, s17, s18, s19], ν) := by
  have total : (pairsL ps).length < 64 := by unfold pairsL; rw [List.length_map]; exact pairs_small hl
  obtain ⟨env', μ', hf, done, u5, u6, he, hmu, pre, rest, hr, hps, hdone⟩ := for_run (C := callN tbT wf (n + 20)) (wf := wf) (tg := .tp [.nm 5, .nm 6]) (src := .enum (.var 1)) (body := b1)
    (env := [s0, .val (.lst (ps.map dP)), s2, s3, .val (.lst []), .un, .un, s7, s8, s9, s10, s11, s12, s13, s14, s15, s16, s17, s18, s19]) (μ := ν) (μ1 := ν) (xs := enumD 0 (ps.map dP)) (lks := [])
    (P := fun r e μ => ∃ (done : List Ln) (u5 u6 : Sl), e = [s0, .val (.lst (ps.map dP)), s2, s3, .val (.lst (done.map dL)), u5, u6, s7, s8, s9, s10, s11, s12, s13, s14, s15, s16, s17, s18, s19] ∧ μ = ν ∧ ∃ pre rest : List Pt, r = enumD pre.length (rest.map dP) ∧ pre ++ rest = ps ∧ done ++ pairsL rest = pairsL ps)
    (by simp [evI_enum, seqV, lockOf]) rfl (fun _ _ _ _ => rfl) (fun x r e μ q => by
      obtain ⟨done, u5, u6, he, hmu, pre, rest, hr, hps, hdone⟩ := q
      subst he hmu
      cases rest with
      | nil => simp [enumD] at hr
      | cons p rest =>
        rw [List.map_cons, enumD] at hr
        obtain ⟨rfl, rfl⟩ := List.cons.inj hr
        have srt : Srt (p :: rest) := by
          have := hs
          rw [← hps] at this
          exact (List.pairwise_append.mp this).2.1
        have sp : SzP 30 p := ⟨hz p (by rw [← hps]; simp)⟩
        have rl : rest.length ≤ 10 := by
          have := congrArg List.length hps
          rw [List.length_append, List.length_cons] at this
          omega
        have cu : slcD μ (.lst (ps.map dP)) (some ((pre.length : Int) + 1)) none = some (.lst (rest.map dP)) := by
          show some (D.lst (cutD (ps.map dP) (some ((pre.length + 1 : Nat) : Int)) none)) = _
          rw [cut_from, ← List.map_drop, ← hps, show pre ++ p :: rest = (pre ++ [p]) ++ rest by simp, List.drop_left' (by simp)]
        have c1 := comp_mapA (C := callN tbT wf (n + 20)) (tg := .nm 7) (elt := .call 48 [.var 6, .var 7]) (own := [7]) (src := .seq (.slc (.var 1) (some (.op .add (.var 5) (.int 1))) none)) (env := [s0, .val (.lst (ps.map dP)), s2, s3, .val (.lst (done.map dL)), .val (.int pre.length), .val (dP p), s7, s8, s9, s10, s11, s12, s13, s14, s15, s16, s17, s18, s19]) (μ := μ) (μ1 := μ) (l := rest) (lks := []) (e := dP) (g := fun q => dL (thr p q))
          (by simp [evI_seq, cu, itemsD, seqV, lockOf]) rfl (fun q hq => by
            have sq : SzP 30 q := ⟨hz q (by rw [← hps]; simp [hq])⟩
            have ne : p ≠ q := fun e => by
              have z := (List.pairwise_cons.mp srt).1 q hq
              rw [e, ahead_irrefl] at z
              cases z
            simp [wipeE, L_line (n := n + 17) (μ := μ) hw ne (by decide)]) (by unfold sizeLine; omega)
        have dl : done.length ≤ 64 := by
          have := congrArg List.length hdone
          rw [List.length_append] at this
          omega
        have ad := add_lst (μ := μ) (done.map dL) (rest.map fun q => dL (thr p q)) (by rw [List.length_map, List.length_map]; unfold sizeLine; omega)
        refine ⟨_, [s0, .val (.lst (ps.map dP)), s2, s3, .val (.lst ((done ++ rest.map (thr p)).map dL)), .val (.int pre.length), .val (dP p), s7, s8, s9, s10, s11, s12, s13, s14, s15, s16, s17, s18, s19], _, rfl, ?_, done ++ rest.map (thr p), _, _, rfl, rfl, pre ++ [p], rest, ?_, by rw [List.append_assoc]; exact hps, ?_⟩
        · refine (ss_asg (d := .lst ((done ++ rest.map (thr p)).map dL)) (μ1 := μ) ?_).trans (evSs_nil ..)
          rw [evE_op]
          show ((evE (callN tbT wf (n + 20)) (.comp (.call 48 [.var 6, .var 7]) (.nm 7) (.seq (.slc (.var 1) (some (.op .add (.var 5) (.int 1))) none)) [] [7]) [s0, .val (.lst (ps.map dP)), s2, s3, .val (.lst (done.map dL)), .val (.int pre.length), .val (dP p), s7, s8, s9, s10, s11, s12, s13, s14, s15, s16, s17, s18, s19] μ).bind _) = _
          rw [c1]
          show Option.map _ (opD μ .add (.lst (done.map dL)) (.lst (rest.map fun q => dL (thr p q)))) = _
          rw [ad, List.map_append, List.map_map]
          rfl
        · rw [List.length_append, List.length_singleton]
        · rw [List.append_assoc, ← pairsL_cons]
          exact hdone) ⟨[], .un, .un, rfl, rfl, [], ps, rfl, rfl, rfl⟩
  have r0 : rest = [] := by
    cases rest with
    | nil => rfl
    | cons _ _ => simp [enumD] at hr
  subst r0 hmu
  rw [show pairsL [] = [] from rfl, List.append_nil] at hdone
  subst hdone
  exact ⟨u5, u6, by rw [hf, he]⟩
theorem L_right (h : Pur μ c b) (hb : b + 5000 < 2 ^ 190) : ∃ μ', callN tbT wf (n + 21) 52 [.ref c] μ = some (.bl true, μ') ∧ Ot2 c μ μ' := by
  obtain ⟨ps, μ1, e1, s1, q1, n1, n2, h1, o1⟩ := L_pts (n := n + 14) hw h (by omega)
  have e1' : callN tbT wf (n + 20) 46 [.ref c, .int 8, .int 10] μ = some (.lst (ps.map dP), μ1) := e1
  obtain ⟨ws, μ2, e2, l2, q2, p2, h2, o2⟩ := L_ws (wf := wf) (n := n + 16) h1 (by omega) n1 n2
  have e2' : callN tbT wf (n + 20) 47 [.ref c, .lst (ps.map dP)] μ1 = some (.lst (ws.map D.int), μ2) := e2
  have r1 : (ps.zip ws).map (·.1) = ps := List.map_fst_zip (by omega)
  have r2 : (ps.zip ws).map (·.2) = ws := List.map_snd_zip (by omega)
  have W : WS (ps.zip ws) 30 := by
    refine ⟨by rw [r1]; exact s1, fun r hr => (q1 r.1 ?_).sz.h, fun r hr => (q2 r.2 ?_).1, fun r hr => (q2 r.2 ?_).2, ?_, ?_⟩
    · exact (List.of_mem_zip hr).1
    · exact (List.of_mem_zip hr).2
    · exact (List.of_mem_zip hr).2
    · unfold tot
      rw [r2]
      exact p2
    · rw [List.length_zip]
      omega
  have wl : (ps.zip ws).length ≤ 10 := by rw [List.length_zip]; omega
  obtain ⟨tx, tok, rp⟩ := W.shown
  have dp : (.lst (ps.map dP) : D) = dPs (ps.zip ws) := by unfold dPs; rw [r1]
  have dw : (.lst (ws.map D.int) : D) = dWs (ps.zip ws) := by unfold dWs; rw [r2]
  have AL := fun (s0 s2 s3 s7 s8 s9 s10 s11 s12 s13 s14 s15 s16 s17 s18 s19 : Sl) => all_lines (n := n) (ν := μ2) hw s1 (fun p hp => (q1 p hp).sz.h) n2 (s0 := s0) (s2 := s2) (s3 := s3) (s7 := s7) (s8 := s8) (s9 := s9) (s10 := s10) (s11 := s11) (s12 := s12) (s13 := s13) (s14 := s14) (s15 := s15) (s16 := s16) (s17 := s17) (s18 := s18) (s19 := s19)
  have SL := fun (μ : Mem) (b : Nat) (h : Pur μ c b) (hb : b + 1000 < 2 ^ 190) => L_sl (n := n + 15) (μ := μ) hw h hb n1 n2 q1
  have pl : pairsL ps = pairsL ((ps.zip ws).map (·.1)) := by rw [r1]
  rw [dp] at e1' e2' AL SL
  rw [dw] at e2'
  rw [pl] at AL
  generalize ps.zip ws = rs at *
  obtain ⟨F, G, hd⟩ := dueL_is wl
  have lF : F.length ≤ 63 := by
    have z := List.length_filter_le (halfB · rs) G
    rw [hd.fil] at z
    exact Nat.le_trans z hd.len
  have pF : plainD 3 (.lst (F.map dL)) = true := plain_list plain_dL _ (by omega)
  have T : ∀ ν : Mem, callN tbT wf (n + 20) 30 [dPs rs, dWs rs] ν = some (.lst (F.map dL), ν) := fun ν => E_hl (n := n + 12) hw W wl hd
  have gd := good_of W hd
  have gA : ∀ l, l ∈ pairsL (rs.map (·.1)) → Gl' l := fun l hl => gd l ((hd.memG l).mpr hl)
  have lA : (pairsL (rs.map (·.1))).length < 64 := by
    unfold pairsL
    rw [List.length_map]
    exact pairs_small (by rw [List.length_map]; exact wl)
  have a1 := ss_asg (C := callN tbT wf (n + 20)) (wf := wf) (j := 1) (ss := b__law_case_right.body.drop 1) (x := .call 46 [.var 0, .int 8, .int 10]) (env := [.val (.ref c), .un, .un, .un, .un, .un, .un, .un, .un, .un, .un, .un, .un, .un, .un, .un, .un, .un, .un, .un]) (μ := μ) (μ1 := μ1) (d := dPs rs) (by simp [e1'])
  have a2 := ss_asg (C := callN tbT wf (n + 20)) (wf := wf) (j := 2) (ss := b__law_case_right.body.drop 2) (x := .call 47 [.var 0, .var 1]) (env := [.val (.ref c), .val (dPs rs), .un, .un, .un, .un, .un, .un, .un, .un, .un, .un, .un, .un, .un, .un, .un, .un, .un, .un]) (μ := μ1) (μ1 := μ2) (d := dWs rs) (by simp [e2'])
  have a3 := ss_nx (C := callN tbT wf (n + 20)) (wf := wf) (ss := b__law_case_right.body.drop 3) (s := .par [3, 4] [.bi .repr [.lst [.var 1, .var 2]], .lst []]) (env := [.val (.ref c), .val (dPs rs), .val (dWs rs), .un, .un, .un, .un, .un, .un, .un, .un, .un, .un, .un, .un, .un, .un, .un, .un, .un]) (e := [.val (.ref c), .val (dPs rs), .val (dWs rs), .val (.str tx), .val (.lst []), .un, .un, .un, .un, .un, .un, .un, .un, .un, .un, .un, .un, .un, .un, .un]) (μ := μ2) (μ1 := μ2) (by simp [rp, sizeLine, parE])
  obtain ⟨u5, u6, al⟩ := AL (.val (.ref c)) (.val (dWs rs)) (.val (.str tx)) .un .un .un .un .un .un .un .un .un .un .un .un .un
  generalize hAs : pairsL (rs.map (·.1)) = As at *
  have c1 := comp_selG (C := callN tbT wf (n + 20)) (tg := .nm 9) (elt := .var 9) (c := .call 50 [.var 1, .var 2, .var 9]) (own := [9]) (src := .seq (.var 4)) (env := [.val (.ref c), .val (dPs rs), .val (dWs rs), .val (.str tx), .val (.lst (As.map dL)), u5, u6, .un, .un, .un, .un, .un, .un, .un, .un, .un, .un, .un, .un, .un]) (μ := μ2) (μ1 := μ2) (l := As) (lks := []) (e := dL) (g := dL) (p := (halfB · rs))
    (by simp [evI_seq, itemsD, seqV, lockOf]) rfl (fun l hl => by
      have sl := (gA l hl).2
      have eh := L_halves (n := n + 16) (μ := μ2) (l := l) hw W (by decide)
      exact ⟨[.val (.ref c), .val (dPs rs), .val (dWs rs), .val (.str tx), .val (.lst (As.map dL)), u5, u6, .un, .un, .val (dL l), .un, .un, .un, .un, .un, .un, .un, .un, .un, .un], rfl, by simp [eh], fun _ => by simp⟩) (by unfold sizeLine; omega)
  have hset := hd.set
  rw [hAs] at hset
  have a4 := ss_asg (C := callN tbT wf (n + 20)) (wf := wf) (j := 8) (ss := b__law_case_right.body.drop 5) (x := .sset (.comp (.var 9) (.nm 9) (.seq (.var 4)) [.call 50 [.var 1, .var 2, .var 9]] [9])) (env := [.val (.ref c), .val (dPs rs), .val (dWs rs), .val (.str tx), .val (.lst (As.map dL)), u5, u6, .un, .un, .un, .un, .un, .un, .un, .un, .un, .un, .un, .un, .un]) (μ := μ2) (μ1 := μ2) (d := .lst (F.map dL)) (by
    rw [evE_sset, c1]
    simp only [Option.bind_some, seqV]
    rw [hset]
    rfl)
  have a5 := ss_asg (C := callN tbT wf (n + 20)) (wf := wf) (j := 10) (ss := b__law_case_right.body.drop 6) (cells2 (C := callN tbT wf (n + 20)) (x := .call 30 [.var 1, .var 2]) (y := .callk 30 [] [.var 2, .var 1] [1, 0]) (env := [.val (.ref c), .val (dPs rs), .val (dWs rs), .val (.str tx), .val (.lst (As.map dL)), u5, u6, .un, .val (.lst (F.map dL)), .un, .un, .un, .un, .un, .un, .un, .un, .un, .un, .un]) (ν := μ2) (A := F.map dL) (B := F.map dL) (by simp [T]) (by simp [T, permD]))
  generalize hM1 : μ2 ++ [some (F.map dL)] ++ [some (F.map dL)] = M1 at a5
  have g1 : M1[μ2.length]? = some (some (F.map dL)) := by rw [← hM1]; exact two_a ..
  have g2 : M1[μ2.length + 1]? = some (some (F.map dL)) := by rw [← hM1]; exact two_b ..
  have x1 := L_exact (wf := wf) (μ := M1) 4 (n + 15) (al_two (al_cel g1 pF) (al_cel g2 pF))
  have x1' : callN tbT wf (n + 20) 37 [.lst [.lst (F.map dL), .lst (F.map dL)], .lst [.ref μ2.length, .ref (μ2.length + 1)]] M1 = some (.bl true, M1) := x1
  have a6 := ss_skip (C := callN tbT wf (n + 20)) (wf := wf) (ss := b__law_case_right.body.drop 7) (a := [.ret (.bl false)]) (x := .not (.call 37 [.lst [.var 8, .var 8], .var 10])) (env := [.val (.ref c), .val (dPs rs), .val (dWs rs), .val (.str tx), .val (.lst (As.map dL)), u5, u6, .un, .val (.lst (F.map dL)), .un, .val (.lst [.ref μ2.length, .ref (μ2.length + 1)]), .un, .un, .un, .un, .un, .un, .un, .un, .un]) (μ := M1) (μ1 := M1) (by simp [x1', sizeLine])
  have t1 : (F.map dL).length < sizeLine := by rw [List.length_map]; unfold sizeLine; omega
  have j0 : ∀ (ν : Mem) (x y : D), idxD ν (.lst [x, y]) (.int 0) = some x := fun _ _ _ => rfl
  have a7 := ss_nx (C := callN tbT wf (n + 20)) (wf := wf) (ss := b__law_case_right.body.drop 8) (s := .meth .append (.idx (.var 10) (.int 0)) [.str (Str.ofString "more")]) (env := [.val (.ref c), .val (dPs rs), .val (dWs rs), .val (.str tx), .val (.lst (As.map dL)), u5, u6, .un, .val (.lst (F.map dL)), .un, .val (.lst [.ref μ2.length, .ref (μ2.length + 1)]), .un, .un, .un, .un, .un, .un, .un, .un, .un]) (e := [.val (.ref c), .val (dPs rs), .val (dWs rs), .val (.str tx), .val (.lst (As.map dL)), u5, u6, .un, .val (.lst (F.map dL)), .un, .val (.lst [.ref μ2.length, .ref (μ2.length + 1)]), .un, .un, .un, .un, .un, .un, .un, .un, .un]) (μ := M1) (μ1 := M1.set μ2.length (some (F.map dL ++ [more]))) (by
    simp [j0, g1, mthD, t1, more, -List.length_map])
  generalize hM2 : M1.set μ2.length (some (F.map dL ++ [more])) = M2 at a7
  have cl : c < μ2.length := h2.lt
  have P2 : Pur M2 c (b + 1000 + 1000) := by
    rw [← hM2]
    refine Pur.set ?_ (by omega)
    rw [← hM1]
    exact h2.app.app
  have O2 : Ot2 c μ2 M2 := by
    rw [← hM2]
    refine Ot2.set ?_ (by omega)
    rw [← hM1]
    exact Ot2.app.trans Ot2.app
  -- the lines asked
  obtain ⟨sh, M3, e3, pm, P3, o3⟩ := shuffled_ok (T := tbT) (wf := wf) (n := n + 17) (μ := M2) (g := dL) at__law_mixed at__law_draw at__law_shuffled As (by omega) P2 (by omega)
  have e3' : callN tbT wf (n + 20) 36 [.ref c, .lst (As.map dL)] M2 = some (.lst (sh.map dL), M3) := e3
  obtain ⟨ls, M4, e4, l4, g4, P4, o4⟩ := SL M3 (b + 1000 + 1000 + 640) (P3.mono (by omega)) (by omega)
  have e4' : callN tbT wf (n + 20) 51 [.ref c, dPs rs] M3 = some (.lst (ls.map dL), M4) := e4
  have cu : slcD M3 (.lst (sh.map dL)) none (some 4) = some (.lst ((sh.take 4).map dL)) := by
    show some (D.lst (cutD (sh.map dL) none (some ((4 : Nat) : Int)))) = _
    rw [cut_to, List.map_take]
  have ad := add_lst (μ := M4) ((sh.take 4).map dL) (ls.map dL) (by
    rw [List.length_map, List.length_map, List.length_take]
    unfold sizeLine
    omega)
  have gL : ∀ l, l ∈ sh.take 4 ++ ls → Gl' l := fun l hl => by
    rcases List.mem_append.mp hl with hl | hl
    · exact gA l (pm.mem_iff.mp (List.mem_of_mem_take hl))
    · exact g4 l hl
  have xs0 : evE (callN tbT wf (n + 20)) (.op .add (.slc (.call 36 [.var 0, .var 4]) none (some (.int 4))) (.call 51 [.var 0, .var 1])) [.val (.ref c), .val (dPs rs), .val (dWs rs), .val (.str tx), .val (.lst (As.map dL)), u5, u6, .un, .val (.lst (F.map dL)), .un, .val (.lst [.ref μ2.length, .ref (μ2.length + 1)]), .un, .un, .un, .un, .un, .un, .un, .un, .un] M2 = some (.lst ((sh.take 4 ++ ls).map dL), M4) := by
    simp [e3', cu, e4', ad, List.map_append, -List.map_take]
  obtain ⟨e, μ', hf, v9, v10, v11, v13, v16, v17, v18, v19, he, hmu, hr'⟩ := for_run (C := callN tbT wf (n + 20)) (wf := wf) (tg := .nm 9) (src := .seq (.op .add (.slc (.call 36 [.var 0, .var 4]) none (some (.int 4))) (.call 51 [.var 0, .var 1]))) (body := b2) (env := [.val (.ref c), .val (dPs rs), .val (dWs rs), .val (.str tx), .val (.lst (As.map dL)), u5, u6, .un, .val (.lst (F.map dL)), .un, .val (.lst [.ref μ2.length, .ref (μ2.length + 1)]), .un, .un, .un, .un, .un, .un, .un, .un, .un]) (μ := M2) (μ1 := M4) (xs := (sh.take 4 ++ ls).map dL) (lks := [])
    (P := fun r e ν => ∃ (v9 v10 v11 v13 v16 v17 v18 v19 : Sl), e = [.val (.ref c), .val (dPs rs), .val (dWs rs), .val (.str tx), .val (.lst (As.map dL)), u5, u6, .un, .val (.lst (F.map dL)), v9, v10, v11, .un, v13, .un, .un, v16, v17, v18, v19] ∧ ν = M4 ∧ ∃ rest : List Ln, r = rest.map dL ∧ ∀ l, l ∈ rest → Gl' l)
    (by
      rw [evI_seq, xs0]
      simp only [Option.bind_some, itemsD, seqV, lockOf, Option.map_some]) rfl (fun _ _ _ _ => rfl) (fun x r e ν q => by
      obtain ⟨v9, v10, v11, v13, v16, v17, v18, v19, he, hmu, rest, hr, hq⟩ := q
      subst he hmu
      cases rest with
      | nil => simp at hr
      | cons l rest =>
        rw [List.map_cons] at hr
        obtain ⟨rfl, rfl⟩ := List.cons.inj hr
        obtain ⟨w10, w11, w13, w16, w17, w18, w19, st⟩ := ln_step (n := n) (ν := ν) hw W (hq l List.mem_cons_self) (s0 := .val (.ref c)) (s3 := .val (.str tx)) (s4 := .val (.lst (As.map dL))) (s5 := u5) (s6 := u6) (s7 := .un) (s8 := .val (.lst (F.map dL))) (s10 := v10) (s11 := v11) (s13 := v13) (s16 := v16) (s17 := v17) (s18 := v18) (s19 := v19)
        exact ⟨_, _, ν, rfl, st, _, _, _, _, _, _, _, _, rfl, rfl, rest, rfl, fun l hl => hq l (List.mem_cons_of_mem _ hl)⟩) ⟨_, _, _, _, _, _, _, _, rfl, rfl, _, rfl, gL⟩
  subst hmu
  have g5 : (μ' ++ [some (F.map dL)])[μ'.length]? = some (some (F.map dL)) := by simp
  have x3 := L_exact (wf := wf) (μ := μ' ++ [some (F.map dL)]) 3 (n + 16) (al_cel g5 pF)
  have x3' : callN tbT wf (n + 20) 37 [.lst (F.map dL), .ref μ'.length] (μ' ++ [some (F.map dL)]) = some (.bl true, μ' ++ [some (F.map dL)]) := x3
  refine ⟨μ' ++ [some (F.map dL)], run_ret at__law_case_right rfl ?_, (((o1.trans o2).two.trans O2).trans (o3.trans o4).two).trans Ot2.app⟩
  refine a1.trans (a2.trans (a3.trans ?_))
  rw [case1]
  refine (ss_nx al).trans (a4.trans (a5.trans (a6.trans (a7.trans ?_))))
  rw [case2]
  refine (ss_nx hf).trans ?_
  rw [he]
  exact ss_ret (by simp [T, x3', rp, sizeLine, eqD_str tok])
end
end K64
set_option Elab.async false
set_option linter.all false
set_option maxRecDepth 100000
set_option maxHeartbeats 400000
namespace K64
open PySem PySem.Spec PyProof.Rows L2 DI
def lb : List MS := match b_law.body with
  | .for _ _ b :: _ => b
  | _ => []
theorem law_is : b_law.body = .for (.nm 1) (.seq (.call 34 [.var 0, .int 3])) lb :: b_law.body.drop 1 := rfl
theorem lb_is : lb = [.iff (.not (.call 52 [.var 1])) [.ret (.bl false)] []] := rfl
theorem body_ok {wf c : Nat} {μ : Mem} {s0 s2 s3 s4 s5 : Sl} (hw : WF wf) (h : Pur μ c 0) :
    ∃ (ν : Mem), evSs (callN tbT wf (0 + 21)) wf lb [s0, .val (.ref c), s2, s3, s4, s5] μ = some (.nx [s0, .val (.ref c), s2, s3, s4, s5], ν) ∧ Ot2 c μ ν := by
  obtain ⟨ν, e1, o1⟩ := L_right (n := 0) hw h (by decide)
  refine ⟨ν, ?_, o1⟩
  rw [lb_is]
  exact (ss_skip (μ1 := ν) (by simp [e1])).trans (evSs_nil ..)
def rsF : Rows := [((0, 0), 1), ((0, 2), 1), ((2, 0), 1), ((2, 2), 1)]
def rsO : Rows := [((0, 0), 1)]
def FF : List Ln := [⟨0, 1, 0⟩, ⟨0, 1, 2⟩, ⟨1, -1, 0⟩, ⟨1, 0, 0⟩, ⟨1, 0, 2⟩, ⟨1, 1, 2⟩]
theorem ws_F : WS rsF 30 := by
  refine ⟨?_, ?_, ?_, ?_, by decide, by decide⟩
  · unfold Srt rsF
    decide +kernel
  · intro r hr
    simp only [rsF, List.mem_cons, List.not_mem_nil, or_false] at hr
    rcases hr with rfl | rfl | rfl | rfl <;> exact ⟨⟨by decide +kernel, by decide +kernel⟩, ⟨by decide +kernel, by decide +kernel⟩⟩
  · intro r hr
    simp only [rsF, List.mem_cons, List.not_mem_nil, or_false] at hr
    rcases hr with rfl | rfl | rfl | rfl <;> decide
  · intro r hr
    simp only [rsF, List.mem_cons, List.not_mem_nil, or_false] at hr
    rcases hr with rfl | rfl | rfl | rfl <;> decide
theorem ws_O : WS rsO 30 := by
  refine ⟨?_, ?_, ?_, ?_, by decide, by decide⟩
  · unfold Srt rsO
    decide +kernel
  · intro r hr
    simp only [rsO, List.mem_cons, List.not_mem_nil, or_false] at hr
    subst hr
    exact ⟨⟨by decide +kernel, by decide +kernel⟩, ⟨by decide +kernel, by decide +kernel⟩⟩
  · intro r hr
    simp only [rsO, List.mem_cons, List.not_mem_nil, or_false] at hr
    subst hr
    decide
  · intro r hr
    simp only [rsO, List.mem_cons, List.not_mem_nil, or_false] at hr
    subst hr
    decide
theorem t_1 : thr (0, 0) (0, 2) = ⟨1, 0, 0⟩ := thr_eq (by decide +kernel) (by decide +kernel) (show abv _ _ = 0 by decide +kernel) (show abv _ _ = 0 by decide +kernel)
theorem t_2 : thr (0, 0) (2, 0) = ⟨0, 1, 0⟩ := thr_eq (by decide +kernel) (by decide +kernel) (show abv _ _ = 0 by decide +kernel) (show abv _ _ = 0 by decide +kernel)
theorem t_3 : thr (0, 0) (2, 2) = ⟨1, -1, 0⟩ := thr_eq (by decide +kernel) (by decide +kernel) (show abv _ _ = 0 by decide +kernel) (show abv _ _ = 0 by decide +kernel)
theorem t_4 : thr (0, 2) (2, 0) = ⟨1, 1, 2⟩ := thr_eq (by decide +kernel) (by decide +kernel) (show abv _ _ = 0 by decide +kernel) (show abv _ _ = 0 by decide +kernel)
theorem t_5 : thr (0, 2) (2, 2) = ⟨0, 1, 2⟩ := thr_eq (by decide +kernel) (by decide +kernel) (show abv _ _ = 0 by decide +kernel) (show abv _ _ = 0 by decide +kernel)
theorem t_6 : thr (2, 0) (2, 2) = ⟨1, 0, 2⟩ := thr_eq (by decide +kernel) (by decide +kernel) (show abv _ _ = 0 by decide +kernel) (show abv _ _ = 0 by decide +kernel)
theorem pl_F : pairsL (rsF.map (·.1)) = [⟨1, 0, 0⟩, ⟨0, 1, 0⟩, ⟨1, -1, 0⟩, ⟨1, 1, 2⟩, ⟨0, 1, 2⟩, ⟨1, 0, 2⟩] := by
  have e : pairsP (rsF.map (·.1)) = [((0, 0), (0, 2)), ((0, 0), (2, 0)), ((0, 0), (2, 2)), ((0, 2), (2, 0)), ((0, 2), (2, 2)), ((2, 0), (2, 2))] := rfl
  unfold pairsL
  rw [e]
  simp only [List.map_cons, List.map_nil, t_1, t_2, t_3, t_4, t_5, t_6]
theorem due_F : ∃ G, DueL rsF FF G := by
  obtain ⟨F, G, hd⟩ := dueL_is (rs := rsF) (by decide)
  have b1 : halfB ⟨1, 0, 0⟩ rsF = true := by decide +kernel
  have b2 : halfB ⟨0, 1, 0⟩ rsF = true := by decide +kernel
  have b3 : halfB ⟨1, -1, 0⟩ rsF = true := by decide +kernel
  have b4 : halfB ⟨1, 1, 2⟩ rsF = true := by decide +kernel
  have b5 : halfB ⟨0, 1, 2⟩ rsF = true := by decide +kernel
  have b6 : halfB ⟨1, 0, 2⟩ rsF = true := by decide +kernel
  have fl : (pairsL (rsF.map (·.1))).filter (halfB · rsF) = [⟨1, 0, 0⟩, ⟨0, 1, 0⟩, ⟨1, -1, 0⟩, ⟨1, 1, 2⟩, ⟨0, 1, 2⟩, ⟨1, 0, 2⟩] := by
    rw [pl_F]
    simp [List.filter_cons, b1, b2, b3, b4, b5, b6]
  have e : F = FF := strict_same hd.srt (by decide +kernel) fun l => by
    rw [hd.mem, fl]
    unfold FF
    simp only [List.mem_cons, List.not_mem_nil, or_false]
    constructor
    · rintro (h | h | h | h | h | h) <;> simp [h]
    · rintro (h | h | h | h | h | h) <;> simp [h]
  subst e
  exact ⟨G, hd⟩
theorem due_O : ∃ G, DueL rsO [] G := by
  obtain ⟨F, G, hd⟩ := dueL_is (rs := rsO) (by decide)
  have e : F = [] := List.eq_nil_iff_forall_not_mem.mpr fun l hl => by
    have := (hd.mem l).mp hl
    rw [show pairsL (rsO.map (·.1)) = [] from rfl] at this
    cases this
  subst e
  exact ⟨G, hd⟩
theorem row_F : row ⟨1, 0, 1⟩ rsF = .tup [.int 2, .int 0, .int 2] := by
  have a : lessW ⟨1, 0, 1⟩ rsF = 2 := by decide +kernel
  have b : moreW ⟨1, 0, 1⟩ rsF = 2 := by decide +kernel
  have c : tot rsF = 4 := by decide +kernel
  unfold row
  rw [a, b, c]
  rfl
abbrev hF : D := .lst [.tup [.tup [.int 0, .int 1], .tup [.int 0, .int 1]], .tup [.tup [.int 0, .int 1], .tup [.int 2, .int 1]], .tup [.tup [.int 2, .int 1], .tup [.int 0, .int 1]], .tup [.tup [.int 2, .int 1], .tup [.int 2, .int 1]]]
abbrev wF : D := .lst [.int 1, .int 1, .int 1, .int 1]
abbrev qF : D := .lst [.tup [.int 0, .int 1, .int 0], .tup [.int 0, .int 1, .int 2], .tup [.int 1, .int (-1), .int 0], .tup [.int 1, .int 0, .int 0], .tup [.int 1, .int 0, .int 2], .tup [.int 1, .int 1, .int 2]]
theorem told {wf n : Nat} {μ : Mem} (hw : WF wf) {s0 s1 s2 s3 s4 s5 : Sl} : evSs (callN tbT wf (n + 21)) wf (b_law.body.drop 1) [s0, s1, s2, s3, s4, s5] μ = some (.rt (.bl true), μ ++ [some (FF.map dL)] ++ [some []]) := by
  obtain ⟨GF, dF⟩ := due_F
  obtain ⟨GO, dO⟩ := due_O
  have e1 := fun ν : Mem => E_hl (n := n + 13) (μ := ν) hw ws_F (by decide) dF
  have e2 := fun ν : Mem => E_hl (n := n + 13) (μ := ν) hw ws_O (by decide) dO
  have gl : Gl' ⟨1, 0, 1⟩ := ⟨by decide +kernel, ⟨by decide, by decide, by decide⟩⟩
  have e3 := fun ν : Mem => E_sw (n := n + 13) (μ := ν) (l := ⟨1, 0, 1⟩) hw ws_F gl
  rw [row_F] at e3
  have e1' : ∀ ν : Mem, callN tbT wf (n + 21) 30 [hF, wF] ν = some (.lst (FF.map dL), ν) := e1
  have e2' : ∀ ν : Mem, callN tbT wf (n + 21) 30 [.lst [.tup [.tup [.int 0, .int 1], .tup [.int 0, .int 1]]], .lst [.int 1]] ν = some (.lst [], ν) := e2
  have e3' : ∀ ν : Mem, callN tbT wf (n + 21) 28 [hF, wF, .tup [.int 1, .int 0, .int 1]] ν = some (.tup [.int 2, .int 0, .int 2], ν) := e3
  have sl : ∀ ν : Mem, slcD ν hF none (some 1) = some (.lst [.tup [.tup [.int 0, .int 1], .tup [.int 0, .int 1]]]) := fun _ => rfl
  have a1 := ss_nx (C := callN tbT wf (n + 21)) (wf := wf) (ss := b_law.body.drop 2) (s := .par [2, 3] [.lst [.tup [.tup [.int 0, .int 1], .tup [.int 0, .int 1]], .tup [.tup [.int 0, .int 1], .tup [.int 2, .int 1]], .tup [.tup [.int 2, .int 1], .tup [.int 0, .int 1]], .tup [.tup [.int 2, .int 1], .tup [.int 2, .int 1]]], .lst [.int 1, .int 1, .int 1, .int 1]])
    (env := [s0, s1, s2, s3, s4, s5]) (e := [s0, s1, .val hF, .val wF, s4, s5]) (μ := μ) (μ1 := μ) (by simp [sizeLine, parE])
  have a2 := ss_asg (C := callN tbT wf (n + 21)) (wf := wf) (j := 4) (ss := b_law.body.drop 3) (x := .lst [.tup [.int 0, .int 1, .int 0], .tup [.int 0, .int 1, .int 2], .tup [.int 1, .neg (.int 1), .int 0], .tup [.int 1, .int 0, .int 0], .tup [.int 1, .int 0, .int 2], .tup [.int 1, .int 1, .int 2]])
    (env := [s0, s1, .val hF, .val wF, s4, s5]) (μ := μ) (μ1 := μ) (d := qF) (by simp [sizeLine])
  have ga := two_a μ (FF.map dL) []
  have gb := two_b μ (FF.map dL) []
  have ml : (μ ++ [some (FF.map dL)]).length = μ.length + 1 := by simp
  have a3 := ss_asg (C := callN tbT wf (n + 21)) (wf := wf) (j := 5) (ss := b_law.body.drop 4) (x := .lst [.cell (.call 30 [.var 2, .var 3]), .cell (.call 30 [.slc (.var 2) none (some (.int 1)), .lst [.int 1]]), .call 28 [.var 2, .var 3, .tup [.int 1, .int 0, .int 1]]])
    (env := [s0, s1, .val hF, .val wF, .val qF, s5]) (μ := μ) (μ1 := μ ++ [some (FF.map dL)] ++ [some []]) (d := .lst [.ref μ.length, .ref (μ.length + 1), .tup [.int 2, .int 0, .int 2]]) (by
      generalize hX : hF = X at *
      generalize hY : wF = Y at *
      have f1 : ∀ ν : Mem, evE (callN tbT wf (n + 21)) (.call 30 [.var 2, .var 3]) [s0, s1, .val X, .val Y, .val qF, s5] ν = some (.lst (FF.map dL), ν) := fun ν => by simp [e1']
      have f2 : ∀ ν : Mem, evE (callN tbT wf (n + 21)) (.call 30 [.slc (.var 2) none (some (.int 1)), .lst [.int 1]]) [s0, s1, .val X, .val Y, .val qF, s5] ν = some (.lst [], ν) := fun ν => by simp [sl, e2', sizeLine]
      have f3 : ∀ ν : Mem, evE (callN tbT wf (n + 21)) (.call 28 [.var 2, .var 3, .tup [.int 1, .int 0, .int 1]]) [s0, s1, .val X, .val Y, .val qF, s5] ν = some (.tup [.int 2, .int 0, .int 2], ν) := fun ν => by simp [e3', sizeLine]
      simp only [evE_lst, evEs_e, evEs_nil, evE_cell, f1, f2, f3, Option.bind_some, Option.map_some, ml]
      simp [sizeLine])
  generalize hM : μ ++ [some (FF.map dL)] ++ [some []] = M at *
  have al : Al M 4 (.lst [.ref μ.length, .ref (μ.length + 1), .tup [.int 2, .int 0, .int 2]]) (.lst [qF, .lst [], .tup [.int 2, .int 0, .int 2]]) := .lst rfl (fun x y hxy => by
    simp only [List.zip_cons_cons, List.zip_nil_right, List.mem_cons, List.not_mem_nil, or_false, Prod.mk.injEq] at hxy
    rcases hxy with ⟨rfl, rfl⟩ | ⟨rfl, rfl⟩ | ⟨rfl, rfl⟩
    · exact al_cel ga (n := 2) rfl
    · exact al_cel gb (n := 2) rfl
    · exact al_plain 3 _ rfl) (by unfold sizeLine; simp)
  have x1 := L_exact (wf := wf) (μ := M) 4 (n + 16) al
  have x1' : callN tbT wf (n + 21) 37 [.lst [qF, .lst [], .tup [.int 2, .int 0, .int 2]], .lst [.ref μ.length, .ref (μ.length + 1), .tup [.int 2, .int 0, .int 2]]] M = some (.bl true, M) := x1
  refine a1.trans (a2.trans (a3.trans (ss_ret ?_)))
  generalize qF = Z at *
  simp [x1', sizeLine]
theorem plain (ns : List Int) (h : ns.length ≤ 63) (hb : ∀ i, i ∈ ns → Builtin.Int.intBits i ≤ 1048576) : ∃ wf μ', callN tb.T wf 22 53 [.lst (ns.map D.int)] [] = some (.bl true, μ') := by
  obtain ⟨wf, hw⟩ : ∃ wf : Nat, WF wf := ⟨2 ^ 8000, fun k hk => Nat.pow_le_pow_right (by decide) hk⟩
  obtain ⟨k, μ0, e0, l0, p0⟩ := purses_ok (T := tbT) (wf := wf) (n := 19) at__law_purse at__law_purses ns (by omega) (few := 3) (by decide)
  have e0' : callN tbT wf (0 + 21) 34 [.lst (ns.map D.int), .int 3] [] = some (.lst ((List.range k).map D.ref), μ0) := e0
  obtain ⟨env', μ', hf, ⟨s1, s2, s3, s4, s5, rfl⟩, -⟩ := for_run (C := callN tbT wf (0 + 21)) (wf := wf) (tg := .nm 1) (body := lb) (src := .seq (.call 34 [.var 0, .int 3])) (env := [Sl.val (.lst (ns.map D.int)), .un, .un, .un, .un, .un]) (μ := []) (μ1 := μ0) (xs := (List.range k).map D.ref) (lks := [])
    (P := fun r e ν => (∃ s1 s2 s3 s4 s5, e = [Sl.val (.lst (ns.map D.int)), s1, s2, s3, s4, s5]) ∧ ∃ rest : List Nat, r = rest.map D.ref ∧ rest.Nodup ∧ ∀ c, c ∈ rest → Pur ν c 0)
    (by simp [evI_seq, e0', itemsD, seqV, lockOf]) rfl (fun _ _ _ _ => rfl) (fun x r e ν q => by
      obtain ⟨⟨s1, s2, s3, s4, s5, rfl⟩, rest, q3, q4, q5⟩ := q
      cases rest with
      | nil => simp at q3
      | cons c rest =>
        rw [List.map_cons] at q3
        obtain ⟨rfl, rfl⟩ := List.cons.inj q3
        have cp := q5 c List.mem_cons_self
        obtain ⟨ν', b1, b3⟩ := body_ok (s0 := .val (.lst (ns.map D.int))) (s2 := s2) (s3 := s3) (s4 := s4) (s5 := s5) hw cp
        refine ⟨_, _, ν', rfl, b1, ⟨_, _, _, _, _, rfl⟩, rest, rfl, (List.nodup_cons.mp q4).2, fun c' hc' => ?_⟩
        have ne : c' ≠ c := fun e => (List.nodup_cons.mp q4).1 (e ▸ hc')
        exact (q5 c' (List.mem_cons_of_mem _ hc')).ot2 b3 ne) ⟨⟨_, _, _, _, _, rfl⟩, List.range k, rfl, List.nodup_range, fun c hc => p0 c (List.mem_range.mp hc)⟩
  refine ⟨wf, μ' ++ [some (FF.map dL)] ++ [some []], run_ret (T := tbT) at_law rfl ?_⟩
  rw [law_is]
  exact (ss_nx hf).trans (told (n := 0) hw)
end K64
set_option Elab.async false
set_option linter.all false
set_option maxRecDepth 100000
set_option maxHeartbeats 8000000
open PySem PySem.W PyProof.Rows
set_option maxHeartbeats 0 in
theorem PySem.Challenge.cw_straightcuts_k64_whole_lines_that_halve_holds : PySem.Challenge.rw_straightcuts_k64_whole_lines_that_halve.Holds := by
  w_on; o_law; k_head; (case hw => w_witness2)
  k_fill
  refine DI.walk_law (l := PySem.Challenge.rw_straightcuts_k64_whole_lines_that_halve) (n := 63) (k := 22) (fi := 53) (xs := "script") (Tb := K64.tb) rfl (by decide) rfl ⟨rfl, by decide, by decide⟩ (fun w h Y => PySem.W.kIn_of Y) ?F ⟨_, K64.at_law, rfl⟩ rfl K64.plain
  case F =>
    intro w mg h KX G
    refine' K64.all_mk KX G ?uq_a0 ?uq_l0 ?uq_c0 ?uq_k0 ?uq_a1 ?uq_l1 ?uq_c1 ?uq_k1 ?uq_a2 ?uq_l2 ?uq_c2 ?uq_k2 ?uq_a3 ?uq_l3 ?uq_c3 ?uq_k3 ?uq_a4 ?uq_l4 ?uq_c4 ?uq_k4 ?uq_a5 ?uq_l5 ?uq_c5 ?uq_k5 ?uq_a6 ?uq_l6 ?uq_c6 ?uq_k6 ?uq_a7 ?uq_l7 ?uq_c7 ?uq_k7 ?uq_a8 ?uq_l8 ?uq_c8 ?uq_k8 ?uq_a9 ?uq_l9 ?uq_c9 ?uq_k9 ?uq_a10 ?uq_l10 ?uq_c10 ?uq_k10 ?uq_a11 ?uq_l11 ?uq_c11 ?uq_k11 ?uq_a12 ?uq_l12 ?uq_c12 ?uq_k12 ?uq_a13 ?uq_l13 ?uq_c13 ?uq_k13 ?uq_a14 ?uq_l14 ?uq_c14 ?uq_k14 ?uq_a15 ?uq_l15 ?uq_c15 ?uq_k15 ?uq_a16 ?uq_l16 ?uq_c16 ?uq_k16 ?uq_a17 ?uq_l17 ?uq_c17 ?uq_k17 ?uq_a18 ?uq_l18 ?uq_c18 ?uq_k18 ?uq_a19 ?uq_l19 ?uq_c19 ?uq_k19 ?uq_a20 ?uq_l20 ?uq_c20 ?uq_k20 ?uq_a21 ?uq_l21 ?uq_c21 ?uq_k21 ?uq_a22 ?uq_l22 ?uq_c22 ?uq_k22 ?uq_a23 ?uq_l23 ?uq_c23 ?uq_k23 ?uq_a24 ?uq_l24 ?uq_c24 ?uq_k24 ?uq_a25 ?uq_l25 ?uq_c25 ?uq_k25 ?uq_a26 ?uq_l26 ?uq_c26 ?uq_k26 ?uq_a27 ?uq_l27 ?uq_c27 ?uq_k27 ?uq_a28 ?uq_l28 ?uq_c28 ?uq_k28 ?uq_a29 ?uq_l29 ?uq_c29 ?uq_k29 ?uq_a30 ?uq_l30 ?uq_c30 ?uq_k30 ?uq_a31 ?uq_l31 ?uq_c31 ?uq_k31 ?uq_a32 ?uq_l32 ?uq_c32 ?uq_k32 ?uq_a33 ?uq_l33 ?uq_c33 ?uq_k33 ?uq_a34 ?uq_l34 ?uq_c34 ?uq_k34 ?uq_a35 ?uq_l35 ?uq_c35 ?uq_k35 ?uq_a36 ?uq_l36 ?uq_c36 ?uq_k36 ?uq_a37 ?uq_l37 ?uq_c37 ?uq_k37 ?uq_a38 ?uq_l38 ?uq_c38 ?uq_k38 ?uq_a39 ?uq_l39 ?uq_c39 ?uq_k39 ?uq_a40 ?uq_l40 ?uq_c40 ?uq_k40 ?uq_a41 ?uq_l41 ?uq_c41 ?uq_k41 ?uq_a42 ?uq_l42 ?uq_c42 ?uq_k42 ?uq_a43 ?uq_l43 ?uq_c43 ?uq_k43 ?uq_a44 ?uq_l44 ?uq_c44 ?uq_k44 ?uq_a45 ?uq_l45 ?uq_c45 ?uq_k45 ?uq_a46 ?uq_l46 ?uq_c46 ?uq_k46 ?uq_a47 ?uq_l47 ?uq_c47 ?uq_k47 ?uq_a48 ?uq_l48 ?uq_c48 ?uq_k48 ?uq_a49 ?uq_l49 ?uq_c49 ?uq_k49 ?uq_a50 ?uq_l50 ?uq_c50 ?uq_k50 ?uq_a51 ?uq_l51 ?uq_c51 ?uq_k51 ?uq_a52 ?uq_l52 ?uq_c52 ?uq_k52 ?uq_a53 ?uq_l53 ?uq_c53 ?uq_k53 ?uq_d1 ?uq_z0 ?uq_z1 ?uq_z2 ?uq_z3 ?uq_z4 ?uq_z5 ?uq_z6 ?uq_z7 ?uq_z8 ?uq_z9 ?uq_z10 ?uq_z11 ?uq_z12 ?uq_z13 ?uq_z14 ?uq_z15 ?uq_z16 ?uq_z17 ?uq_y0 ?uq_g0
    (case uq_a0 => k_is); (case uq_l0 => k_is); (case uq_c0 => k_is); (case uq_k0 => k_is); (case uq_a1 => k_is); (case uq_l1 => k_is); (case uq_c1 => k_is); (case uq_k1 => k_is); (case uq_a2 => k_is); (case uq_l2 => k_is); (case uq_c2 => k_is); (case uq_k2 => k_is); (case uq_a3 => k_is); (case uq_l3 => k_is); (case uq_c3 => k_is); (case uq_k3 => k_is); (case uq_a4 => k_is); (case uq_l4 => k_is); (case uq_c4 => k_is); (case uq_k4 => k_is); (case uq_a5 => k_is); (case uq_l5 => k_is); (case uq_c5 => k_is); (case uq_k5 => k_is); (case uq_a6 => k_is); (case uq_l6 => k_is); (case uq_c6 => k_is); (case uq_k6 => k_is); (case uq_a7 => k_is); (case uq_l7 => k_is); (case uq_c7 => k_is); (case uq_k7 => k_is); (case uq_a8 => k_is); (case uq_l8 => k_is); (case uq_c8 => k_is); (case uq_k8 => k_is); (case uq_a9 => k_is); (case uq_l9 => k_is); (case uq_c9 => k_is); (case uq_k9 => k_is); (case uq_a10 => k_is); (case uq_l10 => k_is); (case uq_c10 => k_is); (case uq_k10 => k_is); (case uq_a11 => k_is); (case uq_l11 => k_is); (case uq_c11 => k_is); (case uq_k11 => k_is); (case uq_a12 => k_is); (case uq_l12 => k_is); (case uq_c12 => k_is); (case uq_k12 => k_is); (case uq_a13 => k_is); (case uq_l13 => k_is); (case uq_c13 => k_is); (case uq_k13 => k_is); (case uq_a14 => k_is); (case uq_l14 => k_is); (case uq_c14 => k_is); (case uq_k14 => k_is); (case uq_a15 => k_is); (case uq_l15 => k_is); (case uq_c15 => k_is); (case uq_k15 => k_is); (case uq_a16 => k_is); (case uq_l16 => k_is); (case uq_c16 => k_is); (case uq_k16 => k_is); (case uq_a17 => k_is); (case uq_l17 => k_is); (case uq_c17 => k_is); (case uq_k17 => k_is); (case uq_a18 => k_is); (case uq_l18 => k_is); (case uq_c18 => k_is); (case uq_k18 => k_is); (case uq_a19 => k_is); (case uq_l19 => k_is); (case uq_c19 => k_is); (case uq_k19 => k_is); (case uq_a20 => k_is); (case uq_l20 => k_is); (case uq_c20 => k_is); (case uq_k20 => k_is); (case uq_a21 => k_is); (case uq_l21 => k_is); (case uq_c21 => k_is); (case uq_k21 => k_is); (case uq_a22 => k_is); (case uq_l22 => k_is); (case uq_c22 => k_is); (case uq_k22 => k_is); (case uq_a23 => k_is); (case uq_l23 => k_is); (case uq_c23 => k_is); (case uq_k23 => k_is); (case uq_a24 => k_is); (case uq_l24 => k_is); (case uq_c24 => k_is); (case uq_k24 => k_is); (case uq_a25 => k_is); (case uq_l25 => k_is); (case uq_c25 => k_is); (case uq_k25 => k_is); (case uq_a26 => k_is); (case uq_l26 => k_is); (case uq_c26 => k_is); (case uq_k26 => k_is); (case uq_a27 => k_is); (case uq_l27 => k_is); (case uq_c27 => k_is); (case uq_k27 => k_is); (case uq_a28 => k_is); (case uq_l28 => k_is); (case uq_c28 => k_is); (case uq_k28 => k_is); (case uq_a29 => k_is); (case uq_l29 => k_is); (case uq_c29 => k_is); (case uq_k29 => k_is); (case uq_a30 => k_is); (case uq_l30 => k_is); (case uq_c30 => k_is); (case uq_k30 => k_is); (case uq_a31 => k_is); (case uq_l31 => k_is); (case uq_c31 => k_is); (case uq_k31 => k_is); (case uq_a32 => k_is); (case uq_l32 => k_is); (case uq_c32 => k_is); (case uq_k32 => k_is); (case uq_a33 => k_is); (case uq_l33 => k_is); (case uq_c33 => k_is); (case uq_k33 => k_is); (case uq_a34 => k_is); (case uq_l34 => k_is); (case uq_c34 => k_is); (case uq_k34 => k_is); (case uq_a35 => k_is); (case uq_l35 => k_is); (case uq_c35 => k_is); (case uq_k35 => k_is); (case uq_a36 => k_is); (case uq_l36 => k_is); (case uq_c36 => k_is); (case uq_k36 => k_is); (case uq_a37 => k_is); (case uq_l37 => k_is); (case uq_c37 => k_is); (case uq_k37 => k_is); (case uq_a38 => k_is); (case uq_l38 => k_is); (case uq_c38 => k_is); (case uq_k38 => k_is); (case uq_a39 => k_is); (case uq_l39 => k_is); (case uq_c39 => k_is); (case uq_k39 => k_is); (case uq_a40 => k_is); (case uq_l40 => k_is); (case uq_c40 => k_is); (case uq_k40 => k_is); (case uq_a41 => k_is); (case uq_l41 => k_is); (case uq_c41 => k_is); (case uq_k41 => k_is); (case uq_a42 => k_is); (case uq_l42 => k_is); (case uq_c42 => k_is); (case uq_k42 => k_is); (case uq_a43 => k_is); (case uq_l43 => k_is); (case uq_c43 => k_is); (case uq_k43 => k_is); (case uq_a44 => k_is); (case uq_l44 => k_is); (case uq_c44 => k_is); (case uq_k44 => k_is); (case uq_a45 => k_is); (case uq_l45 => k_is); (case uq_c45 => k_is); (case uq_k45 => k_is); (case uq_a46 => k_is); (case uq_l46 => k_is); (case uq_c46 => k_is); (case uq_k46 => k_is); (case uq_a47 => k_is); (case uq_l47 => k_is); (case uq_c47 => k_is); (case uq_k47 => k_is); (case uq_a48 => k_is); (case uq_l48 => k_is); (case uq_c48 => k_is); (case uq_k48 => k_is); (case uq_a49 => k_is); (case uq_l49 => k_is); (case uq_c49 => k_is); (case uq_k49 => k_is); (case uq_a50 => k_is); (case uq_l50 => k_is); (case uq_c50 => k_is); (case uq_k50 => k_is); (case uq_a51 => k_is); (case uq_l51 => k_is); (case uq_c51 => k_is); (case uq_k51 => k_is); (case uq_a52 => k_is); (case uq_l52 => k_is); (case uq_c52 => k_is); (case uq_k52 => k_is); (case uq_a53 => k_is); (case uq_l53 => k_is); (case uq_c53 => k_is); (case uq_k53 => k_is); (case uq_d1 => k_is); (case uq_z0 => k_is); (case uq_z1 => k_is); (case uq_z2 => k_is); (case uq_z3 => k_is); (case uq_z4 => k_is); (case uq_z5 => k_is); (case uq_z6 => k_is); (case uq_z7 => k_is); (case uq_z8 => k_is); (case uq_z9 => k_is); (case uq_z10 => k_is); (case uq_z11 => k_is); (case uq_z12 => k_is); (case uq_z13 => k_is); (case uq_z14 => k_is); (case uq_z15 => k_is); (case uq_z16 => k_is); (case uq_z17 => k_is); (case uq_y0 => k_is); (case uq_g0 => k_is)
