import PyProof.Rows.All
import Wide.All
import OpenK.AllK
import Wide.FinOn
import HandS.ForMost
import HandS.Words
import HandS.Wide
import HandS.Deep
import HandS.Gcd
import HandS.WideBits
import HandS.IsInst
import HandS.Walk
import HandS.Zip
import HandS.Style
import HandS.Flow
import HandS.Iter
import HandS.More
import HandS.Ends
import HandS.EndBits
import PySem.Challenge.RW_straightcuts_k02_whole_points
set_option Elab.async false
set_option linter.all false
set_option maxRecDepth 100000
/-! DI1: a small language of data for the defs of a text, and how it is reckoned -/
namespace DI
open PySem PyProof.Rows L2

/-- data: lists and tuples by what they hold; ref: a list that is changed, by its number -/
inductive D where
  | non | bl (b : Bool) | int (i : Int) | str (x : Str)
  | tup (xs : List D) | lst (xs : List D) | dic (kvs : List (Key × D)) | ref (n : Nat)
abbrev Mem := List (Option (List D))
/-- a name of a def: not there, a value, or a list that is this name's alone -/
inductive Sl where
  | un | val (d : D) | own (ds : List D)
abbrev Ev := List Sl

inductive Bop where | add | sub | mul | fdiv | mod | pow
  deriving DecidableEq
inductive Cop where | eq | ne | lt | le | gt | ge | inn | nin
  deriving DecidableEq
inductive Ty where | int | bool | str | list | tuple | dict
  deriving DecidableEq
inductive Bi where | len | abs | max | min | int | tuple | list | sum | repr | all | any | gcd
  deriving DecidableEq
inductive MG where
  | nm (i : Nat) | tp (gs : List MG)

mutual
inductive ME where
  | var (i : Nat) | ovar (i : Nat)
  | non | bl (b : Bool) | int (i : Int) | str (x : Str)
  | tup (es : List ME) | lst (es : List ME) | dic0
  | cell (e : ME)
  | op (o : Bop) (a b : ME) | neg (a : ME)
  | not (a : ME) | cmp (o : Cop) (a b : ME) | isn (neg : Bool) (a : ME) | isb (neg : Bool) (b : Bool) (a : ME)
  | and (a b : ME) | or (a b : ME) | ite (c a b : ME)
  | idx (a i : ME) | slc (a : ME) (lo hi : Option ME) | rev (a : ME)
  | call (f : Nat) (es : List ME) | callk (f : Nat) (es ks : List ME) (perm : List Nat)
  | bi (b : Bi) (es : List ME)
  | bits (a : ME)
  | isi (a : ME) (ts : List Ty)
  | comp (elt : ME) (tg : MG) (src : MI) (ifs : List ME) (own : List Nat)
inductive MI where
  | seq (e : ME) | rng (es : List ME) | zip (a b : ME) | enum (a : ME)
end

inductive Mth where | append | insert
  deriving DecidableEq
inductive MS where
  | asg (g : MG) (e : ME)
  | own (i : Nat) (e : ME)
  | par (is : List Nat) (es : List ME)
  | aug (i : Nat) (o : Bop) (e : ME)
  | sset (a i e : ME)
  | meth (m : Mth) (r : ME) (es : List ME)
  | ometh (m : Mth) (i : Nat) (es : List ME)
  | expr (e : ME)
  | ret (e : ME) | reto (i : Nat) | retn
  | iff (c : ME) (a b : List MS)
  | for (g : MG) (src : MI) (body : List MS)
  | whl (c : ME) (body : List MS)
  | pass | brk | cnt | raise | doc

/-! ### plain data -/
mutual
def pyW (cf : Nat → Option PyData) : D → Option PyData
  | .non => some .none
  | .bl b => some (.bool b)
  | .int i => some (.int i)
  | .str x => some (.str x)
  | .tup xs => (pyWs cf xs).map .tuple
  | .lst xs => (pyWs cf xs).map .list
  | .dic _ => none
  | .ref n => cf n
def pyWs (cf : Nat → Option PyData) : List D → Option (List PyData)
  | [] => some []
  | x :: xs => (pyW cf x).bind fun y => (pyWs cf xs).map fun ys => y :: ys
end
def cellPy (μ : Mem) : Nat → Nat → Option PyData
  | 0, _ => none
  | k + 1, n => (μ[n]?).join.bind fun ds => (pyWs (cellPy μ k) ds).map .list
def toPy (μ : Mem) (d : D) : Option PyData := pyW (cellPy μ 8) d

/-- what a list holds -/
def seqV (μ : Mem) : D → Option (List D)
  | .lst ds => some ds
  | .ref n => (μ[n]?).join
  | _ => none
def mkL (ds : List D) : Option D := if ds.length ≤ sizeLine then some (.lst ds) else none
def truthD (μ : Mem) : D → Option Bool
  | .non => some false
  | .bl b => some b
  | .int i => some (i != 0)
  | .str x => if x.length ≤ sizeLine then some (x.length != 0) else none
  | .tup xs => some (!xs.isEmpty)
  | .lst xs => some (!xs.isEmpty)
  | .dic kvs => some (!kvs.isEmpty)
  | .ref n => (μ[n]?).join.map fun ds => !ds.isEmpty

def opI (o : Bop) (i j : Int) : Option Int := match o with
  | .add => some (i + j)
  | .sub => some (i - j)
  | .mul => if i.natAbs.log2 + j.natAbs.log2 < 1000000 then some (i * j) else none
  | .fdiv => if j ≠ 0 ∧ j.natAbs.log2 < 9000 then some (i.fdiv j) else none
  | .mod => if j ≠ 0 then some (i.fmod j) else none
  | .pow => if 0 ≤ j ∧ (Builtin.Int.intBits i : Int) * j ≤ 2 ^ 27 then some (i ^ j.toNat) else none
def opD (μ : Mem) (o : Bop) (a b : D) : Option D := match a, b with
  | .int i, .int j => (opI o i j).map .int
  | .bl p, .bl q => match o with
    | .sub => some (.int (b2i p - b2i q))
    | .add => some (.int (b2i p + b2i q))
    | _ => none
  | .int i, .bl q => match o with
    | .add => some (.int (i + b2i q))
    | _ => none
  | .str x, .str y => match o with
    | .add => if x.length + y.length ≤ sizeLine then some (.str (x ++ y)) else none
    | _ => none
  | .tup xs, .tup ys => match o with
    | .add => if xs ≠ [] ∧ xs.length + ys.length ≤ sizeLine then some (.tup (xs ++ ys)) else none
    | _ => none
  | a, b => match o with
    | .add => (seqV μ a).bind fun xs => (seqV μ b).bind fun ys => mkL (xs ++ ys)
    | _ => none
def eqD (μ : Mem) (a b : D) : Option Bool :=
  (toPy μ a).bind fun x => (toPy μ b).bind fun y => if SeqAt.shaped x && SeqAt.shaped y then some (PyData.eqv x y) else none
def inD (μ : Mem) (a b : D) : Option Bool := match a, b with
  | .str x, .str y => some (!(Builtin.Str.occurrences y x 0 y.length 1).isEmpty)
  | a, b => (toPy μ a).bind fun x => (seqV μ b).bind fun bs => (pyWs (cellPy μ 8) bs).bind fun ys =>
      if SeqAt.shaped x && SeqAt.shaped (.list ys) then some (ys.any fun z => PyData.eqv z x) else none
def cmpD (μ : Mem) (o : Cop) (a b : D) : Option Bool := match o with
  | .eq => eqD μ a b
  | .ne => (eqD μ a b).map (!·)
  | .inn => inD μ a b
  | .nin => (inD μ a b).map (!·)
  | .lt => match a, b with
    | .int i, .int j => some (decide (i < j))
    | _, _ => none
  | .le => match a, b with
    | .int i, .int j => some (decide (i ≤ j))
    | _, _ => none
  | .gt => match a, b with
    | .int i, .int j => some (decide (j < i))
    | _, _ => none
  | .ge => match a, b with
    | .int i, .int j => some (decide (j ≤ i))
    | _, _ => none
def idxD (μ : Mem) (a i : D) : Option D := match a, i with
  | .tup xs, .int k => atI xs k
  | .str x, .int k => if x.length ≤ sizeLine then (atI x.cps.toList k).map fun c => .str ⟨#[c]⟩ else none
  | a, .int k => (seqV μ a).bind fun xs => atI xs k
  | _, _ => none
def cutD {α : Type} (xs : List α) (lo hi : Option Int) : List α := (xs.drop (HT.sIx xs.length 0 lo)).take (HT.sIx xs.length xs.length hi - HT.sIx xs.length 0 lo)
def slcD (μ : Mem) (a : D) (lo hi : Option Int) : Option D := match a with
  | .tup xs => if cutD xs lo hi ≠ [] ∧ (cutD xs lo hi).length < xs.length then some (.tup (cutD xs lo hi)) else none
  | a => (seqV μ a).map fun xs => .lst (cutD xs lo hi)
def isT : D → Ty → Bool
  | .bl _, .bool => true
  | .bl _, .int => true
  | .int _, .int => true
  | .str _, .str => true
  | .tup _, .tuple => true
  | .lst _, .list => true
  | .ref _, .list => true
  | .dic _, .dict => true
  | _, _ => false
/-- a list or a tuple -/
def seqT (μ : Mem) : D → Option (List D)
  | .tup ds => some ds
  | d => seqV μ d
def liveD (μ : Mem) : D → Bool
  | .ref n => (μ[n]?).join.isSome
  | _ => true
def intsD : List D → Option (List Int)
  | [] => some []
  | .int i :: r => (intsD r).map fun is => i :: is
  | _ :: _ => none
def blsD : List D → Option (List Bool)
  | [] => some []
  | .bl i :: r => (blsD r).map fun is => i :: is
  | _ :: _ => none
def lenD (μ : Mem) : D → Option Nat
  | .str x => if x.length ≤ sizeLine then some x.length else none
  | .tup xs => some xs.length
  | d => (seqV μ d).map List.length
def biD (μ : Mem) (b : Bi) (ds : List D) : Option D := match b, ds with
  | .len, [d] => (lenD μ d).map fun (n : Nat) => .int (n : Int)
  | .abs, [.int i] => some (.int (if i < 0 then -i else i))
  | .max, [.int i, .int j] => some (.int (if j > i then j else i))
  | .min, [.int i, .int j] => some (.int (if j < i then j else i))
  | .int, [.int i] => some (.int i)
  | .int, [.bl b] => some (.int (if b then 1 else 0))
  | .tuple, [.tup xs] => some (.tup xs)
  | .tuple, [d] => (seqV μ d).map .tup
  | .list, [.tup xs] => some (.lst xs)
  | .list, [d] => (seqV μ d).map .lst
  | .sum, [d] => (seqV μ d).bind fun xs => (intsD xs).map fun is => .int is.sum
  | .all, [d] => (seqV μ d).bind fun xs => (blsD xs).map fun bs => .bl (bs.all id)
  | .any, [d] => (seqV μ d).bind fun xs => (blsD xs).map fun bs => .bl (bs.any id)
  | .gcd, [.int i, .int j] => some (.int (Nat.gcd i.natAbs j.natAbs : Nat))
  | .repr, [d] => (seqT μ d).bind fun _ => (toPy μ d).bind fun x => if SeqAt.shaped x && (x.showable && decide (x.shown.length ≤ sizeLine)) then some (.str x.shown) else none
  | _, _ => none

/-! ### targets -/
mutual
def bindG : MG → D → Ev → Option Ev
  | .nm i, d, env => some (env.set i (.val d))
  | .tp gs, .tup ds, env => bindGs gs ds env
  | .tp _, _, _ => none
def bindGs : List MG → List D → Ev → Option Ev
  | [], [], env => some env
  | g :: gs, d :: ds, env => (bindG g d env).bind fun e => bindGs gs ds e
  | _, _, _ => none
end
mutual
def MG.slots : MG → List Nat
  | .nm i => [i]
  | .tp gs => MG.slotss gs
def MG.slotss : List MG → List Nat
  | [] => []
  | g :: gs => g.slots ++ MG.slotss gs
end
def wipeE (env : Ev) : List Nat → Ev
  | [] => env
  | v :: vs => (wipeE env vs).set v .un

/-! ### loops, apart from the language -/
def compGo (step : D → Mem → Option (Option D × Mem)) (ok : Mem → Bool) : List D → Mem → Option (List D × Mem)
  | [], μ => some ([], μ)
  | x :: xs, μ => (step x μ).bind fun p => if ok p.2 then (compGo step ok xs p.2).map fun q => (p.1.toList ++ q.1, q.2) else none
inductive Fl where
  | nx (e : Ev) | bk (e : Ev) | ct (e : Ev) | rt (d : D)
def forGo (body : D → Ev → Mem → Option (Fl × Mem)) (ok : Ev → Mem → Bool) : List D → Ev → Mem → Option (Fl × Mem)
  | [], env, μ => some (.nx env, μ)
  | x :: xs, env, μ => (body x env μ).bind fun p => match p.1 with
    | .nx e => if ok e p.2 then forGo body ok xs e p.2 else none
    | .ct e => if ok e p.2 then forGo body ok xs e p.2 else none
    | .bk e => some (.nx e, p.2)
    | .rt d => some (.rt d, p.2)
def whileGo (c : Ev → Mem → Option (Bool × Mem)) (body : Ev → Mem → Option (Fl × Mem)) : Nat → Ev → Mem → Option (Fl × Mem)
  | 0, _, _ => none
  | n + 1, env, μ => (c env μ).bind fun p => if p.1 then (body env p.2).bind fun q => match q.1 with
      | .nx e => whileGo c body n e q.2
      | .ct e => whileGo c body n e q.2
      | .bk e => some (.nx e, q.2)
      | .rt d => some (.rt d, q.2)
    else some (.nx env, p.2)

/-! ### data are the same -/
mutual
def D.beq : D → D → Bool
  | .non, .non => true
  | .bl a, .bl b => a == b
  | .int a, .int b => a == b
  | .str a, .str b => a == b
  | .tup a, .tup b => D.beqs a b
  | .lst a, .lst b => D.beqs a b
  | .ref a, .ref b => a == b
  | _, _ => false
def D.beqs : List D → List D → Bool
  | [], [] => true
  | a :: r, b :: q => a.beq b && D.beqs r q
  | _, _ => false
end
/-- what is walked stands as it stood: a list of its own (.inl) of the name i, or a cell (.inr) -/
inductive Lk where
  | own (i : Nat) (ds : List D) | cell (n : Nat) (ds : List D)
def Lk.isCell : Lk → Bool
  | .cell _ _ => true
  | .own _ _ => false
def Lk.ok (env : Ev) (μ : Mem) : Lk → Bool
  | .own i ds => match env[i]? with
    | some (.own es) => D.beqs es ds
    | _ => false
  | .cell n ds => match μ[n]? with
    | some (some es) => D.beqs es ds
    | _ => false
def lockOf (μ : Mem) (e : ME) (d : D) : List Lk := match e, d with
  | .ovar i, .lst ds => [.own i ds]
  | _, .ref n => match μ[n]? with
    | some (some ds) => [.cell n ds]
    | _ => []
  | _, _ => []

abbrev Call := Nat → List D → Mem → Option (D × Mem)
/-- two lists side by side -/
def zipD : List D → List D → List D
  | x :: xs, y :: ys => .tup [x, y] :: zipD xs ys
  | _, _ => []
def enumD : Nat → List D → List D
  | _, [] => []
  | i, x :: xs => .tup [.int i, x] :: enumD (i + 1) xs
def rangeD (lo hi : Int) : List D := (List.range (hi - lo).toNat).map fun (i : Nat) => .int (lo + i)
def itemsD (μ : Mem) : D → Option (List D)
  | .tup xs => some xs
  | d => seqV μ d
def rangeOk (i : Int) : Bool := decide (-(2 ^ 62) ≤ i) && decide (i < 2 ^ 62)
def permD (ds : List D) : List Nat → Option (List D)
  | [] => some []
  | i :: r => (ds[i]?).bind fun d => (permD ds r).map fun q => d :: q

mutual
def evE (C : Call) : ME → Ev → Mem → Option (D × Mem)
  | .var i, env, μ => match env[i]? with
    | some (.val d) => some (d, μ)
    | _ => none
  | .ovar i, env, μ => match env[i]? with
    | some (.own ds) => some (.lst ds, μ)
    | _ => none
  | .non, _, μ => some (.non, μ)
  | .bl b, _, μ => some (.bl b, μ)
  | .int i, _, μ => some (.int i, μ)
  | .str x, _, μ => some (.str x, μ)
  | .tup es, env, μ => (evEs C es env μ).bind fun p => if p.1.length ≤ sizeLine then some (.tup p.1, p.2) else none
  | .lst es, env, μ => (evEs C es env μ).bind fun p => if p.1.length ≤ sizeLine then some (.lst p.1, p.2) else none
  | .dic0, _, μ => some (.dic [], μ)
  | .cell e, env, μ => (evE C e env μ).bind fun p => match p.1 with
    | .lst ds => some (.ref p.2.length, p.2 ++ [some ds])
    | _ => none
  | .op o a b, env, μ => (evE C a env μ).bind fun p => (evE C b env p.2).bind fun q => (opD q.2 o p.1 q.1).map fun d => (d, q.2)
  | .neg a, env, μ => (evE C a env μ).bind fun p => match p.1 with
    | .int i => some (.int (-i), p.2)
    | _ => none
  | .not a, env, μ => (evE C a env μ).bind fun p => (truthD p.2 p.1).map fun b => (.bl (!b), p.2)
  | .cmp o a b, env, μ => (evE C a env μ).bind fun p => (evE C b env p.2).bind fun q => (cmpD q.2 o p.1 q.1).map fun d => (.bl d, q.2)
  | .isn ng a, env, μ => (evE C a env μ).bind fun p => match p.1 with
    | .non => some (.bl (!ng), p.2)
    | .ref _ => none
    | _ => some (.bl ng, p.2)
  | .isb ng b a, env, μ => (evE C a env μ).bind fun p => match p.1 with
    | .bl k => some (.bl (if ng then !decide (k = b) else decide (k = b)), p.2)
    | _ => none
  | .and a b, env, μ => (evE C a env μ).bind fun p => match p.1 with
    | .bl true => evE C b env p.2
    | .bl false => some (.bl false, p.2)
    | _ => none
  | .or a b, env, μ => (evE C a env μ).bind fun p => match p.1 with
    | .bl false => evE C b env p.2
    | .bl true => some (.bl true, p.2)
    | _ => none
  | .ite c a b, env, μ => (evE C c env μ).bind fun p => (truthD p.2 p.1).bind fun k => if k then evE C a env p.2 else evE C b env p.2
  | .idx a i, env, μ => (evE C a env μ).bind fun p => (evE C i env p.2).bind fun q => (idxD q.2 p.1 q.1).map fun d => (d, q.2)
  | .slc a lo hi, env, μ => (evE C a env μ).bind fun p => (evO C lo env p.2).bind fun q => (evO C hi env q.2).bind fun r => (slcD r.2 p.1 q.1 r.1).map fun d => (d, r.2)
  | .rev a, env, μ => (evE C a env μ).bind fun p => (seqV p.2 p.1).map fun xs => (.lst xs.reverse, p.2)
  | .call f es, env, μ => (evEs C es env μ).bind fun p => C f p.1 p.2
  | .callk f es ks perm, env, μ => (evEs C es env μ).bind fun p => (evEs C ks env p.2).bind fun q => (permD (p.1 ++ q.1) perm).bind fun ds => C f ds q.2
  | .bi b es, env, μ => (evEs C es env μ).bind fun p => (biD p.2 b p.1).map fun d => (d, p.2)
  | .bits a, env, μ => (evE C a env μ).bind fun p => match p.1 with
    | .int i => some (.int (Builtin.Int.intBits i : Nat), p.2)
    | _ => none
  | .isi a ts, env, μ => (evE C a env μ).bind fun p => if liveD p.2 p.1 then some (.bl (ts.any (isT p.1)), p.2) else none
  | .comp elt tg src ifs own, env, μ => (evI C src env μ).bind fun p => if p.1.2.all (Lk.ok env p.2) then
      (compGo (fun x ν => (bindG tg x (wipeE env own)).bind fun e1 => (evCs C ifs e1 ν).bind fun c =>
          if c.1 then (evE C elt e1 c.2).map fun q => (some q.1, q.2) else some (none, c.2))
        (fun ν => p.1.2.all (Lk.ok env ν)) p.1.1 p.2).bind fun r => if r.1.length ≤ sizeLine then some (.lst r.1, r.2) else none
      else none
def evEs (C : Call) : List ME → Ev → Mem → Option (List D × Mem)
  | [], _, μ => some ([], μ)
  | e :: es, env, μ => (evE C e env μ).bind fun p => (evEs C es env p.2).map fun q => (p.1 :: q.1, q.2)
def evO (C : Call) : Option ME → Ev → Mem → Option (Option Int × Mem)
  | none, _, μ => some (none, μ)
  | some e, env, μ => (evE C e env μ).bind fun p => match p.1 with
    | .int i => some (some i, p.2)
    | _ => none
def evCs (C : Call) : List ME → Ev → Mem → Option (Bool × Mem)
  | [], _, μ => some (true, μ)
  | e :: es, env, μ => (evE C e env μ).bind fun p => (truthD p.2 p.1).bind fun b => if b then evCs C es env p.2 else some (false, p.2)
def evI (C : Call) : MI → Ev → Mem → Option ((List D × List Lk) × Mem)
  | .seq e, env, μ => (evE C e env μ).bind fun p => (itemsD p.2 p.1).map fun ds => ((ds, lockOf p.2 e p.1), p.2)
  | .rng es, env, μ => (evEs C es env μ).bind fun p => match p.1 with
    | [.int j] => if rangeOk j then some ((rangeD 0 j, []), p.2) else none
    | [.int i, .int j] => if rangeOk i && rangeOk j then some ((rangeD i j, []), p.2) else none
    | _ => none
  | .zip a b, env, μ => (evE C a env μ).bind fun p => (evE C b env p.2).bind fun q => match p.1, q.1 with
    | .tup xs, .tup ys => some ((zipD xs ys, []), q.2)
    | x, y => (seqV q.2 x).bind fun xs => (seqV q.2 y).map fun ys => ((zipD xs ys, lockOf q.2 a x ++ lockOf q.2 b y), q.2)
  | .enum a, env, μ => (evE C a env μ).bind fun p => (seqV p.2 p.1).map fun ds => ((enumD 0 ds, lockOf p.2 a p.1), p.2)
end

def evT (C : Call) (c : ME) (env : Ev) (μ : Mem) : Option (Bool × Mem) := (evE C c env μ).bind fun p => (truthD p.2 p.1).map fun b => (b, p.2)
def mthD (m : Mth) (xs : List D) (ds : List D) : Option (List D) := match m, ds with
  | .append, [d] => if xs.length < sizeLine then some (xs ++ [d]) else none
  | .insert, [.int i, d] => if xs.length < sizeLine ∧ 0 ≤ i ∧ i < 2 ^ 63 then some (xs.take i.toNat ++ [d] ++ xs.drop i.toNat) else none
  | _, _ => none
def parE : List Nat → List D → Ev → Option Ev
  | [], [], env => some env
  | i :: is, d :: ds, env => (parE is ds (env.set i (.val d)))
  | _, _, _ => none

mutual
def evS (C : Call) (wf : Nat) : MS → Ev → Mem → Option (Fl × Mem)
  | .asg g e, env, μ => (evE C e env μ).bind fun p => (bindG g p.1 env).map fun e1 => (.nx e1, p.2)
  | .own i e, env, μ => (evE C e env μ).bind fun p => match p.1 with
    | .lst ds => some (.nx (env.set i (.own ds)), p.2)
    | _ => none
  | .par is es, env, μ => (evEs C es env μ).bind fun p => (parE is p.1 env).map fun e1 => (.nx e1, p.2)
  | .aug i o e, env, μ => match env[i]? with
    | some (.val (.int x)) => (evE C e env μ).bind fun p => match o, p.1 with
      | .add, .int y => some (.nx (env.set i (.val (.int (x + y)))), p.2)
      | .sub, .int y => some (.nx (env.set i (.val (.int (x - y)))), p.2)
      | _, _ => none
    | _ => none
  | .sset a i e, env, μ => (evE C e env μ).bind fun p => (evE C a env p.2).bind fun q => (evE C i env q.2).bind fun r => match q.1, r.1 with
    | .ref n, .int k => (r.2[n]?).join.bind fun ds => (ixN ds.length k).map fun j => (.nx env, r.2.set n (some (ds.set j p.1)))
    | _, _ => none
  | .meth m a es, env, μ => (evE C a env μ).bind fun p => match p.1 with
    | .ref n => (p.2[n]?).join.bind fun _ => (evEs C es env p.2).bind fun q => (q.2[n]?).join.bind fun ds => (mthD m ds q.1).map fun ds' => (.nx env, q.2.set n (some ds'))
    | _ => none
  | .ometh m i es, env, μ => match env[i]? with
    | some (.own ds) => (evEs C es env μ).bind fun q => (mthD m ds q.1).map fun ds' => (.nx (env.set i (.own ds')), q.2)
    | _ => none
  | .expr e, env, μ => (evE C e env μ).map fun p => (.nx env, p.2)
  | .ret e, env, μ => (evE C e env μ).map fun p => (.rt p.1, p.2)
  | .reto i, env, μ => match env[i]? with
    | some (.own ds) => some (.rt (.lst ds), μ)
    | _ => none
  | .retn, _, μ => some (.rt .non, μ)
  | .iff c a b, env, μ => (evT C c env μ).bind fun p => if p.1 then evSs C wf a env p.2 else evSs C wf b env p.2
  | .for g src body, env, μ => (evI C src env μ).bind fun p => if p.1.2.all Lk.isCell && p.1.2.all (Lk.ok env p.2) then
      forGo (fun x e ν => (bindG g x e).bind fun e1 => evSs C wf body e1 ν) (fun e ν => p.1.2.all (Lk.ok e ν)) p.1.1 env p.2
      else none
  | .whl c body, env, μ => whileGo (fun e ν => evT C c e ν) (fun e ν => evSs C wf body e ν) wf env μ
  | .pass, env, μ => some (.nx env, μ)
  | .doc, env, μ => some (.nx env, μ)
  | .brk, env, μ => some (.bk env, μ)
  | .cnt, env, μ => some (.ct env, μ)
  | .raise, _, _ => none
def evSs (C : Call) (wf : Nat) : List MS → Ev → Mem → Option (Fl × Mem)
  | [], env, μ => some (.nx env, μ)
  | s :: ss, env, μ => (evS C wf s env μ).bind fun p => match p.1 with
    | .nx e => evSs C wf ss e p.2
    | f => some (f, p.2)
end

/-- a def: how many parameters, how many names, its body, whether it hands back a new list -/
structure MF where
  params : Nat
  slots : Nat
  body : List MS
  fresh : Bool
def callN (T : List MF) (wf : Nat) : Nat → Call
  | 0 => fun _ _ _ => none
  | n + 1 => fun f ds μ => (T[f]?).bind fun m => if ds.length = m.params then
      (evSs (callN T wf n) wf m.body (ds.map Sl.val ++ List.replicate (m.slots - m.params) .un) μ).bind fun p => match p.1 with
        | .rt d => some (d, p.2)
        | .nx _ => some (.non, p.2)
        | _ => none
    else none
end DI
set_option Elab.async false
set_option linter.all false
set_option maxRecDepth 100000
/-! DI2: how data stand in the abstract heap -/
namespace DI
open PySem PySem.Spec PyProof.Rows L2
abbrev Cells := List (Option Addr)
def Held (ι : Cells) (B : List Addr) (a : Addr) : Prop := some a ∈ ι ∨ a ∈ B
instance {ι : Cells} {B : List Addr} {a : Addr} : Decidable (Held ι B a) := by unfold Held; infer_instance
def cut (H : Hp) (ι : Cells) (B : List Addr) : Hp := fun a => if Held ι B a then none else H a
theorem cut_some {H : Hp} {ι : Cells} {B : List Addr} {a : Addr} {o : HO} (h : cut H ι B a = some o) : ¬ Held ι B a ∧ H a = some o := by
  unfold cut at h
  by_cases k : Held ι B a
  · rw [if_pos k] at h; cases h
  · rw [if_neg k] at h; exact ⟨k, h⟩
theorem cut_of {H : Hp} {ι : Cells} {B : List Addr} {a : Addr} {o : HO} (k : ¬ Held ι B a) (h : H a = some o) : cut H ι B a = some o := by
  unfold cut; rw [if_neg k]; exact h
theorem cut_same {H : Hp} {ι : Cells} {B : List Addr} : Same (cut H ι B) H := fun _ _ h => (cut_some h).2

mutual
inductive Rep (K : PySem.W.Frag) (G : Hp) (ι : Cells) : V → D → Prop where
  | non : Rep K G ι .non .non
  | bl (b : Bool) : Rep K G ι (.bl b) (.bl b)
  | int (i : Int) : Rep K G ι (.int i) (.int i)
  | str (x : Str) : Rep K G ι (.str x) (.str x)
  | tup {a : Addr} {vs : List V} {ds : List D} (s : SqT K G a vs) (r : Reps K G ι vs ds) : Rep K G ι (.ref a) (.tup ds)
  | lst {a : Addr} {vs : List V} {ds : List D} (s : SqL K G a vs) (r : Reps K G ι vs ds) : Rep K G ι (.ref a) (.lst ds)
  | dic0 {a : Addr} (s : G a = some (.dK [])) : Rep K G ι (.ref a) (.dic [])
  | ref {n : Nat} {v : V} {x : Option Addr} (e : ι[n]? = some x) (h : ∀ a, x = some a → v = .ref a) : Rep K G ι v (.ref n)
inductive Reps (K : PySem.W.Frag) (G : Hp) (ι : Cells) : List V → List D → Prop where
  | nil : Reps K G ι [] []
  | cons {v : V} {d : D} {vs : List V} {ds : List D} (h : Rep K G ι v d) (t : Reps K G ι vs ds) : Reps K G ι (v :: vs) (d :: ds)
end
/-- the frozen part grows, the cells stay or die -/
structure Up (G : Hp) (ι : Cells) (G' : Hp) (ι' : Cells) : Prop where
  fr : Same G G'
  cells : ∀ (n : Nat) (x : Option Addr), ι[n]? = some x → ∃ x', ι'[n]? = some x' ∧ (x' = none ∨ x' = x)
section
variable {K : PySem.W.Frag} {G G' : Hp} {ι ι' : Cells}
mutual
theorem Rep.up (u : Up G ι G' ι') : ∀ {v : V} {d : D}, Rep K G ι v d → Rep K G' ι' v d
  | _, _, .non => .non
  | _, _, .bl b => .bl b
  | _, _, .int b => .int b
  | _, _, .str b => .str b
  | _, _, .tup s r => .tup (by
      rcases s with (s | ⟨o, s⟩) | s
      · exact .inl (.inl (u.fr _ _ s))
      · exact .inl (.inr ⟨o, u.fr _ _ s⟩)
      · exact .inr s) (Reps.up u r)
  | _, _, .lst s r => .lst (u.fr.seq s) (Reps.up u r)
  | _, _, .dic0 s => .dic0 (u.fr _ _ s)
  | _, _, .ref e h => by
    obtain ⟨x', e', q⟩ := u.cells _ _ e
    refine .ref e' fun a ha => ?_
    rcases q with q | q
    · rw [q] at ha; cases ha
    · rw [q] at ha; exact h a ha
theorem Reps.up (u : Up G ι G' ι') : ∀ {vs : List V} {ds : List D}, Reps K G ι vs ds → Reps K G' ι' vs ds
  | _, _, .nil => .nil
  | _, _, .cons h t => .cons (h.up u) (t.up u)
end
theorem Reps.length : ∀ {vs : List V} {ds : List D}, Reps K G ι vs ds → vs.length = ds.length
  | _, _, .nil => rfl
  | _, _, .cons _ t => by rw [List.length_cons, List.length_cons, t.length]
theorem Reps.append : ∀ {vs ws : List V} {ds es : List D}, Reps K G ι vs ds → Reps K G ι ws es → Reps K G ι (vs ++ ws) (ds ++ es)
  | _, _, _, _, .nil, s => s
  | _, _, _, _, .cons h t, s => .cons h (t.append s)
theorem Reps.take : ∀ {vs : List V} {ds : List D} (n : Nat), Reps K G ι vs ds → Reps K G ι (vs.take n) (ds.take n)
  | _, _, 0, _ => .nil
  | _, _, _ + 1, .nil => .nil
  | _, _, n + 1, .cons h t => .cons h (t.take n)
theorem Reps.drop : ∀ {vs : List V} {ds : List D} (n : Nat), Reps K G ι vs ds → Reps K G ι (vs.drop n) (ds.drop n)
  | _, _, 0, r => r
  | _, _, _ + 1, .nil => .nil
  | _, _, n + 1, .cons _ t => t.drop n
theorem Reps.set {v : V} {d : D} (r : Rep K G ι v d) : ∀ {vs : List V} {ds : List D} (i : Nat), Reps K G ι vs ds → Reps K G ι (vs.set i v) (ds.set i d)
  | _, _, _, .nil => .nil
  | _, _, 0, .cons _ t => .cons r t
  | _, _, i + 1, .cons h t => .cons h (t.set r i)
theorem Reps.reverse {vs : List V} {ds : List D} (h : Reps K G ι vs ds) : Reps K G ι vs.reverse ds.reverse := by
  induction h using Reps.rec (motive_1 := fun _ _ _ => True) with
  | nil => exact .nil
  | cons h t _ ih => rw [List.reverse_cons, List.reverse_cons]; exact Reps.append ih (.cons h .nil)
  | _ => trivial
theorem Reps.get : ∀ {vs : List V} {ds : List D} {i : Nat} {d : D}, Reps K G ι vs ds → ds[i]? = some d → ∃ v, vs[i]? = some v ∧ Rep K G ι v d
  | _, _, _, _, .nil, e => by simp at e
  | _, _, 0, _, .cons h _, e => by simp at e; subst e; exact ⟨_, rfl, h⟩
  | _, _, i + 1, _, .cons _ t, e => by
    obtain ⟨v, h1, h2⟩ := Reps.get (i := i) t (by simpa using e)
    exact ⟨v, by simpa using h1, h2⟩
theorem Reps.getV : ∀ {vs : List V} {ds : List D} {i : Nat} {v : V}, Reps K G ι vs ds → vs[i]? = some v → ∃ d, ds[i]? = some d ∧ Rep K G ι v d
  | _, _, _, _, .nil, e => by simp at e
  | _, _, 0, _, .cons h _, e => by simp at e; subst e; exact ⟨_, rfl, h⟩
  | _, _, i + 1, _, .cons _ t, e => by
    obtain ⟨v, h1, h2⟩ := Reps.getV (i := i) t (by simpa using e)
    exact ⟨v, by simpa using h1, h2⟩
end

/-! ### the state -/
structure Sim (K : PySem.W.Frag) (H : Hp) (ι : Cells) (B : List Addr) (μ : Mem) : Prop where
  len : ι.length = μ.length
  inj : ∀ (i j : Nat) (a : Addr), ι[i]? = some (some a) → ι[j]? = some (some a) → i = j
  apart : ∀ a, some a ∈ ι → a ∉ B
  there : ∀ a, some a ∈ ι → ∃ o, H a = some o
  busy : ∀ a, a ∈ B → ∃ o, H a = some o
  cell : ∀ (n : Nat) (ds : List D), μ[n]? = some (some ds) → ∃ a vs, ι[n]? = some (some a) ∧ H a = some (.lst vs) ∧ Reps K (cut H ι B) ι vs ds
structure Ext (H : Hp) (ι : Cells) (B : List Addr) (H' : Hp) (ι' : Cells) (B' : List Addr) : Prop where
  fr : Same (cut H ι B) (cut H' ι' B')
  cells : ∀ (n : Nat) (x : Option Addr), ι[n]? = some x → ∃ x', ι'[n]? = some x' ∧ (x' = none ∨ x' = x)
  sub : ∀ a, a ∈ B → a ∈ B'
  dom : ∀ a, H' a = none → H a = none
  new : ∀ a, a ∈ B' → a ∉ B → H a = none
/-- the objects at F stay as they are -/
def Keep (F : List Addr) (H H' : Hp) : Prop := ∀ a, a ∈ F → H' a = H a
section
variable {K : PySem.W.Frag} {H H1 H2 H' : Hp} {ι ι1 ι2 ι' : Cells} {B B1 B2 B' B0 F : List Addr} {μ : Mem} {σ : L2.St} {env : Ev} {v : V} {d : D}
theorem Ext.up (x : Ext H ι B H' ι' B') : Up (cut H ι B) ι (cut H' ι' B') ι' := ⟨x.fr, x.cells⟩
theorem Ext.refl : Ext H ι B H ι B := ⟨Same.refl _, fun _ x e => ⟨x, e, .inr rfl⟩, fun _ h => h, fun _ h => h, fun a h n => absurd h n⟩
theorem Ext.trans (x : Ext H ι B H1 ι1 B1) (y : Ext H1 ι1 B1 H2 ι2 B2) : Ext H ι B H2 ι2 B2 where
  fr := x.fr.trans y.fr
  cells := fun n z e => by
    obtain ⟨z1, e1, q1⟩ := x.cells n z e
    obtain ⟨z2, e2, q2⟩ := y.cells n z1 e1
    refine ⟨z2, e2, ?_⟩
    rcases q2 with q2 | q2
    · exact .inl q2
    · rcases q1 with q1 | q1
      · exact .inl (q2.trans q1)
      · exact .inr (q2.trans q1)
  sub := fun a h => y.sub a (x.sub a h)
  dom := fun a h => x.dom a (y.dom a h)
  new := fun a h n => by
    by_cases k : a ∈ B1
    · exact x.new a k n
    · exact x.dom a (y.new a h k)
theorem Keep.refl : Keep F H H := fun _ _ => rfl
theorem Keep.trans (x : Keep F H H1) (y : Keep F H1 H2) : Keep F H H2 := fun a h => (y a h).trans (x a h)
theorem Keep.mono (x : Keep F H H1) (s : ∀ a, a ∈ B → a ∈ F) : Keep B H H1 := fun a h => x a (s a h)
theorem held_mono {a : Addr} (h : ¬ Held ι (B := B') a) (s : ∀ a, a ∈ B → a ∈ B') : ¬ Held ι B a := fun k => h (k.imp_right (s a))

/-- a new frozen object -/
theorem fresh_not_held (S : Sim K H ι B μ) {p : Addr} (hp : H p = none) : ¬ Held ι B p := fun h => by
  rcases h with h | h
  · obtain ⟨o, e⟩ := S.there p h; rw [hp] at e; cases e
  · obtain ⟨o, e⟩ := S.busy p h; rw [hp] at e; cases e
theorem cut_upd (S : Sim K H ι B μ) {p : Addr} {o : HO} (hp : H p = none) : Same (cut H ι B) (cut (upd H p o) ι B) := fun a u h => by
  obtain ⟨k, e⟩ := cut_some h
  exact cut_of k (by rw [upd_ne (ne_of_none e hp)]; exact e)
theorem Ext.laid (S : Sim K H ι B μ) {p : Addr} {o : HO} (hp : H p = none) : Ext H ι B (upd H p o) ι B :=
  ⟨cut_upd S hp, fun _ x e => ⟨x, e, .inr rfl⟩, fun _ h => h, fun a h => by
    by_cases k : a = p
    · rw [k]; exact hp
    · rw [upd_ne k] at h; exact h, fun a h n => absurd h n⟩
theorem Keep.laid (S : Sim K H ι B μ) {p : Addr} {o : HO} (hp : H p = none) : Keep B H (upd H p o) := fun a h => by
  obtain ⟨u, e⟩ := S.busy a h
  exact upd_ne (ne_of_none e hp)
theorem Sim.laid (S : Sim K H ι B μ) {p : Addr} {o : HO} (hp : H p = none) : Sim K (upd H p o) ι B μ where
  len := S.len
  inj := S.inj
  apart := S.apart
  there := fun a h => by
    obtain ⟨u, e⟩ := S.there a h
    exact ⟨u, by rw [upd_ne (ne_of_none e hp)]; exact e⟩
  busy := fun a h => by
    obtain ⟨u, e⟩ := S.busy a h
    exact ⟨u, by rw [upd_ne (ne_of_none e hp)]; exact e⟩
  cell := fun n ds h => by
    obtain ⟨a, vs, e1, e2, r⟩ := S.cell n ds h
    exact ⟨a, vs, e1, by rw [upd_ne (ne_of_none e2 hp)]; exact e2, r.up ⟨cut_upd S hp, fun _ x e => ⟨x, e, .inr rfl⟩⟩⟩
/-- .. it is held for a while -/
theorem Ext.hold (S : Sim K H ι B μ) {p : Addr} {o : HO} (hp : H p = none) : Ext H ι B (upd H p o) ι (p :: B) where
  fr := fun a u h => by
    obtain ⟨k, e⟩ := cut_some h
    have ne := ne_of_none e hp
    exact cut_of (fun q => k (q.imp_right fun q => by
      rcases List.mem_cons.mp q with q | q
      · exact absurd q ne
      · exact q)) (by rw [upd_ne ne]; exact e)
  cells := fun _ x e => ⟨x, e, .inr rfl⟩
  sub := fun _ h => List.mem_cons_of_mem _ h
  dom := fun a h => by
    by_cases k : a = p
    · rw [k]; exact hp
    · rw [upd_ne k] at h; exact h
  new := fun a h n => by
    rcases List.mem_cons.mp h with q | q
    · rw [q]; exact hp
    · exact absurd q n
theorem Sim.hold (S : Sim K H ι B μ) {p : Addr} {o : HO} (hp : H p = none) : Sim K (upd H p o) ι (p :: B) μ where
  len := S.len
  inj := S.inj
  apart := fun a h q => by
    rcases List.mem_cons.mp q with q | q
    · obtain ⟨u, e⟩ := S.there a h
      rw [q, hp] at e; cases e
    · exact S.apart a h q
  there := fun a h => by
    obtain ⟨u, e⟩ := S.there a h
    exact ⟨u, by rw [upd_ne (ne_of_none e hp)]; exact e⟩
  busy := fun a h => by
    rcases List.mem_cons.mp h with q | q
    · exact ⟨o, by rw [q]; exact upd_same⟩
    · obtain ⟨u, e⟩ := S.busy a q
      exact ⟨u, by rw [upd_ne (ne_of_none e hp)]; exact e⟩
  cell := fun n ds h => by
    obtain ⟨a, vs, e1, e2, r⟩ := S.cell n ds h
    exact ⟨a, vs, e1, by rw [upd_ne (ne_of_none e2 hp)]; exact e2, r.up (Ext.hold S hp).up⟩
/-- a held object is let go: it is frozen from now on -/
theorem Ext.free {p : Addr} (x : Ext H ι B H' ι' (p :: B)) : Ext H ι B H' ι' B where
  fr := fun a u h => by
    obtain ⟨k, e⟩ := cut_some (x.fr a u h)
    exact cut_of (held_mono k fun b q => List.mem_cons_of_mem _ q) e
  cells := x.cells
  sub := fun _ h => h
  dom := x.dom
  new := fun a h n => absurd h n
theorem cut_free {p : Addr} : Same (cut H ι (p :: B)) (cut H ι B) := fun a u h => by
  obtain ⟨k, e⟩ := cut_some h
  exact cut_of (held_mono k fun b q => List.mem_cons_of_mem _ q) e
theorem Sim.free {p : Addr} (S : Sim K H ι (p :: B) μ) : Sim K H ι B μ where
  len := S.len
  inj := S.inj
  apart := fun a h q => S.apart a h (List.mem_cons_of_mem _ q)
  there := S.there
  busy := fun a h => S.busy a (List.mem_cons_of_mem _ h)
  cell := fun n ds h => by
    obtain ⟨a, vs, e1, e2, r⟩ := S.cell n ds h
    exact ⟨a, vs, e1, e2, r.up ⟨cut_free, fun _ x e => ⟨x, e, .inr rfl⟩⟩⟩
/-- a held object becomes a cell -/
theorem held_cell {p a : Addr} : Held (ι ++ [some p]) B a ↔ Held ι (p :: B) a := by
  unfold Held
  rw [List.mem_append, List.mem_singleton, List.mem_cons]
  constructor
  · rintro ((h | h) | h)
    · exact .inl h
    · exact .inr (.inl (Option.some.inj h))
    · exact .inr (.inr h)
  · rintro (h | h | h)
    · exact .inl (.inl h)
    · exact .inl (.inr (by rw [h]))
    · exact .inr h
theorem cut_cell {p : Addr} : cut H (ι ++ [some p]) B = cut H ι (p :: B) := by
  funext a
  unfold cut
  by_cases h : Held ι (p :: B) a
  · rw [if_pos h, if_pos (held_cell.mpr h)]
  · rw [if_neg h, if_neg fun q => h (held_cell.mp q)]
theorem cells_app {p : Option Addr} (n : Nat) (x : Option Addr) (e : ι[n]? = some x) : ∃ x', (ι ++ [p])[n]? = some x' ∧ (x' = none ∨ x' = x) :=
  ⟨x, by rw [List.getElem?_append_left (List.getElem?_eq_some_iff.mp e).1]; exact e, .inr rfl⟩
theorem Ext.cell {p : Addr} (x : Ext H ι B H' ι' (p :: B)) : Ext H ι B H' (ι' ++ [some p]) B where
  fr := by rw [cut_cell]; exact x.fr
  cells := fun n z e => by
    obtain ⟨z1, e1, q1⟩ := x.cells n z e
    obtain ⟨z2, e2, q2⟩ := cells_app (p := some p) n z1 e1
    refine ⟨z2, e2, ?_⟩
    rcases q2 with q2 | q2
    · exact .inl q2
    · rcases q1 with q1 | q1
      · exact .inl (q2.trans q1)
      · exact .inr (q2.trans q1)
  sub := fun _ h => h
  dom := x.dom
  new := fun a h n => absurd h n
theorem Sim.cell' {p : Addr} {vs : List V} {ds : List D} (S : Sim K H ι (p :: B) μ) (np : p ∉ B) (h : H p = some (.lst vs)) (r : Reps K (cut H ι (p :: B)) ι vs ds) : Sim K H (ι ++ [some p]) B (μ ++ [some ds]) where
  len := by rw [List.length_append, List.length_append, S.len]; rfl
  inj := by
    have old : ∀ (i : Nat) (a : Addr), (ι ++ [some p])[i]? = some (some a) → (ι[i]? = some (some a) ∧ a ≠ p) ∨ (i = ι.length ∧ a = p) := fun i a h => by
      by_cases hi : i < ι.length
      · rw [List.getElem?_append_left hi] at h
        refine .inl ⟨h, fun e => S.apart a (List.mem_of_getElem? h) (by rw [e]; exact List.mem_cons_self)⟩
      · rw [List.getElem?_append_right (by omega)] at h
        obtain ⟨h1, h2⟩ := List.getElem?_eq_some_iff.mp h
        simp at h1 h2
        exact .inr ⟨by omega, h2.symm⟩
    intro i j a hi hj
    rcases old i a hi with ⟨h1, n1⟩ | ⟨h1, n1⟩
    · rcases old j a hj with ⟨h2, n2⟩ | ⟨h2, n2⟩
      · exact S.inj i j a h1 h2
      · exact absurd n2 n1
    · rcases old j a hj with ⟨h2, n2⟩ | ⟨h2, n2⟩
      · exact absurd n1 n2
      · exact h1.trans h2.symm
  apart := fun a h q => by
    rcases List.mem_append.mp h with h | h
    · exact S.apart a h (List.mem_cons_of_mem _ q)
    · rw [List.mem_singleton] at h; cases h; exact np q
  there := fun a h' => by
    rcases List.mem_append.mp h' with h' | h'
    · exact S.there a h'
    · rw [List.mem_singleton] at h'; cases h'; exact ⟨_, h⟩
  busy := fun a h => S.busy a (List.mem_cons_of_mem _ h)
  cell := fun n es e => by
    have u : Up (cut H ι (p :: B)) ι (cut H (ι ++ [some p]) B) (ι ++ [some p]) := ⟨by rw [cut_cell]; exact Same.refl _, fun n x e => cells_app n x e⟩
    by_cases hn : n < μ.length
    · rw [List.getElem?_append_left hn] at e
      obtain ⟨a, ws, e1, e2, r'⟩ := S.cell n es e
      exact ⟨a, ws, by rw [List.getElem?_append_left (by rw [S.len]; exact hn)]; exact e1, e2, r'.up u⟩
    · rw [List.getElem?_append_right (by omega)] at e
      obtain ⟨h1, h2⟩ := List.getElem?_eq_some_iff.mp e
      simp at h1 h2
      have en : n = ι.length := by rw [S.len]; omega
      subst h2
      exact ⟨p, vs, by rw [en, List.getElem?_append_right (Nat.le_refl _)]; simp, h, r.up u⟩

/-- the names -/
structure REnv (K : PySem.W.Frag) (H : Hp) (ι : Cells) (B B0 : List Addr) (σ : L2.St) (env : Ev) : Prop where
  len : env.length = σ.length
  val : ∀ (i : Nat) (d : D), env[i]? = some (.val d) → ∃ v, σ[i]? = some (some v) ∧ Rep K (cut H ι B) ι v d
  own : ∀ (i : Nat) (ds : List D), env[i]? = some (.own ds) → ∃ a vs, σ[i]? = some (some (.ref a)) ∧ a ∈ B ∧ a ∉ B0 ∧ H a = some (.lst vs) ∧ Reps K (cut H ι B) ι vs ds
  sep : ∀ (i j : Nat) (ds es : List D) (a : Addr), env[i]? = some (.own ds) → env[j]? = some (.own es) → σ[i]? = some (some (.ref a)) → σ[j]? = some (some (.ref a)) → i = j
theorem REnv.ext (R : REnv K H ι B B0 σ env) (x : Ext H ι B H' ι' B') (k : Keep B H H') : REnv K H' ι' B' B0 σ env where
  len := R.len
  val := fun i d h => by
    obtain ⟨v, e, r⟩ := R.val i d h
    exact ⟨v, e, r.up x.up⟩
  own := fun i ds h => by
    obtain ⟨a, vs, e1, e2, e3, e4, r⟩ := R.own i ds h
    exact ⟨a, vs, e1, x.sub a e2, e3, by rw [k a e2]; exact e4, r.up x.up⟩
  sep := R.sep

/-- an argument that is only read: also a list of one's own -/
inductive RepA (K : PySem.W.Frag) (H : Hp) (ι : Cells) (B : List Addr) : V → D → Prop where
  | rep {v : V} {d : D} (r : Rep K (cut H ι B) ι v d) : RepA K H ι B v d
  | own {a : Addr} {vs : List V} {ds : List D} (b : a ∈ B) (h : H a = some (.lst vs)) (r : Reps K (cut H ι B) ι vs ds) : RepA K H ι B (.ref a) (.lst ds)
theorem RepA.ext (r : RepA K H ι B v d) (x : Ext H ι B H' ι' B') (k : Keep B H H') : RepA K H' ι' B' v d := by
  cases r with
  | rep r => exact .rep (r.up x.up)
  | own b h r => exact .own (x.sub _ b) (by rw [k _ b]; exact h) (r.up x.up)
theorem sqT_cut {a : Addr} {vs : List V} (s : SqT K (cut H ι B) a vs) : SqT K H a vs := by
  rcases s with (s | ⟨o, s⟩) | s
  · exact .inl (.inl (cut_same _ _ s))
  · exact .inl (.inr ⟨o, cut_same _ _ s⟩)
  · exact .inr s
theorem sqL_cut {a : Addr} {vs : List V} (s : SqL K (cut H ι B) a vs) : SqL K H a vs := cut_same.seq s
theorem RepA.seq (S : Sim K H ι B μ) {ds : List D} (r : RepA K H ι B v d) (e : seqV μ d = some ds) : ∃ a vs, v = .ref a ∧ SqL K H a vs ∧ Reps K (cut H ι B) ι vs ds := by
  cases r with
  | own b h r => cases e; exact ⟨_, _, rfl, SqL.of h, r⟩
  | rep r =>
    cases r with
    | lst s r => cases e; exact ⟨_, _, rfl, sqL_cut s, r⟩
    | @ref n _ x e1 h =>
      have e' : (μ[n]?).join = some ds := e
      cases q : μ[n]? with
      | none => rw [q] at e'; cases e'
      | some y =>
        rw [q] at e'
        have e2 : y = some ds := e'
        rw [e2] at q
        obtain ⟨a, vs, h1, h2, r⟩ := S.cell n ds q
        rw [h1] at e1
        cases e1
        exact ⟨a, vs, h a rfl, SqL.of h2, r⟩
    | _ => cases e
theorem RepA.tup {ds : List D} (r : RepA K H ι B v (.tup ds)) : ∃ a vs, v = .ref a ∧ SqT K H a vs ∧ Reps K (cut H ι B) ι vs ds := by
  cases r with
  | rep r => cases r with
    | tup s r => exact ⟨_, _, rfl, sqT_cut s, r⟩
theorem RepA.int {i : Int} (r : RepA K H ι B v (.int i)) : v = .int i := by
  cases r with
  | rep r => cases r; rfl
theorem RepA.bl {i : Bool} (r : RepA K H ι B v (.bl i)) : v = .bl i := by
  cases r with
  | rep r => cases r; rfl
theorem RepA.str {i : Str} (r : RepA K H ι B v (.str i)) : v = .str i := by
  cases r with
  | rep r => cases r; rfl
theorem RepA.non (r : RepA K H ι B v .non) : v = .non := by
  cases r with
  | rep r => cases r; rfl

/-! ### plain data -/
mutual
theorem dp_of {G : Hp} (hG : Same G H) {cf : Nat → Option PyData} (hc : ∀ (n : Nat) (y : PyData) (v : V), cf n = some y → Rep K G ι v (.ref n) → Dp K H v y) : ∀ (d : D) (v : V) (x : PyData), Rep K G ι v d → pyW cf d = some x → Dp K H v x
  | .non, _, _, .non, e => by simp only [pyW, Option.some.injEq] at e; subst e; exact .non
  | .bl _, _, _, .bl _, e => by simp only [pyW, Option.some.injEq] at e; subst e; exact .bl _
  | .int _, _, _, .int _, e => by simp only [pyW, Option.some.injEq] at e; subst e; exact .int _
  | .str _, _, _, .str _, e => by simp only [pyW, Option.some.injEq] at e; subst e; exact .str _
  | .tup ds, _, x, .tup s r, e => by
    simp only [pyW] at e
    obtain ⟨ys, e1, e2⟩ := Option.map_eq_some_iff.mp e
    subst e2
    refine .tup ?_ (dps_of hG hc ds _ ys r e1)
    rcases s with (s | ⟨o, s⟩) | s
    · exact .inl (.inl (hG _ _ s))
    · exact .inl (.inr ⟨o, hG _ _ s⟩)
    · exact .inr s
  | .lst ds, _, x, .lst s r, e => by
    simp only [pyW] at e
    obtain ⟨ys, e1, e2⟩ := Option.map_eq_some_iff.mp e
    subst e2
    exact .lst (hG.seq s) (dps_of hG hc ds _ ys r e1)
  | .dic _, _, _, _, e => by simp only [pyW] at e; cases e
  | .ref n, v, x, r, e => by
    simp only [pyW] at e
    exact hc n x v e r
theorem dps_of {G : Hp} (hG : Same G H) {cf : Nat → Option PyData} (hc : ∀ (n : Nat) (y : PyData) (v : V), cf n = some y → Rep K G ι v (.ref n) → Dp K H v y) : ∀ (ds : List D) (vs : List V) (xs : List PyData), Reps K G ι vs ds → pyWs cf ds = some xs → DpAll K H vs xs
  | [], _, xs, .nil, e => by simp only [pyWs, Option.some.injEq] at e; subst e; exact .nil
  | d :: ds, _, xs, .cons h t, e => by
    simp only [pyWs] at e
    obtain ⟨y, e1, e2⟩ := Option.bind_eq_some_iff.mp e
    obtain ⟨ys, e3, e4⟩ := Option.map_eq_some_iff.mp e2
    subst e4
    exact .cons (dp_of hG hc d _ y h e1) (dps_of hG hc ds _ ys t e3)
end
theorem cell_dp (S : Sim K H ι B μ) : ∀ (k n : Nat) (y : PyData) (v : V), cellPy μ k n = some y → Rep K (cut H ι B) ι v (.ref n) → Dp K H v y
  | 0, _, _, _, e, _ => by cases e
  | k + 1, n, y, v, e, r => by
    unfold cellPy at e
    obtain ⟨ds, e1, e2⟩ := Option.bind_eq_some_iff.mp e
    obtain ⟨ys, e3, e4⟩ := Option.map_eq_some_iff.mp e2
    subst e4
    obtain ⟨a, vs, ev, s, r'⟩ := RepA.seq S (.rep r) (show seqV μ (.ref n) = some ds from e1)
    subst ev
    exact .lst s (dps_of cut_same (cell_dp S k) ds vs ys r' e3)
theorem RepA.py (S : Sim K H ι B μ) {x : PyData} (r : RepA K H ι B v d) (e : toPy μ d = some x) : Dp K H v x := by
  cases r with
  | rep r => exact dp_of cut_same (cell_dp S 8) d v x r e
  | @own a vs ds b h r =>
    unfold toPy at e
    simp only [pyW] at e
    obtain ⟨ys, e1, e2⟩ := Option.map_eq_some_iff.mp e
    subst e2
    exact .lst (SqL.of h) (dps_of cut_same (cell_dp S 8) ds _ ys r e1)
end
end DI
set_option Elab.async false
set_option linter.all false
set_option maxRecDepth 100000
/-! DI3: a def's promise where no repr is under way (guards), and calls by it -/
namespace DI
open PySem PySem.Spec PyProof.Rows L2
def noStar : Expr → Bool
  | .Starred .. => false
  | _ => true
theorem star_cons {e : Expr} (h : noStar e = true) (es : List Expr) (env : Env) : starEach (e :: es) env = (false, eval e env) :: starEach es env := by
  cases e <;> first | rfl | (cases h)
theorem star_any (pos : Pos) (env : Env) : ∀ es : List Expr, es.all noStar = true → (backTo pos (starEach es env)).any (·.1) = false
  | [], _ => by simp [starEach, backTo]
  | e :: es, h => by
    rw [List.all_cons, Bool.and_eq_true] at h
    have ih := star_any pos env es h.2
    rw [star_cons h.1]
    unfold backTo at ih ⊢
    rw [List.map_cons, List.any_cons, ih]
    rfl
/-- as FnOk, and the guards are known -/
structure FnG (P : Program) (w : World) (K : PySem.W.Frag) (mg : Str → Option Value) (base : Heap) (n : Nat) (f : Addr) (fd : FuncData) (ps : List Str) (sp : Sp) : Prop where
  len : ∀ vs H Q, sp vs H Q E0 → vs.length = ps.length
  run : ∀ (A : Around) (outer : List Env) (s : Shared) (H : Hp) (args : Args) (us : List Value) (vs : List V) (Q : VK), Room n A → A.guards = some [] →
    Env0 P w K mg base A outer s H → BindsTo s fd args (ps.zip us) → Vals vs us → sp vs H Q E0 →
      codeAny (model P w) A (.call (.ref f) args) (CR CX0 outer P w H s Q E0) s
section
variable {X : Cx} {n : Nat} {f : Addr} {fd : FuncData} {ps : List Str} {sp : Sp} {pins : List (Addr × Obj)} {σ : L2.St} {H : Hp} {s : Shared} {Q : VK} {us ws : List Value} {vs zs : List V} {x : Str} {p pos : Pos} {e : Expr} {es : List Expr} {t tk : TA}
theorem runG (F : FnG X.prog X.w X.K X.mg X.base n f fd ps sp) (rm : Room n X.A) (gd : X.A.guards = some []) (I : Inv X pins σ H s) {a : List Value} {kw : List (Str × Value)} {all : List Value} {va : List V}
    (b : BindsTo s fd ⟨a, kw⟩ (ps.zip all)) (r : Vals va all) (h : sp va H Q E0) : wpAny (model X.prog X.w) X.A (call (.ref f) a kw) (EP X pins σ Q) X.xe s := by
  refine wpAny_call (codeAny_mono (F.run X.A X.stack s H _ all va Q rm gd I.env0 b r h) fun z s' q => ?_)
  rcases z with e | (_ | _ | _ | u)
  · exact False.elim q
  · exact False.elim q
  · exact False.elim q
  · exact False.elim q
  · exact I.after q
theorem goG (F : FnG X.prog X.w X.K X.mg X.base n f fd ps sp) (rm : Room n X.A) (gd : X.A.guards = some []) (hb : Binds X.K fd ps []) (I : Inv X pins σ H s) (r : Vals vs us) (q : sp (vs ++ []) H Q E0) :
    wpAny (model X.prog X.w) X.A (call (.ref f) us) (EP X pins σ Q) X.xe s := by
  have hl := F.len _ _ _ q
  rw [List.append_nil] at hl q
  have b := hb s us I.kIn (by rw [List.append_nil, ← r.length]; exact hl)
  rw [List.append_nil] at b
  exact runG F rm gd I b r q
/-- f(..) by position -/
theorem pe_callG (F : FnG X.prog X.w X.K X.mg X.base n f fd ps sp) (rm : Room n X.A) (gd : X.A.guards = some []) (hg : Gl X x) (hm : X.mg x = some (.ref f)) (hk : PySem.W.keepIn X.K (.ref f) = true) (hb : Binds X.K fd ps [])
    (ha : PA X (e :: es) t) (hd : (x == ("__debug__" : Str)) = false) (hns : (e :: es).all noStar = true) : PE X (.Call (.Name x p) (e :: es) [] pos) (tCall sp [] E0 t) := by
  refine ⟨fun pins s σ H Q I h => wpAny_Call_Name_kw (ld_glob I hg hm ?_ hd)⟩
  rw [List.all_cons, Bool.and_eq_true] at hns
  refine PySem.W.callWith_K (h₀ := X.base) I.ok.mod.kin hk (thn (ha.run pos pins s σ H _ I h) fun us s1 ⟨vs, H1, I1, r, q⟩ => ⟨I1.kIn, ?_⟩) (star_cons hns.1 _ _) (star_any _ _ _ hns.2)
  exact goG F rm gd hb I1 r q
/-- f() -/
theorem pe_callG0 (F : FnG X.prog X.w X.K X.mg X.base n f fd ps sp) (rm : Room n X.A) (gd : X.A.guards = some []) (hg : Gl X x) (hm : X.mg x = some (.ref f)) (hk : PySem.W.keepIn X.K (.ref f) = true) (hb : Binds X.K fd ps [])
    (hd : (x == ("__debug__" : Str)) = false) : PE X (.Call (.Name x p) [] [] pos) (tCall sp [] E0 tNil) :=
  ⟨fun pins s σ H Q I h => wpAny_Call_Name_kw (ld_glob I hg hm (PySem.W.callWith_K0 I.kIn hk (goG (us := []) F rm gd hb I .nil h)) hd)⟩

/-! ### keywords -/
/-- how a def's parameters come from the arguments and the keywords ks: each parameter's place in both together -/
structure KwB (K : PySem.W.Frag) (fd : FuncData) (ps ks : List Str) (npos : Nat) (perm : List Nat) : Prop where
  to : ∀ (s : Shared) (us ws all : List Value), us.length = npos → ws.length = ks.length → perm.map (fun i => (us ++ ws)[i]?) = all.map some → BindsTo s fd ⟨us, ks.zip ws⟩ (ps.zip all)
theorem vals_pick {all : List V} {us : List Value} (r : Vals all us) : ∀ (perm : List Nat) (vs : List V), perm.map (fun i => all[i]?) = vs.map some → ∃ ws, Vals vs ws ∧ perm.map (fun i => us[i]?) = ws.map some
  | [], [], _ => ⟨[], .nil, rfl⟩
  | [], _ :: _, h => by cases h
  | _ :: _, [], h => by cases h
  | i :: perm, v :: vs, h => by
    rw [List.map_cons, List.map_cons] at h
    injection h with h1 h2
    obtain ⟨u, e, rv⟩ := r.get h1
    obtain ⟨ws, r', e'⟩ := vals_pick r perm vs h2
    exact ⟨u :: ws, .cons rv r', by rw [List.map_cons, List.map_cons, e, e']⟩
def tCallP (sp : Sp) (perm : List Nat) (t tk : TA) : TE := fun σ H Q => t σ H fun vs H1 => tk σ H1 fun zs H2 => ∃ all, perm.map (fun i => (vs ++ zs)[i]?) = all.map some ∧ sp all H2 Q E0
theorem goK {ks : List Str} {perm : List Nat} {all : List V} {np : Nat} (F : FnG X.prog X.w X.K X.mg X.base n f fd ps sp) (rm : Room n X.A) (gd : X.A.guards = some []) (hb : KwB X.K fd ps ks np perm) (I : Inv X pins σ H s) (r : Vals vs us) (rz : Vals zs ws)
    (l1 : vs.length = np) (l2 : zs.length = ks.length) (ea : perm.map (fun i => (vs ++ zs)[i]?) = all.map some) (q : sp all H Q E0) :
    wpAny (model X.prog X.w) X.A (call (.ref f) us (ks.zip ws)) (EP X pins σ Q) X.xe s := by
  obtain ⟨vals, rv, ev⟩ := vals_pick (r.append rz) perm all ea
  exact runG F rm gd I (hb.to s us ws vals (by rw [← r.length]; exact l1) (by rw [← rz.length]; exact l2) ev) rv q
def kwPlain : List Keyword → Bool
  | [] => true
  | ⟨some _, e, _⟩ :: r => noStar e && kwPlain r
  | ⟨none, _, _⟩ :: _ => false
def kwNames : List Keyword → List Str
  | [] => []
  | ⟨some k, _, _⟩ :: r => k :: kwNames r
  | ⟨none, _, _⟩ :: r => kwNames r
theorem kw_facts (env : Env) (pos : Pos) : ∀ kws : List Keyword, kwPlain kws = true → (backToKw pos (keywordEach kws env)).all (·.1.isSome) = true ∧ (backToKw pos (keywordEach kws env)).filterMap (·.1) = kwNames kws ∧
    (backToKw pos (keywordEach kws env)).any (·.1.isNone) = false
  | [], _ => ⟨rfl, rfl, rfl⟩
  | ⟨some k, e, kp⟩ :: r, h => by
    have h' : kwPlain r = true := by
      have q : (noStar e && kwPlain r) = true := h
      rw [Bool.and_eq_true] at q
      exact q.2
    obtain ⟨h1, h2, h3⟩ := kw_facts env pos r h'
    unfold backToKw at h1 h2 h3 ⊢
    simp only [keywordEach, List.map_cons, List.all_cons, List.filterMap_cons, List.any_cons, kwNames, h1, h2, h3, Option.isSome_some, Option.isNone_some, Bool.and_true, Bool.or_false, and_self]
  | ⟨none, _, _⟩ :: _, h => by cases h
theorem pe_callKG {kws : List Keyword} {perm : List Nat} (F : FnG X.prog X.w X.K X.mg X.base n f fd ps sp) (rm : Room n X.A) (gd : X.A.guards = some []) (hg : Gl X x) (hm : X.mg x = some (.ref f)) (hk : PySem.W.keepIn X.K (.ref f) = true)
    (hb : KwB X.K fd ps (kwNames kws) (es.length + 1) perm) (ha : PA X (e :: es) t) (hkw : PK X kws tk) (hd : (x == ("__debug__" : Str)) = false) (hns : (e :: es).all noStar = true) (hp : kwPlain kws = true) {l1 : Nat}
    (hl : ∀ σ H Q, t σ H Q → t σ H fun vs H1 => vs.length = es.length + 1 ∧ Q vs H1) (hl2 : ∀ σ H Q, tk σ H Q → tk σ H fun vs H1 => vs.length = (kwNames kws).length ∧ Q vs H1) :
    PE X (.Call (.Name x p) (e :: es) kws pos) (tCallP sp perm t tk) := by
  refine ⟨fun pins s σ H Q I h => wpAny_Call_Name_kw (ld_glob I hg hm ?_ hd)⟩
  rw [List.all_cons, Bool.and_eq_true] at hns
  obtain ⟨k1, k2, k3⟩ := kw_facts X.env pos kws hp
  refine PySem.W.callWith_KW (h₀ := X.base) I.ok.mod.kin hk k1 (thn (ha.run pos pins s σ H _ I (hl _ _ _ h)) fun us s1 ⟨vs, H1, I1, r, lv, q⟩ => ?_) ?_ (star_cons hns.1 _ _)
  · refine thn (hkw.run pos pins s1 σ H1 _ I1 (hl2 _ _ _ q)) fun ws s2 ⟨zs, H2, I2, rz, lz, all, ea, q2⟩ => ⟨I2.kIn, ?_⟩
    rw [k2]
    exact goK F rm gd hb I2 r rz lv lz ea q2
  · rw [star_any _ _ (e :: es) (by rw [List.all_cons, hns.1, hns.2]; rfl), k3]
    rfl
theorem pe_callKG0 {kws : List Keyword} {perm : List Nat} (F : FnG X.prog X.w X.K X.mg X.base n f fd ps sp) (rm : Room n X.A) (gd : X.A.guards = some []) (hg : Gl X x) (hm : X.mg x = some (.ref f)) (hk : PySem.W.keepIn X.K (.ref f) = true)
    (hb : KwB X.K fd ps (kwNames kws) 0 perm) (hkw : PK X kws tk) (hd : (x == ("__debug__" : Str)) = false) (hp : kwPlain kws = true)
    (hl2 : ∀ σ H Q, tk σ H Q → tk σ H fun vs H1 => vs.length = (kwNames kws).length ∧ Q vs H1) :
    PE X (.Call (.Name x p) [] kws pos) (tCallP sp perm tNil tk) := by
  refine ⟨fun pins s σ H Q I h => wpAny_Call_Name_kw (ld_glob I hg hm ?_ hd)⟩
  obtain ⟨k1, k2, k3⟩ := kw_facts X.env pos kws hp
  refine PySem.W.callWith_KW0 (h₀ := X.base) I.ok.mod.kin hk k1 (thn (hkw.run pos pins s σ H _ I (hl2 _ _ _ h)) fun ws s2 ⟨zs, H2, I2, rz, lz, all, ea, q2⟩ => ⟨I2.kIn, ?_⟩) (by rw [k3]; rfl)
  rw [k2]
  exact goK (vs := []) (us := []) F rm gd hb I2 .nil rz rfl lz ea q2
end

/-- a def by its body, with the guards -/
theorem FnG.of {P : Program} {w : World} {K : PySem.W.Frag} {mg : Str → Option Value} {base : Heap} {x qual : Str} {st : Stmt} {f : Addr} {fd : FuncData} {N ps : List Str} {k : Nat} {sp : Sp} (F : Fun K x qual st f fd) (S : FnScope N ps (defScope st))
    (len : ∀ vs H Q, sp vs H Q E0 → vs.length = ps.length)
    (body : ∀ (cdv : Value) (A : Around) (outer : List Env) (s : Shared) (H : Hp) (vs : List V) (Q : VK), Room k (A.deeper (envOfC qual (defScope st) s.heap.objs.size f cdv)) → A.guards = some [] → sp vs H Q E0 →
      ∃ t, PSs (cxOf CX0 P w K mg base N qual (defScope st) f cdv A outer s H E0).nox (defBody st) t ∧ t { nx := fun _ H' => Q .non H', rt := Q } (start N vs) H) : FnG P w K mg base (k + 1) f fd ps sp := by
  refine ⟨len, fun A outer s H args us vs Q rm gd e0 hb r hsp => ?_⟩
  -- the promise at this very call
  have one : FnOk P w K mg base CX0 (k + 1) f fd ps (fun vs' H' Q' E' => A.guards = some [] ∧ sp vs' H' Q' E0 ∧ False) := by
    exact F.ok S (fun _ _ _ _ z => z.2.2.elim) fun _ _ _ _ _ _ _ _ _ z => z.2.2.elim
  obtain ⟨oc, od, kV, doc, pm, an, cdv, ct, osl, rfl, lk, hcd⟩ := F.ex
  have hl := len vs H Q hsp
  have stays : ∀ b o, base.get? b = some o → s.heap.get? b = some o := fun b o e => (e0.bs b o e).1
  have inK : K.In s.heap := e0.mod.kin.keeps stays
  have par : ∀ y ∈ ps.zip us, (defScope st).names.lookup y.1 = some .local ∨ ((defScope st).names.lookup y.1 = some .cell ∧ ((cellsFrom (s.heap.objs.size + 1) (defScope st).names []).lookup y.1).isSome = true) := by
    rintro ⟨y, v⟩ hy
    rcases S.par y (List.of_mem_zip hy).1 with q | q
    · exact .inl q
    · exact .inr ⟨q, PySem.W.cellsFrom_some _ _ _ (.inl q)⟩
  refine codeAny_call_function rm.depth (inK _ _ lk) rfl S.co S.gen rfl (PySem.W.codeRec_of inK hcd) (hb _ _ _ _ ?_)
  refine wpAny_newFunctionEnv_cells S.kind par fun env he s1 x1 => ?_
  subst he
  refine ⟨(e0.mod.nolimit.keeps stays).keeps x1.toInCall.keep, codeAny_func ?_⟩
  obtain ⟨t, ht, hq⟩ := body cdv A outer s H vs Q (rm.deeper _) gd hsp
  have I := inv_start (CX := CX0) (E := E0) (qual := qual) (f := f) (cd := cdv) S rm.hd e0 hl r x1
  refine wpAny_mono (ht.nox.run [] s1 (start N vs) H _ I hq) (fun fl s' hs => ?_) fun _ _ z => z
  rcases fl with _ | _ | _ | u
  · obtain ⟨σ', H', J, q⟩ := hs
    exact ⟨.non, H', J.os, J.bare, J.base, J.hok, rfl, q⟩
  · obtain ⟨_, _, _, q⟩ := hs
    exact False.elim q
  · obtain ⟨_, _, _, q⟩ := hs
    exact False.elim q
  · obtain ⟨v, σ', H', J, rv, q⟩ := hs
    exact ⟨v, H', J.os, J.bare, J.base, J.hok, rv, q⟩
end DI
set_option Elab.async false
set_option linter.all false
set_option maxRecDepth 100000
/-! DI4: readings of expressions, rule by rule -/
namespace DI
open PySem PySem.Spec PyProof.Rows L2
theorem PEcon {X : Cx} {e : Expr} {t t' : TE} (h : PE X e t) (i : ∀ σ H Q, t' σ H Q → t σ H Q) : PE X e t' := ⟨fun pins s σ H Q I w => h.run pins s σ H Q I (i σ H Q w)⟩
theorem PTcon {X : Cx} {e : Expr} {t t' : TT} (h : PT X e t) (i : ∀ σ H Q, t' σ H Q → t σ H Q) : PT X e t' := ⟨fun pins s σ H Q I w => h.run pins s σ H Q I (i σ H Q w)⟩
theorem PAcon {X : Cx} {e : List Expr} {t t' : TA} (h : PA X e t) (i : ∀ σ H Q, t' σ H Q → t σ H Q) : PA X e t' := ⟨fun pos pins s σ H Q I w => h.run pos pins s σ H Q I (i σ H Q w)⟩
theorem PScon {X : Cx} {e : Stmt} {t t' : TS} (h : PS X e t) (i : ∀ D σ H, t' D σ H → t D σ H) : PS X e t' := ⟨fun pins s σ H D I w => h.run pins s σ H D I (i D σ H w)⟩
theorem PSscon {X : Cx} {e : List Stmt} {t t' : TS} (h : PSs X e t) (i : ∀ D σ H, t' D σ H → t D σ H) : PSs X e t' := ⟨fun pins s σ H D I w => h.run pins s σ H D I (i D σ H w)⟩

/-- a step: what was frozen stays, what is held is as it was -/
structure Nx (K : PySem.W.Frag) (H : Hp) (ι : Cells) (B : List Addr) (H' : Hp) (ι' : Cells) (μ' : Mem) : Prop where
  x : Ext H ι B H' ι' B
  k : Keep B H H'
  s : Sim K H' ι' B μ'
section
variable {K : PySem.W.Frag} {H H1 H2 H' : Hp} {ι ι1 ι2 ι' : Cells} {B B0 : List Addr} {μ μ1 μ2 μ' : Mem} {σ : L2.St} {env : Ev} {v : V} {d : D}
theorem Nx.refl (S : Sim K H ι B μ) : Nx K H ι B H ι μ := ⟨Ext.refl, Keep.refl, S⟩
theorem Nx.trans (a : Nx K H ι B H1 ι1 μ1) (b : Nx K H1 ι1 B H2 ι2 μ2) : Nx K H ι B H2 ι2 μ2 := ⟨a.x.trans b.x, a.k.trans b.k, b.s⟩
theorem Nx.renv (a : Nx K H ι B H1 ι1 μ1) (R : REnv K H ι B B0 σ env) : REnv K H1 ι1 B B0 σ env := R.ext a.x a.k
theorem Nx.rep (a : Nx K H ι B H1 ι1 μ1) (r : Rep K (cut H ι B) ι v d) : Rep K (cut H1 ι1 B) ι1 v d := r.up a.x.up
theorem Nx.reps {vs : List V} {ds : List D} (a : Nx K H ι B H1 ι1 μ1) (r : Reps K (cut H ι B) ι vs ds) : Reps K (cut H1 ι1 B) ι1 vs ds := r.up a.x.up
theorem Nx.arg (a : Nx K H ι B H1 ι1 μ1) (r : RepA K H ι B v d) : RepA K H1 ι1 B v d := r.ext a.x a.k
end
/-- what is wanted behind: of any value that stands for d; of one that is read only; of a new list -/
def KE (K : PySem.W.Frag) (H : Hp) (ι : Cells) (B : List Addr) (μ : Mem) (d : D) (Q : VK) : Prop := ∀ v H' ι', Nx K H ι B H' ι' μ → Rep K (cut H' ι' B) ι' v d → Q v H'
def KA (K : PySem.W.Frag) (H : Hp) (ι : Cells) (B : List Addr) (μ : Mem) (d : D) (Q : VK) : Prop := ∀ v H' ι', Nx K H ι B H' ι' μ → RepA K H' ι' B v d → Q v H'
def KF (K : PySem.W.Frag) (H : Hp) (ι : Cells) (B : List Addr) (μ : Mem) (ds : List D) (Q : VK) : Prop := ∀ p vs H' ι', H p = none → Ext H ι B H' ι' (p :: B) → Keep B H H' → Sim K H' ι' (p :: B) μ → H' p = some (.lst vs) →
  Reps K (cut H' ι' (p :: B)) ι' vs ds → Q (.ref p) H'
def KX (K : PySem.W.Frag) (H : Hp) (ι : Cells) (B : List Addr) (μ : Mem) (d : D) (Q : VK) : Prop := match d with
  | .lst ds => KF K H ι B μ ds Q
  | d => KE K H ι B μ d Q
section
variable {K : PySem.W.Frag} {H H1 H2 H' : Hp} {ι ι1 ι2 ι' : Cells} {B B0 : List Addr} {μ μ1 μ2 μ' : Mem} {σ : L2.St} {env : Ev} {v : V} {d : D} {Q : VK}
theorem up_free {p : Addr} : Up (cut H ι (p :: B)) ι (cut H ι B) ι := ⟨cut_free, fun _ x e => ⟨x, e, .inr rfl⟩⟩
theorem KX.of (h : KE K H ι B μ d Q) : KX K H ι B μ d Q := by
  cases d with
  | lst ds =>
    intro p vs H' ι' hp x k S hl r
    have np : p ∉ B := fun q => by
      have := k p q
      rw [hl, hp] at this; cases this
    refine h (.ref p) H' ι' ⟨x.free, k, S.free⟩ (.lst (SqL.of (cut_of ?_ hl)) (r.up up_free))
    rintro (q | q)
    · exact S.apart p q List.mem_cons_self
    · exact np q
  | _ => exact h
theorem KF.laid {p : Addr} {vs : List V} {ds : List D} (h : KF K H ι B μ ds Q) (S : Sim K H ι B μ) (hp : H p = none) (r : Reps K (cut H ι B) ι vs ds) : Q (.ref p) (upd H p (.lst vs)) :=
  h p vs _ ι hp (Ext.hold S hp) (Keep.laid S hp) (S.hold hp) upd_same (r.up (Ext.hold S hp).up)
theorem KE.tup {p : Addr} {vs : List V} {ds : List D} (h : KE K H ι B μ (.tup ds) Q) (S : Sim K H ι B μ) (hp : H p = none) (r : Reps K (cut H ι B) ι vs ds) : Q (.ref p) (upd H p (.tup vs)) :=
  h _ _ ι ⟨Ext.laid S hp, Keep.laid S hp, S.laid hp⟩ (.tup (.inl (.inl (cut_of (fun q => (fresh_not_held S hp) q) upd_same))) (r.up (Ext.laid S hp).up))
theorem KE.now (h : KE K H ι B μ d Q) (S : Sim K H ι B μ) (r : Rep K (cut H ι B) ι v d) : Q v H := h v H ι (Nx.refl S) r
theorem KE.back (h : KE K H ι B μ2 d Q) (a : Nx K H ι B H1 ι1 μ1) : KE K H1 ι1 B μ2 d Q := fun v H' ι' b r => h v H' ι' ⟨a.x.trans b.x, a.k.trans b.k, b.s⟩ r
theorem KA.back (h : KA K H ι B μ2 d Q) (a : Nx K H ι B H1 ι1 μ1) : KA K H1 ι1 B μ2 d Q := fun v H' ι' b r => h v H' ι' ⟨a.x.trans b.x, a.k.trans b.k, b.s⟩ r
theorem KF.back {ds : List D} (h : KF K H ι B μ2 ds Q) (a : Nx K H ι B H1 ι1 μ1) : KF K H1 ι1 B μ2 ds Q := fun p vs H' ι' hp x k S hl r => h p vs H' ι' (a.x.dom p hp) (a.x.trans x) (a.k.trans k) S hl r
theorem KX.back (h : KX K H ι B μ2 d Q) (a : Nx K H ι B H1 ι1 μ1) : KX K H1 ι1 B μ2 d Q := by
  cases d with
  | lst ds => exact KF.back h a
  | _ => exact KE.back h a
end
/-- the state at a point of a def -/
structure At (K : PySem.W.Frag) (H : Hp) (ι : Cells) (B B0 : List Addr) (μ : Mem) (σ : L2.St) (env : Ev) : Prop where
  s : Sim K H ι B μ
  r : REnv K H ι B B0 σ env
theorem At.nx {K : PySem.W.Frag} {H H1 : Hp} {ι ι1 : Cells} {B B0 : List Addr} {μ μ1 : Mem} {σ : L2.St} {env : Ev} (a : At K H ι B B0 μ σ env) (b : Nx K H ι B H1 ι1 μ1) : At K H1 ι1 B B0 μ1 σ env := ⟨b.s, b.renv a.r⟩
def tE (K : PySem.W.Frag) (ev : Ev → Mem → Option (D × Mem)) : TE := fun σ H Q => ∃ env μ ι B B0 d μ', At K H ι B B0 μ σ env ∧ ev env μ = some (d, μ') ∧ KE K H ι B μ' d Q
def tA (K : PySem.W.Frag) (ev : Ev → Mem → Option (D × Mem)) : TE := fun σ H Q => ∃ env μ ι B B0 d μ', At K H ι B B0 μ σ env ∧ ev env μ = some (d, μ') ∧ KA K H ι B μ' d Q
def tX (K : PySem.W.Frag) (ev : Ev → Mem → Option (D × Mem)) : TE := fun σ H Q => ∃ env μ ι B B0 d μ', At K H ι B B0 μ σ env ∧ ev env μ = some (d, μ') ∧ KX K H ι B μ' d Q
def tB (K : PySem.W.Frag) (ev : Ev → Mem → Option (Bool × Mem)) : TT := fun σ H Q => ∃ env μ ι B B0 b μ', At K H ι B B0 μ σ env ∧ ev env μ = some (b, μ') ∧ ∀ H' ι', Nx K H ι B H' ι' μ' → Q b H'
def tEs (K : PySem.W.Frag) (ev : Ev → Mem → Option (List D × Mem)) : TA := fun σ H Q => ∃ env μ ι B B0 ds μ', At K H ι B B0 μ σ env ∧ ev env μ = some (ds, μ') ∧ ∀ vs H' ι', Nx K H ι B H' ι' μ' → Reps K (cut H' ι' B) ι' vs ds → Q vs H'
def tAs (K : PySem.W.Frag) (ev : Ev → Mem → Option (List D × Mem)) : TA := fun σ H Q => ∃ env μ ι B B0 ds μ', At K H ι B B0 μ σ env ∧ ev env μ = some (ds, μ') ∧ ∀ vs H' ι', Nx K H ι B H' ι' μ' → Paired (RepA K H' ι' B) vs ds → Q vs H'
section
variable {X : Cx} {e a b c : Expr} {es : List Expr} {ev ea eb ec : Ev → Mem → Option (D × Mem)} {evs : Ev → Mem → Option (List D × Mem)} {pos : Pos}
theorem E_of_X (h : PE X e (tX X.K ev)) : PE X e (tE X.K ev) := PEcon h fun σ H Q ⟨env, μ, ι, B, B0, d, μ', a, e, k⟩ => ⟨env, μ, ι, B, B0, d, μ', a, e, KX.of k⟩
theorem A_of_E (h : PE X e (tE X.K ev)) : PE X e (tA X.K ev) := PEcon h fun σ H Q ⟨env, μ, ι, B, B0, d, μ', a, e, k⟩ => ⟨env, μ, ι, B, B0, d, μ', a, e, fun v H' ι' n r => k v H' ι' n (.rep r)⟩
/-- what an expression's rule is to give: as an argument, as a value (not a list of one's own), as a new list -/
structure SE (X : Cx) (own fresh : Bool) (e : Expr) (ev : Ev → Mem → Option (D × Mem)) : Prop where
  fa : PE X e (tA X.K ev)
  fe : own = false → PE X e (tE X.K ev)
  fx : fresh = true → PE X e (tX X.K ev)
theorem SE.ofX {o f : Bool} (h : PE X e (tX X.K ev)) : SE X o f e ev := ⟨A_of_E (E_of_X h), fun _ => E_of_X h, fun _ => h⟩
theorem SE.ofE {o : Bool} (h : PE X e (tE X.K ev)) : SE X o false e ev := ⟨A_of_E h, fun _ => h, fun q => nomatch q⟩

/-! ### names, constants -/
theorem r_var {i : Nat} {x : Str} (hN : X.N[i]? = some x) (hv : Vis X.env.scope x) (hd : (x == ("__debug__" : Str)) = false) (hc : (x == ("__classdict__" : Str)) = false) (hev : ∀ env μ d μ', ev env μ = some (d, μ') → env[i]? = some (.val d) ∧ μ' = μ) :
    PE X (.Name x pos) (tE X.K ev) := by
  refine PEcon (pe_var (i := i) hN hv hd hc) fun σ H Q ⟨env, μ, ι, B, B0, d, μ', a, e, k⟩ => ?_
  obtain ⟨e1, rfl⟩ := hev _ _ _ _ e
  obtain ⟨v, h1, h2⟩ := a.r.val i d e1
  exact ⟨v, h1, KE.now k a.s h2⟩
theorem r_ovar {i : Nat} {x : Str} (hN : X.N[i]? = some x) (hv : Vis X.env.scope x) (hd : (x == ("__debug__" : Str)) = false) (hc : (x == ("__classdict__" : Str)) = false)
    (hev : ∀ env μ d μ', ev env μ = some (d, μ') → ∃ ds, env[i]? = some (.own ds) ∧ d = .lst ds ∧ μ' = μ) : PE X (.Name x pos) (tA X.K ev) := by
  refine PEcon (pe_var (i := i) hN hv hd hc) fun σ H Q ⟨env, μ, ι, B, B0, d, μ', a, e, k⟩ => ?_
  obtain ⟨ds, e1, rfl, rfl⟩ := hev _ _ _ _ e
  obtain ⟨p, vs, h1, h2, h3, h4, h5⟩ := a.r.own i ds e1
  exact ⟨_, h1, k _ H ι (Nx.refl a.s) (.own h2 h4 h5)⟩
theorem r_c {v : V} {d : D} (h : PE X e (tC v)) (hr : ∀ G ι, Rep X.K G ι v d) (hev : ∀ env μ, ev env μ = some (d, μ)) : PE X e (tE X.K ev) :=
  PEcon h fun σ H Q ⟨env, μ, ι, B, B0, d', μ', a, e, k⟩ => by
    rw [hev] at e
    cases e
    exact KE.now k a.s (hr _ _)

/-! ### two in a row -/
theorem r_two {r : R2} {F : Mem → D → D → Option D} {f : Expr} (ha : PE X a (tA X.K ea)) (hb : PE X b (tA X.K eb)) (mk : ∀ {ta tb : TE}, PE X a ta → PE X b tb → PE X f (tOp r ta tb))
    (hev : ∀ env μ, ev env μ = (ea env μ).bind fun p => (eb env p.2).bind fun q => (F q.2 p.1 q.1).map fun d => (d, q.2))
    (val : ∀ (H : Hp) (ι : Cells) (B : List Addr) (μ : Mem) (v u : V) (x y d : D) (Q : VK), Sim X.K H ι B μ → RepA X.K H ι B v x → RepA X.K H ι B u y → F μ x y = some d → KX X.K H ι B μ d Q → r v u H Q) :
    PE X f (tX X.K ev) := by
  refine PEcon (mk ha hb) fun σ H Q ⟨env, μ, ι, B, B0, d, μ', a, e, k⟩ => ?_
  rw [hev] at e
  obtain ⟨⟨x, μ1⟩, e1, e⟩ := Option.bind_eq_some_iff.mp e
  obtain ⟨⟨y, μ2⟩, e2, e⟩ := Option.bind_eq_some_iff.mp e
  obtain ⟨z, e3, e4⟩ := Option.map_eq_some_iff.mp e
  cases e4
  refine ⟨env, μ, ι, B, B0, x, μ1, a, e1, fun v H1 ι1 n1 r1 => ⟨env, μ1, ι1, B, B0, y, μ2, a.nx n1, e2, fun u H2 ι2 n2 r2 => ?_⟩⟩
  exact val H2 ι2 B μ2 v u x y _ Q n2.s (n2.arg r1) r2 e3 (KX.back k (n1.trans n2))
theorem r_one {F : Mem → D → Option D} {f : Expr} {rd : V → Hp → VK → Prop} (ha : PE X a (tA X.K ea)) (mk : ∀ {ta : TE}, PE X a ta → PE X f (tUn rd ta))
    (hev : ∀ env μ, ev env μ = (ea env μ).bind fun p => (F p.2 p.1).map fun d => (d, p.2))
    (val : ∀ (H : Hp) (ι : Cells) (B : List Addr) (μ : Mem) (v : V) (x d : D) (Q : VK), Sim X.K H ι B μ → RepA X.K H ι B v x → F μ x = some d → KX X.K H ι B μ d Q → rd v H Q) :
    PE X f (tX X.K ev) := by
  refine PEcon (mk ha) fun σ H Q ⟨env, μ, ι, B, B0, d, μ', a, e, k⟩ => ?_
  rw [hev] at e
  obtain ⟨⟨x, μ1⟩, e1, e⟩ := Option.bind_eq_some_iff.mp e
  obtain ⟨z, e3, e4⟩ := Option.map_eq_some_iff.mp e
  cases e4
  exact ⟨env, μ, ι, B, B0, x, μ1, a, e1, fun v H1 ι1 n1 r1 => val H1 ι1 B μ1 v x _ Q n1.s r1 e3 (KX.back k n1)⟩

/-! ### operators by values -/
def rCatS (K : PySem.W.Frag) : R2 := fun x y H Q => ∃ l b xs zs, x = .ref l ∧ y = .ref b ∧ SqL K H l xs ∧ SqL K H b zs ∧ xs.length + zs.length ≤ sizeLine ∧ ∀ p, H p = none → Q (.ref p) (upd H p (.lst (xs ++ zs)))
theorem op_catS : OpR X (binaryOp .Add) (rCatS X.K) := by
  intro pins s σ H x y v u Q I rx ry ⟨l, b, xs, zs, e1, e2, h1, h2, hz, q⟩
  subst e1 e2
  cases rx
  cases ry
  obtain ⟨its, r, ⟨o, n, ho, hc, hd, hs⟩, _⟩ := I.list h1
  obtain ⟨its2, r2, ⟨o2, n2, ho2, hc2, hd2, hs2⟩, _⟩ := I.list h2
  have l1 := r.length
  have l2 := r2.length
  obtain ⟨oc, od, dt, sl⟩ := o
  obtain ⟨oc2, od2, dt2, sl2⟩ := o2
  simp only at hc hd hs hc2 hd2 hs2
  subst hc hd hs hc2 hd2 hs2
  have sz : its.toArray.size + its2.toArray.size ≤ sizeLine := by
    rw [List.size_toArray, List.size_toArray]
    omega
  have m := PyProof.Rows.list_addW l b its.toArray its2.toArray n n2 none none sl sl2 sz
  refine PySem.concat_meets ⟨_, ho, rfl⟩ ⟨_, ho2, rfl⟩ PySem.noFill_list_add PySem.seq_list_add PySem.F.slot_list_add PySem.F.entry_list_add (PySem.F.args_list_add_2 _ _) m ⟨ho, ho2, ?_⟩
  have ea : its.toArray ++ its2.toArray = (its ++ its2).toArray := by simp
  rw [ea]
  exact ⟨.ref _, _, I.lnew (t' := s.toks) (r.append r2) (by rw [List.length_append]; omega), rfl, q _ I.fresh⟩
end
end DI
set_option Elab.async false
set_option linter.all false
set_option maxRecDepth 100000
/-! DI5: the operators by values -/
namespace DI
open PySem PySem.Spec PyProof.Rows L2
section
variable {X : Cx}
/-- x // y of any sign -/
theorem op_fdivA : OpR X (binaryOp .FloorDiv) (rI (fun _ j => j ≠ 0 ∧ j.natAbs.log2 < 9000) fun i j => .int (i.fdiv j)) :=
  L2.opI fun _ _ _ _ _ _ _ hc q => floordiv_int hc.1 q (.inl (PyProof.noPylong_of_log2 hc.2))
theorem op_powA : OpR X (binaryOp .Pow) (rI (fun i j => 0 ≤ j ∧ (Builtin.Int.intBits i : Int) * j ≤ 2 ^ 27) fun i j => .int (i ^ j.toNat)) :=
  L2.opI fun _ _ _ _ _ _ _ hc q => pow_int hc.1 hc.2 q
def rBB (g : Int → Int → Int) : R2 := fun x y H Q => ∃ p q, x = .bl p ∧ y = .bl q ∧ Q (.int (g (b2i p) (b2i q))) H
theorem op_subB : OpR X (binaryOp .Sub) (rBB fun i j => i - j) := by
  intro pins s σ H x y v u Q I rx ry ⟨p, q, e1, e2, h⟩
  subst e1 e2
  cases rx
  cases ry
  exact sub_bool ⟨.int _, H, I.tok _, ⟨_, rfl⟩, h⟩
theorem op_addB : OpR X (binaryOp .Add) (rBB fun i j => i + j) := by
  intro pins s σ H x y v u Q I rx ry ⟨p, q, e1, e2, h⟩
  subst e1 e2
  cases rx
  cases ry
  exact add_bool ⟨.int _, H, I.tok _, ⟨_, rfl⟩, h⟩
def bopOp : Bop → Operator
  | .add => .Add
  | .sub => .Sub
  | .mul => .Mult
  | .fdiv => .FloorDiv
  | .mod => .Mod
  | .pow => .Pow
def rIb : R2 := fun x y H Q => ∃ i k, x = .int i ∧ y = .bl k ∧ Q (.int (i + b2i k)) H
def rStrAdd : R2 := fun x y H Q => ∃ i j, x = .str i ∧ y = .str j ∧ i.length + j.length ≤ sizeLine ∧ Q (.str (i ++ j)) H
def bopR (K : PySem.W.Frag) : Bop → R2
  | .add => fun x y H Q => rI0 (fun i j => .int (i + j)) x y H Q ∨ rBB (fun i j => i + j) x y H Q ∨ rIb x y H Q ∨ rStrAdd x y H Q ∨ rCatT K x y H Q ∨ rCatS K x y H Q
  | .sub => fun x y H Q => rI0 (fun i j => .int (i - j)) x y H Q ∨ rBB (fun i j => i - j) x y H Q
  | .mul => rI CMulW fun i j => .int (i * j)
  | .fdiv => rI (fun _ j => j ≠ 0 ∧ j.natAbs.log2 < 9000) fun i j => .int (i.fdiv j)
  | .mod => rI (fun _ j => j ≠ 0) fun i j => .int (i.fmod j)
  | .pow => rI (fun i j => 0 ≤ j ∧ (Builtin.Int.intBits i : Int) * j ≤ 2 ^ 27) fun i j => .int (i ^ j.toNat)
theorem op_bop (o : Bop) : OpR X (binaryOp (bopOp o)) (bopR X.K o) := by
  cases o with
  | add => exact op_add.or (op_addB.or (OpR.or op_add_ib (OpR.or op_add_str (op_catT.or op_catS))))
  | sub => exact op_sub.or op_subB
  | mul => exact op_mulW
  | fdiv => exact op_fdivA
  | mod => exact op_modN
  | pow => exact op_powA
variable {K : PySem.W.Frag} {H : Hp} {ι : Cells} {B : List Addr} {μ : Mem} {v u : V} {x y d : D} {Q : VK}
theorem bop_int {i j : Int} {o : Bop} {z : Int} (h : opI o i j = some z) (k : Q (.int z) H) : bopR K o (.int i) (.int j) H Q := by
  cases o with
  | add => cases h; exact .inl ⟨i, j, rfl, rfl, k⟩
  | sub => cases h; exact .inl ⟨i, j, rfl, rfl, k⟩
  | mul =>
    unfold opI at h
    by_cases c : i.natAbs.log2 + j.natAbs.log2 < 1000000
    · rw [if_pos c] at h; cases h; exact ⟨i, j, rfl, rfl, c, k⟩
    · rw [if_neg c] at h; cases h
  | fdiv =>
    unfold opI at h
    by_cases c : j ≠ 0 ∧ j.natAbs.log2 < 9000
    · rw [if_pos c] at h; cases h; exact ⟨i, j, rfl, rfl, c, k⟩
    · rw [if_neg c] at h; cases h
  | mod =>
    unfold opI at h
    by_cases c : j ≠ 0
    · rw [if_pos c] at h; cases h; exact ⟨i, j, rfl, rfl, c, k⟩
    · rw [if_neg c] at h; cases h
  | pow =>
    unfold opI at h
    by_cases c : 0 ≤ j ∧ (Builtin.Int.intBits i : Int) * j ≤ 2 ^ 27
    · rw [if_pos c] at h; cases h; exact ⟨i, j, rfl, rfl, c, k⟩
    · rw [if_neg c] at h; cases h
/-- two lists -/
theorem bop_lists {xs ys : List D} (S : Sim K H ι B μ) (r1 : RepA K H ι B v x) (r2 : RepA K H ι B u y) (h1 : seqV μ x = some xs) (h2 : seqV μ y = some ys) (hm : mkL (xs ++ ys) = some d) (k : KX K H ι B μ d Q) : bopR K .add v u H Q := by
  obtain ⟨a, vs, rfl, s1, q1⟩ := r1.seq S h1
  obtain ⟨b, us, rfl, s2, q2⟩ := r2.seq S h2
  unfold mkL at hm
  by_cases c : (xs ++ ys).length ≤ sizeLine
  · rw [if_pos c] at hm
    cases hm
    refine .inr (.inr (.inr (.inr (.inr ⟨a, b, vs, us, rfl, rfl, s1, s2, ?_, fun p hp => ?_⟩))))
    · rw [q1.length, q2.length, ← List.length_append]; exact c
    · exact KF.laid k S hp (q1.append q2)
  · rw [if_neg c] at hm; cases hm
theorem bop_val {o : Bop} (S : Sim K H ι B μ) (r1 : RepA K H ι B v x) (r2 : RepA K H ι B u y) (h : opD μ o x y = some d) (k : KX K H ι B μ d Q) : bopR K o v u H Q := by
  unfold opD at h
  split at h
  · -- ints
    obtain ⟨z, e1, e2⟩ := Option.map_eq_some_iff.mp h
    subst e2
    rw [r1.int, r2.int]
    exact bop_int e1 (KE.now k S (.int z))
  · -- bools
    rw [r1.bl, r2.bl]
    cases o with
    | sub => cases h; exact .inr ⟨_, _, rfl, rfl, KE.now k S (.int _)⟩
    | add => cases h; exact .inr (.inl ⟨_, _, rfl, rfl, KE.now k S (.int _)⟩)
    | _ => cases h
  · rw [r1.int, r2.bl]
    cases o with
    | add => cases h; exact .inr (.inr (.inl ⟨_, _, rfl, rfl, KE.now k S (.int _)⟩))
    | _ => cases h
  · rename_i p q
    rw [r1.str, r2.str]
    cases o with
    | add =>
      by_cases c : p.length + q.length ≤ sizeLine
      · have h : (if p.length + q.length ≤ sizeLine then some (D.str (p ++ q)) else none) = some d := h
        rw [if_pos c] at h
        cases h
        exact .inr (.inr (.inr (.inl ⟨_, _, rfl, rfl, c, KE.now k S (.str _)⟩)))
      · have h : (if p.length + q.length ≤ sizeLine then some (D.str (p ++ q)) else none) = some d := h
        rw [if_neg c] at h
        cases h
    | _ => cases h
  · rename_i xs ys
    obtain ⟨a, vs, rfl, s1, q1⟩ := r1.tup
    obtain ⟨b, us, rfl, s2, q2⟩ := r2.tup
    cases o with
    | add =>
      have h : (if xs ≠ [] ∧ xs.length + ys.length ≤ sizeLine then some (D.tup (xs ++ ys)) else none) = some d := h
      by_cases c : xs ≠ [] ∧ xs.length + ys.length ≤ sizeLine
      · rw [if_pos c] at h
        cases h
        have k : KE K H ι B μ (.tup (xs ++ ys)) Q := k
        refine .inr (.inr (.inr (.inr (.inl ⟨a, b, vs, us, rfl, rfl, s1, s2, ?_, ?_, fun e => ?_, fun _ p hp => ?_⟩))))
        · intro e
          subst e
          cases q1
          exact c.1 rfl
        · rw [q1.length, q2.length]; exact c.2
        · subst e
          cases q2
          rw [List.append_nil] at k
          cases r1 with
          | rep r1 => exact KE.now k S r1
        · exact KE.tup k S hp (q1.append q2)
      · rw [if_neg c] at h; cases h
    | _ => cases h
  · cases o with
    | add =>
      obtain ⟨xs, e1, h⟩ := Option.bind_eq_some_iff.mp h
      obtain ⟨ys, e2, h⟩ := Option.bind_eq_some_iff.mp h
      exact bop_lists S r1 r2 e1 e2 h k
    | _ => cases h

/-! ### comparisons -/
def copOp : Cop → CmpOp
  | .eq => .Eq
  | .ne => .NotEq
  | .lt => .Lt
  | .le => .LtE
  | .gt => .Gt
  | .ge => .GtE
  | .inn => .In
  | .nin => .NotIn
def copR (K : PySem.W.Frag) : Cop → R2
  | .eq => rEqD K
  | .ne => rNeD K
  | .lt => rI0 fun i j => .bl (decide (i < j))
  | .le => rI0 fun i j => .bl (decide (i ≤ j))
  | .gt => rI0 fun i j => .bl (decide (j < i))
  | .ge => rI0 fun i j => .bl (decide (j ≤ i))
  | .inn => fun x y H Q => rInD K x y H Q ∨ ∃ i j, x = .str i ∧ y = .str j ∧ Q (.bl (!(Builtin.Str.occurrences j i 0 j.length 1).isEmpty)) H
  | .nin => fun x y H Q => rNotInD K x y H Q ∨ ∃ i j, x = .str i ∧ y = .str j ∧ Q (.bl (!(!(Builtin.Str.occurrences j i 0 j.length 1).isEmpty))) H
theorem op_cop (o : Cop) (hu : X.A.units + 65 < cLine) : OpR X (compareOp (copOp o)) (copR X.K o) := by
  cases o with
  | eq => exact op_eqD (by omega)
  | ne => exact op_neD (by omega)
  | lt => exact op_lt
  | le => exact op_le
  | gt => exact op_gt
  | ge => exact op_ge
  | inn => exact OpR.or (op_inD hu) op_in_str
  | nin => exact OpR.or (op_notInD hu) op_notin_str
theorem dps_py {xs : List D} {ys : List PyData} {vs : List V} (S : Sim K H ι B μ) (r : Reps K (cut H ι B) ι vs xs) (e : pyWs (cellPy μ 8) xs = some ys) : DpAll K H vs ys := dps_of cut_same (cell_dp S 8) xs vs ys r e
theorem eq_val {b : Bool} (S : Sim K H ι B μ) (r1 : RepA K H ι B v x) (r2 : RepA K H ι B u y) (h : eqD μ x y = some b) : ∃ p q, Dp K H v p ∧ Dp K H u q ∧ SeqAt.shaped p = true ∧ SeqAt.shaped q = true ∧ PyData.eqv p q = b := by
  unfold eqD at h
  obtain ⟨p, e1, h⟩ := Option.bind_eq_some_iff.mp h
  obtain ⟨q, e2, h⟩ := Option.bind_eq_some_iff.mp h
  split at h
  · rename_i c
    rw [Bool.and_eq_true] at c
    cases h
    exact ⟨p, q, r1.py S e1, r2.py S e2, c.1, c.2, rfl⟩
  · cases h
theorem in_val {b : Bool} (S : Sim K H ι B μ) (r1 : RepA K H ι B v x) (r2 : RepA K H ι B u y) (h : inD μ x y = some b) :
    (∃ p ys, Dp K H v p ∧ Dp K H u (.list ys) ∧ SeqAt.shaped p = true ∧ SeqAt.shaped (.list ys) = true ∧ (ys.any fun z => PyData.eqv z p) = b) ∨ ∃ i j, v = .str i ∧ u = .str j ∧ (!(Builtin.Str.occurrences j i 0 j.length 1).isEmpty) = b := by
  unfold inD at h
  split at h
  · cases h
    exact .inr ⟨_, _, r1.str, r2.str, rfl⟩
  · obtain ⟨p, e1, h⟩ := Option.bind_eq_some_iff.mp h
    obtain ⟨bs, e2, h⟩ := Option.bind_eq_some_iff.mp h
    obtain ⟨ys, e3, h⟩ := Option.bind_eq_some_iff.mp h
    split at h
    · rename_i c
      rw [Bool.and_eq_true] at c
      cases h
      obtain ⟨a, us, rfl, s2, q2⟩ := r2.seq S e2
      exact .inl ⟨p, ys, r1.py S e1, .lst s2 (dps_py S q2 e3), c.1, c.2, rfl⟩
    · cases h
theorem cop_val {o : Cop} {b : Bool} (S : Sim K H ι B μ) (r1 : RepA K H ι B v x) (r2 : RepA K H ι B u y) (h : cmpD μ o x y = some b) (k : Q (.bl b) H) : copR K o v u H Q := by
  cases o with
  | eq =>
    obtain ⟨p, q, h1, h2, h3, h4, e⟩ := eq_val S r1 r2 h
    exact ⟨p, q, h1, h2, h3, h4, by rw [e]; exact k⟩
  | ne =>
    obtain ⟨b', h', rfl⟩ := Option.map_eq_some_iff.mp h
    obtain ⟨p, q, h1, h2, h3, h4, e⟩ := eq_val S r1 r2 h'
    exact ⟨p, q, h1, h2, h3, h4, by rw [e]; exact k⟩
  | inn =>
    rcases in_val S r1 r2 h with ⟨p, ys, h1, h2, h3, h4, e⟩ | ⟨i, j, rfl, rfl, e⟩
    · exact .inl ⟨p, ys, h1, h2, h3, h4, by rw [e]; exact k⟩
    · exact .inr ⟨i, j, rfl, rfl, by rw [e]; exact k⟩
  | nin =>
    obtain ⟨b', h', rfl⟩ := Option.map_eq_some_iff.mp h
    rcases in_val S r1 r2 h' with ⟨p, ys, h1, h2, h3, h4, e⟩ | ⟨i, j, rfl, rfl, e⟩
    · exact .inl ⟨p, ys, h1, h2, h3, h4, by rw [e]; exact k⟩
    · exact .inr ⟨i, j, rfl, rfl, by rw [e]; exact k⟩
  | lt =>
    unfold cmpD at h
    dsimp only at h
    split at h
    · cases h; exact ⟨_, _, r1.int, r2.int, k⟩
    · cases h
  | le =>
    unfold cmpD at h
    dsimp only at h
    split at h
    · cases h; exact ⟨_, _, r1.int, r2.int, k⟩
    · cases h
  | gt =>
    unfold cmpD at h
    dsimp only at h
    split at h
    · cases h; exact ⟨_, _, r1.int, r2.int, k⟩
    · cases h
  | ge =>
    unfold cmpD at h
    dsimp only at h
    split at h
    · cases h; exact ⟨_, _, r1.int, r2.int, k⟩
    · cases h

/-! ### places -/
theorem atI_reps {vs : List V} {ds : List D} {G : Hp} (r : Reps K G ι vs ds) {i : Int} {d : D} (h : atI ds i = some d) : ∃ w, atI vs i = some w ∧ Rep K G ι w d := by
  unfold atI at h ⊢
  rw [r.length]
  obtain ⟨j, e1, e2⟩ := Option.bind_eq_some_iff.mp h
  obtain ⟨w, e3, e4⟩ := r.get e2
  exact ⟨w, by rw [e1]; exact e3, e4⟩
theorem idx_val (S : Sim K H ι B μ) (r1 : RepA K H ι B v x) (r2 : RepA K H ι B u y) (h : idxD μ x y = some d) (k : KE K H ι B μ d Q) : rIx K v u H Q := by
  unfold idxD at h
  split at h
  · obtain ⟨a, vs, rfl, s1, q1⟩ := r1.tup
    obtain ⟨w, e1, e2⟩ := atI_reps q1 h
    exact .inr (.inl ⟨a, vs, _, w, rfl, r2.int, s1, e1, k.now S e2⟩)
  · rename_i z i
    split at h
    · rename_i c
      obtain ⟨c1, e1, e2⟩ := Option.map_eq_some_iff.mp h
      subst e2
      exact .inr (.inr ⟨z, i, c1, r1.str, r2.int, c, e1, k.now S (.str _)⟩)
    · cases h
  · obtain ⟨xs, e1, e2⟩ := Option.bind_eq_some_iff.mp h
    obtain ⟨a, vs, rfl, s1, q1⟩ := r1.seq S e1
    obtain ⟨w, e3, e4⟩ := atI_reps q1 e2
    exact .inl ⟨a, vs, _, w, rfl, r2.int, s1, e3, k.now S e4⟩
  · cases h
theorem cutD_reps {vs : List V} {ds : List D} {G : Hp} (r : Reps K G ι vs ds) (lo hi : Option Int) : Reps K G ι (cutV vs lo hi) (cutD ds lo hi) := by
  unfold cutV cutD
  rw [r.length]
  exact (r.drop _).take _
def rSl (K : PySem.W.Frag) : V → Option Int → Option Int → Hp → VK → Prop := fun x lo hi H Q => rSlL K x lo hi H Q ∨ rSlT K x lo hi H Q
theorem slc_val {lo hi : Option Int} (S : Sim K H ι B μ) (r1 : RepA K H ι B v x) (h : slcD μ x lo hi = some d) (k : KX K H ι B μ d Q) : rSl K v lo hi H Q := by
  unfold slcD at h
  split at h
  · rename_i xs
    split at h
    · rename_i c
      cases h
      obtain ⟨a, vs, rfl, s1, q1⟩ := r1.tup
      refine .inr ⟨a, vs, rfl, s1, fun e => ?_, fun p hp => KE.tup k S hp (cutD_reps q1 lo hi)⟩
      have c2 := c.2
      unfold cutD at c2
      rw [q1.length] at e
      rw [e.1, e.2, List.drop_zero, Nat.sub_zero, List.take_length] at c2
      exact absurd c2 (Nat.lt_irrefl _)
    · cases h
  · obtain ⟨xs, e1, e2⟩ := Option.map_eq_some_iff.mp h
    subst e2
    obtain ⟨a, vs, rfl, s1, q1⟩ := r1.seq S e1
    exact .inl ⟨a, vs, rfl, s1, fun p hp => KF.laid k S hp (cutD_reps q1 lo hi)⟩
/-- truth -/
theorem truth_val {b : Bool} (S : Sim K H ι B μ) (r : RepA K H ι B v x) (h : truthD μ x = some b) : TruV K v H b := by
  unfold truthD at h
  split at h
  · cases h; rw [r.non]; rfl
  · cases h; rw [r.bl]; rfl
  · cases h; rw [r.int]; rfl
  · split at h
    · rename_i c
      cases h; rw [r.str]; exact ⟨c, by rw [Bool.eq_iff_iff]; simp⟩
    · cases h
  · cases h
    obtain ⟨a, vs, rfl, s1, q1⟩ := r.tup
    refine .inr (.inl ⟨vs, s1, ?_⟩)
    cases q1 <;> rfl
  · cases h
    rename_i xs
    obtain ⟨a, vs, rfl, s1, q1⟩ := r.seq S rfl
    refine .inl ⟨vs, s1, ?_⟩
    cases q1 <;> rfl
  · rename_i kvs
    cases h
    cases r with
    | rep r =>
      cases r with
      | dic0 s => exact .inr (.inr ⟨[], cut_same _ _ s, rfl⟩)
  · obtain ⟨ds, e1, e2⟩ := Option.map_eq_some_iff.mp h
    subst e2
    obtain ⟨a, vs, rfl, s1, q1⟩ := r.seq S e1
    refine .inl ⟨vs, s1, ?_⟩
    cases q1 <;> rfl
end
end DI
set_option Elab.async false
set_option linter.all false
set_option maxRecDepth 100000
/-! DI6: built-in functions by values, isinstance, truth, arguments -/
namespace DI
open PySem PySem.Spec PyProof.Rows L2
section
variable {X : Cx}
def rRepr (K : PySem.W.Frag) : List V → Hp → VK → Prop := fun xs H Q => ∃ a d, xs = [.ref a] ∧ Dp K H (.ref a) d ∧ SeqAt.shaped d = true ∧ d.showable = true ∧ d.shown.length ≤ sizeLine ∧ Q (.str d.shown) H
theorem cr_reprD (hu : X.A.units + 65 < cLine) (gd : X.A.guards = some []) : CallR X (.builtin "repr") (rRepr X.K) := by
  intro pins s σ H xs us Q I r ⟨a, d, e, hd, sh, sw, sz, q⟩
  subst e
  obtain ⟨u, rfl, ru⟩ := vals1 r
  obtain ⟨as, rd⟩ := Dp.reads I d (.ref a) u hd ru
  cases ru
  unfold SeqAt.shaped at sh
  rw [Bool.and_eq_true, decide_eq_true_eq] at sh
  have nd := PyData.hasDict_of_canLay d sh.1
  refine PySem.repr_of_reads' rd sw (fun z => by rw [nd] at z; cases z) gd (by omega) (fun _ _ z => z) (fun h' u' tk hk => ?_) sz
  exact ⟨.str d.shown, H, I.kept hk, ⟨u', rfl⟩, q⟩

def biId : Bi → Value
  | .len => .builtin "len"
  | .abs => .builtin "abs"
  | .max => .builtin "max"
  | .min => .builtin "min"
  | .int => .type "int"
  | .tuple => .type "tuple"
  | .list => .type "list"
  | .sum => .builtin "sum"
  | .repr => .builtin "repr"
  | .all => .builtin "all"
  | .any => .builtin "any"
  | .gcd => .builtin "math.gcd"
def biR (K : PySem.W.Frag) : Bi → List V → Hp → VK → Prop
  | .len => fun xs H Q => ∃ (x : V) (n : Nat), xs = [x] ∧ LenV K x H n ∧ Q (.int n) H
  | .abs => fun xs H Q => ∃ i, xs = [.int i] ∧ Q (.int (if i < 0 then -i else i)) H
  | .max => fun xs H Q => ∃ i j, xs = [.int i, .int j] ∧ Q (.int (if j > i then j else i)) H
  | .min => fun xs H Q => ∃ i j, xs = [.int i, .int j] ∧ Q (.int (if j < i then j else i)) H
  | .int => fun xs H Q => (∃ i, xs = [.int i] ∧ Q (.int i) H) ∨ ∃ k, xs = [.bl k] ∧ Q (.int (if k then 1 else 0)) H
  | .tuple => fun xs H Q => ∃ p ys, xs = [.ref p] ∧ ((SqL K H p ys ∧ ∀ l, H l = none → Q (.ref l) (upd H l (.tup ys))) ∨ (SqT K H p ys ∧ Q (.ref p) H))
  | .list => fun xs H Q => ∃ p ys, xs = [.ref p] ∧ (SqL K H p ys ∨ SqT K H p ys) ∧ ∀ l, H l = none → Q (.ref l) (upd H l (.lst ys))
  | .sum => rSum K
  | .repr => rRepr K
  | .all => rAll K
  | .any => rAny K
  | .gcd => rGcd
theorem cr_bi (hc : X.calm = true) (hu : X.A.units + 65 < cLine) (gd : X.A.guards = some []) : ∀ b : Bi, CallR X (biId b) (biR X.K b)
  | .len => call_len
  | .abs => call_abs
  | .max => call_max2 hc
  | .min => call_min2 hc
  | .int => call_int1
  | .tuple => call_tuple_of
  | .list => call_list_of
  | .sum => cr_sum hc
  | .repr => cr_reprD hu gd
  | .all => cr_all hc
  | .any => cr_any hc
  | .gcd => cr_gcd
variable {K : PySem.W.Frag} {H : Hp} {ι : Cells} {B : List Addr} {μ : Mem} {v u : V} {x y d : D} {Q : VK} {G : Hp}
theorem ints_reps : ∀ {xs : List D} {is : List Int} {vs : List V}, Reps K G ι vs xs → intsD xs = some is → vs = is.map V.int
  | [], is, _, .nil, e => by simp only [intsD, Option.some.injEq] at e; subst e; rfl
  | .int i :: r, is, _, .cons h t, e => by
    simp only [intsD] at e
    obtain ⟨js, e1, e2⟩ := Option.map_eq_some_iff.mp e
    subst e2
    cases h
    rw [ints_reps t e1]
    rfl
  | .non :: r, is, _, .cons _ _, e => by simp [intsD] at e
  | .bl _ :: r, is, _, .cons _ _, e => by simp [intsD] at e
  | .str _ :: r, is, _, .cons _ _, e => by simp [intsD] at e
  | .tup _ :: r, is, _, .cons _ _, e => by simp [intsD] at e
  | .lst _ :: r, is, _, .cons _ _, e => by simp [intsD] at e
  | .dic _ :: r, is, _, .cons _ _, e => by simp [intsD] at e
  | .ref _ :: r, is, _, .cons _ _, e => by simp [intsD] at e
theorem bls_reps : ∀ {xs : List D} {is : List Bool} {vs : List V}, Reps K G ι vs xs → blsD xs = some is → vs = is.map V.bl
  | [], is, _, .nil, e => by simp only [blsD, Option.some.injEq] at e; subst e; rfl
  | .bl i :: r, is, _, .cons h t, e => by
    simp only [blsD] at e
    obtain ⟨js, e1, e2⟩ := Option.map_eq_some_iff.mp e
    subst e2
    cases h
    rw [bls_reps t e1]
    rfl
  | .non :: r, is, _, .cons _ _, e => by simp [blsD] at e
  | .int _ :: r, is, _, .cons _ _, e => by simp [blsD] at e
  | .str _ :: r, is, _, .cons _ _, e => by simp [blsD] at e
  | .tup _ :: r, is, _, .cons _ _, e => by simp [blsD] at e
  | .lst _ :: r, is, _, .cons _ _, e => by simp [blsD] at e
  | .dic _ :: r, is, _, .cons _ _, e => by simp [blsD] at e
  | .ref _ :: r, is, _, .cons _ _, e => by simp [blsD] at e
theorem RepA.seqT {ds : List D} (S : Sim K H ι B μ) (r : RepA K H ι B v d) (e : DI.seqT μ d = some ds) : ∃ a vs, v = .ref a ∧ (SqL K H a vs ∨ SqT K H a vs) ∧ Reps K (cut H ι B) ι vs ds := by
  cases d with
  | tup ds' =>
    cases e
    obtain ⟨a, vs, h1, h2, h3⟩ := r.tup
    exact ⟨a, vs, h1, .inr h2, h3⟩
  | lst ds' =>
    obtain ⟨a, vs, h1, h2, h3⟩ := r.seq S (show seqV μ _ = some ds from e)
    exact ⟨a, vs, h1, .inl h2, h3⟩
  | ref n =>
    obtain ⟨a, vs, h1, h2, h3⟩ := r.seq S (show seqV μ _ = some ds from e)
    exact ⟨a, vs, h1, .inl h2, h3⟩
  | _ => cases e
theorem len_val {n : Nat} (S : Sim K H ι B μ) (r : RepA K H ι B v x) (h : lenD μ x = some n) : LenV K v H n := by
  unfold lenD at h
  split at h
  · split at h
    · rename_i c
      cases h
      rw [r.str]
      exact ⟨c, rfl⟩
    · cases h
  · cases h
    obtain ⟨a, vs, rfl, s1, q1⟩ := r.tup
    exact .inr ⟨vs, s1, q1.length.symm⟩
  · obtain ⟨xs, e1, e2⟩ := Option.map_eq_some_iff.mp h
    subst e2
    obtain ⟨a, vs, rfl, s1, q1⟩ := r.seq S e1
    exact .inl ⟨vs, s1, q1.length.symm⟩
abbrev RepAs (K : PySem.W.Frag) (H : Hp) (ι : Cells) (B : List Addr) : List V → List D → Prop := Paired (RepA K H ι B)
theorem RepAs.one {vs : List V} (r : RepAs K H ι B vs [x]) : ∃ v, vs = [v] ∧ RepA K H ι B v x := by
  cases r with
  | cons h t => cases t; exact ⟨_, rfl, h⟩
theorem RepAs.two {vs : List V} (r : RepAs K H ι B vs [x, y]) : ∃ v u, vs = [v, u] ∧ RepA K H ι B v x ∧ RepA K H ι B u y := by
  cases r with
  | cons h t =>
    cases t with
    | cons h2 t => cases t; exact ⟨_, _, rfl, h, h2⟩
theorem bi_val {b : Bi} {vs : List V} {ds : List D} (S : Sim K H ι B μ) (r : RepAs K H ι B vs ds) (h : biD μ b ds = some d) (k : KX K H ι B μ d Q) : biR K b vs H Q := by
  unfold biD at h
  split at h
  · obtain ⟨n, e1, e2⟩ := Option.map_eq_some_iff.mp h
    subst e2
    obtain ⟨v, rfl, r0⟩ := r.one
    exact ⟨v, n, rfl, len_val S r0 e1, KE.now k S (.int _)⟩
  · cases h
    obtain ⟨v, rfl, r0⟩ := r.one
    rw [r0.int]
    exact ⟨_, rfl, KE.now k S (.int _)⟩
  · cases h
    obtain ⟨v, u, rfl, r1, r2⟩ := r.two
    rw [r1.int, r2.int]
    exact ⟨_, _, rfl, KE.now k S (.int _)⟩
  · cases h
    obtain ⟨v, u, rfl, r1, r2⟩ := r.two
    rw [r1.int, r2.int]
    exact ⟨_, _, rfl, KE.now k S (.int _)⟩
  · cases h
    obtain ⟨v, rfl, r0⟩ := r.one
    rw [r0.int]
    exact .inl ⟨_, rfl, KE.now k S (.int _)⟩
  · cases h
    obtain ⟨v, rfl, r0⟩ := r.one
    rw [r0.bl]
    exact .inr ⟨_, rfl, KE.now k S (.int _)⟩
  · cases h
    obtain ⟨v, rfl, r0⟩ := r.one
    obtain ⟨a, ws, e, s1, q1⟩ := r0.tup
    subst e
    refine ⟨a, ws, rfl, .inr ⟨s1, ?_⟩⟩
    cases r0 with
    | rep r0 => exact KE.now k S r0
  · obtain ⟨xs, e1, e2⟩ := Option.map_eq_some_iff.mp h
    subst e2
    obtain ⟨v, rfl, r0⟩ := r.one
    obtain ⟨a, ws, rfl, s1, q1⟩ := r0.seq S e1
    exact ⟨a, ws, rfl, .inl ⟨s1, fun p hp => KE.tup k S hp q1⟩⟩
  · cases h
    obtain ⟨v, rfl, r0⟩ := r.one
    obtain ⟨a, ws, rfl, s1, q1⟩ := r0.tup
    exact ⟨a, ws, rfl, .inr s1, fun p hp => KF.laid k S hp q1⟩
  · obtain ⟨xs, e1, e2⟩ := Option.map_eq_some_iff.mp h
    subst e2
    obtain ⟨v, rfl, r0⟩ := r.one
    obtain ⟨a, ws, rfl, s1, q1⟩ := r0.seq S e1
    exact ⟨a, ws, rfl, .inl s1, fun p hp => KF.laid k S hp q1⟩
  · obtain ⟨xs, e1, h⟩ := Option.bind_eq_some_iff.mp h
    obtain ⟨is, e2, e3⟩ := Option.map_eq_some_iff.mp h
    subst e3
    obtain ⟨v, rfl, r0⟩ := r.one
    obtain ⟨a, ws, rfl, s1, q1⟩ := r0.seq S e1
    rw [ints_reps q1 e2] at s1
    exact ⟨a, is, rfl, s1, KE.now k S (.int _)⟩
  · obtain ⟨xs, e1, h⟩ := Option.bind_eq_some_iff.mp h
    obtain ⟨is, e2, e3⟩ := Option.map_eq_some_iff.mp h
    subst e3
    obtain ⟨v, rfl, r0⟩ := r.one
    obtain ⟨a, ws, rfl, s1, q1⟩ := r0.seq S e1
    rw [bls_reps q1 e2] at s1
    exact ⟨a, is, rfl, s1, KE.now k S (.bl _)⟩
  · obtain ⟨xs, e1, h⟩ := Option.bind_eq_some_iff.mp h
    obtain ⟨is, e2, e3⟩ := Option.map_eq_some_iff.mp h
    subst e3
    obtain ⟨v, rfl, r0⟩ := r.one
    obtain ⟨a, ws, rfl, s1, q1⟩ := r0.seq S e1
    rw [bls_reps q1 e2] at s1
    exact ⟨a, is, rfl, s1, KE.now k S (.bl _)⟩
  · cases h
    obtain ⟨v, u, rfl, r1, r2⟩ := r.two
    rw [r1.int, r2.int]
    exact ⟨_, _, rfl, KE.now k S (.int _)⟩
  · obtain ⟨xs, e1, h⟩ := Option.bind_eq_some_iff.mp h
    obtain ⟨z, e2, h⟩ := Option.bind_eq_some_iff.mp h
    split at h
    · rename_i c
      rw [Bool.and_eq_true, Bool.and_eq_true, decide_eq_true_eq] at c
      cases h
      obtain ⟨v, rfl, r0⟩ := r.one
      obtain ⟨a, ws, rfl, _, _⟩ := r0.seqT S e1
      exact ⟨a, z, rfl, r0.py S e2, c.1, c.2.1, c.2.2, KE.now k S (.str _)⟩
    · cases h
  · cases h

/-! ### isinstance -/
def tyNm : D → String
  | .non => "NoneType"
  | .bl _ => "bool"
  | .int _ => "int"
  | .str _ => "str"
  | .tup _ => "tuple"
  | .lst _ => "list"
  | .ref _ => "list"
  | .dic _ => "dict"
def Ty.nm : Ty → String
  | .int => "int"
  | .bool => "bool"
  | .str => "str"
  | .list => "list"
  | .tuple => "tuple"
  | .dict => "dict"
theorem tyx_l {a : Addr} {vs : List V} (s : SqL K H a vs) : TyX K H (.ref a) (.type "list") := by
  rcases s with (s | ⟨o, s⟩) | ⟨o, its, n, e, c, _⟩
  · exact .base (.lst s)
  · exact .base (.frz s)
  · exact .kList e c
theorem tyx_t {a : Addr} {vs : List V} (s : SqT K H a vs) : TyX K H (.ref a) (.type "tuple") := by
  rcases s with (s | ⟨o, s⟩) | ⟨o, its, n, e, c, _⟩
  · exact .base (.tup s)
  · exact .fTuple s
  · exact .kTuple e c
theorem tyx_of (S : Sim K H ι B μ) (r : RepA K H ι B v x) (hl : liveD μ x = true) : TyX K H v (.type (tyNm x)) := by
  cases x with
  | non => rw [r.non]; exact .base .non
  | bl b => rw [r.bl]; exact .base (.bl b)
  | int b => rw [r.int]; exact .base (.int b)
  | str b => rw [r.str]; exact .base (.str b)
  | tup xs => obtain ⟨a, vs, rfl, s, _⟩ := r.tup; exact tyx_t s
  | lst xs => obtain ⟨a, vs, rfl, s, _⟩ := r.seq S rfl; exact tyx_l s
  | ref n =>
    obtain ⟨ds, e⟩ := Option.isSome_iff_exists.mp (show ((μ[n]?).join).isSome = true from hl)
    obtain ⟨a, vs, rfl, s, _⟩ := r.seq S (show seqV μ (.ref n) = some ds from e)
    exact tyx_l s
  | dic kvs =>
    cases r with
    | rep r => cases r with
      | dic0 s => exact .base (.dK (cut_same _ _ s))
def kitTab (a : String) (t : Ty) : Option Bool := kitB a t.nm
theorem kit_all (x : D) (t : Ty) : kitB (tyNm x) t.nm = some (isT x t) := by
  cases x <;> cases t <;> (simp only [tyNm, isT]; decide +kernel)
theorem kit_any (x : D) : ∀ ts : List Ty, PySem.W.kitAny K (.type (tyNm x)) (ts.map fun t => Value.type t.nm) = some (ts.any (isT x))
  | [] => kitAny_nil
  | t :: ts => by
    refine kitAny_cons (kit_ty (kit_all x t)) (fun e => ?_) fun e => ?_
    · rw [List.any_cons, e, Bool.false_or]; exact kit_any x ts
    · rw [List.any_cons, e, Bool.true_or]
theorem cls_all : ∀ ts : List Ty, Paired ClsV (ts.map fun t => V.ty t.nm) (ts.map fun t => Value.type t.nm)
  | [] => .nil
  | t :: ts => .cons (.ty _) (cls_all ts)
end
end DI
set_option Elab.async false
set_option linter.all false
set_option maxRecDepth 100000
/-! DI7: the rules of expressions, without loops -/
namespace DI
open PySem PySem.Spec PyProof.Rows L2
section
variable {X : Cx} {e a b c : Expr} {es : List Expr} {ev ea eb ec : Ev → Mem → Option (D × Mem)} {evs : Ev → Mem → Option (List D × Mem)} {pos : Pos}
theorem pas_nil : PA X [] (tAs X.K fun _ μ => some ([], μ)) := PAcon pa_nil fun σ H Q ⟨env, μ, ι, B, B0, ds, μ', a, e, k⟩ => by
  cases e
  exact k [] H ι (Nx.refl a.s) .nil
theorem pas_cons (ha : PE X e (tA X.K ea)) (hr : PA X es (tAs X.K evs)) (hs : noStar e = true) : PA X (e :: es) (tAs X.K fun env μ => (ea env μ).bind fun p => (evs env p.2).map fun q => (p.1 :: q.1, q.2)) :=
  PAcon (pa_cons ha hr (star_cons hs _ _)) fun σ H Q ⟨env, μ, ι, B, B0, ds, μ', a, e, k⟩ => by
    obtain ⟨⟨x, μ1⟩, e1, e⟩ := Option.bind_eq_some_iff.mp e
    obtain ⟨⟨xs, μ2⟩, e2, e3⟩ := Option.map_eq_some_iff.mp e
    cases e3
    exact ⟨env, μ, ι, B, B0, x, μ1, a, e1, fun v H1 ι1 n1 r1 => ⟨env, μ1, ι1, B, B0, xs, μ2, a.nx n1, e2, fun vs H2 ι2 n2 r2 => k (v :: vs) H2 ι2 (n1.trans n2) (.cons (n2.arg r1) r2)⟩⟩
theorem pes_nil : PA X [] (tEs X.K fun _ μ => some ([], μ)) := PAcon pa_nil fun σ H Q ⟨env, μ, ι, B, B0, ds, μ', a, e, k⟩ => by
  cases e
  exact k [] H ι (Nx.refl a.s) .nil
theorem pes_cons (ha : PE X e (tE X.K ea)) (hr : PA X es (tEs X.K evs)) (hs : noStar e = true) : PA X (e :: es) (tEs X.K fun env μ => (ea env μ).bind fun p => (evs env p.2).map fun q => (p.1 :: q.1, q.2)) :=
  PAcon (pa_cons ha hr (star_cons hs _ _)) fun σ H Q ⟨env, μ, ι, B, B0, ds, μ', a, e, k⟩ => by
    obtain ⟨⟨x, μ1⟩, e1, e⟩ := Option.bind_eq_some_iff.mp e
    obtain ⟨⟨xs, μ2⟩, e2, e3⟩ := Option.map_eq_some_iff.mp e
    cases e3
    exact ⟨env, μ, ι, B, B0, x, μ1, a, e1, fun v H1 ι1 n1 r1 => ⟨env, μ1, ι1, B, B0, xs, μ2, a.nx n1, e2, fun vs H2 ι2 n2 r2 => k (v :: vs) H2 ι2 (n1.trans n2) (.cons (n2.rep r1) r2)⟩⟩
theorem r_tup {k : Nat} (h : PA X es (tEs X.K evs)) (hev : ∀ env μ, ev env μ = (evs env μ).bind fun p => if p.1.length ≤ sizeLine then some (.tup p.1, p.2) else none) : PE X (.Tuple es k pos) (tE X.K ev) :=
  PEcon (pe_tup h) fun σ H Q ⟨env, μ, ι, B, B0, d, μ', a, e, k⟩ => by
    rw [hev] at e
    obtain ⟨⟨xs, μ1⟩, e1, e⟩ := Option.bind_eq_some_iff.mp e
    split at e
    · rename_i c
      cases e
      exact ⟨env, μ, ι, B, B0, xs, _, a, e1, fun vs H1 ι1 n1 r1 => ⟨by rw [r1.length]; exact c, fun p hp => KE.tup (KE.back k n1) n1.s hp r1⟩⟩
    · cases e
theorem r_lst (h : PA X es (tEs X.K evs)) (hev : ∀ env μ, ev env μ = (evs env μ).bind fun p => if p.1.length ≤ sizeLine then some (.lst p.1, p.2) else none) : PE X (.List es pos) (tX X.K ev) :=
  PEcon (pe_lst h) fun σ H Q ⟨env, μ, ι, B, B0, d, μ', a, e, k⟩ => by
    rw [hev] at e
    obtain ⟨⟨xs, μ1⟩, e1, e⟩ := Option.bind_eq_some_iff.mp e
    split at e
    · rename_i c
      cases e
      exact ⟨env, μ, ι, B, B0, xs, _, a, e1, fun vs H1 ι1 n1 r1 => ⟨by rw [r1.length]; exact c, fun p hp => KF.laid (KF.back k n1) n1.s hp r1⟩⟩
    · cases e
/-- a new list becomes a cell -/
theorem r_cell (h : PE X e (tX X.K ea)) (hev : ∀ env μ, ev env μ = (ea env μ).bind fun p => match p.1 with
    | .lst ds => some (.ref p.2.length, p.2 ++ [some ds])
    | _ => none) : PE X e (tE X.K ev) :=
  PEcon h fun σ H Q ⟨env, μ, ι, B, B0, d, μ', a, e, k⟩ => by
    rw [hev] at e
    obtain ⟨⟨x, μ1⟩, e1, e⟩ := Option.bind_eq_some_iff.mp e
    cases x with
    | lst ds =>
      cases e
      refine ⟨env, μ, ι, B, B0, .lst ds, μ1, a, e1, fun p vs H' ι' hp x kk S hl r => ?_⟩
      have np : p ∉ B := fun q => by
        have z := kk p q
        rw [hl, hp] at z; cases z
      refine k (.ref p) H' (ι' ++ [some p]) ⟨x.cell, kk, S.cell' np hl r⟩ (.ref (x := some p) ?_ fun a ha => by cases ha; rfl)
      rw [← S.len, List.getElem?_append_right (Nat.le_refl _)]
      simp
    | _ => cases e
theorem r_and {rest : List Expr} (ha : PE X a (tA X.K ea)) (hb : PE X (.BoolOp .And (b :: rest) pos) (tE X.K eb)) (hev : ∀ env μ, ev env μ = (ea env μ).bind fun p => match p.1 with
    | .bl true => eb env p.2
    | .bl false => some (.bl false, p.2)
    | _ => none) : PE X (.BoolOp .And (a :: b :: rest) pos) (tE X.K ev) :=
  PEcon (pe_and ha hb) fun σ H Q ⟨env, μ, ι, B, B0, d, μ', a, e, k⟩ => by
    rw [hev] at e
    obtain ⟨⟨x, μ1⟩, e1, e⟩ := Option.bind_eq_some_iff.mp e
    refine ⟨env, μ, ι, B, B0, x, μ1, a, e1, fun v H1 ι1 n1 r1 => ?_⟩
    dsimp only at e
    split at e
    · rw [r1.bl]
      exact ⟨true, rfl, iteT ⟨env, μ1, ι1, B, B0, d, μ', a.nx n1, e, KE.back k n1⟩⟩
    · cases e
      rw [r1.bl]
      exact ⟨false, rfl, iteF (KE.now (KE.back k n1) n1.s (.bl false))⟩
    · cases e
theorem r_or {rest : List Expr} (ha : PE X a (tA X.K ea)) (hb : PE X (.BoolOp .Or (b :: rest) pos) (tE X.K eb)) (hev : ∀ env μ, ev env μ = (ea env μ).bind fun p => match p.1 with
    | .bl false => eb env p.2
    | .bl true => some (.bl true, p.2)
    | _ => none) : PE X (.BoolOp .Or (a :: b :: rest) pos) (tE X.K ev) :=
  PEcon (pe_or ha hb) fun σ H Q ⟨env, μ, ι, B, B0, d, μ', a, e, k⟩ => by
    rw [hev] at e
    obtain ⟨⟨x, μ1⟩, e1, e⟩ := Option.bind_eq_some_iff.mp e
    refine ⟨env, μ, ι, B, B0, x, μ1, a, e1, fun v H1 ι1 n1 r1 => ?_⟩
    dsimp only at e
    split at e
    · rw [r1.bl]
      exact ⟨false, rfl, iteF ⟨env, μ1, ι1, B, B0, d, μ', a.nx n1, e, KE.back k n1⟩⟩
    · cases e
      rw [r1.bl]
      exact ⟨true, rfl, iteT (KE.now (KE.back k n1) n1.s (.bl true))⟩
    · cases e
theorem r_ite {et : Ev → Mem → Option (Bool × Mem)} (hc : PT X c (tB X.K et)) (ha : PE X a (tE X.K ea)) (hb : PE X b (tE X.K eb)) (hev : ∀ env μ, ev env μ = (et env μ).bind fun p => if p.1 then ea env p.2 else eb env p.2) :
    PE X (.IfExp c a b pos) (tE X.K ev) :=
  PEcon (pe_ifExp hc ha hb) fun σ H Q ⟨env, μ, ι, B, B0, d, μ', a, e, k⟩ => by
    rw [hev] at e
    obtain ⟨⟨x, μ1⟩, e1, e⟩ := Option.bind_eq_some_iff.mp e
    refine ⟨env, μ, ι, B, B0, x, μ1, a, e1, fun H1 ι1 n1 => ?_⟩
    cases x with
    | true => exact iteT ⟨env, μ1, ι1, B, B0, d, μ', a.nx n1, e, KE.back k n1⟩
    | false => exact iteF ⟨env, μ1, ι1, B, B0, d, μ', a.nx n1, e, KE.back k n1⟩
theorem r_isn {ng : Bool} {j : Nat} {p' : Pos} (ha : PE X a (tA X.K ea)) (hev : ∀ env μ, ev env μ = (ea env μ).bind fun p => match p.1 with
    | .non => some (.bl (!ng), p.2)
    | .ref _ => none
    | _ => some (.bl ng, p.2)) : PE X (.Compare a [if ng then .IsNot else .Is] [.Constant .none j p'] pos) (tE X.K ev) := by
  have go : ∀ (v : V) (x d : D) (H : Hp) (ι : Cells) (B : List Addr), RepA X.K H ι B v x → x ≠ .non → (∀ n, x ≠ .ref n) → v ≠ .non := fun v x d H ι B r h1 h2 e => by
    subst e
    cases r with
    | rep r =>
      cases r with
      | non => exact h1 rfl
      | ref _ _ => exact h2 _ rfl
  cases ng with
  | false =>
    refine PEcon (pe_cmpR op_isN ha pe_non (nomark _)) fun σ H Q ⟨env, μ, ι, B, B0, d, μ', a, e, k⟩ => ?_
    rw [hev] at e
    obtain ⟨⟨x, μ1⟩, e1, e⟩ := Option.bind_eq_some_iff.mp e
    refine ⟨env, μ, ι, B, B0, x, μ1, a, e1, fun v H1 ι1 n1 r1 => ⟨rfl, ?_⟩⟩
    dsimp only at e
    split at e
    · cases e
      rw [r1.non]
      exact KE.now (KE.back k n1) n1.s (.bl _)
    · cases e
    · rename_i h1 h2
      cases e
      rw [decide_eq_false (go v x .non _ _ _ r1 (fun z => h1 z) fun n z => h2 n z)]
      exact KE.now (KE.back k n1) n1.s (.bl _)
  | true =>
    refine PEcon (pe_cmpR op_notN ha pe_non (nomark _)) fun σ H Q ⟨env, μ, ι, B, B0, d, μ', a, e, k⟩ => ?_
    rw [hev] at e
    obtain ⟨⟨x, μ1⟩, e1, e⟩ := Option.bind_eq_some_iff.mp e
    refine ⟨env, μ, ι, B, B0, x, μ1, a, e1, fun v H1 ι1 n1 r1 => ⟨rfl, ?_⟩⟩
    dsimp only at e
    split at e
    · cases e
      rw [r1.non]
      exact KE.now (KE.back k n1) n1.s (.bl _)
    · cases e
    · rename_i h1 h2
      cases e
      rw [decide_eq_false (go v x .non _ _ _ r1 (fun z => h1 z) fun n z => h2 n z)]
      exact KE.now (KE.back k n1) n1.s (.bl _)
theorem r_isb {ng k : Bool} {j : Nat} {p' : Pos} (ha : PE X a (tA X.K ea)) (hev : ∀ env μ, ev env μ = (ea env μ).bind fun p => match p.1 with
    | .bl b => some (.bl (if ng then !decide (b = k) else decide (b = k)), p.2)
    | _ => none) : PE X (.Compare a [if ng then .IsNot else .Is] [.Constant (.bool k) j p'] pos) (tE X.K ev) := by
  cases ng with
  | false =>
    refine PEcon (pe_cmpR op_isBl ha pe_bl (nomark _)) fun σ H Q ⟨env, μ, ι, B, B0, d, μ', a, e, k⟩ => ?_
    rw [hev] at e
    obtain ⟨⟨x, μ1⟩, e1, e⟩ := Option.bind_eq_some_iff.mp e
    refine ⟨env, μ, ι, B, B0, x, μ1, a, e1, fun v H1 ι1 n1 r1 => ?_⟩
    dsimp only at e
    split at e
    · cases e
      rw [r1.bl]
      exact ⟨_, _, rfl, rfl, KE.now (KE.back k n1) n1.s (.bl _)⟩
    · cases e
  | true =>
    refine PEcon (pe_cmpR op_notBl ha pe_bl (nomark _)) fun σ H Q ⟨env, μ, ι, B, B0, d, μ', a, e, k⟩ => ?_
    rw [hev] at e
    obtain ⟨⟨x, μ1⟩, e1, e⟩ := Option.bind_eq_some_iff.mp e
    refine ⟨env, μ, ι, B, B0, x, μ1, a, e1, fun v H1 ι1 n1 r1 => ?_⟩
    dsimp only at e
    split at e
    · cases e
      rw [r1.bl]
      exact ⟨_, _, rfl, rfl, KE.now (KE.back k n1) n1.s (.bl _)⟩
    · cases e
end
end DI
set_option Elab.async false
set_option linter.all false
set_option maxRecDepth 100000
/-! DI8: the rules of expressions: places, calls, built-ins, tests -/
namespace DI
open PySem PySem.Spec PyProof.Rows L2
section
variable {X : Cx} {e a b c : Expr} {es : List Expr} {ev ea eb ec : Ev → Mem → Option (D × Mem)} {evs evk : Ev → Mem → Option (List D × Mem)} {pos : Pos}
theorem r_neg (ha : PE X a (tA X.K ea)) (hev : ∀ env μ, ev env μ = (ea env μ).bind fun p => match p.1 with
    | .int i => some (.int (-i), p.2)
    | _ => none) : PE X (.UnaryOp .USub a pos) (tE X.K ev) :=
  PEcon (pe_un un_neg ha) fun σ H Q ⟨env, μ, ι, B, B0, d, μ', a, e, k⟩ => by
    rw [hev] at e
    obtain ⟨⟨x, μ1⟩, e1, e⟩ := Option.bind_eq_some_iff.mp e
    refine ⟨env, μ, ι, B, B0, x, μ1, a, e1, fun v H1 ι1 n1 r1 => ?_⟩
    dsimp only at e
    split at e
    · cases e
      rw [r1.int]
      exact ⟨_, rfl, KE.now (KE.back k n1) n1.s (.int _)⟩
    · cases e
theorem r_not (ha : PE X a (tA X.K ea)) (hev : ∀ env μ, ev env μ = (ea env μ).bind fun p => (truthD p.2 p.1).map fun b => (.bl (!b), p.2)) : PE X (.UnaryOp .Not a pos) (tE X.K ev) :=
  PEcon (pe_notT ha) fun σ H Q ⟨env, μ, ι, B, B0, d, μ', a, e, k⟩ => by
    rw [hev] at e
    obtain ⟨⟨x, μ1⟩, e1, e⟩ := Option.bind_eq_some_iff.mp e
    obtain ⟨b, e2, e3⟩ := Option.map_eq_some_iff.mp e
    cases e3
    exact ⟨env, μ, ι, B, B0, x, _, a, e1, fun v H1 ι1 n1 r1 => ⟨b, truth_val n1.s r1 e2, KE.now (KE.back k n1) n1.s (.bl _)⟩⟩
theorem r_dic0 (hev : ∀ env μ, ev env μ = some (.dic [], μ)) : PE X (.Dict [] [] pos) (tE X.K ev) :=
  PEcon pe_dnewK fun σ H Q ⟨env, μ, ι, B, B0, d, μ', a, e, k⟩ => by
    rw [hev] at e
    cases e
    intro p hp
    exact k _ _ ι ⟨Ext.laid a.s hp, Keep.laid a.s hp, a.s.laid hp⟩ (.dic0 (cut_of (fresh_not_held a.s hp) upd_same))
theorem r_rev {k : Nat} {p1 p2 p3 : Pos} (ha : PE X a (tA X.K ea)) (hev : ∀ env μ, ev env μ = (ea env μ).bind fun p => (seqV p.2 p.1).map fun xs => (.lst xs.reverse, p.2)) :
    PE X (.Subscript a (.Slice none none (some (.UnaryOp .USub (.Constant (.int 1) k p1) p2)) p3) pos) (tX X.K ev) :=
  PEcon (pe_revL ha) fun σ H Q ⟨env, μ, ι, B, B0, d, μ', a, e, k⟩ => by
    rw [hev] at e
    obtain ⟨⟨x, μ1⟩, e1, e⟩ := Option.bind_eq_some_iff.mp e
    obtain ⟨xs, e2, e3⟩ := Option.map_eq_some_iff.mp e
    cases e3
    refine ⟨env, μ, ι, B, B0, x, _, a, e1, fun v H1 ι1 n1 r1 => ?_⟩
    obtain ⟨p, vs, rfl, s1, q1⟩ := r1.seq n1.s e2
    exact ⟨p, vs, rfl, s1, fun l hl => KF.laid (KF.back k n1) n1.s hl q1.reverse⟩
/-! ### slices -/
def tO (K : PySem.W.Frag) (ev : Ev → Mem → Option (Option Int × Mem)) : TO := fun σ H Q => ∃ env μ ι B B0 o μ', At K H ι B B0 μ σ env ∧ ev env μ = some (o, μ') ∧ ∀ H' ι', Nx K H ι B H' ι' μ' → Q o H'
theorem POcon {e : Option Expr} {t t' : TO} (h : PO X e t) (i : ∀ σ H Q, t' σ H Q → t σ H Q) : PO X e t' := ⟨fun pins s σ H Q I w => h.run pins s σ H Q I (i σ H Q w)⟩
theorem pos_none : PO X none (tO X.K fun _ μ => some (none, μ)) := POcon po_none fun σ H Q ⟨env, μ, ι, B, B0, o, μ', a, e, k⟩ => by
  cases e
  exact k H ι (Nx.refl a.s)
theorem pos_some {eo : Ev → Mem → Option (Option Int × Mem)} (h : PE X e (tA X.K ea)) (hev : ∀ env μ, eo env μ = (ea env μ).bind fun p => match p.1 with
    | .int i => some (some i, p.2)
    | _ => none) : PO X (some e) (tO X.K eo) := POcon (po_some h) fun σ H Q ⟨env, μ, ι, B, B0, o, μ', a, e, k⟩ => by
  rw [hev] at e
  obtain ⟨⟨x, μ1⟩, e1, e⟩ := Option.bind_eq_some_iff.mp e
  refine ⟨env, μ, ι, B, B0, x, μ1, a, e1, fun v H1 ι1 n1 r1 => ?_⟩
  dsimp only at e
  split at e
  · cases e
    rw [r1.int]
    exact ⟨_, rfl, k _ _ n1⟩
  · cases e
theorem r_slc {lo hi : Option Expr} {p2 : Pos} {el eh : Ev → Mem → Option (Option Int × Mem)} (ha : PE X a (tA X.K ea)) (hl : PO X lo (tO X.K el)) (hh : PO X hi (tO X.K eh))
    (hev : ∀ env μ, ev env μ = (ea env μ).bind fun p => (el env p.2).bind fun q => (eh env q.2).bind fun r => (slcD r.2 p.1 q.1 r.1).map fun d => (d, r.2)) : PE X (.Subscript a (.Slice lo hi none p2) pos) (tX X.K ev) :=
  PEcon (pe_slice (SlR.or sl_list sl_tup) ha hl hh) fun σ H Q ⟨env, μ, ι, B, B0, d, μ', a, e, k⟩ => by
    rw [hev] at e
    obtain ⟨⟨x, μ1⟩, e1, e⟩ := Option.bind_eq_some_iff.mp e
    obtain ⟨⟨l, μ2⟩, e2, e⟩ := Option.bind_eq_some_iff.mp e
    obtain ⟨⟨h, μ3⟩, e3, e⟩ := Option.bind_eq_some_iff.mp e
    obtain ⟨z, e4, e5⟩ := Option.map_eq_some_iff.mp e
    cases e5
    refine ⟨env, μ, ι, B, B0, x, μ1, a, e1, fun v H1 ι1 n1 r1 => ⟨env, μ1, ι1, B, B0, l, μ2, a.nx n1, e2, fun H2 ι2 n2 => ⟨env, μ2, ι2, B, B0, h, _, (a.nx n1).nx n2, e3, fun H3 ι3 n3 => ?_⟩⟩⟩
    exact slc_val n3.s (n3.arg (n2.arg r1)) e4 (KX.back k ((n1.trans n2).trans n3))
/-! ### built-ins -/
theorem r_cb {r : List V → Hp → VK → Prop} {f : Expr} {F : Mem → List D → Option D} (ha : PA X es (tAs X.K evs)) (mk : ∀ {t : TA}, PA X es t → PE X f (tCB r t))
    (hev : ∀ env μ, ev env μ = (evs env μ).bind fun p => (F p.2 p.1).map fun d => (d, p.2))
    (val : ∀ (H : Hp) (ι : Cells) (B : List Addr) (μ : Mem) (vs : List V) (ds : List D) (d : D) (Q : VK), Sim X.K H ι B μ → RepAs X.K H ι B vs ds → F μ ds = some d → KX X.K H ι B μ d Q → r vs H Q) : PE X f (tX X.K ev) :=
  PEcon (mk ha) fun σ H Q ⟨env, μ, ι, B, B0, d, μ', a, e, k⟩ => by
    rw [hev] at e
    obtain ⟨⟨xs, μ1⟩, e1, e⟩ := Option.bind_eq_some_iff.mp e
    obtain ⟨z, e2, e3⟩ := Option.map_eq_some_iff.mp e
    cases e3
    exact ⟨env, μ, ι, B, B0, xs, _, a, e1, fun vs H1 ι1 n1 r1 => val _ _ _ _ _ _ _ _ n1.s r1 e2 (KX.back k n1)⟩
theorem r_bits {x : Str} {p0 apos : Pos} (ha : PE X (.Name x p0) (tA X.K ea)) (hl : (apos.endLine == pos.line) = true) (hev : ∀ env μ, ev env μ = (ea env μ).bind fun p => match p.1 with
    | .int i => some (.int (Builtin.Int.intBits i : Nat), p.2)
    | _ => none) : PE X (.Call (.Attribute (.Name x p0) "bit_length" apos) [] [] pos) (tE X.K ev) :=
  PEcon (pe_bits ha rfl hl) fun σ H Q ⟨env, μ, ι, B, B0, d, μ', a, e, k⟩ => by
    rw [hev] at e
    obtain ⟨⟨x, μ1⟩, e1, e⟩ := Option.bind_eq_some_iff.mp e
    refine ⟨env, μ, ι, B, B0, x, μ1, a, e1, fun v H1 ι1 n1 r1 => ?_⟩
    dsimp only at e
    split at e
    · cases e
      rw [r1.int]
      exact ⟨_, rfl, KE.now (KE.back k n1) n1.s (.int _)⟩
    · cases e
/-! ### isinstance -/
theorem boot_ty (t : Ty) : bootBuiltins (Str.ofString t.nm) = some (.type t.nm) := by cases t <;> decide +kernel
theorem nm_ne (t : Ty) : Str.ofString t.nm ≠ ("__name__" : Str) := by cases t <;> decide +kernel
theorem nm_db (t : Ty) : (Str.ofString t.nm == ("__debug__" : Str)) = false := by cases t <;> decide +kernel
theorem pe_ty {t : Ty} {p : Pos} (hg : Gl X (Str.ofString t.nm)) (hm : X.mg (Str.ofString t.nm) = none) : PE X (.Name (Str.ofString t.nm) p) (tC (.ty t.nm)) := pe_bltn hg hm (boot_ty t) rfl (nm_ne t) (nm_db t)
theorem r_isi1 {t : Ty} {p p1 : Pos} (ha : PE X a (tA X.K ea)) (hgi : Gl X "isinstance") (hmi : X.mg "isinstance" = none) (hg : Gl X (Str.ofString t.nm)) (hm : X.mg (Str.ofString t.nm) = none) (hs : noStar a = true)
    (hev : ∀ env μ, ev env μ = (ea env μ).bind fun p => if liveD p.2 p.1 then some (.bl ([t].any (isT p.1)), p.2) else none) : PE X (.Call (.Name "isinstance" p) [a, .Name (Str.ofString t.nm) p1] [] pos) (tE X.K ev) :=
  PEcon (pe_callB call_isi hgi hmi PyProof.Rows.boot_isinstance (pa_cons ha (pa_cons (pe_ty hg hm) pa_nil) (star_cons hs _ _)) (by decide) (by decide) (star_cons hs _ _) rfl) fun σ H Q ⟨env, μ, ι, B, B0, d, μ', a, e, k⟩ => by
    rw [hev] at e
    obtain ⟨⟨x, μ1⟩, e1, e⟩ := Option.bind_eq_some_iff.mp e
    split at e
    · rename_i c
      cases e
      refine ⟨env, μ, ι, B, B0, x, _, a, e1, fun v H1 ι1 n1 r1 => ⟨v, .ty t.nm, .type (tyNm x), .type t.nm, isT x t, rfl, .ty _, tyx_of n1.s r1 c, kit_ty (kit_all x t), ?_⟩⟩
      have z := KE.now (KE.back k n1) n1.s (.bl _)
      rw [List.any_cons, List.any_nil, Bool.or_false] at z
      exact z
    · cases e
theorem tys_pa : ∀ (ts : List Ty) (ps : List Pos), ts.length = ps.length → (∀ t, t ∈ ts → Gl X (Str.ofString t.nm) ∧ X.mg (Str.ofString t.nm) = none) →
    PA X ((ts.zip ps).map fun q => .Name (Str.ofString q.1.nm) q.2) (fun _ H Q => Q (ts.map fun t => V.ty t.nm) H)
  | [], [], _, _ => PAcon pa_nil fun σ H Q h => h
  | t :: ts, p :: ps, hl, h => PAcon (pa_cons (pe_ty (h t List.mem_cons_self).1 (h t List.mem_cons_self).2) (tys_pa ts ps (Nat.succ.inj hl) fun s hs => h s (List.mem_cons_of_mem _ hs)) rfl) fun σ H Q h => h
  | [], _ :: _, hl, _ => nomatch hl
  | _ :: _, [], hl, _ => nomatch hl
theorem r_isiT {ts : List Ty} {ps : List Pos} {p p1 : Pos} {k0 : Nat} (ha : PE X a (tA X.K ea)) (hgi : Gl X "isinstance") (hmi : X.mg "isinstance" = none) (hl : ts.length = ps.length)
    (ht : ∀ t, t ∈ ts → Gl X (Str.ofString t.nm) ∧ X.mg (Str.ofString t.nm) = none) (hs : noStar a = true) (hz : ts.length ≤ 10)
    (hev : ∀ env μ, ev env μ = (ea env μ).bind fun p => if liveD p.2 p.1 then some (.bl (ts.any (isT p.1)), p.2) else none) :
    PE X (.Call (.Name "isinstance" p) [a, .Tuple ((ts.zip ps).map fun q => .Name (Str.ofString q.1.nm) q.2) k0 p1] [] pos) (tE X.K ev) :=
  PEcon (pe_callB call_isiT hgi hmi PyProof.Rows.boot_isinstance (pa_cons ha (pa_cons (pe_tup (tys_pa ts ps hl ht)) pa_nil) (star_cons hs _ _)) (by decide) (by decide) (star_cons hs _ _) rfl) fun σ H Q ⟨env, μ, ι, B, B0, d, μ', a, e, k⟩ => by
    rw [hev] at e
    obtain ⟨⟨x, μ1⟩, e1, e⟩ := Option.bind_eq_some_iff.mp e
    split at e
    · rename_i c
      cases e
      refine ⟨env, μ, ι, B, B0, x, _, a, e1, fun v H1 ι1 n1 r1 => ⟨?_, fun q hq => ?_⟩⟩
      · rw [List.length_map]
        exact Nat.le_trans hz (by decide)
      · have n2 : Nx X.K H1 ι1 B (upd H1 q (.tup (ts.map fun t => V.ty t.nm))) ι1 _ := ⟨Ext.laid n1.s hq, Keep.laid n1.s hq, n1.s.laid hq⟩
        exact ⟨v, q, _, .type (tyNm x), _, _, rfl, upd_same, cls_all ts, tyx_of n2.s (n2.arg r1) c, kit_any x ts, KE.now (KE.back k (n1.trans n2)) n2.s (.bl _)⟩
    · cases e
/-! ### tests -/
theorem pt_of (ha : PE X e (tA X.K ea)) {et : Ev → Mem → Option (Bool × Mem)} (he : ∀ whole, isTrue e X.env whole = (do let v ← whole; standAt e.pos; holding [v] (truthy v)))
    (hev : ∀ env μ, et env μ = (ea env μ).bind fun p => (truthD p.2 p.1).map fun b => (b, p.2)) : PT X e (tB X.K et) :=
  PTcon (pt_truth ha he) fun σ H Q ⟨env, μ, ι, B, B0, b, μ', a, e, k⟩ => by
    rw [hev] at e
    obtain ⟨⟨x, μ1⟩, e1, e⟩ := Option.bind_eq_some_iff.mp e
    obtain ⟨b', e2, e3⟩ := Option.map_eq_some_iff.mp e
    cases e3
    exact ⟨env, μ, ι, B, B0, x, _, a, e1, fun v H1 ι1 n1 r1 => ⟨b, truth_val n1.s r1 e2, k _ _ n1⟩⟩
theorem pt_cop {o : Cop} {et : Ev → Mem → Option (Bool × Mem)} (hu : X.A.units + 65 < cLine) (hm : behindInMarks (copOp o) b = false) (ha : PE X a (tA X.K ea)) (hb : PE X b (tA X.K eb))
    (hev : ∀ env μ, et env μ = (ea env μ).bind fun p => (eb env p.2).bind fun q => (cmpD q.2 o p.1 q.1).map fun d => (d, q.2)) : PT X (.Compare a [copOp o] [b] pos) (tB X.K et) :=
  PTcon (pt_cmpR (op_cop o hu) ha hb hm) fun σ H Q ⟨env, μ, ι, B, B0, d, μ', a, e, k⟩ => by
    rw [hev] at e
    obtain ⟨⟨x, μ1⟩, e1, e⟩ := Option.bind_eq_some_iff.mp e
    obtain ⟨⟨y, μ2⟩, e2, e⟩ := Option.bind_eq_some_iff.mp e
    obtain ⟨z, e3, e4⟩ := Option.map_eq_some_iff.mp e
    cases e4
    refine ⟨env, μ, ι, B, B0, x, μ1, a, e1, fun v H1 ι1 n1 r1 => ⟨env, μ1, ι1, B, B0, y, _, a.nx n1, e2, fun u H2 ι2 n2 r2 => ?_⟩⟩
    exact cop_val n2.s (n2.arg r1) r2 e3 ⟨_, rfl, k _ _ (n1.trans n2)⟩
theorem pt_isn {ng : Bool} {j : Nat} {p' : Pos} {et : Ev → Mem → Option (Bool × Mem)} (ha : PE X a (tA X.K ea)) (hev : ∀ env μ, et env μ = (ea env μ).bind fun p => match p.1 with
    | .non => some (!ng, p.2)
    | .ref _ => none
    | _ => some (ng, p.2)) : PT X (.Compare a [if ng then .IsNot else .Is] [.Constant .none j p'] pos) (tB X.K et) := by
  have go : ∀ (v : V) (x : D) (H : Hp) (ι : Cells) (B : List Addr), RepA X.K H ι B v x → x ≠ .non → (∀ n, x ≠ .ref n) → v ≠ .non := fun v x H ι B r h1 h2 e => by
    subst e
    cases r with
    | rep r =>
      cases r with
      | non => exact h1 rfl
      | ref _ _ => exact h2 _ rfl
  cases ng with
  | false =>
    refine PTcon (pt_cmpR op_isN ha pe_non (nomark _)) fun σ H Q ⟨env, μ, ι, B, B0, d, μ', a, e, k⟩ => ?_
    rw [hev] at e
    obtain ⟨⟨x, μ1⟩, e1, e⟩ := Option.bind_eq_some_iff.mp e
    refine ⟨env, μ, ι, B, B0, x, μ1, a, e1, fun v H1 ι1 n1 r1 => ⟨rfl, ?_⟩⟩
    dsimp only at e
    split at e
    · cases e
      rw [r1.non]
      exact ⟨_, rfl, k _ _ n1⟩
    · cases e
    · rename_i h1 h2
      cases e
      rw [decide_eq_false (go v x _ _ _ r1 (fun z => h1 z) fun n z => h2 n z)]
      exact ⟨_, rfl, k _ _ n1⟩
  | true =>
    refine PTcon (pt_cmpR op_notN ha pe_non (nomark _)) fun σ H Q ⟨env, μ, ι, B, B0, d, μ', a, e, k⟩ => ?_
    rw [hev] at e
    obtain ⟨⟨x, μ1⟩, e1, e⟩ := Option.bind_eq_some_iff.mp e
    refine ⟨env, μ, ι, B, B0, x, μ1, a, e1, fun v H1 ι1 n1 r1 => ⟨rfl, ?_⟩⟩
    dsimp only at e
    split at e
    · cases e
      rw [r1.non]
      exact ⟨_, rfl, k _ _ n1⟩
    · cases e
    · rename_i h1 h2
      cases e
      rw [decide_eq_false (go v x _ _ _ r1 (fun z => h1 z) fun n z => h2 n z)]
      exact ⟨_, rfl, k _ _ n1⟩
theorem pt_isb {ng k0 : Bool} {j : Nat} {p' : Pos} {et : Ev → Mem → Option (Bool × Mem)} (ha : PE X a (tA X.K ea)) (hev : ∀ env μ, et env μ = (ea env μ).bind fun p => match p.1 with
    | .bl b => some (if ng then !decide (b = k0) else decide (b = k0), p.2)
    | _ => none) : PT X (.Compare a [if ng then .IsNot else .Is] [.Constant (.bool k0) j p'] pos) (tB X.K et) := by
  cases ng with
  | false =>
    refine PTcon (pt_cmpR op_isBl ha pe_bl (nomark _)) fun σ H Q ⟨env, μ, ι, B, B0, d, μ', a, e, k⟩ => ?_
    rw [hev] at e
    obtain ⟨⟨x, μ1⟩, e1, e⟩ := Option.bind_eq_some_iff.mp e
    refine ⟨env, μ, ι, B, B0, x, μ1, a, e1, fun v H1 ι1 n1 r1 => ?_⟩
    dsimp only at e
    split at e
    · cases e
      rw [r1.bl]
      exact ⟨_, _, rfl, rfl, _, rfl, k _ _ n1⟩
    · cases e
  | true =>
    refine PTcon (pt_cmpR op_notBl ha pe_bl (nomark _)) fun σ H Q ⟨env, μ, ι, B, B0, d, μ', a, e, k⟩ => ?_
    rw [hev] at e
    obtain ⟨⟨x, μ1⟩, e1, e⟩ := Option.bind_eq_some_iff.mp e
    refine ⟨env, μ, ι, B, B0, x, μ1, a, e1, fun v H1 ι1 n1 r1 => ?_⟩
    dsimp only at e
    split at e
    · cases e
      rw [r1.bl]
      exact ⟨_, _, rfl, rfl, _, rfl, k _ _ n1⟩
    · cases e
theorem pt_not' {et ec : Ev → Mem → Option (Bool × Mem)} (ha : PT X a (tB X.K ec)) (hev : ∀ env μ, et env μ = (ec env μ).map fun p => (!p.1, p.2)) : PT X (.UnaryOp .Not a pos) (tB X.K et) :=
  PTcon (pt_not ha) fun σ H Q ⟨env, μ, ι, B, B0, b, μ', a, e, k⟩ => by
    rw [hev] at e
    obtain ⟨⟨x, μ1⟩, e1, e2⟩ := Option.map_eq_some_iff.mp e
    cases e2
    exact ⟨env, μ, ι, B, B0, x, _, a, e1, fun H1 ι1 n1 => k _ _ n1⟩
theorem PWcon {e : Expr} {t t' : TT} (h : PW X e t) (i : ∀ σ H Q, t' σ H Q → t σ H Q) : PW X e t' := ⟨fun wh pins s σ H Q I w => h.run wh pins s σ H Q I (i σ H Q w)⟩
theorem pw_and' {rest : List Expr} {et ta tb : Ev → Mem → Option (Bool × Mem)} (ha : PT X a (tB X.K ta)) (hb : PW X (.BoolOp .And (b :: rest) pos) (tB X.K tb))
    (hev : ∀ env μ q, et env μ = some q → ∃ p, ta env μ = some p ∧ if p.1 then tb env p.2 = some q else q = (false, p.2)) : PW X (.BoolOp .And (a :: b :: rest) pos) (tB X.K et) :=
  PWcon (pw_and ha hb) fun σ H Q ⟨env, μ, ι, B, B0, d, μ', a, e, k⟩ => by
    obtain ⟨⟨x, μ1⟩, e1, e2⟩ := hev _ _ _ e
    refine ⟨env, μ, ι, B, B0, x, μ1, a, e1, fun H1 ι1 n1 => ?_⟩
    cases x with
    | true => exact iteT ⟨env, μ1, ι1, B, B0, d, μ', a.nx n1, e2, fun H2 ι2 n2 => k H2 ι2 (n1.trans n2)⟩
    | false => cases e2; exact iteF (k _ _ n1)
theorem pw_or' {rest : List Expr} {et ta tb : Ev → Mem → Option (Bool × Mem)} (ha : PT X a (tB X.K ta)) (hb : PW X (.BoolOp .Or (b :: rest) pos) (tB X.K tb))
    (hev : ∀ env μ q, et env μ = some q → ∃ p, ta env μ = some p ∧ if p.1 then q = (true, p.2) else tb env p.2 = some q) : PW X (.BoolOp .Or (a :: b :: rest) pos) (tB X.K et) :=
  PWcon (pw_or ha hb) fun σ H Q ⟨env, μ, ι, B, B0, d, μ', a, e, k⟩ => by
    obtain ⟨⟨x, μ1⟩, e1, e2⟩ := hev _ _ _ e
    refine ⟨env, μ, ι, B, B0, x, μ1, a, e1, fun H1 ι1 n1 => ?_⟩
    cases x with
    | true => cases e2; exact iteT (k _ _ n1)
    | false => exact iteF ⟨env, μ1, ι1, B, B0, d, μ', a.nx n1, e2, fun H2 ι2 n2 => k H2 ι2 (n1.trans n2)⟩
end
end DI
set_option Elab.async false
set_option linter.all false
set_option maxRecDepth 100000
/-! DI9: targets, what is walked, comprehensions -/
namespace DI
open PySem PySem.Spec PyProof.Rows L2
mutual
theorem beq_eq : ∀ (a b : D), a.beq b = true → a = b
  | .non, b, h => by cases b <;> simp_all [D.beq]
  | .bl x, b, h => by cases b <;> simp_all [D.beq]
  | .int x, b, h => by cases b <;> simp_all [D.beq]
  | .str x, b, h => by cases b <;> simp_all [D.beq]
  | .tup xs, b, h => by
    cases b with
    | tup ys =>
      simp only [D.beq] at h
      rw [beqs_eq xs ys h]
    | _ => simp [D.beq] at h
  | .lst xs, b, h => by
    cases b with
    | lst ys =>
      simp only [D.beq] at h
      rw [beqs_eq xs ys h]
    | _ => simp [D.beq] at h
  | .dic x, b, h => by cases b <;> simp [D.beq] at h
  | .ref x, b, h => by cases b <;> simp_all [D.beq]
theorem beqs_eq : ∀ (a b : List D), D.beqs a b = true → a = b
  | [], b, h => by cases b <;> simp_all [D.beqs]
  | x :: xs, b, h => by
    cases b with
    | nil => simp [D.beqs] at h
    | cons y ys =>
      simp only [D.beqs, Bool.and_eq_true] at h
      rw [beq_eq x y h.1, beqs_eq xs ys h.2]
end
/-! ### slots -/
theorem wipe_get (σ : L2.St) (j : Nat) : ∀ vs : List Nat, (wipe σ vs)[j]? = if j ∈ vs ∧ j < σ.length then some none else σ[j]?
  | [] => by rw [if_neg (fun h => absurd h.1 (by simp))]; rfl
  | v :: vs => by
    have ih := wipe_get σ j vs
    unfold wipe
    by_cases hv : v = j
    · subst hv
      by_cases hl : v < σ.length
      · rw [List.getElem?_set_self (by rw [wipe_length]; exact hl), if_pos ⟨List.mem_cons_self, hl⟩]
      · rw [List.getElem?_eq_none (by rw [List.length_set, wipe_length]; omega), if_neg (fun h => hl h.2), List.getElem?_eq_none (by omega)]
    · rw [List.getElem?_set_ne hv, ih]
      by_cases h : j ∈ vs ∧ j < σ.length
      · rw [if_pos h, if_pos ⟨List.mem_cons_of_mem _ h.1, h.2⟩]
      · rw [if_neg h, if_neg fun q => h ⟨(List.mem_cons.mp q.1).resolve_left (fun e => hv e.symm), q.2⟩]
theorem wipeE_get (σ : Ev) (j : Nat) : ∀ vs : List Nat, (wipeE σ vs)[j]? = if j ∈ vs ∧ j < σ.length then some .un else σ[j]?
  | [] => by rw [if_neg (fun h => absurd h.1 (by simp))]; rfl
  | v :: vs => by
    have ih := wipeE_get σ j vs
    have hlen : ∀ us : List Nat, (wipeE σ us).length = σ.length := fun us => by
      induction us with
      | nil => rfl
      | cons u us ih => unfold wipeE; rw [List.length_set, ih]
    unfold wipeE
    by_cases hv : v = j
    · subst hv
      by_cases hl : v < σ.length
      · rw [List.getElem?_set_self (by rw [hlen]; exact hl), if_pos ⟨List.mem_cons_self, hl⟩]
      · rw [List.getElem?_eq_none (by rw [List.length_set, hlen]; omega), if_neg (fun h => hl h.2), List.getElem?_eq_none (by omega)]
    · rw [List.getElem?_set_ne hv, ih]
      by_cases h : j ∈ vs ∧ j < σ.length
      · rw [if_pos h, if_pos ⟨List.mem_cons_of_mem _ h.1, h.2⟩]
      · rw [if_neg h, if_neg fun q => h ⟨(List.mem_cons.mp q.1).resolve_left (fun e => hv e.symm), q.2⟩]
theorem wipeE_length (σ : Ev) (us : List Nat) : (wipeE σ us).length = σ.length := by
  induction us with
  | nil => rfl
  | cons u us ih => unfold wipeE; rw [List.length_set, ih]
theorem wipe_eq {σ τ : L2.St} {vs : List Nat} (hl : τ.length = σ.length) (h : ∀ j, j ∉ vs → τ[j]? = (wipe σ vs)[j]?) : wipe τ vs = wipe σ vs := by
  apply List.ext_getElem?
  intro j
  rw [wipe_get, wipe_get, hl]
  by_cases hj : j ∈ vs ∧ j < σ.length
  · rw [if_pos hj, if_pos hj]
  · rw [if_neg hj, if_neg hj]
    by_cases hm : j ∈ vs
    · have : ¬ j < σ.length := fun q => hj ⟨hm, q⟩
      rw [List.getElem?_eq_none (by omega), List.getElem?_eq_none (by omega)]
    · rw [h j hm, wipe_get, if_neg hj]
section
variable {K : PySem.W.Frag} {H H1 H' : Hp} {ι ι1 ι' : Cells} {B B0 B' : List Addr} {μ μ1 μ' : Mem} {σ : L2.St} {env : Ev} {v : V} {d : D}
theorem REnv.wipe (R : REnv K H ι B B0 σ env) (vs : List Nat) : REnv K H ι B B0 (wipe σ vs) (wipeE env vs) where
  len := by rw [wipeE_length, wipe_length]; exact R.len
  val := fun i d h => by
    rw [wipeE_get] at h
    split at h
    · cases h
    · rename_i c
      obtain ⟨v, e, r⟩ := R.val i d h
      refine ⟨v, ?_, r⟩
      rw [wipe_get, if_neg (by rw [← R.len]; exact c)]
      exact e
  own := fun i d h => by
    rw [wipeE_get] at h
    split at h
    · cases h
    · rename_i c
      obtain ⟨a, ws, e, r⟩ := R.own i d h
      refine ⟨a, ws, ?_, r⟩
      rw [wipe_get, if_neg (by rw [← R.len]; exact c)]
      exact e
  sep := fun i j ds es a h1 h2 h3 h4 => by
    rw [wipeE_get] at h1 h2
    rw [wipe_get] at h3 h4
    split at h1
    · cases h1
    · split at h2
      · cases h2
      · rename_i c1 c2
        rw [if_neg (by rw [← R.len]; exact c1)] at h3
        rw [if_neg (by rw [← R.len]; exact c2)] at h4
        exact R.sep i j ds es a h1 h2 h3 h4
theorem REnv.set (R : REnv K H ι B B0 σ env) (i : Nat) (r : Rep K (cut H ι B) ι v d) : REnv K H ι B B0 (σ.set i (some v)) (env.set i (.val d)) where
  len := by rw [List.length_set, List.length_set]; exact R.len
  val := fun j d' h => by
    by_cases hj : i = j
    · subst hj
      have hl : i < env.length := by
        have := (List.getElem?_eq_some_iff.mp h).1
        rw [List.length_set] at this
        exact this
      rw [List.getElem?_set_self hl] at h
      cases h
      exact ⟨v, List.getElem?_set_self (by rw [← R.len]; exact hl), r⟩
    · rw [List.getElem?_set_ne hj] at h ⊢
      exact R.val j d' h
  own := fun j d' h => by
    by_cases hj : i = j
    · subst hj
      have hl : i < env.length := by
        have := (List.getElem?_eq_some_iff.mp h).1
        rw [List.length_set] at this
        exact this
      rw [List.getElem?_set_self hl] at h
      cases h
    · rw [List.getElem?_set_ne hj] at h ⊢
      exact R.own j d' h
  sep := fun j k ds es a h1 h2 h3 h4 => by
    have ne : ∀ (j : Nat) (ds : List D), (env.set i (.val d))[j]? = some (.own ds) → i ≠ j := fun j ds h hj => by
      subst hj
      have hl : i < env.length := by
        have := (List.getElem?_eq_some_iff.mp h).1
        rw [List.length_set] at this
        exact this
      rw [List.getElem?_set_self hl] at h
      cases h
    have n1 := ne j ds h1
    have n2 := ne k es h2
    rw [List.getElem?_set_ne n1] at h1 h3
    rw [List.getElem?_set_ne n2] at h2 h4
    exact R.sep j k ds es a h1 h2 h3 h4
end
/-! ### targets -/
def tG (K : PySem.W.Frag) (g : MG) : TG := fun x σ H Q => ∃ env ι B B0 μ d env', At K H ι B B0 μ σ env ∧ Rep K (cut H ι B) ι x d ∧ bindG g d env = some env' ∧
  ∀ σ', At K H ι B B0 μ σ' env' → (∀ j, j ∉ g.slots → σ'[j]? = σ[j]?) → σ'.length = σ.length → Q σ' H
def tGs (K : PySem.W.Frag) (gs : List MG) : TGs := fun xs σ H Q => ∃ env ι B B0 μ ds env', At K H ι B B0 μ σ env ∧ Reps K (cut H ι B) ι xs ds ∧ bindGs gs ds env = some env' ∧
  ∀ σ', At K H ι B B0 μ σ' env' → (∀ j, j ∉ MG.slotss gs → σ'[j]? = σ[j]?) → σ'.length = σ.length → Q σ' H
section
variable {X : Cx} {pos : Pos}
theorem PGcon {e : Expr} {t t' : TG} (h : PG X e t) (i : ∀ v σ H Q, t' v σ H Q → t v σ H Q) : PG X e t' := ⟨fun pins s σ H v u Q I r w => h.run pins s σ H v u Q I r (i v σ H Q w)⟩
theorem PGscon {e : List Expr} {t t' : TGs} (h : PGs X e t) (i : ∀ v σ H Q, t' v σ H Q → t v σ H Q) : PGs X e t' := ⟨fun pins s σ H v u Q I r w => h.run pins s σ H v u Q I r (i v σ H Q w)⟩
theorem g_name {i : Nat} {x : Str} (hN : X.N.Nodup) (hi : X.N[i]? = some x) (hx : Loc X.env.scope x) (hf : X.fn x = true ∨ X.env.scope.names.lookup x = some .local) : PG X (.Name x pos) (tG X.K (.nm i)) :=
  PGcon (pg_name (i := i) hN hi hx hf) fun v σ H Q ⟨env, ι, B, B0, μ, d, env', a, r, e, k⟩ => by
    cases e
    refine k _ ⟨a.s, a.r.set i r⟩ (fun j hj => ?_) (List.length_set ..)
    exact List.getElem?_set_ne fun e => hj (by rw [e]; simp [MG.slots])
theorem g_nil : PGs X [] (tGs X.K []) := PGscon pgs_nil fun v σ H Q ⟨env, ι, B, B0, μ, ds, env', a, r, e, k⟩ => by
  cases r with
  | nil => cases e; exact ⟨rfl, k σ a (fun _ _ => rfl) rfl⟩
  | cons _ _ => simp [bindGs] at e
theorem g_cons {t : Expr} {ts : List Expr} {g : MG} {gs : List MG} (h1 : PG X t (tG X.K g)) (h2 : PGs X ts (tGs X.K gs)) (hs : (assignEach (t :: ts) X.env).map (·.2) = assign t X.env :: (assignEach ts X.env).map (·.2)) : PGs X (t :: ts) (tGs X.K (g :: gs)) :=
  PGscon (pgs_cons h1 h2 hs) fun v σ H Q ⟨env, ι, B, B0, μ, ds, env', a, r, e, k⟩ => by
    cases r with
    | nil => simp [bindGs] at e
    | cons r rr =>
      simp only [bindGs] at e
      obtain ⟨e1, h1, h2⟩ := Option.bind_eq_some_iff.mp e
      refine ⟨_, _, rfl, env, ι, B, B0, μ, _, e1, a, r, h1, fun σ1 a1 s1 l1 => ⟨e1, ι, B, B0, μ, _, env', a1, rr, h2, fun σ2 a2 s2 l2 => k σ2 a2 (fun j hj => ?_) (l2.trans l1)⟩⟩
      have hj' : j ∉ g.slots ∧ j ∉ MG.slotss gs := by
        simp only [MG.slotss, List.mem_append, not_or] at hj
        exact hj
      rw [s2 j hj'.2, s1 j hj'.1]
theorem g_tup {ts : List Expr} {gs : List MG} {k0 n : Nat} (hc : X.calm = true) (h : PGs X ts (tGs X.K gs)) (hn : (assignEach ts X.env).length = n) (hst : (assignEach ts X.env).findIdx? (·.1) = none) (hg : gs.length = n) :
    PG X (.Tuple ts k0 pos) (tG X.K (.tp gs)) :=
  PGcon (pg_tup hc h hn hst) fun v σ H Q ⟨env, ι, B, B0, μ, d, env', a, r, e, k⟩ => by
    cases d with
    | tup ds =>
      simp only [bindG] at e
      obtain ⟨p, vs, rfl, s, q⟩ := RepA.tup (.rep r)
      have ln : ∀ (gs : List MG) (ds : List D) (env env' : Ev), bindGs gs ds env = some env' → gs.length = ds.length := by
        intro gs
        induction gs with
        | nil =>
          intro ds env env' h
          cases ds with
          | nil => rfl
          | cons _ _ => simp [bindGs] at h
        | cons g gs ih =>
          intro ds env env' h
          cases ds with
          | nil => simp [bindGs] at h
          | cons d ds =>
            simp only [bindGs] at h
            obtain ⟨e1, _, h2⟩ := Option.bind_eq_some_iff.mp h
            rw [List.length_cons, List.length_cons, ih ds e1 env' h2]
      refine ⟨p, vs, rfl, s, ?_, env, ι, B, B0, μ, ds, env', a, q, e, fun σ' a' s' l' => k σ' a' (fun j hj => s' j ?_) l'⟩
      · rw [q.length, ← ln gs ds env env' e, hg]
      · intro q'
        exact hj (by simp only [MG.slots]; exact q')
    | _ => simp [bindG] at e
end
/-! ### what is walked -/
structure IW (K : PySem.W.Frag) (J : It) (ds : List D) (good : Hp → Cells → List Addr → Prop) : Prop where
  goes : ∀ i H ι B, i < ds.length → good H ι B → J.go i H
  stops : ∀ H ι B, good H ι B → J.stop ds.length H
  yields : ∀ i H ι B μ x H', i < ds.length → Sim K H ι B μ → good H ι B → J.yld i H x H' → ∃ d, ds[i]? = some d ∧ Nx K H ι B H' ι μ ∧ Rep K (cut H' ι B) ι x d
def Later (K : PySem.W.Frag) (H1 : Hp) (ι1 : Cells) (B : List Addr) (lk : List Lk) (P : Hp → Cells → List Addr → Prop) : Prop :=
  P H1 ι1 B ∧ ∀ H' ι' B' env' μ', Ext H1 ι1 B H' ι' B' → (Keep B H1 H' ∨ lk.all Lk.isCell = true) → Sim K H' ι' B' μ' → lk.all (Lk.ok env' μ') = true → P H' ι' B'
def tI (K : PySem.W.Frag) (ev : Ev → Mem → Option ((List D × List Lk) × Mem)) : TI := fun σ H R => ∃ env μ ι B B0 ds lk μ', At K H ι B B0 μ σ env ∧ ev env μ = some ((ds, lk), μ') ∧
  ∀ J H1 ι1 good, Nx K H ι B H1 ι1 μ' → IW K J ds good → Later K H1 ι1 B lk good → R J H1
def goodL (K : PySem.W.Frag) (a : Addr) (ds : List D) (H : Hp) (ι : Cells) (B : List Addr) : Prop := ∃ vs, SqL K H a vs ∧ Reps K (cut H ι B) ι vs ds
def goodT (K : PySem.W.Frag) (a : Addr) (ds : List D) (H : Hp) (ι : Cells) (B : List Addr) : Prop := ∃ vs, SqT K H a vs ∧ Reps K (cut H ι B) ι vs ds
section
variable {K : PySem.W.Frag} {H H1 H' : Hp} {ι ι1 ι' : Cells} {B B0 B' : List Addr} {μ μ1 μ' : Mem} {σ : L2.St} {env : Ev} {v : V} {d : D} {ds : List D} {a : Addr} {lk lk' : List Lk} {P : Hp → Cells → List Addr → Prop}
theorem iw_list : IW K (Itl K a) ds (goodL K a ds) where
  goes := fun i H ι B hi ⟨vs, s, r⟩ => by
    have hi' : i < vs.length := by rw [r.length]; exact hi
    exact ⟨vs, vs[i], s, List.getElem?_eq_getElem hi'⟩
  stops := fun H ι B ⟨vs, s, r⟩ => ⟨vs, s, by rw [r.length]; exact Nat.le_refl _⟩
  yields := fun i H ι B μ x H' hi S ⟨vs, s, r⟩ y => by
    obtain ⟨e, y⟩ := y
    subst e
    obtain ⟨d, e1, r1⟩ := r.getV (y vs s)
    exact ⟨d, e1, Nx.refl S, r1⟩
theorem iw_tup : IW K (Itt K a) ds (goodT K a ds) where
  goes := fun i H ι B hi ⟨vs, s, r⟩ => by
    have hi' : i < vs.length := by rw [r.length]; exact hi
    exact ⟨vs, vs[i], s, List.getElem?_eq_getElem hi'⟩
  stops := fun H ι B ⟨vs, s, r⟩ => ⟨vs, s, by rw [r.length]; exact Nat.le_refl _⟩
  yields := fun i H ι B μ x H' hi S ⟨vs, s, r⟩ y => by
    obtain ⟨e, y⟩ := y
    subst e
    obtain ⟨d, e1, r1⟩ := r.getV (y vs s)
    exact ⟨d, e1, Nx.refl S, r1⟩
theorem iw_range {lo hi : Int} : IW K (Itr lo (hi - lo).toNat) (rangeD lo hi) (fun _ _ _ => True) := by
  have hl : (rangeD lo hi).length = (hi - lo).toNat := by unfold rangeD; rw [List.length_map, List.length_range]
  refine ⟨fun i H ι B h _ => by rw [hl] at h; exact h, fun _ _ _ _ => by rw [hl]; exact Nat.le_refl _, fun i H ι B μ x H' h S _ y => ?_⟩
  obtain ⟨e, y⟩ := y
  subst e y
  rw [hl] at h
  refine ⟨.int (lo + i), ?_, Nx.refl S, .int _⟩
  unfold rangeD
  rw [List.getElem?_map, List.getElem?_range h]
  rfl
/-- a pair just laid -/
theorem pair_laid {T : Addr} {x y : V} {dx dy : D} (S : Sim K H ι B μ) (hT : H T = none) (rx : Rep K (cut H ι B) ι x dx) (ry : Rep K (cut H ι B) ι y dy) :
    Nx K H ι B (upd H T (.tup [x, y])) ι μ ∧ Rep K (cut (upd H T (.tup [x, y])) ι B) ι (.ref T) (.tup [dx, dy]) := by
  have n : Nx K H ι B (upd H T (.tup [x, y])) ι μ := ⟨Ext.laid S hT, Keep.laid S hT, S.laid hT⟩
  exact ⟨n, .tup (.inl (.inl (cut_of (fresh_not_held S hT) upd_same))) (.cons (n.rep rx) (.cons (n.rep ry) .nil))⟩
theorem zip_get : ∀ (xs ys : List D) (i : Nat) (x y : D), xs[i]? = some x → ys[i]? = some y → (zipD xs ys)[i]? = some (.tup [x, y])
  | x :: xs, y :: ys, 0, a, b, h1, h2 => by
    simp only [List.getElem?_cons_zero, Option.some.injEq] at h1 h2
    subst h1 h2
    rfl
  | x :: xs, y :: ys, i + 1, a, b, h1, h2 => by
    rw [List.getElem?_cons_succ] at h1 h2
    simp only [zipD, List.getElem?_cons_succ]
    exact zip_get xs ys i a b h1 h2
  | [], _, _, _, _, h, _ => by simp at h
  | _ :: _, [], _, _, _, _, h => by simp at h
theorem zip_len : ∀ (xs ys : List D), (zipD xs ys).length = min xs.length ys.length
  | x :: xs, y :: ys => by
    simp only [zipD, List.length_cons, zip_len xs ys]
    omega
  | [], ys => by simp [zipD]
  | _ :: _, [] => by simp [zipD]
theorem iw_zip {b : Addr} {es : List D} : IW K (Itz K a b) (zipD ds es) (fun H ι B => goodL K a ds H ι B ∧ goodL K b es H ι B) where
  goes := fun i H ι B hi ⟨⟨vs, s, r⟩, ⟨us, s2, r2⟩⟩ => by
    rw [zip_len] at hi
    have h1 : i < vs.length := by rw [r.length]; omega
    have h2 : i < us.length := by rw [r2.length]; omega
    exact ⟨vs, us, vs[i], us[i], s, s2, List.getElem?_eq_getElem h1, List.getElem?_eq_getElem h2⟩
  stops := fun H ι B ⟨⟨vs, s, r⟩, ⟨us, s2, r2⟩⟩ => ⟨vs, us, s, s2, by rw [zip_len, r.length, r2.length]; omega⟩
  yields := fun i H ι B μ x H' hi S ⟨⟨vs, s, r⟩, ⟨us, s2, r2⟩⟩ y => by
    obtain ⟨T, x1, y1, e, hT, e2, y1', y2'⟩ := y
    subst e e2
    obtain ⟨d1, h1, q1⟩ := r.getV (y1' vs s)
    obtain ⟨d2, h2, q2⟩ := r2.getV (y2' us s2)
    obtain ⟨n, q⟩ := pair_laid S hT q1 q2
    exact ⟨_, zip_get _ _ i _ _ h1 h2, n, q⟩
theorem iw_zipT {b : Addr} {es : List D} : IW K (RZ.ItzT K a b) (zipD ds es) (fun H ι B => goodT K a ds H ι B ∧ goodT K b es H ι B) where
  goes := fun i H ι B hi ⟨⟨vs, s, r⟩, ⟨us, s2, r2⟩⟩ => by
    rw [zip_len] at hi
    have h1 : i < vs.length := by rw [r.length]; omega
    have h2 : i < us.length := by rw [r2.length]; omega
    exact ⟨vs, us, vs[i], us[i], s, s2, List.getElem?_eq_getElem h1, List.getElem?_eq_getElem h2⟩
  stops := fun H ι B ⟨⟨vs, s, r⟩, ⟨us, s2, r2⟩⟩ => ⟨vs, us, s, s2, by rw [zip_len, r.length, r2.length]; omega⟩
  yields := fun i H ι B μ x H' hi S ⟨⟨vs, s, r⟩, ⟨us, s2, r2⟩⟩ y => by
    obtain ⟨T, x1, y1, e, hT, e2, y1', y2'⟩ := y
    subst e e2
    obtain ⟨d1, h1, q1⟩ := r.getV (y1' vs s)
    obtain ⟨d2, h2, q2⟩ := r2.getV (y2' us s2)
    obtain ⟨n, q⟩ := pair_laid S hT q1 q2
    exact ⟨_, zip_get _ _ i _ _ h1 h2, n, q⟩
theorem enum_get : ∀ (xs : List D) (k i : Nat) (x : D), xs[i]? = some x → (enumD k xs)[i]? = some (.tup [.int ((k + i : Nat) : Int), x])
  | x :: xs, k, 0, a, h => by
    simp only [List.getElem?_cons_zero, Option.some.injEq] at h
    subst h
    rfl
  | x :: xs, k, i + 1, a, h => by
    rw [List.getElem?_cons_succ] at h
    simp only [enumD, List.getElem?_cons_succ]
    rw [enum_get xs (k + 1) i a h, Nat.add_right_comm, Nat.add_assoc]
  | [], _, _, _, h => by simp at h
theorem enum_len : ∀ (xs : List D) (k : Nat), (enumD k xs).length = xs.length
  | [], _ => rfl
  | x :: xs, k => by simp only [enumD, List.length_cons, enum_len xs]
theorem iw_enum : IW K (Ite K a) (enumD 0 ds) (goodL K a ds) where
  goes := fun i H ι B hi ⟨vs, s, r⟩ => by
    rw [enum_len] at hi
    have hi' : i < vs.length := by rw [r.length]; exact hi
    exact ⟨vs, vs[i], s, List.getElem?_eq_getElem hi'⟩
  stops := fun H ι B ⟨vs, s, r⟩ => ⟨vs, s, by rw [r.length, enum_len]; exact Nat.le_refl _⟩
  yields := fun i H ι B μ x H' hi S ⟨vs, s, r⟩ y => by
    obtain ⟨T, x1, e, hT, e2, y1'⟩ := y
    subst e e2
    obtain ⟨d1, h1, q1⟩ := r.getV (y1' vs s)
    obtain ⟨n, q⟩ := pair_laid S hT (.int (i : Nat)) q1
    have z := enum_get ds 0 i d1 h1
    rw [Nat.zero_add] at z
    exact ⟨_, z, n, q⟩
/-- a frozen list, or a cell -/
theorem later_rep (S : Sim K H1 ι1 B μ1) (r : Rep K (cut H1 ι1 B) ι1 v d) (e : seqV μ1 d = some ds) (m : ME) (hm : ∀ i, m ≠ .ovar i) : ∃ a, v = .ref a ∧ Later K H1 ι1 B (lockOf μ1 m d) (goodL K a ds) := by
  obtain ⟨a, vs, ev, s, q⟩ := RepA.seq S (.rep r) e
  refine ⟨a, ev, ⟨vs, s, q⟩, fun H' ι' B' env' μ' x _ S' ok => ?_⟩
  cases d with
  | lst es =>
    cases e
    cases r with
    | lst s' r' =>
      cases ev
      exact ⟨_, sqL_cut (x.fr.seq s'), r'.up x.up⟩
  | ref n =>
    have e' : (μ1[n]?).join = some ds := e
    cases h1 : μ1[n]? with
    | none => rw [h1] at e'; cases e'
    | some y =>
      rw [h1] at e'
      have e2 : y = some ds := e'
      rw [e2] at h1
      have lk : lockOf μ1 m (.ref n) = [.cell n ds] := by
        unfold lockOf
        cases m <;> simp [h1]
      rw [lk] at ok
      simp only [List.all_cons, List.all_nil, Bool.and_true, Lk.ok] at ok
      split at ok
      · rename_i es h2
        have z := beqs_eq _ _ ok
        subst z
        obtain ⟨a1, us1, f1, f2, f3⟩ := S.cell n es h1
        obtain ⟨a2, us2, g1, g2, g3⟩ := S'.cell n es h2
        obtain ⟨x', c1, c2⟩ := x.cells n _ f1
        rw [g1] at c1
        cases c1
        rcases c2 with c2 | c2
        · cases c2
        · cases c2
          have ea : a = a1 := by
            cases r with
            | ref k1 k2 =>
              rw [f1] at k1
              cases k1
              have := k2 a1 rfl
              rw [ev] at this
              cases this
              rfl
          subst ea
          exact ⟨us2, SqL.of g2, g3⟩
      · cases ok
  | _ => cases e
theorem later_own {i : Nat} (r : RepA K H1 ι1 B v (.lst ds)) (S : Sim K H1 ι1 B μ1) : ∃ a, v = .ref a ∧ Later K H1 ι1 B [.own i ds] (goodL K a ds) := by
  cases r with
  | rep r =>
    cases r with
    | lst s r => exact ⟨_, rfl, ⟨_, sqL_cut s, r⟩, fun H' ι' B' env' μ' x _ S' ok => ⟨_, sqL_cut (x.fr.seq s), r.up x.up⟩⟩
  | own b h r =>
    refine ⟨_, rfl, ⟨_, SqL.of h, r⟩, fun H' ι' B' env' μ' x kk S' ok => ?_⟩
    rcases kk with kk | kk
    · exact ⟨_, SqL.of (by rw [kk _ b]; exact h), r.up x.up⟩
    · cases kk
theorem later_tup (S : Sim K H1 ι1 B μ1) (r : RepA K H1 ι1 B v (.tup ds)) : ∃ a, v = .ref a ∧ Later K H1 ι1 B lk (goodT K a ds) := by
  cases r with
  | rep r =>
    cases r with
    | tup s r =>
      refine ⟨_, rfl, ⟨_, sqT_cut s, r⟩, fun H' ι' B' env' μ' x _ S' ok => ⟨_, ?_, r.up x.up⟩⟩
      refine sqT_cut (ι := ι') (B := B') ?_
      rcases s with (s | ⟨o, s⟩) | s
      · exact .inl (.inl (x.fr _ _ s))
      · exact .inl (.inr ⟨o, x.fr _ _ s⟩)
      · exact .inr s
/-- of any argument -/
theorem later_seq (S : Sim K H1 ι1 B μ1) (m : ME) (r : RepA K H1 ι1 B v d) (hr : (∀ i, m ≠ .ovar i) → Rep K (cut H1 ι1 B) ι1 v d) (ho : ∀ i, m = .ovar i → ∃ ds, d = .lst ds) (e : seqV μ1 d = some ds) :
    ∃ a, v = .ref a ∧ Later K H1 ι1 B (lockOf μ1 m d) (goodL K a ds) := by
  by_cases hm : ∃ i, m = .ovar i
  · obtain ⟨i, rfl⟩ := hm
    obtain ⟨es, rfl⟩ := ho i rfl
    cases e
    exact later_own r S
  · exact later_rep S (hr fun i q => hm ⟨i, q⟩) e m fun i q => hm ⟨i, q⟩
theorem Later.both {P' : Hp → Cells → List Addr → Prop} (a : Later K H1 ι1 B lk P) (b : Later K H1 ι1 B lk' P') : Later K H1 ι1 B (lk ++ lk') (fun H ι B => P H ι B ∧ P' H ι B) := by
  refine ⟨⟨a.1, b.1⟩, fun H' ι' B' env' μ' x kk S' ok => ?_⟩
  rw [List.all_append, Bool.and_eq_true] at ok
  refine ⟨a.2 H' ι' B' env' μ' x ?_ S' ok.1, b.2 H' ι' B' env' μ' x ?_ S' ok.2⟩
  · rcases kk with kk | kk
    · exact .inl kk
    · rw [List.all_append, Bool.and_eq_true] at kk; exact .inr kk.1
  · rcases kk with kk | kk
    · exact .inl kk
    · rw [List.all_append, Bool.and_eq_true] at kk; exact .inr kk.2
/-- .. and its address has moved on a little -/
theorem Later.nx {H2 : Hp} {ι2 : Cells} {μ2 : Mem} {env2 : Ev} (a : Later K H1 ι1 B lk P) (n : Nx K H1 ι1 B H2 ι2 μ2) (ok : lk.all (Lk.ok env2 μ2) = true) : Later K H2 ι2 B lk P :=
  ⟨a.2 H2 ι2 B env2 μ2 n.x (.inl n.k) n.s ok, fun H' ι' B' env' μ' x kk S' ok' => a.2 H' ι' B' env' μ' (n.x.trans x) (kk.imp_left fun k => n.k.trans k) S' ok'⟩
end
end DI
set_option Elab.async false
set_option linter.all false
set_option maxRecDepth 100000
/-! DI10: walks by the language, comprehensions -/
namespace DI
open PySem PySem.Spec PyProof.Rows L2
def tSr (K : PySem.W.Frag) (own : Bool) (ev : Ev → Mem → Option (D × Mem)) : TE := fun σ H Q => ∃ env μ ι B B0 d μ', At K H ι B B0 μ σ env ∧ ev env μ = some (d, μ') ∧
  ∀ v H' ι', Nx K H ι B H' ι' μ' → RepA K H' ι' B v d → (own = false → Rep K (cut H' ι' B) ι' v d) → Q v H'
section
variable {X : Cx} {e e2 tg iter elt : Expr} {ea eb ev : Ev → Mem → Option (D × Mem)} {evs : Ev → Mem → Option (List D × Mem)} {pos p : Pos} {own own2 f f2 : Bool} {evi : Ev → Mem → Option ((List D × List Lk) × Mem)}
theorem SE.sr (h : SE X own f e ea) : PE X e (tSr X.K own ea) := by
  cases own with
  | true => exact PEcon h.fa fun σ H Q ⟨env, μ, ι, B, B0, d, μ', a, e, k⟩ => ⟨env, μ, ι, B, B0, d, μ', a, e, fun v H' ι' n r => k v H' ι' n r fun z => nomatch z⟩
  | false => exact PEcon (h.fe rfl) fun σ H Q ⟨env, μ, ι, B, B0, d, μ', a, e, k⟩ => ⟨env, μ, ι, B, B0, d, μ', a, e, fun v H' ι' n r => k v H' ι' n (.rep r) fun _ => r⟩
theorem PIcon {t t' : TI} (h : PI X tg e t) (i : ∀ σ H R, t' σ H R → t σ H R) : PI X tg e t' := ⟨fun pins s σ H R I w => h.run pins s σ H R I (i σ H R w)⟩
/-- a list or a tuple -/
def iSeq (K : PySem.W.Frag) (tl : TE) : TI := fun σ H R => tl σ H fun x H1 => ∃ a, x = .ref a ∧ (((∃ xs, SqL K H1 a xs) ∧ R (Itl K a) H1) ∨ ((∃ xs, SqT K H1 a xs) ∧ R (Itt K a) H1))
theorem pi_seq {tl : TE} (hl : PE X e tl) : PI X tg e (iSeq X.K tl) := by
  refine ⟨fun pins s σ H R I h => thn (hl.run pins s σ H _ I h) fun v s1 ⟨x, H1, I1, r1, a, ex, q⟩ => ?_⟩
  subst ex
  cases r1
  have new : ∀ {b : Addr}, b ∈ [s1.heap.objs.size] → FpOk X pins H1 b := fun {b} hb => by
    rw [List.mem_singleton] at hb
    rw [hb]
    exact I1.fpOk (Nat.le_refl _) I1.fresh
  rcases q with ⟨⟨xs, sq⟩, q⟩ | ⟨⟨xs, sq⟩, q⟩
  · obtain ⟨its, rv, pl, hz⟩ := I1.list sq
    exact wpAny_pyIter_list pl.isList ⟨_, _, _, _, H1, rfl, I1.kept (t' := s1.toks) fun b o z => Heap.get?_push_of_some _ z, turn_list a _, ⟨_, Heap.get?_push_size _ rfl, rfl, rfl⟩, fun b hb => new hb, q⟩
  · obtain ⟨its, rv, pt, hz⟩ := I1.tuple sq
    exact wpAny_pyIter_tuple (show s1.heap.IsTuple a its.toArray from pt) ⟨_, _, _, _, H1, rfl, I1.kept (t' := s1.toks) fun b o z => Heap.get?_push_of_some _ z, turn_tuple a _, ⟨_, Heap.get?_push_size _ rfl, rfl, rfl⟩, fun b hb => new hb, q⟩
theorem items_or {μ : Mem} {x : D} {ds : List D} (h : itemsD μ x = some ds) : x = .tup ds ∨ seqV μ x = some ds := by
  cases x with
  | tup xs => cases h; exact .inl rfl
  | _ => exact .inr h
theorem i_seq {m : ME} (h : SE X own f e ea) (ho : own = true → ∃ i, m = .ovar i) (ho2 : own = false → ∀ i, m ≠ .ovar i) (hov : ∀ i env μ d μ', m = .ovar i → ea env μ = some (d, μ') → ∃ ds, d = .lst ds)
    (hev : ∀ env μ, evi env μ = (ea env μ).bind fun p => (itemsD p.2 p.1).map fun ds => ((ds, lockOf p.2 m p.1), p.2)) : PI X tg e (tI X.K evi) :=
  PIcon (pi_seq h.sr) fun σ H R ⟨env, μ, ι, B, B0, ds, lk, μ', a, e, k⟩ => by
    rw [hev] at e
    obtain ⟨⟨x, μ1⟩, e1, e⟩ := Option.bind_eq_some_iff.mp e
    obtain ⟨ds', e2, e3⟩ := Option.map_eq_some_iff.mp e
    cases e3
    refine ⟨env, μ, ι, B, B0, x, _, a, e1, fun v H1 ι1 n1 r1 r2 => ?_⟩
    rcases items_or e2 with rfl | e4
    · obtain ⟨p, rfl, lt⟩ := later_tup (lk := lockOf μ1 m (.tup ds)) n1.s r1
      obtain ⟨vs, s1, _⟩ := lt.1
      exact ⟨p, rfl, .inr ⟨⟨vs, s1⟩, k _ H1 ι1 _ n1 iw_tup lt⟩⟩
    · obtain ⟨p, rfl, lt⟩ := later_seq n1.s m r1 (fun hm => r2 (by
        cases own with
        | false => rfl
        | true => obtain ⟨i, q⟩ := ho rfl; exact absurd q (hm i))) (fun i hi => hov i env μ x _ hi e1) e4
      obtain ⟨vs, s1, _⟩ := lt.1
      exact ⟨p, rfl, .inl ⟨⟨vs, s1⟩, k _ H1 ι1 _ n1 iw_list lt⟩⟩
theorem i_rng1 (hg : Gl X "range") (hm : X.mg "range" = none) (ha : PA X [e] (tAs X.K evs)) (hs : noStar e = true)
    (hev : ∀ env μ r, evi env μ = some r → ∃ j μ', evs env μ = some ([.int j], μ') ∧ rangeOk j = true ∧ r = ((rangeD 0 j, []), μ')) : PI X tg (.Call (.Name "range" p) [e] [] pos) (tI X.K evi) :=
  PIcon (pi_range1 hg hm ha (star_cons hs _ _)) fun σ H R ⟨env, μ, ι, B, B0, ds, lk, μ', a, e, k⟩ => by
    obtain ⟨j, μ1, e1, e2, e3⟩ := hev _ _ _ e
    cases e3
    refine ⟨env, μ, ι, B, B0, [.int j], _, a, e1, fun vs H1 ι1 n1 r1 => ?_⟩
    obtain ⟨v, rfl, r⟩ := RepAs.one r1
    unfold rangeOk at e2
    rw [Bool.and_eq_true, decide_eq_true_eq, decide_eq_true_eq] at e2
    rw [r.int]
    refine ⟨j, rfl, e2.1, e2.2, ?_⟩
    have z := k _ H1 ι1 _ n1 (iw_range (lo := 0) (hi := j)) ⟨trivial, fun _ _ _ _ _ _ _ _ _ => trivial⟩
    rw [Int.sub_zero] at z
    exact z
theorem i_rng2 (hg : Gl X "range") (hm : X.mg "range" = none) (ha : PA X [e, e2] (tAs X.K evs)) (hs : noStar e = true) (hs2 : noStar e2 = true)
    (hev : ∀ env μ r, evi env μ = some r → ∃ i j μ', evs env μ = some ([.int i, .int j], μ') ∧ rangeOk i = true ∧ rangeOk j = true ∧ r = ((rangeD i j, []), μ')) : PI X tg (.Call (.Name "range" p) [e, e2] [] pos) (tI X.K evi) :=
  PIcon (pi_range2 hg hm ha (by rw [star_cons hs, star_cons hs2]; rfl) (star_cons hs2 _ _)) fun σ H R ⟨env, μ, ι, B, B0, ds, lk, μ', a, e, k⟩ => by
    obtain ⟨i, j, μ1, e1, e2, e2', e3⟩ := hev _ _ _ e
    cases e3
    refine ⟨env, μ, ι, B, B0, [.int i, .int j], _, a, e1, fun vs H1 ι1 n1 r1 => ?_⟩
    obtain ⟨v, u, rfl, r, r'⟩ := RepAs.two r1
    unfold rangeOk at e2 e2'
    rw [Bool.and_eq_true, decide_eq_true_eq, decide_eq_true_eq] at e2 e2'
    rw [r.int, r'.int]
    exact ⟨i, j, rfl, ⟨e2.1, e2.2, e2'.1, e2'.2⟩, k _ H1 ι1 _ n1 iw_range ⟨trivial, fun _ _ _ _ _ _ _ _ _ => trivial⟩⟩
theorem ov_ok {m : ME} (ho : own = true → ∃ i, m = .ovar i) (hm : ∀ i, m ≠ .ovar i) : own = false := by
  cases own with
  | false => rfl
  | true => obtain ⟨i, q⟩ := ho rfl; exact absurd q (hm i)
theorem i_zip {m m2 : ME} {tpos : Pos} {elts : List Expr} {kk : Nat} (hg : Gl X "zip") (hm : X.mg "zip" = none) (h : SE X own f e ea) (h2 : SE X own2 f2 e2 eb) (hs : noStar e = true) (hs2 : noStar e2 = true)
    (ho : own = true → ∃ i, m = .ovar i) (ho2 : own2 = true → ∃ i, m2 = .ovar i)
    (hov : ∀ i env μ d μ', m = .ovar i → ea env μ = some (d, μ') → ∃ ds, d = .lst ds) (hov2 : ∀ i env μ d μ', m2 = .ovar i → eb env μ = some (d, μ') → ∃ ds, d = .lst ds)
    (hev : ∀ env μ, evi env μ = (ea env μ).bind fun p => (eb env p.2).bind fun q => match p.1, q.1 with
    | .tup xs, .tup ys => some ((zipD xs ys, []), q.2)
    | x, y => (seqV q.2 x).bind fun xs => (seqV q.2 y).map fun ys => ((zipD xs ys, lockOf q.2 m x ++ lockOf q.2 m2 y), q.2)) : PI X (.Tuple elts kk tpos) (.Call (.Name "zip" p) [e, e2] [] pos) (tI X.K evi) :=
  PIcon (RZ.pi_zipA hg hm (pa_cons h.sr (pa_cons h2.sr pa_nil (star_cons hs2 _ _)) (star_cons hs _ _)) (star_cons hs _ _) (star_any _ _ _ (by rw [List.all_cons, hs2]; rfl))) fun σ H R ⟨env, μ, ι, B, B0, ds, lk, μ', a, e, k⟩ => by
    rw [hev] at e
    obtain ⟨⟨x, μ1⟩, e1, e⟩ := Option.bind_eq_some_iff.mp e
    obtain ⟨⟨y, μ2⟩, e2, e⟩ := Option.bind_eq_some_iff.mp e
    refine ⟨env, μ, ι, B, B0, x, _, a, e1, fun v H1 ι1 n1 r1 r1' => ⟨env, μ1, ι1, B, B0, y, _, a.nx n1, e2, fun u H2 ι2 n2 r2 r2' => ?_⟩⟩
    have n12 := n1.trans n2
    dsimp only at e
    split at e
    · cases e
      obtain ⟨p1, rfl, lt1⟩ := later_tup (lk := []) n2.s (n2.arg r1)
      obtain ⟨p2, rfl, lt2⟩ := later_tup (lk := []) n2.s r2
      have z := k _ H2 ι2 _ n12 iw_zipT (Later.both lt1 lt2)
      obtain ⟨vs, s1, _⟩ := lt1.1
      obtain ⟨us, s2, _⟩ := lt2.1
      exact ⟨p1, p2, vs, us, rfl, .inr ⟨s1, s2, z⟩⟩
    · obtain ⟨xs, e3, e⟩ := Option.bind_eq_some_iff.mp e
      obtain ⟨ys, e4, e5⟩ := Option.map_eq_some_iff.mp e
      cases e5
      obtain ⟨p1, rfl, lt1⟩ := later_seq n2.s m (n2.arg r1) (fun hm => n2.rep (r1' (ov_ok ho hm))) (fun i hi => hov i env μ x _ hi e1) e3
      obtain ⟨p2, rfl, lt2⟩ := later_seq n2.s m2 r2 (fun hm => r2' (ov_ok ho2 hm)) (fun i hi => hov2 i env μ1 y _ hi e2) e4
      have z := k _ H2 ι2 _ n12 iw_zip (Later.both lt1 lt2)
      obtain ⟨vs, s1, _⟩ := lt1.1
      obtain ⟨us, s2, _⟩ := lt2.1
      exact ⟨p1, p2, vs, us, rfl, .inl ⟨s1, s2, z⟩⟩
theorem i_enum {m : ME} {tpos : Pos} {elts : List Expr} {kk : Nat} (hg : Gl X "enumerate") (hm : X.mg "enumerate" = none) (h : SE X own f e ea) (hs : noStar e = true) (ho : own = true → ∃ i, m = .ovar i)
    (hov : ∀ i env μ d μ', m = .ovar i → ea env μ = some (d, μ') → ∃ ds, d = .lst ds)
    (hev : ∀ env μ, evi env μ = (ea env μ).bind fun p => (seqV p.2 p.1).map fun ds => ((enumD 0 ds, lockOf p.2 m p.1), p.2)) : PI X (.Tuple elts kk tpos) (.Call (.Name "enumerate" p) [e] [] pos) (tI X.K evi) :=
  PIcon (pi_enum hg hm (pa_cons h.sr pa_nil (star_cons hs _ _)) (star_cons hs _ _)) fun σ H R ⟨env, μ, ι, B, B0, ds, lk, μ', a, e, k⟩ => by
    rw [hev] at e
    obtain ⟨⟨x, μ1⟩, e1, e⟩ := Option.bind_eq_some_iff.mp e
    obtain ⟨xs, e3, e4⟩ := Option.map_eq_some_iff.mp e
    cases e4
    refine ⟨env, μ, ι, B, B0, x, _, a, e1, fun v H1 ι1 n1 r1 r1' => ?_⟩
    obtain ⟨p1, rfl, lt1⟩ := later_seq n1.s m r1 (fun hm => r1' (ov_ok ho hm)) (fun i hi => hov i env μ x _ hi e1) e3
    have z := k _ H1 ι1 _ n1 iw_enum lt1
    obtain ⟨vs, s1, _⟩ := lt1.1
    exact ⟨p1, vs, rfl, s1, z⟩
/-! ### a comprehension -/
theorem cut_write {H : Hp} {ι : Cells} {B : List Addr} {a : Addr} {o : HO} (h : Held ι B a) : cut (upd H a o) ι B = cut H ι B := by
  funext b
  unfold cut
  by_cases hb : Held ι B b
  · rw [if_pos hb, if_pos hb]
  · rw [if_neg hb, if_neg hb]
    exact upd_ne fun e => hb (by rw [e]; exact h)
theorem Sim.write {K : PySem.W.Frag} {H : Hp} {ι : Cells} {B : List Addr} {μ : Mem} {a : Addr} {o : HO} (S : Sim K H ι B μ) (h : a ∈ B) : Sim K (upd H a o) ι B μ where
  len := S.len
  inj := S.inj
  apart := S.apart
  there := fun b hb => by
    have ne : b ≠ a := fun e => S.apart b hb (by rw [e]; exact h)
    rw [upd_ne ne]
    exact S.there b hb
  busy := fun b hb => by
    by_cases e : b = a
    · rw [e]; exact ⟨o, upd_same⟩
    · rw [upd_ne e]; exact S.busy b hb
  cell := fun n ds q => by
    obtain ⟨b, vs, e1, e2, r⟩ := S.cell n ds q
    have ne : b ≠ a := fun e => S.apart b (List.mem_of_getElem? e1) (by rw [e]; exact h)
    refine ⟨b, vs, e1, by rw [upd_ne ne]; exact e2, ?_⟩
    rw [cut_write (.inr h)]
    exact r
theorem Ext.write {H H' : Hp} {ι ι' : Cells} {B B' : List Addr} {a : Addr} {o : HO} (x : Ext H ι B H' ι' B') (h : a ∈ B') (he : H' a ≠ none) : Ext H ι B (upd H' a o) ι' B' where
  fr := by rw [cut_write (.inr h)]; exact x.fr
  cells := x.cells
  sub := x.sub
  dom := fun b hb => by
    by_cases e : b = a
    · rw [e, upd_same] at hb; cases hb
    · rw [upd_ne e] at hb; exact x.dom b hb
  new := x.new
def compEv (g : MG) (own : List Nat) (evi : Ev → Mem → Option ((List D × List Lk) × Mem)) (evc : Ev → Mem → Option (Bool × Mem)) (ee : Ev → Mem → Option (D × Mem)) (env : Ev) (μ : Mem) : Option (D × Mem) :=
  (evi env μ).bind fun p => if p.1.2.all (Lk.ok env p.2) then
      (compGo (fun x ν => (bindG g x (wipeE env own)).bind fun e1 => (evc e1 ν).bind fun c =>
          if c.1 then (ee e1 c.2).map fun q => (some q.1, q.2) else some (none, c.2))
        (fun ν => p.1.2.all (Lk.ok env ν)) p.1.1 p.2).bind fun r => if r.1.length ≤ sizeLine then some (.lst r.1, r.2) else none
      else none
theorem lc_read {K : PySem.W.Frag} {g : MG} {vs : List Nat} {evc : Ev → Mem → Option (Bool × Mem)} {ee : Ev → Mem → Option (D × Mem)} (hgs : ∀ j, j ∈ g.slots → j ∈ vs) {σ : L2.St} {H : Hp} {Q : VK}
    (h : tX K (compEv g vs evi evc ee) σ H Q) : tLc (tI K evi) (tG K g) (tB K evc) (tE K ee) vs σ H Q := by
  obtain ⟨env, μ, ι, B, B0, d, μ', a, e, k⟩ := h
  unfold compEv at e
  obtain ⟨⟨⟨ds, lk⟩, μ1⟩, e1, e⟩ := Option.bind_eq_some_iff.mp e
  dsimp only at e
  by_cases lk0 : lk.all (Lk.ok env μ1) = true
  case neg => rw [if_neg lk0] at e; cases e
  rw [if_pos lk0] at e
  obtain ⟨⟨tot, μ2⟩, e2, e⟩ := Option.bind_eq_some_iff.mp e
  dsimp only at e
  by_cases hz : tot.length ≤ sizeLine
  case neg => rw [if_neg hz] at e; cases e
  rw [if_pos hz] at e
  cases e
  refine ⟨env, μ, ι, B, B0, ds, lk, μ1, a, e1, fun J H1 ι1 good n1 iw lt L hL => ?_⟩
  have k1 := KF.back k n1
  have R1 := n1.renv a.r
  refine ⟨fun i m Hc => m = ds.length - i ∧ i ≤ ds.length ∧ ∃ ιc μc acc accd rest, Ext H1 ι1 B Hc ιc (L :: B) ∧ Keep B H1 Hc ∧ Sim K Hc ιc (L :: B) μc ∧ Hc L = some (.lst acc) ∧ Reps K (cut Hc ιc (L :: B)) ιc acc accd ∧
    compGo (fun x ν => (bindG g x (wipeE env vs)).bind fun e1 => (evc e1 ν).bind fun c => if c.1 then (ee e1 c.2).map fun q => (some q.1, q.2) else some (none, c.2)) (fun ν => lk.all (Lk.ok env ν)) (ds.drop i) μc = some (rest, μ') ∧
    accd ++ rest = tot ∧ good Hc ιc (L :: B), ⟨ds.length, by rw [Nat.sub_zero], Nat.zero_le _, ι1, μ1, [], [], tot, Ext.hold n1.s hL, Keep.laid n1.s hL, n1.s.hold hL, upd_same, .nil, e2, rfl,
      lt.2 _ _ _ env μ1 (Ext.hold n1.s hL) (.inl (Keep.laid n1.s hL)) (n1.s.hold hL) lk0⟩, ?_⟩
  rintro i m Hc ⟨rfl, hi, ιc, μc, acc, accd, rest, xc, kc, sc, hcL, rc, ec, et, gc⟩
  by_cases hlt : i < ds.length
  case neg =>
    have ei : i = ds.length := by omega
    subst ei
    refine .inl ⟨iw.stops _ _ _ gc, ?_⟩
    rw [List.drop_length] at ec
    simp only [compGo, Option.some.injEq, Prod.mk.injEq] at ec
    obtain ⟨er, em⟩ := ec
    subst er em
    rw [List.append_nil] at et
    subst et
    exact k1 L acc Hc ιc hL xc kc sc hcL rc
  refine .inr ⟨iw.goes i Hc ιc _ hlt gc, fun H' => ∃ ιc μc acc accd rest, Ext H1 ι1 B H' ιc (L :: B) ∧ Keep B H1 H' ∧ Sim K H' ιc (L :: B) μc ∧ H' L = some (.lst acc) ∧ Reps K (cut H' ιc (L :: B)) ιc acc accd ∧
    compGo (fun x ν => (bindG g x (wipeE env vs)).bind fun e1 => (evc e1 ν).bind fun c => if c.1 then (ee e1 c.2).map fun q => (some q.1, q.2) else some (none, c.2)) (fun ν => lk.all (Lk.ok env ν)) (ds.drop (i + 1)) μc = some (rest, μ') ∧
    accd ++ rest = tot ∧ good H' ιc (L :: B), fun H' w => ⟨ds.length - (i + 1), by omega, rfl, hlt, w⟩, fun x H' y => ?_⟩
  obtain ⟨dx, edx, n2, rx⟩ := iw.yields i Hc ιc _ μc x H' hlt sc gc y
  have edrop : ds.drop i = dx :: ds.drop (i + 1) := by
    have hx : ds[i]? = some ds[i] := List.getElem?_eq_getElem hlt
    rw [hx] at edx
    cases edx
    exact List.drop_eq_getElem_cons hlt
  rw [edrop] at ec
  simp only [compGo] at ec
  obtain ⟨⟨od, μ3⟩, es, ec⟩ := Option.bind_eq_some_iff.mp ec
  dsimp only at ec
  by_cases lk1 : lk.all (Lk.ok env μ3) = true
  case neg => rw [if_neg lk1] at ec; cases ec
  rw [if_pos lk1] at ec
  obtain ⟨⟨rest', μ4⟩, er, ec⟩ := Option.map_eq_some_iff.mp ec
  simp only [Prod.mk.injEq] at ec
  obtain ⟨ec1, ec2⟩ := ec
  subst ec2
  obtain ⟨env1, eb, es⟩ := Option.bind_eq_some_iff.mp es
  obtain ⟨⟨cb, μ5⟩, ecv, es⟩ := Option.bind_eq_some_iff.mp es
  have Rc : REnv K H' ιc (L :: B) B0 (wipe σ vs) (wipeE env vs) := (n2.renv (R1.ext xc kc)).wipe vs
  refine ⟨wipeE env vs, ιc, L :: B, B0, μc, dx, env1, ⟨n2.s, Rc⟩, rx, eb, fun σ' a' s' l' => ⟨?_, env1, μc, ιc, L :: B, B0, cb, μ5, a', ecv, fun H3 ι3 n3 => ?_⟩⟩
  · refine wipe_eq (by rw [l', wipe_length]) fun j hj => s' j fun q => hj (hgs j q)
  have n23 := n2.trans n3
  have xk : ∀ {H4 : Hp} {ι4 : Cells} {μ4 : Mem}, Nx K Hc ιc (L :: B) H4 ι4 μ4 → Ext H1 ι1 B H4 ι4 (L :: B) ∧ Keep B H1 H4 := fun n => ⟨xc.trans n.x, kc.trans (n.k.mono fun b hb => List.mem_cons_of_mem _ hb)⟩
  cases cb with
  | false =>
    refine iteF ?_
    dsimp only at es
    rw [if_neg Bool.false_ne_true] at es
    cases es
    obtain ⟨x3, k3⟩ := xk n23
    refine ⟨ι3, μ3, acc, accd, rest', x3, k3, n23.s, by rw [n23.k L List.mem_cons_self]; exact hcL, n23.reps rc, er, ?_, lt.2 _ _ _ env μ3 x3 (.inl k3) n23.s lk1⟩
    rw [← ec1] at et
    exact et
  | true =>
    refine iteT ?_
    dsimp only at es
    rw [if_pos rfl] at es
    obtain ⟨⟨q1, q2⟩, eq, es⟩ := Option.map_eq_some_iff.mp es
    cases es
    refine ⟨env1, μ5, ι3, L :: B, B0, q1, q2, a'.nx n3, eq, fun y H4 ι4 n4 ry => ?_⟩
    have n234 := n23.trans n4
    obtain ⟨x4, k4⟩ := xk n234
    have h4 : H4 L = some (.lst acc) := by rw [n234.k L List.mem_cons_self]; exact hcL
    have np : L ∉ B := fun q => by
      obtain ⟨o, ho⟩ := n1.s.busy L q
      rw [hL] at ho; cases ho
    have et' : accd ++ (q1 :: rest') = tot := by
      rw [← ec1] at et
      exact et
    refine ⟨acc, h4, ?_, ι4, q2, acc ++ [y], accd ++ [q1], rest', x4.write List.mem_cons_self (by rw [h4]; exact fun z => nomatch z), fun b hb => ?_, n234.s.write List.mem_cons_self, upd_same, ?_, er, by rw [List.append_assoc]; exact et', ?_⟩
    · rw [rc.length]
      have := congrArg List.length et'
      rw [List.length_append, List.length_cons] at this
      omega
    · rw [upd_ne fun z => np (by rw [← z]; exact hb)]
      exact k4 b hb
    · rw [cut_write (.inr List.mem_cons_self)]
      exact (n234.reps rc).append (.cons ry .nil)
    · refine lt.2 _ _ _ env q2 (x4.write List.mem_cons_self (by rw [h4]; exact fun z => nomatch z)) (.inl fun b hb => ?_) (n234.s.write List.mem_cons_self) lk1
      rw [upd_ne fun z => np (by rw [← z]; exact hb)]
      exact k4 b hb
end
end DI
set_option Elab.async false
set_option linter.all false
set_option maxRecDepth 100000
/-! DI11: scopes, calls of the text's defs -/
namespace DI
open PySem PySem.Spec PyProof.Rows L2
def kindB (sc : Scope) (p : NameKind → Bool) (x : Str) : Bool := match sc.names.lookup x with
  | some k => p k
  | none => false
def isVis : NameKind → Bool
  | .local | .cell | .free => true
  | _ => false
def isLoc : NameKind → Bool
  | .local | .cell => true
  | _ => false
def isGlo : NameKind → Bool
  | .globalImplicit => true
  | _ => false
/-- what a scope says holds where one stands -/
structure CxS (X : Cx) (sc : Scope) : Prop where
  vis : ∀ x, kindB sc isVis x = true → Vis X.env.scope x
  glo : ∀ x, kindB sc isGlo x = true → Gl X x
  loc : ∀ x, kindB sc isLoc x = true → Loc X.env.scope x ∧ (X.fn x = true ∨ X.env.scope.names.lookup x = some .local)
  one : ∀ x, sc.names.lookup x = some .local → X.env.scope.names.lookup x = some .local
  up : ∀ x, sc.names.lookup x = some .cell ∨ sc.names.lookup x = some .free → X.env.scope.names.lookup x = some .cell ∨ X.env.scope.names.lookup x = some .free
theorem kindB_some {sc : Scope} {p : NameKind → Bool} {x : Str} (h : kindB sc p x = true) : ∃ k, sc.names.lookup x = some k ∧ p k = true := by
  unfold kindB at h
  split at h
  · rename_i k e
    exact ⟨k, e, h⟩
  · cases h
theorem CxS.top {X : Cx} (hf : ∀ x, X.fn x = true) : CxS X X.env.scope where
  vis := fun x h => by
    obtain ⟨k, e, hk⟩ := kindB_some h
    cases k <;> first | (exact absurd hk (by decide)) | exact .inl e | exact .inr (.inl e) | exact .inr (.inr e)
  glo := fun x h => by
    obtain ⟨k, e, hk⟩ := kindB_some h
    cases k <;> first | (exact absurd hk (by decide)) | exact e
  loc := fun x h => by
    obtain ⟨k, e, hk⟩ := kindB_some h
    cases k <;> first | (exact absurd hk (by decide)) | exact ⟨.inl e, .inl (hf x)⟩ | exact ⟨.inr e, .inl (hf x)⟩
  one := fun _ h => h
  up := fun _ h => h
theorem relabel_get (env : Env) (x : Str) : ∀ names : List (Str × NameKind), (names.map fun (n, k) => if (k == NameKind.free && env.scope.kind == .function && env.kindOf n == some .cell) = true then (n, NameKind.cell) else (n, k)).lookup x =
    (names.lookup x).map fun k => if (k == NameKind.free && env.scope.kind == .function && env.kindOf x == some .cell) = true then .cell else k
  | [] => rfl
  | (n, k) :: r => by
    rw [List.map_cons]
    cases hx : x == n with
    | true =>
      have e : x = n := by simpa using hx
      subst e
      by_cases hc : (k == NameKind.free && env.scope.kind == .function && env.kindOf x == some .cell) = true
      · simp only [hc, if_true, List.lookup_cons, beq_self_eq_true, Option.map_some]
      · simp only [hc, List.lookup_cons, beq_self_eq_true, Option.map_some]
        simp
    | false =>
      by_cases hc : (k == NameKind.free && env.scope.kind == .function && env.kindOf n == some .cell) = true
      · simp only [hc, if_true, List.lookup_cons, hx]
        exact relabel_get env x r
      · simp only [hc, List.lookup_cons, hx]
        simp only [Bool.false_eq_true, if_false, List.lookup_cons, hx]
        exact relabel_get env x r
theorem CxS.blk {X : Cx} {sc scope : Scope} (h : CxS X sc) (s : Shared) (H : Hp) (C : Addr) (cl : List (Str × Addr)) (fp : List Addr) : CxS (X.blk s H scope (compEnvC scope cl C X.env) fp) scope := by
  have g : ∀ x, (compEnvC scope cl C X.env).scope.names.lookup x = (scope.names.lookup x).map fun k => if (k == NameKind.free && X.env.scope.kind == .function && X.env.kindOf x == some .cell) = true then .cell else k := fun x => relabel_get X.env x scope.names
  refine ⟨fun x hx => ?_, fun x hx => ?_, fun x hx => ?_, fun x hx => ?_, fun x hx => ?_⟩
  · obtain ⟨k, e, hk⟩ := kindB_some hx
    have z := g x
    rw [e, Option.map_some] at z
    split at z
    · exact .inr (.inl z)
    · cases k <;> first | (exact absurd hk (by decide)) | exact .inl z | exact .inr (.inl z) | exact .inr (.inr z)
  · obtain ⟨k, e, hk⟩ := kindB_some hx
    have z := g x
    rw [e, Option.map_some] at z
    cases k <;> first | (exact absurd hk (by decide)) | exact z
  · obtain ⟨k, e, hk⟩ := kindB_some hx
    have z := g x
    rw [e, Option.map_some] at z
    cases k
    case «local» => exact ⟨.inl z, .inr z⟩
    case cell => exact ⟨.inr z, .inl (show (scope.names.lookup x == some .cell) = true by rw [e]; rfl)⟩
    all_goals exact absurd hk (by decide)
  · have z := g x
    rw [hx, Option.map_some] at z
    exact z
  · have z := g x
    rcases hx with hx | hx
    · rw [hx, Option.map_some] at z
      exact .inl z
    · rw [hx, Option.map_some] at z
      split at z
      · exact .inl z
      · exact .inr z

/-! ### the text's defs -/
structure Kw where
  f : Nat
  ks : List Str
  np : Nat
  perm : List Nat
  deriving DecidableEq
structure Tab where
  T : List MF
  nm : List (Str × List Str)
  blt : List Str
  mods : List Str
  kw : List Kw
def spD (K : PySem.W.Frag) (C : Call) (f : Nat) (fr : Bool) : Sp := fun vs H Q _ => ∃ ds ι B μ d μ', Sim K H ι B μ ∧ Reps K (cut H ι B) ι vs ds ∧ C f ds μ = some (d, μ') ∧ (if fr = true then KX K H ι B μ' d Q else KE K H ι B μ' d Q)
structure CxE (Tb : Tab) (C : Call) (n : Nat) (X : Cx) : Prop where
  calm : X.calm = true
  nd : X.N.Nodup
  room : Room n X.A
  gd : X.A.guards = some []
  blt : ∀ x, x ∈ Tb.blt → X.mg x = none
  gcd : ∀ x, x ∈ Tb.mods → X.mg x = some (.builtin "math.gcd")
  fn : ∀ f m x ps, Tb.T[f]? = some m → Tb.nm[f]? = some (x, ps) → ∃ addr fd, X.mg x = some (.ref addr) ∧ PySem.W.keepIn X.K (.ref addr) = true ∧ Binds X.K fd ps [] ∧
    FnG X.prog X.w X.K X.mg X.base n addr fd ps (spD X.K C f m.fresh) ∧ ∀ q, q ∈ Tb.kw → q.f = f → KwB X.K fd ps q.ks q.np q.perm
theorem CxE.units {Tb : Tab} {C : Call} {n : Nat} {X : Cx} (h : CxE Tb C n X) : X.A.units + 65 < cLine := by
  have z := h.room.un
  omega
theorem CxE.blk {Tb : Tab} {C : Call} {n : Nat} {X : Cx} (h : CxE Tb C n X) (s : Shared) (H : Hp) (scope : Scope) (cenv : Env) (fp : List Addr) : CxE Tb C n (X.blk s H scope cenv fp) :=
  ⟨h.calm, h.nd, h.room, h.gd, h.blt, h.gcd, h.fn⟩
def freshF (T : List MF) (f : Nat) : Bool := match T[f]? with
  | some m => m.fresh
  | none => false
section
variable {X : Cx} {Tb : Tab} {C : Call} {n f : Nat} {m : MF} {x : Str} {ps : List Str} {e : Expr} {es : List Expr} {evs evk : Ev → Mem → Option (List D × Mem)} {ev : Ev → Mem → Option (D × Mem)} {p pos : Pos}
def tCl (K : PySem.W.Frag) (fr : Bool) (ev : Ev → Mem → Option (D × Mem)) : TE := fun σ H Q => ∃ env μ ι B B0 d μ', At K H ι B B0 μ σ env ∧ ev env μ = some (d, μ') ∧ (if fr = true then KX K H ι B μ' d Q else KE K H ι B μ' d Q)
theorem back_if {K : PySem.W.Frag} {H H1 : Hp} {ι ι1 : Cells} {B : List Addr} {μ1 μ' : Mem} {d : D} {Q : VK} {fr : Bool} (k : if fr = true then KX K H ι B μ' d Q else KE K H ι B μ' d Q) (n1 : Nx K H ι B H1 ι1 μ1) : if fr = true then KX K H1 ι1 B μ' d Q else KE K H1 ι1 B μ' d Q := by
  cases fr with
  | true => exact KX.back k n1
  | false => exact KE.back k n1
theorem SE.ofCl {o : Bool} {fr : Bool} (h : PE X e (tCl X.K fr ev)) : SE X o fr e ev := by
  cases fr with
  | true => exact SE.ofX h
  | false => exact SE.ofE h
theorem r_call (c : CxE Tb C n X) (hm : Tb.T[f]? = some m) (hn : Tb.nm[f]? = some (x, ps)) (hg : Gl X x) (hd : (x == ("__debug__" : Str)) = false) (ha : PA X es (tEs X.K evs)) (hs : es.all noStar = true)
    (hev : ∀ env μ, ev env μ = (evs env μ).bind fun p => C f p.1 p.2) (hz : ∀ env μ r, es = [] → evs env μ = some r → r = ([], μ)) : PE X (.Call (.Name x p) es [] pos) (tCl X.K m.fresh ev) := by
  obtain ⟨addr, fd, h1, h2, h3, h4, _⟩ := c.fn f m x ps hm hn
  match es, hs, ha, hz with
  | [], _, ha, hz =>
    refine PEcon (pe_callG0 h4 c.room c.gd hg h1 h2 h3 hd) fun σ H Q ⟨env, μ, ι, B, B0, d, μ', a, e, k⟩ => ?_
    rw [hev] at e
    obtain ⟨r, e1, e2⟩ := Option.bind_eq_some_iff.mp e
    have z := hz env μ r rfl e1
    subst z
    exact ⟨[], ι, B, μ, d, μ', a.s, .nil, e2, k⟩
  | e0 :: es, hs, ha, _ =>
    refine PEcon (pe_callG h4 c.room c.gd hg h1 h2 h3 ha hd hs) fun σ H Q ⟨env, μ, ι, B, B0, d, μ', a, e, k⟩ => ?_
    rw [hev] at e
    obtain ⟨⟨ds, μ1⟩, e1, e2⟩ := Option.bind_eq_some_iff.mp e
    refine ⟨env, μ, ι, B, B0, ds, μ1, a, e1, fun vs H1 ι1 n1 r1 => ⟨ds, ι1, B, μ1, d, μ', n1.s, ?_, e2, back_if k n1⟩⟩
    rw [List.append_nil]
    exact r1
/-! ### keywords -/
theorem PKcon {kws : List Keyword} {t t' : TA} (h : PK X kws t) (i : ∀ σ H Q, t' σ H Q → t σ H Q) : PK X kws t' := ⟨fun pos pins s σ H Q I w => h.run pos pins s σ H Q I (i σ H Q w)⟩
theorem pks_nil : PK X [] (tEs X.K fun _ μ => some ([], μ)) := PKcon pk_nil fun σ H Q ⟨env, μ, ι, B, B0, ds, μ', a, e, k⟩ => by
  cases e
  exact k [] H ι (Nx.refl a.s) .nil
theorem pks_cons {kws : List Keyword} {nm : Option Str} {kp : Pos} {ea : Ev → Mem → Option (D × Mem)} (ha : PE X e (tE X.K ea)) (hr : PK X kws (tEs X.K evs)) :
    PK X (⟨nm, e, kp⟩ :: kws) (tEs X.K fun env μ => (ea env μ).bind fun p => (evs env p.2).map fun q => (p.1 :: q.1, q.2)) :=
  PKcon (pk_cons ha hr) fun σ H Q ⟨env, μ, ι, B, B0, ds, μ', a, e, k⟩ => by
    obtain ⟨⟨x, μ1⟩, e1, e⟩ := Option.bind_eq_some_iff.mp e
    obtain ⟨⟨xs, μ2⟩, e2, e3⟩ := Option.map_eq_some_iff.mp e
    cases e3
    exact ⟨env, μ, ι, B, B0, x, μ1, a, e1, fun v H1 ι1 n1 r1 => ⟨env, μ1, ι1, B, B0, xs, _, a.nx n1, e2, fun vs H2 ι2 n2 r2 => k (v :: vs) H2 ι2 (n1.trans n2) (.cons (n2.rep r1) r2)⟩⟩
theorem tEs_len {k : Nat} (hl : ∀ env μ ds μ', evs env μ = some (ds, μ') → ds.length = k) (σ : L2.St) (H : Hp) (Q : List V → Hp → Prop) (h : tEs X.K evs σ H Q) : tEs X.K evs σ H fun vs H1 => vs.length = k ∧ Q vs H1 := by
  obtain ⟨env, μ, ι, B, B0, ds, μ', a, e, k'⟩ := h
  exact ⟨env, μ, ι, B, B0, ds, μ', a, e, fun vs H' ι' n r => ⟨by rw [r.length]; exact hl _ _ _ _ e, k' vs H' ι' n r⟩⟩
theorem perm_reps {K : PySem.W.Frag} {G : Hp} {ι : Cells} {vs : List V} {ds : List D} (r : Reps K G ι vs ds) : ∀ (perm : List Nat) (args : List D), permD ds perm = some args → ∃ all, perm.map (fun i => vs[i]?) = all.map some ∧ Reps K G ι all args
  | [], args, h => by
    cases h
    exact ⟨[], rfl, .nil⟩
  | i :: perm, args, h => by
    simp only [permD] at h
    obtain ⟨d, e1, h⟩ := Option.bind_eq_some_iff.mp h
    obtain ⟨q, e2, e3⟩ := Option.map_eq_some_iff.mp h
    subst e3
    obtain ⟨v, f1, f2⟩ := r.get e1
    obtain ⟨all, g1, g2⟩ := perm_reps r perm q e2
    exact ⟨v :: all, by rw [List.map_cons, List.map_cons, f1, g1], .cons f2 g2⟩
theorem r_callk {kws : List Keyword} {perm : List Nat} (c : CxE Tb C n X) (hm : Tb.T[f]? = some m) (hn : Tb.nm[f]? = some (x, ps)) (hg : Gl X x) (hd : (x == ("__debug__" : Str)) = false) (ha : PA X es (tEs X.K evs)) (hs : es.all noStar = true)
    (hk : PK X kws (tEs X.K evk)) (hp : kwPlain kws = true) (hq : (⟨f, kwNames kws, es.length, perm⟩ : Kw) ∈ Tb.kw) (hl : ∀ env μ ds μ', evs env μ = some (ds, μ') → ds.length = es.length) (hl2 : ∀ env μ ds μ', evk env μ = some (ds, μ') → ds.length = (kwNames kws).length)
    (hz : ∀ env μ r, es = [] → evs env μ = some r → r = ([], μ))
    (hev : ∀ env μ, ev env μ = (evs env μ).bind fun p => (evk env p.2).bind fun q => (permD (p.1 ++ q.1) perm).bind fun ds => C f ds q.2) : PE X (.Call (.Name x p) es kws pos) (tCl X.K m.fresh ev) := by
  obtain ⟨addr, fd, h1, h2, h3, h4, h5⟩ := c.fn f m x ps hm hn
  have kb := h5 _ hq rfl
  have fin : ∀ {env : Ev} {μ μ1 μ2 μ' : Mem} {ds zs args : List D} {ι ι1 ι2 : Cells} {B : List Addr} {H H1 H2 : Hp} {d : D} {Q : VK} {vs ws : List V}, Nx X.K H ι B H1 ι1 μ1 → Nx X.K H1 ι1 B H2 ι2 μ2 → Reps X.K (cut H1 ι1 B) ι1 vs ds → Reps X.K (cut H2 ι2 B) ι2 ws zs →
      permD (ds ++ zs) perm = some args → C f args μ2 = some (d, μ') → (if m.fresh = true then KX X.K H ι B μ' d Q else KE X.K H ι B μ' d Q) → ∃ all, perm.map (fun i => (vs ++ ws)[i]?) = all.map some ∧ spD X.K C f m.fresh all H2 Q E0 := by
    intro env μ μ1 μ2 μ' ds zs args ι ι1 ι2 B H H1 H2 d Q vs ws n1 n2 r1 r2 e3 e4 k
    obtain ⟨all, g1, g2⟩ := perm_reps ((n2.reps r1).append r2) perm args e3
    exact ⟨all, g1, args, ι2, B, μ2, d, μ', n2.s, g2, e4, back_if k (n1.trans n2)⟩
  match es, hs, ha, hz, hl, kb with
  | [], _, ha, hz, hl, kb =>
    refine PEcon (pe_callKG0 h4 c.room c.gd hg h1 h2 kb hk hd hp (tEs_len hl2)) fun σ H Q ⟨env, μ, ι, B, B0, d, μ', a, e, k⟩ => ?_
    rw [hev] at e
    obtain ⟨r, e1, e⟩ := Option.bind_eq_some_iff.mp e
    have z := hz env μ r rfl e1
    subst z
    obtain ⟨⟨zs, μ2⟩, e2, e⟩ := Option.bind_eq_some_iff.mp e
    obtain ⟨args, e3, e4⟩ := Option.bind_eq_some_iff.mp e
    exact ⟨env, μ, ι, B, B0, zs, μ2, a, e2, fun ws H2 ι2 n2 r2 => fin (env := env) (μ := μ) (Nx.refl a.s) n2 .nil r2 e3 e4 k⟩
  | e0 :: es, hs, ha, _, hl, kb =>
    refine PEcon (pe_callKG (l1 := 0) h4 c.room c.gd hg h1 h2 kb ha hk hd hs hp (tEs_len hl) (tEs_len hl2)) fun σ H Q ⟨env, μ, ι, B, B0, d, μ', a, e, k⟩ => ?_
    rw [hev] at e
    obtain ⟨⟨ds, μ1⟩, e1, e⟩ := Option.bind_eq_some_iff.mp e
    obtain ⟨⟨zs, μ2⟩, e2, e⟩ := Option.bind_eq_some_iff.mp e
    obtain ⟨args, e3, e4⟩ := Option.bind_eq_some_iff.mp e
    exact ⟨env, μ, ι, B, B0, ds, μ1, a, e1, fun vs H1 ι1 n1 r1 => ⟨env, μ1, ι1, B, B0, zs, μ2, a.nx n1, e2, fun ws H2 ι2 n2 r2 => fin (env := env) (μ := μ) n1 n2 r1 r2 e3 e4 k⟩⟩
end
end DI
set_option Elab.async false
set_option linter.all false
set_option maxRecDepth 100000
/-! DI12: which text a piece of the language stands for -/
namespace DI
open PySem PySem.Spec PyProof.Rows L2
def isOv : ME → Bool
  | .ovar _ => true
  | _ => false
def isFresh (T : List MF) : ME → Bool
  | .lst _ | .comp .. | .slc .. | .rev _ | .op .. | .bi .. => true
  | .call f _ => freshF T f
  | .callk f .. => freshF T f
  | _ => false
def isBo : ME → Bool
  | .and .. | .or .. => true
  | _ => false
def tOk : ME → Bool
  | .ite .. => false
  | _ => true
def nameM (N : List Str) (sc : Scope) (i : Nat) (x : Str) : Bool := decide (N[i]? = some x) && kindB sc isVis x && !(x == ("__debug__" : Str)) && !(x == ("__classdict__" : Str))
def bltM (Tb : Tab) (sc : Scope) (x y : Str) : Bool := decide (x = y) && decide (y ∈ Tb.blt) && kindB sc isGlo y
def defM (Tb : Tab) (sc : Scope) (f : Nat) (x : Str) : Bool := (match Tb.nm[f]? with
  | some (y, _) => decide (x = y)
  | none => false) && (Tb.T[f]?).isSome && kindB sc isGlo x && !(x == ("__debug__" : Str))
def bopM : Bop → Operator → Bool
  | b, o => decide (bopOp b = o)
def copM : Cop → CmpOp → Bool
  | b, o => decide (copOp b = o)
def biNm : Bi → Str
  | .len => "len"
  | .abs => "abs"
  | .max => "max"
  | .min => "min"
  | .int => "int"
  | .tuple => "tuple"
  | .list => "list"
  | .sum => "sum"
  | .repr => "repr"
  | .all => "all"
  | .any => "any"
  | .gcd => "gcd"
def biM (Tb : Tab) (sc : Scope) (b : Bi) (x : Str) : Bool := match b with
  | .gcd => decide (x ∈ Tb.mods) && kindB sc isGlo x && !(x == ("__debug__" : Str))
  | b => bltM Tb sc x (biNm b)
def tysM (Tb : Tab) (sc : Scope) : List Ty → List Expr → Bool
  | [], [] => true
  | t :: ts, .Name x _ :: es => bltM Tb sc x (Str.ofString t.nm) && tysM Tb sc ts es
  | _, _ => false
def isM (ng : Bool) (o : CmpOp) : Bool := decide (o = if ng then .IsNot else .Is)
def ixPlain : Expr → Bool
  | .Slice .. => false
  | _ => true
def setFree : Expr → Bool
  | .Set .. => false
  | _ => true
mutual
def mG (N : List Str) (sc : Scope) : MG → Expr → Bool
  | .nm i, .Name x _ => decide (N[i]? = some x) && kindB sc isLoc x
  | .tp gs, .Tuple es _ _ => mGs N sc gs es
  | _, _ => false
def mGs (N : List Str) (sc : Scope) : List MG → List Expr → Bool
  | [], [] => true
  | g :: gs, e :: es => noStar e && mG N sc g e && mGs N sc gs es
  | _, _ => false
end
def ownN (N : List Str) (own : List Nat) : List (Str × Nat) := own.map fun i => (N.getD i "", i)
mutual
def mE (Tb : Tab) (N : List Str) : Scope → ME → Expr → Bool
  | sc, .var i, .Name x _ => nameM N sc i x
  | sc, .ovar i, .Name x _ => nameM N sc i x
  | _, .non, .Constant c _ _ => decide (c = .none)
  | _, .bl b, .Constant c _ _ => decide (c = .bool b)
  | _, .int i, .Constant c _ _ => decide (c = .int i)
  | _, .str x, .Constant c _ _ => decide (c = .str x)
  | sc, .tup es, .Tuple xs _ _ => mEs Tb N sc es xs
  | sc, .lst es, .List xs _ => mEs Tb N sc es xs
  | _, .dic0, .Dict ks vs _ => ks.isEmpty && vs.isEmpty
  | sc, .cell e, x => isFresh Tb.T e && mE Tb N sc e x
  | sc, .op o a b, .BinOp x p y _ => bopM o p && mE Tb N sc a x && mE Tb N sc b y
  | sc, .neg a, .UnaryOp o x _ => decide (o = .USub) && mE Tb N sc a x
  | sc, .not a, .UnaryOp o x _ => decide (o = .Not) && tOk a && mE Tb N sc a x
  | sc, .cmp o a b, .Compare x [p] [y] _ => copM o p && mE Tb N sc a x && mE Tb N sc b y && !behindInMarks (copOp o) y
  | sc, .isn ng a, .Compare x [p] [.Constant c _ _] _ => isM ng p && decide (c = .none) && mE Tb N sc a x
  | sc, .isb ng b a, .Compare x [p] [.Constant c _ _] _ => isM ng p && decide (c = .bool b) && mE Tb N sc a x
  | sc, .and a b, .BoolOp o (x :: y :: zs) p => decide (o = .And) && tOk a && tOk b && mE Tb N sc a x && !isOv b && (match zs with
    | [] => mE Tb N sc b y
    | z :: zs => isBo b && mE Tb N sc b (.BoolOp .And (y :: z :: zs) p))
  | sc, .or a b, .BoolOp o (x :: y :: zs) p => decide (o = .Or) && tOk a && tOk b && mE Tb N sc a x && !isOv b && (match zs with
    | [] => mE Tb N sc b y
    | z :: zs => isBo b && mE Tb N sc b (.BoolOp .Or (y :: z :: zs) p))
  | sc, .ite c a b, .IfExp z x y _ => tOk c && mE Tb N sc c z && mE Tb N sc a x && mE Tb N sc b y && !isOv a && !isOv b
  | sc, .idx a i, .Subscript x y _ => mE Tb N sc a x && mE Tb N sc i y && ixPlain y
  | sc, .slc a lo hi, .Subscript x (.Slice l h none _) _ => mE Tb N sc a x && mO Tb N sc lo l && mO Tb N sc hi h
  | sc, .rev a, .Subscript x (.Slice none none (some (.UnaryOp o (.Constant c _ _) _)) _) _ => decide (o = .USub) && decide (c = .int 1) && mE Tb N sc a x
  | sc, .call f es, .Call (.Name x _) xs [] _ => defM Tb sc f x && mEs Tb N sc es xs
  | sc, .callk f es ks perm, .Call (.Name x _) xs kws _ => defM Tb sc f x && mEs Tb N sc es xs && mKs Tb N sc ks kws && decide ((⟨f, kwNames kws, xs.length, perm⟩ : Kw) ∈ Tb.kw)
  | sc, .bi b es, .Call (.Name x _) (y :: ys) [] _ => biM Tb sc b x && mAs Tb N sc es (y :: ys)
  | sc, .bits a, .Call (.Attribute (.Name x p0) at' apos) [] [] pos => decide (at' = ("bit_length" : Str)) && (apos.endLine == pos.line) && mE Tb N sc a (.Name x p0)
  | sc, .isi a ts, .Call (.Name x _) [y, z] [] _ => bltM Tb sc x "isinstance" && mE Tb N sc a y && noStar y && decide (ts.length ≤ 10) && (match z with
    | .Name w _ => (match ts with
      | [t] => bltM Tb sc w (Str.ofString t.nm)
      | _ => false)
    | .Tuple ws _ _ => tysM Tb sc ts ws
    | _ => false)
  | sc, .comp elt tg src ifs own, .ListComp e' [⟨tg', iter', ifs', as⟩] scope _ => mI Tb N sc src tg' iter' && mG N scope tg tg' && mCs Tb N scope ifs ifs' && mE Tb N scope elt e' && !isOv elt && blkC N sc scope (ownN N own) && tg.slots.all (fun j => decide (j ∈ own)) && setFree iter' && decide (as = 0)
  | _, _, _ => false
/-- values -/
def mEs (Tb : Tab) (N : List Str) : Scope → List ME → List Expr → Bool
  | _, [], [] => true
  | sc, m :: ms, e :: es => noStar e && !isOv m && mE Tb N sc m e && mEs Tb N sc ms es
  | _, _, _ => false
/-- arguments that are read only -/
def mAs (Tb : Tab) (N : List Str) : Scope → List ME → List Expr → Bool
  | _, [], [] => true
  | sc, m :: ms, e :: es => noStar e && mE Tb N sc m e && mAs Tb N sc ms es
  | _, _, _ => false
def mKs (Tb : Tab) (N : List Str) : Scope → List ME → List Keyword → Bool
  | _, [], [] => true
  | sc, m :: ms, ⟨some _, e, _⟩ :: es => noStar e && !isOv m && mE Tb N sc m e && mKs Tb N sc ms es
  | _, _, _ => false
def mO (Tb : Tab) (N : List Str) : Scope → Option ME → Option Expr → Bool
  | _, none, none => true
  | sc, some m, some e => mE Tb N sc m e
  | _, _, _ => false
def mCs (Tb : Tab) (N : List Str) : Scope → List ME → List Expr → Bool
  | _, [], [] => true
  | sc, m :: ms, e :: es => tOk m && mE Tb N sc m e && ms.isEmpty && mCs Tb N sc ms es
  | _, _, _ => false
def mI (Tb : Tab) (N : List Str) : Scope → MI → Expr → Expr → Bool
  | sc, .seq m, _, e => mE Tb N sc m e
  | sc, .rng es, _, .Call (.Name x _) (y :: ys) [] _ => bltM Tb sc x "range" && mAs Tb N sc es (y :: ys) && decide (es.length ≤ 2)
  | sc, .zip a b, .Tuple _ _ _, .Call (.Name x _) [y, z] [] _ => bltM Tb sc x "zip" && mE Tb N sc a y && mE Tb N sc b z && noStar y && noStar z
  | sc, .enum a, .Tuple _ _ _, .Call (.Name x _) [y] [] _ => bltM Tb sc x "enumerate" && mE Tb N sc a y && noStar y
  | _, _, _, _ => false
end
end DI
set_option Elab.async false
set_option linter.all false
set_option maxRecDepth 100000
set_option maxHeartbeats 4000000
/-! DI13: a piece of the language that stands for a text is what the text does: expressions -/
namespace DI
open PySem PySem.Spec PyProof.Rows L2
theorem nameM_ok {N : List Str} {sc : Scope} {i : Nat} {x : Str} (h : nameM N sc i x = true) : N[i]? = some x ∧ kindB sc isVis x = true ∧ (x == ("__debug__" : Str)) = false ∧ (x == ("__classdict__" : Str)) = false := by
  unfold nameM at h
  simp only [Bool.and_eq_true, decide_eq_true_eq, Bool.not_eq_true'] at h
  exact ⟨h.1.1.1, h.1.1.2, h.1.2, h.2⟩
theorem bltM_ok {Tb : Tab} {sc : Scope} {x y : Str} (h : bltM Tb sc x y = true) : x = y ∧ y ∈ Tb.blt ∧ kindB sc isGlo y = true := by
  unfold bltM at h
  simp only [Bool.and_eq_true, decide_eq_true_eq] at h
  exact ⟨h.1.1, h.1.2, h.2⟩
theorem defM_ok {Tb : Tab} {sc : Scope} {f : Nat} {x : Str} (h : defM Tb sc f x = true) : ∃ m ps, Tb.T[f]? = some m ∧ Tb.nm[f]? = some (x, ps) ∧ kindB sc isGlo x = true ∧ (x == ("__debug__" : Str)) = false := by
  unfold defM at h
  simp only [Bool.and_eq_true, Bool.not_eq_true'] at h
  obtain ⟨⟨⟨h1, h2⟩, h3⟩, h4⟩ := h
  obtain ⟨m, hm⟩ := Option.isSome_iff_exists.mp h2
  split at h1
  · rename_i y ps e
    rw [decide_eq_true_eq] at h1
    subst h1
    exact ⟨m, ps, hm, e, h3, h4⟩
  · cases h1
theorem biNm_facts (b : Bi) (hb : b ≠ .gcd) : bootBuiltins (biNm b) = some (biId b) ∧ biNm b ≠ ("__name__" : Str) ∧ (biNm b == ("__debug__" : Str)) = false := by
  cases b <;> first | (exact absurd rfl hb) | (refine ⟨?_, ?_, ?_⟩ <;> decide +kernel)
structure SA (X : Cx) (Tb : Tab) (C : Call) (m : ME) (e : Expr) : Prop where
  se : SE X (isOv m) (isFresh Tb.T m) e (evE C m)
  pt : tOk m = true → PT X e (tB X.K (evT C m))
  pw : isBo m = true → PW X e (tB X.K (evT C m))
/-- .. where it is no and, or, not, comparison -/
theorem SA.plain {X : Cx} {Tb : Tab} {C : Call} {m : ME} {e : Expr} (s : SE X (isOv m) (isFresh Tb.T m) e (evE C m)) (hb : isBo m = false) (he : ∀ whole, isTrue e X.env whole = (do let v ← whole; standAt e.pos; holding [v] (truthy v))) : SA X Tb C m e :=
  ⟨s, fun _ => pt_of s.fa he fun _ _ => rfl, fun z => by rw [hb] at z; cases z⟩
theorem evEs_len (C : Call) : ∀ (ms : List ME) (env : Ev) (μ : Mem) (ds : List D) (μ' : Mem), evEs C ms env μ = some (ds, μ') → ds.length = ms.length
  | [], env, μ, ds, μ', h => by simp only [evEs, Option.some.injEq, Prod.mk.injEq] at h; rw [← h.1]; rfl
  | m :: ms, env, μ, ds, μ', h => by
    simp only [evEs] at h
    obtain ⟨⟨x, μ1⟩, e1, e⟩ := Option.bind_eq_some_iff.mp h
    obtain ⟨⟨xs, μ2⟩, e2, e3⟩ := Option.map_eq_some_iff.mp e
    simp only [Prod.mk.injEq] at e3
    rw [← e3.1, List.length_cons, List.length_cons, evEs_len C ms env μ1 xs μ2 e2]
theorem ov_shape (C : Call) (m : ME) (i : Nat) (env : Ev) (μ : Mem) (d : D) (μ' : Mem) (hm : m = .ovar i) (h : evE C m env μ = some (d, μ')) : ∃ ds, d = .lst ds := by
  subst hm
  simp only [evE] at h
  split at h
  · cases h; exact ⟨_, rfl⟩
  · cases h
theorem ov_is {m : ME} (h : isOv m = true) : ∃ i, m = .ovar i := by
  cases m <;> first | exact ⟨_, rfl⟩ | (simp [isOv] at h)
theorem tys_zip {Tb : Tab} {sc : Scope} : ∀ (ts : List Ty) (es : List Expr), tysM Tb sc ts es = true → ∃ ps : List Pos, ts.length = ps.length ∧ es = (ts.zip ps).map (fun q => .Name (Str.ofString q.1.nm) q.2) ∧ ∀ t, t ∈ ts → Str.ofString t.nm ∈ Tb.blt ∧ kindB sc isGlo (Str.ofString t.nm) = true
  | [], [], _ => ⟨[], rfl, rfl, fun _ h => nomatch h⟩
  | [], _ :: _, h => by simp [tysM] at h
  | t :: ts, [], h => by simp [tysM] at h
  | t :: ts, e :: es, h => by
    cases e with
    | Name x p =>
      simp only [tysM, Bool.and_eq_true] at h
      obtain ⟨e1, e2, e3⟩ := bltM_ok h.1
      obtain ⟨ps, h1, h2, h3⟩ := tys_zip ts es h.2
      refine ⟨p :: ps, by rw [List.length_cons, List.length_cons, h1], by rw [e1, h2]; rfl, fun s hs => ?_⟩
      rcases List.mem_cons.mp hs with q | q
      · rw [q]; exact ⟨e2, e3⟩
      · exact h3 s q
    | _ => simp [tysM] at h
theorem plainIx_of {e : Expr} (h : ixPlain e = true) : PlainIx e := by
  cases e <;> first | (intro o i; rfl) | (simp [ixPlain] at h)
theorem setFree_of {e : Expr} (h : setFree e = true) (env : Env) : ∀ x, foldedSetIterable e env x = pure x := by
  cases e <;> first | (intro x; rfl) | (simp [setFree] at h)
mutual
theorem g_ok {X : Cx} {sc : Scope} (hc : X.calm = true) (nd : X.N.Nodup) (cs : CxS X sc) : ∀ (g : MG) (e : Expr), mG X.N sc g e = true → PG X e (tG X.K g)
  | .nm i, e, h => by
    cases e with
    | Name x p =>
      simp only [mG, Bool.and_eq_true, decide_eq_true_eq] at h
      exact g_name nd h.1 (cs.loc x h.2).1 (cs.loc x h.2).2
    | _ => simp [mG] at h
  | .tp gs, e, h => by
    cases e with
    | Tuple es k p =>
      simp only [mG] at h
      obtain ⟨h1, h2, h3, h4⟩ := gs_ok hc nd cs gs es h
      exact g_tup hc h1 h2 h3 h4
    | _ => simp [mG] at h
theorem gs_ok {X : Cx} {sc : Scope} (hc : X.calm = true) (nd : X.N.Nodup) (cs : CxS X sc) : ∀ (gs : List MG) (es : List Expr), mGs X.N sc gs es = true → PGs X es (tGs X.K gs) ∧ (assignEach es X.env).length = es.length ∧ (assignEach es X.env).findIdx? (·.1) = none ∧ gs.length = es.length
  | [], [], _ => ⟨g_nil, rfl, rfl, rfl⟩
  | [], _ :: _, h => by simp [mGs] at h
  | _ :: _, [], h => by simp [mGs] at h
  | g :: gs, e :: es, h => by
    simp only [mGs, Bool.and_eq_true] at h
    obtain ⟨h1, h2, h3, h4⟩ := gs_ok hc nd cs gs es h.2
    have hs : assignEach (e :: es) X.env = (false, assign e X.env) :: assignEach es X.env := by
      have q := h.1.1
      cases e <;> first | rfl | (simp [noStar] at q)
    refine ⟨g_cons (g_ok hc nd cs g e h.1.2) h1 (by rw [hs]; rfl), by rw [hs, List.length_cons, List.length_cons, h2], ?_, by rw [List.length_cons, List.length_cons, h4]⟩
    rw [hs, List.findIdx?_cons, h3]
    rfl
end
end DI
set_option Elab.async false
set_option linter.all false
set_option maxRecDepth 100000
set_option maxHeartbeats 8000000
/-! DI14: a piece of the language that stands for a text is what the text does: expressions -/
namespace DI
open PySem PySem.Spec PyProof.Rows L2
theorem evT_not (C : Call) (a : ME) (env : Ev) (μ : Mem) : evT C (.not a) env μ = (evT C a env μ).map fun p => (!p.1, p.2) := by
  unfold evT
  simp only [evE]
  cases evE C a env μ with
  | none => rfl
  | some p =>
    simp only [Option.bind_some]
    cases truthD p.2 p.1 with
    | none => rfl
    | some b => rfl
theorem evT_cmp (C : Call) (o : Cop) (a b : ME) (env : Ev) (μ : Mem) : evT C (.cmp o a b) env μ = (evE C a env μ).bind fun p => (evE C b env p.2).bind fun q => (cmpD q.2 o p.1 q.1).map fun d => (d, q.2) := by
  unfold evT
  simp only [evE]
  cases evE C a env μ with
  | none => rfl
  | some p =>
    simp only [Option.bind_some]
    cases evE C b env p.2 with
    | none => rfl
    | some q =>
      simp only [Option.bind_some]
      cases cmpD q.2 o p.1 q.1 with
      | none => rfl
      | some b => rfl
theorem evT_isn (C : Call) (ng : Bool) (a : ME) (env : Ev) (μ : Mem) : evT C (.isn ng a) env μ = (evE C a env μ).bind fun p => match p.1 with
    | .non => some (!ng, p.2)
    | .ref _ => none
    | _ => some (ng, p.2) := by
  unfold evT
  simp only [evE]
  cases evE C a env μ with
  | none => rfl
  | some p =>
    obtain ⟨d, ν⟩ := p
    cases d <;> rfl
theorem evT_isb (C : Call) (ng k : Bool) (a : ME) (env : Ev) (μ : Mem) : evT C (.isb ng k a) env μ = (evE C a env μ).bind fun p => match p.1 with
    | .bl b => some (if ng then !decide (b = k) else decide (b = k), p.2)
    | _ => none := by
  unfold evT
  simp only [evE]
  cases evE C a env μ with
  | none => rfl
  | some p =>
    obtain ⟨d, ν⟩ := p
    cases d <;> rfl
theorem evT_and (C : Call) (a b : ME) (env : Ev) (μ : Mem) (q : Bool × Mem) (h : evT C (.and a b) env μ = some q) : ∃ p, evT C a env μ = some p ∧ if p.1 then evT C b env p.2 = some q else q = (false, p.2) := by
  unfold evT at h ⊢
  simp only [evE] at h
  obtain ⟨⟨d, ν⟩, e1, h⟩ := Option.bind_eq_some_iff.mp h
  obtain ⟨⟨d0, ν0⟩, e0, e1⟩ := Option.bind_eq_some_iff.mp e1
  dsimp only at e1
  split at e1
  · exact ⟨(true, ν0), by rw [e0]; rfl, by rw [if_pos rfl, e1]; exact h⟩
  · cases e1
    refine ⟨(false, ν), by rw [e0]; rfl, ?_⟩
    rw [if_neg Bool.false_ne_true]
    cases h
    rfl
  · cases e1
theorem evT_or (C : Call) (a b : ME) (env : Ev) (μ : Mem) (q : Bool × Mem) (h : evT C (.or a b) env μ = some q) : ∃ p, evT C a env μ = some p ∧ if p.1 then q = (true, p.2) else evT C b env p.2 = some q := by
  unfold evT at h ⊢
  simp only [evE] at h
  obtain ⟨⟨d, ν⟩, e1, h⟩ := Option.bind_eq_some_iff.mp h
  obtain ⟨⟨d0, ν0⟩, e0, e1⟩ := Option.bind_eq_some_iff.mp e1
  dsimp only at e1
  split at e1
  · refine ⟨(false, ν0), by rw [e0]; rfl, ?_⟩
    rw [if_neg Bool.false_ne_true, e1]
    exact h
  · cases e1
    refine ⟨(true, ν), by rw [e0]; rfl, ?_⟩
    rw [if_pos rfl]
    cases h
    rfl
  · cases e1
theorem evE_ite (C : Call) (c a b : ME) (env : Ev) (μ : Mem) : evE C (.ite c a b) env μ = (evT C c env μ).bind fun p => if p.1 then evE C a env p.2 else evE C b env p.2 := by
  unfold evT
  simp only [evE]
  cases evE C c env μ with
  | none => rfl
  | some p =>
    simp only [Option.bind_some]
    cases truthD p.2 p.1 with
    | none => rfl
    | some b => rfl
theorem evCs_one (C : Call) (c : ME) (env : Ev) (μ : Mem) : evCs C [c] env μ = evT C c env μ := by
  unfold evT
  simp only [evCs]
  cases evE C c env μ with
  | none => rfl
  | some p =>
    simp only [Option.bind_some]
    cases truthD p.2 p.1 with
    | none => rfl
    | some b => cases b <;> rfl
theorem rng_shape (C : Call) (es : List ME) (env : Ev) (μ : Mem) (r : (List D × List Lk) × Mem) (h : evI C (.rng es) env μ = some r) :
    (∃ j μ', evEs C es env μ = some ([.int j], μ') ∧ rangeOk j = true ∧ r = ((rangeD 0 j, []), μ')) ∨ ∃ i j μ', evEs C es env μ = some ([.int i, .int j], μ') ∧ rangeOk i = true ∧ rangeOk j = true ∧ r = ((rangeD i j, []), μ') := by
  simp only [evI] at h
  obtain ⟨⟨ds, ν⟩, e1, h⟩ := Option.bind_eq_some_iff.mp h
  dsimp only at h
  split at h
  · split at h
    · rename_i c
      cases h
      exact .inl ⟨_, _, e1, c, rfl⟩
    · cases h
  · split at h
    · rename_i c
      rw [Bool.and_eq_true] at c
      cases h
      exact .inr ⟨_, _, _, e1, c.1, c.2, rfl⟩
    · cases h
  · cases h
theorem r_twoE {X : Cx} {a b : Expr} {ev ea eb : Ev → Mem → Option (D × Mem)} {r : R2} {F : Mem → D → D → Option D} {f : Expr} (ha : PE X a (tA X.K ea)) (hb : PE X b (tA X.K eb)) (mk : ∀ {ta tb : TE}, PE X a ta → PE X b tb → PE X f (tOp r ta tb))
    (hev : ∀ env μ, ev env μ = (ea env μ).bind fun p => (eb env p.2).bind fun q => (F q.2 p.1 q.1).map fun d => (d, q.2))
    (val : ∀ (H : Hp) (ι : Cells) (B : List Addr) (μ : Mem) (v u : V) (x y d : D) (Q : VK), Sim X.K H ι B μ → RepA X.K H ι B v x → RepA X.K H ι B u y → F μ x y = some d → KE X.K H ι B μ d Q → r v u H Q) :
    PE X f (tE X.K ev) := by
  refine PEcon (mk ha hb) fun σ H Q ⟨env, μ, ι, B, B0, d, μ', a, e, k⟩ => ?_
  rw [hev] at e
  obtain ⟨⟨x, μ1⟩, e1, e⟩ := Option.bind_eq_some_iff.mp e
  obtain ⟨⟨y, μ2⟩, e2, e⟩ := Option.bind_eq_some_iff.mp e
  obtain ⟨z, e3, e4⟩ := Option.map_eq_some_iff.mp e
  cases e4
  refine ⟨env, μ, ι, B, B0, x, μ1, a, e1, fun v H1 ι1 n1 r1 => ⟨env, μ1, ι1, B, B0, y, _, a.nx n1, e2, fun u H2 ι2 n2 r2 => ?_⟩⟩
  exact val H2 ι2 B _ v u x y _ Q n2.s (n2.arg r1) r2 e3 (KE.back k (n1.trans n2))
section
variable {Tb : Tab} {C : Call} {n : Nat}
mutual
theorem sndE : ∀ (m : ME) {X : Cx} {sc : Scope} (e : Expr), CxE Tb C n X → CxS X sc → mE Tb X.N sc m e = true → SA X Tb C m e
  | .var i, X, sc, e, c, cs, h => by
    cases e with
    | Name x p =>
      simp only [mE] at h
      obtain ⟨h1, h2, h3, h4⟩ := nameM_ok h
      exact SA.plain (SE.ofE (r_var h1 (cs.vis x h2) h3 h4 fun env μ d μ' q => by
        simp only [evE] at q
        split at q
        · rename_i q'; cases q; exact ⟨q', rfl⟩
        · cases q)) rfl fun _ => rfl
    | _ => simp [mE] at h
  | .ovar i, X, sc, e, c, cs, h => by
    cases e with
    | Name x p =>
      simp only [mE] at h
      obtain ⟨h1, h2, h3, h4⟩ := nameM_ok h
      refine SA.plain ⟨r_ovar h1 (cs.vis x h2) h3 h4 (fun env μ d μ' q => ?_), (fun z => nomatch z), (fun z => nomatch z)⟩ rfl fun _ => rfl
      simp only [evE] at q
      split at q
      · rename_i ds q'; cases q; exact ⟨ds, q', rfl, rfl⟩
      · cases q
    | _ => simp [mE] at h
  | .non, X, sc, e, c, cs, h => by
    cases e with
    | Constant k j p =>
      simp only [mE, decide_eq_true_eq] at h
      subst h
      exact SA.plain (SE.ofE (r_c pe_non (fun _ _ => .non) fun _ _ => by simp only [evE])) rfl fun _ => rfl
    | _ => simp [mE] at h
  | .bl b, X, sc, e, c, cs, h => by
    cases e with
    | Constant k j p =>
      simp only [mE, decide_eq_true_eq] at h
      subst h
      exact SA.plain (SE.ofE (r_c pe_bl (fun _ _ => .bl b) fun _ _ => by simp only [evE])) rfl fun _ => rfl
    | _ => simp [mE] at h
  | .int i, X, sc, e, c, cs, h => by
    cases e with
    | Constant k j p =>
      simp only [mE, decide_eq_true_eq] at h
      subst h
      exact SA.plain (SE.ofE (r_c pe_int (fun _ _ => .int i) fun _ _ => by simp only [evE])) rfl fun _ => rfl
    | _ => simp [mE] at h
  | .str i, X, sc, e, c, cs, h => by
    cases e with
    | Constant k j p =>
      simp only [mE, decide_eq_true_eq] at h
      subst h
      exact SA.plain (SE.ofE (r_c pe_str (fun _ _ => .str i) fun _ _ => by simp only [evE])) rfl fun _ => rfl
    | _ => simp [mE] at h
  | .tup es, X, sc, e, c, cs, h => by
    cases e with
    | Tuple xs k p =>
      simp only [mE] at h
      exact SA.plain (SE.ofE (r_tup (sndEs es xs c cs h).1 fun _ _ => by simp only [evE])) rfl fun _ => rfl
    | _ => simp [mE] at h
  | .lst es, X, sc, e, c, cs, h => by
    cases e with
    | List xs p =>
      simp only [mE] at h
      exact SA.plain (SE.ofX (r_lst (sndEs es xs c cs h).1 fun _ _ => by simp only [evE])) rfl fun _ => rfl
    | _ => simp [mE] at h
  | .dic0, X, sc, e, c, cs, h => by
    cases e with
    | Dict ks vs p =>
      simp only [mE, Bool.and_eq_true, List.isEmpty_iff] at h
      obtain ⟨h1, h2⟩ := h
      subst h1 h2
      exact SA.plain (SE.ofE (r_dic0 fun _ _ => by simp only [evE])) rfl fun _ => rfl
    | _ => simp [mE] at h
  | .cell m, X, sc, e, c, cs, h => by
    simp only [mE, Bool.and_eq_true] at h
    obtain ⟨h1, h2⟩ := h
    have A := sndE m e c cs h2
    have hp : ∀ whole, isTrue e X.env whole = (do let v ← whole; standAt e.pos; holding [v] (truthy v)) := by
      cases m <;> first | (simp [isFresh] at h1; done) | (cases e <;> first | (intro _; rfl) | (simp [mE] at h2; done))
    refine SA.plain (SE.ofE (r_cell (A.se.fx h1) fun _ _ => by simp only [evE] <;> rfl)) rfl hp
  | .op o a b, X, sc, e, c, cs, h => by
    cases e with
    | BinOp x p y pos =>
      simp only [mE, Bool.and_eq_true, bopM, decide_eq_true_eq] at h
      obtain ⟨⟨h1, h2⟩, h3⟩ := h
      subst h1
      exact SA.plain (SE.ofX (r_two (F := fun μ => opD μ o) (sndE a x c cs h2).se.fa (sndE b y c cs h3).se.fa (fun ha hb => pe_op (op_bop o) ha hb) (fun _ _ => by simp only [evE]) fun H ι B μ v u x y d Q S r1 r2 e k => bop_val S r1 r2 e k)) rfl fun _ => rfl
    | _ => simp [mE] at h
  | .neg a, X, sc, e, c, cs, h => by
    cases e with
    | UnaryOp o x p =>
      simp only [mE, Bool.and_eq_true, decide_eq_true_eq] at h
      obtain ⟨h1, h2⟩ := h
      subst h1
      exact SA.plain (SE.ofE (r_neg (sndE a x c cs h2).se.fa fun _ _ => by simp only [evE] <;> rfl)) rfl fun _ => rfl
    | _ => simp [mE] at h
  | .not a, X, sc, e, c, cs, h => by
    cases e with
    | UnaryOp o x p =>
      simp only [mE, Bool.and_eq_true, decide_eq_true_eq] at h
      obtain ⟨⟨h1, h0⟩, h2⟩ := h
      subst h1
      have A := sndE a x c cs h2
      exact ⟨SE.ofE (r_not A.se.fa fun _ _ => by simp only [evE]), fun _ => pt_not' (A.pt h0) (evT_not C a), fun z => nomatch z⟩
    | _ => simp [mE] at h
  | .cmp o a b, X, sc, e, c, cs, h => by
    cases e with
    | Compare x ps ys p =>
      match ps, ys, h with
      | [q], [y], h =>
        simp only [mE, Bool.and_eq_true, copM, decide_eq_true_eq, Bool.not_eq_true'] at h
        obtain ⟨⟨⟨h1, h2⟩, h3⟩, h4⟩ := h
        subst h1
        have A := (sndE a x c cs h2).se.fa
        have B := (sndE b y c cs h3).se.fa
        refine ⟨SE.ofE (E_of_X (r_two (F := fun μ x y => (cmpD μ o x y).map D.bl) A B (fun ha hb => pe_cmpR (op_cop o c.units) ha hb h4) (fun env μ => ?_) fun H ι B μ v u x y d Q S r1 r2 e k => ?_)), fun _ => pt_cop c.units h4 A B (evT_cmp C o a b), fun z => nomatch z⟩
        · simp only [evE]
          cases evE C a env μ with
          | none => rfl
          | some p =>
            simp only [Option.bind_some]
            cases evE C b env p.2 with
            | none => rfl
            | some q =>
              simp only [Option.bind_some]
              cases cmpD q.2 o p.1 q.1 with
              | none => rfl
              | some b => rfl
        · obtain ⟨b', e1, e2⟩ := Option.map_eq_some_iff.mp e
          subst e2
          exact cop_val S r1 r2 e1 (KE.now k S (.bl _))
      | [], _, h => simp [mE] at h
      | _ :: _ :: _, _, h => simp [mE] at h
      | [_], [], h => simp [mE] at h
      | [_], _ :: _ :: _, h => simp [mE] at h
    | _ => simp [mE] at h
  | .isn ng a, X, sc, e, c, cs, h => by
    cases e with
    | Compare x ps ys p =>
      match ps, ys, h with
      | [q], [.Constant k j p'], h =>
        simp only [mE, Bool.and_eq_true, isM, decide_eq_true_eq] at h
        obtain ⟨⟨h1, h2⟩, h3⟩ := h
        subst h1 h2
        have A := (sndE a x c cs h3).se.fa
        exact ⟨SE.ofE (r_isn A fun _ _ => by simp only [evE] <;> rfl), fun _ => pt_isn A (evT_isn C ng a), fun z => nomatch z⟩
      | [], _, h => simp [mE] at h
      | _ :: _ :: _, _, h => simp [mE] at h
      | [_], [], h => simp [mE] at h
      | [_], _ :: _ :: _, h => simp [mE] at h
      | [_], [.BoolOp ..], h | [_], [.NamedExpr ..], h | [_], [.BinOp ..], h | [_], [.UnaryOp ..], h | [_], [.Lambda ..], h | [_], [.IfExp ..], h | [_], [.Dict ..], h | [_], [.Set ..], h | [_], [.ListComp ..], h | [_], [.SetComp ..], h | [_], [.DictComp ..], h
      | [_], [.GeneratorExp ..], h | [_], [.Await ..], h | [_], [.Yield ..], h | [_], [.YieldFrom ..], h | [_], [.Compare ..], h | [_], [.Call ..], h | [_], [.FormattedValue ..], h | [_], [.JoinedStr ..], h | [_], [.Attribute ..], h | [_], [.Subscript ..], h
      | [_], [.Starred ..], h | [_], [.Name ..], h | [_], [.List ..], h | [_], [.Tuple ..], h | [_], [.Slice ..], h => simp [mE] at h
    | _ => simp [mE] at h
  | .isb ng b a, X, sc, e, c, cs, h => by
    cases e with
    | Compare x ps ys p =>
      match ps, ys, h with
      | [q], [.Constant k j p'], h =>
        simp only [mE, Bool.and_eq_true, isM, decide_eq_true_eq] at h
        obtain ⟨⟨h1, h2⟩, h3⟩ := h
        subst h1 h2
        have A := (sndE a x c cs h3).se.fa
        exact ⟨SE.ofE (r_isb A fun _ _ => by simp only [evE] <;> rfl), fun _ => pt_isb A (evT_isb C ng b a), fun z => nomatch z⟩
      | [], _, h => simp [mE] at h
      | _ :: _ :: _, _, h => simp [mE] at h
      | [_], [], h => simp [mE] at h
      | [_], _ :: _ :: _, h => simp [mE] at h
      | [_], [.BoolOp ..], h | [_], [.NamedExpr ..], h | [_], [.BinOp ..], h | [_], [.UnaryOp ..], h | [_], [.Lambda ..], h | [_], [.IfExp ..], h | [_], [.Dict ..], h | [_], [.Set ..], h | [_], [.ListComp ..], h | [_], [.SetComp ..], h | [_], [.DictComp ..], h
      | [_], [.GeneratorExp ..], h | [_], [.Await ..], h | [_], [.Yield ..], h | [_], [.YieldFrom ..], h | [_], [.Compare ..], h | [_], [.Call ..], h | [_], [.FormattedValue ..], h | [_], [.JoinedStr ..], h | [_], [.Attribute ..], h | [_], [.Subscript ..], h
      | [_], [.Starred ..], h | [_], [.Name ..], h | [_], [.List ..], h | [_], [.Tuple ..], h | [_], [.Slice ..], h => simp [mE] at h
    | _ => simp [mE] at h
  | .and a b, X, sc, e, c, cs, h => by
    cases e with
    | BoolOp o vs p =>
      match vs, h with
      | x :: y :: [], h =>
        simp only [mE, Bool.and_eq_true, decide_eq_true_eq, Bool.not_eq_true'] at h
        obtain ⟨⟨⟨⟨⟨h1, t1⟩, t2⟩, h2⟩, h3⟩, h4⟩ := h
        subst h1
        have A := sndE a x c cs h2
        have B := sndE b y c cs h4
        have W := pw_and' (pos := p) (et := evT C (.and a b)) (A.pt t1) (pw_and1 (B.pt t2)) (evT_and C a b)
        exact ⟨SE.ofE (r_and A.se.fa (pe_one (B.se.fe h3)) fun _ _ => by simp only [evE] <;> rfl), fun _ => W.pt, fun _ => W⟩
      | x :: y :: z :: zs, h =>
        simp only [mE, Bool.and_eq_true, decide_eq_true_eq, Bool.not_eq_true'] at h
        obtain ⟨⟨⟨⟨⟨h1, t1⟩, t2⟩, h2⟩, h3⟩, h5, h4⟩ := h
        subst h1
        have A := sndE a x c cs h2
        have B := sndE b _ c cs h4
        have W := pw_and' (pos := p) (et := evT C (.and a b)) (A.pt t1) (B.pw h5) (evT_and C a b)
        exact ⟨SE.ofE (r_and A.se.fa (B.se.fe h3) fun _ _ => by simp only [evE] <;> rfl), fun _ => W.pt, fun _ => W⟩
      | [], h => simp [mE] at h
      | [_], h => simp [mE] at h
    | _ => simp [mE] at h
  | .or a b, X, sc, e, c, cs, h => by
    cases e with
    | BoolOp o vs p =>
      match vs, h with
      | x :: y :: [], h =>
        simp only [mE, Bool.and_eq_true, decide_eq_true_eq, Bool.not_eq_true'] at h
        obtain ⟨⟨⟨⟨⟨h1, t1⟩, t2⟩, h2⟩, h3⟩, h4⟩ := h
        subst h1
        have A := sndE a x c cs h2
        have B := sndE b y c cs h4
        have W := pw_or' (pos := p) (et := evT C (.or a b)) (A.pt t1) (pw_or1 (B.pt t2)) (evT_or C a b)
        exact ⟨SE.ofE (r_or A.se.fa (pe_one (B.se.fe h3)) fun _ _ => by simp only [evE] <;> rfl), fun _ => W.pt, fun _ => W⟩
      | x :: y :: z :: zs, h =>
        simp only [mE, Bool.and_eq_true, decide_eq_true_eq, Bool.not_eq_true'] at h
        obtain ⟨⟨⟨⟨⟨h1, t1⟩, t2⟩, h2⟩, h3⟩, h5, h4⟩ := h
        subst h1
        have A := sndE a x c cs h2
        have B := sndE b _ c cs h4
        have W := pw_or' (pos := p) (et := evT C (.or a b)) (A.pt t1) (B.pw h5) (evT_or C a b)
        exact ⟨SE.ofE (r_or A.se.fa (B.se.fe h3) fun _ _ => by simp only [evE] <;> rfl), fun _ => W.pt, fun _ => W⟩
      | [], h => simp [mE] at h
      | [_], h => simp [mE] at h
    | _ => simp [mE] at h
  | .ite z a b, X, sc, e, c, cs, h => by
    cases e with
    | IfExp x y w p =>
      simp only [mE, Bool.and_eq_true, Bool.not_eq_true'] at h
      obtain ⟨⟨⟨⟨⟨h1, h2⟩, h3⟩, h4⟩, h5⟩, h6⟩ := h
      exact ⟨SE.ofE (r_ite ((sndE z x c cs h2).pt h1) ((sndE a y c cs h3).se.fe h5) ((sndE b w c cs h4).se.fe h6) (evE_ite C z a b)), (fun q => nomatch q), (fun q => nomatch q)⟩
    | _ => simp [mE] at h
  | .idx a i, X, sc, e, c, cs, h => by
    cases e with
    | Subscript x y p =>
      simp only [mE, Bool.and_eq_true] at h
      obtain ⟨⟨h1, h2⟩, h3⟩ := h
      exact SA.plain (SE.ofE (r_twoE (F := idxD) (sndE a x c cs h1).se.fa (sndE i y c cs h2).se.fa (fun ha hb => pe_ix ix_seq ha hb (plainIx_of h3)) (fun _ _ => by simp only [evE]) fun H ι B μ v u x y d Q S r1 r2 e k => idx_val S r1 r2 e k)) rfl fun _ => rfl
    | _ => simp [mE] at h
  | .slc a lo hi, X, sc, e, c, cs, h => by
    cases e with
    | Subscript x y p =>
      cases y with
      | Slice l u st p2 =>
        cases st with
        | none =>
          simp only [mE, Bool.and_eq_true] at h
          obtain ⟨⟨h1, h2⟩, h3⟩ := h
          exact SA.plain (SE.ofX (r_slc (sndE a x c cs h1).se.fa (sndO lo l c cs h2) (sndO hi u c cs h3) fun _ _ => by simp only [evE])) rfl fun _ => rfl
        | some _ => simp [mE] at h
      | _ => simp [mE] at h
    | _ => simp [mE] at h
  | .rev a, X, sc, e, c, cs, h => by
    cases e with
    | Subscript x y p =>
      cases y with
      | Slice l u st p2 =>
        match l, u, st, h with
        | none, none, some (.UnaryOp o (.Constant k j p3) p4), h =>
          simp only [mE, Bool.and_eq_true, decide_eq_true_eq] at h
          obtain ⟨⟨h1, h2⟩, h3⟩ := h
          subst h1 h2
          exact SA.plain (SE.ofX (r_rev (sndE a x c cs h3).se.fa fun _ _ => by simp only [evE])) rfl fun _ => rfl
        | some _, _, _, h => simp [mE] at h
        | none, some _, _, h => simp [mE] at h
        | none, none, none, h => simp [mE] at h
        | none, none, some e', h =>
          cases e' with
          | UnaryOp o e'' p4 => cases e'' <;> first | (simp [mE] at h; done) | (simp only [mE, Bool.and_eq_true, decide_eq_true_eq] at h; obtain ⟨⟨h1, h2⟩, h3⟩ := h; subst h1 h2; exact SA.plain (SE.ofX (r_rev (sndE a x c cs h3).se.fa fun _ _ => by simp only [evE])) rfl fun _ => rfl)
          | _ => simp [mE] at h
      | _ => simp [mE] at h
    | _ => simp [mE] at h
  | .call f es, X, sc, e, c, cs, h => by
    cases e with
    | Call g xs kws p =>
      cases g with
      | Name x p0 =>
        cases kws with
        | nil =>
          simp only [mE, Bool.and_eq_true] at h
          obtain ⟨h1, h2⟩ := h
          obtain ⟨m, ps, q1, q2, q3, q4⟩ := defM_ok h1
          obtain ⟨g1, g2, g3⟩ := sndEs es xs c cs h2
          have fr : isFresh Tb.T (.call f es) = m.fresh := by
            show freshF Tb.T f = _
            unfold freshF
            rw [q1]
          refine SA.plain ?_ rfl fun _ => rfl
          rw [fr]
          refine SE.ofCl (r_call c q1 q2 (cs.glo x q3) q4 g1 g2 (fun _ _ => by simp only [evE]) fun env μ r hz hr => ?_)
          subst hz
          have : es = [] := List.length_eq_zero_iff.mp g3
          subst this
          simp only [evEs, Option.some.injEq] at hr
          exact hr.symm
        | cons _ _ => simp [mE] at h
      | _ => simp [mE] at h
    | _ => simp [mE] at h
  | .callk f es ks perm, X, sc, e, c, cs, h => by
    cases e with
    | Call g xs kws p =>
      cases g with
      | Name x p0 =>
        simp only [mE, Bool.and_eq_true, decide_eq_true_eq] at h
        obtain ⟨⟨⟨h1, h2⟩, h3⟩, h4⟩ := h
        obtain ⟨m, ps, q1, q2, q3, q4⟩ := defM_ok h1
        obtain ⟨g1, g2, g3⟩ := sndEs es xs c cs h2
        obtain ⟨k1, k2, k3⟩ := sndKs ks kws c cs h3
        have fr : isFresh Tb.T (.callk f es ks perm) = m.fresh := by
          show freshF Tb.T f = _
          unfold freshF
          rw [q1]
        refine SA.plain ?_ rfl fun _ => rfl
        rw [fr]
        refine SE.ofCl (r_callk c q1 q2 (cs.glo x q3) q4 g1 g2 k1 k2 h4 (fun env μ ds μ' q => ?_) (fun env μ ds μ' q => ?_) (fun env μ r hz hr => ?_) (fun _ _ => by simp only [evE]))
        · rw [evEs_len C es env μ ds μ' q, g3]
        · rw [evEs_len C ks env μ ds μ' q, k3]
        · subst hz
          have : es = [] := List.length_eq_zero_iff.mp g3
          subst this
          simp only [evEs, Option.some.injEq] at hr
          exact hr.symm
      | _ => simp [mE] at h
    | _ => simp [mE] at h
  | .bi b es, X, sc, e, c, cs, h => by
    cases e with
    | Call g xs kws p =>
      cases g with
      | Name x p0 =>
        match xs, kws, h with
        | y :: ys, [], h =>
          simp only [mE, Bool.and_eq_true] at h
          obtain ⟨h1, h2⟩ := h
          obtain ⟨g1, g2⟩ := sndAs es (y :: ys) c cs h2
          rw [List.all_cons, Bool.and_eq_true] at g2
          have cr := cr_bi (X := X) c.calm c.units c.gd b
          refine SA.plain (SE.ofX (r_cb (F := fun μ => biD μ b) g1 (r := biR X.K b) ?_ (fun _ _ => by simp only [evE]) fun H ι B μ vs ds d Q S r e k => bi_val S r e k)) rfl fun _ => rfl
          intro t ht
          by_cases hb : b = .gcd
          · subst hb
            simp only [biM, Bool.and_eq_true, decide_eq_true_eq, Bool.not_eq_true'] at h1
            exact pe_callBfun cr (cs.glo x h1.1.2) (c.gcd x h1.1.1) ht h1.2 (star_cons g2.1 _ _) (star_any _ _ _ g2.2)
          · have h1' : bltM Tb sc x (biNm b) = true := by
              cases b <;> first | exact h1 | exact absurd rfl hb
            obtain ⟨e1, e2, e3⟩ := bltM_ok h1'
            obtain ⟨f1, f2, f3⟩ := biNm_facts b hb
            subst e1
            cases b
            case gcd => exact absurd rfl hb
            case int => exact pe_callTy cr (cs.glo _ e3) (c.blt _ e2) f1 ht f2 f3 (star_cons g2.1 _ _) (star_any _ _ _ g2.2)
            case tuple => exact pe_callTy cr (cs.glo _ e3) (c.blt _ e2) f1 ht f2 f3 (star_cons g2.1 _ _) (star_any _ _ _ g2.2)
            case list => exact pe_callTy cr (cs.glo _ e3) (c.blt _ e2) f1 ht f2 f3 (star_cons g2.1 _ _) (star_any _ _ _ g2.2)
            all_goals exact pe_callB cr (cs.glo _ e3) (c.blt _ e2) f1 ht f2 f3 (star_cons g2.1 _ _) (star_any _ _ _ g2.2)
        | [], _, h => simp [mE] at h
        | _ :: _, _ :: _, h => simp [mE] at h
      | _ => simp [mE] at h
    | _ => simp [mE] at h
  | .bits a, X, sc, e, c, cs, h => by
    cases e with
    | Call g xs kws p =>
      cases g with
      | Attribute o at' apos =>
        cases o with
        | Name x p0 =>
          match xs, kws, h with
          | [], [], h =>
            simp only [mE, Bool.and_eq_true, decide_eq_true_eq] at h
            obtain ⟨⟨h1, h2⟩, h3⟩ := h
            subst h1
            exact SA.plain (SE.ofE (r_bits (sndE a _ c cs h3).se.fa h2 fun _ _ => by simp only [evE] <;> rfl)) rfl fun _ => rfl
          | _ :: _, _, h => simp [mE] at h
          | [], _ :: _, h => simp [mE] at h
        | _ => simp [mE] at h
      | _ => simp [mE] at h
    | _ => simp [mE] at h
  | .isi a ts, X, sc, e, c, cs, h => by
    cases e with
    | Call g xs kws p =>
      cases g with
      | Name x p0 =>
        match xs, kws, h with
        | [y, z], [], h =>
          simp only [mE, Bool.and_eq_true, decide_eq_true_eq] at h
          obtain ⟨⟨⟨⟨h1, h2⟩, h3⟩, h4⟩, h5⟩ := h
          obtain ⟨e1, e2, e3⟩ := bltM_ok h1
          subst e1
          have A := (sndE a y c cs h2).se.fa
          cases z with
          | Name w pw =>
            match ts, h5 with
            | [t], h5 =>
              obtain ⟨f1, f2, f3⟩ := bltM_ok h5
              subst f1
              exact SA.plain (SE.ofE (r_isi1 A (cs.glo _ e3) (c.blt _ e2) (cs.glo _ f3) (c.blt _ f2) h3 fun _ _ => by simp only [evE])) rfl fun _ => rfl
            | [], h5 => simp at h5
            | _ :: _ :: _, h5 => simp at h5
          | Tuple ws k pw =>
            obtain ⟨ps, f1, f2, f3⟩ := tys_zip ts ws h5
            subst f2
            exact SA.plain (SE.ofE (r_isiT A (cs.glo _ e3) (c.blt _ e2) f1 (fun t ht => ⟨cs.glo _ (f3 t ht).2, c.blt _ (f3 t ht).1⟩) h3 h4 fun _ _ => by simp only [evE])) rfl fun _ => rfl
          | _ => simp at h5
        | [], _, h => simp [mE] at h
        | [_], _, h => simp [mE] at h
        | _ :: _ :: _ :: _, _, h => simp [mE] at h
        | [_, _], _ :: _, h => simp [mE] at h
      | _ => simp [mE] at h
    | _ => simp [mE] at h
  | .comp elt tg src ifs own, X, sc, e, c, cs, h => by
    cases e with
    | ListComp e' gs scope p =>
      match gs, h with
      | [⟨tg', iter', ifs', as⟩], h =>
        simp only [mE, Bool.and_eq_true, Bool.not_eq_true', decide_eq_true_eq] at h
        obtain ⟨⟨⟨⟨⟨⟨⟨⟨h1, h2⟩, h3⟩, h4⟩, h5⟩, h6⟩, h7⟩, h8⟩, h9⟩ := h
        subst h9
        have own2 : (ownN X.N own).map (·.2) = own := by
          unfold ownN
          rw [List.map_map]
          exact List.map_id' own
        have hgs : ∀ j, j ∈ tg.slots → j ∈ own := fun j hj => of_decide_eq_true (List.all_eq_true.mp h7 j hj)
        have bo := blkOk_by h6
        have bo' : BlkOk X.N X.env.scope scope (ownN X.N own) := ⟨bo.kind, bo.uniq, bo.ix, fun y hy e => cs.up _ (bo.free y hy e), bo.own⟩
        have z := pe_lc (pos := p) (wi := tI X.K (evI C src)) (g := tG X.K tg) (tt := tB X.K (evCs C ifs)) (te := tE X.K (evE C elt)) c.calm c.nd (sndI src tg' iter' c cs h1) bo'
          (fun s H C' cl fp => g_ok (X := X.blk s H scope (compEnvC scope cl C' X.env) fp) c.calm c.nd (cs.blk s H C' cl fp) tg tg' h2)
          (fun s H C' cl fp => sndCs ifs ifs' (c.blk s H scope (compEnvC scope cl C' X.env) fp) (cs.blk s H C' cl fp) h3)
          (fun s H C' cl fp => (sndE elt e' (c.blk s H scope (compEnvC scope cl C' X.env) fp) (cs.blk s H C' cl fp) h4).se.fe h5) (setFree_of h8 X.env)
        rw [own2] at z
        have q : evE C (.comp elt tg src ifs own) = compEv tg own (evI C src) (evCs C ifs) (evE C elt) := by
          funext env μ
          simp only [evE, compEv]
        refine SA.plain (SE.ofX (PEcon z fun σ H Q w => lc_read hgs ?_)) rfl fun _ => rfl
        rw [← q]
        exact w
      | [], h => simp [mE] at h
      | _ :: _ :: _, h => simp [mE] at h
    | _ => simp [mE] at h
theorem sndAs : ∀ (ms : List ME) {X : Cx} {sc : Scope} (es : List Expr), CxE Tb C n X → CxS X sc → mAs Tb X.N sc ms es = true → PA X es (tAs X.K (evEs C ms)) ∧ es.all noStar = true
  | [], X, sc, es, c, cs, h => by
    cases es with
    | nil => exact ⟨PAcon pas_nil fun _ _ _ h => by simpa only [evEs] using h, rfl⟩
    | cons _ _ => simp [mAs] at h
  | m :: ms, X, sc, es, c, cs, h => by
    cases es with
    | nil => simp [mAs] at h
    | cons e es =>
      simp only [mAs, Bool.and_eq_true] at h
      obtain ⟨⟨h1, h3⟩, h4⟩ := h
      obtain ⟨g1, g2⟩ := sndAs ms es c cs h4
      have A := sndE m e c cs h3
      refine ⟨?_, by rw [List.all_cons, h1, g2]; rfl⟩
      have z := pas_cons A.se.fa g1 h1
      have q : evEs C (m :: ms) = fun env μ => (evE C m env μ).bind fun p => (evEs C ms env p.2).map fun q => (p.1 :: q.1, q.2) := by
        funext env μ
        simp only [evEs]
      rw [q]
      exact z
theorem sndKs : ∀ (ms : List ME) {X : Cx} {sc : Scope} (kws : List Keyword), CxE Tb C n X → CxS X sc → mKs Tb X.N sc ms kws = true → PK X kws (tEs X.K (evEs C ms)) ∧ kwPlain kws = true ∧ ms.length = (kwNames kws).length
  | [], X, sc, es, c, cs, h => by
    cases es with
    | nil => exact ⟨PKcon pks_nil fun _ _ _ h => by simpa only [evEs] using h, rfl, rfl⟩
    | cons _ _ => simp [mKs] at h
  | m :: ms, X, sc, es, c, cs, h => by
    cases es with
    | nil => simp [mKs] at h
    | cons e es =>
      obtain ⟨a, v, kp⟩ := e
      cases a with
      | none => simp [mKs] at h
      | some a =>
        simp only [mKs, Bool.and_eq_true, Bool.not_eq_true'] at h
        obtain ⟨⟨⟨h1, h2⟩, h3⟩, h4⟩ := h
        obtain ⟨g1, g2, g3⟩ := sndKs ms es c cs h4
        have A := sndE m v c cs h3
        refine ⟨?_, by show (noStar v && kwPlain es) = true; rw [h1, g2]; rfl, by show _ = (a :: kwNames es).length; rw [List.length_cons, List.length_cons, g3]⟩
        have z := pks_cons (nm := some a) (kp := kp) (A.se.fe h2) g1
        have q : evEs C (m :: ms) = fun env μ => (evE C m env μ).bind fun p => (evEs C ms env p.2).map fun q => (p.1 :: q.1, q.2) := by
          funext env μ
          simp only [evEs]
        rw [q]
        exact z
theorem sndCs : ∀ (ms : List ME) {X : Cx} {sc : Scope} (es : List Expr), CxE Tb C n X → CxS X sc → mCs Tb X.N sc ms es = true → PTs X es (tB X.K (evCs C ms))
  | [], X, sc, es, c, cs, h => by
    cases es with
    | nil =>
      refine ⟨fun pins s σ H Q I w => pts_nil.run pins s σ H Q I ?_⟩
      obtain ⟨env, μ, ι, B, B0, b, μ', a, e, k⟩ := w
      simp only [evCs, Option.some.injEq, Prod.mk.injEq] at e
      obtain ⟨e1, e2⟩ := e
      subst e1 e2
      exact k H ι (Nx.refl a.s)
    | cons _ _ => simp [mCs] at h
  | m :: ms, X, sc, es, c, cs, h => by
    cases es with
    | nil => simp [mCs] at h
    | cons e es =>
      simp only [mCs, Bool.and_eq_true, List.isEmpty_iff] at h
      obtain ⟨⟨⟨h1, h2⟩, h3⟩, h4⟩ := h
      subst h3
      cases es with
      | cons _ _ => simp [mCs] at h4
      | nil =>
        have A := (sndE m e c cs h2).pt h1
        have q : evCs C [m] = evT C m := by
          funext env μ
          exact evCs_one C m env μ
        rw [q]
        exact pts_one A
theorem sndI : ∀ (m : MI) {X : Cx} {sc : Scope} (tg e : Expr), CxE Tb C n X → CxS X sc → mI Tb X.N sc m tg e = true → PI X tg e (tI X.K (evI C m))
  | .seq m, X, sc, tg, e, c, cs, h => by
    simp only [mI] at h
    have A := (sndE m e c cs h).se
    refine i_seq A ov_is (fun z i q => ?_) (ov_shape C m) fun _ _ => by simp only [evI]
    rw [q] at z
    cases z
  | .rng es, X, sc, tg, e, c, cs, h => by
    cases e with
    | Call g xs kws p =>
      cases g with
      | Name x p0 =>
        match xs, kws, h with
        | y :: ys, [], h =>
          simp only [mI, Bool.and_eq_true, decide_eq_true_eq] at h
          obtain ⟨⟨h1, h2⟩, h3⟩ := h
          obtain ⟨e1, e2, e3⟩ := bltM_ok h1
          subst e1
          obtain ⟨g1, g2⟩ := sndAs es (y :: ys) c cs h2
          match es, ys, h2, h3, g1, g2 with
          | [a], [], h2, _, g1, g2 =>
            rw [List.all_cons, Bool.and_eq_true] at g2
            refine i_rng1 (cs.glo _ e3) (c.blt _ e2) g1 g2.1 fun env μ r q => ?_
            rcases rng_shape C [a] env μ r q with ⟨j, μ', z⟩ | ⟨i, j, μ', z, _⟩
            · exact ⟨j, μ', z⟩
            · have l := evEs_len C [a] env μ _ _ z
              simp at l
          | [a, b], [w], h2, _, g1, g2 =>
            rw [List.all_cons, List.all_cons, Bool.and_eq_true, Bool.and_eq_true] at g2
            refine i_rng2 (cs.glo _ e3) (c.blt _ e2) g1 g2.1 g2.2.1 fun env μ r q => ?_
            rcases rng_shape C [a, b] env μ r q with ⟨j, μ', z, _⟩ | ⟨i, j, μ', z⟩
            · have l := evEs_len C [a, b] env μ _ _ z
              simp at l
            · exact ⟨i, j, μ', z⟩
          | [], _, h2, _, _, _ => simp [mAs] at h2
          | [_], _ :: _, h2, _, _, _ => simp [mAs] at h2
          | [_, _], [], h2, _, _, _ => simp [mAs] at h2
          | [_, _], _ :: _ :: _, h2, _, _, _ => simp [mAs] at h2
          | _ :: _ :: _ :: _, _, _, h3, _, _ => simp at h3
        | [], _, h => simp [mI] at h
        | _ :: _, _ :: _, h => simp [mI] at h
      | _ => simp [mI] at h
    | _ => simp [mI] at h
  | .zip a b, X, sc, tg, e, c, cs, h => by
    cases tg with
    | Tuple ts k pt =>
      cases e with
      | Call g xs kws p =>
        cases g with
        | Name x p0 =>
          match xs, kws, h with
          | [y, z], [], h =>
            simp only [mI, Bool.and_eq_true] at h
            obtain ⟨⟨⟨⟨h1, h2⟩, h3⟩, h4⟩, h5⟩ := h
            obtain ⟨e1, e2, e3⟩ := bltM_ok h1
            subst e1
            exact i_zip (cs.glo _ e3) (c.blt _ e2) (sndE a y c cs h2).se (sndE b z c cs h3).se h4 h5 ov_is ov_is (ov_shape C a) (ov_shape C b) fun _ _ => by simp only [evI] <;> rfl
          | [], _, h => simp [mI] at h
          | [_], _, h => simp [mI] at h
          | _ :: _ :: _ :: _, _, h => simp [mI] at h
          | [_, _], _ :: _, h => simp [mI] at h
        | _ => simp [mI] at h
      | _ => simp [mI] at h
    | _ => simp [mI] at h
  | .enum a, X, sc, tg, e, c, cs, h => by
    cases tg with
    | Tuple ts k pt =>
      cases e with
      | Call g xs kws p =>
        cases g with
        | Name x p0 =>
          match xs, kws, h with
          | [y], [], h =>
            simp only [mI, Bool.and_eq_true] at h
            obtain ⟨⟨h1, h2⟩, h3⟩ := h
            obtain ⟨e1, e2, e3⟩ := bltM_ok h1
            subst e1
            exact i_enum (cs.glo _ e3) (c.blt _ e2) (sndE a y c cs h2).se h3 ov_is (ov_shape C a) fun _ _ => by simp only [evI]
          | [], _, h => simp [mI] at h
          | _ :: _ :: _, _, h => simp [mI] at h
          | [_], _ :: _, h => simp [mI] at h
        | _ => simp [mI] at h
      | _ => simp [mI] at h
    | _ => simp [mI] at h
theorem sndO : ∀ (m : Option ME) {X : Cx} {sc : Scope} (e : Option Expr), CxE Tb C n X → CxS X sc → mO Tb X.N sc m e = true → PO X e (tO X.K (evO C m))
  | none, X, sc, e, c, cs, h => by
    cases e with
    | none => exact POcon pos_none fun _ _ _ h => by simpa only [evO] using h
    | some _ => simp [mO] at h
  | some m, X, sc, e, c, cs, h => by
    cases e with
    | none => simp [mO] at h
    | some e =>
      simp only [mO] at h
      exact pos_some (sndE m e c cs h).se.fa fun _ _ => by simp only [evO] <;> rfl
theorem sndEs : ∀ (ms : List ME) {X : Cx} {sc : Scope} (es : List Expr), CxE Tb C n X → CxS X sc → mEs Tb X.N sc ms es = true → PA X es (tEs X.K (evEs C ms)) ∧ es.all noStar = true ∧ ms.length = es.length
  | [], X, sc, es, c, cs, h => by
    cases es with
    | nil => exact ⟨PAcon pes_nil fun _ _ _ h => by simpa only [evEs] using h, rfl, rfl⟩
    | cons _ _ => simp [mEs] at h
  | m :: ms, X, sc, es, c, cs, h => by
    cases es with
    | nil => simp [mEs] at h
    | cons e es =>
      simp only [mEs, Bool.and_eq_true, Bool.not_eq_true'] at h
      obtain ⟨⟨⟨h1, h2⟩, h3⟩, h4⟩ := h
      obtain ⟨g1, g2, g3⟩ := sndEs ms es c cs h4
      have A := sndE m e c cs h3
      refine ⟨?_, by rw [List.all_cons, h1, g2]; rfl, by rw [List.length_cons, List.length_cons, g3]⟩
      have z := pes_cons (A.se.fe h2) g1 h1
      have q : evEs C (m :: ms) = fun env μ => (evE C m env μ).bind fun p => (evEs C ms env p.2).map fun q => (p.1 :: q.1, q.2) := by
        funext env μ
        simp only [evEs]
      rw [q]
      exact z
end
end
end DI
set_option Elab.async false
set_option linter.all false
set_option maxRecDepth 100000
set_option maxHeartbeats 4000000
/-! DI15: stores of several names at once; the rules of statements -/
namespace DI
open PySem PySem.Spec PyProof.Rows L2
def swLine (ts : List Expr) : Nat := (ts.head?.map (·.pos.line)).getD 0
def swNames (sc : Scope) (ts : List Expr) : List Str := ts.filterMap fun
    | .Name id pos => if sc.names.lookup id == some .local && pos.line == swLine ts then some id else none
    | _ => none
def isStarB : Expr → Bool
  | .Starred .. => true
  | _ => false
def swTest (sc : Scope) (ts vs : List Expr) : Bool := (ts.length == 2 || ts.length == 3) && vs.length == ts.length && !(vs.any isStarB) && (swNames sc ts).length == ts.length && (swNames sc ts).eraseDups.length == (swNames sc ts).length && !(vs.all (foldedForSure 8))
theorem bk_fun {env : Env} (hk : env.scope.kind = .function) : (env.blockKind != .function) = false := by
  unfold Env.blockKind
  rw [hk]
  rfl
theorem any_star (vs : List Expr) : (vs.any fun | .Starred .. => true | _ => false) = vs.any isStarB := by
  congr 1
theorem sw_shape {env : Env} {ts vs : List Expr} {k k2 : Nat} {p p2 : Pos} (hk : env.scope.kind = .function) : swappedStores [.Tuple ts k p] (.Tuple vs k2 p2) env =
    (if (!(ts.length == 2 || ts.length == 3) || vs.length != ts.length || false) = true then pure none else if vs.any isStarB = true then pure none
      else if ((swNames env.scope ts).length != ts.length || (swNames env.scope ts).eraseDups.length != (swNames env.scope ts).length) = true then pure none
      else if vs.all (foldedForSure 8) = true then pure none
      else if vs.all (constantsAlone 8) = true then (do unsupported "assign.tuple-of-constant-expressions:order-of-the-stores"; pure (some (swNames env.scope ts))) else pure (some (swNames env.scope ts))) := by
  unfold swappedStores
  dsimp only
  rw [bk_fun hk]
  rfl
theorem sw_none {env : Env} {ts vs : List Expr} {k k2 : Nat} {p p2 : Pos} (hk : env.scope.kind = .function) (h : swTest env.scope ts vs = false) : swappedStores [.Tuple ts k p] (.Tuple vs k2 p2) env = pure none := by
  rw [sw_shape hk]
  unfold swTest at h
  cases h1 : (ts.length == 2 || ts.length == 3) <;> cases h2 : (vs.length == ts.length) <;> cases h3 : vs.any isStarB <;> cases h4 : ((swNames env.scope ts).length == ts.length) <;> cases h5 : ((swNames env.scope ts).eraseDups.length == (swNames env.scope ts).length) <;> cases h6 : vs.all (foldedForSure 8) <;>
    simp only [h1, h2, h3, h4, h5, h6, bne] at h ⊢ <;> first | rfl | (exact absurd h (by decide))
theorem sw_some {env : Env} {ts vs : List Expr} {k k2 : Nat} {p p2 : Pos} (hk : env.scope.kind = .function) (h : swTest env.scope ts vs = true) (hc : vs.all (constantsAlone 8) = false) : swappedStores [.Tuple ts k p] (.Tuple vs k2 p2) env = pure (some (swNames env.scope ts)) := by
  rw [sw_shape hk]
  unfold swTest at h
  simp only [Bool.and_eq_true, Bool.not_eq_true'] at h
  obtain ⟨⟨⟨⟨⟨h1, h2⟩, h3⟩, h4⟩, h5⟩, h6⟩ := h
  simp only [h1, h2, h3, h4, h5, h6, hc, bne]
  rfl
end DI
set_option Elab.async false
set_option linter.all false
set_option maxRecDepth 100000
set_option maxHeartbeats 4000000
/-! DI16: the rules of statements -/
namespace DI
open PySem PySem.Spec PyProof.Rows L2
section
variable {K : PySem.W.Frag} {H H0 H1 H' : Hp} {ι ι0 ι1 ι' : Cells} {B B0 B1 B' : List Addr} {μ μ1 μ' : Mem} {σ : L2.St} {env : Ev} {v : V} {d : D} {Q : VK}
theorem Ext.shrink (x : Ext H0 ι0 B0 H ι B) (h0 : ∀ a, a ∈ B0 → a ∈ B1) (h1 : ∀ a, a ∈ B1 → a ∈ B) : Ext H0 ι0 B0 H ι B1 where
  fr := fun a o h => by
    obtain ⟨k, e⟩ := cut_some (x.fr a o h)
    exact cut_of (held_mono k h1) e
  cells := x.cells
  sub := h0
  dom := x.dom
  new := fun a h n => x.new a (h1 a h) n
theorem up_shrink (h1 : ∀ a, a ∈ B1 → a ∈ B) : Up (cut H ι B) ι (cut H ι B1) ι := ⟨fun a o h => by
    obtain ⟨k, e⟩ := cut_some h
    exact cut_of (held_mono k h1) e, fun _ x e => ⟨x, e, .inr rfl⟩⟩
theorem Sim.shrink (S : Sim K H ι B μ) (h1 : ∀ a, a ∈ B1 → a ∈ B) : Sim K H ι B1 μ where
  len := S.len
  inj := S.inj
  apart := fun a h q => S.apart a h (h1 a q)
  there := S.there
  busy := fun a h => S.busy a (h1 a h)
  cell := fun n ds h => by
    obtain ⟨a, vs, e1, e2, r⟩ := S.cell n ds h
    exact ⟨a, vs, e1, e2, r.up (up_shrink h1)⟩
theorem KE.inn (k : KE K H0 ι0 B0 μ' d Q) (x : Ext H0 ι0 B0 H ι B) (kp : Keep B0 H0 H) : KE K H ι B μ' d Q := fun v H' ι' n r =>
  k v H' ι' ⟨(x.trans n.x).shrink (fun _ h => h) x.sub, kp.trans (n.k.mono x.sub), n.s.shrink x.sub⟩ (r.up (up_shrink x.sub))
theorem KF.inn {ds : List D} (k : KF K H0 ι0 B0 μ' ds Q) (x : Ext H0 ι0 B0 H ι B) (kp : Keep B0 H0 H) : KF K H ι B μ' ds Q := fun p vs H' ι' hp x' kk S hl r => by
  have sb : ∀ a, a ∈ p :: B0 → a ∈ p :: B := fun a h => (List.mem_cons.mp h).elim (fun e => by rw [e]; exact List.mem_cons_self) fun e => List.mem_cons_of_mem _ (x.sub a e)
  exact k p vs H' ι' (x.dom p hp) ((x.trans x').shrink (fun _ h => List.mem_cons_of_mem _ h) sb) (kp.trans (kk.mono x.sub)) (S.shrink sb) hl (r.up (up_shrink sb))
theorem KX.inn (k : KX K H0 ι0 B0 μ' d Q) (x : Ext H0 ι0 B0 H ι B) (kp : Keep B0 H0 H) : KX K H ι B μ' d Q := by
  cases d with
  | lst ds => exact KF.inn k x kp
  | _ => exact KE.inn k x kp
/-- at a point of a def that was entered at H0 -/
structure Fat (K : PySem.W.Frag) (H0 : Hp) (ι0 : Cells) (B0 : List Addr) (H : Hp) (ι : Cells) (B : List Addr) (μ : Mem) (σ : L2.St) (env : Ev) : Prop where
  x : Ext H0 ι0 B0 H ι B
  k : Keep B0 H0 H
  a : At K H ι B B0 μ σ env
theorem Fat.nx (f : Fat K H0 ι0 B0 H ι B μ σ env) (n : Nx K H ι B H1 ι1 μ1) : Fat K H0 ι0 B0 H1 ι1 B μ1 σ env := ⟨f.x.trans n.x, f.k.trans (n.k.mono f.x.sub), f.a.nx n⟩
theorem cell_at {n : Nat} {ds : List D} (S : Sim K H ι B μ) (r : RepA K H ι B v (.ref n)) (e : (μ[n]?).join = some ds) : ∃ a vs, v = .ref a ∧ ι[n]? = some (some a) ∧ H a = some (.lst vs) ∧ Reps K (cut H ι B) ι vs ds := by
  cases r with
  | rep r =>
    cases r with
    | @ref _ _ x e1 h =>
      cases q : μ[n]? with
      | none => rw [q] at e; cases e
      | some y =>
        rw [q] at e
        have e2 : y = some ds := e
        rw [e2] at q
        obtain ⟨a, vs, h1, h2, r⟩ := S.cell n ds q
        rw [h1] at e1
        cases e1
        exact ⟨a, vs, h a rfl, h1, h2, r⟩
theorem Sim.cset {n : Nat} {a : Addr} {vs : List V} {ds : List D} (S : Sim K H ι B μ) (e1 : ι[n]? = some (some a)) (r : Reps K (cut H ι B) ι vs ds) : Sim K (upd H a (.lst vs)) ι B (μ.set n (some ds)) := by
  have ha : some a ∈ ι := List.mem_of_getElem? e1
  have cw : cut (upd H a (.lst vs)) ι B = cut H ι B := cut_write (.inl ha)
  refine ⟨by rw [List.length_set]; exact S.len, S.inj, S.apart, fun b hb => ?_, fun b hb => ?_, fun m es h => ?_⟩
  · by_cases e : b = a
    · rw [e]; exact ⟨_, upd_same⟩
    · rw [upd_ne e]; exact S.there b hb
  · have e : b ≠ a := fun e => S.apart a ha (by rw [← e]; exact hb)
    rw [upd_ne e]; exact S.busy b hb
  · rw [cw]
    by_cases hm : n = m
    · subst hm
      have hl : n < μ.length := by
        have := (List.getElem?_eq_some_iff.mp h).1
        rw [List.length_set] at this
        exact this
      rw [List.getElem?_set_self hl] at h
      cases h
      exact ⟨a, vs, e1, upd_same, r⟩
    · rw [List.getElem?_set_ne hm] at h
      obtain ⟨b, us, f1, f2, f3⟩ := S.cell m es h
      refine ⟨b, us, f1, ?_, f3⟩
      rw [upd_ne fun e => hm (S.inj n m a e1 (by rw [← e]; exact f1))]
      exact f2
theorem Ext.cwrite {a : Addr} {o : HO} (ha : some a ∈ ι) (he : H a ≠ none) : Ext H ι B (upd H a o) ι B where
  fr := by rw [cut_write (.inl ha)]; exact Same.refl _
  cells := fun _ x e => ⟨x, e, .inr rfl⟩
  sub := fun _ h => h
  dom := fun b hb => by
    by_cases e : b = a
    · rw [e, upd_same] at hb; cases hb
    · rw [upd_ne e] at hb; exact hb
  new := fun b h n => absurd h n
/-- a cell is written: a step -/
theorem nx_cset {n : Nat} {a : Addr} {vs ws : List V} {ds : List D} (S : Sim K H ι B μ) (e1 : ι[n]? = some (some a)) (h : H a = some (.lst ws)) (r : Reps K (cut H ι B) ι vs ds) : Nx K H ι B (upd H a (.lst vs)) ι (μ.set n (some ds)) :=
  ⟨Ext.cwrite (List.mem_of_getElem? e1) (by rw [h]; exact fun z => nomatch z), fun b hb => upd_ne fun e => S.apart a (List.mem_of_getElem? e1) (by rw [← e]; exact hb), S.cset e1 r⟩
/-- a list of one's own is written -/
theorem REnv.oset {i : Nat} {a : Addr} {vs : List V} {ds ds' : List D} (R : REnv K H ι B B0 σ env) (he : env[i]? = some (.own ds)) (hs : σ[i]? = some (some (.ref a))) (hb : a ∈ B) (hb0 : a ∉ B0) (r : Reps K (cut H ι B) ι vs ds') :
    REnv K (upd H a (.lst vs)) ι B B0 σ (env.set i (.own ds')) := by
  have cw : cut (upd H a (.lst vs)) ι B = cut H ι B := cut_write (.inr hb)
  have hl : i < env.length := (List.getElem?_eq_some_iff.mp he).1
  have old : ∀ (j : Nat) (es : List D), (env.set i (.own ds'))[j]? = some (.own es) → ∃ es', env[j]? = some (.own es') := fun j es h => by
    by_cases hj : i = j
    · exact ⟨ds, by rw [← hj]; exact he⟩
    · rw [List.getElem?_set_ne hj] at h; exact ⟨es, h⟩
  refine ⟨by rw [List.length_set]; exact R.len, fun j d h => ?_, fun j es h => ?_, fun j k es fs b h1 h2 h3 h4 => ?_⟩
  · rw [cw]
    by_cases hj : i = j
    · subst hj
      rw [List.getElem?_set_self hl] at h; cases h
    · rw [List.getElem?_set_ne hj] at h; exact R.val j d h
  · rw [cw]
    by_cases hj : i = j
    · subst hj
      rw [List.getElem?_set_self hl] at h
      cases h
      exact ⟨a, vs, hs, hb, hb0, upd_same, r⟩
    · rw [List.getElem?_set_ne hj] at h
      obtain ⟨b, us, f1, f2, f3, f4, f5⟩ := R.own j es h
      refine ⟨b, us, f1, f2, f3, ?_, f5⟩
      rw [upd_ne fun e => hj (R.sep i j ds es a he h hs (by rw [← e]; exact f1))]
      exact f4
  · obtain ⟨es', g1⟩ := old j es h1
    obtain ⟨fs', g2⟩ := old k fs h2
    exact R.sep j k es' fs' b g1 g2 h3 h4
theorem REnv.onew {i : Nat} {p : Addr} {vs : List V} {ds : List D} (R : REnv K H ι B B0 σ env) (np : p ∉ B) (hb : p ∈ B') (hb0 : p ∉ B0) (hl : H' p = some (.lst vs)) (r : Reps K (cut H' ι' B') ι' vs ds) (x : Ext H ι B H' ι' B') (k : Keep B H H') :
    REnv K H' ι' B' B0 (σ.set i (some (.ref p))) (env.set i (.own ds)) := by
  have R' := R.ext x k
  refine ⟨by rw [List.length_set, List.length_set]; exact R.len, fun j d h => ?_, fun j es h => ?_, fun j k' es fs b h1 h2 h3 h4 => ?_⟩
  · by_cases hj : i = j
    · subst hj
      have hl' : i < env.length := by
        have := (List.getElem?_eq_some_iff.mp h).1
        rw [List.length_set] at this
        exact this
      rw [List.getElem?_set_self hl'] at h; cases h
    · rw [List.getElem?_set_ne hj] at h ⊢; exact R'.val j d h
  · by_cases hj : i = j
    · subst hj
      have hl' : i < env.length := by
        have := (List.getElem?_eq_some_iff.mp h).1
        rw [List.length_set] at this
        exact this
      rw [List.getElem?_set_self hl'] at h
      cases h
      exact ⟨p, vs, List.getElem?_set_self (by rw [← R.len]; exact hl'), hb, hb0, hl, r⟩
    · rw [List.getElem?_set_ne hj] at h ⊢; exact R'.own j es h
  · by_cases hj : i = j
    · by_cases hk : i = k'
      · exact hj.symm.trans hk
      · subst hj
        have hl' : i < σ.length := by
          have := (List.getElem?_eq_some_iff.mp h3).1
          rw [List.length_set] at this
          exact this
        rw [List.getElem?_set_self hl'] at h3
        cases h3
        rw [List.getElem?_set_ne hk] at h2 h4
        obtain ⟨b', us, f1, f2, _⟩ := R.own k' fs h2
        rw [h4] at f1
        cases f1
        exact absurd f2 np
    · by_cases hk : i = k'
      · subst hk
        have hl' : i < σ.length := by
          have := (List.getElem?_eq_some_iff.mp h4).1
          rw [List.length_set] at this
          exact this
        rw [List.getElem?_set_self hl'] at h4
        cases h4
        rw [List.getElem?_set_ne hj] at h1 h3
        obtain ⟨b', us, f1, f2, _⟩ := R.own j es h1
        rw [h3] at f1
        cases f1
        exact absurd f2 np
      · rw [List.getElem?_set_ne hj] at h1 h3
        rw [List.getElem?_set_ne hk] at h2 h4
        exact R.sep j k' es fs b h1 h2 h3 h4
end
def postS (K : PySem.W.Frag) (H0 : Hp) (ι0 : Cells) (B0 : List Addr) (fr : Bool) (H : Hp) (ι : Cells) (B : List Addr) (D : Ends) (f : Fl) (μ' : Mem) : Prop := match f with
  | .nx e => ∀ σ' H' ι' B', Fat K H0 ι0 B0 H' ι' B' μ' σ' e → Ext H ι B H' ι' B' → D.nx σ' H'
  | .bk e => ∀ σ' H' ι' B', Fat K H0 ι0 B0 H' ι' B' μ' σ' e → Ext H ι B H' ι' B' → D.bk σ' H'
  | .ct e => ∀ σ' H' ι' B', Fat K H0 ι0 B0 H' ι' B' μ' σ' e → Ext H ι B H' ι' B' → D.ct σ' H'
  | .rt d => if fr = true then KX K H0 ι0 B0 μ' d D.rt else KE K H0 ι0 B0 μ' d D.rt
def tS (K : PySem.W.Frag) (H0 : Hp) (ι0 : Cells) (B0 : List Addr) (fr : Bool) (ev : Ev → Mem → Option (Fl × Mem)) : TS := fun D σ H => ∃ env μ ι B f μ', Fat K H0 ι0 B0 H ι B μ σ env ∧ ev env μ = some (f, μ') ∧ postS K H0 ι0 B0 fr H ι B D f μ'
section
variable {X : Cx} {H0 : Hp} {ι0 : Cells} {B0 : List Addr} {fr : Bool} {e tg c iter : Expr} {es : List Expr} {body sa sb : List Stmt} {st : Stmt} {ea eb : Ev → Mem → Option (D × Mem)} {et : Ev → Mem → Option (Bool × Mem)} {evs : Ev → Mem → Option (List D × Mem)} {ev ev1 ev2 : Ev → Mem → Option (Fl × Mem)} {pos : Pos} {te : TE} {i : Nat}
/-- what was wanted further out is wanted here -/
theorem postS.back {K : PySem.W.Frag} {H H1 : Hp} {ι ι1 : Cells} {B B1 : List Addr} {D : Ends} {f : Fl} {μ' : Mem} (p : postS K H0 ι0 B0 fr H ι B D f μ') (x : Ext H ι B H1 ι1 B1) : postS K H0 ι0 B0 fr H1 ι1 B1 D f μ' := by
  cases f with
  | nx e => exact fun σ' H' ι' B' F y => p σ' H' ι' B' F (x.trans y)
  | bk e => exact fun σ' H' ι' B' F y => p σ' H' ι' B' F (x.trans y)
  | ct e => exact fun σ' H' ι' B' F y => p σ' H' ι' B' F (x.trans y)
  | rt d => exact p
theorem s_asg {g : MG} (he : PE X e (tE X.K ea)) (hg : PG X tg (tG X.K g)) (hs : swapsWithSole [tg] e pos.line X.env = pure false) (hw : swappedStores [tg] e X.env = pure none) (h1 : (assignEach [tg] X.env).map (·.2) = [assign tg X.env])
    (hev : ∀ env μ, ev env μ = (ea env μ).bind fun p => (bindG g p.1 env).map fun e1 => (.nx e1, p.2)) : PS X (.Assign [tg] e pos) (tS X.K H0 ι0 B0 fr ev) :=
  PScon (ps_asg he hg hs hw h1) fun D σ H ⟨env, μ, ι, B, f, μ', F, e, p⟩ => by
    rw [hev] at e
    obtain ⟨⟨x, μ1⟩, e1, e⟩ := Option.bind_eq_some_iff.mp e
    obtain ⟨env', e2, e3⟩ := Option.map_eq_some_iff.mp e
    cases e3
    exact ⟨env, μ, ι, B, B0, x, _, F.a, e1, fun v H' ι' n r => ⟨env, ι', B, B0, _, x, env', F.a.nx n, r, e2, fun σ' a' _ _ => p σ' H' ι' B ⟨(F.nx n).x, (F.nx n).k, a'⟩ n.x⟩⟩
theorem s_name (h : PS X st (tAsg te (gName i))) (hte : ∀ σ H Q, tE X.K ea σ H Q → te σ H Q) (hev : ∀ env μ, ev env μ = (ea env μ).bind fun p => (bindG (.nm i) p.1 env).map fun e1 => (.nx e1, p.2)) : PS X st (tS X.K H0 ι0 B0 fr ev) :=
  PScon h fun D σ H ⟨env, μ, ι, B, f, μ', F, e, p⟩ => by
    rw [hev] at e
    obtain ⟨⟨x, μ1⟩, e1, e⟩ := Option.bind_eq_some_iff.mp e
    cases e
    exact hte _ _ _ ⟨env, μ, ι, B, B0, x, _, F.a, e1, fun v H' ι' n r => p _ H' ι' B ⟨(F.nx n).x, (F.nx n).k, ⟨n.s, (n.renv F.a.r).set i r⟩⟩ n.x⟩
theorem s_own (h : PS X st (tAsg te (gName i))) (hte : ∀ σ H Q, tX X.K ea σ H Q → te σ H Q) (hev : ∀ env μ, ev env μ = (ea env μ).bind fun p => match p.1 with
    | .lst ds => some (.nx (env.set i (.own ds)), p.2)
    | _ => none) : PS X st (tS X.K H0 ι0 B0 fr ev) :=
  PScon h fun D σ H ⟨env, μ, ι, B, f, μ', F, e, p⟩ => by
    rw [hev] at e
    obtain ⟨⟨x, μ1⟩, e1, e⟩ := Option.bind_eq_some_iff.mp e
    cases x with
    | lst ds =>
      cases e
      refine hte _ _ _ ⟨env, μ, ι, B, B0, .lst ds, _, F.a, e1, fun q vs H' ι' hq x kk S hl r => ?_⟩
      have np : q ∉ B := fun z => by
        obtain ⟨o, ho⟩ := F.a.s.busy q z
        rw [hq] at ho; cases ho
      exact p _ H' ι' (q :: B) ⟨F.x.trans x, F.k.trans (kk.mono F.x.sub), ⟨S, F.a.r.onew np List.mem_cons_self (fun z => np (F.x.sub q z)) hl r x kk⟩⟩ x
    | _ => cases e
theorem s_par2 {i j : Nat} (h : PS X st (tPar i j (tEs X.K evs))) (hev : ∀ env μ, ev env μ = (evs env μ).bind fun p => (parE [i, j] p.1 env).map fun e1 => (.nx e1, p.2)) : PS X st (tS X.K H0 ι0 B0 fr ev) :=
  PScon h fun D σ H ⟨env, μ, ι, B, f, μ', F, e, p⟩ => by
    rw [hev] at e
    obtain ⟨⟨ds, μ1⟩, e1, e⟩ := Option.bind_eq_some_iff.mp e
    obtain ⟨env', e2, e3⟩ := Option.map_eq_some_iff.mp e
    cases e3
    match ds, e2, e1 with
    | [d1, d2], e2, e1 =>
      simp only [parE, Option.some.injEq] at e2
      subst e2
      refine ⟨env, μ, ι, B, B0, _, _, F.a, e1, fun vs H' ι' n r => ?_⟩
      cases r with
      | cons r1 r =>
        cases r with
        | cons r2 r =>
          cases r
          exact ⟨_, _, rfl, p _ H' ι' B ⟨(F.nx n).x, (F.nx n).k, ⟨n.s, ((n.renv F.a.r).set i r1).set j r2⟩⟩ n.x⟩
    | [], e2, _ => simp [parE] at e2
    | [_], e2, _ => simp [parE] at e2
    | _ :: _ :: _ :: _, e2, _ => simp [parE] at e2
theorem s_par3 {i j l : Nat} (h : PS X st (tPar3 i j l (tEs X.K evs))) (hev : ∀ env μ, ev env μ = (evs env μ).bind fun p => (parE [i, j, l] p.1 env).map fun e1 => (.nx e1, p.2)) : PS X st (tS X.K H0 ι0 B0 fr ev) :=
  PScon h fun D σ H ⟨env, μ, ι, B, f, μ', F, e, p⟩ => by
    rw [hev] at e
    obtain ⟨⟨ds, μ1⟩, e1, e⟩ := Option.bind_eq_some_iff.mp e
    obtain ⟨env', e2, e3⟩ := Option.map_eq_some_iff.mp e
    cases e3
    match ds, e2, e1 with
    | [d1, d2, d3], e2, e1 =>
      simp only [parE, Option.some.injEq] at e2
      subst e2
      refine ⟨env, μ, ι, B, B0, _, _, F.a, e1, fun vs H' ι' n r => ?_⟩
      cases r with
      | cons r1 r =>
        cases r with
        | cons r2 r =>
          cases r with
          | cons r3 r =>
            cases r
            exact ⟨_, _, _, rfl, p _ H' ι' B ⟨(F.nx n).x, (F.nx n).k, ⟨n.s, (((n.renv F.a.r).set i r1).set j r2).set l r3⟩⟩ n.x⟩
    | [], e2, _ => simp [parE] at e2
    | [_], e2, _ => simp [parE] at e2
    | [_, _], e2, _ => simp [parE] at e2
    | _ :: _ :: _ :: _ :: _, e2, _ => simp [parE] at e2
theorem s_aug {o : Bop} {op : Operator} {x : Str} {px : Pos} (ho : (o = .add ∧ op = .Add) ∨ (o = .sub ∧ op = .Sub)) (hN : X.N.Nodup) (hi : X.N[i]? = some x) (hx : Loc X.env.scope x) (hf : X.fn x = true ∨ X.env.scope.names.lookup x = some .local) (he : PE X e (tA X.K ea))
    (hev : ∀ env μ r, ev env μ = some r → ∃ x y μ', env[i]? = some (.val (.int x)) ∧ ea env μ = some (.int y, μ') ∧ r = (.nx (env.set i (.val (.int (if o = .add then x + y else x - y)))), μ')) : PS X (.AugAssign (.Name x px) op e pos) (tS X.K H0 ι0 B0 fr ev) := by
  rcases ho with ⟨rfl, rfl⟩ | ⟨rfl, rfl⟩
  · refine PScon (ps_aug hN hi hx he ip_add hf) fun D σ H ⟨env, μ, ι, B, f, μ', F, e, p⟩ => ?_
    obtain ⟨u, y, μ1, e1, e2, e3⟩ := hev _ _ _ e
    cases e3
    obtain ⟨v, s1, r1⟩ := F.a.r.val i _ e1
    cases r1
    refine ⟨_, s1, env, μ, ι, B, B0, _, _, F.a, e2, fun w H' ι' n r => ?_⟩
    rw [r.int]
    exact ⟨_, _, rfl, rfl, p _ H' ι' B ⟨(F.nx n).x, (F.nx n).k, ⟨n.s, (n.renv F.a.r).set i (.int _)⟩⟩ n.x⟩
  · refine PScon (ps_aug hN hi hx he ip_sub hf) fun D σ H ⟨env, μ, ι, B, f, μ', F, e, p⟩ => ?_
    obtain ⟨u, y, μ1, e1, e2, e3⟩ := hev _ _ _ e
    cases e3
    obtain ⟨v, s1, r1⟩ := F.a.r.val i _ e1
    cases r1
    refine ⟨_, s1, env, μ, ι, B, B0, _, _, F.a, e2, fun w H' ι' n r => ?_⟩
    rw [r.int]
    exact ⟨_, _, rfl, rfl, p _ H' ι' B ⟨(F.nx n).x, (F.nx n).k, ⟨n.s, (n.renv F.a.r).set i (.int _)⟩⟩ n.x⟩
theorem s_expr (he : PE X e (tE X.K ea)) (hs : swapsWith e none pos.line X.env = pure false) (hev : ∀ env μ, ev env μ = (ea env μ).map fun p => (.nx env, p.2)) : PS X (.Expr e pos) (tS X.K H0 ι0 B0 fr ev) :=
  PScon (ps_expr he hs) fun D σ H ⟨env, μ, ι, B, f, μ', F, e, p⟩ => by
    rw [hev] at e
    obtain ⟨⟨x, μ1⟩, e1, e2⟩ := Option.map_eq_some_iff.mp e
    cases e2
    exact ⟨env, μ, ι, B, B0, x, _, F.a, e1, fun v H' ι' n r => p σ H' ι' B (F.nx n) n.x⟩
theorem s_ret (he : PE X e (tCl X.K fr ea)) (hev : ∀ env μ, ev env μ = (ea env μ).map fun p => (.rt p.1, p.2)) : PS X (.Return (some e) pos) (tS X.K H0 ι0 B0 fr ev) :=
  PScon (ps_ret he) fun D σ H ⟨env, μ, ι, B, f, μ', F, e, p⟩ => by
    rw [hev] at e
    obtain ⟨⟨x, μ1⟩, e1, e2⟩ := Option.map_eq_some_iff.mp e
    cases e2
    refine ⟨env, μ, ι, B, B0, x, _, F.a, e1, ?_⟩
    cases fr with
    | true => exact KX.inn p F.x F.k
    | false => exact KE.inn p F.x F.k
theorem s_reto {x : Str} {px : Pos} (he : PE X (.Name x px) (tVar i)) (hev : ∀ env μ, ev env μ = match env[i]? with
    | some (.own ds) => some (.rt (.lst ds), μ)
    | _ => none) : PS X (.Return (some (.Name x px)) pos) (tS X.K H0 ι0 B0 fr ev) :=
  PScon (ps_ret he) fun D σ H ⟨env, μ, ι, B, f, μ', F, e, p⟩ => by
    rw [hev] at e
    split at e
    · rename_i ds h
      cases e
      obtain ⟨a, vs, h1, h2, h3, h4, h5⟩ := F.a.r.own i ds h
      refine ⟨_, h1, ?_⟩
      have sb : ∀ b, b ∈ a :: B0 → b ∈ B := fun b hb => (List.mem_cons.mp hb).elim (fun z => by rw [z]; exact h2) (F.x.sub b)
      have k : KX X.K H0 ι0 B0 μ (.lst ds) D.rt := by
        cases fr with
        | true => exact p
        | false => exact KX.of p
      exact k a vs H ι (F.x.new a h2 h3) (F.x.shrink (fun _ h => List.mem_cons_of_mem _ h) sb) F.k (F.a.s.shrink sb) h4 (h5.up (up_shrink sb))
    · cases e
theorem s_retn (hev : ∀ env μ, ev env μ = some (.rt .non, μ)) : PS X (.Return none pos) (tS X.K H0 ι0 B0 fr ev) :=
  PScon ps_retN fun D σ H ⟨env, μ, ι, B, f, μ', F, e, p⟩ => by
    rw [hev] at e
    cases e
    have k : KX X.K H0 ι0 B0 μ .non D.rt := by
      cases fr with
      | true => exact p
      | false => exact KX.of p
    exact k .non H ι ⟨F.x.shrink (fun _ h => h) F.x.sub, F.k, F.a.s.shrink F.x.sub⟩ .non
theorem s_if (hc : PT X c (tB X.K et)) (ha : PSs X sa (tS X.K H0 ι0 B0 fr ev1)) (hb : PSs X sb (tS X.K H0 ι0 B0 fr ev2)) (hev : ∀ env μ, ev env μ = (et env μ).bind fun p => if p.1 then ev1 env p.2 else ev2 env p.2) : PS X (.If c sa sb pos) (tS X.K H0 ι0 B0 fr ev) :=
  PScon (ps_if hc ha hb) fun D σ H ⟨env, μ, ι, B, f, μ', F, e, p⟩ => by
    rw [hev] at e
    obtain ⟨⟨x, μ1⟩, e1, e⟩ := Option.bind_eq_some_iff.mp e
    refine ⟨env, μ, ι, B, B0, x, μ1, F.a, e1, fun H1 ι1 n1 => ?_⟩
    cases x with
    | true => exact iteT ⟨env, μ1, ι1, B, f, μ', F.nx n1, e, p.back n1.x⟩
    | false => exact iteF ⟨env, μ1, ι1, B, f, μ', F.nx n1, e, p.back n1.x⟩
theorem s_nil (hev : ∀ env μ, ev env μ = some (.nx env, μ)) : PSs X [] (tS X.K H0 ι0 B0 fr ev) := PSscon pss_nil fun D σ H ⟨env, μ, ι, B, f, μ', F, e, p⟩ => by
  rw [hev] at e
  cases e
  exact p σ H ι B F Ext.refl
theorem s_cons {ss : List Stmt} (h1 : PS X st (tS X.K H0 ι0 B0 fr ev1)) (h2 : PSs X ss (tS X.K H0 ι0 B0 fr ev2)) (hev : ∀ env μ, ev env μ = (ev1 env μ).bind fun p => match p.1 with
    | .nx e => ev2 e p.2
    | f => some (f, p.2)) : PSs X (st :: ss) (tS X.K H0 ι0 B0 fr ev) := PSscon (pss_cons h1 h2) fun D σ H ⟨env, μ, ι, B, f, μ', F, e, p⟩ => by
  rw [hev] at e
  obtain ⟨⟨f1, μ1⟩, e1, e⟩ := Option.bind_eq_some_iff.mp e
  refine ⟨env, μ, ι, B, f1, μ1, F, e1, ?_⟩
  cases f1 with
  | nx env1 => exact fun σ' H' ι' B' F' x => ⟨env1, μ1, ι', B', f, μ', F', e, p.back x⟩
  | bk env1 => cases e; exact p
  | ct env1 => cases e; exact p
  | rt d => cases e; exact p
theorem s_pass (hev : ∀ env μ, ev env μ = some (.nx env, μ)) : PS X (.Pass pos) (tS X.K H0 ι0 B0 fr ev) := PScon ps_pass fun D σ H ⟨env, μ, ι, B, f, μ', F, e, p⟩ => by
  rw [hev] at e
  cases e
  exact p σ H ι B F Ext.refl
theorem s_brk (hev : ∀ env μ, ev env μ = some (.bk env, μ)) : PS X (.Break pos) (tS X.K H0 ι0 B0 fr ev) := PScon ps_break fun D σ H ⟨env, μ, ι, B, f, μ', F, e, p⟩ => by
  rw [hev] at e
  cases e
  exact p σ H ι B F Ext.refl
theorem s_cnt (hev : ∀ env μ, ev env μ = some (.ct env, μ)) : PS X (.Continue pos) (tS X.K H0 ι0 B0 fr ev) := PScon ps_continue fun D σ H ⟨env, μ, ι, B, f, μ', F, e, p⟩ => by
  rw [hev] at e
  cases e
  exact p σ H ι B F Ext.refl
theorem s_raise (hev : ∀ env μ, ev env μ = none) : PS X st (tS X.K H0 ι0 B0 fr ev) := PScon ps_never fun D σ H ⟨env, μ, ι, B, f, μ', F, e, p⟩ => by
  rw [hev] at e
  cases e
end
end DI
set_option Elab.async false
set_option linter.all false
set_option maxRecDepth 100000
set_option maxHeartbeats 4000000
/-! DI17: loops, and lists that are changed -/
namespace DI
open PySem PySem.Spec PyProof.Rows L2
section
variable {X : Cx} {H0 : Hp} {ι0 : Cells} {B0 : List Addr} {fr : Bool} {e tg c iter o ix : Expr} {es : List Expr} {body sa sb : List Stmt} {st : Stmt} {ea eb eo ei : Ev → Mem → Option (D × Mem)} {et : Ev → Mem → Option (Bool × Mem)} {evs : Ev → Mem → Option (List D × Mem)} {ev ev1 ev2 : Ev → Mem → Option (Fl × Mem)} {pos : Pos} {te : TE} {i : Nat}
  {evi : Ev → Mem → Option ((List D × List Lk) × Mem)}
theorem s_while (hx : X.xe = fun _ _ => False) (hc : PT X c (tB X.K et)) (hb : PSs X body (tS X.K H0 ι0 B0 fr ev1)) {wf : Nat} (hev : ∀ env μ, ev env μ = whileGo et ev1 wf env μ) : PS X (.While c body [] pos) (tS X.K H0 ι0 B0 fr ev) :=
  PScon (ps_while (by rw [hx]; exact PassesOwn.never) hc hb) fun D σ H ⟨env, μ, ι, B, f, μ', F, e, p⟩ => by
    rw [hev] at e
    refine ⟨fun m σ' H' => ∃ env' μ1 ι' B', Fat X.K H0 ι0 B0 H' ι' B' μ1 σ' env' ∧ Ext H ι B H' ι' B' ∧ whileGo et ev1 m env' μ1 = some (f, μ'), ⟨wf, env, μ, ι, B, F, Ext.refl, e⟩, ?_⟩
    rintro m σ1 H1 ⟨env1, μ1, ι1, B1, F1, x1, e1⟩
    cases m with
    | zero => simp [whileGo] at e1
    | succ m =>
      simp only [whileGo] at e1
      obtain ⟨⟨b, μ2⟩, e2, e1⟩ := Option.bind_eq_some_iff.mp e1
      refine ⟨env1, μ1, ι1, B1, B0, b, μ2, F1.a, e2, fun H2 ι2 n2 => ?_⟩
      cases b with
      | false =>
        dsimp only at e1
        rw [if_neg Bool.false_ne_true] at e1
        cases e1
        exact iteF (p σ1 H2 ι2 B1 (F1.nx n2) (x1.trans n2.x))
      | true =>
        dsimp only at e1
        rw [if_pos rfl] at e1
        obtain ⟨⟨f3, μ3⟩, e3, e1⟩ := Option.bind_eq_some_iff.mp e1
        refine iteT ⟨fun σ' H' => ∃ env' μ1 ι' B', Fat X.K H0 ι0 B0 H' ι' B' μ1 σ' env' ∧ Ext H ι B H' ι' B' ∧ whileGo et ev1 m env' μ1 = some (f, μ'), fun σ' H' w => ⟨m, Nat.lt_succ_self m, w⟩, env1, μ2, ι2, B1, f3, μ3, F1.nx n2, e3, ?_⟩
        have x2 := x1.trans n2.x
        cases f3 with
        | nx e4 => exact fun σ' H' ι' B' F' y => ⟨e4, μ3, ι', B', F', x2.trans y, e1⟩
        | ct e4 => exact fun σ' H' ι' B' F' y => ⟨e4, μ3, ι', B', F', x2.trans y, e1⟩
        | bk e4 => cases e1; exact fun σ' H' ι' B' F' y => p σ' H' ι' B' F' (x2.trans y)
        | rt d => cases e1; exact p
theorem s_for {g : MG} (hx : X.xe = fun _ _ => False) (hc : X.calm = true) (hi : PI X tg iter (tI X.K evi)) (hg : PG X tg (tG X.K g)) (hb : PSs X body (tS X.K H0 ι0 B0 fr ev1)) (hs : ∀ x, foldedSetIterable iter X.env x = pure x)
    (hev : ∀ env μ, ev env μ = (evi env μ).bind fun p => if p.1.2.all Lk.isCell && p.1.2.all (Lk.ok env p.2) then
      forGo (fun x e ν => (bindG g x e).bind fun e1 => ev1 e1 ν) (fun e ν => p.1.2.all (Lk.ok e ν)) p.1.1 env p.2
      else none) : PS X (.For tg iter body [] pos) (tS X.K H0 ι0 B0 fr ev) :=
  PScon (ps_for (by rw [hx]; exact PassesOwn.never) hc hi hg hb hs) fun D σ H ⟨env, μ, ι, B, f, μ', F, e, p⟩ => by
    rw [hev] at e
    obtain ⟨⟨⟨ds, lk⟩, μ1⟩, e1, e⟩ := Option.bind_eq_some_iff.mp e
    dsimp only at e
    by_cases lk0 : (lk.all Lk.isCell && lk.all (Lk.ok env μ1)) = true
    case neg => rw [if_neg lk0] at e; cases e
    rw [if_pos lk0] at e
    rw [Bool.and_eq_true] at lk0
    refine ⟨env, μ, ι, B, B0, ds, lk, μ1, F.a, e1, fun J H1 ι1 good n1 iw lt => ?_⟩
    refine ⟨fun i m σc Hc => m = ds.length - i ∧ i ≤ ds.length ∧ ∃ envc ιc Bc μc, Fat X.K H0 ι0 B0 Hc ιc Bc μc σc envc ∧ Ext H1 ι1 B Hc ιc Bc ∧ forGo (fun x e ν => (bindG g x e).bind fun e1 => ev1 e1 ν) (fun e ν => lk.all (Lk.ok e ν)) (ds.drop i) envc μc = some (f, μ') ∧ good Hc ιc Bc,
      ⟨ds.length, by rw [Nat.sub_zero], Nat.zero_le _, env, ι1, B, μ1, F.nx n1, Ext.refl, e, lt.1⟩, ?_⟩
    rintro i m σc Hc ⟨rfl, hi, envc, ιc, Bc, μc, Fc, xc, ec, gc⟩
    by_cases hlt : i < ds.length
    case neg =>
      have ei : i = ds.length := by omega
      subst ei
      rw [List.drop_length] at ec
      simp only [forGo, Option.some.injEq, Prod.mk.injEq] at ec
      obtain ⟨er, em⟩ := ec
      subst er em
      exact .inl ⟨iw.stops _ _ _ gc, p σc Hc ιc Bc Fc (n1.x.trans xc)⟩
    refine .inr ⟨iw.goes i Hc ιc _ hlt gc, fun σ' H' => ∃ envc ιc Bc μc, Fat X.K H0 ι0 B0 H' ιc Bc μc σ' envc ∧ Ext H1 ι1 B H' ιc Bc ∧ forGo (fun x e ν => (bindG g x e).bind fun e1 => ev1 e1 ν) (fun e ν => lk.all (Lk.ok e ν)) (ds.drop (i + 1)) envc μc = some (f, μ') ∧ good H' ιc Bc,
      fun σ' H' w => ⟨ds.length - (i + 1), by omega, rfl, hlt, w⟩, fun x H' y => ?_⟩
    obtain ⟨dx, edx, n2, rx⟩ := iw.yields i Hc ιc _ μc x H' hlt Fc.a.s gc y
    have edrop : ds.drop i = dx :: ds.drop (i + 1) := by
      have hx : ds[i]? = some ds[i] := List.getElem?_eq_getElem hlt
      rw [hx] at edx
      cases edx
      exact List.drop_eq_getElem_cons hlt
    rw [edrop] at ec
    simp only [forGo] at ec
    obtain ⟨⟨f3, μ3⟩, e3, ec⟩ := Option.bind_eq_some_iff.mp ec
    obtain ⟨env1, eb, e3⟩ := Option.bind_eq_some_iff.mp e3
    have F2 := Fc.nx n2
    have x2 := xc.trans n2.x
    refine ⟨envc, ιc, Bc, B0, μc, dx, env1, F2.a, rx, eb, fun σ' a' _ _ => ⟨env1, μc, ιc, Bc, f3, μ3, ⟨F2.x, F2.k, a'⟩, e3, ?_⟩⟩
    cases f3 with
    | nx e4 =>
      dsimp only at ec
      by_cases lk1 : lk.all (Lk.ok e4 μ3) = true
      case neg => rw [if_neg lk1] at ec; cases ec
      rw [if_pos lk1] at ec
      exact fun σ' H' ι' B' F' y => ⟨e4, ι', B', μ3, F', x2.trans y, ec, lt.2 _ _ _ e4 μ3 (x2.trans y) (.inr lk0.1) F'.a.s lk1⟩
    | ct e4 =>
      dsimp only at ec
      by_cases lk1 : lk.all (Lk.ok e4 μ3) = true
      case neg => rw [if_neg lk1] at ec; cases ec
      rw [if_pos lk1] at ec
      exact fun σ' H' ι' B' F' y => ⟨e4, ι', B', μ3, F', x2.trans y, ec, lt.2 _ _ _ e4 μ3 (x2.trans y) (.inr lk0.1) F'.a.s lk1⟩
    | bk e4 => cases ec; exact fun σ' H' ι' B' F' y => p σ' H' ι' B' F' (n1.x.trans (x2.trans y))
    | rt d => cases ec; exact p
/-! ### a cell is changed -/
theorem s_sset (he : PE X e (tE X.K ea)) (ho : PE X o (tA X.K eo)) (hix : PE X ix (tA X.K ei)) {p2 : Pos} (hs : swapsWithSole [.Subscript o ix p2] e pos.line X.env = pure false)
    (hw : swappedStores [.Subscript o ix p2] e X.env = pure none) (ha : ∀ v, assign (.Subscript o ix p2) X.env v = (do
      let ov ← holding [v] (eval o X.env)
      let iv ← holding [v, ov] (eval ix X.env)
      standAt p2
      holding [v, ov, iv] (setItem ov iv v)
      release [v, ov, iv] []))
    (hev : ∀ env μ, ev env μ = (ea env μ).bind fun p => (eo env p.2).bind fun q => (ei env q.2).bind fun r => match q.1, r.1 with
    | .ref n, .int k => (r.2[n]?).join.bind fun ds => (ixN ds.length k).map fun j => (.nx env, r.2.set n (some (ds.set j p.1)))
    | _, _ => none) : PS X (.Assign [.Subscript o ix p2] e pos) (tS X.K H0 ι0 B0 fr ev) :=
  PScon (ps_asg he (pg_sub ho hix set_list ha) hs hw) fun D σ H ⟨env, μ, ι, B, f, μ', F, e, p⟩ => by
    rw [hev] at e
    obtain ⟨⟨x, μ1⟩, e1, e⟩ := Option.bind_eq_some_iff.mp e
    obtain ⟨⟨y, μ2⟩, e2, e⟩ := Option.bind_eq_some_iff.mp e
    obtain ⟨⟨z, μ3⟩, e3, e⟩ := Option.bind_eq_some_iff.mp e
    refine ⟨env, μ, ι, B, B0, x, μ1, F.a, e1, fun v H1 ι1 n1 r1 => ⟨env, μ1, ι1, B, B0, y, μ2, F.a.nx n1, e2, fun u H2 ι2 n2 r2 => ⟨env, μ2, ι2, B, B0, z, μ3, (F.a.nx n1).nx n2, e3, fun w H3 ι3 n3 r3 => ?_⟩⟩⟩
    match y, z, e, e3, r2, r3 with
    | .ref n, .int k, e, e3, r2, r3 =>
      obtain ⟨ds, e4, e⟩ := Option.bind_eq_some_iff.mp e
      obtain ⟨j, e5, e6⟩ := Option.map_eq_some_iff.mp e
      cases e6
      obtain ⟨a, vs, ha, hi, hl, hr⟩ := cell_at n3.s (n3.arg r2) e4
      subst ha
      have n123 := (n1.trans n2).trans n3
      have n4 := nx_cset n3.s hi hl (hr.set (n3.rep (n2.rep r1)) j)
      rw [r3.int]
      refine ⟨a, vs, k, j, rfl, rfl, hl, by rw [hr.length]; exact e5, ?_⟩
      exact p σ _ ι3 B ((F.nx n123).nx n4) (n123.trans n4).x
def mthR (m : Mth) : V → List V → Hp → VK → Prop := match m with
  | .append => rAppend
  | .insert => fun x vs H Q => ∃ (l : Addr) (xs : List V) (i : Int) (y : V), x = .ref l ∧ vs = [.int i, y] ∧ H l = some (.lst xs) ∧ xs.length < sizeLine ∧ 0 ≤ i ∧ i < 2 ^ 63 ∧
    Q .non (upd H l (.lst (xs.take i.toNat ++ [y] ++ xs.drop i.toNat)))
def mthNm : Mth → Str
  | .append => "append"
  | .insert => "insert"
theorem mth_val {K : PySem.W.Frag} {H : Hp} {ι : Cells} {B : List Addr} {m : Mth} {a : Addr} {vs us : List V} {ds xs ds' : List D} {Q : VK} (hl : H a = some (.lst vs)) (hr : Reps K (cut H ι B) ι vs ds) (hu : Reps K (cut H ι B) ι us xs) (h : mthD m ds xs = some ds')
    (k : ∀ vs', Reps K (cut H ι B) ι vs' ds' → Q .non (upd H a (.lst vs'))) : mthR m (.ref a) us H Q := by
  unfold mthD at h
  split at h
  · rename_i d
    split at h
    · rename_i c
      cases h
      cases hu with
      | cons h1 t =>
        cases t
        exact ⟨a, vs, _, rfl, rfl, hl, by rw [hr.length]; exact c, k _ (hr.append (.cons h1 .nil))⟩
    · cases h
  · rename_i i d
    split at h
    · rename_i c
      cases h
      cases hu with
      | cons h1 t =>
        cases t with
        | cons h2 t =>
          cases t
          cases h1
          exact ⟨a, vs, _, _, rfl, rfl, hl, by rw [hr.length]; exact c.1, c.2.1, c.2.2, k _ (((hr.take _).append (.cons h2 .nil)).append (hr.drop _))⟩
    · cases h
  · cases h
def recvOk : Expr → Bool
  | .Call _ [] [] _ => false
  | _ => true
theorem base_of {o : Expr} (h : recvOk o = true) (nm : Str) (env : Env) : attributeBase o nm env (eval o env) = eval o env := by
  cases o with
  | Call f as ks p =>
    match as, ks, h with
    | _ :: _, _, _ => cases f <;> rfl
    | [], _ :: _, _ => cases f <;> rfl
  | _ => rfl
theorem few_of (cpos : Pos) (env : Env) (es : List Expr) (h : es.all noStar = true) (hl : es.length < 30) : ((backTo cpos (starEach es env)).all (fun x => !x.1) && (backToKw cpos (keywordEach [] env)).all (fun x => x.1.isSome)
      && decide (es.length + ([] : List Keyword).length + (if ([] : List Keyword).isEmpty then 0 else 1) < 30)) = true := by
  have z := star_any cpos env es h
  have z2 : (backTo cpos (starEach es env)).all (fun x => !x.1) = true := by
    rw [List.all_eq_not_any_not]
    simp only [Bool.not_not]
    rw [z]
    rfl
  rw [z2]
  simp [backToKw, keywordEach, hl]
theorem pe_mth {m : Mth} {to : TE} {t : TA} {apos cpos : Pos} (ho : PE X o to) (ha : PA X (e :: es) t) (hb : recvOk o = true) (hl : (apos.endLine == cpos.line) = true) (hs : (e :: es).all noStar = true) (h30 : (e :: es).length < 30) :
    PE X (.Call (.Attribute o (mthNm m) apos) (e :: es) [] cpos) (tBM X.K "list" (mthR m) to t) := by
  have hs' := hs
  rw [List.all_cons, Bool.and_eq_true] at hs'
  cases m with
  | append => exact pe_bm PySem.F.plainAttrs_list PySem.F.slot_list_append PySem.F.type_list_append mt_append ho ha (base_of hb _ _) (few_of _ _ _ hs h30) hl (star_cons hs'.1 _ _) (star_any _ _ _ hs'.2)
  | insert => exact pe_bm PySem.F.plainAttrs_list PySem.F.slot_list_insert PySem.F.type_list_insert mt_insert ho ha (base_of hb _ _) (few_of _ _ _ hs h30) hl (star_cons hs'.1 _ _) (star_any _ _ _ hs'.2)
theorem s_meth {m : Mth} {apos cpos : Pos} (ho : PE X o (tA X.K eo)) (ha : PA X (e :: es) (tEs X.K evs)) (hb : recvOk o = true) (hl : (apos.endLine == cpos.line) = true) (hs : (e :: es).all noStar = true) (h30 : (e :: es).length < 30)
    (hev : ∀ env μ, ev env μ = (eo env μ).bind fun p => match p.1 with
    | .ref n => (p.2[n]?).join.bind fun _ => (evs env p.2).bind fun q => (q.2[n]?).join.bind fun ds => (mthD m ds q.1).map fun ds' => (.nx env, q.2.set n (some ds'))
    | _ => none) : PS X (.Expr (.Call (.Attribute o (mthNm m) apos) (e :: es) [] cpos) pos) (tS X.K H0 ι0 B0 fr ev) :=
  PScon (ps_expr (pe_mth ho ha hb hl hs h30) rfl) fun D σ H ⟨env, μ, ι, B, f, μ', F, e, p⟩ => by
    rw [hev] at e
    obtain ⟨⟨x, μ1⟩, e1, e⟩ := Option.bind_eq_some_iff.mp e
    refine ⟨env, μ, ι, B, B0, x, μ1, F.a, e1, fun v H1 ι1 n1 r1 => ?_⟩
    cases x with
    | ref n =>
      obtain ⟨ds0, e2, e⟩ := Option.bind_eq_some_iff.mp e
      obtain ⟨⟨xs, μ2⟩, e3, e⟩ := Option.bind_eq_some_iff.mp e
      obtain ⟨ds, e4, e⟩ := Option.bind_eq_some_iff.mp e
      obtain ⟨ds', e5, e6⟩ := Option.map_eq_some_iff.mp e
      cases e6
      obtain ⟨a, vs0, ha, hi0, hl0, _⟩ := cell_at n1.s r1 e2
      subst ha
      refine ⟨.inl ⟨rfl, _, SqL.of hl0⟩, env, μ1, ι1, B, B0, xs, μ2, F.a.nx n1, e3, fun us H2 ι2 n2 r2 => ?_⟩
      obtain ⟨a', vs, ha', hi, hl', hr⟩ := cell_at n2.s (n2.arg r1) e4
      cases ha'
      refine mth_val hl' hr r2 e5 fun vs' r' => ?_
      have n3 := nx_cset n2.s hi hl' r'
      have n12 := n1.trans n2
      exact p σ _ ι2 B ((F.nx n12).nx n3) (n12.trans n3).x
    | _ => cases e
/-- a list of one's own is changed -/
theorem s_ometh {m : Mth} {apos cpos px : Pos} {x : Str} (ho : PE X (.Name x px) (tVar i)) (ha : PA X (e :: es) (tEs X.K evs)) (hl : (apos.endLine == cpos.line) = true) (hs : (e :: es).all noStar = true) (h30 : (e :: es).length < 30)
    (hev : ∀ env μ, ev env μ = match env[i]? with
    | some (.own ds) => (evs env μ).bind fun q => (mthD m ds q.1).map fun ds' => (.nx (env.set i (.own ds')), q.2)
    | _ => none) : PS X (.Expr (.Call (.Attribute (.Name x px) (mthNm m) apos) (e :: es) [] cpos) pos) (tS X.K H0 ι0 B0 fr ev) :=
  PScon (ps_expr (pe_mth ho ha rfl hl hs h30) rfl) fun D σ H ⟨env, μ, ι, B, f, μ', F, e, p⟩ => by
    rw [hev] at e
    split at e
    · rename_i ds he
      obtain ⟨⟨xs, μ2⟩, e3, e⟩ := Option.bind_eq_some_iff.mp e
      obtain ⟨ds', e5, e6⟩ := Option.map_eq_some_iff.mp e
      cases e6
      obtain ⟨a, vs, h1, h2, h3, h4, h5⟩ := F.a.r.own i ds he
      refine ⟨_, h1, .inl ⟨rfl, _, SqL.of h4⟩, env, μ, ι, B, B0, xs, _, F.a, e3, fun us H2 ι2 n2 r2 => ?_⟩
      have hl2 : H2 a = some (.lst vs) := by rw [n2.k a h2]; exact h4
      refine mth_val hl2 (n2.reps h5) r2 e5 fun vs' r' => ?_
      have F2 := F.nx n2
      have x3 : Ext H2 ι2 B (upd H2 a (.lst vs')) ι2 B := Ext.refl.write h2 (by rw [hl2]; exact fun z => nomatch z)
      have k3 : Keep B0 H2 (upd H2 a (.lst vs')) := fun b hb => upd_ne fun z => h3 (by rw [← z]; exact hb)
      exact p σ _ ι2 B ⟨F2.x.trans x3, F2.k.trans k3, ⟨n2.s.write h2, F2.a.r.oset he h1 h2 h3 r'⟩⟩ (n2.x.trans x3)
    · cases e
end
end DI
set_option Elab.async false
set_option linter.all false
set_option maxRecDepth 100000
set_option maxHeartbeats 8000000
/-! DI18: a piece of the language that stands for a text is what the text does: statements -/
namespace DI
open PySem PySem.Spec PyProof.Rows L2
def isComp : Expr → Bool
  | .ListComp .. | .SetComp .. | .DictComp .. => true
  | _ => false
def swB (sc : Scope) : Expr → Expr → Bool
  | .ListComp _ _ s p, .Name t tp => sc.names.lookup t == some .local && tp.line == p.line && !(s.names.any fun (n, k) => n == t && (k == .local || k == .cell))
  | _, _ => false
def isLComp : Expr → Bool
  | .SetComp .. | .DictComp .. => false
  | _ => true
theorem swaps_eq {env : Env} {x tg : Expr} {l : Nat} (hk : env.scope.kind = .function) (hx : isLComp x = true) : swapsWith x (some tg) l env = pure (swB env.scope x tg) := by
  have hb : (env.blockKind == .function) = true := by
    unfold Env.blockKind
    rw [hk]
    rfl
  cases x with
  | ListComp e gs s p =>
    cases tg with
    | Name t tp =>
      unfold swapsWith
      simp only [hb, Bool.true_and]
      rfl
    | _ => rfl
  | SetComp _ _ _ _ => simp [isLComp] at hx
  | DictComp _ _ _ _ _ => simp [isLComp] at hx
  | _ => rfl
def bothTup : Expr → Expr → Option (List Expr × List Expr)
  | .Tuple ts _ _, .Tuple vs _ _ => some (ts, vs)
  | _, _ => none
def swOff (sc : Scope) (tg x : Expr) : Bool := match bothTup tg x with
  | some (ts, vs) => !(swTest sc ts vs)
  | none => true
def tgOk : Expr → Bool
  | .Name .. => true
  | .Tuple .. => true
  | _ => false
theorem stores_none {env : Env} {x tg : Expr} (hk : env.scope.kind = .function) (ht : tgOk tg = true) (h : swOff env.scope tg x = true) : swappedStores [tg] x env = pure none := by
  cases tg with
  | Name t p => rfl
  | Tuple ts k p =>
    cases x with
    | Tuple vs k2 p2 =>
      refine sw_none hk ?_
      simpa [swOff, bothTup] using h
    | _ => rfl
  | _ => simp [tgOk] at ht
theorem assign_one {tg : Expr} (ht : tgOk tg = true) (env : Env) : (assignEach [tg] env).map (·.2) = [assign tg env] := by
  cases tg <;> first | rfl | (simp [tgOk] at ht)
theorem assign_sub {o ix : Expr} {p : Pos} (h : ixPlain ix = true) (env : Env) (v : Value) : assign (.Subscript o ix p) env v = (do
      let ov ← holding [v] (eval o env)
      let iv ← holding [v, ov] (eval ix env)
      standAt p
      holding [v, ov, iv] (setItem ov iv v)
      release [v, ov, iv] []) := by
  cases ix <;> first | rfl | (simp [ixPlain] at h)
theorem swaps_none {x : Expr} {l : Nat} {env : Env} (h : isComp x = false) : swapsWith x none l env = pure false := by
  cases x <;> first | rfl | (simp [isComp] at h)
theorem cell_read {K : PySem.W.Frag} {ea ev : Ev → Mem → Option (D × Mem)} (hev : ∀ env μ, ev env μ = (ea env μ).bind fun p => match p.1 with
    | .lst ds => some (.ref p.2.length, p.2 ++ [some ds])
    | _ => none) (σ : L2.St) (H : Hp) (Q : VK) (h : tE K ev σ H Q) : tX K ea σ H Q := by
  obtain ⟨env, μ, ι, B, B0, d, μ', a, e, k⟩ := h
  rw [hev] at e
  obtain ⟨⟨x, μ1⟩, e1, e⟩ := Option.bind_eq_some_iff.mp e
  cases x with
  | lst ds =>
    cases e
    refine ⟨env, μ, ι, B, B0, .lst ds, μ1, a, e1, fun p vs H' ι' hp x kk S hl r => ?_⟩
    have np : p ∉ B := fun q => by
      have z := kk p q
      rw [hl, hp] at z; cases z
    refine k (.ref p) H' (ι' ++ [some p]) ⟨x.cell, kk, S.cell' np hl r⟩ (.ref (x := some p) ?_ fun a ha => by cases ha; rfl)
    rw [← S.len, List.getElem?_append_right (Nat.le_refl _)]
    simp
  | _ => cases e
section
variable {Tb : Tab} {C : Call} {n : Nat}
/-- name = [..] on one line -/
theorem comp_set {X : Cx} {sc : Scope} {elt : ME} {tg : MG} {src : MI} {ifs : List ME} {own : List Nat} {x : Expr} {y : Str} {py pos : Pos} {i : Nat} (c : CxE Tb C n X) (cs : CxS X sc) (hsc : X.env.scope = sc) (hk : sc.kind = .function) (h : mE Tb X.N sc (.comp elt tg src ifs own) x = true)
    (hw : swB sc x (.Name y py) = true) (hi : X.N[i]? = some y) : ∃ te, PS X (.Assign [.Name y py] x pos) (tAsg te (gName i)) ∧ ∀ σ H Q, tX X.K (evE C (.comp elt tg src ifs own)) σ H Q → te σ H Q := by
  cases x with
  | ListComp e' gs scope p =>
    match gs, h with
    | [⟨tg', iter', ifs', as⟩], h =>
      have hl : sc.names.lookup y = some .local := by
        have z : (sc.names.lookup y == some .local && py.line == p.line && !(scope.names.any fun (n, k) => n == y && (k == .local || k == .cell))) = true := hw
        simp only [Bool.and_eq_true] at z
        simpa using z.1.1
      simp only [mE, Bool.and_eq_true, Bool.not_eq_true', decide_eq_true_eq] at h
      obtain ⟨⟨⟨⟨⟨⟨⟨⟨h1, h2⟩, h3⟩, h4⟩, h5⟩, h6⟩, h7⟩, h8⟩, h9⟩ := h
      subst h9
      have own2 : (ownN X.N own).map (·.2) = own := by
        unfold ownN
        rw [List.map_map]
        exact List.map_id' own
      have hgs : ∀ j, j ∈ tg.slots → j ∈ own := fun j hj => of_decide_eq_true (List.all_eq_true.mp h7 j hj)
      have bo := blkOk_by h6
      have bo' : BlkOk X.N X.env.scope scope (ownN X.N own) := ⟨bo.kind, bo.uniq, bo.ix, fun y hy e => cs.up _ (bo.free y hy e), bo.own⟩
      have sw : swapsWith (.ListComp e' [⟨tg', iter', ifs', 0⟩] scope p) (some (.Name y py)) pos.line X.env = pure true := by
        rw [swaps_eq (by rw [hsc]; exact hk) rfl, hsc, hw]
      have z := ps_setLc (spos := pos) (wi := tI X.K (evI C src)) (g := tG X.K tg) (tt := tB X.K (evCs C ifs)) (te := tE X.K (evE C elt)) c.calm c.nd hi (by rw [hsc]; exact hl) sw (sndI src tg' iter' c cs h1) bo'
        (fun s H C' cl fp => g_ok (X := X.blk s H scope (compEnvC scope cl C' X.env) fp) c.calm c.nd (cs.blk s H C' cl fp) tg tg' h2)
        (fun s H C' cl fp => sndCs ifs ifs' (c.blk s H scope (compEnvC scope cl C' X.env) fp) (cs.blk s H C' cl fp) h3)
        (fun s H C' cl fp => (sndE elt e' (c.blk s H scope (compEnvC scope cl C' X.env) fp) (cs.blk s H C' cl fp) h4).se.fe h5) (setFree_of h8 X.env)
      rw [own2] at z
      refine ⟨_, z, fun σ H Q w => lc_read hgs ?_⟩
      have q : evE C (.comp elt tg src ifs own) = compEv tg own (evI C src) (evCs C ifs) (evE C elt) := by
        funext env μ
        simp only [evE, compEv]
      rw [← q]
      exact w
    | [], h => simp [mE] at h
    | _ :: _ :: _, h => simp [mE] at h
  | _ => simp [mE] at h
/-- a list comprehension stands only for comp, or a cell of it -/
theorem comp_only {X : Cx} {sc : Scope} {m : ME} {x tg : Expr} (h : mE Tb X.N sc m x = true) (hw : swB sc x tg = true) : (∃ elt g src ifs own, m = .comp elt g src ifs own) ∨ ∃ elt g src ifs own, m = .cell (.comp elt g src ifs own) := by
  cases x with
  | ListComp e' gs scope p =>
    cases m with
    | comp elt g src ifs own => exact .inl ⟨_, _, _, _, _, rfl⟩
    | cell m =>
      simp only [mE, Bool.and_eq_true] at h
      cases m with
      | comp elt g src ifs own => exact .inr ⟨_, _, _, _, _, rfl⟩
      | cell m => simp [isFresh] at h
      | _ => simp [mE] at h
    | _ => simp [mE] at h
  | _ => simp [swB] at hw
/-- name = e -/
theorem name_asg {X : Cx} {sc : Scope} {m : ME} {x : Expr} {y : Str} {py pos : Pos} {i : Nat} (c : CxE Tb C n X) (cs : CxS X sc) (hsc : X.env.scope = sc) (hk : sc.kind = .function) (h : mE Tb X.N sc m x = true) (ho : isOv m = false) (hlc : isLComp x = true)
    (hi : X.N[i]? = some y) (hl : kindB sc isLoc y = true) : (∃ te, PS X (.Assign [.Name y py] x pos) (tAsg te (gName i)) ∧ ∀ σ H Q, tE X.K (evE C m) σ H Q → te σ H Q) ∧
      (isFresh Tb.T m = true → ∃ te, PS X (.Assign [.Name y py] x pos) (tAsg te (gName i)) ∧ ∀ σ H Q, tX X.K (evE C m) σ H Q → te σ H Q) := by
  have eX : ∀ (ev : Ev → Mem → Option (D × Mem)) σ H Q, tE X.K ev σ H Q → tX X.K ev σ H Q := fun ev σ H Q ⟨env, μ, ι, B, B0, d, μ', a, e, k⟩ => ⟨env, μ, ι, B, B0, d, μ', a, e, KX.of k⟩
  cases hw : swB sc x (.Name y py) with
  | false =>
    have hs : swapsWith x (some (.Name y py)) pos.line X.env = pure false := by rw [swaps_eq (by rw [hsc]; exact hk) hlc, hsc, hw]
    have A := (sndE m x c cs h).se
    obtain ⟨l1, l2⟩ := cs.loc y hl
    exact ⟨⟨_, ps_set c.nd hi l1 (A.fe ho) hs l2, fun _ _ _ w => w⟩, fun hf => ⟨_, ps_set c.nd hi l1 (A.fx hf) hs l2, fun _ _ _ w => w⟩⟩
  | true =>
    rcases comp_only h hw with ⟨elt, g, src, ifs, own, rfl⟩ | ⟨elt, g, src, ifs, own, rfl⟩
    · obtain ⟨te, z1, z2⟩ := comp_set (pos := pos) c cs hsc hk h hw hi
      exact ⟨⟨te, z1, fun σ H Q w => z2 σ H Q (eX _ σ H Q w)⟩, fun _ => ⟨te, z1, z2⟩⟩
    · have h' : mE Tb X.N sc (.comp elt g src ifs own) x = true := by
        simp only [mE, Bool.and_eq_true] at h
        exact h.2
      obtain ⟨te, z1, z2⟩ := comp_set (pos := pos) c cs hsc hk h' hw hi
      refine ⟨⟨te, z1, fun σ H Q w => z2 σ H Q (cell_read (fun env μ => ?_) σ H Q w)⟩, fun hf => by simp [isFresh] at hf⟩
      simp only [evE] <;> rfl
end
def parM (N : List Str) (sc : Scope) : List Nat → List Expr → Bool
  | [], [] => true
  | i :: is, .Name x _ :: ts => decide (N[i]? = some x) && decide (sc.names.lookup x = some .local) && !(is.contains i) && parM N sc is ts
  | _, _ => false
def parNs : List Expr → List Str
  | .Name x _ :: ts => x :: parNs ts
  | _ => []
mutual
def mS (Tb : Tab) (N : List Str) (fr : Bool) (sc : Scope) : MS → Stmt → Bool
  | .asg g e, .Assign [tg] x _ => tgOk tg && mE Tb N sc e x && !isOv e && isLComp x && (match g, tg with
    | .nm i, .Name y _ => decide (N[i]? = some y) && kindB sc isLoc y
    | .tp gs, .Tuple ts k p => mG N sc (.tp gs) (.Tuple ts k p) && swOff sc (.Tuple ts k p) x
    | _, _ => false)
  | .own i e, .Assign [.Name y _] x _ => mE Tb N sc e x && !isOv e && isFresh Tb.T e && isLComp x && decide (N[i]? = some y) && kindB sc isLoc y
  | .par is es, .Assign [.Tuple ts _ _] (.Tuple vs _ _) _ => mEs Tb N sc es vs && parM N sc is ts && swTest sc ts vs && !(vs.all (constantsAlone 8)) && decide (swNames sc ts = parNs ts) && (is.length == 2 || is.length == 3)
  | .aug i o e, .AugAssign (.Name x _) op y _ => (match o with
    | .add => decide (op = .Add)
    | .sub => decide (op = .Sub)
    | _ => false) && decide (N[i]? = some x) && kindB sc isLoc x && mE Tb N sc e y
  | .sset a i e, .Assign [.Subscript o ix _] x _ => mE Tb N sc e x && !isOv e && mE Tb N sc a o && mE Tb N sc i ix && ixPlain ix && isLComp x
  | .meth m a es, .Expr (.Call (.Attribute o nm apos) (y :: ys) [] cpos) _ => decide (nm = mthNm m) && mE Tb N sc a o && mEs Tb N sc es (y :: ys) && recvOk o && (apos.endLine == cpos.line) && decide (ys.length < 29)
  | .ometh m i es, .Expr (.Call (.Attribute (.Name x _) nm apos) (y :: ys) [] cpos) _ => decide (nm = mthNm m) && nameM N sc i x && mEs Tb N sc es (y :: ys) && (apos.endLine == cpos.line) && decide (ys.length < 29)
  | .expr e, .Expr x _ => mE Tb N sc e x && !isOv e && !isComp x
  | .ret e, .Return (some x) _ => mE Tb N sc e x && !isOv e && (!fr || isFresh Tb.T e)
  | .reto i, .Return (some (.Name x _)) _ => nameM N sc i x
  | .retn, .Return none _ => true
  | .iff c a b, .If x y z _ => tOk c && mE Tb N sc c x && mSs Tb N fr sc a y && mSs Tb N fr sc b z
  | .for g src body, .For tg it y [] _ => mI Tb N sc src tg it && mG N sc g tg && setFree it && mSs Tb N fr sc body y
  | .whl c body, .While x y [] _ => tOk c && mE Tb N sc c x && mSs Tb N fr sc body y
  | .pass, .Pass _ => true
  | .brk, .Break _ => true
  | .cnt, .Continue _ => true
  | .raise, .Raise _ _ _ => true
  | _, _ => false
def mSs (Tb : Tab) (N : List Str) (fr : Bool) (sc : Scope) : List MS → List Stmt → Bool
  | [], [] => true
  | m :: ms, s :: ss => mS Tb N fr sc m s && mSs Tb N fr sc ms ss
  | _, _ => false
end
end DI
set_option Elab.async false
set_option linter.all false
set_option maxRecDepth 100000
set_option maxHeartbeats 8000000
/-! DI19: a piece of the language that stands for a text is what the text does: statements, defs -/
namespace DI
open PySem PySem.Spec PyProof.Rows L2
theorem nm_slot {N : List Str} {sc : Scope} {i : Nat} {x : Str} (h : nameM N sc i x = true) : N[i]? = some x := (nameM_ok h).1
theorem parM_two {N : List Str} {sc : Scope} {is : List Nat} {ts : List Expr} (h : parM N sc is ts = true) (h2 : is.length = 2) : ∃ i j x y px py, is = [i, j] ∧ ts = [.Name x px, .Name y py] ∧ N[i]? = some x ∧ N[j]? = some y ∧ sc.names.lookup x = some .local ∧ sc.names.lookup y = some .local ∧ i ≠ j := by
  match is, h2, ts, h with
  | [i, j], _, [.Name x px, .Name y py], h =>
    simp only [parM, Bool.and_eq_true, decide_eq_true_eq, Bool.not_eq_true', List.contains_cons, List.contains_nil, Bool.or_false] at h
    obtain ⟨⟨⟨h1, h2⟩, h3⟩, ⟨⟨h4, h5⟩, _⟩, _⟩ := h
    exact ⟨i, j, x, y, px, py, rfl, rfl, h1, h4, h2, h5, by simpa using h3⟩
  | [i, j], _, [], h => simp [parM] at h
  | [i, j], _, [t], h => cases t <;> simp [parM] at h
  | [i, j], _, t :: u :: v :: w, h => cases t <;> cases u <;> simp [parM] at h
  | [i, j], _, [t, u], h => cases t <;> cases u <;> first | (simp [parM] at h; done) | (simp only [parM, Bool.and_eq_true, decide_eq_true_eq, Bool.not_eq_true', List.contains_cons, List.contains_nil, Bool.or_false] at h; obtain ⟨⟨⟨h1, h2⟩, h3⟩, ⟨⟨h4, h5⟩, _⟩, _⟩ := h; exact ⟨i, j, _, _, _, _, rfl, rfl, h1, h4, h2, h5, by simpa using h3⟩)
theorem parM_three {N : List Str} {sc : Scope} {is : List Nat} {ts : List Expr} (h : parM N sc is ts = true) (h2 : is.length = 3) : ∃ i j l x y z px py pz, is = [i, j, l] ∧ ts = [.Name x px, .Name y py, .Name z pz] ∧ N[i]? = some x ∧ N[j]? = some y ∧ N[l]? = some z ∧
    sc.names.lookup x = some .local ∧ sc.names.lookup y = some .local ∧ sc.names.lookup z = some .local ∧ i ≠ j ∧ i ≠ l ∧ j ≠ l := by
  match is, h2 with
  | [i, j, l], _ =>
    match ts with
    | [] => simp [parM] at h
    | [t] => cases t <;> simp [parM] at h
    | [t, u] => cases t <;> cases u <;> simp [parM] at h
    | t :: u :: v :: w =>
      cases t with
      | Name x px =>
        cases u with
        | Name y py =>
          cases v with
          | Name z pz =>
            cases w with
            | nil =>
              simp only [parM, Bool.and_eq_true, decide_eq_true_eq, Bool.not_eq_true', List.contains_cons, List.contains_nil, Bool.or_false, Bool.or_eq_false_iff] at h
              obtain ⟨⟨⟨h1, h2⟩, h3, h3'⟩, ⟨⟨h4, h5⟩, h6⟩, ⟨⟨h7, h8⟩, _⟩, _⟩ := h
              exact ⟨i, j, l, x, y, z, px, py, pz, rfl, rfl, h1, h4, h7, h2, h5, h8, by simpa using h3, by simpa using h3', by simpa using h6⟩
            | cons _ _ => simp [parM] at h
          | _ => simp [parM] at h
        | _ => simp [parM] at h
      | _ => simp [parM] at h
section
variable {Tb : Tab} {C : Call} {n : Nat} {H0 : Hp} {ι0 : Cells} {B0 : List Addr} {fr : Bool} {wf : Nat}
theorem snd_asg {X : Cx} {sc : Scope} (c : CxE Tb C n X) (cs : CxS X sc) (hsc : X.env.scope = sc) (hk : sc.kind = .function) (hx : X.xe = fun _ _ => False) (g : MG) (e : ME) (st : Stmt) (h : mS Tb X.N fr sc (.asg g e) st = true) : PS X st (tS X.K H0 ι0 B0 fr (evS C wf (.asg g e))) := by
    cases st with
    | Assign tgs x pos =>
      match tgs, h with
      | [tg], h =>
        simp only [mS, Bool.and_eq_true, Bool.not_eq_true'] at h
        obtain ⟨⟨⟨⟨h1, h2⟩, h3⟩, h4⟩, h5⟩ := h
        cases g with
        | nm i =>
          cases tg with
          | Name y py =>
            simp only [Bool.and_eq_true, decide_eq_true_eq] at h5
            obtain ⟨⟨te, z1, z2⟩, _⟩ := name_asg (pos := pos) (py := py) c cs hsc hk h2 h3 h4 h5.1 h5.2
            exact s_name z1 z2 fun _ _ => by simp only [evS]
          | _ => simp at h5
        | tp gs =>
          cases tg with
          | Tuple ts k p =>
            simp only [Bool.and_eq_true] at h5
            have hk' : X.env.scope.kind = .function := by rw [hsc]; exact hk
            refine s_asg ((sndE e x c cs h2).se.fe h3) (g_ok c.calm c.nd cs (.tp gs) _ h5.1) ?_ (stores_none hk' h1 (by rw [hsc]; exact h5.2)) (assign_one h1 _) fun _ _ => by simp only [evS]
            show swapsWith x (some (.Tuple ts k p)) pos.line X.env = pure false
            rw [swaps_eq hk' h4]
            cases x <;> rfl
          | _ => simp at h5
      | [], h => exact absurd (show false = true from h) Bool.false_ne_true
      | t :: _ :: _, h => cases t <;> exact absurd (show false = true from h) Bool.false_ne_true
    | _ => simp [mS] at h
theorem snd_own {X : Cx} {sc : Scope} (c : CxE Tb C n X) (cs : CxS X sc) (hsc : X.env.scope = sc) (hk : sc.kind = .function) (hx : X.xe = fun _ _ => False) (i : Nat) (e : ME) (st : Stmt) (h : mS Tb X.N fr sc (.own i e) st = true) : PS X st (tS X.K H0 ι0 B0 fr (evS C wf (.own i e))) := by
    cases st with
    | Assign tgs x pos =>
      match tgs, h with
      | [tg], h =>
        cases tg with
        | Name y py =>
          simp only [mS, Bool.and_eq_true, Bool.not_eq_true', decide_eq_true_eq] at h
          obtain ⟨⟨⟨⟨⟨h1, h2⟩, h3⟩, h4⟩, h5⟩, h6⟩ := h
          obtain ⟨_, z⟩ := name_asg (pos := pos) (py := py) c cs hsc hk h1 h2 h4 h5 h6
          obtain ⟨te, z1, z2⟩ := z h3
          exact s_own z1 z2 fun _ _ => by simp only [evS] <;> rfl
        | _ => simp [mS] at h
      | [], h => exact absurd (show false = true from h) Bool.false_ne_true
      | t :: _ :: _, h => cases t <;> exact absurd (show false = true from h) Bool.false_ne_true
    | _ => simp [mS] at h
theorem snd_par {X : Cx} {sc : Scope} (c : CxE Tb C n X) (cs : CxS X sc) (hsc : X.env.scope = sc) (hk : sc.kind = .function) (hx : X.xe = fun _ _ => False) (is : List Nat) (es : List ME) (st : Stmt) (h : mS Tb X.N fr sc (.par is es) st = true) : PS X st (tS X.K H0 ι0 B0 fr (evS C wf (.par is es))) := by
    cases st with
    | Assign tgs x pos =>
      match tgs, h with
      | [tg], h =>
        cases tg with
        | Tuple ts k p =>
          cases x with
          | Tuple vs k2 p2 =>
            simp only [mS, Bool.and_eq_true, Bool.not_eq_true', decide_eq_true_eq] at h
            obtain ⟨⟨⟨⟨⟨h1, h2⟩, h3⟩, h4⟩, h5⟩, h6⟩ := h
            have hk' : X.env.scope.kind = .function := by rw [hsc]; exact hk
            have hw := sw_some (k := k) (k2 := k2) (p := p) (p2 := p2) hk' (by rw [hsc]; exact h3) h4
            rw [hsc, h5] at hw
            obtain ⟨g1, g2, g3⟩ := sndEs es vs c cs h1
            have lv : vs.length = ts.length := by
              have z := h3
              unfold swTest at z
              simp only [Bool.and_eq_true] at z
              simpa using z.1.1.1.1.2
            rw [Bool.or_eq_true] at h6
            rcases h6 with h6 | h6
            · obtain ⟨i, j, x, y, px, py, rfl, rfl, e1, e2, e3, e4, e5⟩ := parM_two h2 (by simpa using h6)
              match vs, lv, g1, hw with
              | [a, b], _, g1, hw => exact s_par2 (ps_par c.calm c.nd e1 e2 e5 (by rw [hsc]; exact e3) (by rw [hsc]; exact e4) g1 hw rfl) fun _ _ => by simp only [evS]
            · obtain ⟨i, j, l, x, y, z, px, py, pz, rfl, rfl, e1, e2, e3, e4, e5, e6, e7, e8, e9⟩ := parM_three h2 (by simpa using h6)
              match vs, lv, g1, hw with
              | [a, b, d], _, g1, hw => exact s_par3 (ps_par3 c.calm c.nd e1 e2 e3 e7 e8 e9 (by rw [hsc]; exact e4) (by rw [hsc]; exact e5) (by rw [hsc]; exact e6) g1 hw rfl) fun _ _ => by simp only [evS]
          | _ => simp [mS] at h
        | _ => simp [mS] at h
      | [], h => exact absurd (show false = true from h) Bool.false_ne_true
      | t :: _ :: _, h => cases t <;> exact absurd (show false = true from h) Bool.false_ne_true
    | _ => simp [mS] at h
theorem snd_aug {X : Cx} {sc : Scope} (c : CxE Tb C n X) (cs : CxS X sc) (hsc : X.env.scope = sc) (hk : sc.kind = .function) (hx : X.xe = fun _ _ => False) (i : Nat) (o : Bop) (e : ME) (st : Stmt) (h : mS Tb X.N fr sc (.aug i o e) st = true) : PS X st (tS X.K H0 ι0 B0 fr (evS C wf (.aug i o e))) := by
    cases st with
    | AugAssign tg op y pos =>
      cases tg with
      | Name x px =>
        simp only [mS, Bool.and_eq_true, decide_eq_true_eq] at h
        obtain ⟨⟨⟨h1, h2⟩, h3⟩, h4⟩ := h
        obtain ⟨l1, l2⟩ := cs.loc x h3
        have ho : (o = .add ∧ op = .Add) ∨ (o = .sub ∧ op = .Sub) := by
          cases o with
          | add => exact .inl ⟨rfl, by simpa using h1⟩
          | sub => exact .inr ⟨rfl, by simpa using h1⟩
          | _ => simp at h1
        refine s_aug ho c.nd h2 l1 l2 (sndE e y c cs h4).se.fa fun env μ r q => ?_
        simp only [evS] at q
        split at q
        · rename_i u hu
          obtain ⟨⟨d, ν⟩, q1, q2⟩ := Option.bind_eq_some_iff.mp q
          dsimp only at q2
          split at q2
          · cases q2
            exact ⟨u, _, ν, hu, q1, by rw [if_pos rfl]⟩
          · cases q2
            exact ⟨u, _, ν, hu, q1, by rw [if_neg (by decide)]⟩
          · cases q2
        · cases q
      | _ => simp [mS] at h
    | _ => simp [mS] at h
theorem snd_sset {X : Cx} {sc : Scope} (c : CxE Tb C n X) (cs : CxS X sc) (hsc : X.env.scope = sc) (hk : sc.kind = .function) (hx : X.xe = fun _ _ => False) (a : ME) (i : ME) (e : ME) (st : Stmt) (h : mS Tb X.N fr sc (.sset a i e) st = true) : PS X st (tS X.K H0 ι0 B0 fr (evS C wf (.sset a i e))) := by
    cases st with
    | Assign tgs x pos =>
      match tgs, h with
      | [tg], h =>
        cases tg with
        | Subscript o ix p2 =>
          simp only [mS, Bool.and_eq_true, Bool.not_eq_true'] at h
          obtain ⟨⟨⟨⟨⟨h1, h2⟩, h3⟩, h4⟩, h5⟩, h6⟩ := h
          have hk' : X.env.scope.kind = .function := by rw [hsc]; exact hk
          refine s_sset ((sndE e x c cs h1).se.fe h2) (sndE a o c cs h3).se.fa (sndE i ix c cs h4).se.fa ?_ rfl (assign_sub h5 _) fun _ _ => by simp only [evS] <;> rfl
          show swapsWith x (some (.Subscript o ix p2)) pos.line X.env = pure false
          rw [swaps_eq hk' h6]
          cases x <;> rfl
        | _ => simp [mS] at h
      | [], h => exact absurd (show false = true from h) Bool.false_ne_true
      | t :: _ :: _, h => cases t <;> exact absurd (show false = true from h) Bool.false_ne_true
    | _ => simp [mS] at h
theorem snd_meth {X : Cx} {sc : Scope} (c : CxE Tb C n X) (cs : CxS X sc) (hsc : X.env.scope = sc) (hk : sc.kind = .function) (hx : X.xe = fun _ _ => False) (m : Mth) (a : ME) (es : List ME) (st : Stmt) (h : mS Tb X.N fr sc (.meth m a es) st = true) : PS X st (tS X.K H0 ι0 B0 fr (evS C wf (.meth m a es))) := by
    cases st with
    | Expr x pos =>
      cases x with
      | Call g xs kws cpos =>
        cases g with
        | Attribute o nm apos =>
          match xs, kws, h with
          | y :: ys, [], h =>
            simp only [mS, Bool.and_eq_true, decide_eq_true_eq] at h
            obtain ⟨⟨⟨⟨⟨h1, h2⟩, h3⟩, h4⟩, h5⟩, h6⟩ := h
            subst h1
            obtain ⟨g1, g2, g3⟩ := sndEs es (y :: ys) c cs h3
            exact s_meth (sndE a o c cs h2).se.fa g1 h4 h5 g2 (by rw [List.length_cons]; omega) fun _ _ => by simp only [evS] <;> rfl
          | [], _, h => simp [mS] at h
          | _ :: _, _ :: _, h => simp [mS] at h
        | _ => simp [mS] at h
      | _ => simp [mS] at h
    | _ => simp [mS] at h
theorem snd_ometh {X : Cx} {sc : Scope} (c : CxE Tb C n X) (cs : CxS X sc) (hsc : X.env.scope = sc) (hk : sc.kind = .function) (hx : X.xe = fun _ _ => False) (m : Mth) (i : Nat) (es : List ME) (st : Stmt) (h : mS Tb X.N fr sc (.ometh m i es) st = true) : PS X st (tS X.K H0 ι0 B0 fr (evS C wf (.ometh m i es))) := by
    cases st with
    | Expr x pos =>
      cases x with
      | Call g xs kws cpos =>
        cases g with
        | Attribute o nm apos =>
          cases o with
          | Name x px =>
            match xs, kws, h with
            | y :: ys, [], h =>
              simp only [mS, Bool.and_eq_true, decide_eq_true_eq] at h
              obtain ⟨⟨⟨⟨h1, h2⟩, h3⟩, h5⟩, h6⟩ := h
              subst h1
              obtain ⟨g1, g2, g3⟩ := sndEs es (y :: ys) c cs h3
              obtain ⟨n1, n2, n3, n4⟩ := nameM_ok h2
              exact s_ometh (pe_var n1 (cs.vis x n2) n3 n4) g1 h5 g2 (by rw [List.length_cons]; omega) fun _ _ => by simp only [evS] <;> rfl
            | [], _, h => simp [mS] at h
            | _ :: _, _ :: _, h => simp [mS] at h
          | _ => simp [mS] at h
        | _ => simp [mS] at h
      | _ => simp [mS] at h
    | _ => simp [mS] at h
theorem snd_expr {X : Cx} {sc : Scope} (c : CxE Tb C n X) (cs : CxS X sc) (hsc : X.env.scope = sc) (hk : sc.kind = .function) (hx : X.xe = fun _ _ => False) (e : ME) (st : Stmt) (h : mS Tb X.N fr sc (.expr e) st = true) : PS X st (tS X.K H0 ι0 B0 fr (evS C wf (.expr e))) := by
    cases st with
    | Expr x pos =>
      simp only [mS, Bool.and_eq_true, Bool.not_eq_true'] at h
      obtain ⟨⟨h1, h2⟩, h3⟩ := h
      exact s_expr ((sndE e x c cs h1).se.fe h2) (swaps_none h3) fun _ _ => by simp only [evS]
    | _ => simp [mS] at h
theorem snd_ret {X : Cx} {sc : Scope} (c : CxE Tb C n X) (cs : CxS X sc) (hsc : X.env.scope = sc) (hk : sc.kind = .function) (hx : X.xe = fun _ _ => False) (e : ME) (st : Stmt) (h : mS Tb X.N fr sc (.ret e) st = true) : PS X st (tS X.K H0 ι0 B0 fr (evS C wf (.ret e))) := by
    cases st with
    | Return v pos =>
      cases v with
      | some x =>
        simp only [mS, Bool.and_eq_true, Bool.not_eq_true'] at h
        obtain ⟨⟨h1, h2⟩, h3⟩ := h
        have A := (sndE e x c cs h1).se
        refine s_ret (ea := evE C e) ?_ fun _ _ => by simp only [evS]
        cases fr with
        | true => exact A.fx (by simpa using h3)
        | false => exact A.fe h2
      | none => simp [mS] at h
    | _ => simp [mS] at h
theorem snd_reto {X : Cx} {sc : Scope} (c : CxE Tb C n X) (cs : CxS X sc) (hsc : X.env.scope = sc) (hk : sc.kind = .function) (hx : X.xe = fun _ _ => False) (i : Nat) (st : Stmt) (h : mS Tb X.N fr sc (.reto i) st = true) : PS X st (tS X.K H0 ι0 B0 fr (evS C wf (.reto i))) := by
    cases st with
    | Return v pos =>
      cases v with
      | some x =>
        cases x with
        | Name x px =>
          simp only [mS] at h
          obtain ⟨n1, n2, n3, n4⟩ := nameM_ok h
          exact s_reto (pe_var n1 (cs.vis x n2) n3 n4) fun _ _ => by simp only [evS] <;> rfl
        | _ => simp [mS] at h
      | none => simp [mS] at h
    | _ => simp [mS] at h
theorem snd_retn {X : Cx} {sc : Scope} (c : CxE Tb C n X) (cs : CxS X sc) (hsc : X.env.scope = sc) (hk : sc.kind = .function) (hx : X.xe = fun _ _ => False) (st : Stmt) (h : mS Tb X.N fr sc (.retn) st = true) : PS X st (tS X.K H0 ι0 B0 fr (evS C wf (.retn))) := by
    cases st with
    | Return v pos =>
      cases v with
      | none => exact s_retn fun _ _ => by simp only [evS]
      | some _ => simp [mS] at h
    | _ => simp [mS] at h
theorem snd_pass {X : Cx} {sc : Scope} (c : CxE Tb C n X) (cs : CxS X sc) (hsc : X.env.scope = sc) (hk : sc.kind = .function) (hx : X.xe = fun _ _ => False) (st : Stmt) (h : mS Tb X.N fr sc (.pass) st = true) : PS X st (tS X.K H0 ι0 B0 fr (evS C wf (.pass))) := by
    cases st with
    | Pass pos => exact s_pass fun _ _ => by simp only [evS]
    | _ => simp [mS] at h
theorem snd_brk {X : Cx} {sc : Scope} (c : CxE Tb C n X) (cs : CxS X sc) (hsc : X.env.scope = sc) (hk : sc.kind = .function) (hx : X.xe = fun _ _ => False) (st : Stmt) (h : mS Tb X.N fr sc (.brk) st = true) : PS X st (tS X.K H0 ι0 B0 fr (evS C wf (.brk))) := by
    cases st with
    | Break pos => exact s_brk fun _ _ => by simp only [evS]
    | _ => simp [mS] at h
theorem snd_cnt {X : Cx} {sc : Scope} (c : CxE Tb C n X) (cs : CxS X sc) (hsc : X.env.scope = sc) (hk : sc.kind = .function) (hx : X.xe = fun _ _ => False) (st : Stmt) (h : mS Tb X.N fr sc (.cnt) st = true) : PS X st (tS X.K H0 ι0 B0 fr (evS C wf (.cnt))) := by
    cases st with
    | Continue pos => exact s_cnt fun _ _ => by simp only [evS]
    | _ => simp [mS] at h
theorem snd_raise {X : Cx} {sc : Scope} (c : CxE Tb C n X) (cs : CxS X sc) (hsc : X.env.scope = sc) (hk : sc.kind = .function) (hx : X.xe = fun _ _ => False) (st : Stmt) (h : mS Tb X.N fr sc (.raise) st = true) : PS X st (tS X.K H0 ι0 B0 fr (evS C wf (.raise))) := s_raise fun _ _ => by simp only [evS]
theorem snd_doc {X : Cx} {sc : Scope} (c : CxE Tb C n X) (cs : CxS X sc) (hsc : X.env.scope = sc) (hk : sc.kind = .function) (hx : X.xe = fun _ _ => False) (st : Stmt) (h : mS Tb X.N fr sc (.doc) st = true) : PS X st (tS X.K H0 ι0 B0 fr (evS C wf (.doc))) := by cases st <;> simp [mS] at h
mutual
theorem sndS {X : Cx} {sc : Scope} (c : CxE Tb C n X) (cs : CxS X sc) (hsc : X.env.scope = sc) (hk : sc.kind = .function) (hx : X.xe = fun _ _ => False) : ∀ (m : MS) (st : Stmt), mS Tb X.N fr sc m st = true → PS X st (tS X.K H0 ι0 B0 fr (evS C wf m))
  | .asg g e, st, h => snd_asg c cs hsc hk hx g e st h
  | .own i e, st, h => snd_own c cs hsc hk hx i e st h
  | .par is es, st, h => snd_par c cs hsc hk hx is es st h
  | .aug i o e, st, h => snd_aug c cs hsc hk hx i o e st h
  | .sset a i e, st, h => snd_sset c cs hsc hk hx a i e st h
  | .meth m a es, st, h => snd_meth c cs hsc hk hx m a es st h
  | .ometh m i es, st, h => snd_ometh c cs hsc hk hx m i es st h
  | .expr e, st, h => snd_expr c cs hsc hk hx e st h
  | .ret e, st, h => snd_ret c cs hsc hk hx e st h
  | .reto i, st, h => snd_reto c cs hsc hk hx i st h
  | .retn, st, h => snd_retn c cs hsc hk hx st h
  | .iff z a b, st, h => by
    cases st with
    | If x y w pos =>
      simp only [mS, Bool.and_eq_true] at h
      obtain ⟨⟨⟨h1, h2⟩, h3⟩, h4⟩ := h
      exact s_if ((sndE z x c cs h2).pt h1) (sndSs c cs hsc hk hx a y h3) (sndSs c cs hsc hk hx b w h4) fun _ _ => by simp only [evS]
    | _ => simp [mS] at h
  | .for g src body, st, h => by
    cases st with
    | For tg it y els pos =>
      cases els with
      | nil =>
        simp only [mS, Bool.and_eq_true] at h
        obtain ⟨⟨⟨h1, h2⟩, h3⟩, h4⟩ := h
        exact s_for hx c.calm (sndI src tg it c cs h1) (g_ok c.calm c.nd cs g tg h2) (sndSs c cs hsc hk hx body y h4) (setFree_of h3 X.env) fun _ _ => by simp only [evS]
      | cons _ _ => simp [mS] at h
    | _ => simp [mS] at h
  | .whl z body, st, h => by
    cases st with
    | While x y els pos =>
      cases els with
      | nil =>
        simp only [mS, Bool.and_eq_true] at h
        obtain ⟨⟨h1, h2⟩, h3⟩ := h
        exact s_while (wf := wf) hx ((sndE z x c cs h2).pt h1) (sndSs c cs hsc hk hx body y h3) fun _ _ => by simp only [evS]
      | cons _ _ => simp [mS] at h
    | _ => simp [mS] at h
  | .pass, st, h => snd_pass c cs hsc hk hx st h
  | .brk, st, h => snd_brk c cs hsc hk hx st h
  | .cnt, st, h => snd_cnt c cs hsc hk hx st h
  | .raise, st, h => snd_raise c cs hsc hk hx st h
  | .doc, st, h => snd_doc c cs hsc hk hx st h
theorem sndSs {X : Cx} {sc : Scope} (c : CxE Tb C n X) (cs : CxS X sc) (hsc : X.env.scope = sc) (hk : sc.kind = .function) (hx : X.xe = fun _ _ => False) : ∀ (ms : List MS) (ss : List Stmt), mSs Tb X.N fr sc ms ss = true → PSs X ss (tS X.K H0 ι0 B0 fr (evSs C wf ms))
  | [], ss, h => by
    cases ss with
    | nil => exact s_nil fun _ _ => by simp only [evSs]
    | cons _ _ => simp [mSs] at h
  | m :: ms, ss, h => by
    cases ss with
    | nil => simp [mSs] at h
    | cons s ss =>
      simp only [mSs, Bool.and_eq_true] at h
      exact s_cons (sndS c cs hsc hk hx m s h.1) (sndSs c cs hsc hk hx ms ss h.2) fun _ _ => by simp only [evSs] <;> rfl
end
end
end DI
set_option Elab.async false
set_option linter.all false
set_option maxRecDepth 100000
set_option maxHeartbeats 4000000
/-! DI20: all defs of a text; the law's call -/
namespace DI
open PySem PySem.Spec PyProof.Rows L2
structure DefF (Tb : Tab) (K : PySem.W.Frag) (mg : Str → Option Value) (f : Nat) (m : MF) (x : Str) (ps : List Str) (addr : Addr) (fd : FuncData) : Prop where
  ex : ∃ st N, Fun K x x st addr fd ∧ FnScope N ps (defScope st) ∧ N.length = m.slots ∧ ps.length = m.params ∧ mSs Tb N m.fresh (defScope st) m.body (defBody st) = true
  here : mg x = some (.ref addr)
  bi : Binds K fd ps []
  kw : ∀ q, q ∈ Tb.kw → q.f = f → KwB K fd ps q.ks q.np q.perm
structure ProgF (Tb : Tab) (K : PySem.W.Frag) (mg : Str → Option Value) : Prop where
  blt : ∀ x, x ∈ Tb.blt → mg x = none
  gcd : ∀ x, x ∈ Tb.mods → mg x = some (.builtin "math.gcd")
  fn : ∀ f m x ps, Tb.T[f]? = some m → Tb.nm[f]? = some (x, ps) → ∃ addr fd, DefF Tb K mg f m x ps addr fd
section
variable {P : Program} {w : World} {K : PySem.W.Frag} {mg : Str → Option Value} {base : Heap} {Tb : Tab} {wf : Nat}
theorem start_env {H : Hp} {ι : Cells} {B : List Addr} {N : List Str} {vs : List V} {ds : List D} (r : Reps K (cut H ι B) ι vs ds) (hl : vs.length ≤ N.length) :
    REnv K H ι B B (L2.start N vs) (ds.map Sl.val ++ List.replicate (N.length - ds.length) .un) := by
  have l := r.length
  have at1 : ∀ (i : Nat) (s : Sl), (ds.map Sl.val ++ List.replicate (N.length - ds.length) Sl.un)[i]? = some s → (∃ d, s = .val d ∧ ds[i]? = some d) ∨ s = .un := fun i s h => by
    by_cases hi : i < ds.length
    · rw [List.getElem?_append_left (by rw [List.length_map]; exact hi), List.getElem?_map] at h
      cases e : ds[i]? with
      | none => rw [e] at h; cases h
      | some d => rw [e] at h; cases h; exact .inl ⟨d, rfl, rfl⟩
    · rw [List.getElem?_append_right (by rw [List.length_map]; omega), List.getElem?_replicate] at h
      split at h
      · cases h; exact .inr rfl
      · cases h
  refine ⟨?_, fun i d h => ?_, fun i es h => ?_, fun i j es fs a h1 h2 h3 h4 => ?_⟩
  · unfold L2.start
    rw [List.length_append, List.length_append, List.length_map, List.length_map, List.length_replicate, List.length_replicate, l]
  · rcases at1 i _ h with ⟨d', e, h'⟩ | e
    · cases e
      obtain ⟨v, e1, e2⟩ := r.get h'
      refine ⟨v, ?_, e2⟩
      unfold L2.start
      have hi := (List.getElem?_eq_some_iff.mp e1).1
      rw [List.getElem?_append_left (by rw [List.length_map]; exact hi), List.getElem?_map, e1]
      rfl
    · cases e
  · rcases at1 i _ h with ⟨d', e, _⟩ | e <;> cases e
  · rcases at1 i _ h1 with ⟨d', e, _⟩ | e <;> cases e
theorem all_fns (PF : ProgF Tb K mg) : ∀ (n f : Nat) (m : MF) (x : Str) (ps : List Str) (addr : Addr) (fd : FuncData), Tb.T[f]? = some m → Tb.nm[f]? = some (x, ps) → DefF Tb K mg f m x ps addr fd →
    FnG P w K mg base n addr fd ps (spD K (callN Tb.T wf n) f m.fresh)
  | 0, f, m, x, ps, addr, fd, hm, hn, DF => by
    have no : ∀ vs H Q E, ¬ spD K (callN Tb.T wf 0) f m.fresh vs H Q E := fun vs H Q E ⟨ds, ι, B, μ, d, μ', S, r, e, k⟩ => by cases e
    exact ⟨fun vs H Q h => (no _ _ _ _ h).elim, fun A outer s H args us vs Q _ _ _ _ _ h => (no _ _ _ _ h).elim⟩
  | n + 1, f, m, x, ps, addr, fd, hm, hn, DF => by
    obtain ⟨st, N, F, S, lN, lp, hb⟩ := DF.ex
    have pl : ps.length ≤ N.length := by
      have := congrArg List.length S.pre
      rw [List.length_take] at this
      omega
    have unf : ∀ (ds : List D) (μ : Mem) (d : D) (μ' : Mem), callN Tb.T wf (n + 1) f ds μ = some (d, μ') → ds.length = m.params ∧ ∃ fl, evSs (callN Tb.T wf n) wf m.body (ds.map Sl.val ++ List.replicate (m.slots - m.params) .un) μ = some (fl, μ') ∧ (fl = .rt d ∨ (∃ e, fl = .nx e) ∧ d = .non) := fun ds μ d μ' e => by
      unfold callN at e
      rw [hm] at e
      simp only [Option.bind_some] at e
      split at e
      · rename_i hl
        refine ⟨hl, ?_⟩
        obtain ⟨⟨fl, ν⟩, e1, e2⟩ := Option.bind_eq_some_iff.mp e
        dsimp only at e2
        split at e2
        · cases e2; exact ⟨_, e1, .inl rfl⟩
        · cases e2; exact ⟨_, e1, .inr ⟨⟨_, rfl⟩, rfl⟩⟩
        · cases e2
      · cases e
    refine FnG.of F S (fun vs H Q ⟨ds, ι, B, μ, d, μ', Sm, r, e, k⟩ => by rw [r.length, (unf _ _ _ _ e).1, lp]) fun cdv A outer s H vs Q rm gd ⟨ds, ι, B, μ, d, μ', Sm, r, e, k⟩ => ?_
    obtain ⟨hl, fl, e1, e2⟩ := unf _ _ _ _ e
    have c : CxE Tb (callN Tb.T wf n) n (cxOf CX0 P w K mg base N x (defScope st) addr cdv A outer s H E0).nox := ⟨rfl, S.nd, rm, gd, PF.blt, PF.gcd, fun f' m' x' ps' h1 h2 => by
      obtain ⟨addr', fd', D'⟩ := PF.fn f' m' x' ps' h1 h2
      obtain ⟨st', N', F', _⟩ := D'.ex
      exact ⟨addr', fd', D'.here, F'.kp, D'.bi, all_fns PF n f' m' x' ps' addr' fd' h1 h2 D', D'.kw⟩⟩
    refine ⟨_, sndSs (H0 := H) (ι0 := ι) (B0 := B) (fr := m.fresh) (wf := wf) c (CxS.top fun _ => rfl) rfl S.kind rfl m.body (defBody st) hb, ?_⟩
    have hle : vs.length ≤ N.length := by rw [r.length, hl, ← lp]; exact pl
    have en : ds.map Sl.val ++ List.replicate (m.slots - m.params) Sl.un = ds.map Sl.val ++ List.replicate (N.length - ds.length) Sl.un := by rw [lN, hl]
    rw [en] at e1
    refine ⟨_, μ, ι, B, fl, μ', ⟨Ext.refl, Keep.refl, ⟨Sm, start_env r hle⟩⟩, e1, ?_⟩
    rcases e2 with e2 | ⟨⟨ev, e2⟩, e3⟩
    · subst e2
      exact k
    · subst e2 e3
      intro σ' H' ι' B' F' x'
      have kk : KE K H ι B μ' .non Q := by
        cases h : m.fresh with
        | true => rw [h] at k; exact k
        | false => rw [h] at k; exact k
      exact kk .non H' ι' ⟨F'.x.shrink (fun _ h => h) F'.x.sub, F'.k, F'.a.s.shrink F'.x.sub⟩ .non
end
end DI
set_option Elab.async false
set_option linter.all false
set_option maxRecDepth 100000
set_option maxHeartbeats 4000000
/-! DI21: from the text's defs to the law's own call -/
namespace DI
open PySem PySem.Spec PyProof.Rows L2
section
variable {P : Program} {w : World} {K : PySem.W.Frag} {mg mb : Str → Option Value} {k : Nat} {fa a : Addr} {fd : FuncData} {x : Str} {sp : Sp} {s1 : Shared} {vs : List Value} {ns : List Int}
theorem hid_ns {H : Hp} {a : Addr} {o0 : Obj} (ha : s1.heap.get? a = some o0) (h0 : ∀ es n, o0.data ≠ .dict es n) (only : ∀ b, H b ≠ none → b = a) {b : Addr} {m : Str → Option Value} (h : s1.heap.Ns b m) : (hidT s1.heap H).Ns b m := by
  obtain ⟨o, es, ep, e, d, r⟩ := h
  refine ⟨o, es, ep, hidT_get e ?_, d, r⟩
  cases q : H b with
  | none => rfl
  | some u =>
    have e' := only b (by rw [q]; exact fun z => nomatch z)
    rw [e', ha] at e
    cases e
    exact absurd d (h0 es ep)
/-- the law's def, called with the script alone -/
theorem call_law (KX : K.In s1.heap) (hns : s1.heap.Ns mainGlobals mg) (hb : s1.heap.Ns builtinsNs mb) (hbb : ∀ x : Str, x ≠ "__name__" → mb x = bootBuiltins x) (hlim : s1.heap.NoLimit) (hg : s1.gens = #[])
    (ha : s1.heap.get? a = some { cls := .type "list", data := .seq vs.toArray }) (hi : IntsAre vs ns) (hl : ns.length ≤ sizeLine) (hr : Room k callerA)
    (F : ∀ base : Heap, K.In base → base.Ns mainGlobals mg → FnG P w K mg base k fa fd [x] sp) (bind : Binds K fd [x] [])
    (want : ∀ H : Hp, SqL K H a (ns.map V.int) → sp [.ref a] H (fun v _ => v = .bl true) E0) :
    codeAny (model P w) callerA (.call (.ref fa) ⟨[.ref a], []⟩) (fun r s' => r = .ok (.ret (.bool true)) ∧ OldK s1.heap s'.heap ∧ s'.os = s1.os ∧ AllBare s'.gens) s1 := by
  have rv := vals_ints hi
  have len := hi.length
  obtain ⟨H, hS, hok, only, off, frz⟩ : ∃ H : Hp, SqL K H a (ns.map V.int) ∧ HOk P w H s1.heap ∧ (∀ b, H b ≠ none → b = a) ∧ (H a ≠ none → K.lookup a = none) ∧ ∀ b, H b = none ∨ ∃ o xs, H b = some (.frz o (.lst xs)) := by
    cases hk : K.lookup a with
    | some o =>
      have e := (KX a o hk).symm.trans ha
      cases e
      exact ⟨fun _ => none, .inr ⟨_, vs.toArray, _, hk, rfl, rfl, rfl, by rw [List.size_toArray, len]; exact hl, by simpa using rv⟩, (fun b u z => nomatch z), (fun b z => absurd rfl z), (fun z => absurd rfl z), fun _ => .inl rfl⟩
    | none =>
      have at1 : (fun b => if b = a then some (HO.frz { cls := .type "list", data := .seq vs.toArray } (.lst (ns.map V.int))) else none) a = some (HO.frz { cls := .type "list", data := .seq vs.toArray } (.lst (ns.map V.int))) := if_pos rfl
      have at2 : ∀ b, b ≠ a → (fun b => if b = a then some (HO.frz { cls := .type "list", data := .seq vs.toArray } (.lst (ns.map V.int))) else none) b = none := fun b hb => if_neg hb
      refine ⟨fun b => if b = a then some (HO.frz { cls := .type "list", data := .seq vs.toArray } (.lst (ns.map V.int))) else none, .inl (.inr ⟨_, at1⟩), fun b u z => ?_, fun b z => ?_, fun _ => rfl, fun b => ?_⟩
      · by_cases e : b = a
        · subst e
          have z' := at1.symm.trans z
          cases z'
          exact ⟨ha, by rw [List.length_map]; exact hl, vs, _, rv, ha⟩
        · have z' := (at2 b e).symm.trans z
          cases z'
      · by_cases e : b = a
        · exact e
        · exact absurd (at2 b e) z
      · by_cases e : b = a
        · subst e; exact .inr ⟨_, _, at1⟩
        · exact .inl (at2 b e)
  have nod : ∀ es n, ({ cls := .type "list", data := .seq vs.toArray } : Obj).data ≠ .dict es n := fun es n z => nomatch z
  have nsH : ∀ {b : Addr} {m : Str → Option Value}, s1.heap.Ns b m → (hidT s1.heap H).Ns b m := fun h => hid_ns ha nod only h
  have inH : K.In (hidT s1.heap H) := fun b o e => hidT_get (KX b o e) (by
    cases q : H b with
    | none => rfl
    | some u =>
      have e' := only b (by rw [q]; exact fun z => nomatch z)
      subst e'
      have z := off (by rw [q]; exact fun z => nomatch z)
      rw [z] at e
      cases e)
  have M : Mod K mg (hidT s1.heap H) := ⟨inH, nsH hns, ⟨mb, nsH hb, hbb⟩, by
    obtain ⟨mc, h1, h2⟩ := hlim
    exact ⟨mc, nsH h1, h2⟩⟩
  have start0 : Env0 P w K mg (hidT s1.heap H) callerA [] s1 H := ⟨rfl, M, fun b o e => of_hidT e, Nat.le_of_eq (hidT_size _ _), trivial, (fun b q => absurd (show b ∈ ([] : List Addr) from q) (by simp)), hok, .of_eq hg⟩
  refine codeAny_mono ((F _ inH (nsH hns)).run callerA [] s1 H ⟨[.ref a], []⟩ [.ref a] [.ref a] _ hr rfl start0 (bind s1 [.ref a] KX rfl) (.cons rfl .nil) (want H hS)) fun r s' h => ?_
  rcases r with e | (_ | _ | _ | u)
  · exact False.elim h
  · exact False.elim h
  · exact False.elim h
  · exact False.elim h
  · obtain ⟨v, H', os, bare, un, hok', r', q⟩ := h
    have q' : v = .bl true := q
    subst q'
    have ru : u = Value.bool true := r'
    subst ru
    refine ⟨rfl, OldK.of_keep fun b o e => ?_, os, bare⟩
    rcases frz b with z | ⟨ob, xs, z⟩
    · exact un.keep b o e z (fun q => absurd (show b ∈ ([] : List Addr) from q) (by simp)) (fun q => nomatch q)
    · obtain ⟨e1, _⟩ := hok b _ z
      obtain ⟨e2, _⟩ := hok' b _ (un.frzs b ob _ z)
      rw [e] at e1
      cases e1
      exact e2
end
/-- the goal that k_head leaves -/
theorem walk_law {l : PySem.W.OpenLaw} {n k : Nat} {q : Program} {loose : List Str} {XP : (Str → Option Value) → Heap → Prop} {YP : World → Heap → Prop} {d : DefRec} {K : Params → PySem.W.Frag} {Tb : Tab} {fi : Nat} {xs : Str}
    (hn : l.most = some n) (hn2 : n ≤ sizeLine) (hdf : d.params.defaults = []) (hr : Room k callerA)
    (hY : ∀ (w : World) (h : Heap), YP w h → (K w.params).In h)
    (F : ∀ (w : World) (mg : Str → Option Value) (h : Heap), (K w.params).In h → h.Ns mainGlobals mg → ProgF Tb (K w.params) mg)
    (hm : ∃ m, Tb.T[fi]? = some m ∧ m.fresh = false) (hnm : Tb.nm[fi]? = some (d.name, [xs]))
    (plain : ∀ ns : List Int, ns.length ≤ n → (∀ i, i ∈ ns → Builtin.Int.intBits i ≤ 1048576) → ∃ wf μ', callN Tb.T wf k fi [.lst (ns.map D.int)] [] = some (.bl true, μ')) :
    PySem.W.WalkO q loose XP YP l.row.toRowW d [] (fun f vs => PySem.call f vs) := by
  refine Att.attach_callB hn hdf fun w s₀ s₁ mg mb fa o pm cd doc a vs ns G Y ho hd hcd hmg hobj hints hlen hbits hg => ?_
  have KX := hY w _ Y
  have PF := F w mg _ KX G.T.g
  obtain ⟨m, hm, hf⟩ := hm
  obtain ⟨addr, fd, DF⟩ := PF.fn fi m d.name [xs] hm hnm
  have e := DF.here.symm.trans hmg
  cases e
  obtain ⟨wf, μ', e⟩ := plain ns hlen hbits
  refine call_law (x := xs) (sp := spD (K w.params) (callN Tb.T wf k) fi m.fresh) KX G.T.g G.T.b G.T.builtins G.T.nolimit hg hobj hints (Nat.le_trans hlen hn2) hr (fun base _ _ => all_fns PF k fi m d.name [xs] fa fd hm hnm DF) DF.bi fun H hS => ?_
  · have nocut : cut H [] [] = H := by
      funext b
      unfold cut
      rw [if_neg]
      rintro (z | z) <;> exact nomatch z
    refine ⟨[.lst (ns.map D.int)], [], [], [], .bl true, μ', ⟨rfl, (fun i j a h => nomatch h), (fun a h => nomatch h), (fun a h => nomatch h), (fun a h => nomatch h), (fun n ds h => nomatch h)⟩, ?_, e, ?_⟩
    · refine .cons (.lst (vs := ns.map V.int) (by rw [nocut]; exact hS) ?_) .nil
      clear e hS hbits hlen hints
      induction ns with
      | nil => exact .nil
      | cons i ns ih => exact .cons (.int i) ih
    · rw [hf]
      intro v H' ι' _ r
      cases r
      rfl
end DI
set_option Elab.async false
set_option linter.all false
set_option maxRecDepth 100000
set_option maxHeartbeats 4000000
/-! DI22: small helps for the printed files -/
namespace DI
open PySem PySem.Spec PyProof.Rows L2
theorem len_0 {α : Type} {l : List α} (h : l.length = 0) : l = [] := List.length_eq_zero_iff.mp h
theorem len_1 {α : Type} {l : List α} (h : l.length = 1) : ∃ a, l = [a] := match l, h with
  | [a], _ => ⟨a, rfl⟩
theorem len_2 {α : Type} {l : List α} (h : l.length = 2) : ∃ a b, l = [a, b] := match l, h with
  | [a, b], _ => ⟨a, b, rfl⟩
theorem len_3 {α : Type} {l : List α} (h : l.length = 3) : ∃ a b c, l = [a, b, c] := match l, h with
  | [a, b, c], _ => ⟨a, b, c, rfl⟩
theorem len_4 {α : Type} {l : List α} (h : l.length = 4) : ∃ a b c d, l = [a, b, c, d] := match l, h with
  | [a, b, c, d], _ => ⟨a, b, c, d, rfl⟩
theorem pick_all {α : Type} {l all : List α} (h : l.map some = all.map some) : all = l := ((List.map_inj_right fun _ _ e => Option.some.inj e).mp h).symm
end DI
set_option Elab.async false
set_option linter.all false
set_option maxRecDepth 100000
set_option maxHeartbeats 4000000
/-! DP1: reckoning with the data language -/
namespace DI
open PySem PySem.Spec PyProof.Rows L2
theorem run_ret {T : List MF} {wf n f : Nat} {ds : List D} {μ μ' : Mem} {m : MF} {d : D} (h : T[f]? = some m) (hl : ds.length = m.params)
    (e : evSs (callN T wf n) wf m.body (ds.map Sl.val ++ List.replicate (m.slots - m.params) .un) μ = some (.rt d, μ')) : callN T wf (n + 1) f ds μ = some (d, μ') := by
  unfold callN
  rw [h, Option.bind_some, if_pos hl, e]
  rfl
theorem run_nx {T : List MF} {wf n f : Nat} {ds : List D} {μ μ' : Mem} {m : MF} {env : Ev} (h : T[f]? = some m) (hl : ds.length = m.params)
    (e : evSs (callN T wf n) wf m.body (ds.map Sl.val ++ List.replicate (m.slots - m.params) .un) μ = some (.nx env, μ')) : callN T wf (n + 1) f ds μ = some (.non, μ') := by
  unfold callN
  rw [h, Option.bind_some, if_pos hl, e]
  rfl
end DI
set_option Elab.async false
set_option linter.all false
set_option maxRecDepth 100000
set_option maxHeartbeats 4000000
/-! DP2: fractions as rational numbers -/
namespace DI
open PySem PySem.Spec PyProof.Rows L2
theorem fdiv_gcd {a b : Int} (hb : b ≠ 0) {m : Int} (hm : m = if 0 < b then (b.gcd a : Int) else -(b.gcd a : Int)) : a.fdiv m = (Rat.divInt a b).num ∧ b.fdiv m = ((Rat.divInt a b).den : Int) := by
  have g0 : b.gcd a ≠ 0 := fun z => hb (Int.gcd_eq_zero_iff.mp z).1
  obtain ⟨x, hx⟩ := Int.gcd_dvd_right b a
  obtain ⟨y, hy⟩ := Int.gcd_dvd_left b a
  generalize hg : b.gcd a = g at *
  have gi : (g : Int) ≠ 0 := by omega
  rw [Rat.num_divInt, Rat.den_divInt, if_neg hb, hg]
  by_cases h : 0 < b
  · rw [if_pos h] at hm
    subst hm
    rw [Int.sign_eq_one_of_pos h]
    refine ⟨?_, ?_⟩
    · rw [Int.one_mul, hx, Int.fdiv_eq_ediv_of_nonneg _ (by omega)]
    · rw [Int.fdiv_eq_ediv_of_nonneg _ (by omega), Int.natCast_ediv, Int.natAbs_of_nonneg (by omega)]
  · rw [if_neg h] at hm
    subst hm
    have hn : b < 0 := by omega
    rw [Int.sign_eq_neg_one_of_neg hn]
    refine ⟨?_, ?_⟩
    · rw [hx, show (g : Int) * x = -(g : Int) * -x by rw [Int.neg_mul_neg], Int.mul_fdiv_cancel_left _ (by omega)]
      rw [show (-1 : Int) * (-(g : Int) * -x) = (g : Int) * (-x) by rw [Int.neg_mul_neg, Int.neg_one_mul, Int.mul_neg]]
      rw [Int.mul_ediv_cancel_left _ gi]
    · rw [Int.natCast_ediv, show ((b.natAbs : Nat) : Int) = -b by omega]
      rw [hy, show (g : Int) * y = -(g : Int) * -y by rw [Int.neg_mul_neg], Int.mul_fdiv_cancel_left _ (by omega)]
      rw [show -(-(g : Int) * -y) = (g : Int) * (-y) by rw [Int.neg_mul_neg, Int.mul_neg], Int.mul_ediv_cancel_left _ gi]
def dQ (q : Rat) : D := .tup [.int q.num, .int q.den]
def dP (p : Rat × Rat) : D := .tup [dQ p.1, dQ p.2]
theorem sub_divInt (p q : Rat) : Rat.divInt (p.num * q.den - q.num * p.den) (p.den * q.den) = p - q := by
  rw [Rat.sub_def', ← Rat.divInt_ofNat]
  norm_cast
theorem add_divInt (p q : Rat) : Rat.divInt (p.num * q.den + q.num * p.den) (p.den * q.den) = p + q := by
  rw [Rat.add_def', ← Rat.divInt_ofNat]
  norm_cast
theorem mul_divInt (p q : Rat) : Rat.divInt (p.num * q.num) (p.den * q.den) = p * q := by
  rw [Rat.mul_def', ← Rat.divInt_ofNat]
  norm_cast
def Sm (n : Nat) (q : Rat) : Prop := q.num.natAbs < 2 ^ n ∧ q.den < 2 ^ n
theorem Sm.mono {n m : Nat} {q : Rat} (h : Sm n q) (l : n ≤ m) : Sm m q := ⟨Nat.lt_of_lt_of_le h.1 (Nat.pow_le_pow_right (by decide) l), Nat.lt_of_lt_of_le h.2 (Nat.pow_le_pow_right (by decide) l)⟩
theorem sm_divInt {a b : Int} {n : Nat} (ha : a.natAbs < 2 ^ n) (hb : b.natAbs < 2 ^ n) (h1 : 1 ≤ n) : Sm n (Rat.divInt a b) := by
  refine ⟨?_, ?_⟩
  · rw [Rat.num_divInt]
    have e : (b.sign * a / (b.gcd a : Int)).natAbs ≤ (b.sign * a).natAbs := Int.natAbs_ediv_le_natAbs _ _
    have e2 : (b.sign * a).natAbs ≤ a.natAbs := by
      rw [Int.natAbs_mul]
      have : b.sign.natAbs ≤ 1 := by rw [Int.natAbs_sign]; split <;> decide
      exact Nat.le_trans (Nat.mul_le_mul_right _ this) (by omega)
    omega
  · rw [Rat.den_divInt]
    split
    · exact Nat.lt_of_lt_of_le (show 1 < 2 ^ 1 by decide) (Nat.pow_le_pow_right (by decide) h1)
    · exact Nat.lt_of_le_of_lt (Nat.div_le_self _ _) hb
theorem mul_lt_pow {a b n m : Nat} (ha : a < 2 ^ n) (hb : b < 2 ^ m) : a * b < 2 ^ (n + m) := by
  rw [Nat.pow_add]
  exact Nat.mul_lt_mul'' ha hb
theorem Sm.mul {n m : Nat} {p q : Rat} (hp : Sm n p) (hq : Sm m q) (h1 : 1 ≤ n) : Sm (n + m) (p * q) := by
  rw [← mul_divInt]
  refine sm_divInt ?_ ?_ (by omega)
  · rw [Int.natAbs_mul]; exact mul_lt_pow hp.1 hq.1
  · rw [Int.natAbs_mul]; exact mul_lt_pow hp.2 hq.2
theorem Sm.sub {n m : Nat} {p q : Rat} (hp : Sm n p) (hq : Sm m q) : Sm (n + m + 1) (p - q) := by
  rw [← sub_divInt]
  have e1 := mul_lt_pow hp.1 hq.2
  have e2 := mul_lt_pow hp.2 hq.1
  have e3 := mul_lt_pow hp.2 hq.2
  have e4 : 2 ^ (n + m + 1) = 2 ^ (n + m) * 2 := Nat.pow_succ 2 (n + m)
  refine sm_divInt ?_ ?_ (by omega)
  · have := Int.natAbs_sub_le (p.num * q.den) (q.num * p.den)
    rw [Int.natAbs_mul, Int.natAbs_mul, Int.natAbs_natCast, Int.natAbs_natCast, Nat.mul_comm q.num.natAbs] at this
    omega
  · rw [Int.natAbs_mul, Int.natAbs_natCast, Int.natAbs_natCast]; omega
theorem Sm.add {n m : Nat} {p q : Rat} (hp : Sm n p) (hq : Sm m q) : Sm (n + m + 1) (p + q) := by
  rw [← add_divInt]
  have e1 := mul_lt_pow hp.1 hq.2
  have e2 := mul_lt_pow hp.2 hq.1
  have e3 := mul_lt_pow hp.2 hq.2
  have e4 : 2 ^ (n + m + 1) = 2 ^ (n + m) * 2 := Nat.pow_succ 2 (n + m)
  refine sm_divInt ?_ ?_ (by omega)
  · have := Int.natAbs_add_le (p.num * q.den) (q.num * p.den)
    rw [Int.natAbs_mul, Int.natAbs_mul, Int.natAbs_natCast, Int.natAbs_natCast, Nat.mul_comm q.num.natAbs] at this
    omega
  · rw [Int.natAbs_mul, Int.natAbs_natCast, Int.natAbs_natCast]; omega
theorem log2_lt {a n : Nat} (h : a < 2 ^ n) : a.log2 < n + 1 := by
  by_cases z : a = 0
  · subst z; rw [Nat.log2_zero]; omega
  · have := (Nat.log2_lt z).mpr h
    omega
theorem opI_mul {i j : Int} {n m : Nat} (hi : i.natAbs < 2 ^ n) (hj : j.natAbs < 2 ^ m) (h : n + m < 999998) : opI .mul i j = some (i * j) := by
  have h1 := log2_lt hi
  have h2 := log2_lt hj
  show (if i.natAbs.log2 + j.natAbs.log2 < 1000000 then some (i * j) else none) = _
  rw [if_pos (by omega)]
theorem opI_fdiv {i j : Int} {n : Nat} (h0 : j ≠ 0) (hj : j.natAbs < 2 ^ n) (h : n < 8999) : opI .fdiv i j = some (i.fdiv j) := by
  have h2 := log2_lt hj
  show (if j ≠ 0 ∧ j.natAbs.log2 < 9000 then some (i.fdiv j) else none) = _
  rw [if_pos ⟨h0, by omega⟩]
theorem opI_mod {i j : Int} (h0 : j ≠ 0) : opI .mod i j = some (i.fmod j) := if_pos h0
end DI
set_option Elab.async false
set_option linter.all false
set_option maxRecDepth 100000
set_option maxHeartbeats 4000000
/-! DP3: plain facts of data -/
namespace DI
open PySem PySem.Spec PyProof.Rows L2
theorem compGo_pure {step : D → Mem → Option (Option D × Mem)} {ok : Mem → Bool} {μ : Mem} {g : D → Option D} (hk : ok μ = true) : ∀ xs : List D, (∀ x, x ∈ xs → step x μ = some (g x, μ)) → compGo step ok xs μ = some (xs.filterMap g, μ)
  | [], _ => rfl
  | x :: xs, h => by
    have ih := compGo_pure (step := step) hk xs fun y hy => h y (List.mem_cons_of_mem _ hy)
    unfold compGo
    rw [h x List.mem_cons_self]
    simp only [Option.bind_some, hk, if_true, ih, Option.map_some]
    rw [List.filterMap_cons]
    cases g x <;> rfl
mutual
/-- no dict in it -/
def flat : D → Bool
  | .dic _ => false
  | .tup xs => flats xs
  | .lst xs => flats xs
  | _ => true
def flats : List D → Bool
  | [] => true
  | x :: xs => flat x && flats xs
end
mutual
theorem beq_refl : ∀ d : D, flat d = true → d.beq d = true
  | .non, _ => rfl
  | .bl b, _ => by cases b <;> rfl
  | .int i, _ => by simp [D.beq]
  | .str x, _ => by simp [D.beq]
  | .tup xs, h => by
    simp only [D.beq]
    exact beqs_refl xs (by simpa only [flat] using h)
  | .lst xs, h => by
    simp only [D.beq]
    exact beqs_refl xs (by simpa only [flat] using h)
  | .ref n, _ => by simp [D.beq]
  | .dic _, h => by simp [flat] at h
theorem beqs_refl : ∀ ds : List D, flats ds = true → D.beqs ds ds = true
  | [], _ => rfl
  | x :: xs, h => by
    simp only [flats, Bool.and_eq_true] at h
    simp only [D.beqs, Bool.and_eq_true]
    exact ⟨beq_refl x h.1, beqs_refl xs h.2⟩
end
theorem flats_iff : ∀ ds : List D, flats ds = true ↔ ∀ d, d ∈ ds → flat d = true
  | [] => by simp [flats]
  | x :: xs => by simp [flats, flats_iff xs]
theorem flat_dQ (q : Rat) : flat (dQ q) = true := rfl
theorem flat_dP (p : Rat × Rat) : flat (dP p) = true := rfl
theorem flats_map {α : Type} {f : α → D} (h : ∀ x, flat (f x) = true) (l : List α) : flats (l.map f) = true := by
  rw [flats_iff]
  intro d hd
  obtain ⟨x, _, rfl⟩ := List.mem_map.mp hd
  exact h x
/-! ### as the kit's data -/
def pQ (q : Rat) : PyData := .tuple [.int q.num, .int q.den]
def pP (p : Rat × Rat) : PyData := .tuple [pQ p.1, pQ p.2]
theorem pyW_dQ {cf : Nat → Option PyData} (q : Rat) : pyW cf (dQ q) = some (pQ q) := by simp [dQ, pQ, pyW, pyWs]
theorem pyW_dP {cf : Nat → Option PyData} (p : Rat × Rat) : pyW cf (dP p) = some (pP p) := by simp [dP, pP, pyW, pyWs, pyW_dQ]
theorem pyWs_map {α : Type} {cf : Nat → Option PyData} {f : α → D} {g : α → PyData} (h : ∀ x, pyW cf (f x) = some (g x)) : ∀ l : List α, pyWs cf (l.map f) = some (l.map g)
  | [] => by simp [pyWs]
  | x :: l => by simp [pyWs, h, pyWs_map h l]
theorem eqv_pQ (p q : Rat) : PyData.eqv (pQ p) (pQ q) = decide (p = q) := by
  simp only [pQ, PyData.eqv, PyData.eqvAll, Bool.and_true]
  rw [Bool.eq_iff_iff]
  simp only [Bool.and_eq_true, beq_iff_eq, decide_eq_true_eq]
  constructor
  · rintro ⟨h1, h2⟩
    exact Rat.ext h1 (by omega)
  · rintro rfl
    exact ⟨rfl, rfl⟩
theorem eqv_pP (p q : Rat × Rat) : PyData.eqv (pP p) (pP q) = decide (p = q) := by
  simp only [pP, PyData.eqv, PyData.eqvAll, Bool.and_true, eqv_pQ]
  rw [Bool.eq_iff_iff]
  simp [Prod.ext_iff]
theorem lay_pQ (q : Rat) : (pQ q).canLay0 = true ∧ (pQ q).depth = 1 := by simp [pQ, PyData.canLay0, PyData.canLayAll0, PyData.depth, PyData.depthAll]
theorem lay_pP (p : Rat × Rat) : (pP p).canLay0 = true ∧ (pP p).depth = 2 := by simp [pP, PyData.canLay0, PyData.canLayAll0, PyData.depth, PyData.depthAll, lay_pQ]
theorem lay_map {α : Type} {g : α → PyData} {k : Nat} (h : ∀ x, (g x).canLay0 = true ∧ (g x).depth ≤ k) : ∀ l : List α, PyData.canLayAll0 (l.map g) = true ∧ PyData.depthAll (l.map g) ≤ k
  | [] => by simp [PyData.canLayAll0, PyData.depthAll]
  | x :: l => by
    have ih := lay_map h l
    have hx := h x
    simp only [List.map_cons, PyData.canLayAll0, PyData.depthAll, hx.1, ih.1, Bool.and_self, true_and]
    omega
theorem shaped_of {d : PyData} (h : d.canLay0 = true ∧ d.depth ≤ 64) : SeqAt.shaped d = true := by
  unfold SeqAt.shaped
  rw [h.1, decide_eq_true h.2]
  rfl
theorem shaped_int (i : Int) : SeqAt.shaped (.int i) = true := rfl
theorem shaped_bool (i : Bool) : SeqAt.shaped (.bool i) = true := rfl
theorem shaped_none : SeqAt.shaped .none = true := rfl
theorem shaped_pQ (q : Rat) : SeqAt.shaped (pQ q) = true := shaped_of ⟨(lay_pQ q).1, by rw [(lay_pQ q).2]; omega⟩
theorem shaped_pP (q : Rat × Rat) : SeqAt.shaped (pP q) = true := shaped_of ⟨(lay_pP q).1, by rw [(lay_pP q).2]; omega⟩
theorem shaped_pPs (l : List (Rat × Rat)) : SeqAt.shaped (.list (l.map pP)) = true := by
  have := lay_map (g := pP) (k := 2) (fun x => ⟨(lay_pP x).1, by rw [(lay_pP x).2]; exact Nat.le_refl _⟩) l
  refine shaped_of ⟨by simpa only [PyData.canLay0] using this.1, ?_⟩
  simp only [PyData.depth]
  omega
variable {μ : Mem}
theorem eqD_int (i j : Int) : eqD μ (.int i) (.int j) = some (decide (i = j)) := by
  simp only [eqD, toPy, pyW, Option.bind_some, shaped_int, Bool.and_self, if_true, PyData.eqv]
  rfl
theorem eqD_bl (i j : Bool) : eqD μ (.bl i) (.bl j) = some (i == j) := by
  simp only [eqD, toPy, pyW, Option.bind_some, shaped_bool, Bool.and_self, if_true, PyData.eqv]
theorem eqD_dQ (p q : Rat) : eqD μ (dQ p) (dQ q) = some (decide (p = q)) := by
  simp only [eqD, toPy, pyW_dQ, Option.bind_some, shaped_pQ, Bool.and_self, if_true, eqv_pQ]
theorem inD_dP (p : Rat × Rat) (l : List (Rat × Rat)) : inD μ (dP p) (.lst (l.map dP)) = some (decide (p ∈ l)) := by
  have e : inD μ (dP p) (.lst (l.map dP)) = ((toPy μ (dP p)).bind fun x => (seqV μ (.lst (l.map dP))).bind fun bs => (pyWs (cellPy μ 8) bs).bind fun ys =>
      if SeqAt.shaped x && SeqAt.shaped (.list ys) then some (ys.any fun z => PyData.eqv z x) else none) := rfl
  rw [e]
  simp only [toPy, pyW_dP, Option.bind_some, seqV, pyWs_map pyW_dP, shaped_pP, shaped_pPs, Bool.and_self, if_true, List.any_map, Function.comp_def, eqv_pP]
  congr 1
  rw [Bool.eq_iff_iff]
  simp
end DI
set_option Elab.async false
set_option linter.all false
set_option maxRecDepth 100000
set_option maxHeartbeats 4000000
/-! DP4: the evaluator, step by step -/
namespace DI
open PySem PySem.Spec PyProof.Rows L2
section
variable {C : Call} {wf : Nat} {env : Ev} {μ : Mem}
@[simp] theorem evE_var1 {i} : evE C (.var i) env μ = match env[i]? with
    | some (.val d) => some (d, μ)
    | _ => none := by rw [evE] <;> rfl
@[simp] theorem evE_ovar2 {i} : evE C (.ovar i) env μ = match env[i]? with
    | some (.own ds) => some (.lst ds, μ)
    | _ => none := by rw [evE] <;> rfl
@[simp] theorem evE_non3 : evE C (.non) env μ = some (.non, μ) := by rw [evE] <;> rfl
@[simp] theorem evE_bl4 {b} : evE C (.bl b) env μ = some (.bl b, μ) := by rw [evE] <;> rfl
@[simp] theorem evE_int5 {i} : evE C (.int i) env μ = some (.int i, μ) := by rw [evE] <;> rfl
@[simp] theorem evE_str6 {x} : evE C (.str x) env μ = some (.str x, μ) := by rw [evE] <;> rfl
@[simp] theorem evE_tup7 {es} : evE C (.tup es) env μ = (evEs C es env μ).bind fun p => if p.1.length ≤ sizeLine then some (.tup p.1, p.2) else none := by rw [evE] <;> rfl
@[simp] theorem evE_lst8 {es} : evE C (.lst es) env μ = (evEs C es env μ).bind fun p => if p.1.length ≤ sizeLine then some (.lst p.1, p.2) else none := by rw [evE] <;> rfl
@[simp] theorem evE_dic09 : evE C (.dic0) env μ = some (.dic [], μ) := by rw [evE] <;> rfl
@[simp] theorem evE_cell10 {e} : evE C (.cell e) env μ = (evE C e env μ).bind fun p => match p.1 with
    | .lst ds => some (.ref p.2.length, p.2 ++ [some ds])
    | _ => none := by rw [evE] <;> rfl
@[simp] theorem evE_op11 {o a b} : evE C (.op o a b) env μ = (evE C a env μ).bind fun p => (evE C b env p.2).bind fun q => (opD q.2 o p.1 q.1).map fun d => (d, q.2) := by rw [evE] <;> rfl
@[simp] theorem evE_neg12 {a} : evE C (.neg a) env μ = (evE C a env μ).bind fun p => match p.1 with
    | .int i => some (.int (-i), p.2)
    | _ => none := by rw [evE] <;> rfl
@[simp] theorem evE_not13 {a} : evE C (.not a) env μ = (evE C a env μ).bind fun p => (truthD p.2 p.1).map fun b => (.bl (!b), p.2) := by rw [evE] <;> rfl
@[simp] theorem evE_cmp14 {o a b} : evE C (.cmp o a b) env μ = (evE C a env μ).bind fun p => (evE C b env p.2).bind fun q => (cmpD q.2 o p.1 q.1).map fun d => (.bl d, q.2) := by rw [evE] <;> rfl
@[simp] theorem evE_isn15 {ng a} : evE C (.isn ng a) env μ = (evE C a env μ).bind fun p => match p.1 with
    | .non => some (.bl (!ng), p.2)
    | .ref _ => none
    | _ => some (.bl ng, p.2) := by rw [evE] <;> rfl
@[simp] theorem evE_isb16 {ng b a} : evE C (.isb ng b a) env μ = (evE C a env μ).bind fun p => match p.1 with
    | .bl k => some (.bl (if ng then !decide (k = b) else decide (k = b)), p.2)
    | _ => none := by rw [evE] <;> rfl
@[simp] theorem evE_and17 {a b} : evE C (.and a b) env μ = (evE C a env μ).bind fun p => match p.1 with
    | .bl true => evE C b env p.2
    | .bl false => some (.bl false, p.2)
    | _ => none := by rw [evE] <;> rfl
@[simp] theorem evE_or18 {a b} : evE C (.or a b) env μ = (evE C a env μ).bind fun p => match p.1 with
    | .bl false => evE C b env p.2
    | .bl true => some (.bl true, p.2)
    | _ => none := by rw [evE] <;> rfl
@[simp] theorem evE_ite19 {c a b} : evE C (.ite c a b) env μ = (evE C c env μ).bind fun p => (truthD p.2 p.1).bind fun k => if k then evE C a env p.2 else evE C b env p.2 := by rw [evE] <;> rfl
@[simp] theorem evE_idx20 {a i} : evE C (.idx a i) env μ = (evE C a env μ).bind fun p => (evE C i env p.2).bind fun q => (idxD q.2 p.1 q.1).map fun d => (d, q.2) := by rw [evE] <;> rfl
@[simp] theorem evE_slc21 {a lo hi} : evE C (.slc a lo hi) env μ = (evE C a env μ).bind fun p => (evO C lo env p.2).bind fun q => (evO C hi env q.2).bind fun r => (slcD r.2 p.1 q.1 r.1).map fun d => (d, r.2) := by rw [evE] <;> rfl
@[simp] theorem evE_rev22 {a} : evE C (.rev a) env μ = (evE C a env μ).bind fun p => (seqV p.2 p.1).map fun xs => (.lst xs.reverse, p.2) := by rw [evE] <;> rfl
@[simp] theorem evE_call23 {f es} : evE C (.call f es) env μ = (evEs C es env μ).bind fun p => C f p.1 p.2 := by rw [evE] <;> rfl
@[simp] theorem evE_callk24 {f es ks perm} : evE C (.callk f es ks perm) env μ = (evEs C es env μ).bind fun p => (evEs C ks env p.2).bind fun q => (permD (p.1 ++ q.1) perm).bind fun ds => C f ds q.2 := by rw [evE] <;> rfl
@[simp] theorem evE_bi25 {b es} : evE C (.bi b es) env μ = (evEs C es env μ).bind fun p => (biD p.2 b p.1).map fun d => (d, p.2) := by rw [evE] <;> rfl
@[simp] theorem evE_bits26 {a} : evE C (.bits a) env μ = (evE C a env μ).bind fun p => match p.1 with
    | .int i => some (.int (Builtin.Int.intBits i : Nat), p.2)
    | _ => none := by rw [evE] <;> rfl
@[simp] theorem evE_isi27 {a ts} : evE C (.isi a ts) env μ = (evE C a env μ).bind fun p => if liveD p.2 p.1 then some (.bl (ts.any (isT p.1)), p.2) else none := by rw [evE] <;> rfl
@[simp] theorem evEs_nil28 : evEs C [] env μ = some ([], μ) := by rw [evEs] <;> rfl
@[simp] theorem evEs_e29 (e : ME) (es : List ME) : evEs C (e :: es) env μ = (evE C e env μ).bind fun p => (evEs C es env p.2).map fun q => (p.1 :: q.1, q.2) := by rw [evEs] <;> rfl
@[simp] theorem evO_none30 : evO C none env μ = some (none, μ) := by rw [evO] <;> rfl
@[simp] theorem evO_some31 (e : ME) : evO C (some e) env μ = (evE C e env μ).bind fun p => match p.1 with
    | .int i => some (some i, p.2)
    | _ => none := by rw [evO] <;> rfl
@[simp] theorem evCs_nil32 : evCs C [] env μ = some (true, μ) := by rw [evCs] <;> rfl
@[simp] theorem evCs_e33 (e : ME) (es : List ME) : evCs C (e :: es) env μ = (evE C e env μ).bind fun p => (truthD p.2 p.1).bind fun b => if b then evCs C es env p.2 else some (false, p.2) := by rw [evCs] <;> rfl
theorem evI_seq34 {e} : evI C (.seq e) env μ = (evE C e env μ).bind fun p => (itemsD p.2 p.1).map fun ds => ((ds, lockOf p.2 e p.1), p.2) := by rw [evI] <;> rfl
theorem evI_rng35 {es} : evI C (.rng es) env μ = (evEs C es env μ).bind fun p => match p.1 with
    | [.int j] => if rangeOk j then some ((rangeD 0 j, []), p.2) else none
    | [.int i, .int j] => if rangeOk i && rangeOk j then some ((rangeD i j, []), p.2) else none
    | _ => none := by rw [evI] <;> rfl
theorem evI_zip36 {a b} : evI C (.zip a b) env μ = (evE C a env μ).bind fun p => (evE C b env p.2).bind fun q => match p.1, q.1 with
    | .tup xs, .tup ys => some ((zipD xs ys, []), q.2)
    | x, y => (seqV q.2 x).bind fun xs => (seqV q.2 y).map fun ys => ((zipD xs ys, lockOf q.2 a x ++ lockOf q.2 b y), q.2) := by rw [evI] <;> rfl
theorem evI_enum37 {a} : evI C (.enum a) env μ = (evE C a env μ).bind fun p => (seqV p.2 p.1).map fun ds => ((enumD 0 ds, lockOf p.2 a p.1), p.2) := by rw [evI] <;> rfl
@[simp] theorem evS_asg38 {g e} : evS C wf (.asg g e) env μ = (evE C e env μ).bind fun p => (bindG g p.1 env).map fun e1 => (.nx e1, p.2) := by rw [evS] <;> rfl
@[simp] theorem evS_own39 {i e} : evS C wf (.own i e) env μ = (evE C e env μ).bind fun p => match p.1 with
    | .lst ds => some (.nx (env.set i (.own ds)), p.2)
    | _ => none := by rw [evS] <;> rfl
@[simp] theorem evS_par40 {is es} : evS C wf (.par is es) env μ = (evEs C es env μ).bind fun p => (parE is p.1 env).map fun e1 => (.nx e1, p.2) := by rw [evS] <;> rfl
@[simp] theorem evS_aug41 {i o e} : evS C wf (.aug i o e) env μ = match env[i]? with
    | some (.val (.int x)) => (evE C e env μ).bind fun p => match o, p.1 with
      | .add, .int y => some (.nx (env.set i (.val (.int (x + y)))), p.2)
      | .sub, .int y => some (.nx (env.set i (.val (.int (x - y)))), p.2)
      | _, _ => none
    | _ => none := by rw [evS] <;> rfl
@[simp] theorem evS_sset42 {a i e} : evS C wf (.sset a i e) env μ = (evE C e env μ).bind fun p => (evE C a env p.2).bind fun q => (evE C i env q.2).bind fun r => match q.1, r.1 with
    | .ref n, .int k => (r.2[n]?).join.bind fun ds => (ixN ds.length k).map fun j => (.nx env, r.2.set n (some (ds.set j p.1)))
    | _, _ => none := by rw [evS] <;> rfl
@[simp] theorem evS_meth43 {m a es} : evS C wf (.meth m a es) env μ = (evE C a env μ).bind fun p => match p.1 with
    | .ref n => (p.2[n]?).join.bind fun _ => (evEs C es env p.2).bind fun q => (q.2[n]?).join.bind fun ds => (mthD m ds q.1).map fun ds' => (.nx env, q.2.set n (some ds'))
    | _ => none := by rw [evS] <;> rfl
@[simp] theorem evS_ometh44 {m i es} : evS C wf (.ometh m i es) env μ = match env[i]? with
    | some (.own ds) => (evEs C es env μ).bind fun q => (mthD m ds q.1).map fun ds' => (.nx (env.set i (.own ds')), q.2)
    | _ => none := by rw [evS] <;> rfl
@[simp] theorem evS_expr45 {e} : evS C wf (.expr e) env μ = (evE C e env μ).map fun p => (.nx env, p.2) := by rw [evS] <;> rfl
@[simp] theorem evS_ret46 {e} : evS C wf (.ret e) env μ = (evE C e env μ).map fun p => (.rt p.1, p.2) := by rw [evS] <;> rfl
@[simp] theorem evS_reto47 {i} : evS C wf (.reto i) env μ = match env[i]? with
    | some (.own ds) => some (.rt (.lst ds), μ)
    | _ => none := by rw [evS] <;> rfl
@[simp] theorem evS_retn48 : evS C wf (.retn) env μ = some (.rt .non, μ) := by rw [evS] <;> rfl
@[simp] theorem evS_iff49 {c a b} : evS C wf (.iff c a b) env μ = (evT C c env μ).bind fun p => if p.1 then evSs C wf a env p.2 else evSs C wf b env p.2 := by rw [evS] <;> rfl
@[simp] theorem evS_pass50 : evS C wf (.pass) env μ = some (.nx env, μ) := by rw [evS] <;> rfl
@[simp] theorem evS_doc51 : evS C wf (.doc) env μ = some (.nx env, μ) := by rw [evS] <;> rfl
@[simp] theorem evS_brk52 : evS C wf (.brk) env μ = some (.bk env, μ) := by rw [evS] <;> rfl
@[simp] theorem evS_cnt53 : evS C wf (.cnt) env μ = some (.ct env, μ) := by rw [evS] <;> rfl
@[simp] theorem evS_raise54 : evS C wf (.raise) env μ = none := by rw [evS] <;> rfl
@[simp] theorem evSs_nil55 : evSs C wf [] env μ = some (.nx env, μ) := by rw [evSs] <;> rfl
@[simp] theorem evSs_s56 (s : MS) (ss : List MS) : evSs C wf (s :: ss) env μ = (evS C wf s env μ).bind fun p => match p.1 with
    | .nx e => evSs C wf ss e p.2
    | f => some (f, p.2) := by rw [evSs] <;> rfl
end
end DI
set_option Elab.async false
set_option linter.all false
set_option maxRecDepth 100000
set_option maxHeartbeats 4000000
/-! DL1: the laws' own helpers: alike -/
namespace DI
open PySem PySem.Spec PyProof.Rows L2
@[simp] theorem evT_def {C : Call} {c : ME} {env : Ev} {μ : Mem} : evT C c env μ = (evE C c env μ).bind fun p => (truthD p.2 p.1).map fun b => (b, p.2) := rfl
theorem comp_run {C : Call} {elt : ME} {tg : MG} {src : MI} {ifs : List ME} {own : List Nat} {env : Ev} {μ μ1 : Mem} {xs : List D} {lks : List Lk} {g : D → Option D}
    (hI : evI C src env μ = some ((xs, lks), μ1)) (hl : lks.all (Lk.ok env μ1) = true)
    (h : ∀ x, x ∈ xs → (bindG tg x (wipeE env own)).bind (fun e1 => (evCs C ifs e1 μ1).bind fun c => if c.1 then (evE C elt e1 c.2).map fun q => (some q.1, q.2) else some (none, c.2)) = some (g x, μ1))
    (hs : xs.length ≤ sizeLine) : evE C (.comp elt tg src ifs own) env μ = some (.lst (xs.filterMap g), μ1) := by
  rw [evE]
  simp only [hI, Option.bind_some, hl, if_true]
  rw [compGo_pure (g := g) hl xs h]
  have : (xs.filterMap g).length ≤ sizeLine := Nat.le_trans (List.length_filterMap_le _ _) hs
  simp only [Option.bind_some, this, if_true]
theorem comp_map {C : Call} {elt : ME} {tg : MG} {src : MI} {own : List Nat} {env : Ev} {μ μ1 : Mem} {xs : List D} {lks : List Lk} {g : D → D}
    (hI : evI C src env μ = some ((xs, lks), μ1)) (hl : lks.all (Lk.ok env μ1) = true)
    (h : ∀ x, x ∈ xs → (bindG tg x (wipeE env own)).bind (fun e1 => evE C elt e1 μ1) = some (g x, μ1))
    (hs : xs.length ≤ sizeLine) : evE C (.comp elt tg src [] own) env μ = some (.lst (xs.map g), μ1) := by
  rw [comp_run (g := fun x => some (g x)) hI hl (fun x hx => ?_) hs, List.filterMap_eq_map']
  have q := h x hx
  obtain ⟨e1, q1, q2⟩ := Option.bind_eq_some_iff.mp q
  rw [q1]
  simp [q2]
theorem fm_sel {α : Type} (p : α → Bool) : ∀ l : List α, (l.filterMap fun x => if p x = true then some x else none) = l.filter p
  | [] => rfl
  | x :: l => by
    rw [List.filterMap_cons, List.filter_cons, fm_sel p l]
    cases p x <;> rfl
theorem comp_sel {C : Call} {elt c : ME} {tg : MG} {src : MI} {own : List Nat} {env : Ev} {μ μ1 : Mem} {xs : List D} {lks : List Lk} {p : D → Bool}
    (hI : evI C src env μ = some ((xs, lks), μ1)) (hl : lks.all (Lk.ok env μ1) = true)
    (h : ∀ x, x ∈ xs → ∃ e1, bindG tg x (wipeE env own) = some e1 ∧ evE C c e1 μ1 = some (.bl (p x), μ1) ∧ evE C elt e1 μ1 = some (x, μ1))
    (hs : xs.length ≤ sizeLine) : evE C (.comp elt tg src [c] own) env μ = some (.lst (xs.filter p), μ1) := by
  rw [comp_run (g := fun x => if p x then some x else none) hI hl (fun x hx => ?_) hs, fm_sel]
  obtain ⟨e1, q1, q2, q3⟩ := h x hx
  rw [q1]
  cases hp : p x <;> simp [q2, q3, truthD, hp]
theorem blsD_map {α : Type} (p : α → Bool) : ∀ l : List α, blsD (l.map fun x => .bl (p x)) = some (l.map p)
  | [] => rfl
  | x :: l => by simp [blsD, blsD_map p l]
theorem bi_all {α : Type} {μ : Mem} (p : α → Bool) (l : List α) : biD μ .all [.lst (l.map fun x => .bl (p x))] = some (.bl (l.all p)) := by
  have : biD μ .all [.lst (l.map fun x => .bl (p x))] = ((blsD (l.map fun x => .bl (p x))).map fun bs => .bl (bs.all id)) := rfl
  rw [this, blsD_map, Option.map_some, List.all_map]
  rfl
@[simp] theorem bi_len {μ : Mem} (d : D) : biD μ .len [d] = (lenD μ d).map fun (n : Nat) => .int (n : Int) := rfl
@[simp] theorem cmp_eq {μ : Mem} (a b : D) : cmpD μ .eq a b = eqD μ a b := rfl
@[simp] theorem cmp_ne {μ : Mem} (a b : D) : cmpD μ .ne a b = (eqD μ a b).map (!·) := rfl
@[simp] theorem truth_bl {μ : Mem} (b : Bool) : truthD μ (.bl b) = some b := rfl
namespace B
def same (i : Nat) : MF := { params := 2, slots := 6, fresh := false, body := [
  .iff (.isi (.var 1) [.dict]) [
    .asg (.nm 2) (.and (.isi (.var 0) [.dict]) (.and (.cmp .eq (.bi .len [.var 0]) (.bi .len [.var 1])) (.bi .all [.comp (.cmp .inn (.var 3) (.var 0)) (.nm 3) (.seq (.var 1)) [] [3]]))),
    .ret (.and (.var 2) (.bi .all [.comp (.call i [.idx (.var 0) (.var 3), .idx (.var 1) (.var 3)]) (.nm 3) (.seq (.var 1)) [] [3]]))] [],
  .iff (.isi (.var 1) [.list, .tuple]) [
    .asg (.nm 2) (.and (.cmp .eq (.isi (.var 0) [.list]) (.isi (.var 1) [.list])) (.cmp .eq (.isi (.var 0) [.tuple]) (.isi (.var 1) [.tuple]))),
    .ret (.and (.var 2) (.and (.cmp .eq (.bi .len [.var 0]) (.bi .len [.var 1])) (.bi .all [.comp (.call i [.var 4, .var 5]) (.tp [.nm 4, .nm 5]) (.zip (.var 0) (.var 1)) [] [4, 5]])))] [],
  .asg (.nm 2) (.and (.not (.isi (.var 0) [.list, .tuple, .dict])) (.and (.cmp .eq (.isi (.var 0) [.int]) (.isi (.var 1) [.int])) (.cmp .eq (.isi (.var 0) [.str]) (.isi (.var 1) [.str])))),
  .ret (.and (.var 2) (.and (.cmp .eq (.isn false (.var 0)) (.isn false (.var 1))) (.and (.cmp .eq (.isi (.var 0) [.bool]) (.isi (.var 1) [.bool])) (.cmp .eq (.var 0) (.var 1)))))] }
end B
/-- the same data, up to the number of steps down; a list may be a cell -/
inductive Al (μ : Mem) : Nat → D → D → Prop
  | non {n : Nat} : Al μ n .non .non
  | bl {n : Nat} (b : Bool) : Al μ n (.bl b) (.bl b)
  | int {n : Nat} (i : Int) : Al μ n (.int i) (.int i)
  | str {n : Nat} (x : Str) (h : PyData.strOk x = true) : Al μ n (.str x) (.str x)
  | tup {n : Nat} {xs ys : List D} (hl : xs.length = ys.length) (h : ∀ x y, (x, y) ∈ xs.zip ys → Al μ n x y) (hs : xs.length ≤ sizeLine) : Al μ (n + 1) (.tup xs) (.tup ys)
  | lst {n : Nat} {xs ys : List D} (hl : xs.length = ys.length) (h : ∀ x y, (x, y) ∈ xs.zip ys → Al μ n x y) (hs : xs.length ≤ sizeLine) : Al μ (n + 1) (.lst xs) (.lst ys)
  | cel {n c : Nat} {xs ys : List D} (hc : μ[c]? = some (some xs)) (hf : flats xs = true) (hl : xs.length = ys.length) (h : ∀ x y, (x, y) ∈ xs.zip ys → Al μ n x y) (hs : xs.length ≤ sizeLine) : Al μ (n + 1) (.ref c) (.lst ys)
theorem zipD_eq : ∀ xs ys : List D, zipD xs ys = (xs.zip ys).map fun p => .tup [p.1, p.2]
  | [], _ => rfl
  | _ :: _, [] => rfl
  | x :: xs, y :: ys => by
    rw [List.zip_cons_cons, List.map_cons, ← zipD_eq xs ys]
    rfl
section
variable {T : List MF} {wf i : Nat} {μ : Mem}
theorem same_seq (hT : T[i]? = some (B.same i)) {n k : Nat} {a b : D} {xs ys : List D} (ih : ∀ x y, (x, y) ∈ xs.zip ys → callN T wf (k + n + 1) i [x, y] μ = some (.bl true, μ)) (hl : xs.length = ys.length) (hs : xs.length ≤ sizeLine)
    (hI : ∀ env : Ev, env[0]? = some (.val a) → env[1]? = some (.val b) → ∃ lks, evI (callN T wf (k + n + 1)) (.zip (.var 0) (.var 1)) env μ = some ((zipD xs ys, lks), μ) ∧ lks.all (Lk.ok env μ) = true)
    (ka : lenD μ a = some xs.length) (kb : lenD μ b = some ys.length) (la : liveD μ a = true) (lb : liveD μ b = true) (db : isT b .dict = false) (tb : (isT b .list || isT b .tuple) = true) (e1 : isT a .list = isT b .list) (e2 : isT a .tuple = isT b .tuple) :
    callN T wf (k + n + 1 + 1) i [a, b] μ = some (.bl true, μ) := by
  refine run_ret hT rfl ?_
  obtain ⟨lks, h1, h2⟩ := hI [.val a, .val b, .val (.bl true), .un, .un, .un] rfl rfl
  have hc := comp_map (tg := .tp [.nm 4, .nm 5]) (elt := .call i [.var 4, .var 5]) (own := [4, 5]) (g := fun _ => .bl true) h1 h2 (fun x hx => by
    rw [zipD_eq] at hx
    obtain ⟨⟨p, q⟩, hp, rfl⟩ := List.mem_map.mp hx
    simp [bindG, bindGs, wipeE, ih p q hp]) (by rw [zipD_eq, List.length_map, List.length_zip]; omega)
  have ha := bi_all (μ := μ) (fun _ => true) (zipD xs ys)
  simp [B.same, lb, db, tb, la, eqD_bl, e1, e2, bindG, ka, kb, hl, eqD_int]
  rw [hc]
  simp [ha]
theorem eqD_non : eqD μ .non .non = some true := by simp only [eqD, toPy, pyW, Option.bind_some, shaped_none, Bool.and_self, if_true, PyData.eqv]
theorem eqD_str {x : Str} (h : PyData.strOk x = true) : eqD μ (.str x) (.str x) = some true := by
  have : SeqAt.shaped (.str x) = true := shaped_of ⟨by simpa only [PyData.canLay0] using h, by simp [PyData.depth]⟩
  simp only [eqD, toPy, pyW, Option.bind_some, this, Bool.and_self, if_true, PyData.eqv, beq_self_eq_true]
theorem same_ok (hT : T[i]? = some (B.same i)) : ∀ (n k : Nat) (a b : D), Al μ n a b → callN T wf (k + n + 1) i [a, b] μ = some (.bl true, μ) := by
  intro n
  induction n with
  | zero =>
    intro k a b h
    cases h
    · refine run_ret hT rfl ?_
      simp [B.same, liveD, isT, eqD_bl, bindG, eqD_non]
    · refine run_ret hT rfl ?_
      simp [B.same, liveD, isT, eqD_bl, bindG]
    · refine run_ret hT rfl ?_
      simp [B.same, liveD, isT, eqD_bl, bindG, eqD_int]
    · rename_i x hx
      refine run_ret hT rfl ?_
      simp [B.same, liveD, isT, eqD_bl, bindG, eqD_str hx]
  | succ n IH =>
    intro k a b h
    cases h
    · refine run_ret hT rfl ?_
      simp [B.same, liveD, isT, eqD_bl, bindG, eqD_non]
    · refine run_ret hT rfl ?_
      simp [B.same, liveD, isT, eqD_bl, bindG]
    · refine run_ret hT rfl ?_
      simp [B.same, liveD, isT, eqD_bl, bindG, eqD_int]
    · rename_i x hx
      refine run_ret hT rfl ?_
      simp [B.same, liveD, isT, eqD_bl, bindG, eqD_str hx]
    · rename_i xs ys hl hs h
      exact same_seq hT (fun x y hxy => IH k x y (h x y hxy)) hl hs (fun env h0 h1 => ⟨[], by simp [evI_zip36, h0, h1], rfl⟩) rfl rfl rfl rfl rfl rfl rfl rfl
    · rename_i xs ys hl hs h
      exact same_seq hT (fun x y hxy => IH k x y (h x y hxy)) hl hs (fun env h0 h1 => ⟨[], by simp [evI_zip36, h0, h1, seqV, lockOf], rfl⟩) rfl rfl rfl rfl rfl rfl rfl rfl
    · rename_i c xs ys hc hf hl hs h
      exact same_seq hT (fun x y hxy => IH k x y (h x y hxy)) hl hs (fun env h0 h1 => ⟨[.cell c xs], by simp [evI_zip36, h0, h1, seqV, lockOf, hc], by simp [Lk.ok, hc, beqs_refl xs hf]⟩) (by simp [lenD, seqV, hc]) rfl (by simp [liveD, hc]) rfl rfl rfl rfl rfl
end
end DI
set_option Elab.async false
set_option linter.all false
set_option maxRecDepth 100000
set_option maxHeartbeats 4000000
/-! DL2: the laws' own helpers: what is drawn -/
namespace DI
open PySem PySem.Spec PyProof.Rows L2
theorem forGo_inv {body : D → Ev → Mem → Option (Fl × Mem)} {ok : Ev → Mem → Bool} (P : List D → Ev → Mem → Prop) : ∀ (xs : List D) (env : Ev) (μ : Mem),
    (∀ x r env μ, P (x :: r) env μ → ∃ env' μ', body x env μ = some (.nx env', μ') ∧ ok env' μ' = true ∧ P r env' μ') → P xs env μ → ∃ env' μ', forGo body ok xs env μ = some (.nx env', μ') ∧ P [] env' μ'
  | [], env, μ, h, p => ⟨env, μ, rfl, p⟩
  | x :: xs, env, μ, h, p => by
    obtain ⟨e1, m1, h1, h2, h3⟩ := h x xs env μ p
    obtain ⟨e2, m2, h4, h5⟩ := forGo_inv P xs e1 m1 h h3
    refine ⟨e2, m2, ?_, h5⟩
    unfold forGo
    rw [h1]
    simp only [Option.bind_some, h2, if_true, h4]
/-- a loop whose body goes on -/
theorem for_run {C : Call} {wf : Nat} {tg : MG} {src : MI} {body : List MS} {env : Ev} {μ μ1 : Mem} {xs : List D} {lks : List Lk} (P : List D → Ev → Mem → Prop)
    (hI : evI C src env μ = some ((xs, lks), μ1)) (hc : lks.all Lk.isCell = true) (hk : ∀ l e ν, P l e ν → lks.all (Lk.ok e ν) = true)
    (h : ∀ x r e ν, P (x :: r) e ν → ∃ e1 e' ν', bindG tg x e = some e1 ∧ evSs C wf body e1 ν = some (.nx e', ν') ∧ P r e' ν') (p : P xs env μ1) :
    ∃ env' μ', evS C wf (.for tg src body) env μ = some (.nx env', μ') ∧ P [] env' μ' := by
  obtain ⟨e2, m2, h1, h2⟩ := forGo_inv (body := fun x e ν => (bindG tg x e).bind fun e1 => evSs C wf body e1 ν) (ok := fun e ν => lks.all (Lk.ok e ν)) P xs env μ1 (fun x r e ν q => by
    obtain ⟨e1, e', ν', a, b, c⟩ := h x r e ν q
    exact ⟨e', ν', by simp [a, b], hk _ _ _ c, c⟩) p
  refine ⟨e2, m2, ?_, h2⟩
  rw [evS]
  simp only [hI, Option.bind_some, hc, hk _ _ _ p, Bool.and_self, if_true]
  exact h1
@[simp] theorem op_int {μ : Mem} (o : Bop) (i j : Int) : opD μ o (.int i) (.int j) = (opI o i j).map .int := rfl
@[simp] theorem opI_add (i j : Int) : opI .add i j = some (i + j) := rfl
@[simp] theorem opI_sub (i j : Int) : opI .sub i j = some (i - j) := rfl
@[simp] theorem bi_int {μ : Mem} (i : Int) : biD μ .int [.int i] = some (.int i) := rfl
@[simp] theorem cmp_gt {μ : Mem} (i j : Int) : cmpD μ .gt (.int i) (.int j) = some (decide (j < i)) := rfl
@[simp] theorem cmp_lt {μ : Mem} (i j : Int) : cmpD μ .lt (.int i) (.int j) = some (decide (i < j)) := rfl
@[simp] theorem cmp_ge {μ : Mem} (i j : Int) : cmpD μ .ge (.int i) (.int j) = some (decide (j ≤ i)) := rfl
@[simp] theorem cmp_le {μ : Mem} (i j : Int) : cmpD μ .le (.int i) (.int j) = some (decide (i ≤ j)) := rfl
theorem fmod_nat (i : Int) {m : Nat} (hm : 0 < m) : ∃ r : Nat, i.fmod m = r ∧ r < m := by
  have h1 := Int.fmod_nonneg_of_pos (a := i) (b := (m : Int)) (by omega)
  have h2 := Int.fmod_lt_of_pos i (b := (m : Int)) (by omega)
  exact ⟨(i.fmod m).toNat, by omega, by omega⟩
theorem rng1 {C : Call} {es : List ME} {env : Ev} {μ μ' : Mem} {j : Int} (q : evEs C es env μ = some ([.int j], μ')) (this : rangeOk j = true) : evI C (.rng es) env μ = some ((rangeD 0 j, []), μ') := by
  rw [evI, q]
  exact if_pos this
theorem rng2 {C : Call} {es : List ME} {env : Ev} {μ μ' : Mem} {i j : Int} (q : evEs C es env μ = some ([.int i, .int j], μ')) (h1 : rangeOk i = true) (h2 : rangeOk j = true) : evI C (.rng es) env μ = some ((rangeD i j, []), μ') := by
  rw [evI, q]
  exact if_pos (by rw [h1, h2]; rfl)
namespace B
def mixed : MF := { params := 3, slots := 4, fresh := false, body := [
  .asg (.nm 3) (.op .add (.op .mul (.var 0) (.int 69069)) (.op .mul (.op .mul (.int 104729) (.var 1)) (.var 1))),
  .asg (.nm 3) (.op .mod (.bi .int [.op .add (.op .add (.var 3) (.op .mul (.int 7919) (.var 2))) (.var 1)]) (.int 2147483647)),
  .asg (.nm 3) (.op .mod (.bi .int [.op .add (.op .mul (.var 3) (.var 3)) (.int 40503)]) (.int 2147483629)),
  .ret (.op .mod (.bi .int [.op .mul (.var 3) (.int 48271)]) (.int 2147483587))] }
def draw (m : Nat) : MF := { params := 2, slots := 5, fresh := false, body := [
  .iff (.cmp .gt (.idx (.var 0) (.int 0)) (.int 0)) [
    .asg (.nm 2) (.op .mod (.bi .int [.idx (.var 0) (.int 0)]) (.var 1)),
    .sset (.var 0) (.int 0) (.op .fdiv (.idx (.var 0) (.int 0)) (.var 1)),
    .ret (.var 2)] [],
  .asg (.nm 3) (.int 0),
  .for (.nm 4) (.rng [.op .add (.int 1) (.op .fdiv (.bits (.var 1)) (.int 28))]) [
    .sset (.var 0) (.int 2) (.op .add (.idx (.var 0) (.int 2)) (.int 1)),
    .asg (.nm 3) (.op .add (.op .mul (.var 3) (.int 2147483587)) (.call m [.idx (.var 0) (.int 1), .idx (.var 0) (.int 2), .idx (.var 0) (.int 3)]))],
  .ret (.op .mod (.bi .int [.var 3]) (.var 1))] }
end B
section
variable {T : List MF} {wf n m d : Nat} {μ : Mem}
theorem mixed_ok (hT : T[m]? = some B.mixed) {s p a : Nat} (h1 : s < 2 ^ 40) (h2 : p < 2 ^ 200) (h3 : a < 2 ^ 40) : ∃ r : Nat, r < 2147483587 ∧ callN T wf (n + 1) m [.int s, .int p, .int a] μ = some (.int r, μ) := by
  have e1 := opI_mul (i := (s : Int)) (j := 69069) (n := 40) (m := 20) h1 (by decide) (by decide)
  have e2 := opI_mul (i := 104729) (j := (p : Int)) (n := 20) (m := 200) (by decide) h2 (by decide)
  have e3 := opI_mul (i := 104729 * (p : Int)) (j := (p : Int)) (n := 220) (m := 200) (by rw [Int.natAbs_mul]; exact mul_lt_pow (n := 20) (m := 200) (by decide) h2) h2 (by decide)
  have e4 := opI_mul (i := 7919) (j := (a : Int)) (n := 20) (m := 40) (by decide) h3 (by decide)
  obtain ⟨r1, f1, l1⟩ := fmod_nat ((s : Int) * 69069 + 104729 * p * p + 7919 * a + p) (m := 2147483647) (by decide)
  have e5 := opI_mul (i := (r1 : Int)) (j := (r1 : Int)) (n := 31) (m := 31) (by omega) (by omega) (by decide)
  obtain ⟨r2, f2, l2⟩ := fmod_nat ((r1 : Int) * r1 + 40503) (m := 2147483629) (by decide)
  have e6 := opI_mul (i := (r2 : Int)) (j := 48271) (n := 31) (m := 31) (by omega) (by decide) (by decide)
  obtain ⟨r3, f3, l3⟩ := fmod_nat ((r2 : Int) * 48271) (m := 2147483587) (by decide)
  refine ⟨r3, l3, run_ret hT rfl ?_⟩
  have g1 : opI .mod ((s : Int) * 69069 + 104729 * p * p + 7919 * a + p) 2147483647 = some (r1 : Int) := by rw [opI_mod (by decide)]; exact congrArg some f1
  have g2 : opI .mod ((r1 : Int) * r1 + 40503) 2147483629 = some (r2 : Int) := by rw [opI_mod (by decide)]; exact congrArg some f2
  have g3 : opI .mod ((r2 : Int) * 48271) 2147483587 = some (r3 : Int) := by rw [opI_mod (by decide)]; exact congrArg some f3
  simp [B.mixed, e1, e2, e3, e4, e5, e6, g1, g2, g3, bindG]
/-- a purse: where it lies, how often it has mixed at most -/
def Pur (μ : Mem) (c b : Nat) : Prop := ∃ p0 p1 p2 p3 : Nat, μ[c]? = some (some [.int p0, .int p1, .int p2, .int p3]) ∧ p1 < 2 ^ 40 ∧ p2 ≤ b ∧ p3 < 2 ^ 40
/-- all but the cell c stands -/
def Ot (c : Nat) (μ ν : Mem) : Prop := ν.length = μ.length ∧ ∀ j, j ≠ c → ν[j]? = μ[j]?
theorem Ot.refl {c : Nat} {μ : Mem} : Ot c μ μ := ⟨rfl, fun _ _ => rfl⟩
theorem Ot.trans {c : Nat} {μ ν ξ : Mem} (h1 : Ot c μ ν) (h2 : Ot c ν ξ) : Ot c μ ξ := ⟨h2.1.trans h1.1, fun j hj => (h2.2 j hj).trans (h1.2 j hj)⟩
theorem Ot.set {c : Nat} {μ : Mem} {x : Option (List D)} : Ot c μ (μ.set c x) := ⟨List.length_set, fun j hj => List.getElem?_set_ne (Ne.symm hj)⟩
theorem Pur.mono {c b b' : Nat} (h : Pur μ c b) (l : b ≤ b') : Pur μ c b' := by
  obtain ⟨p0, p1, p2, p3, h1, h2, h3, h4⟩ := h
  exact ⟨p0, p1, p2, p3, h1, h2, Nat.le_trans h3 l, h4⟩
theorem draw_step {q : Int} {c s p1 p3 k f : Nat} {C : Call} {y v : D} {fy : Int} (hc' : μ[c]? = some (some [.int (0 : Nat), .int p1, .int s, .int p3])) (em : opI .mul (f : Int) q = some fy) {z : Int}
    (hy : C m [.int p1, .int ((s : Int) + 1), .int p3] (μ.set c (some [.int (0 : Nat), .int p1, .int ((s : Int) + 1), .int p3])) = some (.int z, μ.set c (some [.int (0 : Nat), .int p1, .int ((s : Int) + 1), .int p3]))) :
    evSs C wf [.sset (.var 0) (.int 2) (.op .add (.idx (.var 0) (.int 2)) (.int 1)),
        .asg (.nm 3) (.op .add (.op .mul (.var 3) (.int q)) (.call m [.idx (.var 0) (.int 1), .idx (.var 0) (.int 2), .idx (.var 0) (.int 3)]))]
      [.val (.ref c), .val (.int k), .un, .val (.int f), .val v] μ = some (.nx [.val (.ref c), .val (.int k), .un, .val (.int (fy + z)), .val v], μ.set c (some [.int (0 : Nat), .int p1, .int ((s : Int) + 1), .int p3])) := by
  have cl' : c < μ.length := (List.getElem?_eq_some_iff.mp hc').1
  have g := List.getElem?_set_self (l := μ) (i := c) (a := some [D.int (0 : Nat), D.int p1, D.int ((s : Int) + 1), D.int p3]) cl'
  have a1 : ∀ p q r x : D, atI [p, x, q, r] 1 = some x := fun _ _ _ _ => rfl
  have a2 : ∀ p q r x : D, atI [p, q, x, r] 2 = some x := fun _ _ _ _ => rfl
  have a3 : ∀ p q r x : D, atI [p, q, r, x] 3 = some x := fun _ _ _ _ => rfl
  have x2 : ixN 4 2 = some 2 := rfl
  generalize hx : D.int (0 : Nat) = w0 at *
  simp [idxD, seqV, hc', a1, a2, a3, x2, bindG, em, g, hy]
theorem draw_ok (hM : T[m]? = some B.mixed) (hD : T[d]? = some (B.draw m)) {c b k : Nat} (h : Pur μ c b) (hb : b < 2 ^ 190) (hk : 0 < k) (hk2 : k < 2 ^ 200) :
    ∃ (r : Nat) (μ' : Mem), r < k ∧ callN T wf (n + 2) d [.ref c, .int k] μ = some (.int r, μ') ∧ Pur μ' c (b + 10) ∧ Ot c μ μ' := by
  obtain ⟨p0, p1, p2, p3, hc, l1, l2, l3⟩ := h
  have cl : c < μ.length := by
    have := (List.getElem?_eq_some_iff.mp hc).1
    exact this
  by_cases h0 : (0 : Int) < p0
  · obtain ⟨r, f, l⟩ := fmod_nat (p0 : Int) hk
    refine ⟨r, μ.set c (some [.int ((p0 : Int).fdiv k), .int p1, .int p2, .int p3]), l, ?_, ?_, Ot.set⟩
    · refine run_ret hD rfl ?_
      have e1 : opI .mod (p0 : Int) k = some (r : Int) := by rw [opI_mod (by omega)]; exact congrArg some f
      have e2 := opI_fdiv (i := (p0 : Int)) (j := (k : Int)) (n := 200) (by omega) (by simpa using hk2) (by decide)
      have a0 : atI [D.int p0, .int p1, .int p2, .int p3] 0 = some (.int p0) := rfl
      have x0 : ixN 4 0 = some 0 := rfl
      have h0' : 0 < p0 := by omega
      simp [B.draw, idxD, seqV, hc, a0, h0', e1, e2, bindG, x0]
    · have z : (p0 : Int).fdiv k = ((p0 / k : Nat) : Int) := by
        rw [Int.fdiv_eq_ediv_of_nonneg _ (by omega)]; rfl
      rw [z]
      exact ⟨p0 / k, p1, p2, p3, by rw [List.getElem?_set_self cl], l1, by omega, l3⟩
  · have z0 : p0 = 0 := by omega
    subst z0
    have hbits : Builtin.Int.intBits (k : Int) ≤ 200 := by
      unfold Builtin.Int.intBits
      have := log2_lt hk2
      split
      · omega
      · simp only [Int.natAbs_natCast]
        have := (Nat.log2_lt (by omega : k ≠ 0)).mpr hk2
        omega
    obtain ⟨t, ht, lt⟩ : ∃ t : Nat, (1 : Int) + ((Builtin.Int.intBits (k : Int) : Nat) : Int).fdiv 28 = t ∧ t ≤ 10 := by
      rw [Int.fdiv_eq_ediv_of_nonneg _ (by decide)]
      exact ⟨1 + Builtin.Int.intBits (k : Int) / 28, by omega, by omega⟩
    have e1 := opI_fdiv (i := ((Builtin.Int.intBits (k : Int) : Nat) : Int)) (j := 28) (n := 5) (by decide) (by decide) (by decide)
    have hI : evI (callN T wf (n + 1)) (.rng [.op .add (.int 1) (.op .fdiv (.bits (.var 1)) (.int 28))]) [.val (.ref c), .val (.int k), .un, .val (.int 0), .un] μ = some ((rangeD 0 t, []), μ) := by
      refine rng1 (by simp [e1, ht]) ?_
      simp only [rangeOk, Bool.and_eq_true, decide_eq_true_eq]
      omega
    have rl : (rangeD 0 (t : Int)).length = t := by simp [rangeD]
    obtain ⟨env', μ', hf, f, s, v4, he, hc', hs, hff, ho, -⟩ := for_run (wf := wf) (tg := .nm 4) (body := [
        .sset (.var 0) (.int 2) (.op .add (.idx (.var 0) (.int 2)) (.int 1)),
        .asg (.nm 3) (.op .add (.op .mul (.var 3) (.int 2147483587)) (.call m [.idx (.var 0) (.int 1), .idx (.var 0) (.int 2), .idx (.var 0) (.int 3)]))])
      (P := fun l e ν => ∃ (f s : Nat) (v4 : Sl), e = [.val (.ref c), .val (.int k), .un, .val (.int f), v4] ∧ ν[c]? = some (some [.int (0 : Nat), .int p1, .int s, .int p3]) ∧ s + l.length ≤ b + 10 ∧ f < 2 ^ (32 * (10 - l.length)) ∧ Ot c μ ν ∧ l.length ≤ 10)
      hI rfl (fun _ _ _ _ => rfl) (fun x r e ν q => by
        obtain ⟨f, s, v4, he, hc', hs, hff, ho, hl⟩ := q
        subst he
        rw [List.length_cons] at hs hff hl
        have l2' : s + 1 < 2 ^ 200 := by
          have : (2 : Nat) ^ 190 + 10 < 2 ^ 200 := by decide
          omega
        obtain ⟨y, ly, ey⟩ := mixed_ok (wf := wf) (n := n) (μ := ν.set c (some [.int (0 : Nat), .int p1, .int ((s + 1 : Nat) : Int), .int p3])) hM (s := p1) (p := s + 1) (a := p3) l1 l2' l3
        have cl' : c < ν.length := (List.getElem?_eq_some_iff.mp hc').1
        have g := List.getElem?_set_self (l := ν) (i := c) (a := some [D.int (0 : Nat), D.int p1, D.int ((s + 1 : Nat) : Int), D.int p3]) cl'
        have em := opI_mul (i := (f : Int)) (j := 2147483587) (n := 32 * (10 - (r.length + 1))) (m := 32) hff (by decide) (by omega)
        refine ⟨_, _, _, rfl, draw_step (y := x) hc' em ey, f * 2147483587 + y, s + 1, .val x, (by rw [Int.natCast_add, Int.natCast_mul]; rfl), g, by omega, ?_, ho.trans Ot.set, by omega⟩
        · have p1 : 2 ^ (32 * (10 - r.length)) = 2 ^ (32 * (10 - (r.length + 1))) * 2 ^ 32 := by
            rw [← Nat.pow_add]
            congr 1
            omega
          have : (2 : Nat) ^ 32 = 4294967296 := by decide
          rw [p1, this]
          omega)
      ⟨0, p2, .un, rfl, hc, by rw [rl]; omega, by rw [rl]; exact Nat.two_pow_pos _, Ot.refl, by omega⟩
    obtain ⟨r, fr, lr⟩ := fmod_nat (f : Int) hk
    have e2 : opI .mod (f : Int) k = some (r : Int) := by rw [opI_mod (by omega)]; exact congrArg some fr
    have a0 : ∀ x y z w : D, atI [x, y, z, w] 0 = some x := fun _ _ _ _ => rfl
    refine ⟨r, μ', lr, run_ret hD rfl ?_, ⟨0, p1, s, p3, hc', l1, by simpa using hs, l3⟩, ho⟩
    simp [B.draw, idxD, seqV, hc, a0, bindG]
    simp [hf, he, e2]
end
end DI
set_option Elab.async false
set_option linter.all false
set_option maxRecDepth 100000
set_option maxHeartbeats 4000000
/-! DL3: the laws' own helpers: fractions -/
namespace DI
open PySem PySem.Spec PyProof.Rows L2
namespace B
def frac : MF := { params := 2, slots := 5, fresh := false, body := [
  .par [2, 3] [.bi .abs [.var 0], .bi .abs [.var 1]],
  .whl (.cmp .ne (.var 3) (.int 0)) [
    .par [2, 3] [.var 3, .op .mod (.var 2) (.var 3)]],
  .asg (.nm 4) (.ite (.cmp .gt (.var 1) (.int 0)) (.var 2) (.neg (.var 2))),
  .ret (.tup [.op .fdiv (.var 0) (.var 4), .op .fdiv (.var 1) (.var 4)])] }
def plus (f : Nat) : MF := { params := 2, slots := 2, fresh := false, body := [
  .ret (.call f [.op .add (.op .mul (.idx (.var 0) (.int 0)) (.idx (.var 1) (.int 1))) (.op .mul (.idx (.var 1) (.int 0)) (.idx (.var 0) (.int 1))), .op .mul (.idx (.var 0) (.int 1)) (.idx (.var 1) (.int 1))])] }
def minus (f : Nat) : MF := { params := 2, slots := 2, fresh := false, body := [
  .ret (.call f [.op .sub (.op .mul (.idx (.var 0) (.int 0)) (.idx (.var 1) (.int 1))) (.op .mul (.idx (.var 1) (.int 0)) (.idx (.var 0) (.int 1))), .op .mul (.idx (.var 0) (.int 1)) (.idx (.var 1) (.int 1))])] }
def times (f : Nat) : MF := { params := 2, slots := 2, fresh := false, body := [
  .ret (.call f [.op .mul (.idx (.var 0) (.int 0)) (.idx (.var 1) (.int 0)), .op .mul (.idx (.var 0) (.int 1)) (.idx (.var 1) (.int 1))])] }
def fraction : MF := { params := 2, slots := 3, fresh := false, body := [
  .asg (.nm 2) (.ite (.cmp .gt (.var 1) (.int 0)) (.bi .gcd [.var 0, .var 1]) (.op .sub (.int 0) (.bi .gcd [.var 0, .var 1]))),
  .ret (.tup [.op .fdiv (.var 0) (.var 2), .op .fdiv (.var 1) (.var 2)])] }
def less : MF := { params := 2, slots := 2, fresh := false, body := [
  .ret (.cmp .lt (.op .mul (.idx (.var 0) (.int 0)) (.idx (.var 1) (.int 1))) (.op .mul (.idx (.var 1) (.int 0)) (.idx (.var 0) (.int 1))))] }
end B
section
variable {T : List MF} {wf n f i : Nat} {μ : Mem}
theorem while_end {c : Ev → Mem → Option (Bool × Mem)} {body : Ev → Mem → Option (Fl × Mem)} {env : Ev} {μ μ1 : Mem} (n : Nat) (h : c env μ = some (false, μ1)) : whileGo c body (n + 1) env μ = some (.nx env, μ1) := by
  unfold whileGo
  rw [h]
  rfl
theorem while_go {c : Ev → Mem → Option (Bool × Mem)} {body : Ev → Mem → Option (Fl × Mem)} {env e : Ev} {μ μ1 μ2 : Mem} (n : Nat) (h : c env μ = some (true, μ1)) (h2 : body env μ1 = some (.nx e, μ2)) : whileGo c body (n + 1) env μ = whileGo c body n e μ2 := by
  rw [whileGo, h]
  simp only [Option.bind_some, if_true, h2]
theorem gcd_loop {C : Call} {a b : D} : ∀ (w y x : Nat) (v : Sl), y < w →
    whileGo (fun e ν => evT C (.cmp .ne (.var 3) (.int 0)) e ν) (fun e ν => evSs C wf [.par [2, 3] [.var 3, .op .mod (.var 2) (.var 3)]] e ν) w [.val a, .val b, .val (.int x), .val (.int y), v] μ = some (.nx [.val a, .val b, .val (.int (Nat.gcd x y : Nat)), .val (.int 0), v], μ)
  | 0, y, x, v, h => absurd h (Nat.not_lt_zero _)
  | w + 1, y, x, v, h => by
    by_cases hy : y = 0
    · subst hy
      rw [while_end w (μ1 := μ) (by simp [eqD_int]), Nat.gcd_zero_right]
      rfl
    · have hy' : ¬ ((y : Int) = 0) := by omega
      have e : opI .mod (x : Int) y = some ((x % y : Nat) : Int) := by
        rw [opI_mod (by omega), Int.fmod_eq_emod_of_nonneg _ (by omega)]
        rfl
      have ih := gcd_loop (C := C) (a := a) (b := b) w (x % y) y v (by have := Nat.mod_lt x (Nat.pos_of_ne_zero hy); omega)
      rw [while_go w (μ1 := μ) (μ2 := μ) (e := [.val a, .val b, .val (.int y), .val (.int (x % y : Nat)), v]) (by simp [eqD_int, hy]) (by simp [e, parE, -Int.natCast_emod]), ih, Nat.gcd_comm y, ← Nat.gcd_rec, Nat.gcd_comm y]
@[simp] theorem bi_abs (i : Int) : biD μ .abs [.int i] = some (.int (if i < 0 then -i else i)) := rfl
theorem abs_nat (i : Int) : (if i < 0 then -i else i) = (i.natAbs : Int) := by split <;> omega
theorem frac_ok (hT : T[f]? = some B.frac) {a b : Int} {m : Nat} (hb : b ≠ 0) (h1 : b.natAbs < 2 ^ m) (hm : m < 8000) (hw : 2 ^ m ≤ wf) : callN T wf (n + 1) f [.int a, .int b] μ = some (dQ (Rat.divInt a b), μ) := by
  refine run_ret hT rfl ?_
  have lp := gcd_loop (μ := μ) (wf := wf) (C := callN T wf n) (a := .int a) (b := .int b) wf b.natAbs a.natAbs .un (Nat.lt_of_lt_of_le h1 hw)
  have g : ((Nat.gcd a.natAbs b.natAbs : Nat) : Int) = (b.gcd a : Int) := by
    rw [Int.gcd_comm]
    rfl
  have g0 : b.gcd a ≠ 0 := fun z => hb (Int.gcd_eq_zero_iff.mp z).1
  have gl : b.gcd a < 2 ^ m := Nat.lt_of_le_of_lt (Nat.le_of_dvd (by omega) (Int.gcd_dvd_natAbs_left b a)) h1
  rw [g] at lp
  obtain ⟨q1, q2⟩ := fdiv_gcd (a := a) hb (m := if 0 < b then (b.gcd a : Int) else -(b.gcd a : Int)) rfl
  have hd : ∀ x : Int, opI .fdiv x (if 0 < b then (b.gcd a : Int) else -(b.gcd a : Int)) = some (x.fdiv (if 0 < b then (b.gcd a : Int) else -(b.gcd a : Int))) := fun x => opI_fdiv (by split <;> omega) (n := m) (by split <;> simpa using gl) (by omega)
  simp [B.frac, parE, abs_nat]
  rw [evS, lp]
  by_cases h : 0 < b
  · simp only [if_pos h] at hd q1 q2
    simp [bindG, h, hd, q1, q2, dQ, sizeLine]
  · simp only [if_neg h] at hd q1 q2
    simp [bindG, h, hd, q1, q2, dQ, sizeLine]
theorem idx_dQ (q : Rat) : idxD μ (dQ q) (.int 0) = some (.int q.num) ∧ idxD μ (dQ q) (.int 1) = some (.int q.den) := ⟨rfl, rfl⟩
theorem idx_dP (q : Rat × Rat) : idxD μ (dP q) (.int 0) = some (dQ q.1) ∧ idxD μ (dP q) (.int 1) = some (dQ q.2) := ⟨rfl, rfl⟩
theorem den0 (p q : Rat) : ((p.den : Int) * q.den) ≠ 0 := by
  have h1 := p.den_nz
  have h2 := q.den_nz
  exact Int.mul_ne_zero (by omega) (by omega)
variable {p q : Rat} {m k : Nat}
theorem den_lt (hp : Sm m p) (hq : Sm k q) : ((p.den : Int) * q.den).natAbs < 2 ^ (m + k) := by
  rw [Int.natAbs_mul]
  exact mul_lt_pow hp.2 hq.2
theorem sm_muls (hp : Sm m p) (hq : Sm k q) (h : m + k < 8000) : opI .mul p.num q.num = some (p.num * q.num) ∧ opI .mul p.num q.den = some (p.num * q.den) ∧ opI .mul q.num p.den = some (q.num * p.den) ∧ opI .mul (p.den : Int) q.den = some (p.den * q.den) :=
  ⟨opI_mul hp.1 hq.1 (by omega), opI_mul hp.1 (m := k) (by simpa using hq.2) (by omega), opI_mul hq.1 (m := m) (by simpa using hp.2) (by omega), opI_mul (n := m) (m := k) (by simpa using hp.2) (by simpa using hq.2) (by omega)⟩
/-- f makes the fraction of two whole numbers -/
def FracOk (T : List MF) (wf f : Nat) : Prop := ∀ (n : Nat) (μ : Mem) (a b : Int) (m : Nat), b ≠ 0 → a.natAbs < 2 ^ m → b.natAbs < 2 ^ m → m < 8000 → 2 ^ m ≤ wf → callN T wf (n + 1) f [.int a, .int b] μ = some (dQ (Rat.divInt a b), μ)
theorem FracOk.law (hT : T[f]? = some B.frac) : FracOk T wf f := fun n μ a b m hb _ h1 hm hw => frac_ok hT hb h1 hm hw
theorem FracOk.prog (hT : T[f]? = some B.fraction) : FracOk T wf f := fun n μ a b m hb h1 h2 hm hw => by
  refine run_ret hT rfl ?_
  have gl : b.gcd a < 2 ^ m := Nat.lt_of_le_of_lt (Nat.le_of_dvd (by omega) (Int.gcd_dvd_natAbs_left b a)) h2
  have g0 : b.gcd a ≠ 0 := fun z => hb (Int.gcd_eq_zero_iff.mp z).1
  have gg : ∀ μ : Mem, biD μ .gcd [.int a, .int b] = some (.int (b.gcd a : Int)) := fun μ => by
    rw [Int.gcd_comm]
    rfl
  by_cases h : 0 < b
  · obtain ⟨q1, q2⟩ := fdiv_gcd (a := a) hb (m := (b.gcd a : Int)) (if_pos h).symm
    have hd : ∀ x : Int, opI .fdiv x (b.gcd a : Int) = some (x.fdiv (b.gcd a : Int)) := fun x => opI_fdiv (by omega) (n := m) (by simpa using gl) (by omega)
    simp [B.fraction, gg, h, bindG, hd, q1, q2, dQ, sizeLine]
  · obtain ⟨q1, q2⟩ := fdiv_gcd (a := a) hb (m := -(b.gcd a : Int)) (if_neg h).symm
    have hd : ∀ x : Int, opI .fdiv x (-(b.gcd a : Int)) = some (x.fdiv (-(b.gcd a : Int))) := fun x => opI_fdiv (by omega) (n := m) (by simpa using gl) (by omega)
    simp [B.fraction, gg, h, bindG, hd, q1, q2, dQ, sizeLine]
theorem num_lt {n m : Nat} {p q : Rat} (hp : Sm m p) (hq : Sm n q) : (p.num * q.den).natAbs < 2 ^ (m + n) ∧ (q.num * p.den).natAbs < 2 ^ (m + n) := by
  refine ⟨?_, ?_⟩
  · rw [Int.natAbs_mul]; exact mul_lt_pow hp.1 hq.2
  · rw [Int.natAbs_mul, Nat.add_comm m n]; exact mul_lt_pow hq.1 hp.2
theorem plus_ok (hF : FracOk T wf f) (hT : T[i]? = some (B.plus f)) (hp : Sm m p) (hq : Sm k q) (h : m + k < 7990) (hw : 2 ^ (m + k + 1) ≤ wf) : callN T wf (n + 2) i [dQ p, dQ q] μ = some (dQ (p + q), μ) := by
  refine run_ret hT rfl ?_
  obtain ⟨e1, e2, e3, e4⟩ := sm_muls hp hq (by omega)
  have z := hF n μ (p.num * q.den + q.num * p.den) (p.den * q.den) (m + k + 1) (den0 p q) (by have := num_lt hp hq; have := Int.natAbs_add_le (p.num * q.den) (q.num * p.den); have : 2 ^ (m + k + 1) = 2 ^ (m + k) * 2 := Nat.pow_succ 2 (m + k); omega) (Nat.lt_of_lt_of_le (den_lt hp hq) (Nat.pow_le_pow_right (by decide) (by omega))) (by omega) hw
  rw [add_divInt] at z
  simp [B.plus, idx_dQ, e1, e2, e3, e4, z]
theorem minus_ok (hF : FracOk T wf f) (hT : T[i]? = some (B.minus f)) (hp : Sm m p) (hq : Sm k q) (h : m + k < 7990) (hw : 2 ^ (m + k + 1) ≤ wf) : callN T wf (n + 2) i [dQ p, dQ q] μ = some (dQ (p - q), μ) := by
  refine run_ret hT rfl ?_
  obtain ⟨e1, e2, e3, e4⟩ := sm_muls hp hq (by omega)
  have z := hF n μ (p.num * q.den - q.num * p.den) (p.den * q.den) (m + k + 1) (den0 p q) (by have := num_lt hp hq; have := Int.natAbs_sub_le (p.num * q.den) (q.num * p.den); have : 2 ^ (m + k + 1) = 2 ^ (m + k) * 2 := Nat.pow_succ 2 (m + k); omega) (Nat.lt_of_lt_of_le (den_lt hp hq) (Nat.pow_le_pow_right (by decide) (by omega))) (by omega) hw
  rw [sub_divInt] at z
  simp [B.minus, idx_dQ, e1, e2, e3, e4, z]
theorem times_ok (hF : FracOk T wf f) (hT : T[i]? = some (B.times f)) (hp : Sm m p) (hq : Sm k q) (h : m + k < 7990) (hw : 2 ^ (m + k + 1) ≤ wf) : callN T wf (n + 2) i [dQ p, dQ q] μ = some (dQ (p * q), μ) := by
  refine run_ret hT rfl ?_
  obtain ⟨e1, e2, e3, e4⟩ := sm_muls hp hq (by omega)
  have z := hF n μ (p.num * q.num) (p.den * q.den) (m + k + 1) (den0 p q) (by rw [Int.natAbs_mul]; exact Nat.lt_of_lt_of_le (mul_lt_pow hp.1 hq.1) (Nat.pow_le_pow_right (by decide) (by omega))) (Nat.lt_of_lt_of_le (den_lt hp hq) (Nat.pow_le_pow_right (by decide) (by omega))) (by omega) hw
  rw [mul_divInt] at z
  simp [B.times, idx_dQ, e1, e2, e3, e4, z]
theorem less_ok (hT : T[i]? = some B.less) (hp : Sm m p) (hq : Sm k q) (h : m + k < 8000) : callN T wf (n + 1) i [dQ p, dQ q] μ = some (.bl (decide (p < q)), μ) := by
  refine run_ret hT rfl ?_
  obtain ⟨e1, e2, e3, e4⟩ := sm_muls hp hq h
  simp [B.less, idx_dQ, e2, e3, Rat.lt_iff]
end
end DI
set_option Elab.async false
set_option linter.all false
set_option maxRecDepth 100000
set_option maxHeartbeats 4000000
/-! DL4: the laws' own helpers: purses, shuffled lists -/
namespace DI
open PySem PySem.Spec PyProof.Rows L2
namespace B
def purse : MF := { params := 2, slots := 3, fresh := true, body := [
  .asg (.nm 2) (.bi .sum [.slc (.var 0) (some (.var 1)) (some (.op .add (.var 1) (.int 1)))]),
  .ret (.lst [.op .mod (.bi .int [.bi .max [.op .sub (.var 2) (.op .pow (.int 10) (.int 18)), .int 0]]) (.op .pow (.op .pow (.int 10) (.int 60)) (.int 8)), .op .mod (.bi .int [.var 2]) (.int 2147483629), .int 0, .var 1])] }
def purses (p : Nat) : MF := { params := 2, slots := 3, fresh := false, body := [
  .ret (.comp (.cell (.call p [.var 0, .var 2])) (.nm 2) (.rng [.bi .max [.int 1, .bi .min [.var 1, .bi .len [.var 0]]]]) [] [2])] }
def shuffled (d : Nat) : MF := { params := 2, slots := 4, fresh := false, body := [
  .own 2 (.lst []),
  .for (.nm 3) (.seq (.var 1)) [
    .ometh .insert 2 [.call d [.var 0, .op .add (.bi .len [.ovar 2]) (.int 1)], .var 3]],
  .reto 2] }
end B
section
variable {T : List MF} {wf n p d m : Nat} {μ : Mem}
theorem intsD_map : ∀ ns : List Int, intsD (ns.map D.int) = some ns
  | [] => rfl
  | n :: ns => by simp [intsD, intsD_map ns]
theorem cutD_map {α β : Type} (f : α → β) (xs : List α) (lo hi : Option Int) : cutD (xs.map f) lo hi = (cutD xs lo hi).map f := by
  unfold cutD
  rw [List.length_map, List.map_take, List.map_drop]
@[simp] theorem bi_max (i j : Int) : biD μ .max [.int i, .int j] = some (.int (if j > i then j else i)) := rfl
@[simp] theorem bi_min (i j : Int) : biD μ .min [.int i, .int j] = some (.int (if j < i then j else i)) := rfl
theorem bi_sum (ns : List Int) : biD μ .sum [.lst (ns.map D.int)] = some (.int ns.sum) := by
  have : biD μ .sum [.lst (ns.map D.int)] = (intsD (ns.map D.int)).map fun is => .int is.sum := rfl
  rw [this, intsD_map]
  rfl
theorem slc_lst (xs : List D) (lo hi : Option Int) : slcD μ (.lst xs) lo hi = some (.lst (cutD xs lo hi)) := rfl
theorem pow18 : opI .pow 10 18 = some (10 ^ 18) := by decide +kernel
theorem pow60 : opI .pow 10 60 = some (10 ^ 60) := by decide +kernel
theorem pow480 : opI .pow (10 ^ 60) 8 = some (((10 ^ 60) ^ 8 : Nat) : Int) := by decide +kernel
theorem purse_ok (hT : T[p]? = some B.purse) (ns : List Int) {a : Nat} (ha : a < 2 ^ 40) : ∃ p0 p1 : Nat, callN T wf (n + 1) p [.lst (ns.map D.int), .int a] μ = some (.lst [.int p0, .int p1, .int (0 : Nat), .int a], μ) ∧ p1 < 2 ^ 40 := by
  have s1 : biD μ .sum [.lst (cutD (ns.map D.int) (some (a : Int)) (some ((a : Int) + 1)))] = some (.int (cutD ns (some (a : Int)) (some ((a : Int) + 1))).sum) := by rw [cutD_map, bi_sum]
  generalize (cutD ns (some (a : Int)) (some ((a : Int) + 1))).sum = x at s1
  have f1 : ∃ r : Nat, opI .mod (if 0 > x - 10 ^ 18 then 0 else x - 10 ^ 18) (((10 ^ 60) ^ 8 : Nat) : Int) = some (r : Int) := by
    have pos : 0 < (10 ^ 60) ^ 8 := Nat.pow_pos (Nat.pow_pos (by decide))
    generalize (10 ^ 60) ^ 8 = M at pos
    obtain ⟨r, h, -⟩ := fmod_nat (if 0 > x - 10 ^ 18 then 0 else x - 10 ^ 18) pos
    exact ⟨r, by rw [opI_mod (by omega)]; exact congrArg some h⟩
  obtain ⟨p0, e1⟩ := f1
  obtain ⟨p1, g, l⟩ := fmod_nat x (m := 2147483629) (by decide)
  have e2 : opI .mod x 2147483629 = some (p1 : Int) := by rw [opI_mod (by decide)]; exact congrArg some g
  refine ⟨p0, p1, run_ret hT rfl ?_, by omega⟩
  have k1 := pow18
  have k2 := pow60
  have k3 := pow480
  generalize ((10 ^ 60) ^ 8 : Nat) = M at *
  generalize (10 : Int) ^ 60 = M1 at *
  generalize (10 : Int) ^ 18 = M2 at *
  have sl : 4 ≤ sizeLine := by decide
  simp [B.purse, slc_lst, s1, bindG, k1, k2, k3, e1, e2, sl]
/-- a comprehension that makes cells -/
theorem compGo_cells {step : D → Mem → Option (Option D × Mem)} {ok : Mem → Bool} (hk : ∀ μ, ok μ = true) (Q : D → List D → Prop) : ∀ (xs : List D) (μ : Mem), (∀ x, x ∈ xs → ∀ μ, ∃ ds, step x μ = some (some (.ref μ.length), μ ++ [some ds]) ∧ Q x ds) →
    ∃ cs : List (List D), compGo step ok xs μ = some ((List.range' μ.length xs.length).map D.ref, μ ++ cs.map some) ∧ cs.length = xs.length ∧ ∀ ds, ds ∈ cs → ∃ x, x ∈ xs ∧ Q x ds
  | [], μ, h => ⟨[], by simp [compGo], rfl, fun _ z => nomatch z⟩
  | x :: xs, μ, h => by
    obtain ⟨ds, e, q⟩ := h x List.mem_cons_self μ
    obtain ⟨cs, e2, l2, q2⟩ := compGo_cells hk Q xs (μ ++ [some ds]) fun y hy => h y (List.mem_cons_of_mem _ hy)
    refine ⟨ds :: cs, ?_, by simp [l2], fun ds' hd => ?_⟩
    · unfold compGo
      rw [e]
      simp only [Option.bind_some, hk, if_true, e2, Option.map_some, Option.toList_some]
      simp [List.range'_succ]
    · rcases List.mem_cons.mp hd with rfl | hd
      · exact ⟨x, List.mem_cons_self, q⟩
      · obtain ⟨y, hy, qy⟩ := q2 ds' hd
        exact ⟨y, List.mem_cons_of_mem _ hy, qy⟩
theorem purses_ok (hP : T[p]? = some B.purse) (hT : T[d]? = some (B.purses p)) (ns : List Int) (hn : ns.length ≤ 1000) {few : Nat} (hf : few ≤ 1000) : ∃ (k : Nat) (μ' : Mem),
    callN T wf (n + 2) d [.lst (ns.map D.int), .int few] [] = some (.lst ((List.range k).map D.ref), μ') ∧ μ'.length = k ∧ ∀ c, c < k → Pur μ' c 0 := by
  obtain ⟨k, hk, lk⟩ : ∃ k : Nat, (if 1 < (if ns.length < few then (ns.length : Int) else few) then (if ns.length < few then (ns.length : Int) else few) else 1) = k ∧ k ≤ 1000 := by
    refine ⟨(if 1 < (if ns.length < few then (ns.length : Int) else few) then (if ns.length < few then (ns.length : Int) else few) else 1).toNat, ?_, ?_⟩
    · split <;> split <;> omega
    · split <;> split <;> omega
  have ll : lenD ([] : Mem) (.lst (ns.map D.int)) = some ns.length := by simp [lenD, seqV]
  have hI : evI (callN T wf (n + 1)) (.rng [.bi .max [.int 1, .bi .min [.var 1, .bi .len [.var 0]]]]) [.val (.lst (ns.map D.int)), .val (.int few), .un] [] = some ((rangeD 0 k, []), []) := by
    refine rng1 (by simp [ll, hk]) ?_
    simp only [rangeOk, Bool.and_eq_true, decide_eq_true_eq]
    omega
  have hs : ∀ x, x ∈ rangeD 0 k → ∀ μ : Mem, ∃ ds, ((bindG (.nm 2) x (wipeE [.val (.lst (ns.map D.int)), .val (.int few), .un] [2])).bind fun e1 => (evCs (callN T wf (n + 1)) [] e1 μ).bind fun c =>
      if c.1 then (evE (callN T wf (n + 1)) (.cell (.call p [.var 0, .var 2])) e1 c.2).map fun q => (some q.1, q.2) else some (none, c.2)) = some (some (.ref μ.length), μ ++ [some ds]) ∧ ∃ p0 p1 p3 : Nat, ds = [.int p0, .int p1, .int (0 : Nat), .int p3] ∧ p1 < 2 ^ 40 ∧ p3 < 2 ^ 40 := fun x hx μ => by
    obtain ⟨a, ha, rfl⟩ := List.mem_map.mp hx
    have la : a < k := by
      have := List.mem_range.mp ha
      omega
    obtain ⟨p0, p1, e, l1⟩ := purse_ok (wf := wf) (n := n) (μ := μ) hP ns (a := a) (by omega)
    refine ⟨[.int p0, .int p1, .int (0 : Nat), .int a], ?_, p0, p1, a, rfl, l1, by omega⟩
    have : (0 : Int) + a = a := by omega
    generalize D.int (0 : Nat) = w0 at *
    simp [bindG, wipeE, this, e]
  obtain ⟨cs, e, l, q⟩ := compGo_cells (ok := fun _ => true) (fun _ => rfl) (fun _ ds => ∃ p0 p1 p3 : Nat, ds = [.int p0, .int p1, .int (0 : Nat), .int p3] ∧ p1 < 2 ^ 40 ∧ p3 < 2 ^ 40) (rangeD 0 k) [] hs
  have rl : (rangeD 0 (k : Int)).length = k := by simp [rangeD]
  rw [rl] at e l
  refine ⟨k, [] ++ cs.map some, run_ret hT rfl ?_, by simpa using l, fun c hc => ?_⟩
  · have : evE (callN T wf (n + 1)) (.comp (.cell (.call p [.var 0, .var 2])) (.nm 2) (.rng [.bi .max [.int 1, .bi .min [.var 1, .bi .len [.var 0]]]]) [] [2]) [.val (.lst (ns.map D.int)), .val (.int few), .un] [] = some (.lst ((List.range k).map D.ref), [] ++ cs.map some) := by
      rw [evE, hI]
      simp only [Option.bind_some, List.all_nil, if_true]
      rw [e]
      have : ((List.range' 0 k).map D.ref).length ≤ sizeLine := by
        rw [List.length_map, List.length_range']
        unfold sizeLine
        omega
      simp only [Option.bind_some, List.length_nil, this, if_true, List.range_eq_range']
    simp [B.purses, this]
  · obtain ⟨x, -, p0, p1, p3, e1, l1, l3⟩ := q (cs[c]'(by omega)) (List.getElem_mem _)
    refine ⟨p0, p1, 0, p3, ?_, l1, Nat.le_refl _, l3⟩
    rw [← e1]
    simp [List.getElem?_eq_getElem (show c < cs.length by omega)]
theorem shuffled_ok {α : Type} {g : α → D} (hM : T[m]? = some B.mixed) (hD : T[d]? = some (B.draw m)) {i : Nat} (hT : T[i]? = some (B.shuffled d)) {c b : Nat} (l : List α) (hl : l.length ≤ 1000) (h : Pur μ c b) (hb : b + 10 * l.length < 2 ^ 190) :
    ∃ (l' : List α) (μ' : Mem), callN T wf (n + 3) i [.ref c, .lst (l.map g)] μ = some (.lst (l'.map g), μ') ∧ l'.Perm l ∧ Pur μ' c (b + 10 * l.length) ∧ Ot c μ μ' := by
  obtain ⟨env', μ', hf, done, rest, v3, he, hall, hpm, hlen, hpur, ho⟩ := for_run (C := callN T wf (n + 2)) (wf := wf) (tg := .nm 3) (body := [.ometh .insert 2 [.call d [.var 0, .op .add (.bi .len [.ovar 2]) (.int 1)], .var 3]]) (src := .seq (.var 1))
    (env := [.val (.ref c), .val (.lst (l.map g)), .own [], .un]) (μ := μ) (μ1 := μ) (xs := l.map g) (lks := [])
    (P := fun r e ν => ∃ (done rest : List α) (v3 : Sl), e = [.val (.ref c), .val (.lst (l.map g)), .own (done.map g), v3] ∧ r = rest.map g ∧ (done ++ rest).Perm l ∧ done.length + rest.length = l.length ∧ Pur ν c (b + 10 * done.length) ∧ Ot c μ ν)
    (by simp [evI_seq34, itemsD, seqV, lockOf]) rfl (fun _ _ _ _ => rfl) (fun x r e ν q => by
      obtain ⟨done, rest, v3, he, hr, hpm, hlen, hpur, ho⟩ := q
      cases rest with
      | nil => simp at hr
      | cons a rest =>
        rw [List.map_cons] at hr
        obtain ⟨rfl, rfl⟩ := List.cons.inj hr
        subst he
        rw [List.length_cons] at hlen
        have k200 : done.length + 1 < 2 ^ 200 := by
          have : (1002 : Nat) < 2 ^ 200 := by decide
          omega
        obtain ⟨y, ν', ly, ey, hp', ho'⟩ := draw_ok (T := T) (wf := wf) (n := n) (k := done.length + 1) hM hD hpur (by omega) (by omega) k200
        have ey' : callN T wf (n + 2) d [.ref c, .int ((done.length : Int) + 1)] ν = some (.int y, ν') := ey
        have ins : mthD .insert (done.map g) [.int y, g a] = some ((done.take y ++ [a] ++ done.drop y).map g) := by
          have : (done.map g).length < sizeLine ∧ (0 : Int) ≤ y ∧ (y : Int) < 2 ^ 63 := by
            rw [List.length_map]
            unfold sizeLine
            omega
          simp only [mthD]
          rw [if_pos this]
          simp [List.map_take, List.map_drop]
        refine ⟨_, _, ν', rfl, ?_, done.take y ++ [a] ++ done.drop y, rest, .val (g a), rfl, rfl, ?_, ?_, ?_, ho.trans ho'⟩
        · have ll : lenD ν (.lst (done.map g)) = some done.length := by simp [lenD, seqV]
          simp [ll, ey', ins, -List.map_append]
        · refine List.Perm.trans ?_ hpm
          have e1 : (done.take y ++ [a] ++ done.drop y).Perm (done ++ [a]) := by
            have : (done.take y ++ ([a] ++ done.drop y)).Perm (done.take y ++ (done.drop y ++ [a])) := List.Perm.append_left _ List.perm_append_comm
            rw [← List.append_assoc, ← List.append_assoc, List.take_append_drop] at this
            exact this
          have := e1.append_right rest
          rwa [List.append_assoc done [a] rest] at this
        · simp only [List.length_append, List.length_take, List.length_drop, List.length_cons, List.length_nil]
          omega
        · refine hp'.mono ?_
          simp only [List.length_append, List.length_take, List.length_drop, List.length_cons, List.length_nil]
          omega) ⟨[], l, .un, rfl, rfl, List.Perm.refl _, by simp, by simpa using h, Ot.refl⟩
  have hr0 : rest = [] := by
    cases rest with
    | nil => rfl
    | cons _ _ => simp at hall
  subst hr0
  rw [List.append_nil] at hpm
  refine ⟨done, μ', run_ret hT rfl ?_, hpm, by rw [← hpm.length_eq]; exact hpur, ho⟩
  have sl : (0 : Nat) ≤ sizeLine := Nat.zero_le _
  simp [B.shuffled, hf, he]
end
end DI
set_option Elab.async false
set_option linter.all false
set_option maxRecDepth 100000
set_option maxHeartbeats 4000000
/-! DL5: the program's own helpers: whole numbers, fractions, points -/
namespace DI
open PySem PySem.Spec PyProof.Rows L2
namespace B
def is_whole : MF := { params := 1, slots := 1, fresh := false, body := [
  .ret (.and (.isi (.var 0) [.int]) (.not (.isi (.var 0) [.bool])))] }
def is_tuple_of : MF := { params := 2, slots := 2, fresh := false, body := [
  .ret (.and (.isi (.var 0) [.tuple]) (.cmp .eq (.bi .len [.var 0]) (.var 1)))] }
def is_fraction (w t : Nat) : MF := { params := 1, slots := 1, fresh := false, body := [
  .iff (.or (.not (.call t [.var 0, .int 2])) (.or (.not (.call w [.idx (.var 0) (.int 0)])) (.or (.not (.call w [.idx (.var 0) (.int 1)])) (.cmp .lt (.idx (.var 0) (.int 1)) (.int 1))))) [
    .ret (.bl false)] [],
  .ret (.cmp .eq (.bi .gcd [.idx (.var 0) (.int 0), .idx (.var 0) (.int 1)]) (.int 1))] }
def is_point (t f : Nat) : MF := { params := 1, slots := 1, fresh := false, body := [
  .ret (.and (.call t [.var 0, .int 2]) (.and (.call f [.idx (.var 0) (.int 0)]) (.call f [.idx (.var 0) (.int 1)])))] }
def check (p : Nat) : MF := { params := 1, slots := 1, fresh := false, body := [
  .iff (.not (.call p [.var 0])) [
    .raise] []] }
def comes_ahead (l : Nat) : MF := { params := 2, slots := 2, fresh := false, body := [
  .iff (.cmp .ne (.idx (.var 0) (.int 0)) (.idx (.var 1) (.int 0))) [
    .ret (.call l [.idx (.var 0) (.int 0), .idx (.var 1) (.int 0)])] [],
  .ret (.call l [.idx (.var 0) (.int 1), .idx (.var 1) (.int 1)])] }
def are (p : Nat) : MF := { params := 1, slots := 2, fresh := false, body := [
  .ret (.and (.isi (.var 0) [.list]) (.bi .all [.comp (.call p [.var 1]) (.nm 1) (.seq (.var 0)) [] [1]]))] }
def law_ahead (l : Nat) : MF := { params := 2, slots := 2, fresh := false, body := [
  .ret (.or (.call l [.idx (.var 0) (.int 0), .idx (.var 1) (.int 0)]) (.and (.cmp .eq (.idx (.var 0) (.int 0)) (.idx (.var 1) (.int 0))) (.call l [.idx (.var 0) (.int 1), .idx (.var 1) (.int 1)])))] }
end B
/-! ### no cell anywhere -/
mutual
def bare : D → Bool
  | .ref _ => false
  | .tup xs => bares xs
  | .lst xs => bares xs
  | _ => true
def bares : List D → Bool
  | [] => true
  | x :: xs => bare x && bares xs
end
theorem live_bare {μ : Mem} {d : D} (h : bare d = true) : liveD μ d = true := by
  cases d <;> first | rfl | (simp [bare] at h)
theorem bares_iff : ∀ ds : List D, bares ds = true ↔ ∀ d, d ∈ ds → bare d = true
  | [] => by simp [bares]
  | x :: xs => by simp [bares, bares_iff xs]
def wholeB : D → Bool
  | .int _ => true
  | _ => false
def tupB : D → Int → Bool
  | .tup xs, k => decide ((xs.length : Int) = k)
  | _, _ => false
def fracB : D → Bool
  | .tup [.int a, .int b] => decide (1 ≤ b) && decide (((Nat.gcd a.natAbs b.natAbs : Nat) : Int) = 1)
  | _ => false
def pointB : D → Bool
  | .tup [a, b] => fracB a && fracB b
  | _ => false
def areB (p : D → Bool) : D → Bool
  | .lst xs => xs.all p
  | _ => false
section
variable {T : List MF} {wf n i w t f p l : Nat} {μ : Mem}
theorem is_whole_ok (hT : T[i]? = some B.is_whole) {d : D} (hb : bare d = true) : callN T wf (n + 1) i [d] μ = some (.bl (wholeB d), μ) := by
  refine run_ret hT rfl ?_
  cases d <;> first | (simp [bare] at hb; done) | (simp [B.is_whole, liveD, isT, wholeB])
theorem is_tuple_ok (hT : T[i]? = some B.is_tuple_of) {d : D} (k : Int) (hb : bare d = true) : callN T wf (n + 1) i [d, .int k] μ = some (.bl (tupB d k), μ) := by
  refine run_ret hT rfl ?_
  cases d <;> first | (simp [bare] at hb; done) | (simp [B.is_tuple_of, liveD, isT, tupB, lenD, eqD_int])
theorem fracB_len {xs : List D} (h : xs.length ≠ 2) : fracB (.tup xs) = false := by
  unfold fracB
  split
  · rename_i e
    cases e
    exact absurd rfl h
  · rfl
theorem pointB_len {xs : List D} (h : xs.length ≠ 2) : pointB (.tup xs) = false := by
  unfold pointB
  split
  · rename_i e
    cases e
    exact absurd rfl h
  · rfl
theorem is_frac_ok (hW : T[w]? = some B.is_whole) (hT : T[t]? = some B.is_tuple_of) (hF : T[i]? = some (B.is_fraction w t)) {d : D} (hb : bare d = true) : callN T wf (n + 2) i [d] μ = some (.bl (fracB d), μ) := by
  refine run_ret hF rfl ?_
  have e := is_tuple_ok (wf := wf) (n := n) (μ := μ) hT 2 hb
  have W := fun (d : D) (hb : bare d = true) => is_whole_ok (wf := wf) (n := n) (μ := μ) hW hb
  have no : tupB d 2 = false → fracB d = false → evSs (callN T wf (n + 1)) wf (B.is_fraction w t).body (List.map Sl.val [d] ++ List.replicate ((B.is_fraction w t).slots - (B.is_fraction w t).params) Sl.un) μ = some (Fl.rt (D.bl (fracB d)), μ) := fun h1 h2 => by
    simp [B.is_fraction, e, h1, h2]
  rcases d with _ | _ | _ | _ | xs | _ | _ | _
  case tup =>
    match xs, e, hb, no with
    | [], e, _, no => exact no rfl (fracB_len (by simp))
    | [_], e, _, no => exact no rfl (fracB_len (by simp))
    | _ :: _ :: _ :: _, e, _, no => exact no (by simp [tupB]; omega) (fracB_len (by simp))
    | [a, b], e, hb, no =>
      simp only [bare, bares, Bool.and_eq_true, Bool.and_true] at hb
      have Wa := W a hb.1
      have Wb := W b hb.2
      have i0 : idxD μ (.tup [a, b]) (.int 0) = some a := rfl
      have i1 : idxD μ (.tup [a, b]) (.int 1) = some b := rfl
      have t2 : tupB (.tup [a, b]) 2 = true := rfl
      cases ha : wholeB a with
      | false =>
        have : fracB (.tup [a, b]) = false := by cases a <;> first | rfl | (simp [wholeB] at ha)
        simp [B.is_fraction, e, Wa, ha, i0, i1, t2, this]
      | true =>
        cases hb' : wholeB b with
        | false =>
          have : fracB (.tup [a, b]) = false := by cases b <;> first | (cases a <;> rfl) | (simp [wholeB] at hb')
          simp [B.is_fraction, e, Wa, ha, Wb, hb', i0, i1, t2, this]
        | true =>
          cases a <;> first | (simp [wholeB] at ha; done) | skip
          cases b <;> first | (simp [wholeB] at hb'; done) | skip
          rename_i x y
          have g : ∀ μ : Mem, biD μ .gcd [.int x, .int y] = some (.int (Nat.gcd x.natAbs y.natAbs : Nat)) := fun _ => rfl
          by_cases hy : y < 1
          · have : ¬ (1 ≤ y) := by omega
            simp [B.is_fraction, e, Wa, Wb, ha, hb', i0, i1, t2, hy, fracB, this]
          · have : 1 ≤ y := by omega
            simp [B.is_fraction, e, Wa, Wb, ha, hb', i0, i1, t2, hy, fracB, this, g, eqD_int]
  all_goals first | exact no rfl rfl | (simp [bare] at hb)
theorem is_point_ok (hW : T[w]? = some B.is_whole) (hT : T[t]? = some B.is_tuple_of) (hF : T[f]? = some (B.is_fraction w t)) (hP : T[i]? = some (B.is_point t f)) {d : D} (hb : bare d = true) : callN T wf (n + 3) i [d] μ = some (.bl (pointB d), μ) := by
  refine run_ret hP rfl ?_
  have e := is_tuple_ok (wf := wf) (n := n + 1) (μ := μ) hT 2 hb
  have no : tupB d 2 = false → pointB d = false → evSs (callN T wf (n + 2)) wf (B.is_point t f).body (List.map Sl.val [d] ++ List.replicate ((B.is_point t f).slots - (B.is_point t f).params) Sl.un) μ = some (Fl.rt (D.bl (pointB d)), μ) := fun h1 h2 => by
    simp [B.is_point, e, h1, h2]
  rcases d with _ | _ | _ | _ | xs | _ | _ | _
  case tup =>
    match xs, e, hb, no with
    | [], e, _, no => exact no rfl (pointB_len (by simp))
    | [_], e, _, no => exact no rfl (pointB_len (by simp))
    | _ :: _ :: _ :: _, e, _, no => exact no (by simp [tupB]; omega) (pointB_len (by simp))
    | [a, b], e, hb, no =>
      simp only [bare, bares, Bool.and_eq_true, Bool.and_true] at hb
      have Fa := is_frac_ok (wf := wf) (n := n) (μ := μ) hW hT hF hb.1
      have Fb := is_frac_ok (wf := wf) (n := n) (μ := μ) hW hT hF hb.2
      have i0 : idxD μ (.tup [a, b]) (.int 0) = some a := rfl
      have i1 : idxD μ (.tup [a, b]) (.int 1) = some b := rfl
      have t2 : tupB (.tup [a, b]) 2 = true := rfl
      cases ha : fracB a <;> simp [B.is_point, e, Fa, Fb, ha, i0, i1, t2, pointB]
  all_goals first | exact no rfl rfl | (simp [bare] at hb)
theorem fracB_dQ (q : Rat) : fracB (dQ q) = true := by
  have h1 := q.den_pos
  have h2 : Nat.gcd q.num.natAbs q.den = 1 := q.reduced
  simp only [fracB, dQ, Int.natAbs_natCast, h2]
  simp
  omega
theorem pointB_dP (p : Rat × Rat) : pointB (dP p) = true := by simp [pointB, dP, fracB_dQ]
theorem bare_dQ (q : Rat) : bare (dQ q) = true := rfl
theorem bare_dP (q : Rat × Rat) : bare (dP q) = true := rfl
theorem bares_map {α : Type} {g : α → D} (h : ∀ x, bare (g x) = true) (l : List α) : bares (l.map g) = true := by
  rw [bares_iff]
  intro d hd
  obtain ⟨x, _, rfl⟩ := List.mem_map.mp hd
  exact h x
/-- all of a list -/
theorem are_ok {pB : D → Bool} (hT : T[i]? = some (B.are p)) (hp : ∀ d, bare d = true → callN T wf n p [d] μ = some (.bl (pB d), μ)) {d : D} (hb : bare d = true) (hs : ∀ xs, d = .lst xs → xs.length ≤ sizeLine) : callN T wf (n + 1) i [d] μ = some (.bl (areB pB d), μ) := by
  refine run_ret hT rfl ?_
  cases d with
  | lst xs =>
    have hc := comp_map (C := callN T wf n) (tg := .nm 1) (elt := .call p [.var 1]) (own := [1]) (src := .seq (.var 0)) (env := [.val (.lst xs), .un]) (μ := μ) (μ1 := μ) (xs := xs) (lks := []) (g := fun d => .bl (pB d)) (by simp [evI_seq34, itemsD, seqV, lockOf]) rfl
      (fun x hx => by
        have : bare x = true := (bares_iff xs).mp (by simpa [bare] using hb) x hx
        simp [bindG, wipeE, hp x this]) (hs xs rfl)
    have ha := bi_all (μ := μ) pB xs
    simp [B.are, liveD, isT, areB]
    rw [hc]
    simp [ha]
  | ref _ => simp [bare] at hb
  | _ => simp [B.are, liveD, isT, areB]
def aheadB (p q : Rat × Rat) : Bool := if p.1 = q.1 then decide (p.2 < q.2) else decide (p.1 < q.1)
def SmP (m : Nat) (p : Rat × Rat) : Prop := Sm m p.1 ∧ Sm m p.2
theorem ahead_ok (hL : T[l]? = some B.less) (hT : T[i]? = some (B.comes_ahead l)) {m : Nat} {p q : Rat × Rat} (hp : SmP m p) (hq : SmP m q) (hm : m < 3000) : callN T wf (n + 2) i [dP p, dP q] μ = some (.bl (aheadB p q), μ) := by
  refine run_ret hT rfl ?_
  have e1 := less_ok (wf := wf) (n := n) (μ := μ) hL hp.1 hq.1 (by omega)
  have e2 := less_ok (wf := wf) (n := n) (μ := μ) hL hp.2 hq.2 (by omega)
  unfold aheadB
  by_cases h : p.1 = q.1
  · rw [h] at e1
    simp [B.comes_ahead, idx_dP, eqD_dQ, h, e2]
  · simp [B.comes_ahead, idx_dP, eqD_dQ, h, e1]
theorem law_ahead_ok (hL : T[l]? = some B.less) (hT : T[i]? = some (B.law_ahead l)) {m : Nat} {p q : Rat × Rat} (hp : SmP m p) (hq : SmP m q) (hm : m < 3000) : callN T wf (n + 2) i [dP p, dP q] μ = some (.bl (aheadB p q), μ) := by
  refine run_ret hT rfl ?_
  have e1 := less_ok (wf := wf) (n := n) (μ := μ) hL hp.1 hq.1 (by omega)
  have e2 := less_ok (wf := wf) (n := n) (μ := μ) hL hp.2 hq.2 (by omega)
  unfold aheadB
  by_cases h : p.1 = q.1
  · have : decide (p.1 < q.1) = false := by rw [h]; simp [Rat.lt_irrefl]
    rw [this, ] at e1
    simp [B.law_ahead, idx_dP, eqD_dQ, h, e2]
    rw [h] at e1
    simp [e1, e2]
  · by_cases h2 : p.1 < q.1 <;> simp [B.law_ahead, idx_dP, eqD_dQ, h, e1, h2]
end
end DI
set_option Elab.async false
set_option linter.all false
set_option maxRecDepth 100000
set_option maxHeartbeats 4000000
/-! DL6: sets of points -/
namespace DI
open PySem PySem.Spec PyProof.Rows L2
abbrev Pt := Rat × Rat
/-! ### the order -/
theorem ahead_irrefl (p : Pt) : aheadB p p = false := by simp [aheadB, Rat.lt_irrefl]
theorem ahead_trans {p q r : Pt} (h1 : aheadB p q = true) (h2 : aheadB q r = true) : aheadB p r = true := by
  unfold aheadB at *
  split at h1 <;> split at h2 <;> rename_i e1 e2 <;> simp only [decide_eq_true_eq] at h1 h2
  · rw [if_pos (e1.trans e2)]
    simp only [decide_eq_true_eq]
    grind
  · rw [if_neg (by rw [e1]; exact e2)]
    simp only [decide_eq_true_eq]
    grind
  · rw [if_neg (by rw [← e2]; exact e1)]
    simp only [decide_eq_true_eq]
    grind
  · rw [if_neg (by grind)]
    simp only [decide_eq_true_eq]
    grind
theorem ahead_asymm {p q : Pt} (h : aheadB p q = true) : aheadB q p = false := by
  cases e : aheadB q p with
  | false => rfl
  | true => exact (Bool.false_ne_true ((ahead_irrefl p).symm.trans (ahead_trans h e))).elim
theorem ahead_total {p q : Pt} (h : aheadB p q = false) (n : p ≠ q) : aheadB q p = true := by
  unfold aheadB at *
  by_cases e : p.1 = q.1
  · rw [if_pos e] at h
    rw [if_pos e.symm]
    simp only [decide_eq_false_iff_not, decide_eq_true_eq] at *
    have : p.2 ≠ q.2 := fun z => n (Prod.ext e z)
    grind
  · rw [if_neg e] at h
    rw [if_neg (fun z => e z.symm)]
    simp only [decide_eq_false_iff_not, decide_eq_true_eq] at *
    grind
/-! ### laid into its place -/
def Srt (l : List Pt) : Prop := l.Pairwise fun p q => aheadB p q = true
def insP (f : List Pt) (p : Pt) : List Pt := if p ∈ f then f else f.take (f.filter (aheadB · p)).length ++ [p] ++ f.drop (f.filter (aheadB · p)).length
theorem srt_cut {α : Type} {R : α → α → Prop} (g : α → Bool) : ∀ l : List α, l.Pairwise R → (∀ a b, R a b → g b = true → g a = true) → l.filter g = l.take (l.filter g).length ∧ (l.filter fun x => !g x) = l.drop (l.filter g).length
  | [], _, _ => ⟨rfl, rfl⟩
  | x :: l, h, k => by
    have ih := srt_cut g l (List.pairwise_cons.mp h).2 k
    cases e : g x with
    | true =>
      simp only [List.filter_cons, e, if_true, List.length_cons, List.take_succ_cons, List.drop_succ_cons, Bool.not_true, Bool.false_eq_true, if_false]
      exact ⟨congrArg _ ih.1, ih.2⟩
    | false =>
      have all : ∀ y, y ∈ l → g y = false := fun y hy => by
        cases e2 : g y with
        | false => rfl
        | true =>
          have := k x y ((List.pairwise_cons.mp h).1 y hy) e2
          rw [e] at this
          cases this
      have e3 : l.filter g = [] := List.filter_eq_nil_iff.mpr fun y hy => by rw [all y hy]; decide
      have e4 : (l.filter fun x => !g x) = l := List.filter_eq_self.mpr fun y hy => by rw [all y hy]; rfl
      simp only [List.filter_cons, e, Bool.false_eq_true, if_false, e3, List.length_nil, List.take_zero, List.drop_zero, Bool.not_false, if_true, e4]
      refine ⟨?_, ?_⟩ <;> first | trivial | rfl
theorem insP_eq {f : List Pt} {p : Pt} (h : Srt f) (hp : p ∉ f) : insP f p = f.filter (aheadB · p) ++ [p] ++ f.filter (fun x => !aheadB x p) := by
  obtain ⟨h1, h2⟩ := srt_cut (aheadB · p) f h fun a b hab hb => ahead_trans hab hb
  unfold insP
  rw [if_neg hp, ← h2, ← h1]
theorem insP_srt {f : List Pt} {p : Pt} (h : Srt f) : Srt (insP f p) := by
  by_cases hp : p ∈ f
  · unfold insP
    rw [if_pos hp]
    exact h
  · rw [insP_eq h hp]
    unfold Srt
    rw [List.append_assoc, List.pairwise_append]
    refine ⟨h.filter _, ?_, fun a ha b hb => ?_⟩
    · rw [List.singleton_append, List.pairwise_cons]
      refine ⟨fun b hb => ?_, h.filter _⟩
      obtain ⟨b1, b2⟩ := List.mem_filter.mp hb
      exact ahead_total (by simpa using b2) fun e => hp (e ▸ b1)
    · obtain ⟨a1, a2⟩ := List.mem_filter.mp ha
      rcases List.mem_append.mp hb with hb | hb
      · rw [List.mem_singleton.mp hb]
        exact a2
      · obtain ⟨b1, b2⟩ := List.mem_filter.mp hb
        have := ahead_total (p := b) (q := p) (by simpa using b2) fun e => hp (e ▸ b1)
        exact ahead_trans a2 this
theorem insP_mem {f : List Pt} {p x : Pt} : x ∈ insP f p ↔ x = p ∨ x ∈ f := by
  unfold insP
  split
  · rename_i h
    exact ⟨.inr, fun h' => h'.elim (fun e => e ▸ h) id⟩
  · rw [List.mem_append, List.mem_append, List.mem_singleton]
    have := List.take_append_drop (f.filter (aheadB · p)).length f
    constructor
    · rintro ((h | h) | h)
      · exact .inr (List.mem_of_mem_take h)
      · exact .inl h
      · exact .inr (List.mem_of_mem_drop h)
    · rintro (h | h)
      · exact .inl (.inr h)
      · rw [← this, List.mem_append] at h
        exact h.elim (fun h => .inl (.inl h)) .inr
theorem insP_len {f : List Pt} {p : Pt} : (insP f p).length ≤ f.length + 1 := by
  unfold insP
  split
  · omega
  · simp only [List.length_append, List.length_take, List.length_drop, List.length_cons, List.length_nil]
    omega
def sortP (l : List Pt) : List Pt := l.foldl insP []
theorem fold_srt : ∀ (l f : List Pt), Srt f → Srt (l.foldl insP f)
  | [], _, h => h
  | p :: l, f, h => fold_srt l (insP f p) (insP_srt h)
theorem fold_mem {x : Pt} : ∀ (l f : List Pt), x ∈ l.foldl insP f ↔ x ∈ l ∨ x ∈ f
  | [], f => by simp
  | p :: l, f => by
    rw [List.foldl_cons, fold_mem l (insP f p), insP_mem, List.mem_cons]
    constructor
    · rintro (h | h | h)
      · exact .inl (.inr h)
      · exact .inl (.inl h)
      · exact .inr h
    · rintro ((h | h) | h)
      · exact .inr (.inl h)
      · exact .inl h
      · exact .inr (.inr h)
theorem sortP_srt (l : List Pt) : Srt (sortP l) := fold_srt l [] List.Pairwise.nil
theorem sortP_mem {l : List Pt} {x : Pt} : x ∈ sortP l ↔ x ∈ l := by
  unfold sortP
  rw [fold_mem]
  simp
/-- each ahead of the next -/
def chainB : List Pt → Bool
  | p :: q :: r => aheadB p q && chainB (q :: r)
  | _ => true
theorem chain_srt : ∀ l : List Pt, chainB l = true ↔ Srt l
  | [] => ⟨fun _ => List.Pairwise.nil, fun _ => rfl⟩
  | [p] => ⟨fun _ => List.pairwise_singleton _ _, fun _ => rfl⟩
  | p :: q :: r => by
    have ih := chain_srt (q :: r)
    unfold chainB
    rw [Bool.and_eq_true, ih]
    constructor
    · rintro ⟨h1, h2⟩
      refine List.pairwise_cons.mpr ⟨fun b hb => ?_, h2⟩
      rcases List.mem_cons.mp hb with rfl | hb
      · exact h1
      · exact ahead_trans h1 ((List.pairwise_cons.mp h2).1 b hb)
    · intro h
      exact ⟨(List.pairwise_cons.mp h).1 q List.mem_cons_self, (List.pairwise_cons.mp h).2⟩
theorem chain_zip : ∀ l : List Pt, ((l.zip (l.drop 1)).all fun x => aheadB x.1 x.2) = chainB l
  | [] => rfl
  | [p] => rfl
  | p :: q :: r => by
    have ih := chain_zip (q :: r)
    simp only [List.drop_succ_cons, List.drop_zero, List.zip_cons_cons, List.all_cons, chainB] at ih ⊢
    rw [ih]
/-- sorted once: the same when sorted again -/
theorem sortP_id {l : List Pt} (h : Srt l) : sortP l = l := by
  have key : ∀ (m f : List Pt), Srt (f ++ m) → m.foldl insP f = f ++ m := by
    intro m
    induction m with
    | nil => intro f _; simp
    | cons p m ih =>
      intro f hs
      have hs1 : Srt f := (List.pairwise_append.mp hs).1
      have hf : ∀ x, x ∈ f → aheadB x p = true := fun x hx => (List.pairwise_append.mp hs).2.2 x hx p List.mem_cons_self
      have hp : p ∉ f := fun z => Bool.false_ne_true ((ahead_irrefl p).symm.trans (hf p z))
      have e : insP f p = f ++ [p] := by
        rw [insP_eq hs1 hp, List.filter_eq_self.mpr hf, List.filter_eq_nil_iff.mpr fun x hx => by rw [hf x hx]; decide, List.append_nil]
      rw [List.foldl_cons, e, ih (f ++ [p]) (by rw [List.append_assoc]; exact hs), List.append_assoc]
      rfl
  exact key l [] h
end DI
set_option Elab.async false
set_option linter.all false
set_option maxRecDepth 100000
set_option maxHeartbeats 4000000
/-! DL7: what the helpers on points reckon -/
namespace DI
open PySem PySem.Spec PyProof.Rows L2
theorem compGo_pureA {α : Type} {step : D → Mem → Option (Option D × Mem)} {ok : Mem → Bool} {μ : Mem} {e : α → D} {g : α → Option D} (hk : ok μ = true) : ∀ l : List α, (∀ a, a ∈ l → step (e a) μ = some (g a, μ)) → compGo step ok (l.map e) μ = some (l.filterMap g, μ)
  | [], _ => rfl
  | x :: xs, h => by
    have ih := compGo_pureA (step := step) (e := e) hk xs fun y hy => h y (List.mem_cons_of_mem _ hy)
    rw [List.map_cons]
    unfold compGo
    rw [h x List.mem_cons_self]
    simp only [Option.bind_some, hk, if_true, ih, Option.map_some]
    rw [List.filterMap_cons]
    cases g x <;> rfl
theorem comp_mapA {α : Type} {C : Call} {elt : ME} {tg : MG} {src : MI} {own : List Nat} {env : Ev} {μ μ1 : Mem} {l : List α} {lks : List Lk} {e g : α → D}
    (hI : evI C src env μ = some ((l.map e, lks), μ1)) (hl : lks.all (Lk.ok env μ1) = true)
    (h : ∀ a, a ∈ l → (bindG tg (e a) (wipeE env own)).bind (fun e1 => evE C elt e1 μ1) = some (g a, μ1))
    (hs : l.length ≤ sizeLine) : evE C (.comp elt tg src [] own) env μ = some (.lst (l.map g), μ1) := by
  rw [evE]
  simp only [hI, Option.bind_some, hl, if_true]
  rw [compGo_pureA (g := fun a => some (g a)) hl l fun a ha => ?_]
  · rw [List.filterMap_eq_map']
    have : (l.map g).length ≤ sizeLine := by rw [List.length_map]; exact hs
    simp only [Option.bind_some, this, if_true]
  · have q := h a ha
    obtain ⟨e1, q1, q2⟩ := Option.bind_eq_some_iff.mp q
    rw [q1]
    simp [q2]
theorem comp_selA {α : Type} {C : Call} {elt c : ME} {tg : MG} {src : MI} {own : List Nat} {env : Ev} {μ μ1 : Mem} {l : List α} {lks : List Lk} {e : α → D} {p : α → Bool}
    (hI : evI C src env μ = some ((l.map e, lks), μ1)) (hl : lks.all (Lk.ok env μ1) = true)
    (h : ∀ a, a ∈ l → ∃ e1, bindG tg (e a) (wipeE env own) = some e1 ∧ evE C c e1 μ1 = some (.bl (p a), μ1) ∧ evE C elt e1 μ1 = some (e a, μ1))
    (hs : l.length ≤ sizeLine) : evE C (.comp elt tg src [c] own) env μ = some (.lst ((l.filter p).map e), μ1) := by
  rw [evE]
  simp only [hI, Option.bind_some, hl, if_true]
  rw [compGo_pureA (g := fun a => if p a = true then some (e a) else none) hl l fun a ha => ?_]
  · have e1 : ∀ l : List α, (l.filterMap fun a => if p a = true then some (e a) else none) = (l.filter p).map e := fun l => by
      induction l with
      | nil => rfl
      | cons x l ih =>
        rw [List.filterMap_cons, List.filter_cons, ih]
        cases p x <;> rfl
    rw [e1]
    have : ((l.filter p).map e).length ≤ sizeLine := by
      rw [List.length_map]
      exact Nat.le_trans (List.length_filter_le _ _) hs
    simp only [Option.bind_some, this, if_true]
  · obtain ⟨e1, q1, q2, q3⟩ := h a ha
    rw [q1]
    cases hp : p a <;> simp [q2, q3, truthD, hp]
theorem zipD_map {α β : Type} (f : α → D) (g : β → D) : ∀ (l : List α) (m : List β), zipD (l.map f) (m.map g) = (l.zip m).map fun x => .tup [f x.1, g x.2]
  | [], _ => rfl
  | _ :: _, [] => rfl
  | x :: l, y :: m => by
    rw [List.map_cons, List.map_cons, List.zip_cons_cons, List.map_cons, ← zipD_map f g l m]
    rfl
theorem cut_from {α : Type} (xs : List α) (k : Nat) : cutD xs (some (k : Int)) none = xs.drop k := by
  unfold cutD
  rw [show HT.sIx xs.length 0 (some (k : Int)) = min k xs.length from HT.sIx_nat xs.length 0 k, HT.sIx_none]
  by_cases h : k ≤ xs.length
  · rw [Nat.min_eq_left h, List.take_of_length_le (by rw [List.length_drop]; exact Nat.le_refl _)]
  · rw [Nat.min_eq_right (by omega), Nat.sub_self, List.take_zero, List.drop_eq_nil_of_le (by omega)]
theorem cut_to {α : Type} (xs : List α) (k : Nat) : cutD xs none (some (k : Int)) = xs.take k := by
  unfold cutD
  rw [HT.sIx_none, show HT.sIx xs.length xs.length (some (k : Int)) = min k xs.length from HT.sIx_nat xs.length _ k, List.drop_zero, Nat.sub_zero]
  by_cases h : k ≤ xs.length
  · rw [Nat.min_eq_left h]
  · rw [Nat.min_eq_right (by omega), List.take_of_length_le (Nat.le_refl _), List.take_of_length_le (by omega)]
@[simp] theorem bi_allA {α : Type} {μ : Mem} (p : α → Bool) (l : List α) : biD μ .all [.lst (l.map fun x => .bl (p x))] = some (.bl (l.all p)) := bi_all p l
@[simp] theorem len_lst {μ : Mem} {α : Type} (g : α → D) (l : List α) : lenD μ (.lst (l.map g)) = some l.length := by simp [lenD, seqV]
theorem add_lst {μ : Mem} (xs ys : List D) (h : xs.length + ys.length ≤ sizeLine) : opD μ .add (.lst xs) (.lst ys) = some (.lst (xs ++ ys)) := by
  have : opD μ .add (.lst xs) (.lst ys) = mkL (xs ++ ys) := rfl
  rw [this]
  unfold mkL
  rw [if_pos (by rw [List.length_append]; exact h)]
@[simp] theorem cmp_in {μ : Mem} (a b : D) : cmpD μ .inn a b = inD μ a b := rfl
@[simp] theorem cmp_nin {μ : Mem} (a b : D) : cmpD μ .nin a b = (inD μ a b).map (!·) := rfl
namespace B
def is_set (a c : Nat) : MF := { params := 1, slots := 3, fresh := false, body := [
  .ret (.and (.call a [.var 0]) (.bi .all [.comp (.call c [.var 1, .var 2]) (.tp [.nm 1, .nm 2]) (.zip (.var 0) (.slc (.var 0) (some (.int 1)) none)) [] [1, 2]]))] }
def sorted_there (c : Nat) : MF := { params := 1, slots := 5, fresh := true, body := [
  .own 1 (.lst []),
  .for (.nm 2) (.seq (.var 0)) [
    .iff (.cmp .nin (.var 2) (.ovar 1)) [
      .asg (.nm 3) (.bi .len [.comp (.var 4) (.nm 4) (.seq (.ovar 1)) [.call c [.var 4, .var 2]] [4]]),
      .own 1 (.op .add (.op .add (.slc (.ovar 1) none (some (.var 3))) (.lst [.var 2])) (.slc (.ovar 1) (some (.var 3)) none))] []],
  .reto 1] }
def sorted_points (a s : Nat) : MF := { params := 1, slots := 1, fresh := true, body := [
  .iff (.not (.call a [.var 0])) [
    .raise] [],
  .ret (.call s [.var 0])] }
def turn (mi ti : Nat) : MF := { params := 3, slots := 4, fresh := false, body := [
  .asg (.nm 3) (.call ti [.call mi [.idx (.var 1) (.int 0), .idx (.var 0) (.int 0)], .call mi [.idx (.var 2) (.int 1), .idx (.var 0) (.int 1)]]),
  .ret (.call mi [.var 3, .call ti [.call mi [.idx (.var 1) (.int 1), .idx (.var 0) (.int 1)], .call mi [.idx (.var 2) (.int 0), .idx (.var 0) (.int 0)]]])] }
def sign_of : MF := { params := 1, slots := 1, fresh := false, body := [
  .ret (.op .sub (.cmp .gt (.idx (.var 0) (.int 0)) (.int 0)) (.cmp .lt (.idx (.var 0) (.int 0)) (.int 0)))] }
def law_sign : MF := { params := 1, slots := 1, fresh := false, body := [
  .ret (.ite (.cmp .gt (.idx (.var 0) (.int 0)) (.int 0)) (.int 1) (.ite (.cmp .lt (.idx (.var 0) (.int 0)) (.int 0)) (.neg (.int 1)) (.int 0)))] }
def turn_of (ch tt : Nat) : MF := { params := 3, slots := 4, fresh := false, body := [
  .for (.nm 3) (.seq (.tup [.var 0, .var 1, .var 2])) [
    .expr (.call ch [.var 3])],
  .ret (.call tt [.var 0, .var 1, .var 2])] }
def order_of (s t : Nat) : MF := { params := 3, slots := 3, fresh := false, body := [
  .ret (.call s [.call t [.var 0, .var 1, .var 2]])] }
def law_mid (pl mi ti : Nat) : MF := { params := 3, slots := 4, fresh := false, body := [
  .ret (.bi .tuple [.comp (.call pl [.idx (.var 0) (.var 3), .call ti [.var 2, .call mi [.idx (.var 1) (.var 3), .idx (.var 0) (.var 3)]]]) (.nm 3) (.rng [.int 2]) [] [3]])] }
end B
section
variable {T : List MF} {wf n i a c s m : Nat} {μ : Mem}
/-- c tells which of two points comes ahead -/
def AheadOk (T : List MF) (wf n m c : Nat) : Prop := ∀ (μ : Mem) (p q : Pt), SmP m p → SmP m q → callN T wf n c [dP p, dP q] μ = some (.bl (aheadB p q), μ)
theorem is_set_ok (hT : T[i]? = some (B.is_set a c)) (hA : ∀ (μ : Mem) (d : D), bare d = true → (∀ xs, d = .lst xs → xs.length ≤ sizeLine) → callN T wf n a [d] μ = some (.bl (areB pointB d), μ)) (hC : AheadOk T wf n m c)
    {l : List Pt} (hl : ∀ p, p ∈ l → SmP m p) (hs : l.length ≤ sizeLine) : callN T wf (n + 1) i [.lst (l.map dP)] μ = some (.bl (chainB l), μ) := by
  refine run_ret hT rfl ?_
  have b : bare (.lst (l.map dP)) = true := by simpa only [bare] using bares_map bare_dP l
  have eA := hA μ (.lst (l.map dP)) b (fun xs e => by cases e; rw [List.length_map]; exact hs)
  have tA : areB pointB (.lst (l.map dP)) = true := by simp [areB, List.all_map, Function.comp_def, pointB_dP]
  have cu : cutD (l.map dP) (some 1) none = l.tail.map dP := by rw [show (1 : Int) = ((1 : Nat) : Int) from rfl, cut_from, ← List.map_drop, List.drop_one]
  have hc := comp_mapA (C := callN T wf n) (tg := .tp [.nm 1, .nm 2]) (elt := .call c [.var 1, .var 2]) (own := [1, 2]) (src := .zip (.var 0) (.slc (.var 0) (some (.int 1)) none)) (env := [.val (.lst (l.map dP)), .un, .un]) (μ := μ) (μ1 := μ) (l := l.zip l.tail) (lks := []) (e := fun x => .tup [dP x.1, dP x.2]) (g := fun x => .bl (aheadB x.1 x.2))
    (by simp [evI_zip36, seqV, slcD, cu, zipD_map, lockOf, -List.map_tail]) rfl
    (fun x hx => by
      obtain ⟨x1, x2⟩ := x
      have := hC μ x1 x2 (hl _ (List.of_mem_zip hx).1) (hl _ (List.mem_of_mem_tail (List.of_mem_zip hx).2))
      simp [bindG, bindGs, wipeE, this]) (by rw [List.length_zip]; omega)
  simp [B.is_set, eA, tA]
  rw [hc]
  have := chain_zip l
  rw [List.drop_one] at this
  simp [this]
theorem is_set_no (hT : T[i]? = some (B.is_set a c)) (hA : ∀ (μ : Mem) (d : D), bare d = true → (∀ xs, d = .lst xs → xs.length ≤ sizeLine) → callN T wf n a [d] μ = some (.bl (areB pointB d), μ)) {d : D} (hb : bare d = true) (hs : ∀ xs, d = .lst xs → xs.length ≤ sizeLine)
    (h : areB pointB d = false) : callN T wf (n + 1) i [d] μ = some (.bl false, μ) := by
  refine run_ret hT rfl ?_
  have eA := hA μ d hb hs
  simp [B.is_set, eA, h]
theorem filter_small {l : List Pt} {g : Pt → Bool} : ((l.filter g).length) ≤ l.length := List.length_filter_le _ _
theorem sorted_there_ok (hT : T[i]? = some (B.sorted_there c)) (hC : AheadOk T wf n m c) {l : List Pt} (hl : ∀ p, p ∈ l → SmP m p) (hs : l.length ≤ 1000) : callN T wf (n + 1) i [.lst (l.map dP)] μ = some (.lst ((sortP l).map dP), μ) := by
  refine run_ret hT rfl ?_
  obtain ⟨env', μ', hf, f, rest, v2, v3, v4, he, hr, hall, hfl, hmu⟩ := for_run (C := callN T wf n) (wf := wf) (tg := .nm 2) (body := [
    .iff (.cmp .nin (.var 2) (.ovar 1)) [
      .asg (.nm 3) (.bi .len [.comp (.var 4) (.nm 4) (.seq (.ovar 1)) [.call c [.var 4, .var 2]] [4]]),
      .own 1 (.op .add (.op .add (.slc (.ovar 1) none (some (.var 3))) (.lst [.var 2])) (.slc (.ovar 1) (some (.var 3)) none))] []]) (src := .seq (.var 0))
    (env := [.val (.lst (l.map dP)), .own [], .un, .un, .un]) (μ := μ) (μ1 := μ) (xs := l.map dP) (lks := [])
    (P := fun r e ν => ∃ (f rest : List Pt) (v2 v3 v4 : Sl), e = [.val (.lst (l.map dP)), .own (f.map dP), v2, v3, v4] ∧ r = rest.map dP ∧ rest.foldl insP f = sortP l ∧ ((∀ p, p ∈ f → SmP m p) ∧ (∀ p, p ∈ rest → SmP m p) ∧ f.length + rest.length ≤ 1000) ∧ ν = μ)
    (by simp [evI_seq34, itemsD, seqV, lockOf]) rfl (fun _ _ _ _ => rfl) (fun x r e ν q => by
      obtain ⟨f, rest, v2, v3, v4, he, hr, hall, ⟨s1, s2, s3⟩, hmu⟩ := q
      subst hmu he
      cases rest with
      | nil => simp at hr
      | cons p rest =>
        rw [List.map_cons] at hr
        obtain ⟨rfl, rfl⟩ := List.cons.inj hr
        rw [List.length_cons] at s3
        have sp : SmP m p := s2 p List.mem_cons_self
        have fin := inD_dP (μ := ν) p f
        refine ⟨_, [.val (.lst (l.map dP)), .own ((insP f p).map dP), .val (dP p), if p ∈ f then v3 else .val (.int (f.filter (aheadB · p)).length), v4], ν, rfl, ?_, insP f p, rest, _, _, _, rfl, rfl, hall, ⟨fun x hx => ?_, fun x hx => s2 x (List.mem_cons_of_mem _ hx), ?_⟩, rfl⟩
        · by_cases hp : p ∈ f
          · have fe : insP f p = f := by unfold insP; rw [if_pos hp]
            simp [fin, hp, fe]
          · have hc := comp_selA (C := callN T wf n) (tg := .nm 4) (elt := .var 4) (c := .call c [.var 4, .var 2]) (own := [4]) (src := .seq (.ovar 1)) (env := [.val (.lst (l.map dP)), .own (f.map dP), .val (dP p), v3, v4]) (μ := ν) (μ1 := ν) (l := f) (lks := [.own 1 (f.map dP)]) (e := dP) (p := (aheadB · p))
              (by simp [evI_seq34, itemsD, seqV, lockOf]) (by simp [Lk.ok, beqs_refl _ (flats_map flat_dP f)])
              (fun x hx => ⟨_, rfl, by simp [wipeE, hC ν x p (s1 x hx) sp], by simp [wipeE]⟩) (by unfold sizeLine; omega)
            have fl := filter_small (l := f) (g := (aheadB · p))
            have ad1 := add_lst (μ := ν) ((f.map dP).take (f.filter (aheadB · p)).length) [dP p] (by simp only [List.length_take, List.length_map, List.length_cons, List.length_nil]; unfold sizeLine; omega)
            have ad2 := add_lst (μ := ν) ((f.map dP).take (f.filter (aheadB · p)).length ++ [dP p]) ((f.map dP).drop (f.filter (aheadB · p)).length) (by simp only [List.length_append, List.length_take, List.length_drop, List.length_map, List.length_cons, List.length_nil]; unfold sizeLine; omega)
            have fe : (insP f p).map dP = (f.map dP).take (f.filter (aheadB · p)).length ++ [dP p] ++ (f.map dP).drop (f.filter (aheadB · p)).length := by unfold insP; rw [if_neg hp]; simp [List.map_take, List.map_drop]
            have sl : 1 ≤ sizeLine := by decide
            rw [fe]
            simp [fin, hp]
            rw [hc]
            simp [bindG, slcD, seqV, cut_to, cut_from, ad1, ad2, sl]
        · rcases insP_mem.mp hx with rfl | hx
          · exact sp
          · exact s1 x hx
        · have := insP_len (f := f) (p := p)
          omega) ⟨[], l, .un, .un, .un, rfl, rfl, rfl, ⟨(fun _ z => nomatch z), hl, by simpa using hs⟩, rfl⟩
  cases rest with
  | cons _ _ => simp at hr
  | nil =>
    rw [List.foldl_nil] at hall
    subst hmu hall
    have sl : (0 : Nat) ≤ sizeLine := Nat.zero_le _
    simp [B.sorted_there, hf, he]
end
end DI
set_option Elab.async false
set_option linter.all false
set_option maxRecDepth 100000
set_option maxHeartbeats 4000000
/-! DL8: turns, drawn points -/
namespace DI
open PySem PySem.Spec PyProof.Rows L2
namespace B
def law_number (d f : Nat) : MF := { params := 1, slots := 3, fresh := false, body := [
  .asg (.nm 1) (.call d [.var 0, .int 6]),
  .asg (.nm 2) (.ite (.cmp .eq (.var 1) (.int 0)) (.op .pow (.int 10) (.int 6)) (.ite (.cmp .lt (.var 1) (.int 4)) (.int 4) (.int 30))),
  .ret (.call f [.op .sub (.call d [.var 0, .op .add (.op .mul (.int 2) (.var 2)) (.int 1)]) (.var 2), .ite (.cmp .lt (.var 1) (.int 3)) (.int 1) (.op .add (.int 1) (.call d [.var 0, .int 6]))])] }
def law_point (k : Nat) : MF := { params := 1, slots := 1, fresh := false, body := [
  .ret (.tup [.call k [.var 0], .call k [.var 0]])] }
end B
def turnQ (a b c : Pt) : Rat := (b.1 - a.1) * (c.2 - a.2) - (b.2 - a.2) * (c.1 - a.1)
def sgQ (q : Rat) : Int := if 0 < q.num then 1 else if q.num < 0 then -1 else 0
section
variable {T : List MF} {wf n i m : Nat} {μ : Mem}
/-- two fractions to a third -/
def OpOk (T : List MF) (wf : Nat) (f : Rat → Rat → Rat) (i : Nat) : Prop := ∀ (n : Nat) (μ : Mem) (m k : Nat) (p q : Rat), Sm m p → Sm k q → m + k < 7990 → 2 ^ (m + k + 1) ≤ wf → callN T wf (n + 2) i [dQ p, dQ q] μ = some (dQ (f p q), μ)
theorem OpOk.plus {f : Nat} (hF : FracOk T wf f) (hT : T[i]? = some (B.plus f)) : OpOk T wf (· + ·) i := fun n μ m k p q hp hq h hw => plus_ok hF hT hp hq h hw
theorem OpOk.minus {f : Nat} (hF : FracOk T wf f) (hT : T[i]? = some (B.minus f)) : OpOk T wf (· - ·) i := fun n μ m k p q hp hq h hw => minus_ok hF hT hp hq h hw
theorem OpOk.times {f : Nat} (hF : FracOk T wf f) (hT : T[i]? = some (B.times f)) : OpOk T wf (· * ·) i := fun n μ m k p q hp hq h hw => times_ok hF hT hp hq h hw
theorem pow_le {a b w : Nat} (h : 2 ^ b ≤ w) (l : a ≤ b) : 2 ^ a ≤ w := Nat.le_trans (Nat.pow_le_pow_right (by decide) l) h
theorem turn_ok {mi ti : Nat} (hM : OpOk T wf (· - ·) mi) (hX : OpOk T wf (· * ·) ti) (hT : T[i]? = some (B.turn mi ti)) {a b c : Pt} (ha : SmP m a) (hb : SmP m b) (hc : SmP m c) (hm : m < 900) (hw : 2 ^ (8 * m + 10) ≤ wf) :
    callN T wf (n + 3) i [dP a, dP b, dP c] μ = some (dQ (turnQ a b c), μ) ∧ Sm (8 * m + 7) (turnQ a b c) := by
  have s1 := hb.1.sub ha.1
  have s2 := hc.2.sub ha.2
  have s3 := hb.2.sub ha.2
  have s4 := hc.1.sub ha.1
  have s5 := s1.mul s2 (by omega)
  have s6 := s3.mul s4 (by omega)
  have s7 := s5.sub s6
  refine ⟨?_, s7.mono (by omega)⟩
  have e1 := hM n μ m m b.1 a.1 hb.1 ha.1 (by omega) (pow_le hw (by omega))
  have e2 := hM n μ m m c.2 a.2 hc.2 ha.2 (by omega) (pow_le hw (by omega))
  have e3 := hM n μ m m b.2 a.2 hb.2 ha.2 (by omega) (pow_le hw (by omega))
  have e4 := hM n μ m m c.1 a.1 hc.1 ha.1 (by omega) (pow_le hw (by omega))
  have e5 := hX n μ _ _ _ _ s1 s2 (by omega) (pow_le hw (by omega))
  have e6 := hX n μ _ _ _ _ s3 s4 (by omega) (pow_le hw (by omega))
  have e7 := hM n μ _ _ _ _ s5 s6 (by omega) (pow_le hw (by omega))
  refine run_ret hT rfl ?_
  simp [B.turn, idx_dP, e1, e2, e3, e4, e5, e6, e7, bindG, turnQ]
theorem sign_of_ok (hT : T[i]? = some B.sign_of) (q : Rat) : callN T wf (n + 1) i [dQ q] μ = some (.int (sgQ q), μ) := by
  refine run_ret hT rfl ?_
  have ob : ∀ a b : Bool, opD μ .sub (.bl a) (.bl b) = some (.int (b2i a - b2i b)) := fun _ _ => rfl
  unfold sgQ
  by_cases h1 : 0 < q.num
  · have h2 : ¬ q.num < 0 := by omega
    simp [B.sign_of, idx_dQ, h1, h2, ob, b2i]
  · by_cases h2 : q.num < 0 <;> simp [B.sign_of, idx_dQ, h1, h2, ob, b2i]
theorem law_sign_ok (hT : T[i]? = some B.law_sign) (q : Rat) : callN T wf (n + 1) i [dQ q] μ = some (.int (sgQ q), μ) := by
  refine run_ret hT rfl ?_
  unfold sgQ
  by_cases h1 : 0 < q.num
  · simp [B.law_sign, idx_dQ, h1]
  · by_cases h2 : q.num < 0 <;> simp [B.law_sign, idx_dQ, h1, h2]
theorem check_ok {p : Nat} {pB : D → Bool} (hT : T[i]? = some (B.check p)) {d : D} (hp : callN T wf n p [d] μ = some (.bl (pB d), μ)) (h : pB d = true) : callN T wf (n + 1) i [d] μ = some (.non, μ) := by
  refine run_nx (env := [.val d]) hT rfl ?_
  simp [B.check, hp, h]
theorem turn_of_ok {ch tt : Nat} (hT : T[i]? = some (B.turn_of ch tt)) {a b c : Pt} {r : D} (hC : ∀ p : Pt, callN T wf n ch [dP p] μ = some (.non, μ)) (hR : callN T wf n tt [dP a, dP b, dP c] μ = some (r, μ)) : callN T wf (n + 1) i [dP a, dP b, dP c] μ = some (r, μ) := by
  refine run_ret hT rfl ?_
  obtain ⟨env', μ', hf, v, rest, he, hr, hmu⟩ := for_run (C := callN T wf n) (wf := wf) (tg := .nm 3) (body := [.expr (.call ch [.var 3])]) (src := .seq (.tup [.var 0, .var 1, .var 2])) (env := [.val (dP a), .val (dP b), .val (dP c), .un]) (μ := μ) (μ1 := μ) (xs := [a, b, c].map dP) (lks := [])
    (P := fun r e ν => ∃ (v : Sl) (rest : List Pt), e = [.val (dP a), .val (dP b), .val (dP c), v] ∧ r = rest.map dP ∧ ν = μ)
    (by simp [evI_seq34, itemsD, lockOf, sizeLine]) rfl (fun _ _ _ _ => rfl) (fun x r e ν q => by
      obtain ⟨v, rest, he, hr, hmu⟩ := q
      subst hmu he
      cases rest with
      | nil => simp at hr
      | cons p rest =>
        rw [List.map_cons] at hr
        obtain ⟨rfl, rfl⟩ := List.cons.inj hr
        exact ⟨_, [.val (dP a), .val (dP b), .val (dP c), .val (dP p)], _, rfl, by simp [hC p], .val (dP p), rest, rfl, rfl, rfl⟩) ⟨.un, [a, b, c], rfl, rfl, rfl⟩
  subst hmu
  simp [B.turn_of, hf, he, hR]
theorem order_of_ok {s t : Nat} (hT : T[i]? = some (B.order_of s t)) (hS : ∀ q : Rat, callN T wf n s [dQ q] μ = some (.int (sgQ q), μ)) {a b c : Pt} {q : Rat} (hR : callN T wf n t [dP a, dP b, dP c] μ = some (dQ q, μ)) : callN T wf (n + 1) i [dP a, dP b, dP c] μ = some (.int (sgQ q), μ) := by
  refine run_ret hT rfl ?_
  simp [B.order_of, hR, hS q]
theorem sorted_points_ok {a s : Nat} (hT : T[i]? = some (B.sorted_points a s)) {l : List Pt} {r : D} (hA : callN T wf n a [.lst (l.map dP)] μ = some (.bl true, μ)) (hS : callN T wf n s [.lst (l.map dP)] μ = some (r, μ)) : callN T wf (n + 1) i [.lst (l.map dP)] μ = some (r, μ) := by
  refine run_ret hT rfl ?_
  simp [B.sorted_points, hA, hS]
theorem ss_nx {C : Call} {s : MS} {ss : List MS} {env e : Ev} {μ1 : Mem} (h : evS C wf s env μ = some (.nx e, μ1)) : evSs C wf (s :: ss) env μ = evSs C wf ss e μ1 := by
  rw [evSs, h]
  rfl
theorem ss_rt {C : Call} {s : MS} {ss : List MS} {env : Ev} {d : D} {μ1 : Mem} (h : evS C wf s env μ = some (.rt d, μ1)) : evSs C wf (s :: ss) env μ = some (.rt d, μ1) := by
  rw [evSs, h]
  rfl
theorem ss_asg {C : Call} {j : Nat} {x : ME} {ss : List MS} {env : Ev} {d : D} {μ1 : Mem} (h : evE C x env μ = some (d, μ1)) : evSs C wf (.asg (.nm j) x :: ss) env μ = evSs C wf ss (env.set j (.val d)) μ1 := ss_nx (by simp [h, bindG])
theorem ss_ret {C : Call} {x : ME} {ss : List MS} {env : Ev} {d : D} {μ1 : Mem} (h : evE C x env μ = some (d, μ1)) : evSs C wf (.ret x :: ss) env μ = some (.rt d, μ1) := ss_rt (by simp [h])
theorem ss_iff {C : Call} {x : ME} {a b ss : List MS} {env : Ev} {k : Bool} {μ1 : Mem} (h : evE C x env μ = some (.bl k, μ1)) : evSs C wf (.iff x a b :: ss) env μ = (evSs C wf (if k then a else b) env μ1).bind fun p => match p.1 with
    | .nx e => evSs C wf ss e p.2
    | f => some (f, p.2) := by
  rw [evSs]
  cases k <;> simp [h] <;> rfl
theorem ss_skip {C : Call} {x : ME} {a ss : List MS} {env : Ev} {μ1 : Mem} (h : evE C x env μ = some (.bl false, μ1)) : evSs C wf (.iff x a [] :: ss) env μ = evSs C wf ss env μ1 := by
  rw [ss_iff h]
  simp
/-! ### drawn -/
/-- d draws from a purse -/
def DrawOk (T : List MF) (wf n d : Nat) : Prop := ∀ (μ : Mem) (c b k : Nat), Pur μ c b → b < 2 ^ 190 → 0 < k → k < 2 ^ 200 → ∃ (r : Nat) (μ' : Mem), r < k ∧ callN T wf n d [.ref c, .int k] μ = some (.int r, μ') ∧ Pur μ' c (b + 10) ∧ Ot c μ μ'
theorem DrawOk.mk {m d : Nat} (hM : T[m]? = some B.mixed) (hD : T[d]? = some (B.draw m)) : DrawOk T wf (n + 2) d := fun μ c b k h hb hk hk2 => draw_ok hM hD h hb hk hk2
theorem pow6 : opI .pow 10 6 = some 1000000 := by decide +kernel
theorem number_ok {d f : Nat} (hD : DrawOk T wf (n + 1) d) (hF : FracOk T wf f) (hT : T[i]? = some (B.law_number d f)) (hw : 2 ^ 30 ≤ wf) {c b : Nat} (h : Pur μ c b) (hb : b + 30 < 2 ^ 190) :
    ∃ (q : Rat) (μ' : Mem), callN T wf (n + 2) i [.ref c] μ = some (dQ q, μ') ∧ Sm 30 q ∧ Pur μ' c (b + 30) ∧ Ot c μ μ' := by
  obtain ⟨w, μ1, lw, e1, h1, o1⟩ := hD μ c b 6 h (by omega) (by decide) (by decide)
  obtain ⟨k, hk, lk⟩ : ∃ k : Nat, (if w = 0 then (1000000 : Int) else if w < 4 then 4 else 30) = k ∧ k ≤ 1000000 := by
    refine ⟨if w = 0 then 1000000 else if w < 4 then 4 else 30, ?_, ?_⟩
    · split
      · rfl
      · split <;> rfl
    · split
      · omega
      · split <;> omega
  obtain ⟨x, μ2, lx, e2, h2, o2⟩ := hD μ1 c (b + 10) (2 * k + 1) h1 (by omega) (by omega) (Nat.lt_of_le_of_lt (show 2 * k + 1 ≤ 2000001 by omega) (by decide))
  have e2' : callN T wf (n + 1) d [.ref c, .int (2 * (k : Int) + 1)] μ1 = some (.int x, μ2) := e2
  have ev : evE (callN T wf (n + 1)) (.ite (.cmp .eq (.var 1) (.int 0)) (.op .pow (.int 10) (.int 6)) (.ite (.cmp .lt (.var 1) (.int 4)) (.int 4) (.int 30))) [.val (.ref c), .val (.int w), .un] μ1 = some (.int k, μ1) := by
    rw [← hk]
    by_cases h0 : w = 0
    · simp [eqD_int, h0, pow6]
    · have h0' : ¬ ((w : Int) = 0) := by omega
      by_cases h4 : w < 4
      · have : (w : Int) < 4 := by omega
        simp [eqD_int, h0, h4, this]
      · have : ¬ (w : Int) < 4 := by omega
        simp [eqD_int, h0, h4, this]
  have em := opI_mul (i := 2) (j := (k : Int)) (n := 2) (m := 30) (by decide) (by omega) (by decide)
  have la : ((x : Int) - k).natAbs < 2 ^ 30 := by omega
  by_cases h3 : w < 3
  · have h3' : (w : Int) < 3 := by omega
    have e3 := hF n μ2 ((x : Int) - k) 1 30 (by decide) la (by decide) (by decide) hw
    refine ⟨_, μ2, run_ret hT rfl ?_, sm_divInt la (b := 1) (by decide) (by decide), h2.mono (by omega), o1.trans o2⟩
    refine (ss_asg (d := .int w) (μ1 := μ1) (by simpa using e1)).trans ((ss_asg ev).trans (ss_ret ?_))
    simp [em, e2', h3', e3]
  · have h3' : ¬ (w : Int) < 3 := by omega
    obtain ⟨y, μ3, ly, e4, h4, o3⟩ := hD μ2 c (b + 20) 6 h2 (by omega) (by decide) (by decide)
    have e4' : callN T wf (n + 1) d [.ref c, .int 6] μ2 = some (.int y, μ3) := e4
    have e1' : callN T wf (n + 1) d [.ref c, .int 6] μ = some (.int w, μ1) := e1
    have e3 := hF n μ3 ((x : Int) - k) (1 + y) 30 (by omega) la (by omega) (by decide) hw
    refine ⟨_, μ3, run_ret hT rfl ?_, sm_divInt la (b := 1 + y) (by omega) (by decide), h4.mono (by omega), (o1.trans o2).trans o3⟩
    refine (ss_asg (d := .int w) (μ1 := μ1) (by simpa using e1')).trans ((ss_asg ev).trans (ss_ret ?_))
    simp [em, e2', h3', e4', e3]
theorem point_ok {k : Nat} (hN : ∀ (μ : Mem) (c b : Nat), Pur μ c b → b + 30 < 2 ^ 190 → ∃ (q : Rat) (μ' : Mem), callN T wf n k [.ref c] μ = some (dQ q, μ') ∧ Sm 30 q ∧ Pur μ' c (b + 30) ∧ Ot c μ μ') (hT : T[i]? = some (B.law_point k)) {c b : Nat} (h : Pur μ c b) (hb : b + 60 < 2 ^ 190) :
    ∃ (p : Pt) (μ' : Mem), callN T wf (n + 1) i [.ref c] μ = some (dP p, μ') ∧ SmP 30 p ∧ Pur μ' c (b + 60) ∧ Ot c μ μ' := by
  obtain ⟨q1, μ1, e1, s1, h1, o1⟩ := hN μ c b h (by omega)
  obtain ⟨q2, μ2, e2, s2, h2, o2⟩ := hN μ1 c (b + 30) h1 (by omega)
  refine ⟨(q1, q2), μ2, run_ret hT rfl ?_, ⟨s1, s2⟩, h2, o1.trans o2⟩
  have sl : 2 ≤ sizeLine := by decide
  simp [B.law_point, e1, e2, sl, dP]
def midP (a b : Pt) (s : Rat) : Pt := (a.1 + s * (b.1 - a.1), a.2 + s * (b.2 - a.2))
theorem mid_ok {pl mi ti : Nat} (hP : OpOk T wf (· + ·) pl) (hM : OpOk T wf (· - ·) mi) (hX : OpOk T wf (· * ·) ti) (hT : T[i]? = some (B.law_mid pl mi ti)) {a b : Pt} {s : Rat} (ha : SmP m a) (hb : SmP m b) (hs : Sm m s) (hm : m < 900) (h1 : 1 ≤ m) (hw : 2 ^ (8 * m + 10) ≤ wf) :
    callN T wf (n + 3) i [dP a, dP b, dQ s] μ = some (dP (midP a b s), μ) ∧ SmP (4 * m + 2) (midP a b s) := by
  have s1 := hb.1.sub ha.1
  have s2 := hb.2.sub ha.2
  have s3 := hs.mul s1 h1
  have s4 := hs.mul s2 h1
  have s5 := ha.1.add s3
  have s6 := ha.2.add s4
  refine ⟨?_, s5.mono (by omega), s6.mono (by omega)⟩
  have e1 := fun μ => hM n μ m m b.1 a.1 hb.1 ha.1 (by omega) (pow_le hw (by omega))
  have e2 := fun μ => hM n μ m m b.2 a.2 hb.2 ha.2 (by omega) (pow_le hw (by omega))
  have e3 := fun μ => hX n μ _ _ _ _ hs s1 (by omega) (pow_le hw (by omega))
  have e4 := fun μ => hX n μ _ _ _ _ hs s2 (by omega) (pow_le hw (by omega))
  have e5 := fun μ => hP n μ _ _ _ _ ha.1 s3 (by omega) (pow_le hw (by omega))
  have e6 := fun μ => hP n μ _ _ _ _ ha.2 s4 (by omega) (pow_le hw (by omega))
  refine run_ret hT rfl ?_
  have hI : evI (callN T wf (n + 2)) (.rng [.int 2]) [.val (dP a), .val (dP b), .val (dQ s), .un] μ = some (([0, 1].map fun (i : Int) => D.int i, []), μ) := rng1 (j := 2) (by simp) (by decide)
  have hc := comp_mapA (C := callN T wf (n + 2)) (tg := .nm 3) (elt := .call pl [.idx (.var 0) (.var 3), .call ti [.var 2, .call mi [.idx (.var 1) (.var 3), .idx (.var 0) (.var 3)]]]) (own := [3]) (env := [.val (dP a), .val (dP b), .val (dQ s), .un]) (μ := μ) (l := [0, 1]) (lks := [])
    (g := fun i => if i = 0 then dQ (a.1 + s * (b.1 - a.1)) else dQ (a.2 + s * (b.2 - a.2))) hI rfl (fun x hx => by
      rcases List.mem_cons.mp hx with rfl | hx
      · simp [bindG, wipeE, idx_dP, e1, e3, e5]
      · rw [List.mem_singleton] at hx
        subst hx
        simp [bindG, wipeE, idx_dP, e2, e4, e6]) (by decide)
  refine ss_ret (env := [.val (dP a), .val (dP b), .val (dQ s), .un]) ?_
  simp only [evE_bi25, evEs_e29, evEs_nil28, hc]
  rfl
end
end DI
set_option Elab.async false
set_option linter.all false
set_option maxRecDepth 100000
set_option maxHeartbeats 400000
/-! DL9: how points are shown -/
namespace DI
open PySem PySem.Spec PyProof.Rows L2
theorem ok_app {x y : Str} (h1 : PyData.strOk x = true) (h2 : PyData.strOk y = true) : PyData.strOk (x ++ y) = true := by
  unfold PyData.strOk at *
  show ((x.cps ++ y.cps).all _) = true
  rw [Array.all_append, h1, h2]
  rfl
theorem ok_of (s : String) : PyData.strOk (Str.ofString s) = true := by
  unfold PyData.strOk
  rw [Str.ofString_eq_toList]
  simp only [List.all_toArray, List.all_eq_true, List.all_map, Function.comp_def, decide_eq_true_eq]
  intro c _
  have := c.valid
  simp only [Char.toNat]
  rcases this with h | ⟨_, h⟩
  · omega
  · exact h
theorem ok_from : ∀ (ts : List Str) (k : Nat) (acc : Str), PyData.strOk acc = true → (∀ t, t ∈ ts → PyData.strOk t = true) → PyData.strOk (textFrom k acc ts) = true
  | [], _, _, h, _ => h
  | t :: ts, k, acc, h, hs => ok_from ts (k + 1) _ (ok_app (ok_app h (ok_of _)) (hs t List.mem_cons_self)) fun u hu => hs u (List.mem_cons_of_mem _ hu)
theorem ok_list {ts : List Str} (h : ∀ t, t ∈ ts → PyData.strOk t = true) : PyData.strOk (listText ts) = true := ok_app (ok_from ts 0 _ (ok_of _) h) (ok_of _)
theorem ok_join (sep : Str) (hs : PyData.strOk sep = true) : ∀ ts : List Str, (∀ t, t ∈ ts → PyData.strOk t = true) → PyData.strOk (Str.join sep ts) = true
  | [], _ => ok_of ""
  | [x], h => h x List.mem_cons_self
  | x :: y :: r, h => ok_app (ok_app (h x List.mem_cons_self) hs) (ok_join sep hs (y :: r) fun t ht => h t (List.mem_cons_of_mem _ ht))
theorem ok_tuple {ts : List Str} (h : ∀ t, t ∈ ts → PyData.strOk t = true) : PyData.strOk (tupleText ts) = true := ok_app (ok_app (ok_of _) (ok_join _ (ok_of _) ts h)) (ok_of _)
theorem ok_pQ (q : Rat) : PyData.strOk (pQ q).shown = true := by
  simp only [pQ, PyData.shown, PyData.shownAll]
  refine ok_tuple fun t ht => ?_
  simp only [List.mem_cons, List.not_mem_nil, or_false] at ht
  rcases ht with rfl | rfl <;> exact ok_of _
theorem ok_pP (q : Pt) : PyData.strOk (pP q).shown = true := by
  simp only [pP, PyData.shown, PyData.shownAll]
  refine ok_tuple fun t ht => ?_
  simp only [List.mem_cons, List.not_mem_nil, or_false] at ht
  rcases ht with rfl | rfl <;> exact ok_pQ _
theorem shownAll_map {α : Type} (g : α → PyData) : ∀ l : List α, PyData.shownAll (l.map g) = l.map fun x => (g x).shown
  | [] => rfl
  | x :: l => by simp only [List.map_cons, PyData.shownAll, shownAll_map g l]
theorem ok_pPs (l : List Pt) : PyData.strOk (PyData.list (l.map pP)).shown = true := by
  simp only [PyData.shown]
  rw [shownAll_map]
  refine ok_list fun t ht => ?_
  obtain ⟨p, _, rfl⟩ := List.mem_map.mp ht
  exact ok_pP p
/-! ### how long -/
theorem len_int {i : Int} {m : Nat} (h : i.natAbs < 2 ^ m) : (Str.ofString (toString i)).length ≤ m + 2 := by
  have e : (Str.ofString (toString i)).length = (toString i).length := by
    rw [Str.ofString_eq_toList]
    show (List.map Char.toNat (toString i).toList).toArray.size = _
    rw [List.size_toArray, List.length_map]
    exact String.length_toList
  rw [e]
  exact int_text_length_le (Nat.succ_pos m) (log2_lt h)
theorem len_pQ {q : Rat} {m : Nat} (h : Sm m q) : (pQ q).shown.length ≤ 2 * m + 11 := by
  have h1 := len_int h.1
  have h2 := len_int (i := (q.den : Int)) (m := m) (by simpa using h.2)
  have := tupleText_len_le [Str.ofString (toString q.num), Str.ofString (toString (q.den : Int))]
  simp only [List.map_cons, List.map_nil, List.sum_cons, List.sum_nil, List.length_cons, List.length_nil] at this
  show (tupleText [Str.ofString (toString q.num), Str.ofString (toString (q.den : Int))]).length ≤ _
  omega
theorem len_pP {p : Pt} {m : Nat} (h : SmP m p) : (pP p).shown.length ≤ 4 * m + 29 := by
  have h1 := len_pQ h.1
  have h2 := len_pQ h.2
  have := tupleText_len_le [(pQ p.1).shown, (pQ p.2).shown]
  simp only [List.map_cons, List.map_nil, List.sum_cons, List.sum_nil, List.length_cons, List.length_nil] at this
  show (tupleText [(pQ p.1).shown, (pQ p.2).shown]).length ≤ _
  omega
theorem sum_le {α : Type} {g : α → Nat} {b : Nat} : ∀ l : List α, (∀ x, x ∈ l → g x ≤ b) → (l.map g).sum ≤ b * l.length
  | [], _ => by simp
  | x :: l, h => by
    have := sum_le (g := g) l fun y hy => h y (List.mem_cons_of_mem _ hy)
    have := h x List.mem_cons_self
    rw [List.map_cons, List.sum_cons, List.length_cons, Nat.mul_add, Nat.mul_one]
    omega
theorem len_aux {a s n k m : Nat} (h1 : a ≤ s + 2 * n + 3) (h2 : s ≤ (4 * m + 29) * k) (h3 : n = k) : a ≤ (4 * m + 31) * k + 3 := by
  subst h3
  have e : (4 * m + 31) * n = (4 * m + 29) * n + 2 * n := by
    rw [← Nat.add_mul]
  omega
theorem len_pPs {l : List Pt} {m : Nat} (h : ∀ p, p ∈ l → SmP m p) : (PyData.list (l.map pP)).shown.length ≤ (4 * m + 31) * l.length + 3 := by
  have h2 := sum_le (g := fun x => (pP x).shown.length) (b := 4 * m + 29) l fun x hx => len_pP (h x hx)
  have key : PyData.shown (.list (l.map pP)) = listText (l.map fun x => (pP x).shown) := by rw [PyData.shown, shownAll_map]
  rw [key]
  exact len_aux (listText_len_le (l.map fun x => (pP x).shown)) (by rw [List.map_map]; simpa only [Function.comp_def] using h2) (by rw [List.length_map])
theorem show_pP {p : Pt} {m : Nat} (h : SmP m p) (hm : m < 1900) : (pP p).showable = true := by
  have k : ∀ {q : Rat}, Sm m q → (pQ q).showable = true := fun {q} hq => by
    have h1 := log2_lt hq.1
    have h2 := log2_lt hq.2
    simp only [pQ, PyData.showable, PyData.showableAll, Bool.and_eq_true, decide_eq_true_eq, Int.natAbs_natCast, and_true]
    omega
  simp only [pP, PyData.showable, PyData.showableAll, k h.1, k h.2, Bool.and_self]
theorem show_pPs {l : List Pt} {m : Nat} (h : ∀ p, p ∈ l → SmP m p) (hm : m < 1900) : (PyData.list (l.map pP)).showable = true := by
  simp only [PyData.showable]
  induction l with
  | nil => rfl
  | cons p l ih => simp only [List.map_cons, PyData.showableAll, show_pP (h p List.mem_cons_self) hm, ih fun x hx => h x (List.mem_cons_of_mem _ hx), Bool.and_self]
theorem repr_pts {μ : Mem} {l : List Pt} {m : Nat} (h : ∀ p, p ∈ l → SmP m p) (hm : m < 1900) (hl : (4 * m + 31) * l.length + 3 ≤ sizeLine) : biD μ .repr [.lst (l.map dP)] = some (.str (PyData.list (l.map pP)).shown) := by
  have e : toPy μ (.lst (l.map dP)) = some (.list (l.map pP)) := by simp [toPy, pyW, pyWs_map pyW_dP]
  have : biD μ .repr [.lst (l.map dP)] = ((toPy μ (.lst (l.map dP))).bind fun x => if SeqAt.shaped x && (x.showable && decide (x.shown.length ≤ sizeLine)) then some (.str x.shown) else none) := rfl
  rw [this, e]
  have hlen : (PyData.list (l.map pP)).shown.length ≤ sizeLine := Nat.le_trans (len_pPs h) hl
  simp only [Option.bind_some, shaped_pPs, show_pPs h hm, decide_eq_true hlen, Bool.and_self, if_true]
end DI
set_option Elab.async false
set_option linter.all false
set_option maxRecDepth 100000
set_option maxHeartbeats 4000000
namespace K02
open PySem PySem.Spec PyProof.Rows L2 DI
/-- value -/
def b_is_whole : MF := { params := 1, slots := 1, fresh := false, body := [
  .ret (.and (.isi (.var 0) [.int]) (.not (.isi (.var 0) [.bool])))] }
/-- value, size -/
def b_is_tuple_of : MF := { params := 2, slots := 2, fresh := false, body := [
  .ret (.and (.isi (.var 0) [.tuple]) (.cmp .eq (.bi .len [.var 0]) (.var 1)))] }
/-- value -/
def b_is_fraction : MF := { params := 1, slots := 1, fresh := false, body := [
  .iff (.or (.not (.call 1 [.var 0, .int 2])) (.or (.not (.call 0 [.idx (.var 0) (.int 0)])) (.or (.not (.call 0 [.idx (.var 0) (.int 1)])) (.cmp .lt (.idx (.var 0) (.int 1)) (.int 1))))) [
    .ret (.bl false)] [],
  .ret (.cmp .eq (.bi .gcd [.idx (.var 0) (.int 0), .idx (.var 0) (.int 1)]) (.int 1))] }
/-- above, below, many -/
def b_fraction : MF := { params := 2, slots := 3, fresh := false, body := [
  .asg (.nm 2) (.ite (.cmp .gt (.var 1) (.int 0)) (.bi .gcd [.var 0, .var 1]) (.op .sub (.int 0) (.bi .gcd [.var 0, .var 1]))),
  .ret (.tup [.op .fdiv (.var 0) (.var 2), .op .fdiv (.var 1) (.var 2)])] }
/-- one, other -/
def b_minus : MF := { params := 2, slots := 2, fresh := false, body := [
  .ret (.call 3 [.op .sub (.op .mul (.idx (.var 0) (.int 0)) (.idx (.var 1) (.int 1))) (.op .mul (.idx (.var 1) (.int 0)) (.idx (.var 0) (.int 1))), .op .mul (.idx (.var 0) (.int 1)) (.idx (.var 1) (.int 1))])] }
/-- one, other -/
def b_times : MF := { params := 2, slots := 2, fresh := false, body := [
  .ret (.call 3 [.op .mul (.idx (.var 0) (.int 0)) (.idx (.var 1) (.int 0)), .op .mul (.idx (.var 0) (.int 1)) (.idx (.var 1) (.int 1))])] }
/-- one, other -/
def b_is_less : MF := { params := 2, slots := 2, fresh := false, body := [
  .ret (.cmp .lt (.op .mul (.idx (.var 0) (.int 0)) (.idx (.var 1) (.int 1))) (.op .mul (.idx (.var 1) (.int 0)) (.idx (.var 0) (.int 1))))] }
/-- value -/
def b_is_point : MF := { params := 1, slots := 1, fresh := false, body := [
  .ret (.and (.call 1 [.var 0, .int 2]) (.and (.call 2 [.idx (.var 0) (.int 0)]) (.call 2 [.idx (.var 0) (.int 1)])))] }
/-- value -/
def b_check_point : MF := { params := 1, slots := 1, fresh := false, body := [
  .iff (.not (.call 7 [.var 0])) [
    .raise] []] }
/-- one, other -/
def b_comes_ahead : MF := { params := 2, slots := 2, fresh := false, body := [
  .iff (.cmp .ne (.idx (.var 0) (.int 0)) (.idx (.var 1) (.int 0))) [
    .ret (.call 6 [.idx (.var 0) (.int 0), .idx (.var 1) (.int 0)])] [],
  .ret (.call 6 [.idx (.var 0) (.int 1), .idx (.var 1) (.int 1)])] }
/-- value, point -/
def b_are_points : MF := { params := 1, slots := 2, fresh := false, body := [
  .ret (.and (.isi (.var 0) [.list]) (.bi .all [.comp (.call 7 [.var 1]) (.nm 1) (.seq (.var 0)) [] [1]]))] }
/-- value, one, late -/
def b_is_set : MF := { params := 1, slots := 3, fresh := false, body := [
  .ret (.and (.call 10 [.var 0]) (.bi .all [.comp (.call 9 [.var 1, .var 2]) (.tp [.nm 1, .nm 2]) (.zip (.var 0) (.slc (.var 0) (some (.int 1)) none)) [] [1, 2]]))] }
/-- points, found, point, at, late -/
def b_sorted_there : MF := { params := 1, slots := 5, fresh := true, body := [
  .own 1 (.lst []),
  .for (.nm 2) (.seq (.var 0)) [
    .iff (.cmp .nin (.var 2) (.ovar 1)) [
      .asg (.nm 3) (.bi .len [.comp (.var 4) (.nm 4) (.seq (.ovar 1)) [.call 9 [.var 4, .var 2]] [4]]),
      .own 1 (.op .add (.op .add (.slc (.ovar 1) none (some (.var 3))) (.lst [.var 2])) (.slc (.ovar 1) (some (.var 3)) none))] []],
  .reto 1] }
/-- points -/
def b_sorted_points : MF := { params := 1, slots := 1, fresh := true, body := [
  .iff (.not (.call 10 [.var 0])) [
    .raise] [],
  .ret (.call 12 [.var 0])] }
/-- one, other, third, left -/
def b_turn_there : MF := { params := 3, slots := 4, fresh := false, body := [
  .asg (.nm 3) (.call 5 [.call 4 [.idx (.var 1) (.int 0), .idx (.var 0) (.int 0)], .call 4 [.idx (.var 2) (.int 1), .idx (.var 0) (.int 1)]]),
  .ret (.call 4 [.var 3, .call 5 [.call 4 [.idx (.var 1) (.int 1), .idx (.var 0) (.int 1)], .call 4 [.idx (.var 2) (.int 0), .idx (.var 0) (.int 0)]]])] }
/-- number -/
def b_sign_of : MF := { params := 1, slots := 1, fresh := false, body := [
  .ret (.op .sub (.cmp .gt (.idx (.var 0) (.int 0)) (.int 0)) (.cmp .lt (.idx (.var 0) (.int 0)) (.int 0)))] }
/-- one, other, third, point -/
def b_turn_of : MF := { params := 3, slots := 4, fresh := false, body := [
  .for (.nm 3) (.seq (.tup [.var 0, .var 1, .var 2])) [
    .expr (.call 8 [.var 3])],
  .ret (.call 14 [.var 0, .var 1, .var 2])] }
/-- one, other, third -/
def b_order_of : MF := { params := 3, slots := 3, fresh := false, body := [
  .ret (.call 15 [.call 16 [.var 0, .var 1, .var 2]])] }
/-- script, at, seed -/
def b__law_purse : MF := { params := 2, slots := 3, fresh := true, body := [
  .asg (.nm 2) (.bi .sum [.slc (.var 0) (some (.var 1)) (some (.op .add (.var 1) (.int 1)))]),
  .ret (.lst [.op .mod (.bi .int [.bi .max [.op .sub (.var 2) (.op .pow (.int 10) (.int 18)), .int 0]]) (.op .pow (.op .pow (.int 10) (.int 60)) (.int 8)), .op .mod (.bi .int [.var 2]) (.int 2147483629), .int 0, .var 1])] }
/-- seed, spin, at, mixed -/
def b__law_mixed : MF := { params := 3, slots := 4, fresh := false, body := [
  .asg (.nm 3) (.op .add (.op .mul (.var 0) (.int 69069)) (.op .mul (.op .mul (.int 104729) (.var 1)) (.var 1))),
  .asg (.nm 3) (.op .mod (.bi .int [.op .add (.op .add (.var 3) (.op .mul (.int 7919) (.var 2))) (.var 1)]) (.int 2147483647)),
  .asg (.nm 3) (.op .mod (.bi .int [.op .add (.op .mul (.var 3) (.var 3)) (.int 40503)]) (.int 2147483629)),
  .ret (.op .mod (.bi .int [.op .mul (.var 3) (.int 48271)]) (.int 2147483587))] }
/-- purse, many, drawn, found, piece -/
def b__law_draw : MF := { params := 2, slots := 5, fresh := false, body := [
  .iff (.cmp .gt (.idx (.var 0) (.int 0)) (.int 0)) [
    .asg (.nm 2) (.op .mod (.bi .int [.idx (.var 0) (.int 0)]) (.var 1)),
    .sset (.var 0) (.int 0) (.op .fdiv (.idx (.var 0) (.int 0)) (.var 1)),
    .ret (.var 2)] [],
  .asg (.nm 3) (.int 0),
  .for (.nm 4) (.rng [.op .add (.int 1) (.op .fdiv (.bits (.var 1)) (.int 28))]) [
    .sset (.var 0) (.int 2) (.op .add (.idx (.var 0) (.int 2)) (.int 1)),
    .asg (.nm 3) (.op .add (.op .mul (.var 3) (.int 2147483587)) (.call 19 [.idx (.var 0) (.int 1), .idx (.var 0) (.int 2), .idx (.var 0) (.int 3)]))],
  .ret (.op .mod (.bi .int [.var 3]) (.var 1))] }
/-- purse, some, found, item -/
def b__law_shuffled : MF := { params := 2, slots := 4, fresh := false, body := [
  .own 2 (.lst []),
  .for (.nm 3) (.seq (.var 1)) [
    .ometh .insert 2 [.call 20 [.var 0, .op .add (.bi .len [.ovar 2]) (.int 1)], .var 3]],
  .reto 2] }
/-- told, due, is_like, key, one, other -/
def b__law_same : MF := { params := 2, slots := 6, fresh := false, body := [
  .iff (.isi (.var 1) [.dict]) [
    .asg (.nm 2) (.and (.isi (.var 0) [.dict]) (.and (.cmp .eq (.bi .len [.var 0]) (.bi .len [.var 1])) (.bi .all [.comp (.cmp .inn (.var 3) (.var 0)) (.nm 3) (.seq (.var 1)) [] [3]]))),
    .ret (.and (.var 2) (.bi .all [.comp (.call 22 [.idx (.var 0) (.var 3), .idx (.var 1) (.var 3)]) (.nm 3) (.seq (.var 1)) [] [3]]))] [],
  .iff (.isi (.var 1) [.list, .tuple]) [
    .asg (.nm 2) (.and (.cmp .eq (.isi (.var 0) [.list]) (.isi (.var 1) [.list])) (.cmp .eq (.isi (.var 0) [.tuple]) (.isi (.var 1) [.tuple]))),
    .ret (.and (.var 2) (.and (.cmp .eq (.bi .len [.var 0]) (.bi .len [.var 1])) (.bi .all [.comp (.call 22 [.var 4, .var 5]) (.tp [.nm 4, .nm 5]) (.zip (.var 0) (.var 1)) [] [4, 5]])))] [],
  .asg (.nm 2) (.and (.not (.isi (.var 0) [.list, .tuple, .dict])) (.and (.cmp .eq (.isi (.var 0) [.int]) (.isi (.var 1) [.int])) (.cmp .eq (.isi (.var 0) [.str]) (.isi (.var 1) [.str])))),
  .ret (.and (.var 2) (.and (.cmp .eq (.isn false (.var 0)) (.isn false (.var 1))) (.and (.cmp .eq (.isi (.var 0) [.bool]) (.isi (.var 1) [.bool])) (.cmp .eq (.var 0) (.var 1)))))] }
/-- script, few, at -/
def b__law_purses : MF := { params := 2, slots := 3, fresh := false, body := [
  .ret (.comp (.cell (.call 18 [.var 0, .var 2])) (.nm 2) (.rng [.bi .max [.int 1, .bi .min [.var 1, .bi .len [.var 0]]]]) [] [2])] }
/-- above, below, one, other, many -/
def b__law_frac : MF := { params := 2, slots := 5, fresh := false, body := [
  .par [2, 3] [.bi .abs [.var 0], .bi .abs [.var 1]],
  .whl (.cmp .ne (.var 3) (.int 0)) [
    .par [2, 3] [.var 3, .op .mod (.var 2) (.var 3)]],
  .asg (.nm 4) (.ite (.cmp .gt (.var 1) (.int 0)) (.var 2) (.neg (.var 2))),
  .ret (.tup [.op .fdiv (.var 0) (.var 4), .op .fdiv (.var 1) (.var 4)])] }
/-- one, other -/
def b__law_plus : MF := { params := 2, slots := 2, fresh := false, body := [
  .ret (.call 24 [.op .add (.op .mul (.idx (.var 0) (.int 0)) (.idx (.var 1) (.int 1))) (.op .mul (.idx (.var 1) (.int 0)) (.idx (.var 0) (.int 1))), .op .mul (.idx (.var 0) (.int 1)) (.idx (.var 1) (.int 1))])] }
/-- one, other -/
def b__law_minus : MF := { params := 2, slots := 2, fresh := false, body := [
  .ret (.call 24 [.op .sub (.op .mul (.idx (.var 0) (.int 0)) (.idx (.var 1) (.int 1))) (.op .mul (.idx (.var 1) (.int 0)) (.idx (.var 0) (.int 1))), .op .mul (.idx (.var 0) (.int 1)) (.idx (.var 1) (.int 1))])] }
/-- one, other -/
def b__law_times : MF := { params := 2, slots := 2, fresh := false, body := [
  .ret (.call 24 [.op .mul (.idx (.var 0) (.int 0)) (.idx (.var 1) (.int 0)), .op .mul (.idx (.var 0) (.int 1)) (.idx (.var 1) (.int 1))])] }
/-- one, other -/
def b__law_less : MF := { params := 2, slots := 2, fresh := false, body := [
  .ret (.cmp .lt (.op .mul (.idx (.var 0) (.int 0)) (.idx (.var 1) (.int 1))) (.op .mul (.idx (.var 1) (.int 0)) (.idx (.var 0) (.int 1))))] }
/-- purse, way, many -/
def b__law_number : MF := { params := 1, slots := 3, fresh := false, body := [
  .asg (.nm 1) (.call 20 [.var 0, .int 6]),
  .asg (.nm 2) (.ite (.cmp .eq (.var 1) (.int 0)) (.op .pow (.int 10) (.int 6)) (.ite (.cmp .lt (.var 1) (.int 4)) (.int 4) (.int 30))),
  .ret (.call 24 [.op .sub (.call 20 [.var 0, .op .add (.op .mul (.int 2) (.var 2)) (.int 1)]) (.var 2), .ite (.cmp .lt (.var 1) (.int 3)) (.int 1) (.op .add (.int 1) (.call 20 [.var 0, .int 6]))])] }
/-- purse -/
def b__law_point : MF := { params := 1, slots := 1, fresh := false, body := [
  .ret (.tup [.call 29 [.var 0], .call 29 [.var 0]])] }
/-- one, other -/
def b__law_ahead : MF := { params := 2, slots := 2, fresh := false, body := [
  .ret (.or (.call 28 [.idx (.var 0) (.int 0), .idx (.var 1) (.int 0)]) (.and (.cmp .eq (.idx (.var 0) (.int 0)) (.idx (.var 1) (.int 0))) (.call 28 [.idx (.var 0) (.int 1), .idx (.var 1) (.int 1)])))] }
/-- one, other, third, left -/
def b__law_turn : MF := { params := 3, slots := 4, fresh := false, body := [
  .asg (.nm 3) (.call 27 [.call 26 [.idx (.var 1) (.int 0), .idx (.var 0) (.int 0)], .call 26 [.idx (.var 2) (.int 1), .idx (.var 0) (.int 1)]]),
  .ret (.call 26 [.var 3, .call 27 [.call 26 [.idx (.var 1) (.int 1), .idx (.var 0) (.int 1)], .call 26 [.idx (.var 2) (.int 0), .idx (.var 0) (.int 0)]]])] }
/-- number -/
def b__law_sign : MF := { params := 1, slots := 1, fresh := false, body := [
  .ret (.ite (.cmp .gt (.idx (.var 0) (.int 0)) (.int 0)) (.int 1) (.ite (.cmp .lt (.idx (.var 0) (.int 0)) (.int 0)) (.neg (.int 1)) (.int 0)))] }
/-- one, other, share, at -/
def b__law_mid : MF := { params := 3, slots := 4, fresh := false, body := [
  .ret (.bi .tuple [.comp (.call 25 [.idx (.var 0) (.var 3), .call 27 [.var 2, .call 26 [.idx (.var 1) (.var 3), .idx (.var 0) (.var 3)]]]) (.nm 3) (.rng [.int 2]) [] [3]])] }
/-- script, purse, one, other, third, due, told, points, spin, found, point, at, late, kept, near, odds, bent -/
def b_law : MF := { params := 1, slots := 17, fresh := false, body := [
  .for (.nm 1) (.seq (.call 23 [.var 0, .int 2])) [
    .par [2, 3, 4] [.call 30 [.var 1], .call 30 [.var 1], .call 30 [.var 1]],
    .iff (.cmp .eq (.call 20 [.var 1, .int 3]) (.int 0)) [
      .asg (.nm 4) (.call 34 [.var 2, .var 3, .call 24 [.op .sub (.call 20 [.var 1, .int 13]) (.int 6), .op .add (.int 1) (.call 20 [.var 1, .int 3])]])] [],
    .asg (.nm 5) (.call 32 [.var 2, .var 3, .var 4]),
    .asg (.nm 6) (.lst [.call 16 [.var 2, .var 3, .var 4], .callk 16 [] [.var 4, .var 3, .var 2] [2, 1, 0], .call 17 [.var 2, .var 3, .var 4], .call 17 [.var 3, .var 4, .var 2], .callk 17 [] [.var 3, .var 4, .var 2] [2, 1, 0]]),
    .iff (.not (.call 22 [.var 6, .lst [.var 5, .var 5, .call 33 [.var 5], .call 33 [.var 5], .neg (.call 33 [.var 5])]])) [
      .ret (.bl false)] [],
    .asg (.nm 7) (.comp (.call 30 [.var 1]) (.nm 8) (.rng [.call 20 [.var 1, .int 9]]) [] [8]),
    .asg (.nm 7) (.call 21 [.var 1, .op .add (.op .add (.var 7) (.slc (.var 7) none (some (.call 20 [.var 1, .int 3])))) (.lst [.var 2, .var 3, .var 4, .var 2])]),
    .asg (.nm 9) (.lst []),
    .for (.nm 10) (.seq (.var 7)) [
      .iff (.cmp .nin (.var 10) (.var 9)) [
        .asg (.nm 11) (.bi .len [.comp (.var 12) (.nm 12) (.seq (.var 9)) [.call 31 [.var 12, .var 10]] [12]]),
        .asg (.nm 9) (.op .add (.op .add (.slc (.var 9) none (some (.var 11))) (.lst [.var 10])) (.slc (.var 9) (some (.var 11)) none))] []],
    .asg (.nm 13) (.bi .repr [.var 7]),
    .asg (.nm 6) (.cell (.call 13 [.var 7])),
    .iff (.or (.not (.call 22 [.lst [.var 6, .callk 13 [] [.var 7] [0], .call 13 [.lst []]], .lst [.var 9, .var 9, .lst []]])) (.or (.isb true true (.call 11 [.var 9])) (.isb true true (.call 11 [.lst []])))) [
      .ret (.bl false)] [],
    .meth .append (.var 6) [.str (Str.ofString "more")],
    .iff (.or (.cmp .ne (.bi .repr [.var 7]) (.var 13)) (.or (.not (.call 22 [.call 13 [.var 9], .var 9])) (.isb true true (.callk 11 [] [.var 9] [0])))) [
      .ret (.bl false)] [],
    .meth .append (.cell (.call 13 [.var 9])) [.str (Str.ofString "more")],
    .asg (.nm 14) (.lst [.tup [.tup [.op .sub (.op .pow (.int 10) (.int 12)) (.int 2), .op .sub (.op .pow (.int 10) (.int 12)) (.int 1)], .tup [.int 0, .int 1]], .tup [.tup [.op .sub (.op .pow (.int 10) (.int 12)) (.int 3), .op .sub (.op .pow (.int 10) (.int 12)) (.int 2)], .tup [.int 0, .int 1]]]),
    .iff (.or (.not (.call 22 [.lst [.call 13 [.var 14], .call 11 [.var 14], .call 11 [.rev (.var 14)]], .lst [.rev (.var 14), .bl false, .bl true]])) (.cmp .inn (.str (Str.ofString "more")) (.var 9))) [
      .ret (.bl false)] [],
    .asg (.nm 15) (.lst [.non, .tup [], .lst [.idx (.var 9) (.int 0), .non], .ite (.cmp .gt (.bi .len [.var 9]) (.int 1)) (.rev (.var 9)) (.str (Str.ofString "set")), .op .add (.var 9) (.slc (.var 9) (some (.neg (.int 1))) none), .op .add (.slc (.var 9) none (some (.int 1))) (.var 9), .bi .tuple [.var 9], .lst [.bi .list [.idx (.var 9) (.int 0)]], .dic0]),
    .iff (.cmp .ne (.comp (.var 12) (.nm 12) (.seq (.var 15)) [.isb true false (.call 11 [.var 12])] [12]) (.lst [])) [
      .ret (.bl false)] [],
    .asg (.nm 16) (.lst [.non, .lst [], .tup [], .tup [.idx (.var 2) (.int 0)], .op .add (.var 2) (.tup [.idx (.var 2) (.int 0)]), .bi .list [.var 2], .tup [.int 1, .int 2], .tup [.idx (.var 2) (.int 0), .non], .tup [.non, .idx (.var 2) (.int 1)], .tup [.tup [.int 2, .int 4], .idx (.var 2) (.int 1)]]),
    .asg (.nm 16) (.op .add (.var 16) (.lst [.tup [.idx (.var 2) (.int 0), .tup [.int 1, .int 0]], .tup [.idx (.var 2) (.int 0), .tup [.int 1, .neg (.int 2)]], .tup [.idx (.var 2) (.int 0), .lst [.int 1, .int 2]], .tup [.tup [.bl true, .int 1], .idx (.var 2) (.int 1)], .str (Str.ofString "point"), .dic0])),
    .iff (.or (.isb true true (.call 7 [.var 2])) (.or (.isb true true (.callk 7 [] [.var 4] [0])) (.cmp .ne (.comp (.var 12) (.nm 12) (.seq (.var 16)) [.or (.isb true false (.call 7 [.var 12])) (.isb true false (.call 11 [.lst [.var 12]]))] [12]) (.lst [])))) [
      .ret (.bl false)] []],
  .ret (.bl true)] }
def tbT : List MF := [b_is_whole, b_is_tuple_of, b_is_fraction, b_fraction, b_minus, b_times, b_is_less, b_is_point, b_check_point, b_comes_ahead, b_are_points, b_is_set, b_sorted_there, b_sorted_points, b_turn_there, b_sign_of, b_turn_of, b_order_of, b__law_purse, b__law_mixed, b__law_draw, b__law_shuffled, b__law_same, b__law_purses, b__law_frac, b__law_plus, b__law_minus, b__law_times, b__law_less, b__law_number, b__law_point, b__law_ahead, b__law_turn, b__law_sign, b__law_mid, b_law]
def tb : Tab := { T := tbT, nm := [(Str.ofString "is_whole", [Str.ofString "value"]), (Str.ofString "is_tuple_of", [Str.ofString "value", Str.ofString "size"]), (Str.ofString "is_fraction", [Str.ofString "value"]), (Str.ofString "fraction", [Str.ofString "above", Str.ofString "below"]), (Str.ofString "minus", [Str.ofString "one", Str.ofString "other"]), (Str.ofString "times", [Str.ofString "one", Str.ofString "other"]), (Str.ofString "is_less", [Str.ofString "one", Str.ofString "other"]), (Str.ofString "is_point", [Str.ofString "value"]), (Str.ofString "check_point", [Str.ofString "value"]), (Str.ofString "comes_ahead", [Str.ofString "one", Str.ofString "other"]), (Str.ofString "are_points", [Str.ofString "value"]), (Str.ofString "is_set", [Str.ofString "value"]), (Str.ofString "sorted_there", [Str.ofString "points"]), (Str.ofString "sorted_points", [Str.ofString "points"]), (Str.ofString "turn_there", [Str.ofString "one", Str.ofString "other", Str.ofString "third"]), (Str.ofString "sign_of", [Str.ofString "number"]), (Str.ofString "turn_of", [Str.ofString "one", Str.ofString "other", Str.ofString "third"]), (Str.ofString "order_of", [Str.ofString "one", Str.ofString "other", Str.ofString "third"]), (Str.ofString "_law_purse", [Str.ofString "script", Str.ofString "at"]), (Str.ofString "_law_mixed", [Str.ofString "seed", Str.ofString "spin", Str.ofString "at"]), (Str.ofString "_law_draw", [Str.ofString "purse", Str.ofString "many"]), (Str.ofString "_law_shuffled", [Str.ofString "purse", Str.ofString "some"]), (Str.ofString "_law_same", [Str.ofString "told", Str.ofString "due"]), (Str.ofString "_law_purses", [Str.ofString "script", Str.ofString "few"]), (Str.ofString "_law_frac", [Str.ofString "above", Str.ofString "below"]), (Str.ofString "_law_plus", [Str.ofString "one", Str.ofString "other"]), (Str.ofString "_law_minus", [Str.ofString "one", Str.ofString "other"]), (Str.ofString "_law_times", [Str.ofString "one", Str.ofString "other"]), (Str.ofString "_law_less", [Str.ofString "one", Str.ofString "other"]), (Str.ofString "_law_number", [Str.ofString "purse"]), (Str.ofString "_law_point", [Str.ofString "purse"]), (Str.ofString "_law_ahead", [Str.ofString "one", Str.ofString "other"]), (Str.ofString "_law_turn", [Str.ofString "one", Str.ofString "other", Str.ofString "third"]), (Str.ofString "_law_sign", [Str.ofString "number"]), (Str.ofString "_law_mid", [Str.ofString "one", Str.ofString "other", Str.ofString "share"]), (Str.ofString "law", [Str.ofString "script"])], blt := [Str.ofString "abs", Str.ofString "all", Str.ofString "bool", Str.ofString "dict", Str.ofString "int", Str.ofString "isinstance", Str.ofString "len", Str.ofString "list", Str.ofString "max", Str.ofString "min", Str.ofString "range", Str.ofString "repr", Str.ofString "str", Str.ofString "sum", Str.ofString "tuple", Str.ofString "zip"], mods := [Str.ofString "gcd"], kw := [⟨16, [Str.ofString "third", Str.ofString "other", Str.ofString "one"], 0, [2, 1, 0]⟩, ⟨17, [Str.ofString "third", Str.ofString "other", Str.ofString "one"], 0, [2, 1, 0]⟩, ⟨13, [Str.ofString "points"], 0, [0]⟩, ⟨11, [Str.ofString "value"], 0, [0]⟩, ⟨7, [Str.ofString "value"], 0, [0]⟩] }
theorem at_is_whole : tbT[0]? = some b_is_whole := rfl
theorem at_is_tuple_of : tbT[1]? = some b_is_tuple_of := rfl
theorem at_is_fraction : tbT[2]? = some b_is_fraction := rfl
theorem at_fraction : tbT[3]? = some b_fraction := rfl
theorem at_minus : tbT[4]? = some b_minus := rfl
theorem at_times : tbT[5]? = some b_times := rfl
theorem at_is_less : tbT[6]? = some b_is_less := rfl
theorem at_is_point : tbT[7]? = some b_is_point := rfl
theorem at_check_point : tbT[8]? = some b_check_point := rfl
theorem at_comes_ahead : tbT[9]? = some b_comes_ahead := rfl
theorem at_are_points : tbT[10]? = some b_are_points := rfl
theorem at_is_set : tbT[11]? = some b_is_set := rfl
theorem at_sorted_there : tbT[12]? = some b_sorted_there := rfl
theorem at_sorted_points : tbT[13]? = some b_sorted_points := rfl
theorem at_turn_there : tbT[14]? = some b_turn_there := rfl
theorem at_sign_of : tbT[15]? = some b_sign_of := rfl
theorem at_turn_of : tbT[16]? = some b_turn_of := rfl
theorem at_order_of : tbT[17]? = some b_order_of := rfl
theorem at__law_purse : tbT[18]? = some b__law_purse := rfl
theorem at__law_mixed : tbT[19]? = some b__law_mixed := rfl
theorem at__law_draw : tbT[20]? = some b__law_draw := rfl
theorem at__law_shuffled : tbT[21]? = some b__law_shuffled := rfl
theorem at__law_same : tbT[22]? = some b__law_same := rfl
theorem at__law_purses : tbT[23]? = some b__law_purses := rfl
theorem at__law_frac : tbT[24]? = some b__law_frac := rfl
theorem at__law_plus : tbT[25]? = some b__law_plus := rfl
theorem at__law_minus : tbT[26]? = some b__law_minus := rfl
theorem at__law_times : tbT[27]? = some b__law_times := rfl
theorem at__law_less : tbT[28]? = some b__law_less := rfl
theorem at__law_number : tbT[29]? = some b__law_number := rfl
theorem at__law_point : tbT[30]? = some b__law_point := rfl
theorem at__law_ahead : tbT[31]? = some b__law_ahead := rfl
theorem at__law_turn : tbT[32]? = some b__law_turn := rfl
theorem at__law_sign : tbT[33]? = some b__law_sign := rfl
theorem at__law_mid : tbT[34]? = some b__law_mid := rfl
theorem at_law : tbT[35]? = some b_law := rfl
end K02
set_option Elab.async false
set_option linter.all false
set_option maxRecDepth 100000
set_option maxHeartbeats 4000000
namespace K02
open PySem PySem.Spec PyProof.Rows L2 DI
def topS (i : Nat) : Stmt := PySem.Challenge.pw_straightcuts_k02_whole_points.main.body.getD i (.Pass ⟨0, 0, 0, 0⟩)
abbrev t_is_whole : Stmt := topS 2
def n_is_whole : List Str := [Str.ofString "value"]
theorem m_is_whole : mSs tb n_is_whole false (defScope t_is_whole) b_is_whole.body (defBody t_is_whole) = true := by decide +kernel
theorem c_is_whole : FnScope n_is_whole [Str.ofString "value"] (defScope t_is_whole) := ⟨rfl, rfl, rfl, by decide +kernel, rfl, by decide +kernel, by decide +kernel⟩
abbrev t_is_tuple_of : Stmt := topS 3
def n_is_tuple_of : List Str := [Str.ofString "value", Str.ofString "size"]
theorem m_is_tuple_of : mSs tb n_is_tuple_of false (defScope t_is_tuple_of) b_is_tuple_of.body (defBody t_is_tuple_of) = true := by decide +kernel
theorem c_is_tuple_of : FnScope n_is_tuple_of [Str.ofString "value", Str.ofString "size"] (defScope t_is_tuple_of) := ⟨rfl, rfl, rfl, by decide +kernel, rfl, by decide +kernel, by decide +kernel⟩
abbrev t_is_fraction : Stmt := topS 9
def n_is_fraction : List Str := [Str.ofString "value"]
theorem m_is_fraction : mSs tb n_is_fraction false (defScope t_is_fraction) b_is_fraction.body (defBody t_is_fraction) = true := by decide +kernel
theorem c_is_fraction : FnScope n_is_fraction [Str.ofString "value"] (defScope t_is_fraction) := ⟨rfl, rfl, rfl, by decide +kernel, rfl, by decide +kernel, by decide +kernel⟩
abbrev t_fraction : Stmt := topS 10
def n_fraction : List Str := [Str.ofString "above", Str.ofString "below", Str.ofString "many"]
theorem m_fraction : mSs tb n_fraction false (defScope t_fraction) b_fraction.body (defBody t_fraction) = true := by decide +kernel
theorem c_fraction : FnScope n_fraction [Str.ofString "above", Str.ofString "below"] (defScope t_fraction) := ⟨rfl, rfl, rfl, by decide +kernel, rfl, by decide +kernel, by decide +kernel⟩
abbrev t_minus : Stmt := topS 11
def n_minus : List Str := [Str.ofString "one", Str.ofString "other"]
theorem m_minus : mSs tb n_minus false (defScope t_minus) b_minus.body (defBody t_minus) = true := by decide +kernel
theorem c_minus : FnScope n_minus [Str.ofString "one", Str.ofString "other"] (defScope t_minus) := ⟨rfl, rfl, rfl, by decide +kernel, rfl, by decide +kernel, by decide +kernel⟩
abbrev t_times : Stmt := topS 12
def n_times : List Str := [Str.ofString "one", Str.ofString "other"]
theorem m_times : mSs tb n_times false (defScope t_times) b_times.body (defBody t_times) = true := by decide +kernel
theorem c_times : FnScope n_times [Str.ofString "one", Str.ofString "other"] (defScope t_times) := ⟨rfl, rfl, rfl, by decide +kernel, rfl, by decide +kernel, by decide +kernel⟩
abbrev t_is_less : Stmt := topS 13
def n_is_less : List Str := [Str.ofString "one", Str.ofString "other"]
theorem m_is_less : mSs tb n_is_less false (defScope t_is_less) b_is_less.body (defBody t_is_less) = true := by decide +kernel
theorem c_is_less : FnScope n_is_less [Str.ofString "one", Str.ofString "other"] (defScope t_is_less) := ⟨rfl, rfl, rfl, by decide +kernel, rfl, by decide +kernel, by decide +kernel⟩
abbrev t_is_point : Stmt := topS 15
def n_is_point : List Str := [Str.ofString "value"]
theorem m_is_point : mSs tb n_is_point false (defScope t_is_point) b_is_point.body (defBody t_is_point) = true := by decide +kernel
theorem c_is_point : FnScope n_is_point [Str.ofString "value"] (defScope t_is_point) := ⟨rfl, rfl, rfl, by decide +kernel, rfl, by decide +kernel, by decide +kernel⟩
abbrev t_check_point : Stmt := topS 16
def n_check_point : List Str := [Str.ofString "value"]
theorem m_check_point : mSs tb n_check_point false (defScope t_check_point) b_check_point.body (defBody t_check_point) = true := by decide +kernel
theorem c_check_point : FnScope n_check_point [Str.ofString "value"] (defScope t_check_point) := ⟨rfl, rfl, rfl, by decide +kernel, rfl, by decide +kernel, by decide +kernel⟩
abbrev t_comes_ahead : Stmt := topS 17
def n_comes_ahead : List Str := [Str.ofString "one", Str.ofString "other"]
theorem m_comes_ahead : mSs tb n_comes_ahead false (defScope t_comes_ahead) b_comes_ahead.body (defBody t_comes_ahead) = true := by decide +kernel
theorem c_comes_ahead : FnScope n_comes_ahead [Str.ofString "one", Str.ofString "other"] (defScope t_comes_ahead) := ⟨rfl, rfl, rfl, by decide +kernel, rfl, by decide +kernel, by decide +kernel⟩
abbrev t_are_points : Stmt := topS 18
def n_are_points : List Str := [Str.ofString "value", Str.ofString "point"]
theorem m_are_points : mSs tb n_are_points false (defScope t_are_points) b_are_points.body (defBody t_are_points) = true := by decide +kernel
theorem c_are_points : FnScope n_are_points [Str.ofString "value"] (defScope t_are_points) := ⟨rfl, rfl, rfl, by decide +kernel, rfl, by decide +kernel, by decide +kernel⟩
abbrev t_is_set : Stmt := topS 19
def n_is_set : List Str := [Str.ofString "value", Str.ofString "one", Str.ofString "late"]
theorem m_is_set : mSs tb n_is_set false (defScope t_is_set) b_is_set.body (defBody t_is_set) = true := by decide +kernel
theorem c_is_set : FnScope n_is_set [Str.ofString "value"] (defScope t_is_set) := ⟨rfl, rfl, rfl, by decide +kernel, rfl, by decide +kernel, by decide +kernel⟩
abbrev t_sorted_there : Stmt := topS 20
def n_sorted_there : List Str := [Str.ofString "points", Str.ofString "found", Str.ofString "point", Str.ofString "at", Str.ofString "late"]
theorem m_sorted_there : mSs tb n_sorted_there true (defScope t_sorted_there) b_sorted_there.body (defBody t_sorted_there) = true := by decide +kernel
theorem c_sorted_there : FnScope n_sorted_there [Str.ofString "points"] (defScope t_sorted_there) := ⟨rfl, rfl, rfl, by decide +kernel, rfl, by decide +kernel, by decide +kernel⟩
abbrev t_sorted_points : Stmt := topS 21
def n_sorted_points : List Str := [Str.ofString "points"]
theorem m_sorted_points : mSs tb n_sorted_points true (defScope t_sorted_points) b_sorted_points.body (defBody t_sorted_points) = true := by decide +kernel
theorem c_sorted_points : FnScope n_sorted_points [Str.ofString "points"] (defScope t_sorted_points) := ⟨rfl, rfl, rfl, by decide +kernel, rfl, by decide +kernel, by decide +kernel⟩
abbrev t_turn_there : Stmt := topS 22
def n_turn_there : List Str := [Str.ofString "one", Str.ofString "other", Str.ofString "third", Str.ofString "left"]
theorem m_turn_there : mSs tb n_turn_there false (defScope t_turn_there) b_turn_there.body (defBody t_turn_there) = true := by decide +kernel
theorem c_turn_there : FnScope n_turn_there [Str.ofString "one", Str.ofString "other", Str.ofString "third"] (defScope t_turn_there) := ⟨rfl, rfl, rfl, by decide +kernel, rfl, by decide +kernel, by decide +kernel⟩
abbrev t_sign_of : Stmt := topS 23
def n_sign_of : List Str := [Str.ofString "number"]
theorem m_sign_of : mSs tb n_sign_of false (defScope t_sign_of) b_sign_of.body (defBody t_sign_of) = true := by decide +kernel
theorem c_sign_of : FnScope n_sign_of [Str.ofString "number"] (defScope t_sign_of) := ⟨rfl, rfl, rfl, by decide +kernel, rfl, by decide +kernel, by decide +kernel⟩
abbrev t_turn_of : Stmt := topS 24
def n_turn_of : List Str := [Str.ofString "one", Str.ofString "other", Str.ofString "third", Str.ofString "point"]
theorem m_turn_of : mSs tb n_turn_of false (defScope t_turn_of) b_turn_of.body (defBody t_turn_of) = true := by decide +kernel
theorem c_turn_of : FnScope n_turn_of [Str.ofString "one", Str.ofString "other", Str.ofString "third"] (defScope t_turn_of) := ⟨rfl, rfl, rfl, by decide +kernel, rfl, by decide +kernel, by decide +kernel⟩
abbrev t_order_of : Stmt := topS 25
def n_order_of : List Str := [Str.ofString "one", Str.ofString "other", Str.ofString "third"]
theorem m_order_of : mSs tb n_order_of false (defScope t_order_of) b_order_of.body (defBody t_order_of) = true := by decide +kernel
theorem c_order_of : FnScope n_order_of [Str.ofString "one", Str.ofString "other", Str.ofString "third"] (defScope t_order_of) := ⟨rfl, rfl, rfl, by decide +kernel, rfl, by decide +kernel, by decide +kernel⟩
abbrev t__law_purse : Stmt := topS 27
def n__law_purse : List Str := [Str.ofString "script", Str.ofString "at", Str.ofString "seed"]
theorem m__law_purse : mSs tb n__law_purse true (defScope t__law_purse) b__law_purse.body (defBody t__law_purse) = true := by decide +kernel
theorem c__law_purse : FnScope n__law_purse [Str.ofString "script", Str.ofString "at"] (defScope t__law_purse) := ⟨rfl, rfl, rfl, by decide +kernel, rfl, by decide +kernel, by decide +kernel⟩
abbrev t__law_mixed : Stmt := topS 28
def n__law_mixed : List Str := [Str.ofString "seed", Str.ofString "spin", Str.ofString "at", Str.ofString "mixed"]
theorem m__law_mixed : mSs tb n__law_mixed false (defScope t__law_mixed) b__law_mixed.body (defBody t__law_mixed) = true := by decide +kernel
theorem c__law_mixed : FnScope n__law_mixed [Str.ofString "seed", Str.ofString "spin", Str.ofString "at"] (defScope t__law_mixed) := ⟨rfl, rfl, rfl, by decide +kernel, rfl, by decide +kernel, by decide +kernel⟩
abbrev t__law_draw : Stmt := topS 29
def n__law_draw : List Str := [Str.ofString "purse", Str.ofString "many", Str.ofString "drawn", Str.ofString "found", Str.ofString "piece"]
theorem m__law_draw : mSs tb n__law_draw false (defScope t__law_draw) b__law_draw.body (defBody t__law_draw) = true := by decide +kernel
theorem c__law_draw : FnScope n__law_draw [Str.ofString "purse", Str.ofString "many"] (defScope t__law_draw) := ⟨rfl, rfl, rfl, by decide +kernel, rfl, by decide +kernel, by decide +kernel⟩
abbrev t__law_shuffled : Stmt := topS 30
def n__law_shuffled : List Str := [Str.ofString "purse", Str.ofString "some", Str.ofString "found", Str.ofString "item"]
theorem m__law_shuffled : mSs tb n__law_shuffled false (defScope t__law_shuffled) b__law_shuffled.body (defBody t__law_shuffled) = true := by decide +kernel
theorem c__law_shuffled : FnScope n__law_shuffled [Str.ofString "purse", Str.ofString "some"] (defScope t__law_shuffled) := ⟨rfl, rfl, rfl, by decide +kernel, rfl, by decide +kernel, by decide +kernel⟩
abbrev t__law_same : Stmt := topS 31
def n__law_same : List Str := [Str.ofString "told", Str.ofString "due", Str.ofString "is_like", Str.ofString "key", Str.ofString "one", Str.ofString "other"]
theorem m__law_same : mSs tb n__law_same false (defScope t__law_same) b__law_same.body (defBody t__law_same) = true := by decide +kernel
theorem c__law_same : FnScope n__law_same [Str.ofString "told", Str.ofString "due"] (defScope t__law_same) := ⟨rfl, rfl, rfl, by decide +kernel, rfl, by decide +kernel, by decide +kernel⟩
abbrev t__law_purses : Stmt := topS 32
def n__law_purses : List Str := [Str.ofString "script", Str.ofString "few", Str.ofString "at"]
theorem m__law_purses : mSs tb n__law_purses false (defScope t__law_purses) b__law_purses.body (defBody t__law_purses) = true := by decide +kernel
theorem c__law_purses : FnScope n__law_purses [Str.ofString "script", Str.ofString "few"] (defScope t__law_purses) := ⟨rfl, rfl, rfl, by decide +kernel, rfl, by decide +kernel, by decide +kernel⟩
abbrev t__law_frac : Stmt := topS 33
def n__law_frac : List Str := [Str.ofString "above", Str.ofString "below", Str.ofString "one", Str.ofString "other", Str.ofString "many"]
theorem m__law_frac : mSs tb n__law_frac false (defScope t__law_frac) b__law_frac.body (defBody t__law_frac) = true := by decide +kernel
theorem c__law_frac : FnScope n__law_frac [Str.ofString "above", Str.ofString "below"] (defScope t__law_frac) := ⟨rfl, rfl, rfl, by decide +kernel, rfl, by decide +kernel, by decide +kernel⟩
abbrev t__law_plus : Stmt := topS 34
def n__law_plus : List Str := [Str.ofString "one", Str.ofString "other"]
theorem m__law_plus : mSs tb n__law_plus false (defScope t__law_plus) b__law_plus.body (defBody t__law_plus) = true := by decide +kernel
theorem c__law_plus : FnScope n__law_plus [Str.ofString "one", Str.ofString "other"] (defScope t__law_plus) := ⟨rfl, rfl, rfl, by decide +kernel, rfl, by decide +kernel, by decide +kernel⟩
abbrev t__law_minus : Stmt := topS 35
def n__law_minus : List Str := [Str.ofString "one", Str.ofString "other"]
theorem m__law_minus : mSs tb n__law_minus false (defScope t__law_minus) b__law_minus.body (defBody t__law_minus) = true := by decide +kernel
theorem c__law_minus : FnScope n__law_minus [Str.ofString "one", Str.ofString "other"] (defScope t__law_minus) := ⟨rfl, rfl, rfl, by decide +kernel, rfl, by decide +kernel, by decide +kernel⟩
abbrev t__law_times : Stmt := topS 36
def n__law_times : List Str := [Str.ofString "one", Str.ofString "other"]
theorem m__law_times : mSs tb n__law_times false (defScope t__law_times) b__law_times.body (defBody t__law_times) = true := by decide +kernel
theorem c__law_times : FnScope n__law_times [Str.ofString "one", Str.ofString "other"] (defScope t__law_times) := ⟨rfl, rfl, rfl, by decide +kernel, rfl, by decide +kernel, by decide +kernel⟩
abbrev t__law_less : Stmt := topS 37
def n__law_less : List Str := [Str.ofString "one", Str.ofString "other"]
theorem m__law_less : mSs tb n__law_less false (defScope t__law_less) b__law_less.body (defBody t__law_less) = true := by decide +kernel
theorem c__law_less : FnScope n__law_less [Str.ofString "one", Str.ofString "other"] (defScope t__law_less) := ⟨rfl, rfl, rfl, by decide +kernel, rfl, by decide +kernel, by decide +kernel⟩
abbrev t__law_number : Stmt := topS 38
def n__law_number : List Str := [Str.ofString "purse", Str.ofString "way", Str.ofString "many"]
theorem m__law_number : mSs tb n__law_number false (defScope t__law_number) b__law_number.body (defBody t__law_number) = true := by decide +kernel
theorem c__law_number : FnScope n__law_number [Str.ofString "purse"] (defScope t__law_number) := ⟨rfl, rfl, rfl, by decide +kernel, rfl, by decide +kernel, by decide +kernel⟩
abbrev t__law_point : Stmt := topS 39
def n__law_point : List Str := [Str.ofString "purse"]
theorem m__law_point : mSs tb n__law_point false (defScope t__law_point) b__law_point.body (defBody t__law_point) = true := by decide +kernel
theorem c__law_point : FnScope n__law_point [Str.ofString "purse"] (defScope t__law_point) := ⟨rfl, rfl, rfl, by decide +kernel, rfl, by decide +kernel, by decide +kernel⟩
abbrev t__law_ahead : Stmt := topS 40
def n__law_ahead : List Str := [Str.ofString "one", Str.ofString "other"]
theorem m__law_ahead : mSs tb n__law_ahead false (defScope t__law_ahead) b__law_ahead.body (defBody t__law_ahead) = true := by decide +kernel
theorem c__law_ahead : FnScope n__law_ahead [Str.ofString "one", Str.ofString "other"] (defScope t__law_ahead) := ⟨rfl, rfl, rfl, by decide +kernel, rfl, by decide +kernel, by decide +kernel⟩
abbrev t__law_turn : Stmt := topS 41
def n__law_turn : List Str := [Str.ofString "one", Str.ofString "other", Str.ofString "third", Str.ofString "left"]
theorem m__law_turn : mSs tb n__law_turn false (defScope t__law_turn) b__law_turn.body (defBody t__law_turn) = true := by decide +kernel
theorem c__law_turn : FnScope n__law_turn [Str.ofString "one", Str.ofString "other", Str.ofString "third"] (defScope t__law_turn) := ⟨rfl, rfl, rfl, by decide +kernel, rfl, by decide +kernel, by decide +kernel⟩
abbrev t__law_sign : Stmt := topS 42
def n__law_sign : List Str := [Str.ofString "number"]
theorem m__law_sign : mSs tb n__law_sign false (defScope t__law_sign) b__law_sign.body (defBody t__law_sign) = true := by decide +kernel
theorem c__law_sign : FnScope n__law_sign [Str.ofString "number"] (defScope t__law_sign) := ⟨rfl, rfl, rfl, by decide +kernel, rfl, by decide +kernel, by decide +kernel⟩
abbrev t__law_mid : Stmt := topS 43
def n__law_mid : List Str := [Str.ofString "one", Str.ofString "other", Str.ofString "share", Str.ofString "at"]
theorem m__law_mid : mSs tb n__law_mid false (defScope t__law_mid) b__law_mid.body (defBody t__law_mid) = true := by decide +kernel
theorem c__law_mid : FnScope n__law_mid [Str.ofString "one", Str.ofString "other", Str.ofString "share"] (defScope t__law_mid) := ⟨rfl, rfl, rfl, by decide +kernel, rfl, by decide +kernel, by decide +kernel⟩
abbrev t_law : Stmt := topS 44
def n_law : List Str := [Str.ofString "script", Str.ofString "purse", Str.ofString "one", Str.ofString "other", Str.ofString "third", Str.ofString "due", Str.ofString "told", Str.ofString "points", Str.ofString "spin", Str.ofString "found", Str.ofString "point", Str.ofString "at", Str.ofString "late", Str.ofString "kept", Str.ofString "near", Str.ofString "odds", Str.ofString "bent"]
theorem m_law : mSs tb n_law false (defScope t_law) b_law.body (defBody t_law) = true := by decide +kernel
theorem c_law : FnScope n_law [Str.ofString "script"] (defScope t_law) := ⟨rfl, rfl, rfl, by decide +kernel, rfl, by decide +kernel, by decide +kernel⟩
theorem all_mk {K : PySem.W.Frag} {h : Heap} {mg : Str → Option Value} {f0 f1 f2 f3 f4 f5 f6 f7 f8 f9 f10 f11 f12 f13 f14 f15 f16 f17 f18 f19 f20 f21 f22 f23 f24 f25 f26 f27 f28 f29 f30 f31 f32 f33 f34 f35 : Addr} (X : K.In h) (G : h.Ns mainGlobals mg)
    {od0 an0 od1 an1 od2 an2 od3 an3 od4 an4 od5 an5 od6 an6 od7 an7 od8 an8 od9 an9 od10 an10 od11 an11 od12 an12 od13 an13 od14 an14 od15 an15 od16 an16 od17 an17 od18 an18 od19 an19 od20 an20 od21 an21 od22 an22 od23 an23 od24 an24 od25 an25 od26 an26 od27 an27 od28 an28 od29 an29 od30 an30 od31 an31 od32 an32 od33 an33 od34 an34 od35 an35 : Option Addr} {sl0 sl1 sl2 sl3 sl4 sl5 sl6 sl7 sl8 sl9 sl10 sl11 sl12 sl13 sl14 sl15 sl16 sl17 sl18 sl19 sl20 sl21 sl22 sl23 sl24 sl25 sl26 sl27 sl28 sl29 sl30 sl31 sl32 sl33 sl34 sl35 : Array (Option Value)} {oc0 kV0 dc0 pm0 cd0 ct0 oc1 kV1 dc1 pm1 cd1 ct1 oc2 kV2 dc2 pm2 cd2 ct2 oc3 kV3 dc3 pm3 cd3 ct3 oc4 kV4 dc4 pm4 cd4 ct4 oc5 kV5 dc5 pm5 cd5 ct5 oc6 kV6 dc6 pm6 cd6 ct6 oc7 kV7 dc7 pm7 cd7 ct7 oc8 kV8 dc8 pm8 cd8 ct8 oc9 kV9 dc9 pm9 cd9 ct9 oc10 kV10 dc10 pm10 cd10 ct10 oc11 kV11 dc11 pm11 cd11 ct11 oc12 kV12 dc12 pm12 cd12 ct12 oc13 kV13 dc13 pm13 cd13 ct13 oc14 kV14 dc14 pm14 cd14 ct14 oc15 kV15 dc15 pm15 cd15 ct15 oc16 kV16 dc16 pm16 cd16 ct16 oc17 kV17 dc17 pm17 cd17 ct17 oc18 kV18 dc18 pm18 cd18 ct18 oc19 kV19 dc19 pm19 cd19 ct19 oc20 kV20 dc20 pm20 cd20 ct20 oc21 kV21 dc21 pm21 cd21 ct21 oc22 kV22 dc22 pm22 cd22 ct22 oc23 kV23 dc23 pm23 cd23 ct23 oc24 kV24 dc24 pm24 cd24 ct24 oc25 kV25 dc25 pm25 cd25 ct25 oc26 kV26 dc26 pm26 cd26 ct26 oc27 kV27 dc27 pm27 cd27 ct27 oc28 kV28 dc28 pm28 cd28 ct28 oc29 kV29 dc29 pm29 cd29 ct29 oc30 kV30 dc30 pm30 cd30 ct30 oc31 kV31 dc31 pm31 cd31 ct31 oc32 kV32 dc32 pm32 cd32 ct32 oc33 kV33 dc33 pm33 cd33 ct33 oc34 kV34 dc34 pm34 cd34 ct34 oc35 kV35 dc35 pm35 cd35 ct35 : Value}
    (a0 : PySem.W.nsIn K mainGlobals "is_whole" = some (some (.ref f0))) (l0 : K.lookup f0 = some ⟨oc0, od0, .func (PySem.W.fnOf "is_whole" "is_whole" (defArgs t_is_whole) (defBody t_is_whole) (defScope t_is_whole) .none kV0 dc0 pm0 an0 cd0 ct0), sl0⟩) (c0 : PySem.W.codeIn K cd0 "is_whole" = true) (k0 : PySem.W.keepIn K (.ref f0) = true)
    (a1 : PySem.W.nsIn K mainGlobals "is_tuple_of" = some (some (.ref f1))) (l1 : K.lookup f1 = some ⟨oc1, od1, .func (PySem.W.fnOf "is_tuple_of" "is_tuple_of" (defArgs t_is_tuple_of) (defBody t_is_tuple_of) (defScope t_is_tuple_of) .none kV1 dc1 pm1 an1 cd1 ct1), sl1⟩) (c1 : PySem.W.codeIn K cd1 "is_tuple_of" = true) (k1 : PySem.W.keepIn K (.ref f1) = true)
    (a2 : PySem.W.nsIn K mainGlobals "is_fraction" = some (some (.ref f2))) (l2 : K.lookup f2 = some ⟨oc2, od2, .func (PySem.W.fnOf "is_fraction" "is_fraction" (defArgs t_is_fraction) (defBody t_is_fraction) (defScope t_is_fraction) .none kV2 dc2 pm2 an2 cd2 ct2), sl2⟩) (c2 : PySem.W.codeIn K cd2 "is_fraction" = true) (k2 : PySem.W.keepIn K (.ref f2) = true)
    (a3 : PySem.W.nsIn K mainGlobals "fraction" = some (some (.ref f3))) (l3 : K.lookup f3 = some ⟨oc3, od3, .func (PySem.W.fnOf "fraction" "fraction" (defArgs t_fraction) (defBody t_fraction) (defScope t_fraction) .none kV3 dc3 pm3 an3 cd3 ct3), sl3⟩) (c3 : PySem.W.codeIn K cd3 "fraction" = true) (k3 : PySem.W.keepIn K (.ref f3) = true)
    (a4 : PySem.W.nsIn K mainGlobals "minus" = some (some (.ref f4))) (l4 : K.lookup f4 = some ⟨oc4, od4, .func (PySem.W.fnOf "minus" "minus" (defArgs t_minus) (defBody t_minus) (defScope t_minus) .none kV4 dc4 pm4 an4 cd4 ct4), sl4⟩) (c4 : PySem.W.codeIn K cd4 "minus" = true) (k4 : PySem.W.keepIn K (.ref f4) = true)
    (a5 : PySem.W.nsIn K mainGlobals "times" = some (some (.ref f5))) (l5 : K.lookup f5 = some ⟨oc5, od5, .func (PySem.W.fnOf "times" "times" (defArgs t_times) (defBody t_times) (defScope t_times) .none kV5 dc5 pm5 an5 cd5 ct5), sl5⟩) (c5 : PySem.W.codeIn K cd5 "times" = true) (k5 : PySem.W.keepIn K (.ref f5) = true)
    (a6 : PySem.W.nsIn K mainGlobals "is_less" = some (some (.ref f6))) (l6 : K.lookup f6 = some ⟨oc6, od6, .func (PySem.W.fnOf "is_less" "is_less" (defArgs t_is_less) (defBody t_is_less) (defScope t_is_less) .none kV6 dc6 pm6 an6 cd6 ct6), sl6⟩) (c6 : PySem.W.codeIn K cd6 "is_less" = true) (k6 : PySem.W.keepIn K (.ref f6) = true)
    (a7 : PySem.W.nsIn K mainGlobals "is_point" = some (some (.ref f7))) (l7 : K.lookup f7 = some ⟨oc7, od7, .func (PySem.W.fnOf "is_point" "is_point" (defArgs t_is_point) (defBody t_is_point) (defScope t_is_point) .none kV7 dc7 pm7 an7 cd7 ct7), sl7⟩) (c7 : PySem.W.codeIn K cd7 "is_point" = true) (k7 : PySem.W.keepIn K (.ref f7) = true)
    (a8 : PySem.W.nsIn K mainGlobals "check_point" = some (some (.ref f8))) (l8 : K.lookup f8 = some ⟨oc8, od8, .func (PySem.W.fnOf "check_point" "check_point" (defArgs t_check_point) (defBody t_check_point) (defScope t_check_point) .none kV8 dc8 pm8 an8 cd8 ct8), sl8⟩) (c8 : PySem.W.codeIn K cd8 "check_point" = true) (k8 : PySem.W.keepIn K (.ref f8) = true)
    (a9 : PySem.W.nsIn K mainGlobals "comes_ahead" = some (some (.ref f9))) (l9 : K.lookup f9 = some ⟨oc9, od9, .func (PySem.W.fnOf "comes_ahead" "comes_ahead" (defArgs t_comes_ahead) (defBody t_comes_ahead) (defScope t_comes_ahead) .none kV9 dc9 pm9 an9 cd9 ct9), sl9⟩) (c9 : PySem.W.codeIn K cd9 "comes_ahead" = true) (k9 : PySem.W.keepIn K (.ref f9) = true)
    (a10 : PySem.W.nsIn K mainGlobals "are_points" = some (some (.ref f10))) (l10 : K.lookup f10 = some ⟨oc10, od10, .func (PySem.W.fnOf "are_points" "are_points" (defArgs t_are_points) (defBody t_are_points) (defScope t_are_points) .none kV10 dc10 pm10 an10 cd10 ct10), sl10⟩) (c10 : PySem.W.codeIn K cd10 "are_points" = true) (k10 : PySem.W.keepIn K (.ref f10) = true)
    (a11 : PySem.W.nsIn K mainGlobals "is_set" = some (some (.ref f11))) (l11 : K.lookup f11 = some ⟨oc11, od11, .func (PySem.W.fnOf "is_set" "is_set" (defArgs t_is_set) (defBody t_is_set) (defScope t_is_set) .none kV11 dc11 pm11 an11 cd11 ct11), sl11⟩) (c11 : PySem.W.codeIn K cd11 "is_set" = true) (k11 : PySem.W.keepIn K (.ref f11) = true)
    (a12 : PySem.W.nsIn K mainGlobals "sorted_there" = some (some (.ref f12))) (l12 : K.lookup f12 = some ⟨oc12, od12, .func (PySem.W.fnOf "sorted_there" "sorted_there" (defArgs t_sorted_there) (defBody t_sorted_there) (defScope t_sorted_there) .none kV12 dc12 pm12 an12 cd12 ct12), sl12⟩) (c12 : PySem.W.codeIn K cd12 "sorted_there" = true) (k12 : PySem.W.keepIn K (.ref f12) = true)
    (a13 : PySem.W.nsIn K mainGlobals "sorted_points" = some (some (.ref f13))) (l13 : K.lookup f13 = some ⟨oc13, od13, .func (PySem.W.fnOf "sorted_points" "sorted_points" (defArgs t_sorted_points) (defBody t_sorted_points) (defScope t_sorted_points) .none kV13 dc13 pm13 an13 cd13 ct13), sl13⟩) (c13 : PySem.W.codeIn K cd13 "sorted_points" = true) (k13 : PySem.W.keepIn K (.ref f13) = true)
    (a14 : PySem.W.nsIn K mainGlobals "turn_there" = some (some (.ref f14))) (l14 : K.lookup f14 = some ⟨oc14, od14, .func (PySem.W.fnOf "turn_there" "turn_there" (defArgs t_turn_there) (defBody t_turn_there) (defScope t_turn_there) .none kV14 dc14 pm14 an14 cd14 ct14), sl14⟩) (c14 : PySem.W.codeIn K cd14 "turn_there" = true) (k14 : PySem.W.keepIn K (.ref f14) = true)
    (a15 : PySem.W.nsIn K mainGlobals "sign_of" = some (some (.ref f15))) (l15 : K.lookup f15 = some ⟨oc15, od15, .func (PySem.W.fnOf "sign_of" "sign_of" (defArgs t_sign_of) (defBody t_sign_of) (defScope t_sign_of) .none kV15 dc15 pm15 an15 cd15 ct15), sl15⟩) (c15 : PySem.W.codeIn K cd15 "sign_of" = true) (k15 : PySem.W.keepIn K (.ref f15) = true)
    (a16 : PySem.W.nsIn K mainGlobals "turn_of" = some (some (.ref f16))) (l16 : K.lookup f16 = some ⟨oc16, od16, .func (PySem.W.fnOf "turn_of" "turn_of" (defArgs t_turn_of) (defBody t_turn_of) (defScope t_turn_of) .none kV16 dc16 pm16 an16 cd16 ct16), sl16⟩) (c16 : PySem.W.codeIn K cd16 "turn_of" = true) (k16 : PySem.W.keepIn K (.ref f16) = true)
    (a17 : PySem.W.nsIn K mainGlobals "order_of" = some (some (.ref f17))) (l17 : K.lookup f17 = some ⟨oc17, od17, .func (PySem.W.fnOf "order_of" "order_of" (defArgs t_order_of) (defBody t_order_of) (defScope t_order_of) .none kV17 dc17 pm17 an17 cd17 ct17), sl17⟩) (c17 : PySem.W.codeIn K cd17 "order_of" = true) (k17 : PySem.W.keepIn K (.ref f17) = true)
    (a18 : PySem.W.nsIn K mainGlobals "_law_purse" = some (some (.ref f18))) (l18 : K.lookup f18 = some ⟨oc18, od18, .func (PySem.W.fnOf "_law_purse" "_law_purse" (defArgs t__law_purse) (defBody t__law_purse) (defScope t__law_purse) .none kV18 dc18 pm18 an18 cd18 ct18), sl18⟩) (c18 : PySem.W.codeIn K cd18 "_law_purse" = true) (k18 : PySem.W.keepIn K (.ref f18) = true)
    (a19 : PySem.W.nsIn K mainGlobals "_law_mixed" = some (some (.ref f19))) (l19 : K.lookup f19 = some ⟨oc19, od19, .func (PySem.W.fnOf "_law_mixed" "_law_mixed" (defArgs t__law_mixed) (defBody t__law_mixed) (defScope t__law_mixed) .none kV19 dc19 pm19 an19 cd19 ct19), sl19⟩) (c19 : PySem.W.codeIn K cd19 "_law_mixed" = true) (k19 : PySem.W.keepIn K (.ref f19) = true)
    (a20 : PySem.W.nsIn K mainGlobals "_law_draw" = some (some (.ref f20))) (l20 : K.lookup f20 = some ⟨oc20, od20, .func (PySem.W.fnOf "_law_draw" "_law_draw" (defArgs t__law_draw) (defBody t__law_draw) (defScope t__law_draw) .none kV20 dc20 pm20 an20 cd20 ct20), sl20⟩) (c20 : PySem.W.codeIn K cd20 "_law_draw" = true) (k20 : PySem.W.keepIn K (.ref f20) = true)
    (a21 : PySem.W.nsIn K mainGlobals "_law_shuffled" = some (some (.ref f21))) (l21 : K.lookup f21 = some ⟨oc21, od21, .func (PySem.W.fnOf "_law_shuffled" "_law_shuffled" (defArgs t__law_shuffled) (defBody t__law_shuffled) (defScope t__law_shuffled) .none kV21 dc21 pm21 an21 cd21 ct21), sl21⟩) (c21 : PySem.W.codeIn K cd21 "_law_shuffled" = true) (k21 : PySem.W.keepIn K (.ref f21) = true)
    (a22 : PySem.W.nsIn K mainGlobals "_law_same" = some (some (.ref f22))) (l22 : K.lookup f22 = some ⟨oc22, od22, .func (PySem.W.fnOf "_law_same" "_law_same" (defArgs t__law_same) (defBody t__law_same) (defScope t__law_same) .none kV22 dc22 pm22 an22 cd22 ct22), sl22⟩) (c22 : PySem.W.codeIn K cd22 "_law_same" = true) (k22 : PySem.W.keepIn K (.ref f22) = true)
    (a23 : PySem.W.nsIn K mainGlobals "_law_purses" = some (some (.ref f23))) (l23 : K.lookup f23 = some ⟨oc23, od23, .func (PySem.W.fnOf "_law_purses" "_law_purses" (defArgs t__law_purses) (defBody t__law_purses) (defScope t__law_purses) .none kV23 dc23 pm23 an23 cd23 ct23), sl23⟩) (c23 : PySem.W.codeIn K cd23 "_law_purses" = true) (k23 : PySem.W.keepIn K (.ref f23) = true)
    (a24 : PySem.W.nsIn K mainGlobals "_law_frac" = some (some (.ref f24))) (l24 : K.lookup f24 = some ⟨oc24, od24, .func (PySem.W.fnOf "_law_frac" "_law_frac" (defArgs t__law_frac) (defBody t__law_frac) (defScope t__law_frac) .none kV24 dc24 pm24 an24 cd24 ct24), sl24⟩) (c24 : PySem.W.codeIn K cd24 "_law_frac" = true) (k24 : PySem.W.keepIn K (.ref f24) = true)
    (a25 : PySem.W.nsIn K mainGlobals "_law_plus" = some (some (.ref f25))) (l25 : K.lookup f25 = some ⟨oc25, od25, .func (PySem.W.fnOf "_law_plus" "_law_plus" (defArgs t__law_plus) (defBody t__law_plus) (defScope t__law_plus) .none kV25 dc25 pm25 an25 cd25 ct25), sl25⟩) (c25 : PySem.W.codeIn K cd25 "_law_plus" = true) (k25 : PySem.W.keepIn K (.ref f25) = true)
    (a26 : PySem.W.nsIn K mainGlobals "_law_minus" = some (some (.ref f26))) (l26 : K.lookup f26 = some ⟨oc26, od26, .func (PySem.W.fnOf "_law_minus" "_law_minus" (defArgs t__law_minus) (defBody t__law_minus) (defScope t__law_minus) .none kV26 dc26 pm26 an26 cd26 ct26), sl26⟩) (c26 : PySem.W.codeIn K cd26 "_law_minus" = true) (k26 : PySem.W.keepIn K (.ref f26) = true)
    (a27 : PySem.W.nsIn K mainGlobals "_law_times" = some (some (.ref f27))) (l27 : K.lookup f27 = some ⟨oc27, od27, .func (PySem.W.fnOf "_law_times" "_law_times" (defArgs t__law_times) (defBody t__law_times) (defScope t__law_times) .none kV27 dc27 pm27 an27 cd27 ct27), sl27⟩) (c27 : PySem.W.codeIn K cd27 "_law_times" = true) (k27 : PySem.W.keepIn K (.ref f27) = true)
    (a28 : PySem.W.nsIn K mainGlobals "_law_less" = some (some (.ref f28))) (l28 : K.lookup f28 = some ⟨oc28, od28, .func (PySem.W.fnOf "_law_less" "_law_less" (defArgs t__law_less) (defBody t__law_less) (defScope t__law_less) .none kV28 dc28 pm28 an28 cd28 ct28), sl28⟩) (c28 : PySem.W.codeIn K cd28 "_law_less" = true) (k28 : PySem.W.keepIn K (.ref f28) = true)
    (a29 : PySem.W.nsIn K mainGlobals "_law_number" = some (some (.ref f29))) (l29 : K.lookup f29 = some ⟨oc29, od29, .func (PySem.W.fnOf "_law_number" "_law_number" (defArgs t__law_number) (defBody t__law_number) (defScope t__law_number) .none kV29 dc29 pm29 an29 cd29 ct29), sl29⟩) (c29 : PySem.W.codeIn K cd29 "_law_number" = true) (k29 : PySem.W.keepIn K (.ref f29) = true)
    (a30 : PySem.W.nsIn K mainGlobals "_law_point" = some (some (.ref f30))) (l30 : K.lookup f30 = some ⟨oc30, od30, .func (PySem.W.fnOf "_law_point" "_law_point" (defArgs t__law_point) (defBody t__law_point) (defScope t__law_point) .none kV30 dc30 pm30 an30 cd30 ct30), sl30⟩) (c30 : PySem.W.codeIn K cd30 "_law_point" = true) (k30 : PySem.W.keepIn K (.ref f30) = true)
    (a31 : PySem.W.nsIn K mainGlobals "_law_ahead" = some (some (.ref f31))) (l31 : K.lookup f31 = some ⟨oc31, od31, .func (PySem.W.fnOf "_law_ahead" "_law_ahead" (defArgs t__law_ahead) (defBody t__law_ahead) (defScope t__law_ahead) .none kV31 dc31 pm31 an31 cd31 ct31), sl31⟩) (c31 : PySem.W.codeIn K cd31 "_law_ahead" = true) (k31 : PySem.W.keepIn K (.ref f31) = true)
    (a32 : PySem.W.nsIn K mainGlobals "_law_turn" = some (some (.ref f32))) (l32 : K.lookup f32 = some ⟨oc32, od32, .func (PySem.W.fnOf "_law_turn" "_law_turn" (defArgs t__law_turn) (defBody t__law_turn) (defScope t__law_turn) .none kV32 dc32 pm32 an32 cd32 ct32), sl32⟩) (c32 : PySem.W.codeIn K cd32 "_law_turn" = true) (k32 : PySem.W.keepIn K (.ref f32) = true)
    (a33 : PySem.W.nsIn K mainGlobals "_law_sign" = some (some (.ref f33))) (l33 : K.lookup f33 = some ⟨oc33, od33, .func (PySem.W.fnOf "_law_sign" "_law_sign" (defArgs t__law_sign) (defBody t__law_sign) (defScope t__law_sign) .none kV33 dc33 pm33 an33 cd33 ct33), sl33⟩) (c33 : PySem.W.codeIn K cd33 "_law_sign" = true) (k33 : PySem.W.keepIn K (.ref f33) = true)
    (a34 : PySem.W.nsIn K mainGlobals "_law_mid" = some (some (.ref f34))) (l34 : K.lookup f34 = some ⟨oc34, od34, .func (PySem.W.fnOf "_law_mid" "_law_mid" (defArgs t__law_mid) (defBody t__law_mid) (defScope t__law_mid) .none kV34 dc34 pm34 an34 cd34 ct34), sl34⟩) (c34 : PySem.W.codeIn K cd34 "_law_mid" = true) (k34 : PySem.W.keepIn K (.ref f34) = true)
    (a35 : PySem.W.nsIn K mainGlobals "law" = some (some (.ref f35))) (l35 : K.lookup f35 = some ⟨oc35, od35, .func (PySem.W.fnOf "law" "law" (defArgs t_law) (defBody t_law) (defScope t_law) .none kV35 dc35 pm35 an35 cd35 ct35), sl35⟩) (c35 : PySem.W.codeIn K cd35 "law" = true) (k35 : PySem.W.keepIn K (.ref f35) = true)
    (z0 : PySem.W.nsIn K mainGlobals "abs" = some none)
    (z1 : PySem.W.nsIn K mainGlobals "all" = some none)
    (z2 : PySem.W.nsIn K mainGlobals "bool" = some none)
    (z3 : PySem.W.nsIn K mainGlobals "dict" = some none)
    (z4 : PySem.W.nsIn K mainGlobals "int" = some none)
    (z5 : PySem.W.nsIn K mainGlobals "isinstance" = some none)
    (z6 : PySem.W.nsIn K mainGlobals "len" = some none)
    (z7 : PySem.W.nsIn K mainGlobals "list" = some none)
    (z8 : PySem.W.nsIn K mainGlobals "max" = some none)
    (z9 : PySem.W.nsIn K mainGlobals "min" = some none)
    (z10 : PySem.W.nsIn K mainGlobals "range" = some none)
    (z11 : PySem.W.nsIn K mainGlobals "repr" = some none)
    (z12 : PySem.W.nsIn K mainGlobals "str" = some none)
    (z13 : PySem.W.nsIn K mainGlobals "sum" = some none)
    (z14 : PySem.W.nsIn K mainGlobals "tuple" = some none)
    (z15 : PySem.W.nsIn K mainGlobals "zip" = some none)
    (g0 : PySem.W.nsIn K mainGlobals "gcd" = some (some (.builtin "math.gcd"))) : ProgF tb K mg := by
  refine ⟨fun x hx => ?_, fun x hx => ?_, fun f m x ps h1 h2 => ?_⟩
  · skip
    simp only [tb, List.mem_cons, List.not_mem_nil, or_false] at hx
    rcases hx with rfl | rfl | rfl | rfl | rfl | rfl | rfl | rfl | rfl | rfl | rfl | rfl | rfl | rfl | rfl | rfl
    · exact PySem.W.mg_none_of X G z0
    · exact PySem.W.mg_none_of X G z1
    · exact PySem.W.mg_none_of X G z2
    · exact PySem.W.mg_none_of X G z3
    · exact PySem.W.mg_none_of X G z4
    · exact PySem.W.mg_none_of X G z5
    · exact PySem.W.mg_none_of X G z6
    · exact PySem.W.mg_none_of X G z7
    · exact PySem.W.mg_none_of X G z8
    · exact PySem.W.mg_none_of X G z9
    · exact PySem.W.mg_none_of X G z10
    · exact PySem.W.mg_none_of X G z11
    · exact PySem.W.mg_none_of X G z12
    · exact PySem.W.mg_none_of X G z13
    · exact PySem.W.mg_none_of X G z14
    · exact PySem.W.mg_none_of X G z15
  · skip
    simp only [tb, List.mem_cons, List.not_mem_nil, or_false] at hx
    rcases hx with rfl
    · exact PySem.W.mg_of X G g0
  · match f, h1, h2 with
    | 0, h1, h2 =>
      obtain rfl := Option.some.inj h1
      obtain ⟨rfl, rfl⟩ := Prod.mk.inj (Option.some.inj h2)
      have F := fun_mk (st := t_is_whole) l0 c0 k0
      refine ⟨f0, _, ⟨⟨t_is_whole, n_is_whole, F, c_is_whole, rfl, rfl, m_is_whole⟩, PySem.W.mg_of X G a0, F.binds fun _ _ _ _ _ _ us hl => match us, hl with | [_], _ => rfl, fun q hq hf => ?_⟩⟩
      simp only [tb, List.mem_cons, List.not_mem_nil, or_false] at hq
      rcases hq with rfl | rfl | rfl | rfl | rfl
      · exact absurd hf (by decide)
      · exact absurd hf (by decide)
      · exact absurd hf (by decide)
      · exact absurd hf (by decide)
      · exact absurd hf (by decide)
    | 1, h1, h2 =>
      obtain rfl := Option.some.inj h1
      obtain ⟨rfl, rfl⟩ := Prod.mk.inj (Option.some.inj h2)
      have F := fun_mk (st := t_is_tuple_of) l1 c1 k1
      refine ⟨f1, _, ⟨⟨t_is_tuple_of, n_is_tuple_of, F, c_is_tuple_of, rfl, rfl, m_is_tuple_of⟩, PySem.W.mg_of X G a1, F.binds fun _ _ _ _ _ _ us hl => match us, hl with | [_, _], _ => rfl, fun q hq hf => ?_⟩⟩
      simp only [tb, List.mem_cons, List.not_mem_nil, or_false] at hq
      rcases hq with rfl | rfl | rfl | rfl | rfl
      · exact absurd hf (by decide)
      · exact absurd hf (by decide)
      · exact absurd hf (by decide)
      · exact absurd hf (by decide)
      · exact absurd hf (by decide)
    | 2, h1, h2 =>
      obtain rfl := Option.some.inj h1
      obtain ⟨rfl, rfl⟩ := Prod.mk.inj (Option.some.inj h2)
      have F := fun_mk (st := t_is_fraction) l2 c2 k2
      refine ⟨f2, _, ⟨⟨t_is_fraction, n_is_fraction, F, c_is_fraction, rfl, rfl, m_is_fraction⟩, PySem.W.mg_of X G a2, F.binds fun _ _ _ _ _ _ us hl => match us, hl with | [_], _ => rfl, fun q hq hf => ?_⟩⟩
      simp only [tb, List.mem_cons, List.not_mem_nil, or_false] at hq
      rcases hq with rfl | rfl | rfl | rfl | rfl
      · exact absurd hf (by decide)
      · exact absurd hf (by decide)
      · exact absurd hf (by decide)
      · exact absurd hf (by decide)
      · exact absurd hf (by decide)
    | 3, h1, h2 =>
      obtain rfl := Option.some.inj h1
      obtain ⟨rfl, rfl⟩ := Prod.mk.inj (Option.some.inj h2)
      have F := fun_mk (st := t_fraction) l3 c3 k3
      refine ⟨f3, _, ⟨⟨t_fraction, n_fraction, F, c_fraction, rfl, rfl, m_fraction⟩, PySem.W.mg_of X G a3, F.binds fun _ _ _ _ _ _ us hl => match us, hl with | [_, _], _ => rfl, fun q hq hf => ?_⟩⟩
      simp only [tb, List.mem_cons, List.not_mem_nil, or_false] at hq
      rcases hq with rfl | rfl | rfl | rfl | rfl
      · exact absurd hf (by decide)
      · exact absurd hf (by decide)
      · exact absurd hf (by decide)
      · exact absurd hf (by decide)
      · exact absurd hf (by decide)
    | 4, h1, h2 =>
      obtain rfl := Option.some.inj h1
      obtain ⟨rfl, rfl⟩ := Prod.mk.inj (Option.some.inj h2)
      have F := fun_mk (st := t_minus) l4 c4 k4
      refine ⟨f4, _, ⟨⟨t_minus, n_minus, F, c_minus, rfl, rfl, m_minus⟩, PySem.W.mg_of X G a4, F.binds fun _ _ _ _ _ _ us hl => match us, hl with | [_, _], _ => rfl, fun q hq hf => ?_⟩⟩
      simp only [tb, List.mem_cons, List.not_mem_nil, or_false] at hq
      rcases hq with rfl | rfl | rfl | rfl | rfl
      · exact absurd hf (by decide)
      · exact absurd hf (by decide)
      · exact absurd hf (by decide)
      · exact absurd hf (by decide)
      · exact absurd hf (by decide)
    | 5, h1, h2 =>
      obtain rfl := Option.some.inj h1
      obtain ⟨rfl, rfl⟩ := Prod.mk.inj (Option.some.inj h2)
      have F := fun_mk (st := t_times) l5 c5 k5
      refine ⟨f5, _, ⟨⟨t_times, n_times, F, c_times, rfl, rfl, m_times⟩, PySem.W.mg_of X G a5, F.binds fun _ _ _ _ _ _ us hl => match us, hl with | [_, _], _ => rfl, fun q hq hf => ?_⟩⟩
      simp only [tb, List.mem_cons, List.not_mem_nil, or_false] at hq
      rcases hq with rfl | rfl | rfl | rfl | rfl
      · exact absurd hf (by decide)
      · exact absurd hf (by decide)
      · exact absurd hf (by decide)
      · exact absurd hf (by decide)
      · exact absurd hf (by decide)
    | 6, h1, h2 =>
      obtain rfl := Option.some.inj h1
      obtain ⟨rfl, rfl⟩ := Prod.mk.inj (Option.some.inj h2)
      have F := fun_mk (st := t_is_less) l6 c6 k6
      refine ⟨f6, _, ⟨⟨t_is_less, n_is_less, F, c_is_less, rfl, rfl, m_is_less⟩, PySem.W.mg_of X G a6, F.binds fun _ _ _ _ _ _ us hl => match us, hl with | [_, _], _ => rfl, fun q hq hf => ?_⟩⟩
      simp only [tb, List.mem_cons, List.not_mem_nil, or_false] at hq
      rcases hq with rfl | rfl | rfl | rfl | rfl
      · exact absurd hf (by decide)
      · exact absurd hf (by decide)
      · exact absurd hf (by decide)
      · exact absurd hf (by decide)
      · exact absurd hf (by decide)
    | 7, h1, h2 =>
      obtain rfl := Option.some.inj h1
      obtain ⟨rfl, rfl⟩ := Prod.mk.inj (Option.some.inj h2)
      have F := fun_mk (st := t_is_point) l7 c7 k7
      refine ⟨f7, _, ⟨⟨t_is_point, n_is_point, F, c_is_point, rfl, rfl, m_is_point⟩, PySem.W.mg_of X G a7, F.binds fun _ _ _ _ _ _ us hl => match us, hl with | [_], _ => rfl, fun q hq hf => ?_⟩⟩
      simp only [tb, List.mem_cons, List.not_mem_nil, or_false] at hq
      rcases hq with rfl | rfl | rfl | rfl | rfl
      · exact absurd hf (by decide)
      · exact absurd hf (by decide)
      · exact absurd hf (by decide)
      · exact absurd hf (by decide)
      · refine ⟨fun s us ws all e1 e2 e3 => ?_⟩
        obtain rfl := len_0 e1
        obtain ⟨w0, rfl⟩ := len_1 e2
        obtain rfl := pick_all (l := [w0]) e3
        exact .of_eq rfl
    | 8, h1, h2 =>
      obtain rfl := Option.some.inj h1
      obtain ⟨rfl, rfl⟩ := Prod.mk.inj (Option.some.inj h2)
      have F := fun_mk (st := t_check_point) l8 c8 k8
      refine ⟨f8, _, ⟨⟨t_check_point, n_check_point, F, c_check_point, rfl, rfl, m_check_point⟩, PySem.W.mg_of X G a8, F.binds fun _ _ _ _ _ _ us hl => match us, hl with | [_], _ => rfl, fun q hq hf => ?_⟩⟩
      simp only [tb, List.mem_cons, List.not_mem_nil, or_false] at hq
      rcases hq with rfl | rfl | rfl | rfl | rfl
      · exact absurd hf (by decide)
      · exact absurd hf (by decide)
      · exact absurd hf (by decide)
      · exact absurd hf (by decide)
      · exact absurd hf (by decide)
    | 9, h1, h2 =>
      obtain rfl := Option.some.inj h1
      obtain ⟨rfl, rfl⟩ := Prod.mk.inj (Option.some.inj h2)
      have F := fun_mk (st := t_comes_ahead) l9 c9 k9
      refine ⟨f9, _, ⟨⟨t_comes_ahead, n_comes_ahead, F, c_comes_ahead, rfl, rfl, m_comes_ahead⟩, PySem.W.mg_of X G a9, F.binds fun _ _ _ _ _ _ us hl => match us, hl with | [_, _], _ => rfl, fun q hq hf => ?_⟩⟩
      simp only [tb, List.mem_cons, List.not_mem_nil, or_false] at hq
      rcases hq with rfl | rfl | rfl | rfl | rfl
      · exact absurd hf (by decide)
      · exact absurd hf (by decide)
      · exact absurd hf (by decide)
      · exact absurd hf (by decide)
      · exact absurd hf (by decide)
    | 10, h1, h2 =>
      obtain rfl := Option.some.inj h1
      obtain ⟨rfl, rfl⟩ := Prod.mk.inj (Option.some.inj h2)
      have F := fun_mk (st := t_are_points) l10 c10 k10
      refine ⟨f10, _, ⟨⟨t_are_points, n_are_points, F, c_are_points, rfl, rfl, m_are_points⟩, PySem.W.mg_of X G a10, F.binds fun _ _ _ _ _ _ us hl => match us, hl with | [_], _ => rfl, fun q hq hf => ?_⟩⟩
      simp only [tb, List.mem_cons, List.not_mem_nil, or_false] at hq
      rcases hq with rfl | rfl | rfl | rfl | rfl
      · exact absurd hf (by decide)
      · exact absurd hf (by decide)
      · exact absurd hf (by decide)
      · exact absurd hf (by decide)
      · exact absurd hf (by decide)
    | 11, h1, h2 =>
      obtain rfl := Option.some.inj h1
      obtain ⟨rfl, rfl⟩ := Prod.mk.inj (Option.some.inj h2)
      have F := fun_mk (st := t_is_set) l11 c11 k11
      refine ⟨f11, _, ⟨⟨t_is_set, n_is_set, F, c_is_set, rfl, rfl, m_is_set⟩, PySem.W.mg_of X G a11, F.binds fun _ _ _ _ _ _ us hl => match us, hl with | [_], _ => rfl, fun q hq hf => ?_⟩⟩
      simp only [tb, List.mem_cons, List.not_mem_nil, or_false] at hq
      rcases hq with rfl | rfl | rfl | rfl | rfl
      · exact absurd hf (by decide)
      · exact absurd hf (by decide)
      · exact absurd hf (by decide)
      · refine ⟨fun s us ws all e1 e2 e3 => ?_⟩
        obtain rfl := len_0 e1
        obtain ⟨w0, rfl⟩ := len_1 e2
        obtain rfl := pick_all (l := [w0]) e3
        exact .of_eq rfl
      · exact absurd hf (by decide)
    | 12, h1, h2 =>
      obtain rfl := Option.some.inj h1
      obtain ⟨rfl, rfl⟩ := Prod.mk.inj (Option.some.inj h2)
      have F := fun_mk (st := t_sorted_there) l12 c12 k12
      refine ⟨f12, _, ⟨⟨t_sorted_there, n_sorted_there, F, c_sorted_there, rfl, rfl, m_sorted_there⟩, PySem.W.mg_of X G a12, F.binds fun _ _ _ _ _ _ us hl => match us, hl with | [_], _ => rfl, fun q hq hf => ?_⟩⟩
      simp only [tb, List.mem_cons, List.not_mem_nil, or_false] at hq
      rcases hq with rfl | rfl | rfl | rfl | rfl
      · exact absurd hf (by decide)
      · exact absurd hf (by decide)
      · exact absurd hf (by decide)
      · exact absurd hf (by decide)
      · exact absurd hf (by decide)
    | 13, h1, h2 =>
      obtain rfl := Option.some.inj h1
      obtain ⟨rfl, rfl⟩ := Prod.mk.inj (Option.some.inj h2)
      have F := fun_mk (st := t_sorted_points) l13 c13 k13
      refine ⟨f13, _, ⟨⟨t_sorted_points, n_sorted_points, F, c_sorted_points, rfl, rfl, m_sorted_points⟩, PySem.W.mg_of X G a13, F.binds fun _ _ _ _ _ _ us hl => match us, hl with | [_], _ => rfl, fun q hq hf => ?_⟩⟩
      simp only [tb, List.mem_cons, List.not_mem_nil, or_false] at hq
      rcases hq with rfl | rfl | rfl | rfl | rfl
      · exact absurd hf (by decide)
      · exact absurd hf (by decide)
      · refine ⟨fun s us ws all e1 e2 e3 => ?_⟩
        obtain rfl := len_0 e1
        obtain ⟨w0, rfl⟩ := len_1 e2
        obtain rfl := pick_all (l := [w0]) e3
        exact .of_eq rfl
      · exact absurd hf (by decide)
      · exact absurd hf (by decide)
    | 14, h1, h2 =>
      obtain rfl := Option.some.inj h1
      obtain ⟨rfl, rfl⟩ := Prod.mk.inj (Option.some.inj h2)
      have F := fun_mk (st := t_turn_there) l14 c14 k14
      refine ⟨f14, _, ⟨⟨t_turn_there, n_turn_there, F, c_turn_there, rfl, rfl, m_turn_there⟩, PySem.W.mg_of X G a14, F.binds fun _ _ _ _ _ _ us hl => match us, hl with | [_, _, _], _ => rfl, fun q hq hf => ?_⟩⟩
      simp only [tb, List.mem_cons, List.not_mem_nil, or_false] at hq
      rcases hq with rfl | rfl | rfl | rfl | rfl
      · exact absurd hf (by decide)
      · exact absurd hf (by decide)
      · exact absurd hf (by decide)
      · exact absurd hf (by decide)
      · exact absurd hf (by decide)
    | 15, h1, h2 =>
      obtain rfl := Option.some.inj h1
      obtain ⟨rfl, rfl⟩ := Prod.mk.inj (Option.some.inj h2)
      have F := fun_mk (st := t_sign_of) l15 c15 k15
      refine ⟨f15, _, ⟨⟨t_sign_of, n_sign_of, F, c_sign_of, rfl, rfl, m_sign_of⟩, PySem.W.mg_of X G a15, F.binds fun _ _ _ _ _ _ us hl => match us, hl with | [_], _ => rfl, fun q hq hf => ?_⟩⟩
      simp only [tb, List.mem_cons, List.not_mem_nil, or_false] at hq
      rcases hq with rfl | rfl | rfl | rfl | rfl
      · exact absurd hf (by decide)
      · exact absurd hf (by decide)
      · exact absurd hf (by decide)
      · exact absurd hf (by decide)
      · exact absurd hf (by decide)
    | 16, h1, h2 =>
      obtain rfl := Option.some.inj h1
      obtain ⟨rfl, rfl⟩ := Prod.mk.inj (Option.some.inj h2)
      have F := fun_mk (st := t_turn_of) l16 c16 k16
      refine ⟨f16, _, ⟨⟨t_turn_of, n_turn_of, F, c_turn_of, rfl, rfl, m_turn_of⟩, PySem.W.mg_of X G a16, F.binds fun _ _ _ _ _ _ us hl => match us, hl with | [_, _, _], _ => rfl, fun q hq hf => ?_⟩⟩
      simp only [tb, List.mem_cons, List.not_mem_nil, or_false] at hq
      rcases hq with rfl | rfl | rfl | rfl | rfl
      · refine ⟨fun s us ws all e1 e2 e3 => ?_⟩
        obtain rfl := len_0 e1
        obtain ⟨w0, w1, w2, rfl⟩ := len_3 e2
        obtain rfl := pick_all (l := [w2, w1, w0]) e3
        exact .of_eq rfl
      · exact absurd hf (by decide)
      · exact absurd hf (by decide)
      · exact absurd hf (by decide)
      · exact absurd hf (by decide)
    | 17, h1, h2 =>
      obtain rfl := Option.some.inj h1
      obtain ⟨rfl, rfl⟩ := Prod.mk.inj (Option.some.inj h2)
      have F := fun_mk (st := t_order_of) l17 c17 k17
      refine ⟨f17, _, ⟨⟨t_order_of, n_order_of, F, c_order_of, rfl, rfl, m_order_of⟩, PySem.W.mg_of X G a17, F.binds fun _ _ _ _ _ _ us hl => match us, hl with | [_, _, _], _ => rfl, fun q hq hf => ?_⟩⟩
      simp only [tb, List.mem_cons, List.not_mem_nil, or_false] at hq
      rcases hq with rfl | rfl | rfl | rfl | rfl
      · exact absurd hf (by decide)
      · refine ⟨fun s us ws all e1 e2 e3 => ?_⟩
        obtain rfl := len_0 e1
        obtain ⟨w0, w1, w2, rfl⟩ := len_3 e2
        obtain rfl := pick_all (l := [w2, w1, w0]) e3
        exact .of_eq rfl
      · exact absurd hf (by decide)
      · exact absurd hf (by decide)
      · exact absurd hf (by decide)
    | 18, h1, h2 =>
      obtain rfl := Option.some.inj h1
      obtain ⟨rfl, rfl⟩ := Prod.mk.inj (Option.some.inj h2)
      have F := fun_mk (st := t__law_purse) l18 c18 k18
      refine ⟨f18, _, ⟨⟨t__law_purse, n__law_purse, F, c__law_purse, rfl, rfl, m__law_purse⟩, PySem.W.mg_of X G a18, F.binds fun _ _ _ _ _ _ us hl => match us, hl with | [_, _], _ => rfl, fun q hq hf => ?_⟩⟩
      simp only [tb, List.mem_cons, List.not_mem_nil, or_false] at hq
      rcases hq with rfl | rfl | rfl | rfl | rfl
      · exact absurd hf (by decide)
      · exact absurd hf (by decide)
      · exact absurd hf (by decide)
      · exact absurd hf (by decide)
      · exact absurd hf (by decide)
    | 19, h1, h2 =>
      obtain rfl := Option.some.inj h1
      obtain ⟨rfl, rfl⟩ := Prod.mk.inj (Option.some.inj h2)
      have F := fun_mk (st := t__law_mixed) l19 c19 k19
      refine ⟨f19, _, ⟨⟨t__law_mixed, n__law_mixed, F, c__law_mixed, rfl, rfl, m__law_mixed⟩, PySem.W.mg_of X G a19, F.binds fun _ _ _ _ _ _ us hl => match us, hl with | [_, _, _], _ => rfl, fun q hq hf => ?_⟩⟩
      simp only [tb, List.mem_cons, List.not_mem_nil, or_false] at hq
      rcases hq with rfl | rfl | rfl | rfl | rfl
      · exact absurd hf (by decide)
      · exact absurd hf (by decide)
      · exact absurd hf (by decide)
      · exact absurd hf (by decide)
      · exact absurd hf (by decide)
    | 20, h1, h2 =>
      obtain rfl := Option.some.inj h1
      obtain ⟨rfl, rfl⟩ := Prod.mk.inj (Option.some.inj h2)
      have F := fun_mk (st := t__law_draw) l20 c20 k20
      refine ⟨f20, _, ⟨⟨t__law_draw, n__law_draw, F, c__law_draw, rfl, rfl, m__law_draw⟩, PySem.W.mg_of X G a20, F.binds fun _ _ _ _ _ _ us hl => match us, hl with | [_, _], _ => rfl, fun q hq hf => ?_⟩⟩
      simp only [tb, List.mem_cons, List.not_mem_nil, or_false] at hq
      rcases hq with rfl | rfl | rfl | rfl | rfl
      · exact absurd hf (by decide)
      · exact absurd hf (by decide)
      · exact absurd hf (by decide)
      · exact absurd hf (by decide)
      · exact absurd hf (by decide)
    | 21, h1, h2 =>
      obtain rfl := Option.some.inj h1
      obtain ⟨rfl, rfl⟩ := Prod.mk.inj (Option.some.inj h2)
      have F := fun_mk (st := t__law_shuffled) l21 c21 k21
      refine ⟨f21, _, ⟨⟨t__law_shuffled, n__law_shuffled, F, c__law_shuffled, rfl, rfl, m__law_shuffled⟩, PySem.W.mg_of X G a21, F.binds fun _ _ _ _ _ _ us hl => match us, hl with | [_, _], _ => rfl, fun q hq hf => ?_⟩⟩
      simp only [tb, List.mem_cons, List.not_mem_nil, or_false] at hq
      rcases hq with rfl | rfl | rfl | rfl | rfl
      · exact absurd hf (by decide)
      · exact absurd hf (by decide)
      · exact absurd hf (by decide)
      · exact absurd hf (by decide)
      · exact absurd hf (by decide)
    | 22, h1, h2 =>
      obtain rfl := Option.some.inj h1
      obtain ⟨rfl, rfl⟩ := Prod.mk.inj (Option.some.inj h2)
      have F := fun_mk (st := t__law_same) l22 c22 k22
      refine ⟨f22, _, ⟨⟨t__law_same, n__law_same, F, c__law_same, rfl, rfl, m__law_same⟩, PySem.W.mg_of X G a22, F.binds fun _ _ _ _ _ _ us hl => match us, hl with | [_, _], _ => rfl, fun q hq hf => ?_⟩⟩
      simp only [tb, List.mem_cons, List.not_mem_nil, or_false] at hq
      rcases hq with rfl | rfl | rfl | rfl | rfl
      · exact absurd hf (by decide)
      · exact absurd hf (by decide)
      · exact absurd hf (by decide)
      · exact absurd hf (by decide)
      · exact absurd hf (by decide)
    | 23, h1, h2 =>
      obtain rfl := Option.some.inj h1
      obtain ⟨rfl, rfl⟩ := Prod.mk.inj (Option.some.inj h2)
      have F := fun_mk (st := t__law_purses) l23 c23 k23
      refine ⟨f23, _, ⟨⟨t__law_purses, n__law_purses, F, c__law_purses, rfl, rfl, m__law_purses⟩, PySem.W.mg_of X G a23, F.binds fun _ _ _ _ _ _ us hl => match us, hl with | [_, _], _ => rfl, fun q hq hf => ?_⟩⟩
      simp only [tb, List.mem_cons, List.not_mem_nil, or_false] at hq
      rcases hq with rfl | rfl | rfl | rfl | rfl
      · exact absurd hf (by decide)
      · exact absurd hf (by decide)
      · exact absurd hf (by decide)
      · exact absurd hf (by decide)
      · exact absurd hf (by decide)
    | 24, h1, h2 =>
      obtain rfl := Option.some.inj h1
      obtain ⟨rfl, rfl⟩ := Prod.mk.inj (Option.some.inj h2)
      have F := fun_mk (st := t__law_frac) l24 c24 k24
      refine ⟨f24, _, ⟨⟨t__law_frac, n__law_frac, F, c__law_frac, rfl, rfl, m__law_frac⟩, PySem.W.mg_of X G a24, F.binds fun _ _ _ _ _ _ us hl => match us, hl with | [_, _], _ => rfl, fun q hq hf => ?_⟩⟩
      simp only [tb, List.mem_cons, List.not_mem_nil, or_false] at hq
      rcases hq with rfl | rfl | rfl | rfl | rfl
      · exact absurd hf (by decide)
      · exact absurd hf (by decide)
      · exact absurd hf (by decide)
      · exact absurd hf (by decide)
      · exact absurd hf (by decide)
    | 25, h1, h2 =>
      obtain rfl := Option.some.inj h1
      obtain ⟨rfl, rfl⟩ := Prod.mk.inj (Option.some.inj h2)
      have F := fun_mk (st := t__law_plus) l25 c25 k25
      refine ⟨f25, _, ⟨⟨t__law_plus, n__law_plus, F, c__law_plus, rfl, rfl, m__law_plus⟩, PySem.W.mg_of X G a25, F.binds fun _ _ _ _ _ _ us hl => match us, hl with | [_, _], _ => rfl, fun q hq hf => ?_⟩⟩
      simp only [tb, List.mem_cons, List.not_mem_nil, or_false] at hq
      rcases hq with rfl | rfl | rfl | rfl | rfl
      · exact absurd hf (by decide)
      · exact absurd hf (by decide)
      · exact absurd hf (by decide)
      · exact absurd hf (by decide)
      · exact absurd hf (by decide)
    | 26, h1, h2 =>
      obtain rfl := Option.some.inj h1
      obtain ⟨rfl, rfl⟩ := Prod.mk.inj (Option.some.inj h2)
      have F := fun_mk (st := t__law_minus) l26 c26 k26
      refine ⟨f26, _, ⟨⟨t__law_minus, n__law_minus, F, c__law_minus, rfl, rfl, m__law_minus⟩, PySem.W.mg_of X G a26, F.binds fun _ _ _ _ _ _ us hl => match us, hl with | [_, _], _ => rfl, fun q hq hf => ?_⟩⟩
      simp only [tb, List.mem_cons, List.not_mem_nil, or_false] at hq
      rcases hq with rfl | rfl | rfl | rfl | rfl
      · exact absurd hf (by decide)
      · exact absurd hf (by decide)
      · exact absurd hf (by decide)
      · exact absurd hf (by decide)
      · exact absurd hf (by decide)
    | 27, h1, h2 =>
      obtain rfl := Option.some.inj h1
      obtain ⟨rfl, rfl⟩ := Prod.mk.inj (Option.some.inj h2)
      have F := fun_mk (st := t__law_times) l27 c27 k27
      refine ⟨f27, _, ⟨⟨t__law_times, n__law_times, F, c__law_times, rfl, rfl, m__law_times⟩, PySem.W.mg_of X G a27, F.binds fun _ _ _ _ _ _ us hl => match us, hl with | [_, _], _ => rfl, fun q hq hf => ?_⟩⟩
      simp only [tb, List.mem_cons, List.not_mem_nil, or_false] at hq
      rcases hq with rfl | rfl | rfl | rfl | rfl
      · exact absurd hf (by decide)
      · exact absurd hf (by decide)
      · exact absurd hf (by decide)
      · exact absurd hf (by decide)
      · exact absurd hf (by decide)
    | 28, h1, h2 =>
      obtain rfl := Option.some.inj h1
      obtain ⟨rfl, rfl⟩ := Prod.mk.inj (Option.some.inj h2)
      have F := fun_mk (st := t__law_less) l28 c28 k28
      refine ⟨f28, _, ⟨⟨t__law_less, n__law_less, F, c__law_less, rfl, rfl, m__law_less⟩, PySem.W.mg_of X G a28, F.binds fun _ _ _ _ _ _ us hl => match us, hl with | [_, _], _ => rfl, fun q hq hf => ?_⟩⟩
      simp only [tb, List.mem_cons, List.not_mem_nil, or_false] at hq
      rcases hq with rfl | rfl | rfl | rfl | rfl
      · exact absurd hf (by decide)
      · exact absurd hf (by decide)
      · exact absurd hf (by decide)
      · exact absurd hf (by decide)
      · exact absurd hf (by decide)
    | 29, h1, h2 =>
      obtain rfl := Option.some.inj h1
      obtain ⟨rfl, rfl⟩ := Prod.mk.inj (Option.some.inj h2)
      have F := fun_mk (st := t__law_number) l29 c29 k29
      refine ⟨f29, _, ⟨⟨t__law_number, n__law_number, F, c__law_number, rfl, rfl, m__law_number⟩, PySem.W.mg_of X G a29, F.binds fun _ _ _ _ _ _ us hl => match us, hl with | [_], _ => rfl, fun q hq hf => ?_⟩⟩
      simp only [tb, List.mem_cons, List.not_mem_nil, or_false] at hq
      rcases hq with rfl | rfl | rfl | rfl | rfl
      · exact absurd hf (by decide)
      · exact absurd hf (by decide)
      · exact absurd hf (by decide)
      · exact absurd hf (by decide)
      · exact absurd hf (by decide)
    | 30, h1, h2 =>
      obtain rfl := Option.some.inj h1
      obtain ⟨rfl, rfl⟩ := Prod.mk.inj (Option.some.inj h2)
      have F := fun_mk (st := t__law_point) l30 c30 k30
      refine ⟨f30, _, ⟨⟨t__law_point, n__law_point, F, c__law_point, rfl, rfl, m__law_point⟩, PySem.W.mg_of X G a30, F.binds fun _ _ _ _ _ _ us hl => match us, hl with | [_], _ => rfl, fun q hq hf => ?_⟩⟩
      simp only [tb, List.mem_cons, List.not_mem_nil, or_false] at hq
      rcases hq with rfl | rfl | rfl | rfl | rfl
      · exact absurd hf (by decide)
      · exact absurd hf (by decide)
      · exact absurd hf (by decide)
      · exact absurd hf (by decide)
      · exact absurd hf (by decide)
    | 31, h1, h2 =>
      obtain rfl := Option.some.inj h1
      obtain ⟨rfl, rfl⟩ := Prod.mk.inj (Option.some.inj h2)
      have F := fun_mk (st := t__law_ahead) l31 c31 k31
      refine ⟨f31, _, ⟨⟨t__law_ahead, n__law_ahead, F, c__law_ahead, rfl, rfl, m__law_ahead⟩, PySem.W.mg_of X G a31, F.binds fun _ _ _ _ _ _ us hl => match us, hl with | [_, _], _ => rfl, fun q hq hf => ?_⟩⟩
      simp only [tb, List.mem_cons, List.not_mem_nil, or_false] at hq
      rcases hq with rfl | rfl | rfl | rfl | rfl
      · exact absurd hf (by decide)
      · exact absurd hf (by decide)
      · exact absurd hf (by decide)
      · exact absurd hf (by decide)
      · exact absurd hf (by decide)
    | 32, h1, h2 =>
      obtain rfl := Option.some.inj h1
      obtain ⟨rfl, rfl⟩ := Prod.mk.inj (Option.some.inj h2)
      have F := fun_mk (st := t__law_turn) l32 c32 k32
      refine ⟨f32, _, ⟨⟨t__law_turn, n__law_turn, F, c__law_turn, rfl, rfl, m__law_turn⟩, PySem.W.mg_of X G a32, F.binds fun _ _ _ _ _ _ us hl => match us, hl with | [_, _, _], _ => rfl, fun q hq hf => ?_⟩⟩
      simp only [tb, List.mem_cons, List.not_mem_nil, or_false] at hq
      rcases hq with rfl | rfl | rfl | rfl | rfl
      · exact absurd hf (by decide)
      · exact absurd hf (by decide)
      · exact absurd hf (by decide)
      · exact absurd hf (by decide)
      · exact absurd hf (by decide)
    | 33, h1, h2 =>
      obtain rfl := Option.some.inj h1
      obtain ⟨rfl, rfl⟩ := Prod.mk.inj (Option.some.inj h2)
      have F := fun_mk (st := t__law_sign) l33 c33 k33
      refine ⟨f33, _, ⟨⟨t__law_sign, n__law_sign, F, c__law_sign, rfl, rfl, m__law_sign⟩, PySem.W.mg_of X G a33, F.binds fun _ _ _ _ _ _ us hl => match us, hl with | [_], _ => rfl, fun q hq hf => ?_⟩⟩
      simp only [tb, List.mem_cons, List.not_mem_nil, or_false] at hq
      rcases hq with rfl | rfl | rfl | rfl | rfl
      · exact absurd hf (by decide)
      · exact absurd hf (by decide)
      · exact absurd hf (by decide)
      · exact absurd hf (by decide)
      · exact absurd hf (by decide)
    | 34, h1, h2 =>
      obtain rfl := Option.some.inj h1
      obtain ⟨rfl, rfl⟩ := Prod.mk.inj (Option.some.inj h2)
      have F := fun_mk (st := t__law_mid) l34 c34 k34
      refine ⟨f34, _, ⟨⟨t__law_mid, n__law_mid, F, c__law_mid, rfl, rfl, m__law_mid⟩, PySem.W.mg_of X G a34, F.binds fun _ _ _ _ _ _ us hl => match us, hl with | [_, _, _], _ => rfl, fun q hq hf => ?_⟩⟩
      simp only [tb, List.mem_cons, List.not_mem_nil, or_false] at hq
      rcases hq with rfl | rfl | rfl | rfl | rfl
      · exact absurd hf (by decide)
      · exact absurd hf (by decide)
      · exact absurd hf (by decide)
      · exact absurd hf (by decide)
      · exact absurd hf (by decide)
    | 35, h1, h2 =>
      obtain rfl := Option.some.inj h1
      obtain ⟨rfl, rfl⟩ := Prod.mk.inj (Option.some.inj h2)
      have F := fun_mk (st := t_law) l35 c35 k35
      refine ⟨f35, _, ⟨⟨t_law, n_law, F, c_law, rfl, rfl, m_law⟩, PySem.W.mg_of X G a35, F.binds fun _ _ _ _ _ _ us hl => match us, hl with | [_], _ => rfl, fun q hq hf => ?_⟩⟩
      simp only [tb, List.mem_cons, List.not_mem_nil, or_false] at hq
      rcases hq with rfl | rfl | rfl | rfl | rfl
      · exact absurd hf (by decide)
      · exact absurd hf (by decide)
      · exact absurd hf (by decide)
      · exact absurd hf (by decide)
      · exact absurd hf (by decide)
    | i + 36, h1, h2 => exact nomatch h1
end K02
set_option Elab.async false
set_option linter.all false
set_option maxRecDepth 100000
set_option maxHeartbeats 400000
namespace K02
open PySem PySem.Spec PyProof.Rows L2 DI
section
variable {wf : Nat} {μ : Mem}
theorem fr_prog : FracOk tbT wf 3 := FracOk.prog at_fraction
theorem fr_law : FracOk tbT wf 24 := FracOk.law at__law_frac
theorem o_minus : OpOk tbT wf (· - ·) 4 := OpOk.minus fr_prog at_minus
theorem o_times : OpOk tbT wf (· * ·) 5 := OpOk.times fr_prog at_times
theorem lo_plus : OpOk tbT wf (· + ·) 25 := OpOk.plus fr_law at__law_plus
theorem lo_minus : OpOk tbT wf (· - ·) 26 := OpOk.minus fr_law at__law_minus
theorem lo_times : OpOk tbT wf (· * ·) 27 := OpOk.times fr_law at__law_times
theorem dr (n : Nat) : DrawOk tbT wf (n + 2) 20 := DrawOk.mk at__law_mixed at__law_draw
theorem num (n : Nat) (hw : 2 ^ 30 ≤ wf) (μ : Mem) (c b : Nat) (h : Pur μ c b) (hb : b + 30 < 2 ^ 190) : ∃ (q : Rat) (μ' : Mem), callN tbT wf (n + 3) 29 [.ref c] μ = some (dQ q, μ') ∧ Sm 30 q ∧ Pur μ' c (b + 30) ∧ Ot c μ μ' :=
  number_ok (n := n + 1) (dr n) fr_law at__law_number hw h hb
theorem pt (n : Nat) (hw : 2 ^ 30 ≤ wf) (μ : Mem) (c b : Nat) (h : Pur μ c b) (hb : b + 60 < 2 ^ 190) : ∃ (p : Pt) (μ' : Mem), callN tbT wf (n + 4) 30 [.ref c] μ = some (dP p, μ') ∧ SmP 30 p ∧ Pur μ' c (b + 60) ∧ Ot c μ μ' :=
  point_ok (num n hw) at__law_point h hb
theorem isp (n : Nat) (μ : Mem) {d : D} (hb : bare d = true) : callN tbT wf (n + 3) 7 [d] μ = some (.bl (pointB d), μ) := is_point_ok at_is_whole at_is_tuple_of at_is_fraction at_is_point hb
theorem arep (n : Nat) (μ : Mem) (d : D) (hb : bare d = true) (hs : ∀ xs, d = .lst xs → xs.length ≤ sizeLine) : callN tbT wf (n + 4) 10 [d] μ = some (.bl (areB pointB d), μ) := are_ok at_are_points (fun d h => isp n μ h) hb hs
theorem ah (n : Nat) : AheadOk tbT wf (n + 2) 122 9 := fun μ p q hp hq => ahead_ok at_is_less at_comes_ahead hp hq (by decide)
theorem lah (n : Nat) : AheadOk tbT wf (n + 2) 122 31 := fun μ p q hp hq => law_ahead_ok at__law_less at__law_ahead hp hq (by decide)
theorem iset (n : Nat) (μ : Mem) {l : List Pt} (hl : ∀ p, p ∈ l → SmP 122 p) (hs : l.length ≤ sizeLine) : callN tbT wf (n + 5) 11 [.lst (l.map dP)] μ = some (.bl (chainB l), μ) := is_set_ok at_is_set (arep n) (ah (n + 2)) hl hs
theorem iset_no (n : Nat) (μ : Mem) {d : D} (hb : bare d = true) (hs : ∀ xs, d = .lst xs → xs.length ≤ sizeLine) (h : areB pointB d = false) : callN tbT wf (n + 5) 11 [d] μ = some (.bl false, μ) := is_set_no at_is_set (arep n) hb hs h
theorem areT (l : List Pt) : areB pointB (.lst (l.map dP)) = true := by simp [areB, List.all_map, Function.comp_def, pointB_dP]
theorem bareT (l : List Pt) : bare (.lst (l.map dP)) = true := by simpa only [bare] using bares_map bare_dP l
theorem spts (n : Nat) (μ : Mem) {l : List Pt} (hl : ∀ p, p ∈ l → SmP 122 p) (hs : l.length ≤ 1000) : callN tbT wf (n + 5) 13 [.lst (l.map dP)] μ = some (.lst ((sortP l).map dP), μ) := by
  refine sorted_points_ok at_sorted_points ?_ (sorted_there_ok (n := n + 3) at_sorted_there (ah (n + 1)) hl hs)
  rw [arep n μ _ (bareT l) (fun xs e => by cases e; rw [List.length_map]; unfold sizeLine; omega), areT]
variable (hw : ∀ k, k ≤ 1000 → 2 ^ k ≤ wf)
include hw
theorem lturn (n : Nat) (μ : Mem) {a b c : Pt} (ha : SmP 122 a) (hb : SmP 122 b) (hc : SmP 122 c) : callN tbT wf (n + 3) 32 [dP a, dP b, dP c] μ = some (dQ (turnQ a b c), μ) := (turn_ok lo_minus lo_times at__law_turn ha hb hc (by decide) (hw _ (by decide))).1
theorem tturn (n : Nat) (μ : Mem) {a b c : Pt} (ha : SmP 122 a) (hb : SmP 122 b) (hc : SmP 122 c) : callN tbT wf (n + 5) 16 [dP a, dP b, dP c] μ = some (dQ (turnQ a b c), μ) :=
  turn_of_ok at_turn_of (fun p => check_ok (pB := pointB) at_check_point (isp n μ (bare_dP p)) (pointB_dP p)) (turn_ok (n := n + 1) o_minus o_times at_turn_there ha hb hc (by decide) (hw _ (by decide))).1
theorem oturn (n : Nat) (μ : Mem) {a b c : Pt} (ha : SmP 122 a) (hb : SmP 122 b) (hc : SmP 122 c) : callN tbT wf (n + 6) 17 [dP a, dP b, dP c] μ = some (.int (sgQ (turnQ a b c)), μ) :=
  order_of_ok at_order_of (fun q => sign_of_ok (n := n + 4) at_sign_of q) (tturn hw n μ ha hb hc)
theorem lmid (n : Nat) (μ : Mem) {a b : Pt} {s : Rat} (ha : SmP 30 a) (hb : SmP 30 b) (hs : Sm 30 s) : callN tbT wf (n + 3) 34 [dP a, dP b, dQ s] μ = some (dP (midP a b s), μ) ∧ SmP 122 (midP a b s) := mid_ok lo_plus lo_minus lo_times at__law_mid ha hb hs (by decide) (by decide) (hw _ (by decide))
end
/-! ### the turn's sign -/
theorem turn_rot (a b c : Pt) : turnQ b c a = turnQ a b c := by unfold turnQ; grind
theorem turn_swap (a b c : Pt) : turnQ a c b = -turnQ a b c := by unfold turnQ; grind
theorem sg_neg (q : Rat) : sgQ (-q) = -sgQ q := by
  unfold sgQ
  have nn : (-q).num = -q.num := rfl
  rw [nn]
  by_cases h1 : 0 < q.num
  · rw [if_neg (by omega), if_pos (by omega), if_pos h1]
  · by_cases h2 : q.num < 0
    · rw [if_pos (by omega), if_neg h1, if_pos h2]
      rfl
    · rw [if_neg (by omega), if_neg (by omega), if_neg h1, if_neg h2]
      rfl
/-! ### the same data -/
theorem al_mem {μ : Mem} {n : Nat} {α : Type} {g : α → D} (h : ∀ x, Al μ n (g x) (g x)) (l : List α) : ∀ x y, (x, y) ∈ (l.map g).zip (l.map g) → Al μ n x y := fun x y hxy => by
  rw [List.zip_map, List.mem_map] at hxy
  obtain ⟨⟨p, q⟩, hp, e⟩ := hxy
  have : p = q := by
    clear e
    induction l with
    | nil => simp at hp
    | cons a l ih =>
      rw [List.zip_cons_cons, List.mem_cons] at hp
      rcases hp with e | hp
      · cases e; rfl
      · exact ih hp
  subst this
  cases e
  exact h p
theorem al_dQ {μ : Mem} {n : Nat} (q : Rat) : Al μ (n + 1) (dQ q) (dQ q) := .tup rfl (al_mem (g := D.int) (fun i => .int i) [q.num, q.den]) (Nat.le_trans (show 2 ≤ 2 by omega) (by decide))
theorem al_dP {μ : Mem} {n : Nat} (p : Pt) : Al μ (n + 2) (dP p) (dP p) := .tup rfl (al_mem (g := dQ) (fun q => al_dQ q) [p.1, p.2]) (Nat.le_trans (show 2 ≤ 2 by omega) (by decide))
theorem al_pts {μ : Mem} {n : Nat} (l : List Pt) (hs : l.length ≤ sizeLine) : Al μ (n + 3) (.lst (l.map dP)) (.lst (l.map dP)) := .lst rfl (al_mem (g := dP) (fun p => al_dP p) l) (by rw [List.length_map]; exact hs)
theorem al_cell {μ : Mem} {n c : Nat} (l : List Pt) (hc : μ[c]? = some (some (l.map dP))) (hs : l.length ≤ sizeLine) : Al μ (n + 3) (.ref c) (.lst (l.map dP)) := .cel hc (flats_map flat_dP l) rfl (al_mem (g := dP) (fun p => al_dP p) l) (by rw [List.length_map]; exact hs)
theorem same (n k : Nat) {wf : Nat} {μ : Mem} {a b : D} (h : Al μ n a b) : callN tbT wf (k + n + 1) 22 [a, b] μ = some (.bl true, μ) := same_ok at__law_same n k a b h
/-- a list of drawn points -/
theorem draw_pts {C : Call} {step : D → Mem → Option (Option D × Mem)} {c : Nat} (hstep : ∀ (x : D) (μ : Mem) (b : Nat), Pur μ c b → b + 60 < 2 ^ 190 → ∃ (p : Pt) (μ' : Mem), step x μ = some (some (dP p), μ') ∧ SmP 30 p ∧ Pur μ' c (b + 60) ∧ Ot c μ μ') :
    ∀ (xs : List D) (b : Nat) (μ : Mem), Pur μ c b → b + 60 * xs.length < 2 ^ 190 → ∃ (l : List Pt) (μ' : Mem), compGo step (fun _ => true) xs μ = some (l.map dP, μ') ∧ l.length = xs.length ∧ (∀ p, p ∈ l → SmP 30 p) ∧ Pur μ' c (b + 60 * xs.length) ∧ Ot c μ μ'
  | [], b, μ, h, _ => ⟨[], μ, rfl, rfl, (fun _ z => nomatch z), h, Ot.refl⟩
  | x :: xs, b, μ, h, hb => by
    rw [List.length_cons] at hb
    obtain ⟨p, μ1, e1, s1, h1, o1⟩ := hstep x μ b h (by omega)
    obtain ⟨l, μ2, e2, l2, s2, h2, o2⟩ := draw_pts (C := C) hstep xs (b + 60) μ1 h1 (by omega)
    refine ⟨p :: l, μ2, ?_, by simp [l2], fun q hq => ?_, by rw [List.length_cons]; exact h2.mono (by omega), o1.trans o2⟩
    · unfold compGo
      rw [e1]
      simp [e2]
    · rcases List.mem_cons.mp hq with rfl | hq
      · exact s1
      · exact s2 q hq
end K02
set_option Elab.async false
set_option linter.all false
set_option maxRecDepth 100000
set_option maxHeartbeats 1000000
namespace K02
open PySem PySem.Spec PyProof.Rows L2 DI
section
variable {wf c b : Nat} {μ : Mem} {s0 s1 s2 s3 s4 s5 s6 s7 s8 s9 s10 s11 s12 : Sl} {t : List Sl} (hw : ∀ k, k ≤ 1000 → 2 ^ k ≤ wf)
include hw
theorem stA1 (h : Pur μ c b) (hb : b + 180 < 2 ^ 190) : ∃ (p1 p2 p3 : Pt) (μ' : Mem), evS (callN tbT wf 11) wf (.par [2, 3, 4] [.call 30 [.var 1], .call 30 [.var 1], .call 30 [.var 1]]) (s0 :: .val (.ref c) :: s2 :: s3 :: s4 :: t) μ = some (.nx (s0 :: .val (.ref c) :: .val (dP p1) :: .val (dP p2) :: .val (dP p3) :: t), μ') ∧
    (SmP 30 p1 ∧ SmP 30 p2 ∧ SmP 30 p3) ∧ Pur μ' c (b + 180) ∧ Ot c μ μ' := by
  obtain ⟨p1, μ1, e1, q1, h1, o1⟩ := pt 7 (hw _ (by decide)) μ c b h (by omega)
  obtain ⟨p2, μ2, e2, q2, h2, o2⟩ := pt 7 (hw _ (by decide)) μ1 c (b + 60) h1 (by omega)
  obtain ⟨p3, μ3, e3, q3, h3, o3⟩ := pt 7 (hw _ (by decide)) μ2 c (b + 60 + 60) h2 (by omega)
  exact ⟨p1, p2, p3, μ3, by simp [e1, e2, e3, parE], ⟨q1, q2, q3⟩, h3, (o1.trans o2).trans o3⟩
theorem smp_mono {m k : Nat} {p : Pt} (h : SmP m p) (l : m ≤ k) : SmP k p := ⟨h.1.mono l, h.2.mono l⟩
theorem stA2 {p1 p2 p3 : Pt} (q1 : SmP 30 p1) (q2 : SmP 30 p2) (q3 : SmP 30 p3) (h : Pur μ c b) (hb : b + 30 < 2 ^ 190) : ∃ (p : Pt) (μ' : Mem), evS (callN tbT wf 11) wf (.iff (.cmp .eq (.call 20 [.var 1, .int 3]) (.int 0)) [
      .asg (.nm 4) (.call 34 [.var 2, .var 3, .call 24 [.op .sub (.call 20 [.var 1, .int 13]) (.int 6), .op .add (.int 1) (.call 20 [.var 1, .int 3])]])] []) (s0 :: .val (.ref c) :: .val (dP p1) :: .val (dP p2) :: .val (dP p3) :: t) μ = some (.nx (s0 :: .val (.ref c) :: .val (dP p1) :: .val (dP p2) :: .val (dP p) :: t), μ') ∧
    SmP 122 p ∧ Pur μ' c (b + 30) ∧ Ot c μ μ' := by
  obtain ⟨r, μ1, l1, e1, h1, o1⟩ := dr (wf := wf) 9 μ c b 3 h (by omega) (by decide) (by decide)
  have e1' : callN tbT wf 11 20 [.ref c, .int 3] μ = some (.int r, μ1) := e1
  by_cases hr : r = 0
  · obtain ⟨x, μ2, l2, e2, h2, o2⟩ := dr (wf := wf) 9 μ1 c (b + 10) 13 h1 (by omega) (by decide) (by decide)
    obtain ⟨y, μ3, l3, e3, h3, o3⟩ := dr (wf := wf) 9 μ2 c (b + 10 + 10) 3 h2 (by omega) (by decide) (by decide)
    have e2' : callN tbT wf 11 20 [.ref c, .int 13] μ1 = some (.int x, μ2) := e2
    have e3' : callN tbT wf 11 20 [.ref c, .int 3] μ2 = some (.int y, μ3) := e3
    have e4 := fr_law (wf := wf) 10 μ3 ((x : Int) - 6) (1 + y) 30 (by omega) (by omega) (by omega) (by decide) (hw _ (by decide))
    have sq : Sm 30 (Rat.divInt ((x : Int) - 6) (1 + y)) := sm_divInt (by omega) (by omega) (by decide)
    obtain ⟨e5, s5⟩ := lmid hw 8 μ3 q1 q2 sq
    refine ⟨_, μ3, ?_, s5, h3, (o1.trans o2).trans o3⟩
    simp [e1', hr, eqD_int, e2', e3', e4, e5, DI.bindG]
  · have hr' : ¬ ((r : Int) = 0) := by omega
    refine ⟨p3, μ1, ?_, smp_mono hw q3 (by decide), h1.mono (by omega), o1⟩
    simp [e1', hr, eqD_int]
theorem stB1 {p q r : Pt} (h1 : SmP 122 p) (h2 : SmP 122 q) (h3 : SmP 122 r) : evE (callN tbT wf 11) (.call 32 [.var 2, .var 3, .var 4]) (s0 :: s1 :: .val (dP p) :: .val (dP q) :: .val (dP r) :: t) μ = some (dQ (turnQ p q r), μ) := by
  simp [lturn hw 8 μ h1 h2 h3]
theorem stB2 {p q r : Pt} (h1 : SmP 122 p) (h2 : SmP 122 q) (h3 : SmP 122 r) : evE (callN tbT wf 11) (.lst [.call 16 [.var 2, .var 3, .var 4], .callk 16 [] [.var 4, .var 3, .var 2] [2, 1, 0], .call 17 [.var 2, .var 3, .var 4], .call 17 [.var 3, .var 4, .var 2], .callk 17 [] [.var 3, .var 4, .var 2] [2, 1, 0]]) (s0 :: s1 :: .val (dP p) :: .val (dP q) :: .val (dP r) :: t) μ =
    some (.lst [dQ (turnQ p q r), dQ (turnQ p q r), .int (sgQ (turnQ p q r)), .int (sgQ (turnQ p q r)), .int (-sgQ (turnQ p q r))], μ) := by
  have e1 := tturn hw 6 μ h1 h2 h3
  have e2 := oturn hw 5 μ h1 h2 h3
  have e3 := oturn hw 5 μ h2 h3 h1
  have e4 := oturn hw 5 μ h1 h3 h2
  rw [turn_rot] at e3
  rw [turn_swap, sg_neg] at e4
  have sl : 5 ≤ sizeLine := by decide
  simp [e1, e2, e3, e4, permD, sl]
theorem stB3 {p q r : Pt} : evE (callN tbT wf 11) (.not (.call 22 [.var 6, .lst [.var 5, .var 5, .call 33 [.var 5], .call 33 [.var 5], .neg (.call 33 [.var 5])]])) (s0 :: s1 :: s2 :: s3 :: s4 :: .val (dQ (turnQ p q r)) :: .val (.lst [dQ (turnQ p q r), dQ (turnQ p q r), .int (sgQ (turnQ p q r)), .int (sgQ (turnQ p q r)), .int (-sgQ (turnQ p q r))]) :: t) μ = some (.bl false, μ) := by
  have sg := fun μ : Mem => law_sign_ok (wf := wf) (n := 10) (μ := μ) at__law_sign (turnQ p q r)
  have sl : 5 ≤ sizeLine := by decide
  have al : Al μ 2 (.lst [dQ (turnQ p q r), dQ (turnQ p q r), .int (sgQ (turnQ p q r)), .int (sgQ (turnQ p q r)), .int (-sgQ (turnQ p q r))]) (.lst [dQ (turnQ p q r), dQ (turnQ p q r), .int (sgQ (turnQ p q r)), .int (sgQ (turnQ p q r)), .int (-sgQ (turnQ p q r))]) := by
    refine .lst rfl (fun x y hxy => ?_) sl
    simp only [List.zip_cons_cons, List.zip_nil_right, List.mem_cons, List.not_mem_nil, or_false, Prod.mk.injEq] at hxy
    rcases hxy with ⟨rfl, rfl⟩ | ⟨rfl, rfl⟩ | ⟨rfl, rfl⟩ | ⟨rfl, rfl⟩ | ⟨rfl, rfl⟩ <;> first | exact al_dQ _ | exact .int _
  have e := same 2 8 (wf := wf) al
  simp [sg, sl, e]
theorem stC1 (h : Pur μ c b) (hb : b + 600 < 2 ^ 190) : ∃ (l : List Pt) (μ' : Mem), evE (callN tbT wf 11) (.comp (.call 30 [.var 1]) (.nm 8) (.rng [.call 20 [.var 1, .int 9]]) [] [8]) (s0 :: .val (.ref c) :: s2 :: s3 :: s4 :: s5 :: s6 :: s7 :: s8 :: t) μ = some (.lst (l.map dP), μ') ∧
    (∀ p, p ∈ l → SmP 30 p) ∧ l.length ≤ 8 ∧ Pur μ' c (b + 600) ∧ Ot c μ μ' := by
  obtain ⟨r, μ1, l1, e1, h1, o1⟩ := dr (wf := wf) 9 μ c b 9 h (by omega) (by decide) (by decide)
  have e1' : callN tbT wf 11 20 [.ref c, .int 9] μ = some (.int r, μ1) := e1
  have hI : evI (callN tbT wf 11) (.rng [.call 20 [.var 1, .int 9]]) (s0 :: .val (.ref c) :: s2 :: s3 :: s4 :: s5 :: s6 :: s7 :: s8 :: t) μ = some ((rangeD 0 r, []), μ1) := by
    refine rng1 (by simp [e1']) ?_
    simp only [rangeOk, Bool.and_eq_true, decide_eq_true_eq]
    omega
  have rl : (rangeD 0 (r : Int)).length = r := by simp [rangeD]
  obtain ⟨l, μ2, e2, l2, q2, h2, o2⟩ := draw_pts (C := callN tbT wf 11) (c := c) (step := fun x ν => (DI.bindG (.nm 8) x (wipeE (s0 :: .val (.ref c) :: s2 :: s3 :: s4 :: s5 :: s6 :: s7 :: s8 :: t) [8])).bind fun e1 => (evCs (callN tbT wf 11) [] e1 ν).bind fun cc =>
          if cc.1 then (evE (callN tbT wf 11) (.call 30 [.var 1]) e1 cc.2).map fun q => (some q.1, q.2) else some (none, cc.2)) (fun x μ b h hb => by
    obtain ⟨p, μ', e, q, h', o'⟩ := pt 7 (hw _ (by decide)) μ c b h hb
    exact ⟨p, μ', by simp [DI.bindG, wipeE, e], q, h', o'⟩) (rangeD 0 r) (b + 10) μ1 h1 (by rw [rl]; omega)
  rw [rl] at h2 l2
  refine ⟨l, μ2, ?_, q2, by omega, h2.mono (by omega), o1.trans o2⟩
  rw [evE, hI]
  simp only [Option.bind_some, List.all_nil, if_true]
  rw [e2]
  have sl : (l.map dP).length ≤ sizeLine := by
    rw [List.length_map]
    unfold sizeLine
    omega
  simp only [Option.bind_some, sl, if_true]
theorem stC2 {l : List Pt} {p q r : Pt} (hl : l.length ≤ 8) (h : Pur μ c b) (hb : b + 600 < 2 ^ 190) : ∃ (l' : List Pt) (μ' : Mem), evE (callN tbT wf 11) (.call 21 [.var 1, .op .add (.op .add (.var 7) (.slc (.var 7) none (some (.call 20 [.var 1, .int 3])))) (.lst [.var 2, .var 3, .var 4, .var 2])])
      (s0 :: .val (.ref c) :: .val (dP p) :: .val (dP q) :: .val (dP r) :: s5 :: s6 :: .val (.lst (l.map dP)) :: t) μ = some (.lst (l'.map dP), μ') ∧ (∀ x, x ∈ l' → x ∈ l ∨ x = p ∨ x = q ∨ x = r) ∧ p ∈ l' ∧ l'.length ≤ 20 ∧ Pur μ' c (b + 600) ∧ Ot c μ μ' := by
  obtain ⟨x, μ1, l1, e1, h1, o1⟩ := dr (wf := wf) 9 μ c b 3 h (by omega) (by decide) (by decide)
  have e1' : callN tbT wf 11 20 [.ref c, .int 3] μ = some (.int x, μ1) := e1
  have len : (l ++ l.take x ++ [p, q, r, p]).length ≤ 20 := by
    simp only [List.length_append, List.length_take, List.length_cons, List.length_nil]
    omega
  obtain ⟨l', μ2, e2, hp, h2, o2⟩ := shuffled_ok (T := tbT) (wf := wf) (n := 8) (μ := μ1) (g := dP) at__law_mixed at__law_draw at__law_shuffled (l ++ l.take x ++ [p, q, r, p]) (by omega) h1 (by omega)
  refine ⟨l', μ2, ?_, fun y hy => ?_, hp.mem_iff.mpr (by simp), by rw [hp.length_eq]; exact len, h2.mono (by omega), o1.trans o2⟩
  · have sl : 4 ≤ sizeLine := by decide
    have a1 := add_lst (μ := μ1) (l.map dP) ((l.map dP).take x) (by simp only [List.length_take, List.length_map]; unfold sizeLine; omega)
    have a2 := add_lst (μ := μ1) (l.map dP ++ (l.map dP).take x) [dP p, dP q, dP r, dP p] (by simp only [List.length_append, List.length_take, List.length_map, List.length_cons, List.length_nil]; unfold sizeLine; omega)
    have e2' : callN tbT wf 11 21 [.ref c, .lst (l.map dP ++ (l.map dP).take x ++ [dP p, dP q, dP r, dP p])] μ1 = some (.lst (l'.map dP), μ2) := by
      rw [← e2]
      simp [List.map_take]
    simp [-List.append_assoc, e1', slcD, seqV, cut_to, a1, a2, sl, e2']
  · have := hp.mem_iff.mp hy
    simp only [List.mem_append, List.mem_cons, List.not_mem_nil, or_false] at this
    rcases this with (z | z) | z | z | z | z
    · exact .inl z
    · exact .inl (List.mem_of_mem_take z)
    · exact .inr (.inl z)
    · exact .inr (.inr (.inl z))
    · exact .inr (.inr (.inr z))
    · exact .inr (.inl z)
end
end K02
set_option Elab.async false
set_option linter.all false
set_option maxRecDepth 100000
set_option maxHeartbeats 1000000
namespace K02
open PySem PySem.Spec PyProof.Rows L2 DI
section
variable {wf c b : Nat} {μ : Mem} {s0 s1 s2 s3 s4 s5 s6 s7 s8 s9 s10 s11 s12 s13 : Sl} {t : List Sl}
theorem stD {l : List Pt} (hl : ∀ p, p ∈ l → SmP 122 p) (hs : l.length ≤ 20) : ∃ v10 v11 : Sl, evS (callN tbT wf 11) wf (.for (.nm 10) (.seq (.var 7)) [
      .iff (.cmp .nin (.var 10) (.var 9)) [
        .asg (.nm 11) (.bi .len [.comp (.var 12) (.nm 12) (.seq (.var 9)) [.call 31 [.var 12, .var 10]] [12]]),
        .asg (.nm 9) (.op .add (.op .add (.slc (.var 9) none (some (.var 11))) (.lst [.var 10])) (.slc (.var 9) (some (.var 11)) none))] []])
      (s0 :: s1 :: s2 :: s3 :: s4 :: s5 :: s6 :: .val (.lst (l.map dP)) :: s8 :: .val (.lst []) :: s10 :: s11 :: s12 :: t) μ = some (.nx (s0 :: s1 :: s2 :: s3 :: s4 :: s5 :: s6 :: .val (.lst (l.map dP)) :: s8 :: .val (.lst ((sortP l).map dP)) :: v10 :: v11 :: s12 :: t), μ) := by
  obtain ⟨env', μ', hf, f, rest, v10, v11, he, hr, hall, hfl, hmu⟩ := for_run (C := callN tbT wf 11) (wf := wf) (tg := .nm 10) (body := [
      .iff (.cmp .nin (.var 10) (.var 9)) [
        .asg (.nm 11) (.bi .len [.comp (.var 12) (.nm 12) (.seq (.var 9)) [.call 31 [.var 12, .var 10]] [12]]),
        .asg (.nm 9) (.op .add (.op .add (.slc (.var 9) none (some (.var 11))) (.lst [.var 10])) (.slc (.var 9) (some (.var 11)) none))] []]) (src := .seq (.var 7))
    (env := s0 :: s1 :: s2 :: s3 :: s4 :: s5 :: s6 :: .val (.lst (l.map dP)) :: s8 :: .val (.lst []) :: s10 :: s11 :: s12 :: t) (μ := μ) (μ1 := μ) (xs := l.map dP) (lks := [])
    (P := fun r e ν => ∃ (f rest : List Pt) (v10 v11 : Sl), e = (s0 :: s1 :: s2 :: s3 :: s4 :: s5 :: s6 :: .val (.lst (l.map dP)) :: s8 :: .val (.lst (f.map dP)) :: v10 :: v11 :: s12 :: t) ∧ r = rest.map dP ∧ rest.foldl insP f = sortP l ∧ ((∀ p, p ∈ f → SmP 122 p) ∧ (∀ p, p ∈ rest → SmP 122 p) ∧ f.length + rest.length ≤ 1000) ∧ ν = μ)
    (by simp [evI_seq34, itemsD, seqV, lockOf]) rfl (fun _ _ _ _ => rfl) (fun x r e ν q => by
      obtain ⟨f, rest, v10, v11, he, hr, hall, ⟨g1, g2, g3⟩, hmu⟩ := q
      subst hmu he
      cases rest with
      | nil => simp at hr
      | cons p rest =>
        rw [List.map_cons] at hr
        obtain ⟨rfl, rfl⟩ := List.cons.inj hr
        rw [List.length_cons] at g3
        have sp : SmP 122 p := g2 p List.mem_cons_self
        have fin := inD_dP (μ := ν) p f
        refine ⟨_, (s0 :: s1 :: s2 :: s3 :: s4 :: s5 :: s6 :: .val (.lst (l.map dP)) :: s8 :: .val (.lst ((insP f p).map dP)) :: .val (dP p) :: (if p ∈ f then v11 else .val (.int (f.filter (aheadB · p)).length)) :: s12 :: t), ν, rfl, ?_, insP f p, rest, _, _, rfl, rfl, hall, ⟨fun x hx => ?_, fun x hx => g2 x (List.mem_cons_of_mem _ hx), ?_⟩, rfl⟩
        · by_cases hp : p ∈ f
          · have fe : insP f p = f := by unfold insP; rw [if_pos hp]
            simp [fin, hp, fe]
          · have hc := comp_selA (C := callN tbT wf 11) (tg := .nm 12) (elt := .var 12) (c := .call 31 [.var 12, .var 10]) (own := [12]) (src := .seq (.var 9)) (env := (s0 :: s1 :: s2 :: s3 :: s4 :: s5 :: s6 :: .val (.lst (l.map dP)) :: s8 :: .val (.lst (f.map dP)) :: .val (dP p) :: v11 :: s12 :: t)) (μ := ν) (μ1 := ν) (l := f) (lks := []) (e := dP) (p := (aheadB · p))
              (by simp [evI_seq34, itemsD, seqV, lockOf]) rfl
              (fun x hx => ⟨_, rfl, by simp [wipeE, lah (wf := wf) 9 ν x p (g1 x hx) sp], by simp [wipeE]⟩) (by unfold sizeLine; omega)
            have fl := filter_small (l := f) (g := (aheadB · p))
            have ad1 := add_lst (μ := ν) ((f.map dP).take (f.filter (aheadB · p)).length) [dP p] (by simp only [List.length_take, List.length_map, List.length_cons, List.length_nil]; unfold sizeLine; omega)
            have ad2 := add_lst (μ := ν) ((f.map dP).take (f.filter (aheadB · p)).length ++ [dP p]) ((f.map dP).drop (f.filter (aheadB · p)).length) (by simp only [List.length_append, List.length_take, List.length_drop, List.length_map, List.length_cons, List.length_nil]; unfold sizeLine; omega)
            have fe : (insP f p).map dP = (f.map dP).take (f.filter (aheadB · p)).length ++ [dP p] ++ (f.map dP).drop (f.filter (aheadB · p)).length := by unfold insP; rw [if_neg hp]; simp [List.map_take, List.map_drop]
            have sl : 1 ≤ sizeLine := by decide
            rw [fe]
            simp [fin, hp]
            rw [hc]
            simp [DI.bindG, slcD, seqV, cut_to, cut_from, ad1, ad2, sl]
        · rcases insP_mem.mp hx with rfl | hx
          · exact sp
          · exact g1 x hx
        · have := insP_len (f := f) (p := p)
          omega) ⟨[], l, s10, s11, rfl, rfl, rfl, ⟨(fun _ z => nomatch z), hl, by simp; omega⟩, rfl⟩
  cases rest with
  | cons _ _ => simp at hr
  | nil =>
    rw [List.foldl_nil] at hall
    subst hmu hall
    exact ⟨v10, v11, by rw [hf, he]⟩
theorem sort_len : ∀ (l f : List Pt), (l.foldl insP f).length ≤ l.length + f.length
  | [], f => by simp
  | p :: l, f => by
    have := sort_len l (insP f p)
    have := insP_len (f := f) (p := p)
    rw [List.foldl_cons, List.length_cons]
    omega
theorem sortP_len (l : List Pt) : (sortP l).length ≤ l.length := sort_len l []
theorem stE {l : List Pt} (hl : ∀ p, p ∈ l → SmP 122 p) (hs : l.length ≤ 20) : biD μ .repr [.lst (l.map dP)] = some (.str (PyData.list (l.map pP)).shown) := repr_pts hl (by decide) (by
  have : (4 * 122 + 31) * l.length ≤ (4 * 122 + 31) * 20 := Nat.mul_le_mul_left _ hs
  unfold sizeLine
  omega)
theorem stF {l : List Pt} (hl : ∀ p, p ∈ l → SmP 122 p) (hs : l.length ≤ 20) : evE (callN tbT wf 11) (.cell (.call 13 [.var 7])) (s0 :: s1 :: s2 :: s3 :: s4 :: s5 :: s6 :: .val (.lst (l.map dP)) :: t) μ = some (.ref μ.length, μ ++ [some ((sortP l).map dP)]) := by
  simp [spts (wf := wf) 6 μ hl (by omega)]
theorem stG {l : List Pt} {k : Nat} (hl : ∀ p, p ∈ l → SmP 122 p) (hs : l.length ≤ 20) (hk : μ[k]? = some (some ((sortP l).map dP))) : evE (callN tbT wf 11) (.or (.not (.call 22 [.lst [.var 6, .callk 13 [] [.var 7] [0], .call 13 [.lst []]], .lst [.var 9, .var 9, .lst []]])) (.or (.isb true true (.call 11 [.var 9])) (.isb true true (.call 11 [.lst []]))))
    (s0 :: s1 :: s2 :: s3 :: s4 :: s5 :: .val (.ref k) :: .val (.lst (l.map dP)) :: s8 :: .val (.lst ((sortP l).map dP)) :: t) μ = some (.bl false, μ) := by
  have hl2 : ∀ p, p ∈ sortP l → SmP 122 p := fun p hp => hl p (sortP_mem.mp hp)
  have ls := sortP_len l
  have e1 := spts (wf := wf) 6 μ hl (by omega)
  have e2 : callN tbT wf 11 13 [.lst []] μ = some (.lst [], μ) := spts (wf := wf) 6 μ (l := []) (fun _ z => nomatch z) (by decide)
  have e3 := iset (wf := wf) 6 μ hl2 (by unfold sizeLine; omega)
  rw [(chain_srt _).mpr (sortP_srt l)] at e3
  have e4 : callN tbT wf 11 11 [.lst []] μ = some (.bl true, μ) := iset (wf := wf) 6 μ (l := []) (fun _ z => nomatch z) (by decide)
  have sl3 : 3 ≤ sizeLine := by decide
  have sl0 : 0 ≤ sizeLine := by decide
  have al : Al μ 4 (.lst [.ref k, .lst ((sortP l).map dP), .lst []]) (.lst [.lst ((sortP l).map dP), .lst ((sortP l).map dP), .lst []]) := by
    refine .lst rfl (fun x y hxy => ?_) sl3
    simp only [List.zip_cons_cons, List.zip_nil_right, List.mem_cons, List.not_mem_nil, or_false, Prod.mk.injEq] at hxy
    rcases hxy with ⟨rfl, rfl⟩ | ⟨rfl, rfl⟩ | ⟨rfl, rfl⟩
    · exact al_cell _ hk (by unfold sizeLine; omega)
    · exact al_pts _ (by unfold sizeLine; omega)
    · exact al_pts [] sl0
  have e := same 4 6 (wf := wf) al
  simp [e1, e2, e3, e4, permD, sl3, sl0, e]
theorem stH {l : List Pt} (hl : ∀ p, p ∈ l → SmP 122 p) (hs : l.length ≤ 20) : evE (callN tbT wf 11) (.or (.cmp .ne (.bi .repr [.var 7]) (.var 13)) (.or (.not (.call 22 [.call 13 [.var 9], .var 9])) (.isb true true (.callk 11 [] [.var 9] [0]))))
    (s0 :: s1 :: s2 :: s3 :: s4 :: s5 :: s6 :: .val (.lst (l.map dP)) :: s8 :: .val (.lst ((sortP l).map dP)) :: s10 :: s11 :: s12 :: .val (.str (PyData.list (l.map pP)).shown) :: t) μ = some (.bl false, μ) := by
  have hl2 : ∀ p, p ∈ sortP l → SmP 122 p := fun p hp => hl p (sortP_mem.mp hp)
  have ls := sortP_len l
  have e0 := stE (μ := μ) hl hs
  have e00 := eqD_str (μ := μ) (ok_pPs l)
  have e1 := spts (wf := wf) 6 μ hl2 (by omega)
  rw [sortP_id (sortP_srt l)] at e1
  have e3 := iset (wf := wf) 6 μ hl2 (by unfold sizeLine; omega)
  rw [(chain_srt _).mpr (sortP_srt l)] at e3
  have al := al_pts (μ := μ) (n := 1) (sortP l) (by unfold sizeLine; omega)
  have e := same 4 6 (wf := wf) al
  generalize (PyData.list (l.map pP)).shown = S at *
  simp [e0, e00, e1, e3, permD, e]
theorem stI {l : List Pt} (hl : ∀ p, p ∈ l → SmP 122 p) (hs : l.length ≤ 20) : evE (callN tbT wf 11) (.cell (.call 13 [.var 9])) (s0 :: s1 :: s2 :: s3 :: s4 :: s5 :: s6 :: s7 :: s8 :: .val (.lst ((sortP l).map dP)) :: t) μ = some (.ref μ.length, μ ++ [some ((sortP l).map dP)]) := by
  have hl2 : ∀ p, p ∈ sortP l → SmP 122 p := fun p hp => hl p (sortP_mem.mp hp)
  have ls := sortP_len l
  have e1 := spts (wf := wf) 6 μ hl2 (by omega)
  rw [sortP_id (sortP_srt l)] at e1
  simp [e1]
theorem app_ok {k : Nat} {e : ME} {xs : List D} {x : Str} {env : Ev} {μ1 : Mem} (he : evE (callN tbT wf 11) e env μ = some (.ref k, μ1)) (hk : μ1[k]? = some (some xs)) (hs : xs.length ≤ 1000) : evS (callN tbT wf 11) wf (.meth .append e [.str x]) env μ = some (.nx env, μ1.set k (some (xs ++ [.str x]))) := by
  have : xs.length < sizeLine := by unfold sizeLine; omega
  simp [he, hk, mthD, this]
end
end K02
set_option Elab.async false
set_option linter.all false
set_option maxRecDepth 100000
set_option maxHeartbeats 1000000
namespace K02
open PySem PySem.Spec PyProof.Rows L2 DI
def r1 : Rat := { num := 999999999998, den := 999999999999, den_nz := by decide, reduced := by decide +kernel }
def r2 : Rat := { num := 999999999997, den := 999999999998, den_nz := by decide, reduced := by decide +kernel }
def r0 : Rat := { num := 0, den := 1, den_nz := by decide, reduced := by decide }
def n1 : Pt := (r1, r0)
def n2 : Pt := (r2, r0)
theorem pow12 : opI .pow 10 12 = some 1000000000000 := by decide +kernel
theorem d1 : D.tup [.tup [.int 999999999998, .int 999999999999], .tup [.int 0, .int 1]] = dP n1 := rfl
theorem d2 : D.tup [.tup [.int 999999999997, .int 999999999998], .tup [.int 0, .int 1]] = dP n2 := rfl
theorem ah12 : aheadB n1 n2 = false ∧ aheadB n2 n1 = true ∧ n2 ≠ n1 := by
  have h1 : ¬ (r1 = r2) := fun e => absurd (congrArg Rat.num e) (by decide)
  have h2 : r2 < r1 := by rw [Rat.lt_iff]; decide +kernel
  have h3 : ¬ r1 < r2 := by rw [Rat.lt_iff]; decide +kernel
  refine ⟨?_, ?_, fun e => h1 (congrArg Prod.fst e).symm⟩
  · show (if r1 = r2 then _ else decide (r1 < r2)) = false
    rw [if_neg h1]
    simp [h3]
  · show (if r2 = r1 then _ else decide (r2 < r1)) = true
    rw [if_neg fun e => h1 e.symm]
    simp [h2]
theorem sort12 : sortP [n1, n2] = [n2, n1] := by
  obtain ⟨h1, h2, h3⟩ := ah12
  simp [sortP, insP, h1, h3]
theorem ch12 : chainB [n1, n2] = false ∧ chainB [n2, n1] = true := by
  obtain ⟨h1, h2, h3⟩ := ah12
  simp [chainB, h1, h2]
theorem sm12 : ∀ p, p ∈ [n1, n2] → SmP 122 p := fun p hp => by
  have k : ∀ {q : Rat}, q.num.natAbs < 2 ^ 40 → q.den < 2 ^ 40 → Sm 122 q := fun h1 h2 => (show Sm 40 _ from ⟨h1, h2⟩).mono (by decide)
  simp only [List.mem_cons, List.not_mem_nil, or_false] at hp
  rcases hp with rfl | rfl
  · exact ⟨k (by decide) (by decide), k (by decide) (by decide)⟩
  · exact ⟨k (by decide) (by decide), k (by decide) (by decide)⟩
section
variable {wf c b : Nat} {μ : Mem} {s0 s1 s2 s3 s4 s5 s6 s7 s8 s9 s10 s11 s12 s13 s14 : Sl} {t : List Sl} {env : Ev}
theorem stJ : evE (callN tbT wf 11) (.lst [.tup [.tup [.op .sub (.op .pow (.int 10) (.int 12)) (.int 2), .op .sub (.op .pow (.int 10) (.int 12)) (.int 1)], .tup [.int 0, .int 1]], .tup [.tup [.op .sub (.op .pow (.int 10) (.int 12)) (.int 3), .op .sub (.op .pow (.int 10) (.int 12)) (.int 2)], .tup [.int 0, .int 1]]]) env μ = some (.lst [dP n1, dP n2], μ) := by
  have sl : 2 ≤ sizeLine := by decide
  rw [← d1, ← d2]
  simp [pow12, sl]
theorem more_in (l : List Pt) : inD μ (.str (Str.ofString "more")) (.lst (l.map dP)) = some false := by
  have e : inD μ (.str (Str.ofString "more")) (.lst (l.map dP)) = ((toPy μ (.str (Str.ofString "more"))).bind fun x => (seqV μ (.lst (l.map dP))).bind fun bs => (pyWs (cellPy μ 8) bs).bind fun ys =>
      if SeqAt.shaped x && SeqAt.shaped (.list ys) then some (ys.any fun z => PyData.eqv z x) else none) := rfl
  have sh : SeqAt.shaped (.str (Str.ofString "more")) = true := shaped_of ⟨by simpa only [PyData.canLay0] using ok_of "more", by simp [PyData.depth]⟩
  have no : (l.map pP).any (fun z => PyData.eqv z (.str (Str.ofString "more"))) = false := by
    rw [List.any_eq_false]
    intro z hz
    obtain ⟨p, _, rfl⟩ := List.mem_map.mp hz
    simp [pP, PyData.eqv]
  rw [e]
  simp only [toPy, pyW, Option.bind_some, seqV, pyWs_map pyW_dP, sh, shaped_pPs, Bool.and_self, if_true, no]
theorem stK {l : List Pt} : evE (callN tbT wf 11) (.or (.not (.call 22 [.lst [.call 13 [.var 14], .call 11 [.var 14], .call 11 [.rev (.var 14)]], .lst [.rev (.var 14), .bl false, .bl true]])) (.cmp .inn (.str (Str.ofString "more")) (.var 9)))
    (s0 :: s1 :: s2 :: s3 :: s4 :: s5 :: s6 :: s7 :: s8 :: .val (.lst (l.map dP)) :: s10 :: s11 :: s12 :: s13 :: .val (.lst [dP n1, dP n2]) :: t) μ = some (.bl false, μ) := by
  have e1 : callN tbT wf 11 13 [.lst [dP n1, dP n2]] μ = some (.lst [dP n2, dP n1], μ) := by
    have := spts (wf := wf) 6 μ sm12 (by decide)
    rw [sort12] at this
    exact this
  have e2 : callN tbT wf 11 11 [.lst [dP n1, dP n2]] μ = some (.bl false, μ) := by
    have := iset (wf := wf) 6 μ sm12 (by decide)
    rw [ch12.1] at this
    exact this
  have e3 : callN tbT wf 11 11 [.lst [dP n2, dP n1]] μ = some (.bl true, μ) := by
    have := iset (wf := wf) 6 μ (l := [n2, n1]) (fun p hp => sm12 p (by simp at hp ⊢; exact hp.symm)) (by decide)
    rw [ch12.2] at this
    exact this
  have sl3 : 3 ≤ sizeLine := by decide
  have al : Al μ 4 (.lst [.lst [dP n2, dP n1], .bl false, .bl true]) (.lst [.lst [dP n2, dP n1], .bl false, .bl true]) := by
    refine .lst rfl (fun x y hxy => ?_) sl3
    simp only [List.zip_cons_cons, List.zip_nil_right, List.mem_cons, List.not_mem_nil, or_false, Prod.mk.injEq] at hxy
    rcases hxy with ⟨rfl, rfl⟩ | ⟨rfl, rfl⟩ | ⟨rfl, rfl⟩
    · exact al_pts [n2, n1] (by decide)
    · exact .bl _
    · exact .bl _
  have e := same 4 6 (wf := wf) al
  have m := more_in (μ := μ) l
  simp [e1, e2, e3, seqV, sl3, e, m]
theorem eq_nil : eqD μ (.lst []) (.lst []) = some true := by
  have sh : SeqAt.shaped (.list []) = true := rfl
  simp [eqD, toPy, pyW, pyWs, sh, PyData.eqv, PyData.eqvAll]
/-- none of a list is told apart -/
theorem sel_none {e cond : ME} {xs : List D} (hsrc : evE (callN tbT wf 11) e (s0 :: s1 :: s2 :: s3 :: s4 :: s5 :: s6 :: s7 :: s8 :: s9 :: s10 :: s11 :: s12 :: t) μ = some (.lst xs, μ)) (hno : isOv e = false) (hs : xs.length ≤ 1000)
    (hc : ∀ x, x ∈ xs → evE (callN tbT wf 11) cond (s0 :: s1 :: s2 :: s3 :: s4 :: s5 :: s6 :: s7 :: s8 :: s9 :: s10 :: s11 :: .val x :: t) μ = some (.bl false, μ)) :
    evE (callN tbT wf 11) (.cmp .ne (.comp (.var 12) (.nm 12) (.seq e) [cond] [12]) (.lst [])) (s0 :: s1 :: s2 :: s3 :: s4 :: s5 :: s6 :: s7 :: s8 :: s9 :: s10 :: s11 :: s12 :: t) μ = some (.bl false, μ) := by
  have hlk : lockOf μ e (.lst xs) = [] := by cases e <;> first | rfl | (simp [isOv] at hno)
  have hc := comp_sel (C := callN tbT wf 11) (tg := .nm 12) (elt := .var 12) (c := cond) (own := [12]) (src := .seq e) (env := (s0 :: s1 :: s2 :: s3 :: s4 :: s5 :: s6 :: s7 :: s8 :: s9 :: s10 :: s11 :: s12 :: t)) (μ := μ) (μ1 := μ) (xs := xs) (lks := []) (p := fun _ => false)
    (by simp [evI_seq34, hsrc, itemsD, seqV, hlk]) rfl (fun x hx => ⟨_, rfl, hc x hx, by simp [wipeE]⟩) (by unfold sizeLine; omega)
  have f : xs.filter (fun _ => false) = [] := List.filter_eq_nil_iff.mpr fun _ _ => by decide
  rw [f] at hc
  rw [evE_cmp14, hc]
  simp [eq_nil]
theorem set_no {x : D} (hb : bare x = true) (hs : ∀ xs, x = .lst xs → xs.length ≤ 1000) (h : areB pointB x = false ∨ ∃ l : List Pt, x = .lst (l.map dP) ∧ (∀ p, p ∈ l → SmP 122 p) ∧ chainB l = false) : callN tbT wf 11 11 [x] μ = some (.bl false, μ) := by
  rcases h with h | ⟨l, rfl, h1, h2⟩
  · exact iset_no (wf := wf) 6 μ hb (fun xs e => by have := hs xs e; unfold sizeLine; omega) h
  · have := hs _ rfl
    rw [List.length_map] at this
    have e := iset (wf := wf) 6 μ h1 (by unfold sizeLine; omega)
    rw [h2] at e
    exact e
theorem idx0 (x : D) (r : List D) : idxD μ (.lst (x :: r)) (.int 0) = some x := by
  have : idxD μ (.lst (x :: r)) (.int 0) = atI (x :: r) 0 := rfl
  rw [this]
  exact atI_nat (j := 0) rfl
theorem cut_last (xs : List D) (z : D) : DI.cutD (xs ++ [z]) (some (-1)) none = [z] := by
  unfold DI.cutD
  rw [HT.sIx_none]
  have : HT.sIx (xs ++ [z]).length 0 (some (-1)) = xs.length := by
    show (if (-1 : Int) < 0 then ((-1 : Int) + ((xs ++ [z]).length : Int)).toNat else min (-1 : Int).toNat (xs ++ [z]).length) = _
    rw [if_pos (by decide), List.length_append, List.length_singleton]
    omega
  rw [this, List.drop_left, List.length_append, List.length_singleton, Nat.add_sub_cancel_left]
  rfl
end
end K02
set_option Elab.async false
set_option linter.all false
set_option maxRecDepth 100000
set_option maxHeartbeats 1000000
namespace K02
open PySem PySem.Spec PyProof.Rows L2 DI
section
variable {wf c b : Nat} {μ : Mem} {s0 s1 s2 s3 s4 s5 s6 s7 s8 s9 s10 s11 s12 s13 s14 s15 : Sl} {t : List Sl} {env : Ev}
def oddL (f : Pt) (F : List Pt) (z : Pt) : List D := [.non, .tup [], .lst [dP f, .non], if 1 < F.length then .lst (F.reverse.map dP) else .str (Str.ofString "set"), .lst ((F ++ [z]).map dP), .lst ((f :: F).map dP), .tup (F.map dP), .lst [.lst [dQ f.1, dQ f.2]], .dic []]
theorem stL {f z : Pt} {F F' G : List Pt} (h1 : F = f :: F') (h2 : F = G ++ [z]) (hs : F.length ≤ 20) : evE (callN tbT wf 11) (.lst [.non, .tup [], .lst [.idx (.var 9) (.int 0), .non], .ite (.cmp .gt (.bi .len [.var 9]) (.int 1)) (.rev (.var 9)) (.str (Str.ofString "set")), .op .add (.var 9) (.slc (.var 9) (some (.neg (.int 1))) none), .op .add (.slc (.var 9) none (some (.int 1))) (.var 9), .bi .tuple [.var 9], .lst [.bi .list [.idx (.var 9) (.int 0)]], .dic0])
    (s0 :: s1 :: s2 :: s3 :: s4 :: s5 :: s6 :: s7 :: s8 :: .val (.lst (F.map dP)) :: t) μ = some (.lst (oddL f F z), μ) := by
  have sl1 : 1 ≤ sizeLine := by decide
  have sl2 : 2 ≤ sizeLine := by decide
  have sl9 : 9 ≤ sizeLine := by decide
  have i0 : idxD μ (.lst (F.map dP)) (.int 0) = some (dP f) := by
    rw [h1, List.map_cons]
    exact idx0 _ _
  have c1 : DI.cutD (F.map dP) (some (-1)) none = [dP z] := by
    rw [h2, List.map_append, List.map_singleton]
    exact cut_last _ _
  have c2 : DI.cutD (F.map dP) none (some 1) = [dP f] := by
    rw [show (1 : Int) = ((1 : Nat) : Int) from rfl, cut_to, h1]
    rfl
  have a1 := add_lst (μ := μ) (F.map dP) [dP z] (by simp only [List.length_map, List.length_cons, List.length_nil]; unfold sizeLine; omega)
  have a2 := add_lst (μ := μ) [dP f] (F.map dP) (by simp only [List.length_map, List.length_cons, List.length_nil]; unfold sizeLine; omega)
  have bt : biD μ .tuple [.lst (F.map dP)] = some (.tup (F.map dP)) := rfl
  have bl : biD μ .list [dP f] = some (.lst [dQ f.1, dQ f.2]) := rfl
  have ll := len_lst (μ := μ) dP F
  by_cases h : 1 < F.length
  · have hI : (1 : Int) < F.length := by omega
    simp [i0, c1, c2, a1, a2, bt, bl, sl1, sl2, sl9, slcD, seqV, h, hI, ll, oddL]
  · have hI : ¬ (1 : Int) < F.length := by omega
    simp [i0, c1, c2, a1, a2, bt, bl, sl1, sl2, sl9, slcD, seqV, h, hI, ll, oddL]
theorem srt_no {F : List Pt} (h : ¬ Srt F) : chainB F = false := by
  cases e : chainB F with
  | false => rfl
  | true => exact absurd ((chain_srt F).mp e) h
theorem odd_no {f z : Pt} {F F' G : List Pt} (h1 : F = f :: F') (h2 : F = G ++ [z]) (hs : F.length ≤ 20) (hF : Srt F) (hm : ∀ p, p ∈ F → SmP 122 p) : ∀ x, x ∈ oddL f F z → callN tbT wf 11 11 [x] μ = some (.bl false, μ) := by
  have mf : f ∈ F := by rw [h1]; exact List.mem_cons_self
  have mz : z ∈ F := by rw [h2]; simp
  intro x hx
  simp only [oddL, List.mem_cons, List.not_mem_nil, or_false] at hx
  rcases hx with rfl | rfl | rfl | rfl | rfl | rfl | rfl | rfl | rfl
  · exact set_no rfl (fun _ e => by cases e) (.inl rfl)
  · exact set_no rfl (fun _ e => by cases e) (.inl rfl)
  · exact set_no rfl (fun _ e => by cases e; simp) (.inl (by simp [areB, pointB]))
  · by_cases h : 1 < F.length
    · rw [if_pos h]
      refine set_no (bareT _) (fun _ e => by cases e; simp; omega) (.inr ⟨_, rfl, fun p hp => hm p (List.mem_reverse.mp hp), srt_no fun hr => ?_⟩)
      unfold Srt at hr hF
      rw [List.pairwise_reverse] at hr
      match F, h with
      | p :: q :: r, _ =>
        have k1 := (List.pairwise_cons.mp hF).1 q List.mem_cons_self
        have k2 := (List.pairwise_cons.mp hr).1 q List.mem_cons_self
        rw [ahead_asymm k1] at k2
        cases k2
    · rw [if_neg h]
      exact set_no rfl (fun _ e => by cases e) (.inl rfl)
  · refine set_no (bareT _) (fun _ e => by cases e; simp; omega) (.inr ⟨_, rfl, fun p hp => ?_, srt_no fun hr => ?_⟩)
    · rcases List.mem_append.mp hp with hp | hp
      · exact hm p hp
      · rw [List.mem_singleton.mp hp]
        exact hm z mz
    · have := (List.pairwise_append.mp hr).2.2 z mz z (List.mem_singleton.mpr rfl)
      rw [ahead_irrefl] at this
      cases this
  · refine set_no (bareT _) (fun _ e => by cases e; simp; omega) (.inr ⟨_, rfl, fun p hp => ?_, srt_no fun hr => ?_⟩)
    · rcases List.mem_cons.mp hp with rfl | hp
      · exact hm p mf
      · exact hm p hp
    · have := (List.pairwise_cons.mp hr).1 f mf
      rw [ahead_irrefl] at this
      cases this
  · exact set_no (by simpa only [bare] using bares_map bare_dP F) (fun _ e => by cases e) (.inl rfl)
  · exact set_no rfl (fun _ e => by cases e; simp) (.inl (by simp [areB, pointB]))
  · exact set_no rfl (fun _ e => by cases e) (.inl rfl)
theorem stL2 {f z : Pt} {F F' G : List Pt} (h1 : F = f :: F') (h2 : F = G ++ [z]) (hs : F.length ≤ 20) (hF : Srt F) (hm : ∀ p, p ∈ F → SmP 122 p) :
    evE (callN tbT wf 11) (.cmp .ne (.comp (.var 12) (.nm 12) (.seq (.var 15)) [.isb true false (.call 11 [.var 12])] [12]) (.lst [])) (s0 :: s1 :: s2 :: s3 :: s4 :: s5 :: s6 :: s7 :: s8 :: s9 :: s10 :: s11 :: s12 :: s13 :: s14 :: .val (.lst (oddL f F z)) :: t) μ = some (.bl false, μ) := by
  refine sel_none (xs := oddL f F z) (by simp) rfl (by simp [oddL]) fun x hx => ?_
  have := odd_no (wf := wf) (μ := μ) h1 h2 hs hF hm x hx
  simp [this]
def bent1 (a : Pt) : List D := [.non, .lst [], .tup [], .tup [dQ a.1], .tup [dQ a.1, dQ a.2, dQ a.1], .lst [dQ a.1, dQ a.2], .tup [.int 1, .int 2], .tup [dQ a.1, .non], .tup [.non, dQ a.2], .tup [.tup [.int 2, .int 4], dQ a.2]]
def bent2 (a : Pt) : List D := [.tup [dQ a.1, .tup [.int 1, .int 0]], .tup [dQ a.1, .tup [.int 1, .int (-2)]], .tup [dQ a.1, .lst [.int 1, .int 2]], .tup [.tup [.bl true, .int 1], dQ a.2], .str (Str.ofString "point"), .dic []]
theorem stM1 {a : Pt} : evE (callN tbT wf 11) (.lst [.non, .lst [], .tup [], .tup [.idx (.var 2) (.int 0)], .op .add (.var 2) (.tup [.idx (.var 2) (.int 0)]), .bi .list [.var 2], .tup [.int 1, .int 2], .tup [.idx (.var 2) (.int 0), .non], .tup [.non, .idx (.var 2) (.int 1)], .tup [.tup [.int 2, .int 4], .idx (.var 2) (.int 1)]])
    (s0 :: s1 :: .val (dP a) :: t) μ = some (.lst (bent1 a), μ) := by
  have sl0 : 0 ≤ sizeLine := by decide
  have sl1 : 1 ≤ sizeLine := by decide
  have sl2 : 2 ≤ sizeLine := by decide
  have sl10 : 10 ≤ sizeLine := by decide
  have ad : opD μ .add (dP a) (.tup [dQ a.1]) = some (.tup [dQ a.1, dQ a.2, dQ a.1]) := by
    have q : opD μ .add (.tup [dQ a.1, dQ a.2]) (.tup [dQ a.1]) = if [dQ a.1, dQ a.2] ≠ [] ∧ [dQ a.1, dQ a.2].length + [dQ a.1].length ≤ sizeLine then some (.tup ([dQ a.1, dQ a.2] ++ [dQ a.1])) else none := rfl
    have l3 : 2 + 1 ≤ sizeLine := by decide
    exact q.trans (if_pos ⟨by simp, l3⟩)
  have bl : biD μ .list [dP a] = some (.lst [dQ a.1, dQ a.2]) := rfl
  simp [idx_dP, ad, bl, sl0, sl1, sl2, sl10, bent1]
theorem stM2 {a : Pt} : evE (callN tbT wf 11) (.op .add (.var 16) (.lst [.tup [.idx (.var 2) (.int 0), .tup [.int 1, .int 0]], .tup [.idx (.var 2) (.int 0), .tup [.int 1, .neg (.int 2)]], .tup [.idx (.var 2) (.int 0), .lst [.int 1, .int 2]], .tup [.tup [.bl true, .int 1], .idx (.var 2) (.int 1)], .str (Str.ofString "point"), .dic0]))
    (s0 :: s1 :: .val (dP a) :: s3 :: s4 :: s5 :: s6 :: s7 :: s8 :: s9 :: s10 :: s11 :: s12 :: s13 :: s14 :: s15 :: .val (.lst (bent1 a)) :: t) μ = some (.lst (bent1 a ++ bent2 a), μ) := by
  have sl2 : 2 ≤ sizeLine := by decide
  have sl6 : 6 ≤ sizeLine := by decide
  have ad := add_lst (μ := μ) (bent1 a) (bent2 a) (show 10 + 6 ≤ sizeLine by decide)
  generalize bent1 a = X at *
  simp [idx_dP, sl2, sl6, bent2] at ad ⊢
  simp [ad]
theorem bent_no {a : Pt} : ∀ x, x ∈ bent1 a ++ bent2 a → bare x = true ∧ pointB x = false := by
  intro x hx
  simp only [bent1, bent2, List.cons_append, List.nil_append, List.mem_cons, List.not_mem_nil, or_false] at hx
  rcases hx with rfl | rfl | rfl | rfl | rfl | rfl | rfl | rfl | rfl | rfl | rfl | rfl | rfl | rfl | rfl | rfl <;> refine ⟨rfl, ?_⟩ <;> simp [pointB, fracB]
theorem stM3 {a r : Pt} : evE (callN tbT wf 11) (.or (.isb true true (.call 7 [.var 2])) (.or (.isb true true (.callk 7 [] [.var 4] [0])) (.cmp .ne (.comp (.var 12) (.nm 12) (.seq (.var 16)) [.or (.isb true false (.call 7 [.var 12])) (.isb true false (.call 11 [.lst [.var 12]]))] [12]) (.lst []))))
    (s0 :: s1 :: .val (dP a) :: s3 :: .val (dP r) :: s5 :: s6 :: s7 :: s8 :: s9 :: s10 :: s11 :: s12 :: s13 :: s14 :: s15 :: .val (.lst (bent1 a ++ bent2 a)) :: t) μ = some (.bl false, μ) := by
  have p1 : ∀ μ : Mem, callN tbT wf 11 7 [dP a] μ = some (.bl true, μ) := fun μ => by rw [isp (wf := wf) 8 μ (bare_dP a), pointB_dP]
  have p2 : ∀ μ : Mem, callN tbT wf 11 7 [dP r] μ = some (.bl true, μ) := fun μ => by rw [isp (wf := wf) 8 μ (bare_dP r), pointB_dP]
  have sl1 : 1 ≤ sizeLine := by decide
  have hc := sel_none (wf := wf) (μ := μ) (s0 := s0) (s1 := s1) (s2 := .val (dP a)) (s3 := s3) (s4 := .val (dP r)) (s5 := s5) (s6 := s6) (s7 := s7) (s8 := s8) (s9 := s9) (s10 := s10) (s11 := s11) (s12 := s12) (t := s13 :: s14 :: s15 :: .val (.lst (bent1 a ++ bent2 a)) :: t) (e := .var 16) (cond := .or (.isb true false (.call 7 [.var 12])) (.isb true false (.call 11 [.lst [.var 12]]))) (xs := bent1 a ++ bent2 a) (by simp) rfl (by simp [bent1, bent2]) (fun x hx => by
    obtain ⟨h1, h2⟩ := bent_no x hx
    have e1 := isp (wf := wf) 8 μ h1
    have e2 := set_no (wf := wf) (μ := μ) (x := .lst [x]) (by simpa [bare, bares] using h1) (fun _ e => by cases e; simp) (.inl (by simp [areB, h2]))
    rw [h2] at e1
    simp [e1, e2, sl1])
  rw [evE_or18]
  have q : evE (callN tbT wf 11) (.isb true true (.call 7 [.var 2])) (s0 :: s1 :: .val (dP a) :: s3 :: .val (dP r) :: s5 :: s6 :: s7 :: s8 :: s9 :: s10 :: s11 :: s12 :: s13 :: s14 :: s15 :: .val (.lst (bent1 a ++ bent2 a)) :: t) μ = some (.bl false, μ) := by simp [p1]
  have q2 : evE (callN tbT wf 11) (.isb true true (.callk 7 [] [.var 4] [0])) (s0 :: s1 :: .val (dP a) :: s3 :: .val (dP r) :: s5 :: s6 :: s7 :: s8 :: s9 :: s10 :: s11 :: s12 :: s13 :: s14 :: s15 :: .val (.lst (bent1 a ++ bent2 a)) :: t) μ = some (.bl false, μ) := by simp [p2, permD]
  rw [q]
  simp only [Option.bind_some]
  rw [evE_or18, q2]
  simp only [Option.bind_some]
  exact hc
end
end K02
set_option Elab.async false
set_option linter.all false
set_option maxRecDepth 100000
set_option maxHeartbeats 2000000
namespace K02
open PySem PySem.Spec PyProof.Rows L2 DI
def lb : List MS := [
    .par [2, 3, 4] [.call 30 [.var 1], .call 30 [.var 1], .call 30 [.var 1]],
    .iff (.cmp .eq (.call 20 [.var 1, .int 3]) (.int 0)) [
      .asg (.nm 4) (.call 34 [.var 2, .var 3, .call 24 [.op .sub (.call 20 [.var 1, .int 13]) (.int 6), .op .add (.int 1) (.call 20 [.var 1, .int 3])]])] [],
    .asg (.nm 5) (.call 32 [.var 2, .var 3, .var 4]),
    .asg (.nm 6) (.lst [.call 16 [.var 2, .var 3, .var 4], .callk 16 [] [.var 4, .var 3, .var 2] [2, 1, 0], .call 17 [.var 2, .var 3, .var 4], .call 17 [.var 3, .var 4, .var 2], .callk 17 [] [.var 3, .var 4, .var 2] [2, 1, 0]]),
    .iff (.not (.call 22 [.var 6, .lst [.var 5, .var 5, .call 33 [.var 5], .call 33 [.var 5], .neg (.call 33 [.var 5])]])) [
      .ret (.bl false)] [],
    .asg (.nm 7) (.comp (.call 30 [.var 1]) (.nm 8) (.rng [.call 20 [.var 1, .int 9]]) [] [8]),
    .asg (.nm 7) (.call 21 [.var 1, .op .add (.op .add (.var 7) (.slc (.var 7) none (some (.call 20 [.var 1, .int 3])))) (.lst [.var 2, .var 3, .var 4, .var 2])]),
    .asg (.nm 9) (.lst []),
    .for (.nm 10) (.seq (.var 7)) [
      .iff (.cmp .nin (.var 10) (.var 9)) [
        .asg (.nm 11) (.bi .len [.comp (.var 12) (.nm 12) (.seq (.var 9)) [.call 31 [.var 12, .var 10]] [12]]),
        .asg (.nm 9) (.op .add (.op .add (.slc (.var 9) none (some (.var 11))) (.lst [.var 10])) (.slc (.var 9) (some (.var 11)) none))] []],
    .asg (.nm 13) (.bi .repr [.var 7]),
    .asg (.nm 6) (.cell (.call 13 [.var 7])),
    .iff (.or (.not (.call 22 [.lst [.var 6, .callk 13 [] [.var 7] [0], .call 13 [.lst []]], .lst [.var 9, .var 9, .lst []]])) (.or (.isb true true (.call 11 [.var 9])) (.isb true true (.call 11 [.lst []])))) [
      .ret (.bl false)] [],
    .meth .append (.var 6) [.str (Str.ofString "more")],
    .iff (.or (.cmp .ne (.bi .repr [.var 7]) (.var 13)) (.or (.not (.call 22 [.call 13 [.var 9], .var 9])) (.isb true true (.callk 11 [] [.var 9] [0])))) [
      .ret (.bl false)] [],
    .meth .append (.cell (.call 13 [.var 9])) [.str (Str.ofString "more")],
    .asg (.nm 14) (.lst [.tup [.tup [.op .sub (.op .pow (.int 10) (.int 12)) (.int 2), .op .sub (.op .pow (.int 10) (.int 12)) (.int 1)], .tup [.int 0, .int 1]], .tup [.tup [.op .sub (.op .pow (.int 10) (.int 12)) (.int 3), .op .sub (.op .pow (.int 10) (.int 12)) (.int 2)], .tup [.int 0, .int 1]]]),
    .iff (.or (.not (.call 22 [.lst [.call 13 [.var 14], .call 11 [.var 14], .call 11 [.rev (.var 14)]], .lst [.rev (.var 14), .bl false, .bl true]])) (.cmp .inn (.str (Str.ofString "more")) (.var 9))) [
      .ret (.bl false)] [],
    .asg (.nm 15) (.lst [.non, .tup [], .lst [.idx (.var 9) (.int 0), .non], .ite (.cmp .gt (.bi .len [.var 9]) (.int 1)) (.rev (.var 9)) (.str (Str.ofString "set")), .op .add (.var 9) (.slc (.var 9) (some (.neg (.int 1))) none), .op .add (.slc (.var 9) none (some (.int 1))) (.var 9), .bi .tuple [.var 9], .lst [.bi .list [.idx (.var 9) (.int 0)]], .dic0]),
    .iff (.cmp .ne (.comp (.var 12) (.nm 12) (.seq (.var 15)) [.isb true false (.call 11 [.var 12])] [12]) (.lst [])) [
      .ret (.bl false)] [],
    .asg (.nm 16) (.lst [.non, .lst [], .tup [], .tup [.idx (.var 2) (.int 0)], .op .add (.var 2) (.tup [.idx (.var 2) (.int 0)]), .bi .list [.var 2], .tup [.int 1, .int 2], .tup [.idx (.var 2) (.int 0), .non], .tup [.non, .idx (.var 2) (.int 1)], .tup [.tup [.int 2, .int 4], .idx (.var 2) (.int 1)]]),
    .asg (.nm 16) (.op .add (.var 16) (.lst [.tup [.idx (.var 2) (.int 0), .tup [.int 1, .int 0]], .tup [.idx (.var 2) (.int 0), .tup [.int 1, .neg (.int 2)]], .tup [.idx (.var 2) (.int 0), .lst [.int 1, .int 2]], .tup [.tup [.bl true, .int 1], .idx (.var 2) (.int 1)], .str (Str.ofString "point"), .dic0])),
    .iff (.or (.isb true true (.call 7 [.var 2])) (.or (.isb true true (.callk 7 [] [.var 4] [0])) (.cmp .ne (.comp (.var 12) (.nm 12) (.seq (.var 16)) [.or (.isb true false (.call 7 [.var 12])) (.isb true false (.call 11 [.lst [.var 12]]))] [12]) (.lst [])))) [
      .ret (.bl false)] []]
theorem law_is : b_law.body = [.for (.nm 1) (.seq (.call 23 [.var 0, .int 2])) lb, .ret (.bl true)] := rfl
theorem body_ok {wf c b : Nat} {μ : Mem} {s0 s2 s3 s4 s5 s6 s7 s8 s9 s10 s11 s12 s13 s14 s15 s16 : Sl} (hw : ∀ k, k ≤ 1000 → 2 ^ k ≤ wf) (h : Pur μ c b) (hb : b + 3000 < 2 ^ 190) :
    ∃ (e : Ev) (ν : Mem), evSs (callN tbT wf 11) wf lb [s0, .val (.ref c), s2, s3, s4, s5, s6, s7, s8, s9, s10, s11, s12, s13, s14, s15, s16] μ = some (.nx e, ν) ∧ e.length = 17 ∧ μ.length ≤ ν.length ∧ ∀ j, j ≠ c → j < μ.length → ν[j]? = μ[j]? := by
  obtain ⟨p, q, r0, μ1, eA1, ⟨hp, hq, hr0⟩, h1, o1⟩ := stA1 (s0 := s0) (s2 := s2) (s3 := s3) (s4 := s4) (t := [s5, s6, s7, s8, s9, s10, s11, s12, s13, s14, s15, s16]) hw h (by omega)
  obtain ⟨r, μ2, eA2, hr, h2, o2⟩ := stA2 (s0 := s0) (t := [s5, s6, s7, s8, s9, s10, s11, s12, s13, s14, s15, s16]) hw hp hq hr0 h1 (by omega)
  have hp' : SmP 122 p := smp_mono hw hp (by decide)
  have hq' : SmP 122 q := smp_mono hw hq (by decide)
  obtain ⟨l0, μ3, eC1, hl0, ll0, h3, o3⟩ := stC1 (s0 := s0) (s2 := .val (dP p)) (s3 := .val (dP q)) (s4 := .val (dP r)) (s5 := .val (dQ (turnQ p q r))) (s6 := .val (.lst [dQ (turnQ p q r), dQ (turnQ p q r), .int (sgQ (turnQ p q r)), .int (sgQ (turnQ p q r)), .int (-sgQ (turnQ p q r))])) (s7 := s7) (s8 := s8) (t := [s9, s10, s11, s12, s13, s14, s15, s16]) hw h2 (by omega)
  obtain ⟨l, μ4, eC2, hl, pl, ll, h4, o4⟩ := stC2 (s0 := s0) (p := p) (q := q) (r := r) (s5 := .val (dQ (turnQ p q r))) (s6 := .val (.lst [dQ (turnQ p q r), dQ (turnQ p q r), .int (sgQ (turnQ p q r)), .int (sgQ (turnQ p q r)), .int (-sgQ (turnQ p q r))])) (t := [s8, s9, s10, s11, s12, s13, s14, s15, s16]) hw ll0 h3 (by omega)
  have hm : ∀ x, x ∈ l → SmP 122 x := fun x hx => by
    rcases hl x hx with z | rfl | rfl | rfl
    · exact smp_mono hw (hl0 x z) (by decide)
    · exact hp'
    · exact hq'
    · exact hr
  have hmF : ∀ x, x ∈ sortP l → SmP 122 x := fun x hx => hm x (sortP_mem.mp hx)
  have lF : (sortP l).length ≤ 20 := Nat.le_trans (sortP_len l) ll
  have ne : sortP l ≠ [] := fun z => by
    have := sortP_mem.mpr pl
    rw [z] at this
    cases this
  obtain ⟨f, F', hF1⟩ := List.exists_cons_of_ne_nil ne
  obtain ⟨G, z, hF2⟩ : ∃ G z, sortP l = G ++ [z] := ⟨(sortP l).dropLast, (sortP l).getLast ne, (List.dropLast_concat_getLast ne).symm⟩
  obtain ⟨v10, v11, eD⟩ := stD (wf := wf) (μ := μ4) (s0 := s0) (s1 := .val (.ref c)) (s2 := .val (dP p)) (s3 := .val (dP q)) (s4 := .val (dP r)) (s5 := .val (dQ (turnQ p q r))) (s6 := .val (.lst [dQ (turnQ p q r), dQ (turnQ p q r), .int (sgQ (turnQ p q r)), .int (sgQ (turnQ p q r)), .int (-sgQ (turnQ p q r))])) (s8 := s8) (s10 := s10) (s11 := s11) (s12 := s12) (t := [s13, s14, s15, s16]) hm ll
  have kF : (μ4 ++ [some ((sortP l).map dP)])[μ4.length]? = some (some ((sortP l).map dP)) := by simp
  have lFd : ((sortP l).map dP).length ≤ 1000 := by rw [List.length_map]; omega
  have eI := stI (wf := wf) (μ := (μ4 ++ [some ((sortP l).map dP)]).set μ4.length (some ((sortP l).map dP ++ [.str (Str.ofString "more")]))) (l := l) (s0 := s0) (s1 := .val (.ref c)) (s2 := .val (dP p)) (s3 := .val (dP q)) (s4 := .val (dP r)) (s5 := .val (dQ (turnQ p q r))) (s6 := .val (.ref μ4.length)) (s7 := .val (.lst (l.map dP))) (s8 := s8) (t := [v10, v11, s12, .val (.str (PyData.list (l.map pP)).shown), s14, s15, s16]) hm ll
  refine ⟨_, _, (ss_nx eA1).trans ((ss_nx eA2).trans ((ss_asg (stB1 hw hp' hq' hr)).trans ((ss_asg (stB2 hw hp' hq' hr)).trans ((ss_skip (stB3 hw)).trans ((ss_asg eC1).trans ((ss_asg eC2).trans ((ss_asg (d := .lst []) (μ1 := μ4) (by simp)).trans ((ss_nx eD).trans
    ((ss_asg (d := .str (PyData.list (l.map pP)).shown) (μ1 := μ4) (by simp [stE hm ll])).trans ((ss_asg (stF hm ll)).trans ((ss_skip (stG hm ll kF)).trans ((ss_nx (app_ok (k := μ4.length) (by simp) kF lFd)).trans ((ss_skip (stH hm ll)).trans ((ss_nx (app_ok eI (by simp) lFd)).trans
    ((ss_asg stJ).trans ((ss_skip stK).trans ((ss_asg (stL hF1 hF2 lF)).trans ((ss_skip (stL2 hF1 hF2 lF (sortP_srt l) hmF)).trans ((ss_asg stM1).trans ((ss_asg stM2).trans ((ss_skip stM3).trans (evSs_nil55 ..)))))))))))))))))))))), rfl, ?_, fun j hj hjl => ?_⟩
  · have := (((o1.trans o2).trans o3).trans o4).1
    simp only [List.length_set, List.length_append, List.length_cons, List.length_nil]
    omega
  · have oo := ((o1.trans o2).trans o3).trans o4
    have l4 := oo.1
    have e1 : ∀ (M : Mem) (x y : Option (List D)), j < M.length → ((M ++ [x]).set M.length y)[j]? = M[j]? := fun M x y hM => by
      rw [List.getElem?_set_ne (by omega), List.getElem?_append_left hM]
    rw [e1 _ _ _ (by simp only [List.length_set, List.length_append, List.length_cons, List.length_nil]; omega), e1 _ _ _ (by omega)]
    exact oo.2 j hj
theorem len17 : ∀ e : Ev, e.length = 17 → ∃ s0 s1 s2 s3 s4 s5 s6 s7 s8 s9 s10 s11 s12 s13 s14 s15 s16, e = [s0, s1, s2, s3, s4, s5, s6, s7, s8, s9, s10, s11, s12, s13, s14, s15, s16]
  | [s0, s1, s2, s3, s4, s5, s6, s7, s8, s9, s10, s11, s12, s13, s14, s15, s16], _ => ⟨s0, s1, s2, s3, s4, s5, s6, s7, s8, s9, s10, s11, s12, s13, s14, s15, s16, rfl⟩
theorem plain (ns : List Int) (h : ns.length ≤ 63) (hb : ∀ i, i ∈ ns → Builtin.Int.intBits i ≤ 1048576) : ∃ wf μ', callN tb.T wf 12 35 [.lst (ns.map D.int)] [] = some (.bl true, μ') := by
  obtain ⟨wf, hw⟩ : ∃ wf : Nat, ∀ k, k ≤ 1000 → 2 ^ k ≤ wf := ⟨2 ^ 1000, fun k hk => Nat.pow_le_pow_right (by decide) hk⟩
  obtain ⟨k, μ0, e0, l0, p0⟩ := purses_ok (T := tbT) (wf := wf) (n := 9) at__law_purse at__law_purses ns (by omega) (few := 2) (by decide)
  have e0' : callN tbT wf 11 23 [.lst (ns.map D.int), .int 2] [] = some (.lst ((List.range k).map D.ref), μ0) := e0
  obtain ⟨env', μ', hf, -⟩ := for_run (C := callN tbT wf 11) (wf := wf) (tg := .nm 1) (body := lb) (src := .seq (.call 23 [.var 0, .int 2])) (env := Sl.val (.lst (ns.map D.int)) :: List.replicate 16 .un) (μ := []) (μ1 := μ0) (xs := (List.range k).map D.ref) (lks := [])
    (P := fun r e ν => e.length = 17 ∧ k ≤ ν.length ∧ ∃ rest : List Nat, r = rest.map D.ref ∧ rest.Nodup ∧ ∀ c, c ∈ rest → c < k ∧ Pur ν c 0)
    (by simp [evI_seq34, e0', itemsD, seqV, lockOf]) rfl (fun _ _ _ _ => rfl) (fun x r e ν q => by
      obtain ⟨q1, q2, rest, q3, q4, q5⟩ := q
      cases rest with
      | nil => simp at q3
      | cons c rest =>
        rw [List.map_cons] at q3
        obtain ⟨rfl, rfl⟩ := List.cons.inj q3
        obtain ⟨s0, s1, s2, s3, s4, s5, s6, s7, s8, s9, s10, s11, s12, s13, s14, s15, s16, rfl⟩ := len17 e q1
        obtain ⟨ck, cp⟩ := q5 c List.mem_cons_self
        obtain ⟨e', ν', b1, b2, b3, b4⟩ := body_ok (s0 := s0) (s2 := s2) (s3 := s3) (s4 := s4) (s5 := s5) (s6 := s6) (s7 := s7) (s8 := s8) (s9 := s9) (s10 := s10) (s11 := s11) (s12 := s12) (s13 := s13) (s14 := s14) (s15 := s15) (s16 := s16) hw cp (by decide)
        refine ⟨_, e', ν', rfl, b1, b2, by omega, rest, rfl, (List.nodup_cons.mp q4).2, fun c' hc' => ?_⟩
        obtain ⟨c1, p1⟩ := q5 c' (List.mem_cons_of_mem _ hc')
        refine ⟨c1, ?_⟩
        have ne : c' ≠ c := fun e => (List.nodup_cons.mp q4).1 (e ▸ hc')
        obtain ⟨a0, a1, a2, a3, z1, z2⟩ := p1
        exact ⟨a0, a1, a2, a3, (b4 c' ne (by omega)).trans z1, z2⟩) ⟨rfl, by omega, List.range k, rfl, List.nodup_range, fun c hc => ⟨List.mem_range.mp hc, p0 c (List.mem_range.mp hc)⟩⟩
  refine ⟨wf, μ', run_ret (T := tbT) at_law rfl ?_⟩
  rw [law_is]
  exact (ss_nx hf).trans (ss_ret (by simp))
end K02
set_option Elab.async false
set_option linter.all false
set_option maxRecDepth 100000
set_option maxHeartbeats 8000000
open PySem PySem.W PyProof.Rows
set_option maxHeartbeats 0 in
theorem PySem.Challenge.cw_straightcuts_k02_whole_points_holds : PySem.Challenge.rw_straightcuts_k02_whole_points.Holds := by
  w_on; o_law; k_head; (case hw => w_witness2)
  k_fill
  refine DI.walk_law (l := PySem.Challenge.rw_straightcuts_k02_whole_points) (n := 63) (k := 12) (fi := 35) (xs := "script") (Tb := K02.tb) rfl (by decide) rfl ⟨rfl, by decide, by decide⟩ (fun w h Y => PySem.W.kIn_of Y) ?F ⟨_, K02.at_law, rfl⟩ rfl K02.plain
  case F =>
    intro w mg h KX G
    refine' K02.all_mk KX G ?uq_a0 ?uq_l0 ?uq_c0 ?uq_k0 ?uq_a1 ?uq_l1 ?uq_c1 ?uq_k1 ?uq_a2 ?uq_l2 ?uq_c2 ?uq_k2 ?uq_a3 ?uq_l3 ?uq_c3 ?uq_k3 ?uq_a4 ?uq_l4 ?uq_c4 ?uq_k4 ?uq_a5 ?uq_l5 ?uq_c5 ?uq_k5 ?uq_a6 ?uq_l6 ?uq_c6 ?uq_k6 ?uq_a7 ?uq_l7 ?uq_c7 ?uq_k7 ?uq_a8 ?uq_l8 ?uq_c8 ?uq_k8 ?uq_a9 ?uq_l9 ?uq_c9 ?uq_k9 ?uq_a10 ?uq_l10 ?uq_c10 ?uq_k10 ?uq_a11 ?uq_l11 ?uq_c11 ?uq_k11 ?uq_a12 ?uq_l12 ?uq_c12 ?uq_k12 ?uq_a13 ?uq_l13 ?uq_c13 ?uq_k13 ?uq_a14 ?uq_l14 ?uq_c14 ?uq_k14 ?uq_a15 ?uq_l15 ?uq_c15 ?uq_k15 ?uq_a16 ?uq_l16 ?uq_c16 ?uq_k16 ?uq_a17 ?uq_l17 ?uq_c17 ?uq_k17 ?uq_a18 ?uq_l18 ?uq_c18 ?uq_k18 ?uq_a19 ?uq_l19 ?uq_c19 ?uq_k19 ?uq_a20 ?uq_l20 ?uq_c20 ?uq_k20 ?uq_a21 ?uq_l21 ?uq_c21 ?uq_k21 ?uq_a22 ?uq_l22 ?uq_c22 ?uq_k22 ?uq_a23 ?uq_l23 ?uq_c23 ?uq_k23 ?uq_a24 ?uq_l24 ?uq_c24 ?uq_k24 ?uq_a25 ?uq_l25 ?uq_c25 ?uq_k25 ?uq_a26 ?uq_l26 ?uq_c26 ?uq_k26 ?uq_a27 ?uq_l27 ?uq_c27 ?uq_k27 ?uq_a28 ?uq_l28 ?uq_c28 ?uq_k28 ?uq_a29 ?uq_l29 ?uq_c29 ?uq_k29 ?uq_a30 ?uq_l30 ?uq_c30 ?uq_k30 ?uq_a31 ?uq_l31 ?uq_c31 ?uq_k31 ?uq_a32 ?uq_l32 ?uq_c32 ?uq_k32 ?uq_a33 ?uq_l33 ?uq_c33 ?uq_k33 ?uq_a34 ?uq_l34 ?uq_c34 ?uq_k34 ?uq_a35 ?uq_l35 ?uq_c35 ?uq_k35 ?uq_z0 ?uq_z1 ?uq_z2 ?uq_z3 ?uq_z4 ?uq_z5 ?uq_z6 ?uq_z7 ?uq_z8 ?uq_z9 ?uq_z10 ?uq_z11 ?uq_z12 ?uq_z13 ?uq_z14 ?uq_z15 ?uq_g0
    (case uq_a0 => k_is); (case uq_l0 => k_is); (case uq_c0 => k_is); (case uq_k0 => k_is); (case uq_a1 => k_is); (case uq_l1 => k_is); (case uq_c1 => k_is); (case uq_k1 => k_is); (case uq_a2 => k_is); (case uq_l2 => k_is); (case uq_c2 => k_is); (case uq_k2 => k_is); (case uq_a3 => k_is); (case uq_l3 => k_is); (case uq_c3 => k_is); (case uq_k3 => k_is); (case uq_a4 => k_is); (case uq_l4 => k_is); (case uq_c4 => k_is); (case uq_k4 => k_is); (case uq_a5 => k_is); (case uq_l5 => k_is); (case uq_c5 => k_is); (case uq_k5 => k_is); (case uq_a6 => k_is); (case uq_l6 => k_is); (case uq_c6 => k_is); (case uq_k6 => k_is); (case uq_a7 => k_is); (case uq_l7 => k_is); (case uq_c7 => k_is); (case uq_k7 => k_is); (case uq_a8 => k_is); (case uq_l8 => k_is); (case uq_c8 => k_is); (case uq_k8 => k_is); (case uq_a9 => k_is); (case uq_l9 => k_is); (case uq_c9 => k_is); (case uq_k9 => k_is); (case uq_a10 => k_is); (case uq_l10 => k_is); (case uq_c10 => k_is); (case uq_k10 => k_is); (case uq_a11 => k_is); (case uq_l11 => k_is); (case uq_c11 => k_is); (case uq_k11 => k_is); (case uq_a12 => k_is); (case uq_l12 => k_is); (case uq_c12 => k_is); (case uq_k12 => k_is); (case uq_a13 => k_is); (case uq_l13 => k_is); (case uq_c13 => k_is); (case uq_k13 => k_is); (case uq_a14 => k_is); (case uq_l14 => k_is); (case uq_c14 => k_is); (case uq_k14 => k_is); (case uq_a15 => k_is); (case uq_l15 => k_is); (case uq_c15 => k_is); (case uq_k15 => k_is); (case uq_a16 => k_is); (case uq_l16 => k_is); (case uq_c16 => k_is); (case uq_k16 => k_is); (case uq_a17 => k_is); (case uq_l17 => k_is); (case uq_c17 => k_is); (case uq_k17 => k_is); (case uq_a18 => k_is); (case uq_l18 => k_is); (case uq_c18 => k_is); (case uq_k18 => k_is); (case uq_a19 => k_is); (case uq_l19 => k_is); (case uq_c19 => k_is); (case uq_k19 => k_is); (case uq_a20 => k_is); (case uq_l20 => k_is); (case uq_c20 => k_is); (case uq_k20 => k_is); (case uq_a21 => k_is); (case uq_l21 => k_is); (case uq_c21 => k_is); (case uq_k21 => k_is); (case uq_a22 => k_is); (case uq_l22 => k_is); (case uq_c22 => k_is); (case uq_k22 => k_is); (case uq_a23 => k_is); (case uq_l23 => k_is); (case uq_c23 => k_is); (case uq_k23 => k_is); (case uq_a24 => k_is); (case uq_l24 => k_is); (case uq_c24 => k_is); (case uq_k24 => k_is); (case uq_a25 => k_is); (case uq_l25 => k_is); (case uq_c25 => k_is); (case uq_k25 => k_is); (case uq_a26 => k_is); (case uq_l26 => k_is); (case uq_c26 => k_is); (case uq_k26 => k_is); (case uq_a27 => k_is); (case uq_l27 => k_is); (case uq_c27 => k_is); (case uq_k27 => k_is); (case uq_a28 => k_is); (case uq_l28 => k_is); (case uq_c28 => k_is); (case uq_k28 => k_is); (case uq_a29 => k_is); (case uq_l29 => k_is); (case uq_c29 => k_is); (case uq_k29 => k_is); (case uq_a30 => k_is); (case uq_l30 => k_is); (case uq_c30 => k_is); (case uq_k30 => k_is); (case uq_a31 => k_is); (case uq_l31 => k_is); (case uq_c31 => k_is); (case uq_k31 => k_is); (case uq_a32 => k_is); (case uq_l32 => k_is); (case uq_c32 => k_is); (case uq_k32 => k_is); (case uq_a33 => k_is); (case uq_l33 => k_is); (case uq_c33 => k_is); (case uq_k33 => k_is); (case uq_a34 => k_is); (case uq_l34 => k_is); (case uq_c34 => k_is); (case uq_k34 => k_is); (case uq_a35 => k_is); (case uq_l35 => k_is); (case uq_c35 => k_is); (case uq_k35 => k_is); (case uq_z0 => k_is); (case uq_z1 => k_is); (case uq_z2 => k_is); (case uq_z3 => k_is); (case uq_z4 => k_is); (case uq_z5 => k_is); (case uq_z6 => k_is); (case uq_z7 => k_is); (case uq_z8 => k_is); (case uq_z9 => k_is); (case uq_z10 => k_is); (case uq_z11 => k_is); (case uq_z12 => k_is); (case uq_z13 => k_is); (case uq_z14 => k_is); (case uq_z15 => k_is); (case uq_g0 => k_is)
