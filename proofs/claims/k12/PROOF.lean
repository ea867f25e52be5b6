import PyProof.Rows.All
import Wide.All
import OpenK.AllK
import Wide.FinOn
import HandS.ForMost
import HandS.ForExc
import HandS.Flow
import HandS.Wide
import HandS.IsInst
import HandS.TupAny
import HandS.Style
import HandS.Conv
import HandS.RaiseMore
import HandS.Zip
import KE.DataFind
import KE.SortKeyHeap
import KE.KUnpackStar
import HandS.ExcCtx
import HandS.HotCalls
import HandS.CallSlots
import HandS.Defaults
import HandS.Keys
import HandS.SortKw
import HandS.HeadEnd
import HandS.Head0
import HandS.Head1
import HandS.Head2
import HandS.HeadHook1
import HandS.HeadHook2
import HandS.HeadHook3
import HandS.HeadHook4
import HandS.ExcIs
import PySem.Challenge.RW_sayarrows_k12_shapes_known
set_option Elab.async false
set_option linter.all false
set_option maxRecDepth 100000
set_option autoImplicit false
set_option maxHeartbeats 3900000
/-! PLa: a small language of data, and what a text of it comes to (by wishes). No program in sight. -/
namespace PL
open PySem

/-- data: what a text of ours reckons with -/
inductive D where
  | non
  | bl (b : Bool)
  | int (i : Int)
  | str (x : Str)
  | lst (xs : List D)
  | tup (xs : List D)
  | dic (kvs : List (L2.Key × D))
  | pot
  | scr (ns : List Int)

/-- a result: data, or a list that nobody else holds -/
inductive R where
  | val (d : D)
  | own (ds : List D)
def R.d : R → D
  | .val d => d
  | .own ds => .lst ds
abbrev Env := List (Option R)
/-- an error: its class by name, its fields -/
structure Xc where
  c : Str
  fs : List D

inductive Op where
  | add | sub | mul | fdiv | mod | pow
inductive Cm where
  | eq | ne | lt | le | gt | ge | isin | notin | is | isnot
inductive Ty where
  | int | bool | str | list | tuple | dict
inductive Bi where
  | len | abs | max | min | int | repr | sum | all | any | list | tuple | sorted | dict | divmod | str
inductive Mt where
  | join | count | index | upper
/-- what changes a list of one's own -/
inductive Mu where
  | append | pop

/-- targets -/
inductive Tg where
  | nm (i : Nat)
  | tp (gs : List Tg)
  | star (i j : Nat)

mutual
inductive Ex where
  | var (i : Nat)
  | cst (c : D)
  | glo (x : Nat)
  | neg (a : Ex)
  | bin (o : Op) (a b : Ex)
  | cmp (o : Cm) (a b : Ex)
  | chn (o p : Cm) (a b c : Ex)
  | and (a b : Ex)
  | or (a b : Ex)
  | not (a : Ex)
  | ifx (c a b : Ex)
  | tup (es : List Ex)
  | lst (es : List Ex)
  | dic (kvs : List (L2.Key × D))
  | ix (a b : Ex)
  | sl (a : Ex) (lo hi : Option Ex)
  | rev (a : Ex)
  | call (f : Nat) (es : List Ex)
  | callk (f : Nat) (pm : List Nat) (es ks : List Ex)
  | srk (f : Nat) (e : Ex)
  | bi (f : Bi) (es : List Ex)
  | rng (a b : Ex)
  | isi (a : Ex) (t : Ty)
  | mt (m : Mt) (a : Ex) (es : List Ex)
  | mu (m : Mu) (i : Nat) (es : List Ex)
  | lenv (i : Nat)
  | rpv (i : Nat)
  | potg (i : Nat)
  | mkpot (e : Ex)
  | lc (g : Tg) (it : It) (cs : List Ex) (e : Ex) (ws : List Nat)
inductive It where
  | seq (e : Ex)
  | rng1 (a : Ex)
  | rng2 (a b : Ex)
  | zip (a b : Ex)
end

inductive Sm where
  | asg (g : Tg) (e : Ex)
  | par2 (i j : Nat) (a b : Ex)
  | aug (i : Nat) (o : Op) (e : Ex)
  | potp (i : Nat) (e : Ex)
  | ex (e : Ex)
  | ret (e : Ex)
  | retN
  | ife (c : Ex) (a b : List Sm)
  | fo (g : Tg) (it : It) (b : List Sm)
  | whil (c : Ex) (b : List Sm)
  | pas
  | brk
  | cnt
  | rais (x : Str)
  | tryr (i : Nat) (b : List Sm)

/-! ### what operations come to -/
def lim : Nat := 16777216

def addD : D → D → Option R
  | .int i, .int j => some (.val (.int (i + j)))
  | .str x, .str y => if x.length + y.length ≤ lim then some (.val (.str (x ++ y))) else none
  | .lst xs, .lst ys => if xs.length + ys.length ≤ lim then some (.own (xs ++ ys)) else none
  | .tup xs, .tup ys => if xs.length + ys.length ≤ lim then some (.val (.tup (xs ++ ys))) else none
  | _, _ => none
def opD : Op → D → D → Option R
  | .add, x, y => addD x y
  | .sub, .int i, .int j => some (.val (.int (i - j)))
  | .mul, .int i, .int j => if (-(2 ^ 64) < i ∧ i < 2 ^ 64) ∨ (-(2 ^ 64) < j ∧ j < 2 ^ 64) then some (.val (.int (i * j))) else none
  | .mul, .lst xs, .int n => if xs.length ≤ 4096 ∧ 0 ≤ n ∧ n ≤ 1000 then some (.own (List.replicate n.toNat xs).flatten) else none
  | .mul, .str x, .int n => if x.length ≤ 4096 ∧ 0 ≤ n ∧ n ≤ 4096 then some (.val (.str (Txt.mul x n))) else none
  | .fdiv, .int i, .int j => if 0 < j ∧ j < 2 ^ 64 then some (.val (.int (i / j))) else none
  | .mod, .int i, .int j => if 0 < j then some (.val (.int (i % j))) else none
  | .pow, .int i, .int j => if 0 ≤ j ∧ j ≤ 1000000 ∧ i.natAbs < 2 ^ 64 then some (.val (.int (i ^ j.toNat))) else none
  | _, _, _ => none

/-- x += y, x -= y -/
def augD : Op → D → D → Option R
  | .add, .int i, .int j => some (.val (.int (i + j)))
  | .add, .str x, .str y => if x.length + y.length ≤ lim then some (.val (.str (x ++ y))) else none
  | .sub, .int i, .int j => some (.val (.int (i - j)))
  | _, _, _ => none
/-- the kind of a thing -/
def isTy : D → Ty → Bool
  | .bl _, .bool => true
  | .bl _, .int => true
  | .int _, .int => true
  | .str _, .str => true
  | .lst _, .list => true
  | .pot, .list => true
  | .scr _, .list => true
  | .tup _, .tuple => true
  | .dic _, .dict => true
  | _, _ => false

/-- truth -/
def truD : D → Option Bool
  | .non => some false
  | .bl b => some b
  | .int i => some (i != 0)
  | .str x => if x.length ≤ lim then some ((x.length : Int) != 0) else none
  | .lst xs => some (!xs.isEmpty)
  | .tup xs => some (!xs.isEmpty)
  | .dic kvs => some (!kvs.isEmpty)
  | .pot => none
  | .scr _ => none

mutual
/-- plain: no pot, no dict; how deep -/
def plain : D → Bool
  | .pot => false
  | .scr _ => false
  | .dic _ => false
  | .lst xs => plains xs
  | .tup xs => plains xs
  | _ => true
def plains : List D → Bool
  | [] => true
  | x :: xs => plain x && plains xs
end
mutual
/-- what repr takes: no pot -/
def plainR : D → Bool
  | .pot => false
  | .scr _ => false
  | .dic kvs => plainRk kvs
  | .lst xs => plainRs xs
  | .tup xs => plainRs xs
  | _ => true
def plainRs : List D → Bool
  | [] => true
  | x :: xs => plainR x && plainRs xs
def plainRk : List (L2.Key × D) → Bool
  | [] => true
  | (_, d) :: r => plainR d && plainRk r
end
mutual
def toPy : D → PyData
  | .non => .none
  | .bl b => .bool b
  | .int i => .int i
  | .str x => .str x
  | .lst xs => .list (toPys xs)
  | .tup xs => .tuple (toPys xs)
  | .dic kvs => .dict (toPyK kvs)
  | .pot => .none
  | .scr _ => .none
def toPys : List D → List PyData
  | [] => []
  | x :: xs => toPy x :: toPys xs
def toPyK : List (L2.Key × D) → List (PyData × PyData)
  | [] => []
  | (.inl i, d) :: r => (.int i, toPy d) :: toPyK r
  | (.inr x, d) :: r => (.str x, toPy d) :: toPyK r
end

/-- flat things, and == of them -/
def flatD : D → Bool
  | .non => true
  | .bl _ => true
  | .int _ => true
  | .str _ => true
  | _ => false
def eqF : D → D → Bool
  | .non, .non => true
  | .bl a, .bl b => a == b
  | .bl a, .int b => (if a then 1 else 0) == b
  | .int a, .bl b => a == (if b then 1 else 0)
  | .int a, .int b => a == b
  | .str a, .str b => a == b
  | _, _ => false
def eqG (x y : D) : Option Bool :=
  if plain x = true ∧ plain y = true ∧ SeqAt.shaped (toPy x) = true ∧ SeqAt.shaped (toPy y) = true then some (PyData.eqv (toPy x) (toPy y)) else none
/-- == of texts wants nothing, nor == with what is empty -/
def eqD : D → D → Option Bool
  | .str a, .str b => some (decide (a = b))
  | .lst xs, .lst [] => some xs.isEmpty
  | .tup xs, .tup [] => some xs.isEmpty
  | x, y => eqG x y
/-- one sign in a text -/
def inS : D → Str → Option Bool
  | .str ⟨⟨[c]⟩⟩, z => some (decide (c ∈ z.cps.toList))
  | _, _ => none
def inD (x : D) : D → Option Bool
  | .lst ys => if flatD x = true ∧ ys.all flatD = true then some (ys.any fun y => eqF y x) else none
  | .tup ys => if flatD x = true ∧ ys.all flatD = true then some (ys.any fun y => eqF y x) else none
  | .str z => inS x z
  | _ => none
/-- x is y: of None and of truths -/
def isD : D → D → Option Bool
  | .non, .non => some true
  | _, .non => some false
  | .bl a, .bl b => some (a == b)
  | _, _ => none
def cmD : Cm → D → D → Option Bool
  | .eq, x, y => eqD x y
  | .ne, x, y => (eqD x y).map not
  | .lt, .int i, .int j => some (decide (i < j))
  | .le, .int i, .int j => some (decide (i ≤ j))
  | .gt, .int i, .int j => some (decide (j < i))
  | .ge, .int i, .int j => some (decide (j ≤ i))
  | .isin, x, y => inD x y
  | .notin, x, y => (inD x y).map not
  | .is, x, y => isD x y
  | .isnot, x, y => (isD x y).map not
  | _, _, _ => none

/-- a key of a dict -/
def keyD : D → Option L2.Key
  | .int i => some (.inl i)
  | .str x => some (.inr x)
  | _ => none
def valD (kvs : List (L2.Key × D)) (k : L2.Key) : Option D := (kvs.find? fun kv => decide (kv.1 = k)).map (·.2)
def putD (kvs : List (L2.Key × D)) (k : L2.Key) (v : D) : List (L2.Key × D) :=
  if (kvs.any fun kv => decide (kv.1 = k)) = true then kvs.map (fun kv => if kv.1 = k then (kv.1, v) else kv) else kvs ++ [(k, v)]
def mergeD (kvs more : List (L2.Key × D)) : List (L2.Key × D) := more.foldl (fun acc kv => putD acc kv.1 kv.2) kvs
def pairsD : List D → Option (List (L2.Key × D))
  | [] => some []
  | .tup [k, v] :: r => (keyD k).bind fun k' => (pairsD r).map fun kvs => (k', v) :: kvs
  | _ => none
def ixD : D → D → Option D
  | .dic kvs, y => (keyD y).bind (valD kvs)
  | .lst xs, .int i => L2.atI xs i
  | .tup xs, .int i => L2.atI xs i
  | .scr ns, .int i => (L2.atI ns i).map D.int
  | .str x, .int i => if x.length ≤ lim then (L2.atI x.cps.toList i).map fun c => .str ⟨#[c]⟩ else none
  | _, _ => none
/-- the items of a slice -/
def cutD (xs : List D) (lo hi : Option Int) : List D := (xs.drop (HT.sIx xs.length 0 lo)).take (HT.sIx xs.length xs.length hi - HT.sIx xs.length 0 lo)
def slD : D → Option Int → Option Int → Option R
  | .lst xs, lo, hi => some (.own (cutD xs lo hi))
  | .tup xs, lo, hi => some (.val (.tup (cutD xs lo hi)))
  | .str z, lo, hi => if z.length ≤ lim then some (.val (.str (L2.cutS z lo hi))) else none
  | _, _, _ => none
def revD : D → Option R
  | .lst xs => some (.own xs.reverse)
  | .tup xs => some (.val (.tup xs.reverse))
  | _ => none
def lenD : D → Option Nat
  | .lst xs => some xs.length
  | .tup xs => some xs.length
  | .scr xs => some xs.length
  | .str x => if x.length ≤ lim then some x.length else none
  | _ => none
def boolsD : List D → Option (List Bool)
  | [] => some []
  | .bl b :: r => (boolsD r).map (b :: ·)
  | _ => none
def intsD : List D → Option (List Int)
  | [] => some []
  | .int b :: r => (intsD r).map (b :: ·)
  | _ => none
def biLen : List D → Option R
  | [x] => (lenD x).map fun (n : Nat) => R.val (.int (n : Int))
  | _ => none
def biAbs : List D → Option R
  | [.int i] => some (.val (.int (if i < 0 then -i else i)))
  | _ => none
def biMax : List D → Option R
  | [.int i, .int j] => some (.val (.int (if j > i then j else i)))
  | _ => none
def biMin : List D → Option R
  | [.int i, .int j] => some (.val (.int (if j < i then j else i)))
  | _ => none
def biInt : List D → Option R
  | [.int i] => some (.val (.int i))
  | [.bl b] => some (.val (.int (if b then 1 else 0)))
  | _ => none
def biSum : List D → Option R
  | [.lst xs] => (intsD xs).map fun ns => .val (.int ns.sum)
  | _ => none
def biAll : List D → Option R
  | [.lst xs] => (boolsD xs).map fun bs => .val (.bl (bs.all id))
  | _ => none
def biAny : List D → Option R
  | [.lst xs] => (boolsD xs).map fun bs => .val (.bl (bs.any id))
  | _ => none
def biList : List D → Option R
  | [.lst xs] => some (.own xs)
  | [.tup xs] => some (.own xs)
  | _ => none
def biTuple : List D → Option R
  | [.lst xs] => some (.val (.tup xs))
  | [.tup xs] => some (.val (.tup xs))
  | _ => none
def biRepr : List D → Option R
  | [x] => if plainR x = true ∧ (toPy x).showable = true ∧ (toPy x).depth ≤ 62 ∧ (toPy x).shown.length ≤ lim then some (.val (.str (toPy x).shown)) else none
  | _ => none
/-- data that can be sorted -/
def tup1 : PyData → Bool
  | .tuple (_ :: _) => true
  | _ => false
def noTN : PyData → Bool
  | .none => false
  | .tuple _ => false
  | _ => true
def srtOk (ds : List PyData) : Bool := (ds.all fun d => ds.all fun e => PySem.W.alike d e) && (ds.all tup1 || ds.all noTN) && (ds.all fun d => decide (d.depth ≤ 60)) && decide (ds.length ≤ lim)
def srtD (k : D → D) (xs : List D) : List D := xs.mergeSort (PySem.W.dataLe false fun x => toPy (k x))
def biSorted : List D → Option R
  | [.lst xs] => if plains xs = true ∧ srtOk (toPys xs) = true then some (.own (srtD id xs)) else none
  | _ => none
def biDict : List D → Option R
  | [.lst ps] => (pairsD ps).map fun kvs => .val (.dic (mergeD [] kvs))
  | _ => none
def biDivmod : List D → Option R
  | [.int i, .int j] => if 0 < j ∧ j < 1073741824 then some (.val (.tup [.int (i / j), .int (i % j)])) else none
  | _ => none
def biStr : List D → Option R
  | [.int i] => if i.natAbs.log2 < 1920 then some (.val (.str (toString i))) else none
  | [.str x] => some (.val (.str x))
  | _ => none
/-- the items at some places -/
def pick {al : Type} (z : al) (pm : List Nat) (l : List al) : List al := pm.map fun i => l.getD i z
def biD : Bi → List D → Option R
  | .len, ds => biLen ds
  | .abs, ds => biAbs ds
  | .max, ds => biMax ds
  | .min, ds => biMin ds
  | .int, ds => biInt ds
  | .sum, ds => biSum ds
  | .all, ds => biAll ds
  | .any, ds => biAny ds
  | .list, ds => biList ds
  | .tuple, ds => biTuple ds
  | .repr, ds => biRepr ds
  | .sorted, ds => biSorted ds
  | .dict, ds => biDict ds
  | .divmod, ds => biDivmod ds
  | .str, ds => biStr ds
def strsD : List D → Option (List Str)
  | [] => some []
  | .str b :: r => (strsD r).map (b :: ·)
  | _ => none
/-- which things have such a method -/
def mtTy : Mt → D → Bool
  | .join, .str _ => true
  | .upper, .str _ => true
  | .count, .str _ => true
  | .count, .lst _ => true
  | _, _ => false
def mtJoin : D → List D → Option R
  | .str a, [.lst ys] => (strsD ys).bind fun zs => if (zs.map (·.length)).sum + zs.length * a.length ≤ 16777216 then some (.val (.str (Txt.join a zs))) else none
  | _, _ => none
def mtUpper : D → List D → Option R
  | .str a, [] => if a.length ≤ 5592405 then some (.val (.str (Txt.upper a))) else none
  | _, _ => none
def mtCount : D → List D → Option R
  | .str a, [.str b] => some (.val (.int (Txt.count a b)))
  | .lst xs, [y] => if plains xs = true ∧ plain y = true ∧ PyData.plainAll (toPys xs) = true ∧ (toPy y).plain = true ∧ (toPy y).depth ≤ 62 then some (.val (.int (((toPys xs).countP fun z => PyData.eqv z (toPy y) : Nat) : Int))) else none
  | _, _ => none
def mtD : Mt → D → List D → Option R
  | .join, x, ds => mtJoin x ds
  | .upper, x, ds => mtUpper x ds
  | .count, x, ds => mtCount x ds
  | _, _, _ => none
/-- the signs of a text -/
def sgnD (x : Str) : List D := x.cps.toList.map fun c => .str ⟨#[c]⟩
/-- pairs of what two bear -/
def zipL (xs ys : List D) : List D := List.zipWith (fun x y => .tup [x, y]) xs ys
def zipD : D → D → Option (List D)
  | .lst xs, .lst ys => some (zipL xs ys)
  | .tup xs, .tup ys => some (zipL xs ys)
  | _, _ => none
/-- lo, lo + 1, .. n of them -/
def rngD (lo : Int) (n : Nat) : List D := (List.range n).map fun i : Nat => D.int (lo + i)
end PL
set_option maxHeartbeats 3900000
/-! PLb: what a text comes to, by wishes -/
namespace PL
open PySem

/-- a called def: its arguments, what is wished of its result, of its error -/
abbrev Fn := Nat → List D → (R → Prop) → (Xc → Prop) → Prop
/-- the module's constants; what a caught error is told as -/
structure Pg where
  G : Nat → Option D
  RF : Xc → Option D

def loopP (step : D → Env → (Env → Prop) → Prop) (fin : Env → Prop) : List D → Env → Prop
  | [], r => fin r
  | x :: xs, r => step x r fun r' => loopP step fin xs r'
def lcP (step : D → Env → (Option D → Env → Prop) → Prop) (fin : List D → Env → Prop) : List D → List D → Env → Prop
  | [], acc, r => fin acc r
  | x :: xs, acc, r => step x r fun o r' => match o with
    | none => lcP step fin xs acc r'
    | some y => acc.length < lim ∧ lcP step fin xs (acc ++ [y]) r'

mutual
def wG : Tg → R → Env → (Env → Prop) → Prop
  | .nm i, v, r, k => i < r.length ∧ k (r.set i (some v))
  | .tp gs, v, r, k => match v.d with
    | .tup ds => ds.length = gs.length ∧ wGs gs ds r k
    | .lst ds => ds.length = gs.length ∧ wGs gs ds r k
    | _ => False
  | .star i j, v, r, k => match v.d with
    | .tup (d :: ds) => i < r.length ∧ j < r.length ∧ i ≠ j ∧ ds.length < 16000 ∧ k ((r.set i (some (.val d))).set j (some (.own ds)))
    | _ => False
def wGs : List Tg → List D → Env → (Env → Prop) → Prop
  | [], [], r, k => k r
  | g :: gs, d :: ds, r, k => wG g (.val d) r fun r' => wGs gs ds r' k
  | _, _, _, _ => False
end

def wipeR (r : Env) : List Nat → Env
  | [] => r
  | v :: vs => (wipeR r vs).set v none
/-- the places of vs as they were in r0 -/
def backR (r0 r : Env) : List Nat → Env
  | [] => r
  | v :: vs => (backR r0 r vs).set v (r0.getD v none)
def noOwn (r : Env) (vs : List Nat) : Prop := ∀ v ∈ vs, ∀ ds, r[v]? ≠ some (some (.own ds))

/-- a slot is read as data: a list of one's own is one no longer -/
def rdV (i : Nat) (r : Env) (Q : R → Env → Prop) : Prop := match r[i]? with
  | some (some (.val d)) => Q (.val d) r
  | some (some (.own ds)) => Q (.val (.lst ds)) (r.set i (some (.val (.lst ds))))
  | _ => False

/-- len of a slot: it stays what it is -/
def lnV (i : Nat) (r : Env) (Q : R → Env → Prop) : Prop := match r[i]? with
  | some (some (.val d)) => ∃ n : Nat, lenD d = some n ∧ Q (.val (.int (n : Int))) r
  | some (some (.own ds)) => Q (.val (.int (ds.length : Int))) r
  | _ => False

/-- repr of a slot: it stays what it is -/
def rpV (i : Nat) (r : Env) (Q : R → Env → Prop) : Prop := match r[i]? with
  | some (some z) => ∃ x, biRepr [z.d] = some x ∧ Q x r
  | _ => False

def muD : Mu → List D → List D → Option (List D × D)
  | .append, xs, [y] => if xs.length < lim then some (xs ++ [y], .non) else none
  | .pop, xs, [] => (xs[xs.length - 1]?).map fun y => (xs.dropLast, y)
  | .pop, xs, [.int i] => if xs.length < 2 ^ 62 then (L2.ixN xs.length i).bind fun k => (xs[k]?).map fun y => (xs.eraseIdx k, y) else none
  | _, _, _ => none

mutual
def wE (P : Pg) (F : Fn) : Ex → Env → (R → Env → Prop) → (Xc → Env → Prop) → Prop
  | .var i, r, Q, _ => rdV i r Q
  | .cst c, r, Q, _ => Q (.val c) r
  | .glo x, r, Q, _ => ∃ d, P.G x = some d ∧ Q (.val d) r
  | .neg a, r, Q, E => wE P F a r (fun x r1 => ∃ i, x.d = .int i ∧ Q (.val (.int (-i))) r1) E
  | .bin o a b, r, Q, E => wE P F a r (fun x r1 => wE P F b r1 (fun y r2 => ∃ z, opD o x.d y.d = some z ∧ Q z r2) E) E
  | .cmp o a b, r, Q, E => wE P F a r (fun x r1 => wE P F b r1 (fun y r2 => ∃ z, cmD o x.d y.d = some z ∧ Q (.val (.bl z)) r2) E) E
  | .chn o p a b c, r, Q, E => wE P F a r (fun x r1 => wE P F b r1 (fun y r2 => ∃ z, cmD o x.d y.d = some z ∧
      if z = true then wE P F c r2 (fun u r3 => ∃ z', cmD p y.d u.d = some z' ∧ Q (.val (.bl z')) r3) E else Q (.val (.bl false)) r2) E) E
  | .and a b, r, Q, E => wE P F a r (fun x r1 => ∃ k, truD x.d = some k ∧ if k = true then wE P F b r1 Q E else Q (.val x.d) r1) E
  | .or a b, r, Q, E => wE P F a r (fun x r1 => ∃ k, truD x.d = some k ∧ if k = true then Q (.val x.d) r1 else wE P F b r1 Q E) E
  | .not a, r, Q, E => wE P F a r (fun x r1 => ∃ k, truD x.d = some k ∧ Q (.val (.bl !k)) r1) E
  | .ifx c a b, r, Q, E => wT P F c r (fun k r1 => if k = true then wE P F a r1 Q E else wE P F b r1 Q E) E
  | .tup es, r, Q, E => wEs P F es r (fun ds r1 => ds.length ≤ lim ∧ Q (.val (.tup ds)) r1) E
  | .lst es, r, Q, E => wEs P F es r (fun ds r1 => ds.length ≤ lim ∧ Q (.own ds) r1) E
  | .dic kvs, r, Q, E => (kvs.map (·.1)).Nodup ∧ kvs.length ≤ 15 ∧ kvs.all (fun p => flatD p.2) = true ∧ Q (.val (.dic kvs)) r
  | .ix a b, r, Q, E => wE P F a r (fun x r1 => wE P F b r1 (fun y r2 => ∃ z, ixD x.d y.d = some z ∧ Q (.val z) r2) E) E
  | .sl a lo hi, r, Q, E => wE P F a r (fun x r1 => wO P F lo r1 (fun l r2 => wO P F hi r2 (fun h r3 => ∃ z, slD x.d l h = some z ∧ Q z r3) E) E) E
  | .rev a, r, Q, E => wE P F a r (fun x r1 => ∃ z, revD x.d = some z ∧ Q z r1) E
  | .call f es, r, Q, E => wEs P F es r (fun ds r1 => F f ds (fun x => Q x r1) (fun x => E x r1)) E
  | .callk f pm es ks, r, Q, E => wEs P F es r (fun ds r1 => ds.length = es.length ∧ wEs P F ks r1 (fun zs r2 => zs.length = ks.length ∧ F f (pick .non pm (ds ++ zs)) (fun x => Q x r2) (fun x => E x r2)) E) E
  | .srk f e, r, Q, E => wE P F e r (fun x r1 => ∃ ds kf, x.d = .lst ds ∧ (∀ d ∈ ds, F f [d] (fun z => z = .val (kf d)) fun _ => False) ∧ plains (ds.map kf) = true ∧ srtOk (toPys (ds.map kf)) = true ∧ Q (.own (srtD kf ds)) r1) E
  | .bi f es, r, Q, E => wEs P F es r (fun ds r1 => ∃ z, biD f ds = some z ∧ Q z r1) E
  | .rng a b, r, Q, E => wE P F a r (fun x r1 => wE P F b r1 (fun y r2 => ∃ i j, x.d = .int i ∧ y.d = .int j ∧ -(2 ^ 62) ≤ i ∧ i < 2 ^ 62 ∧ -(2 ^ 62) ≤ j ∧ j < 2 ^ 62 ∧ (j - i).toNat ≤ lim ∧ Q (.own (rngD i (j - i).toNat)) r2) E) E
  | .isi a t, r, Q, E => wE P F a r (fun x r1 => Q (.val (.bl (isTy x.d t))) r1) E
  | .mt m a es, r, Q, E => wE P F a r (fun x r1 => mtTy m x.d = true ∧ wEs P F es r1 (fun ds r2 => ∃ z, mtD m x.d ds = some z ∧ Q z r2) E) E
  | .mu m i es, r, Q, E => (∃ xs, r[i]? = some (some (.own xs))) ∧ wEs P F es r (fun ds r1 => ∃ xs ys y, r1[i]? = some (some (.own xs)) ∧ muD m xs ds = some (ys, y) ∧ Q (.val y) (r1.set i (some (.own ys)))) E
  | .lenv i, r, Q, _ => lnV i r Q
  | .rpv i, r, Q, _ => rpV i r Q
  | .potg i, r, Q, _ => r[i]? = some (some (.val .pot)) ∧ ∀ n : Int, 0 ≤ n → Q (.val (.int n)) r
  | .mkpot e, r, Q, E => wE P F e r (fun x r1 => ∃ n : Int, x = .own [.int n] ∧ 0 ≤ n ∧ Q (.val .pot) r1) E
  | .lc g it cs e ws, r, Q, E => wI P F it r (fun ds r1 => noOwn r1 ws ∧
      lcP (fun x r2 k => wG g (.val x) r2 fun r3 => wTs P F cs r3 (fun b r4 => if b = true then wE P F e r4 (fun y r5 => k (some y.d) (wipeR r5 ws)) (fun _ _ => False) else k none (wipeR r4 ws)) (fun _ _ => False))
        (fun acc r2 => Q (.own acc) (backR r1 r2 ws)) ds [] (wipeR r1 ws)) E
def wEs (P : Pg) (F : Fn) : List Ex → Env → (List D → Env → Prop) → (Xc → Env → Prop) → Prop
  | [], r, Q, _ => Q [] r
  | e :: es, r, Q, E => wE P F e r (fun x r1 => wEs P F es r1 (fun ds r2 => Q (x.d :: ds) r2) E) E
def wO (P : Pg) (F : Fn) : Option Ex → Env → (Option Int → Env → Prop) → (Xc → Env → Prop) → Prop
  | none, r, Q, _ => Q none r
  | some e, r, Q, E => wE P F e r (fun x r1 => ∃ i, x.d = .int i ∧ Q (some i) r1) E
/-- a test -/
def wT (P : Pg) (F : Fn) : Ex → Env → (Bool → Env → Prop) → (Xc → Env → Prop) → Prop
  | .and a b, r, Q, E => wT P F a r (fun k r1 => if k = true then wT P F b r1 Q E else Q false r1) E
  | .or a b, r, Q, E => wT P F a r (fun k r1 => if k = true then Q true r1 else wT P F b r1 Q E) E
  | .not a, r, Q, E => wT P F a r (fun k r1 => Q (!k) r1) E
  | e, r, Q, E => wE P F e r (fun x r1 => ∃ k, truD x.d = some k ∧ Q k r1) E
def wTs (P : Pg) (F : Fn) : List Ex → Env → (Bool → Env → Prop) → (Xc → Env → Prop) → Prop
  | [], r, Q, _ => Q true r
  | [e], r, Q, E => wT P F e r Q E
  | _, _, _, _ => False
def wI (P : Pg) (F : Fn) : It → Env → (List D → Env → Prop) → (Xc → Env → Prop) → Prop
  | .seq e, r, Q, E => wE P F e r (fun x r1 => match x.d with
    | .lst ds => Q ds r1
    | .tup ds => Q ds r1
    | .str x => Q (sgnD x) r1
    | _ => False) E
  | .rng1 a, r, Q, E => wE P F a r (fun x r1 => ∃ j, x.d = .int j ∧ -(2 ^ 62) ≤ j ∧ j < 2 ^ 62 ∧ Q (rngD 0 j.toNat) r1) E
  | .rng2 a b, r, Q, E => wE P F a r (fun x r1 => wE P F b r1 (fun y r2 => ∃ i j, x.d = .int i ∧ y.d = .int j ∧ -(2 ^ 62) ≤ i ∧ i < 2 ^ 62 ∧ -(2 ^ 62) ≤ j ∧ j < 2 ^ 62 ∧ Q (rngD i (j - i).toNat) r2) E) E
  | .zip a b, r, Q, E => wE P F a r (fun x r1 => wE P F b r1 (fun y r2 => ∃ ds, zipD x.d y.d = some ds ∧ Q ds r2) E) E
end

structure Ed where
  nx : Env → Prop
  rt : R → Prop
  bk : Env → Prop
  ct : Env → Prop
  ex : Xc → Env → Prop

def whP (c : Env → (Bool → Env → Prop) → Prop) (body : Env → (Env → Prop) → Prop) (fin : Env → Prop) : Nat → Env → Prop
  | 0, _ => False
  | n + 1, r => c r fun b r1 => if b = true then body r1 (fun r2 => whP c body fin n r2) else fin r1

mutual
def wS (P : Pg) (F : Fn) : Sm → Env → Ed → Prop
  | .asg g e, r, D => wE P F e r (fun x r1 => wG g x r1 D.nx) D.ex
  | .par2 i j a b, r, D => wEs P F [a, b] r (fun ds r1 => ∃ x y, ds = [x, y] ∧ D.nx ((r1.set i (some (.val x))).set j (some (.val y)))) D.ex
  | .aug i o e, r, D => rdV i r fun x r1 => wE P F e r1 (fun y r2 => ∃ z, augD o x.d y.d = some z ∧ D.nx (r2.set i (some z))) D.ex
  | .potp i e, r, D => wE P F e r (fun x r1 => ∃ m : Int, x.d = .int m ∧ 0 ≤ m ∧ r1[i]? = some (some (.val .pot)) ∧ D.nx r1) D.ex
  | .ex e, r, D => wE P F e r (fun _ r1 => D.nx r1) D.ex
  | .ret e, r, D => wE P F e r (fun x _ => D.rt x) D.ex
  | .retN, r, D => D.rt (.val .non)
  | .ife c a b, r, D => wT P F c r (fun k r1 => if k = true then wSs P F a r1 D else wSs P F b r1 D) D.ex
  | .fo g it b, r, D => wI P F it r (fun ds r1 => loopP (fun x r2 k => wG g (.val x) r2 fun r3 => wSs P F b r3 { D with nx := k, ct := k, bk := D.nx }) D.nx ds r1) D.ex
  | .whil c b, r, D => ∃ n, whP (fun r k => wT P F c r k D.ex) (fun r k => wSs P F b r { D with nx := k, ct := k, bk := D.nx }) D.nx n r
  | .pas, r, D => D.nx r
  | .brk, r, D => D.bk r
  | .cnt, r, D => D.ct r
  | .rais x, r, D => D.ex ⟨x, []⟩ r
  | .tryr i b, r, D => wSs P F b r { D with ex := fun x r' => i < r'.length ∧ ∃ d, P.RF x = some d ∧ D.rt (.val d) }
def wSs (P : Pg) (F : Fn) : List Sm → Env → Ed → Prop
  | [], r, D => D.nx r
  | s :: ss, r, D => wS P F s r { D with nx := fun r' => wSs P F ss r' D }
end

/-- a def: how many parameters, how many slots, its text -/
structure Fd where
  np : Nat
  nl : Nat
  body : List Sm
def bind0 (fd : Fd) (ds : List D) : Env := ds.map (fun d => some (.val d)) ++ List.replicate (fd.nl - ds.length) none
/-- the defs of a text, called at most so deep -/
def fnP (P : Pg) (T : Nat → Option Fd) : Nat → Fn
  | 0 => fun _ _ _ _ => False
  | k + 1 => fun f ds Q E => match T f with
    | some fd => ds.length = fd.np ∧ wSs P (fnP P T k) fd.body (bind0 fd ds) { nx := fun _ => Q (.val .non), rt := Q, bk := fun _ => False, ct := fun _ => False, ex := fun x _ => E x }
    | none => False
end PL
set_option maxHeartbeats 3900000
/-! PLc: how data stand in the heap -/
namespace PL
open PySem L2

/-- what is known of the heap: I, what never changes; P, where pots stand -/
structure Gh where
  I : Hp
  P : Addr → Prop
def Gh.add (M : Gh) (a : Addr) (o : HO) : Gh := ⟨upd M.I a o, M.P⟩
def Gh.addP (M : Gh) (a : Addr) : Gh := ⟨M.I, fun b => b = a ∨ M.P b⟩
structure Gh.Le (M M' : Gh) : Prop where
  I : ∀ a o, M.I a = some o → M'.I a = some o
  P : ∀ a, M.P a → M'.P a
theorem Gh.Le.refl (M : Gh) : M.Le M := ⟨fun _ _ h => h, fun _ h => h⟩
theorem Gh.Le.trans {M M1 M2 : Gh} (a : M.Le M1) (b : M1.Le M2) : M.Le M2 := ⟨fun x o h => b.I x o (a.I x o h), fun x h => b.P x (a.P x h)⟩
theorem Gh.le_add {M : Gh} {a : Addr} {o : HO} (h : M.I a = none) : M.Le (M.add a o) :=
  ⟨fun b u e => by show upd M.I a o b = some u; rw [upd_ne (ne_of_none e h)]; exact e, fun _ h => h⟩
theorem Gh.le_addP {M : Gh} {a : Addr} : M.Le (M.addP a) := ⟨fun _ _ h => h, fun _ h => .inr h⟩

mutual
inductive Rep (K : PySem.W.Frag) (M : Gh) : V → D → Prop
  | non : Rep K M .non .non
  | bl (b : Bool) : Rep K M (.bl b) (.bl b)
  | int (i : Int) : Rep K M (.int i) (.int i)
  | str (x : Str) : Rep K M (.str x) (.str x)
  | lst {a : Addr} {vs : List V} {ds : List D} : M.I a = some (.lst vs) → RepL K M vs ds → Rep K M (.ref a) (.lst ds)
  | scr {a : Addr} {ns : List Int} : SqL K M.I a (ns.map V.int) → Rep K M (.ref a) (.scr ns)
  | tup {a : Addr} {vs : List V} {ds : List D} : SqT K M.I a vs → RepL K M vs ds → Rep K M (.ref a) (.tup ds)
  | dic {a : Addr} {kvs : List (Key × V)} {kds : List (Key × D)} : M.I a = some (.dK kvs) → RepK K M kvs kds → Rep K M (.ref a) (.dic kds)
  | pot {a : Addr} : M.P a → Rep K M (.ref a) .pot
inductive RepL (K : PySem.W.Frag) (M : Gh) : List V → List D → Prop
  | nil : RepL K M [] []
  | cons {v : V} {vs : List V} {d : D} {ds : List D} : Rep K M v d → RepL K M vs ds → RepL K M (v :: vs) (d :: ds)
inductive RepK (K : PySem.W.Frag) (M : Gh) : List (Key × V) → List (Key × D) → Prop
  | nil : RepK K M [] []
  | cons {k : Key} {v : V} {vs : List (Key × V)} {d : D} {ds : List (Key × D)} : Rep K M v d → RepK K M vs ds → RepK K M ((k, v) :: vs) ((k, d) :: ds)
end
theorem sqL_mono {K : PySem.W.Frag} {H H' : Hp} {a : Addr} {vs : List V} (h : ∀ b o, H b = some o → H' b = some o) (x : SqL K H a vs) : SqL K H' a vs := by
  rcases x with (x | ⟨o, x⟩) | x
  · exact .inl (.inl (h _ _ x))
  · exact .inl (.inr ⟨o, h _ _ x⟩)
  · exact .inr x
theorem sqT_mono {K : PySem.W.Frag} {H H' : Hp} {a : Addr} {vs : List V} (h : ∀ b o, H b = some o → H' b = some o) (x : SqT K H a vs) : SqT K H' a vs := by
  rcases x with (x | ⟨o, x⟩) | x
  · exact .inl (.inl (h _ _ x))
  · exact .inl (.inr ⟨o, h _ _ x⟩)
  · exact .inr x
section
variable {K : PySem.W.Frag} {M M' : Gh}
mutual
theorem Rep.mono (l : M.Le M') : ∀ {v : V} {d : D}, Rep K M v d → Rep K M' v d
  | _, _, .non => .non
  | _, _, .bl b => .bl b
  | _, _, .int i => .int i
  | _, _, .str x => .str x
  | _, _, .lst h r => .lst (l.I _ _ h) (RepL.mono l r)
  | _, _, .scr h => .scr (sqL_mono l.I h)
  | _, _, .tup h r => .tup (sqT_mono l.I h) (RepL.mono l r)
  | _, _, .dic h r => .dic (l.I _ _ h) (RepK.mono l r)
  | _, _, .pot h => .pot (l.P _ h)
theorem RepL.mono (l : M.Le M') : ∀ {vs : List V} {ds : List D}, RepL K M vs ds → RepL K M' vs ds
  | _, _, .nil => .nil
  | _, _, .cons h r => .cons (Rep.mono l h) (RepL.mono l r)
theorem RepK.mono (l : M.Le M') : ∀ {vs : List (Key × V)} {ds : List (Key × D)}, RepK K M vs ds → RepK K M' vs ds
  | _, _, .nil => .nil
  | _, _, .cons h r => .cons (Rep.mono l h) (RepK.mono l r)
end
theorem RepL.length : ∀ {vs : List V} {ds : List D}, RepL K M vs ds → vs.length = ds.length
  | _, _, .nil => rfl
  | _, _, .cons _ r => by rw [List.length_cons, List.length_cons, RepL.length r]
theorem RepL.get : ∀ {vs : List V} {ds : List D} {i : Nat} {d : D}, RepL K M vs ds → ds[i]? = some d → ∃ v, vs[i]? = some v ∧ Rep K M v d
  | _, _, _, _, .nil, e => by simp at e
  | _, _, 0, _, .cons h _, e => by simp at e; subst e; exact ⟨_, rfl, h⟩
  | _, _, i + 1, d, .cons _ r, e => by
    obtain ⟨v, h1, h2⟩ := RepL.get (i := i) (d := d) r (by simpa using e)
    exact ⟨v, by simpa using h1, h2⟩
theorem RepL.get' {vs : List V} {ds : List D} {i : Nat} {v : V} (r : RepL K M vs ds) (e : vs[i]? = some v) : ∃ d, ds[i]? = some d ∧ Rep K M v d := by
  have hi : i < vs.length := (List.getElem?_eq_some_iff.mp e).1
  have hj : i < ds.length := by rw [← r.length]; exact hi
  obtain ⟨v', h1, h2⟩ := r.get (i := i) (d := ds[i]) (by simp [hj])
  rw [e] at h1; cases h1
  exact ⟨_, by simp [hj], h2⟩
theorem RepL.append : ∀ {vs ws : List V} {ds es : List D}, RepL K M vs ds → RepL K M ws es → RepL K M (vs ++ ws) (ds ++ es)
  | _, _, _, _, .nil, s => s
  | _, _, _, _, .cons h r, s => .cons h (RepL.append r s)
theorem RepL.take : ∀ {vs : List V} {ds : List D} (n : Nat), RepL K M vs ds → RepL K M (vs.take n) (ds.take n)
  | _, _, 0, _ => .nil
  | _, _, _ + 1, .nil => .nil
  | _, _, n + 1, .cons h r => .cons h (RepL.take n r)
theorem RepL.drop : ∀ {vs : List V} {ds : List D} (n : Nat), RepL K M vs ds → RepL K M (vs.drop n) (ds.drop n)
  | _, _, 0, r => r
  | _, _, _ + 1, .nil => .nil
  | _, _, n + 1, .cons _ r => RepL.drop n r
theorem RepL.eraseIdx : ∀ {vs : List V} {ds : List D} (n : Nat), RepL K M vs ds → RepL K M (vs.eraseIdx n) (ds.eraseIdx n)
  | _, _, _, .nil => .nil
  | _, _, 0, .cons _ r => r
  | _, _, n + 1, .cons h r => .cons h (RepL.eraseIdx n r)
theorem RepL.reverse {vs : List V} {ds : List D} (r : RepL K M vs ds) : RepL K M vs.reverse ds.reverse := by
  induction vs generalizing ds with
  | nil => cases r; exact .nil
  | cons v vs ih => cases r with | cons h r => rw [List.reverse_cons, List.reverse_cons]; exact RepL.append (ih r) (.cons h .nil)
theorem RepL.dropLast {vs : List V} {ds : List D} (r : RepL K M vs ds) : RepL K M vs.dropLast ds.dropLast := by
  rw [List.dropLast_eq_take, List.dropLast_eq_take, r.length]; exact r.take _
theorem RepL.ints : ∀ (ns : List Int), RepL K M (ns.map V.int) (ns.map D.int)
  | [] => .nil
  | n :: ns => .cons (.int n) (RepL.ints ns)
end

/-- a pot at a -/
def PotAt (H : Hp) (a : Addr) : Prop := ∃ n : Int, 0 ≤ n ∧ H a = some (.lst [.int n])
structure Good (M : Gh) (H : Hp) : Prop where
  le : ∀ a o, M.I a = some o → H a = some o
  pot : ∀ a, M.P a → M.I a = none ∧ PotAt H a
/-- from (M, H) on to (M', H'): all but pots is kept, what is told anew stands at new places -/
structure Ext (M M' : Gh) (H H' : Hp) : Prop where
  le : M.Le M'
  nI : ∀ a o, M'.I a = some o → M.I a = none → H a = none
  nP : ∀ a, M'.P a → ¬ M.P a → H a = none
  keep : ∀ b o, H b = some o → ¬ M.P b → H' b = some o
  good : Good M' H'
theorem Good.free {M : Gh} {H : Hp} (g : Good M H) {a : Addr} (h : H a = none) : M.I a = none ∧ ¬ M.P a := by
  refine ⟨?_, fun p => ?_⟩
  · cases e : M.I a with
    | none => rfl
    | some o => rw [g.le a o e] at h; cases h
  · obtain ⟨_, n, _, e⟩ := g.pot a p
    rw [e] at h; cases h
theorem Ext.refl {M : Gh} {H : Hp} (g : Good M H) : Ext M M H H := ⟨.refl M, fun a o h h' => (by rw [h] at h'; cases h'), fun a h h' => absurd h h', fun _ _ h _ => h, g⟩
theorem Ext.trans {M M1 M2 : Gh} {H H1 H2 : Hp} (g : Good M H) (x : Ext M M1 H H1) (y : Ext M1 M2 H1 H2) : Ext M M2 H H2 := by
  have back : ∀ a, ¬ M.P a → H1 a = none → H a = none := fun a np h => by
    cases e : H a with
    | none => rfl
    | some o => rw [x.keep a o e np] at h; cases h
  have notP : ∀ a o, M2.I a = some o → ¬ M.P a := fun a o h p => by
    have := (y.good.pot a (y.le.P a (x.le.P a p))).1
    rw [h] at this; cases this
  refine ⟨x.le.trans y.le, fun a o h h' => ?_, fun a h h' => ?_, fun b o h np => ?_, y.good⟩
  · cases e : M1.I a with
    | some u => exact x.nI a u e h'
    | none => exact back a (notP a o h) (y.nI a o h e)
  · by_cases p : M1.P a
    · exact x.nP a p h'
    · exact back a h' (y.nP a h p)
  · have e1 := x.keep b o h np
    by_cases p : M1.P b
    · rw [x.nP b p np] at h; cases h
    · exact y.keep b o e1 p
/-- a new object that never changes -/
theorem Ext.new {M : Gh} {H : Hp} {p : Addr} {o : HO} (g : Good M H) (h : H p = none) : Ext M (M.add p o) H (upd H p o) := by
  obtain ⟨hi, hp⟩ := g.free h
  refine ⟨Gh.le_add hi, fun a u e e' => ?_, fun a e e' => absurd e e', fun b u e np => ?_, ⟨fun a u e => ?_, fun a e => ?_⟩⟩
  · by_cases z : a = p
    · rw [z]; exact h
    · have e2 : upd M.I p o a = some u := e
      rw [upd_ne z, e'] at e2; cases e2
  · rw [upd_ne (ne_of_none e h)]; exact e
  · have e2 : upd M.I p o a = some u := e
    by_cases z : a = p
    · subst z; rw [upd_same] at e2 ⊢; exact e2
    · rw [upd_ne z] at e2 ⊢; exact g.le a u e2
  · have z : a ≠ p := fun z => hp (z ▸ e)
    refine ⟨?_, ?_⟩
    · show upd M.I p o a = none
      rw [upd_ne z]; exact (g.pot a e).1
    · obtain ⟨_, n, h0, q⟩ := g.pot a e
      exact ⟨n, h0, by rw [upd_ne z]; exact q⟩
/-- a new list of one's own -/
theorem Ext.newOwn {M : Gh} {H : Hp} {p : Addr} {o : HO} (g : Good M H) (h : H p = none) : Ext M M H (upd H p o) := by
  obtain ⟨hi, hp⟩ := g.free h
  refine ⟨.refl M, fun a u e e' => (by rw [e] at e'; cases e'), fun a e e' => absurd e e', fun b u e np => ?_, ⟨fun a u e => ?_, fun a e => ?_⟩⟩
  · rw [upd_ne (ne_of_none e h)]; exact e
  · rw [upd_ne (ne_of_none (g.le a u e) h)]; exact g.le a u e
  · have z : a ≠ p := fun z => hp (z ▸ e)
    obtain ⟨e1, n, h0, q⟩ := g.pot a e
    exact ⟨e1, n, h0, by rw [upd_ne z]; exact q⟩

/-- how a result stands behind an operation that found H -/
inductive RepR (K : PySem.W.Frag) (M' : Gh) (H H' : Hp) : V → R → Prop
  | val {v : V} {d : D} : Rep K M' v d → RepR K M' H H' v (.val d)
  | own {a : Addr} {vs : List V} {ds : List D} : H a = none → H' a = some (.lst vs) → M'.I a = none → ¬ M'.P a → RepL K M' vs ds → RepR K M' H H' (.ref a) (.own ds)
/-- the wish of an operation at data -/
def Post (K : PySem.W.Frag) (M : Gh) (H : Hp) (r : R) (Q : VK) : Prop := ∀ v H' M', Ext M M' H H' → RepR K M' H H' v r → Q v H'
theorem Post.here {K : PySem.W.Frag} {M : Gh} {H : Hp} {d : D} {Q : VK} {v : V} (p : Post K M H (.val d) Q) (g : Good M H) (r : Rep K M v d) : Q v H := p v H M (.refl g) (.val r)
theorem Post.newT {K : PySem.W.Frag} {M : Gh} {H : Hp} {ds : List D} {Q : VK} {vs : List V} (p : Post K M H (.val (.tup ds)) Q) (g : Good M H) (r : RepL K M vs ds) : ∀ q, H q = none → Q (.ref q) (upd H q (.tup vs)) := fun q h =>
  p _ _ _ (Ext.new g h) (.val (.tup (.inl (.inl upd_same)) (r.mono (Gh.le_add (g.free h).1))))
theorem Post.newL {K : PySem.W.Frag} {M : Gh} {H : Hp} {ds : List D} {Q : VK} {vs : List V} (p : Post K M H (.own ds) Q) (g : Good M H) (r : RepL K M vs ds) : ∀ q, H q = none → Q (.ref q) (upd H q (.lst vs)) := fun q h =>
  p _ _ _ (Ext.newOwn g h) (.own h upd_same (g.free h).1 (g.free h).2 r)

/-! ### a frame's slots -/
structure Sim (K : PySem.W.Frag) (M : Gh) (Fr : Hp) (r : Env) (s : St) (H : Hp) : Prop where
  good : Good M H
  fr : ∀ a o, Fr a = some o → H a = some o
  frP : ∀ a, M.P a → Fr a = none
  frI : ∀ a o, M.I a = some o → Fr a = none
  sl : ∀ (i : Nat) d, r[i]? = some (some (.val d)) → ∃ v, s[i]? = some (some v) ∧ Rep K M v d
  ow : ∀ (i : Nat) ds, r[i]? = some (some (.own ds)) → ∃ a vs, s[i]? = some (some (.ref a)) ∧ H a = some (.lst vs) ∧ M.I a = none ∧ ¬ M.P a ∧ Fr a = none ∧ RepL K M vs ds
  inj : ∀ (i j : Nat) x y, i ≠ j → r[i]? = some (some (.own x)) → r[j]? = some (some (.own y)) → s[i]? ≠ s[j]?
  len : r.length = s.length
/-- how a result stands among the slots -/
inductive RepV (K : PySem.W.Frag) (M : Gh) (Fr : Hp) (r : Env) (s : St) (H : Hp) : V → R → Prop
  | val {v : V} {d : D} : Rep K M v d → RepV K M Fr r s H v (.val d)
  | own {a : Addr} {vs : List V} {ds : List D} : H a = some (.lst vs) → M.I a = none → ¬ M.P a → Fr a = none → (∀ (i : Nat) x, r[i]? = some (some (.own x)) → s[i]? ≠ some (some (.ref a))) → RepL K M vs ds → RepV K M Fr r s H (.ref a) (.own ds)
section
variable {K : PySem.W.Frag} {M M' : Gh} {Fr : Hp} {r : Env} {s : St} {H H' : Hp}
theorem Sim.frFree (S : Sim K M Fr r s H) {a : Addr} (h : H a = none) : Fr a = none := by
  cases e : Fr a with
  | none => rfl
  | some o => rw [S.fr a o e] at h; cases h
/-- an operation went by -/
theorem Sim.ext (S : Sim K M Fr r s H) (x : Ext M M' H H') : Sim K M' Fr r s H' where
  good := x.good
  fr := fun a o e => x.keep a o (S.fr a o e) fun p => by rw [S.frP a p] at e; cases e
  frP := fun a p => by
    by_cases q : M.P a
    · exact S.frP a q
    · exact S.frFree (x.nP a p q)
  frI := fun a o e => by
    cases q : M.I a with
    | some u => exact S.frI a u q
    | none => exact S.frFree (x.nI a o e q)
  sl := fun i d e => let ⟨v, h1, h2⟩ := S.sl i d e; ⟨v, h1, h2.mono x.le⟩
  ow := fun i ds e => by
    obtain ⟨a, vs, h1, h2, h3, h4, h5, h6⟩ := S.ow i ds e
    refine ⟨a, vs, h1, x.keep a _ h2 h4, ?_, fun p => ?_, h5, h6.mono x.le⟩
    · cases q : M'.I a with
      | none => rfl
      | some o => rw [x.nI a o q h3] at h2; cases h2
    · rw [x.nP a p h4] at h2; cases h2
  inj := S.inj
  len := S.len
theorem RepR.repV (S : Sim K M Fr r s H) (x : Ext M M' H H') {v : V} {z : R} (h : RepR K M' H H' v z) : RepV K M' Fr r s H' v z := by
  cases h with
  | val h => exact .val h
  | own h1 h2 h3 h4 h5 =>
    refine .own h2 h3 h4 (S.frFree h1) (fun i y e q => ?_) h5
    obtain ⟨a, vs, e1, e2, _⟩ := S.ow i y e
    rw [q] at e1; cases e1
    rw [h1] at e2; cases e2
/-- a list of one's own that is made data -/
theorem Sim.freeze (S : Sim K M Fr r s H) {v : V} {z : R} (h : RepV K M Fr r s H v z) : ∃ M', Sim K M' Fr r s H ∧ M.Le M' ∧ Rep K M' v z.d := by
  cases h with
  | val h => exact ⟨M, S, .refl M, h⟩
  | @own a vs ds h1 h2 h3 h4 h5 h6 =>
    have le : M.Le (M.add a (.lst vs)) := Gh.le_add h2
    refine ⟨M.add a (.lst vs), ⟨⟨fun b o e => ?_, fun b p => ?_⟩, S.fr, S.frP, fun b o e => ?_, fun i d e => ?_, fun i x e => ?_, S.inj, S.len⟩, le, .lst upd_same (h6.mono le)⟩
    · have e2 : upd M.I a (.lst vs) b = some o := e
      by_cases z : b = a
      · subst z; rw [upd_same] at e2; cases e2; exact h1
      · rw [upd_ne z] at e2; exact S.good.le b o e2
    · have z : b ≠ a := fun z => h3 (z ▸ p)
      refine ⟨?_, (S.good.pot b p).2⟩
      show upd M.I a (.lst vs) b = none
      rw [upd_ne z]; exact (S.good.pot b p).1
    · have e2 : upd M.I a (.lst vs) b = some o := e
      by_cases z : b = a
      · rw [z]; exact h4
      · rw [upd_ne z] at e2; exact S.frI b o e2
    · obtain ⟨v, e1, e2⟩ := S.sl i d e
      exact ⟨v, e1, e2.mono le⟩
    · obtain ⟨b, ws, e1, e2, e3, e4, e5, e6⟩ := S.ow i x e
      have z : b ≠ a := fun z => h5 i x e (z ▸ e1)
      refine ⟨b, ws, e1, e2, ?_, e4, e5, e6.mono le⟩
      show upd M.I a (.lst vs) b = none
      rw [upd_ne z]; exact e3
/-- a slot is stored -/
theorem Sim.set (S : Sim K M Fr r s H) {v : V} {z : R} (i : Nat) (h : RepV K M Fr r s H v z) : Sim K M Fr (r.set i (some z)) (s.set i (some v)) H := by
  have get : ∀ {j : Nat} {o : R}, (r.set i (some z))[j]? = some (some o) → (j = i ∧ i < r.length ∧ o = z) ∨ (j ≠ i ∧ r[j]? = some (some o)) := fun {j o} e => by
    by_cases q : i = j
    · subst q
      by_cases hl : i < r.length
      · rw [List.getElem?_set_self hl] at e; cases e; exact .inl ⟨rfl, hl, rfl⟩
      · rw [List.getElem?_eq_none (by simpa using hl)] at e; cases e
    · rw [List.getElem?_set_ne q] at e
      exact .inr ⟨fun w => q w.symm, e⟩
  have sself : i < r.length → (s.set i (some v))[i]? = some (some v) := fun hl => List.getElem?_set_self (by rw [← S.len]; exact hl)
  refine ⟨S.good, S.fr, S.frP, S.frI, fun j d e => ?_, fun j ds e => ?_, fun j k x y hjk ex ey => ?_, by rw [List.length_set, List.length_set]; exact S.len⟩
  · rcases get e with ⟨rfl, hl, hz⟩ | ⟨hne, e⟩
    · subst hz
      cases h with | val h => exact ⟨v, sself hl, h⟩
    · rw [List.getElem?_set_ne (Ne.symm hne)]; exact S.sl j d e
  · rcases get e with ⟨rfl, hl, hz⟩ | ⟨hne, e⟩
    · subst hz
      cases h with | own h1 h2 h3 h4 h5 h6 => exact ⟨_, _, sself hl, h1, h2, h3, h4, h6⟩
    · rw [List.getElem?_set_ne (Ne.symm hne)]; exact S.ow j ds e
  · rcases get ex with ⟨rfl, hl, hz⟩ | ⟨hne, ex2⟩
    · rcases get ey with ⟨rfl, _, _⟩ | ⟨hne2, ey2⟩
      · exact absurd rfl hjk
      · subst hz
        cases h with
        | own h1 h2 h3 h4 h5 h6 =>
          rw [sself hl, List.getElem?_set_ne (Ne.symm hne2)]
          exact fun q => h5 k y ey2 q.symm
    · rcases get ey with ⟨rfl, hl, hz⟩ | ⟨hne2, ey2⟩
      · subst hz
        cases h with
        | own h1 h2 h3 h4 h5 h6 =>
          rw [sself hl, List.getElem?_set_ne (Ne.symm hne)]
          exact fun q => h5 j x ex2 q
      · rw [List.getElem?_set_ne (Ne.symm hne), List.getElem?_set_ne (Ne.symm hne2)]
        exact S.inj j k x y hjk ex2 ey2
/-- slots are forgotten -/
theorem Sim.weak (S : Sim K M Fr r s H) {r' : Env} {s' : St} (hl : r'.length = s'.length) (h : ∀ (i : Nat) z, r'[i]? = some (some z) → r[i]? = some (some z) ∧ s'[i]? = s[i]?) : Sim K M Fr r' s' H := by
  refine ⟨S.good, S.fr, S.frP, S.frI, fun i d e => ?_, fun i ds e => ?_, fun i j x y hij ex ey => ?_, hl⟩
  · obtain ⟨e1, e2⟩ := h i _ e; rw [e2]; exact S.sl i d e1
  · obtain ⟨e1, e2⟩ := h i _ e; rw [e2]; exact S.ow i ds e1
  · obtain ⟨e1, e2⟩ := h i _ ex
    obtain ⟨e3, e4⟩ := h j _ ey
    rw [e2, e4]; exact S.inj i j x y hij e1 e3
/-- a slot is read as data -/
theorem Sim.read (S : Sim K M Fr r s H) {i : Nat} {Q : R → Env → Prop} (h : rdV i r Q) : ∃ v M' r' d, s[i]? = some (some v) ∧ Sim K M' Fr r' s H ∧ M.Le M' ∧ Rep K M' v d ∧ Q (.val d) r' := by
  unfold rdV at h
  split at h
  · rename_i d e
    obtain ⟨v, e1, e2⟩ := S.sl i d e
    exact ⟨v, M, r, d, e1, S, .refl M, e2, h⟩
  · rename_i ds e
    obtain ⟨a, vs, e1, e2, e3, e4, e5, e6⟩ := S.ow i ds e
    have il : i < r.length := (List.getElem?_eq_some_iff.mp e).1
    have W : Sim K M Fr (r.set i none) s H := S.weak (by rw [List.length_set]; exact S.len) fun j z q => by
      by_cases w : i = j
      · subst w; rw [List.getElem?_set_self il] at q; cases q
      · rw [List.getElem?_set_ne w] at q; exact ⟨q, rfl⟩
    have rv : RepV K M Fr (r.set i none) s H (.ref a) (.own ds) := .own e2 e3 e4 e5 (fun j x q => by
      by_cases w : i = j
      · subst w; rw [List.getElem?_set_self il] at q; cases q
      · rw [List.getElem?_set_ne w] at q
        rw [← e1]
        exact fun z => S.inj i j ds x w e q z.symm) e6
    obtain ⟨M', S', le, rp⟩ := W.freeze rv
    have S2 := S'.set i (.val rp)
    rw [List.set_set] at S2
    have hs : s.set i (some (.ref a)) = s := by
      apply List.ext_getElem?
      intro j
      by_cases w : i = j
      · subst w; rw [List.getElem?_set_self (by rw [← S.len]; exact il)]; exact e1.symm
      · rw [List.getElem?_set_ne w]
    rw [hs] at S2
    exact ⟨.ref a, M', _, .lst ds, e1, S2, le, rp, h⟩
  · exact h.elim
end
end PL
set_option maxHeartbeats 3900000
/-! PLd: operations on values keep what they come to at data -/
namespace PL
open PySem L2

theorem lim_eq : lim = sizeLine := by rw [sizeLine_eq]; rfl
/-- an operation on two values, by data -/
def pOp (K : PySem.W.Frag) (f : D → D → Option R) : R2 := fun x y H Q => ∃ M dx dy z, Good M H ∧ Rep K M x dx ∧ Rep K M y dy ∧ f dx dy = some z ∧ Post K M H z Q
def pC (K : PySem.W.Frag) (f : List D → Option R) : List V → Hp → VK → Prop := fun vs H Q => ∃ M ds z, Good M H ∧ RepL K M vs ds ∧ f ds = some z ∧ Post K M H z Q
section
variable {X : Cx} {M : Gh} {H : Hp} {K : PySem.W.Frag}

theorem op_imp {f : Value → Value → Sem Value} {r r' : R2} (h : OpR X f r) (m : ∀ x y H Q, r' x y H Q → r x y H Q) : OpR X f r' := fun pins s σ H x y v u Q I rx ry q => h pins s σ H x y v u Q I rx ry (m x y H Q q)
theorem call_imp {f : Value} {r r' : List V → Hp → VK → Prop} (h : CallR X f r) (m : ∀ xs H Q, r' xs H Q → r xs H Q) : CallR X f r' := fun pins s σ H xs us Q I rx q => h pins s σ H xs us Q I rx (m xs H Q q)
theorem ix_imp {r r' : R2} (h : IxR X r) (m : ∀ x y H Q, r' x y H Q → r x y H Q) : IxR X r' := fun a b pins s σ H x y v u Q I rx ry q => h a b pins s σ H x y v u Q I rx ry (m x y H Q q)
theorem sl_imp {r r' : V → Option Int → Option Int → Hp → VK → Prop} (h : SlR X r) (m : ∀ x l u H Q, r' x l u H Q → r x l u H Q) : SlR X r' := fun pins s σ H x v vl vu lo hi sl Q I rx hs pl pu q => h pins s σ H x v vl vu lo hi sl Q I rx hs pl pu (m x lo hi H Q q)

/-! ### the operators -/
def Op.py : Op → Operator
  | .add => .Add
  | .sub => .Sub
  | .mul => .Mult
  | .fdiv => .FloorDiv
  | .mod => .Mod
  | .pow => .Pow
theorem opr_add : OpR X (binaryOp .Add) (pOp X.K addD) := by
  intro pins s σ H x y v u Q I rx ry h
  obtain ⟨M, dx, dy, z, g, hx, hy, hz, post⟩ := h
  unfold addD at hz
  split at hz
  · cases hx; cases hy; cases hz
    exact op_add pins s σ H _ _ v u Q I rx ry ⟨_, _, rfl, rfl, post.here g (.int _)⟩
  · split at hz
    · rename_i hl
      cases hx; cases hy; cases hz
      exact op_add_str pins s σ H _ _ v u Q I rx ry ⟨_, _, rfl, rfl, by rw [← lim_eq]; exact hl, post.here g (.str _)⟩
    · cases hz
  · split at hz
    · rename_i hl
      cases hz
      cases hx with
      | lst h1 r1 => cases hy with
        | lst h2 r2 => exact op_cat pins s σ H _ _ v u Q I rx ry ⟨_, _, _, _, rfl, rfl, g.le _ _ h1, g.le _ _ h2, by rw [r1.length, r2.length, ← lim_eq]; exact hl, post.newL g (r1.append r2)⟩
    · cases hz
  · split at hz
    · rename_i hl
      cases hz
      cases hx with
      | tup h1 r1 => cases hy with
        | tup h2 r2 =>
          refine op_catA pins s σ H _ _ v u Q I rx ry ⟨_, _, _, _, rfl, rfl, sqT_mono g.le h1, sqT_mono g.le h2, by rw [r1.length, r2.length, ← lim_eq]; exact hl, fun e => ?_, fun _ e => ?_, fun _ _ => post.newT g (r1.append r2)⟩
          · subst e; cases r1; exact post.here g (.tup h2 r2)
          · subst e; cases r2
            refine post.here g ?_
            rw [List.append_nil]; exact .tup h1 r1
    · cases hz
  · cases hz
theorem pow64 : (2 : Int) ^ 64 = 18446744073709551616 := by decide
/-- xs * n -/
theorem op_mul_li : OpR X (binaryOp .Mult) (fun x y H Q => ∃ a xs n, x = V.ref a ∧ y = V.int n ∧ SqL X.K H a xs ∧ (xs.length ≤ 4096 ∧ 0 ≤ n ∧ n ≤ 1000) ∧ ∀ p, H p = none → Q (.ref p) (upd H p (.lst (List.replicate n.toNat xs).flatten))) := by
  intro pins s σ H x y v u Q I rx ry h
  obtain ⟨a, xs, k, rfl, rfl, hs, ⟨hn1, hn2, hn3⟩, q⟩ := h
  obtain rfl : v = Value.ref a := rx
  obtain ⟨t, rfl⟩ := ry
  obtain ⟨its, rv, ⟨⟨cls, dd, data, sl⟩, n, ho, hc, hdn, hd⟩, hlen⟩ := I.list hs
  have hc1 : cls = Value.type "list" := hc
  have hd1 : data = Data.seq its.toArray n := hd
  subst hc1 hd1
  have hz : its.length ≤ 4096 := by rw [← rv.length]; exact hn1
  have hsl := sizeLine_eq
  have hk : k.toNat ≤ 1000 := by omega
  have hm : its.toArray.size * k.toNat ≤ 4096 * 1000 := by
    rw [List.size_toArray]
    exact Nat.mul_le_mul hz hk
  refine wpAny_binaryOp_repeat_ref (T := "list") (U := "int") (by decide) ⟨_, ho, rfl⟩ (fun s' => typeIs_int s' k t) noFill_list_mul F.fills_int_mul F.slot_int_rmul repeat_list F.slot_int_index.lookup
    (call_meets F.slot_int_rmul (typeIs_int s k t) F.entry_int_rmul (F.args_int_rmul_2 _ _) (lm_int_rmul_list_any k t a its.toArray n dd sl)
      ⟨ho, rfl, ⟨_, ho, rfl⟩, call_meets F.slot_list_mul ⟨_, ho, rfl⟩ F.entry_list_mul (F.args_list_mul_2 _ _)
        (lm_list_mul_any a its.toArray n dd sl k t (by simp [Builtin.List.listFitsIndex]; omega) (by omega) (by simp only [Builtin.List.listTooLong, decide_eq_true_eq]; omega))
        ⟨ho, ?_⟩⟩)
  rw [PyProof.Rows.listMul_foldl_if]
  have rr : ∀ j : Nat, Vals (List.replicate j xs).flatten (List.replicate j its).flatten := fun j => by
    induction j with
    | zero => exact .nil
    | succ j ih =>
      rw [List.replicate_succ, List.replicate_succ, List.flatten_cons, List.flatten_cons]
      exact rv.append ih
  refine ⟨.ref s.heap.objs.size, upd H s.heap.objs.size (.lst (List.replicate k.toNat xs).flatten), I.laid (t' := s.toks) (fun b o e => Heap.get?_push_of_some _ e) (Nat.le_refl _) ⟨?_, _, 0, ?_, Heap.get?_push_size _ rfl⟩, rfl, q _ (I.hok.fresh (Nat.le_refl _))⟩
  · rw [PyProof.Rows.lm_len_rep_flat]
    have := Nat.mul_le_mul hk hn1
    omega
  · exact rr _
theorem rep_times {K : PySem.W.Frag} {M : Gh} {vs : List V} {ds : List D} (r : RepL K M vs ds) : ∀ j : Nat, RepL K M (List.replicate j vs).flatten (List.replicate j ds).flatten
  | 0 => .nil
  | j + 1 => by
    rw [List.replicate_succ, List.replicate_succ, List.flatten_cons, List.flatten_cons]
    exact r.append (rep_times r j)
theorem opr_bin (o : Op) : OpR X (binaryOp o.py) (pOp X.K (opD o)) := by
  intro pins s σ H x y v u Q I rx ry h
  obtain ⟨M, dx, dy, z, g, hx, hy, hz, post⟩ := h
  unfold opD at hz
  split at hz
  · exact opr_add pins s σ H x y v u Q I rx ry ⟨M, _, _, z, g, hx, hy, hz, post⟩
  · cases hx; cases hy; cases hz
    exact op_sub pins s σ H _ _ v u Q I rx ry ⟨_, _, rfl, rfl, post.here g (.int _)⟩
  · split at hz
    · rename_i hc
      cases hx; cases hy; cases hz
      exact op_mul pins s σ H _ _ v u Q I rx ry ⟨_, _, rfl, rfl, hc, post.here g (.int _)⟩
    · cases hz
  · split at hz
    · rename_i hc
      cases hz
      cases hy
      cases hx with
      | lst h1 r1 => exact op_mul_li pins s σ H _ _ v u Q I rx ry ⟨_, _, _, rfl, rfl, SqL.of (g.le _ _ h1), by rw [r1.length]; exact hc, post.newL g (rep_times r1 _)⟩
    · cases hz
  · split at hz
    · rename_i hc
      cases hx; cases hy; cases hz
      obtain ⟨t, rfl⟩ := rx
      obtain ⟨t2, rfl⟩ := ry
      exact PySem.SB.mul (PyProof.Rows.mulOk_of 4096 4096 hc.1 hc.2.2 (by have := hc.2.1; omega) (by decide) (by decide)) fun t' k => ⟨.str _, H, I.tok k, ⟨t', rfl⟩, post.here g (.str _)⟩
    · cases hz
  · split at hz
    · rename_i i j hc
      cases hx; cases hy; cases hz
      refine op_fdivW pins s σ H _ _ v u Q I rx ry ⟨_, _, rfl, rfl, wide_div (b := 64) hc.1 ?_ (by decide) (by decide), post.here g (.int _)⟩
      have := hc.2
      rw [pow64] at this
      show j.natAbs < 2 ^ 64
      omega
    · cases hz
  · split at hz
    · rename_i hc
      cases hx; cases hy; cases hz
      exact op_mod pins s σ H _ _ v u Q I rx ry ⟨_, _, rfl, rfl, hc, post.here g (.int _)⟩
    · cases hz
  · split at hz
    · rename_i hc
      cases hx; cases hy; cases hz
      exact op_pow pins s σ H _ _ v u Q I rx ry ⟨_, _, rfl, rfl, hc, post.here g (.int _)⟩
    · cases hz
  · cases hz

/-! ### comparisons -/
mutual
theorem Rep.dp (g : Good M H) : ∀ {v : V} {d : D}, Rep K M v d → plain d = true → Dp K H v (toPy d)
  | _, _, .non, _ => by unfold toPy; exact .non
  | _, _, .bl b, _ => by unfold toPy; exact .bl b
  | _, _, .int i, _ => by unfold toPy; exact .int i
  | _, _, .str x, _ => by unfold toPy; exact .str x
  | _, _, .lst h r, p => by unfold toPy; unfold plain at p; exact .lst (SqL.of (g.le _ _ h)) (RepL.dp g r p)
  | _, _, .tup h r, p => by unfold toPy; unfold plain at p; exact .tup (sqT_mono g.le h) (RepL.dp g r p)
  | _, _, .scr _, p => by unfold plain at p; cases p
  | _, _, .dic _ _, p => by unfold plain at p; cases p
  | _, _, .pot _, p => by unfold plain at p; cases p
theorem RepL.dp (g : Good M H) : ∀ {vs : List V} {ds : List D}, RepL K M vs ds → plains ds = true → DpAll K H vs (toPys ds)
  | _, _, .nil, _ => by unfold toPys; exact .nil
  | _, _, .cons h r, p => by
    unfold plains at p
    rw [Bool.and_eq_true] at p
    unfold toPys
    exact .cons (Rep.dp g h p.1) (RepL.dp g r p.2)
end
/-- the value of a flat thing -/
def flV : D → V
  | .bl b => .bl b
  | .int i => .int i
  | .str x => .str x
  | _ => .non
theorem rep_flat {v : V} {d : D} (r : Rep K M v d) (f : flatD d = true) : v = flV d ∧ flatV v = true := by
  cases r <;> first | exact ⟨rfl, rfl⟩ | (unfold flatD at f; cases f)
theorem repL_flat : ∀ {vs : List V} {ds : List D}, RepL K M vs ds → ds.all flatD = true → vs = ds.map flV ∧ vs.all flatV = true
  | _, _, .nil, _ => ⟨rfl, rfl⟩
  | _, _, .cons h r, p => by
    rw [List.all_cons, Bool.and_eq_true] at p
    obtain ⟨e1, f1⟩ := rep_flat h p.1
    obtain ⟨e2, f2⟩ := repL_flat r p.2
    exact ⟨by rw [List.map_cons, ← e1, ← e2], by rw [List.all_cons, f1, f2]; rfl⟩
theorem eqV_flV {x y : D} (fx : flatD x = true) (fy : flatD y = true) : eqV (flV x) (flV y) = eqF x y := by
  cases x <;> cases y <;> first | (exact absurd (show false = true from fx) Bool.false_ne_true) | (exact absurd (show false = true from fy) Bool.false_ne_true) | rfl
theorem any_flV {x : D} (fx : flatD x = true) : ∀ {ys : List D}, ys.all flatD = true → (ys.map flV).any (fun y => eqV y (flV x)) = ys.any fun y => eqF y x
  | [], _ => rfl
  | y :: ys, p => by
    rw [List.all_cons, Bool.and_eq_true] at p
    rw [List.map_cons, List.any_cons, List.any_cons, eqV_flV p.1 fx, any_flV fx p.2]
def Cm.py : Cm → CmpOp
  | .eq => .Eq
  | .ne => .NotEq
  | .lt => .Lt
  | .le => .LtE
  | .gt => .Gt
  | .ge => .GtE
  | .isin => .In
  | .notin => .NotIn
  | .is => .Is
  | .isnot => .IsNot
def cmR (o : Cm) (x y : D) : Option R := (cmD o x y).map fun b => .val (.bl b)
theorem in_road {x y : V} {dx dy : D} {b : Bool} {Q : VK} (g : Good M H) (hx : Rep K M x dx) (hy : Rep K M y dy) (hz : inD dx dy = some b) (neg : Bool) (q : Q (.bl (if neg then !b else b)) H) : rIn K neg x y H Q ∨ ∃ (c : Nat) (z : Str), x = .str ⟨#[c]⟩ ∧ y = .str z ∧ Q (.bl (if neg then !decide (c ∈ z.cps.toList) else decide (c ∈ z.cps.toList))) H := by
  unfold inD at hz
  split at hz
  · split at hz
    · rename_i ys hc
      cases hz
      obtain ⟨e1, f1⟩ := rep_flat hx hc.1
      cases hy with
      | @lst a vs _ h r =>
        obtain ⟨e2, f2⟩ := repL_flat r hc.2
        refine .inl ⟨_, _, rfl, .inl (SqL.of (g.le _ _ h)), f1, f2, ?_⟩
        have : inV x vs = ys.any fun y => eqF y dx := by unfold inV; rw [e2, e1]; exact any_flV hc.1 hc.2
        rw [this]; exact q
    · cases hz
  · split at hz
    · rename_i ys hc
      cases hz
      obtain ⟨e1, f1⟩ := rep_flat hx hc.1
      cases hy with
      | @tup a vs _ h r =>
        obtain ⟨e2, f2⟩ := repL_flat r hc.2
        refine .inl ⟨_, _, rfl, .inr (sqT_mono g.le h), f1, f2, ?_⟩
        have : inV x vs = ys.any fun y => eqF y dx := by unfold inV; rw [e2, e1]; exact any_flV hc.1 hc.2
        rw [this]; exact q
    · cases hz
  · unfold inS at hz
    split at hz
    · rename_i c z
      cases hz
      cases hx
      cases hy
      exact .inr ⟨_, _, rfl, rfl, q⟩
    · cases hz
  · cases hz
theorem is_road {x y : V} {dx dy : D} {b : Bool} (hx : Rep K M x dx) (hy : Rep K M y dy) (hz : isD dx dy = some b) : (y = .non ∧ decide (x = .non) = b) ∨ ∃ p q : Bool, x = .bl p ∧ y = .bl q ∧ decide (p = q) = b := by
  unfold isD at hz
  split at hz
  · cases hx; cases hy; cases hz; exact .inl ⟨rfl, by simp⟩
  · rename_i hne
    cases hy; cases hz
    refine .inl ⟨rfl, ?_⟩
    cases hx <;> first | exact absurd rfl hne | simp
  · cases hx; cases hy; cases hz
    refine .inr ⟨_, _, rfl, rfl, ?_⟩
    rename_i p q
    cases p <;> cases q <;> rfl
  · cases hz
/-- == with what is empty -/
def rNil (K : PySem.W.Frag) (neg : Bool) : R2 := fun x y H Q => ∃ a b xs, x = .ref a ∧ y = .ref b ∧ ((SqL K H a xs ∧ SqL K H b []) ∨ (SqT K H a xs ∧ SqT K H b [])) ∧ Q (.bl (if neg then !xs.isEmpty else xs.isEmpty)) H
theorem op_eqNil (hu : X.A.units + 64 < cLine) : OpR X (compareOp .Eq) (rNil X.K false) := by
  intro pins s σ H x y v u Q I rx ry h
  obtain ⟨a, b, xs, rfl, rfl, hh, q⟩ := h
  cases rx
  cases ry
  have hu' : X.A.units < cLine := by omega
  rcases hh with ⟨h1, h2⟩ | ⟨h1, h2⟩
  · obtain ⟨i1, r1, p1, _⟩ := I.list h1
    obtain ⟨i2, r2, p2, _⟩ := I.list h2
    cases r2
    cases xs with
    | nil =>
      cases r1
      exact SeqAt.RcAt.lists (e := fun _ => true) p1.isList p2.isList rfl hu' (fun j h => absurd h (Nat.not_lt_zero _)) _ _ _ _ ⟨.bl _, H, I, rfl, q⟩
    | cons z zs =>
      cases r1 with
      | cons r1 rs => exact SeqAt.RcAt.lists_lengths p1.isList p2.isList (by simp) hu' _ _ _ _ ⟨.bl _, H, I, rfl, q⟩
  · obtain ⟨i1, r1, p1, _⟩ := I.tuple h1
    obtain ⟨i2, r2, p2, _⟩ := I.tuple h2
    cases r2
    have := SeqAt.RcAt.tuples (A := X.A) (s := s) (items := i1.toArray) (items2 := #[]) (e := fun _ => true) (show s.heap.IsTuple a i1.toArray from p1) (show s.heap.IsTuple b #[] from p2) hu' (fun j _ h => absurd h (Nat.not_lt_zero _))
    refine this _ _ _ _ ⟨.bl xs.isEmpty, H, I, ?_, q⟩
    have l1 := r1.length
    cases xs with
    | nil => cases r1; rfl
    | cons z zs => cases r1 with | cons r1 rs => simp [RelV]
theorem op_neNil (hu : X.A.units + 64 < cLine) : OpR X (compareOp .NotEq) (rNil X.K true) := by
  intro pins s σ H x y v u Q I rx ry h
  obtain ⟨a, b, xs, rfl, rfl, hh, q⟩ := h
  cases rx
  cases ry
  have hu' : X.A.units < cLine := by omega
  rcases hh with ⟨h1, h2⟩ | ⟨h1, h2⟩
  · obtain ⟨i1, r1, p1, _⟩ := I.list h1
    obtain ⟨i2, r2, p2, _⟩ := I.list h2
    cases r2
    cases xs with
    | nil =>
      cases r1
      exact SeqAt.RcNeAt.lists (e := fun _ => true) p1.isList p2.isList rfl hu' (fun j h => absurd h (Nat.not_lt_zero _)) _ _ _ _ ⟨.bl _, H, I, rfl, q⟩
    | cons z zs =>
      cases r1 with
      | cons r1 rs => exact SeqAt.RcNeAt.lists_lengths p1.isList p2.isList (by simp) hu' _ _ _ _ ⟨.bl _, H, I, rfl, q⟩
  · obtain ⟨i1, r1, p1, _⟩ := I.tuple h1
    obtain ⟨i2, r2, p2, _⟩ := I.tuple h2
    cases r2
    have := SeqAt.RcNeAt.tuples (A := X.A) (s := s) (items := i1.toArray) (items2 := #[]) (e := fun _ => true) (show s.heap.IsTuple a i1.toArray from p1) (show s.heap.IsTuple b #[] from p2) hu' (fun j _ h => absurd h (Nat.not_lt_zero _))
    refine this _ _ _ _ ⟨.bl (!xs.isEmpty), H, I, ?_, q⟩
    cases xs with
    | nil => cases r1; rfl
    | cons z zs => cases r1 with | cons r1 rs => simp [RelV]
theorem nil_road {x y : V} {dx dy : D} {b : Bool} {neg : Bool} {Q : VK} (g : Good M H) (hx : Rep K M x dx) (hy : Rep K M y dy) (h : (∃ xs, dx = .lst xs ∧ dy = .lst [] ∧ b = xs.isEmpty) ∨ ∃ xs, dx = .tup xs ∧ dy = .tup [] ∧ b = xs.isEmpty) (q : Q (.bl (if neg then !b else b)) H) : rNil K neg x y H Q := by
  rcases h with ⟨xs, rfl, rfl, rfl⟩ | ⟨xs, rfl, rfl, rfl⟩
  · cases hx with
    | @lst a vs _ h1 rl => cases hy with
      | @lst b us _ h2 rl2 =>
        cases rl2
        refine ⟨a, b, vs, rfl, rfl, .inl ⟨SqL.of (g.le _ _ h1), SqL.of (g.le _ _ h2)⟩, ?_⟩
        have e : vs.isEmpty = xs.isEmpty := by cases rl <;> rfl
        rw [e]; exact q
  · cases hx with
    | @tup a vs _ h1 rl => cases hy with
      | @tup b us _ h2 rl2 =>
        cases rl2
        refine ⟨a, b, vs, rfl, rfl, .inr ⟨sqT_mono g.le h1, sqT_mono g.le h2⟩, ?_⟩
        have e : vs.isEmpty = xs.isEmpty := by cases rl <;> rfl
        rw [e]; exact q
theorem opr_cm {k : Nat} (hr : Room k X.A) (o : Cm) : OpR X (compareOp o.py) (pOp X.K (cmR o)) := by
  intro pins s σ H x y v u Q I rx ry h
  obtain ⟨M, dx, dy, z, g, hx, hy, hz, post⟩ := h
  unfold cmR at hz
  cases o with
  | eq =>
    simp only [cmD, eqD] at hz
    split at hz
    · cases hz
      cases hx; cases hy
      refine op_eq pins s σ H _ _ v u Q I rx ry ⟨rfl, ?_⟩
      have e : ∀ a b : Str, decide ((V.str a) = V.str b) = decide (a = b) := fun a b => by simp
      rw [e]
      exact post.here g (.bl _)
    · cases hz
      exact op_eqNil hr.units pins s σ H x y v u Q I rx ry (nil_road (neg := false) g hx hy (.inl ⟨_, rfl, rfl, rfl⟩) (post.here g (.bl _)))
    · cases hz
      exact op_eqNil hr.units pins s σ H x y v u Q I rx ry (nil_road (neg := false) g hx hy (.inr ⟨_, rfl, rfl, rfl⟩) (post.here g (.bl _)))
    · unfold eqG at hz
      split at hz
      · rename_i hc
        cases hz
        exact op_eqD hr.units pins s σ H x y v u Q I rx ry ⟨_, _, hx.dp g hc.1, hy.dp g hc.2.1, hc.2.2.1, hc.2.2.2, post.here g (.bl _)⟩
      · cases hz
  | ne =>
    simp only [cmD, eqD] at hz
    split at hz
    · cases hz
      cases hx; cases hy
      refine op_ne pins s σ H _ _ v u Q I rx ry ⟨rfl, ?_⟩
      have e : ∀ a b : Str, decide ((V.str a) = V.str b) = decide (a = b) := fun a b => by simp
      rw [e]
      exact post.here g (.bl _)
    · cases hz
      exact op_neNil hr.units pins s σ H x y v u Q I rx ry (nil_road (neg := true) g hx hy (.inl ⟨_, rfl, rfl, rfl⟩) (post.here g (.bl _)))
    · cases hz
      exact op_neNil hr.units pins s σ H x y v u Q I rx ry (nil_road (neg := true) g hx hy (.inr ⟨_, rfl, rfl, rfl⟩) (post.here g (.bl _)))
    · unfold eqG at hz
      split at hz
      · rename_i hc
        cases hz
        exact op_neD hr.units pins s σ H x y v u Q I rx ry ⟨_, _, hx.dp g hc.1, hy.dp g hc.2.1, hc.2.2.1, hc.2.2.2, post.here g (.bl _)⟩
      · cases hz
  | lt =>
    cases dx <;> cases dy <;> try (cases hz)
    cases hx; cases hy
    exact op_lt pins s σ H _ _ v u Q I rx ry ⟨_, _, rfl, rfl, post.here g (.bl _)⟩
  | le =>
    cases dx <;> cases dy <;> try (cases hz)
    cases hx; cases hy
    exact op_le pins s σ H _ _ v u Q I rx ry ⟨_, _, rfl, rfl, post.here g (.bl _)⟩
  | gt =>
    cases dx <;> cases dy <;> try (cases hz)
    cases hx; cases hy
    exact op_gt pins s σ H _ _ v u Q I rx ry ⟨_, _, rfl, rfl, post.here g (.bl _)⟩
  | ge =>
    cases dx <;> cases dy <;> try (cases hz)
    cases hx; cases hy
    exact op_ge pins s σ H _ _ v u Q I rx ry ⟨_, _, rfl, rfl, post.here g (.bl _)⟩
  | isin =>
    simp only [cmD] at hz
    cases e : inD dx dy with
    | none => rw [e] at hz; cases hz
    | some b =>
      rw [e] at hz; cases hz
      rcases in_road g hx hy e false (post.here g (.bl _)) with w | w
      · exact op_in_seq pins s σ H x y v u Q I rx ry w
      · exact op_in_sign pins s σ H x y v u Q I rx ry w
  | notin =>
    simp only [cmD] at hz
    cases e : inD dx dy with
    | none => rw [e] at hz; cases hz
    | some b =>
      rw [e] at hz; cases hz
      rcases in_road g hx hy e true (post.here g (.bl _)) with w | w
      · exact op_notIn_seq pins s σ H x y v u Q I rx ry w
      · exact op_notIn_sign pins s σ H x y v u Q I rx ry w
  | is =>
    simp only [cmD] at hz
    cases e : isD dx dy with
    | none => rw [e] at hz; cases hz
    | some b =>
      rw [e] at hz; cases hz
      rcases is_road hx hy e with ⟨h1, h2⟩ | ⟨p, q, h1, h2, h3⟩
      · exact op_isN pins s σ H x y v u Q I rx ry ⟨h1, by rw [h2]; exact post.here g (.bl _)⟩
      · exact op_isBl pins s σ H x y v u Q I rx ry ⟨p, q, h1, h2, by rw [h3]; exact post.here g (.bl _)⟩
  | isnot =>
    simp only [cmD] at hz
    cases e : isD dx dy with
    | none => rw [e] at hz; cases hz
    | some b =>
      rw [e] at hz; cases hz
      rcases is_road hx hy e with ⟨h1, h2⟩ | ⟨p, q, h1, h2, h3⟩
      · exact op_notN pins s σ H x y v u Q I rx ry ⟨h1, by rw [h2]; exact post.here g (.bl _)⟩
      · exact op_notBl pins s σ H x y v u Q I rx ry ⟨p, q, h1, h2, by rw [h3]; exact post.here g (.bl _)⟩

/-! ### truth -/
theorem tru_road {x : V} {d : D} {k : Bool} (g : Good M H) (hx : Rep K M x d) (h : truD d = some k) : TruV K x H k := by
  cases hx with
  | non => cases h; rfl
  | bl b => cases h; rfl
  | int i => cases h; rfl
  | str x =>
    simp only [truD] at h
    split at h
    · rename_i hl
      cases h
      exact ⟨by rw [← lim_eq]; exact hl, rfl⟩
    · cases h
  | lst h1 r =>
    cases h
    refine .inl ⟨_, SqL.of (g.le _ _ h1), ?_⟩
    cases r <;> rfl
  | tup h1 r =>
    cases h
    refine .inr (.inl ⟨_, sqT_mono g.le h1, ?_⟩)
    cases r <;> rfl
  | dic h1 r =>
    cases h
    refine .inr (.inr ⟨_, g.le _ _ h1, ?_⟩)
    cases r <;> rfl
  | scr _ => cases h
  | pot _ => cases h

/-! ### items, slices -/
theorem atI_rep {vs : List V} {ds : List D} {i : Int} {d : D} (r : RepL K M vs ds) (h : atI ds i = some d) : ∃ v, atI vs i = some v ∧ Rep K M v d := by
  unfold atI at h ⊢
  rw [r.length]
  cases e : ixN ds.length i with
  | none => rw [e] at h; cases h
  | some j => rw [e] at h; exact r.get h
def ixR (x y : D) : Option R := (ixD x y).map .val
/-- an item of a dict -/
theorem ix_dict (hu : X.A.units + 1 < cLine) : IxR X (fun x y H Q => ∃ a kvs kk v, x = V.ref a ∧ H a = some (.dK kvs) ∧ y = kV kk ∧ valV kvs kk = some v ∧ Q v H) := by
  intro value slice pins s σ H x y v u Q I rx ry h hs
  obtain ⟨a, kvs, kk, z, rfl, e1, rfl, e2, q⟩ := h
  obtain rfl : v = Value.ref a := rx
  have g : DGet H a (kV kk) (some z) := by rw [← e2]; exact DGet.k e1
  exact PyProof.Rows.tail_any (dict_typeIs I g) PySem.F.slot_dict_getitem.lookup (d_getItem hu I g ry fun w' s3 I3 rw' => ⟨z, H, I3, rw', q⟩) hs
theorem RepK.val : ∀ {kvs : List (Key × V)} {kds : List (Key × D)} {kk : Key} {d : D}, RepK K M kvs kds → valD kds kk = some d → ∃ v, valV kvs kk = some v ∧ Rep K M v d
  | _, _, _, _, .nil, e => by cases e
  | _, _, kk, d, .cons (k := k0) (v := v) (d := d0) h r, e => by
    by_cases q : k0 = kk
    · rw [valD, List.find?_cons_of_pos (by simpa using q)] at e
      cases e
      exact ⟨v, valV_pos q, h⟩
    · rw [valD, List.find?_cons_of_neg (by simpa using q)] at e
      obtain ⟨v', e1, e2⟩ := RepK.val r e
      exact ⟨v', by rw [valV_neg (p := (k0, v)) q]; exact e1, e2⟩
theorem keyD_rep {y : V} {d : D} {kk : Key} (h : Rep K M y d) (e : keyD d = some kk) : y = kV kk := by
  cases h <;> first | (cases e; rfl) | cases e
theorem opr_ix (hu : X.A.units + 1 < cLine) : IxR X (pOp X.K ixR) := by
  refine ix_imp (IxR.or ix_seq (ix_dict hu)) fun x y H Q h => ?_
  obtain ⟨M, dx, dy, z, g, hx, hy, hz, post⟩ := h
  unfold ixR ixD at hz
  split at hz
  · rename_i kvs
    cases e : keyD dy with
    | none => rw [e] at hz; cases hz
    | some kk =>
      rw [e] at hz
      cases e2 : valD kvs kk with
      | none => rw [Option.bind_some, e2] at hz; cases hz
      | some d =>
        rw [Option.bind_some, e2] at hz
        cases hz
        cases hx with
        | dic h r =>
          obtain ⟨v, q1, q2⟩ := r.val e2
          exact .inr ⟨_, _, kk, v, rfl, g.le _ _ h, keyD_rep hy e, q1, post.here g q2⟩
  · rename_i ds i
    cases hy
    cases hx with
    | lst h r =>
      cases e : atI ds i with
      | none => rw [e] at hz; cases hz
      | some d =>
        rw [e] at hz; cases hz
        obtain ⟨v, e1, e2⟩ := atI_rep r e
        exact .inl (.inl ⟨_, _, _, v, rfl, rfl, SqL.of (g.le _ _ h), e1, post.here g e2⟩)
  · rename_i ds i
    cases hy
    cases hx with
    | tup h r =>
      cases e : atI ds i with
      | none => rw [e] at hz; cases hz
      | some d =>
        rw [e] at hz; cases hz
        obtain ⟨v, e1, e2⟩ := atI_rep r e
        exact .inl (.inr (.inl ⟨_, _, _, v, rfl, rfl, sqT_mono g.le h, e1, post.here g e2⟩))
  · rename_i ns i
    cases hy
    cases hx with
    | scr h =>
      cases e : atI ns i with
      | none => rw [e] at hz; cases hz
      | some d =>
        rw [e] at hz; cases hz
        have e1 : atI (ns.map V.int) i = some (.int d) := by
          unfold atI at e ⊢
          rw [List.length_map]
          cases q : ixN ns.length i with
          | none => rw [q] at e; cases e
          | some j =>
            rw [q] at e
            show (ns.map V.int)[j]? = some (.int d)
            have e' : ns[j]? = some d := e
            rw [List.getElem?_map, e']; rfl
        exact .inl (.inl ⟨_, _, _, _, rfl, rfl, sqL_mono g.le h, e1, post.here g (.int _)⟩)
  · rename_i x i
    split at hz
    · rename_i hl
      cases hy; cases hx
      cases e : atI x.cps.toList i with
      | none => rw [e] at hz; cases hz
      | some c =>
        rw [e] at hz; cases hz
        exact .inl (.inr (.inr ⟨_, _, c, rfl, rfl, by rw [← lim_eq]; exact hl, e, post.here g (.str _)⟩))
    · cases hz
  · cases hz
theorem cut_rep {vs : List V} {ds : List D} (r : RepL K M vs ds) (lo hi : Option Int) : RepL K M (cutV vs lo hi) (cutD ds lo hi) := by
  unfold cutV cutD
  rw [r.length]
  exact (r.drop _).take _
def pSl (K : PySem.W.Frag) : V → Option Int → Option Int → Hp → VK → Prop := fun x lo hi H Q => ∃ M dx z, Good M H ∧ Rep K M x dx ∧ slD dx lo hi = some z ∧ Post K M H z Q
theorem sl_whole {ds : List D} {lo hi : Option Int} (h : HT.sIx ds.length 0 lo = 0 ∧ HT.sIx ds.length ds.length hi = ds.length) : cutD ds lo hi = ds := by
  unfold cutD
  rw [h.1, h.2, List.drop_zero, Nat.sub_zero, List.take_length]
theorem opr_sl : SlR X (pSl X.K) := by
  refine sl_imp (SlR.or (SlR.or sl_list sl_tupA) sl_str) fun x lo hi H Q h => ?_
  obtain ⟨M, dx, z, g, hx, hz, post⟩ := h
  unfold slD at hz
  split at hz
  · cases hz
    cases hx with
    | lst h r => exact .inl (.inl ⟨_, _, rfl, SqL.of (g.le _ _ h), post.newL g (cut_rep r lo hi)⟩)
  · cases hz
    cases hx with
    | tup h r =>
      refine .inl (.inr ⟨_, _, rfl, sqT_mono g.le h, fun w => ?_, fun _ => post.newT g (cut_rep r lo hi)⟩)
      rw [r.length] at w
      refine post.here g ?_
      rw [sl_whole w]
      exact .tup h r
  · split at hz
    · rename_i hl
      cases hz
      cases hx
      exact .inr ⟨_, rfl, by rw [← lim_eq]; exact hl, post.here g (.str _)⟩
    · cases hz
  · cases hz

/-! ### kinds -/
def Ty.s : Ty → String
  | .int => "int"
  | .bool => "bool"
  | .str => "str"
  | .list => "list"
  | .tuple => "tuple"
  | .dict => "dict"
def kdD : D → String
  | .non => "NoneType"
  | .bl _ => "bool"
  | .int _ => "int"
  | .str _ => "str"
  | .lst _ => "list"
  | .tup _ => "tuple"
  | .dic _ => "dict"
  | .pot => "list"
  | .scr _ => "list"
theorem kit_all (t : Ty) : kitB "NoneType" t.s = some false ∧ kitB "bool" t.s = some (isTy (.bl true) t) ∧ kitB "int" t.s = some (isTy (.int 0) t) ∧ kitB "str" t.s = some (isTy (.str Str.empty) t) ∧ kitB "list" t.s = some (isTy (.lst []) t) ∧ kitB "tuple" t.s = some (isTy (.tup []) t) ∧ kitB "dict" t.s = some (isTy (.dic []) t) := by
  cases t <;> decide +kernel
theorem kit_isTy (d : D) (t : Ty) : kitB (kdD d) t.s = some (isTy d t) := by
  obtain ⟨h1, h2, h3, h4, h5, h6, h7⟩ := kit_all t
  cases d with
  | non => rw [kdD, h1]; cases t <;> rfl
  | bl b => rw [kdD, h2]; cases t <;> rfl
  | int i => rw [kdD, h3]; cases t <;> rfl
  | str x => rw [kdD, h4]; cases t <;> rfl
  | lst x => rw [kdD, h5]; cases t <;> rfl
  | tup x => rw [kdD, h6]; cases t <;> rfl
  | dic x => rw [kdD, h7]; cases t <;> rfl
  | pot => rw [kdD, h5]; cases t <;> rfl
  | scr x => rw [kdD, h5]; cases t <;> rfl
theorem Rep.ty {v : V} {d : D} (g : Good M H) (r : Rep K M v d) : TyX K H v (.type (kdD d)) := by
  cases r with
  | non => exact .base .non
  | bl b => exact .base (.bl b)
  | int i => exact .base (.int i)
  | str x => exact .base (.str x)
  | lst h _ => exact .base (.lst (g.le _ _ h))
  | tup h _ =>
    rcases sqT_mono g.le h with (h | ⟨o, h⟩) | ⟨o, its, n, h1, h2, _⟩
    · exact .base (.tup h)
    · exact .fTuple h
    · exact .kTuple h1 h2
  | dic h _ => exact .base (.dK (g.le _ _ h))
  | scr h =>
    rcases sqL_mono g.le h with (h | ⟨o, h⟩) | ⟨o, its, n, h1, h2, _⟩
    · exact .base (.lst h)
    · exact .base (.frz h)
    · exact .kList h1 h2
  | pot h =>
    obtain ⟨_, n, _, e⟩ := g.pot _ h
    exact .base (.lst e)
/-- isinstance(x, T), T a built-in class -/
def pIsi (K : PySem.W.Frag) (t : Ty) : List V → Hp → VK → Prop := fun vs H Q => ∃ M x d, vs = [x, .ty t.s] ∧ Good M H ∧ Rep K M x d ∧ Q (.bl (isTy d t)) H
theorem opr_isi (t : Ty) : CallR X (.builtin "isinstance") (pIsi X.K t) := by
  refine call_imp call_isi fun xs H Q h => ?_
  obtain ⟨M, x, d, rfl, g, hx, q⟩ := h
  exact ⟨x, _, _, _, _, rfl, .ty _, hx.ty g, kit_ty (kit_isTy d t), q⟩
end
end PL
set_option maxHeartbeats 3900000
/-! PLe: built-in functions keep what they come to at data -/
namespace PL
open PySem L2 PyProof.Rows

/-- where a body runs: calm, room, no guard -/
structure Calm (X : Cx) (k : Nat) : Prop where
  c : X.calm = true
  r : Room k X.A
  g : X.A.guards = some []
  sm : (X.K.lookup sysModules).isSome = true

def Bi.val : Bi → Value
  | .len => .builtin "len"
  | .abs => .builtin "abs"
  | .max => .builtin "max"
  | .min => .builtin "min"
  | .int => .type "int"
  | .repr => .builtin "repr"
  | .sum => .builtin "sum"
  | .all => .builtin "all"
  | .any => .builtin "any"
  | .list => .type "list"
  | .tuple => .type "tuple"
  | .sorted => .builtin "sorted"
  | .dict => .type "dict"
  | .divmod => .builtin "divmod"
  | .str => .type "str"
def Bi.nm : Bi → Str
  | .len => "len"
  | .abs => "abs"
  | .max => "max"
  | .min => "min"
  | .int => "int"
  | .repr => "repr"
  | .sum => "sum"
  | .all => "all"
  | .any => "any"
  | .list => "list"
  | .tuple => "tuple"
  | .sorted => "sorted"
  | .dict => "dict"
  | .divmod => "divmod"
  | .str => "str"
theorem Bi.boot (b : Bi) : bootBuiltins b.nm = some b.val := by cases b <;> decide +kernel
section
variable {X : Cx} {M : Gh} {H : Hp} {K : PySem.W.Frag}
mutual
theorem noDict : ∀ {d : D}, plain d = true → (toPy d).hasDict = false
  | .non, _ => by unfold toPy; rfl
  | .bl _, _ => by unfold toPy; rfl
  | .int _, _ => by unfold toPy; rfl
  | .str _, _ => by unfold toPy; rfl
  | .lst ds, p => by unfold toPy; unfold plain at p; exact noDicts p
  | .tup ds, p => by unfold toPy; unfold plain at p; exact noDicts p
  | .scr _, p => by unfold plain at p; cases p
  | .dic _, p => by unfold plain at p; cases p
  | .pot, p => by unfold plain at p; cases p
theorem noDicts : ∀ {ds : List D}, plains ds = true → PyData.hasDictAll (toPys ds) = false
  | [], _ => by unfold toPys; rfl
  | d :: ds, p => by
    unfold plains at p
    rw [Bool.and_eq_true] at p
    unfold toPys
    show ((toPy d).hasDict || PyData.hasDictAll (toPys ds)) = false
    rw [noDict p.1, noDicts p.2]; rfl
end
theorem ints_of : ∀ {vs : List V} {ds : List D} {ns : List Int}, RepL K M vs ds → intsD ds = some ns → vs = ns.map V.int
  | _, _, _, .nil, h => by cases h; rfl
  | v :: vs, d :: ds, ns, .cons r rs, h => by
    cases r with
    | int i =>
      simp only [intsD] at h
      cases e : intsD ds with
      | none => rw [e] at h; cases h
      | some ms => rw [e] at h; cases h; rw [ints_of rs e]; rfl
    | _ => exact absurd h (by simp [intsD])
theorem bools_of : ∀ {vs : List V} {ds : List D} {ns : List Bool}, RepL K M vs ds → boolsD ds = some ns → vs = ns.map V.bl
  | _, _, _, .nil, h => by cases h; rfl
  | v :: vs, d :: ds, ns, .cons r rs, h => by
    cases r with
    | bl i =>
      simp only [boolsD] at h
      cases e : boolsD ds with
      | none => rw [e] at h; cases h
      | some ms => rw [e] at h; cases h; rw [bools_of rs e]; rfl
    | _ => exact absurd h (by simp [boolsD])
theorem bi_len {hs : List V} {Q : VK} (h : pC X.K (biD .len) hs H Q) : ∃ x n, hs = [x] ∧ LenV X.K x H n ∧ Q (.int n) H := by
  obtain ⟨M, ds, z, g, r, hz, post⟩ := h
  simp only [biD, biLen] at hz
  split at hz
  · rename_i x
    cases r with
    | cons r rn =>
      cases rn
      cases e : lenD x with
      | none => rw [e] at hz; cases hz
      | some n =>
        rw [e] at hz; cases hz
        refine ⟨_, n, rfl, ?_, post.here g (.int _)⟩
        cases r with
        | lst h1 r1 => cases e; exact .inl ⟨_, SqL.of (g.le _ _ h1), r1.length.symm⟩
        | tup h1 r1 => cases e; exact .inr ⟨_, sqT_mono g.le h1, r1.length.symm⟩
        | scr h1 => cases e; exact .inl ⟨_, sqL_mono g.le h1, by rw [List.length_map]⟩
        | str y =>
          simp only [lenD] at e
          split at e
          · rename_i hl
            cases e
            exact ⟨by rw [← lim_eq]; exact hl, rfl⟩
          · cases e
        | _ => cases e
  · cases hz
theorem rep1 {vs : List V} {d : D} (r : RepL K M vs [d]) : ∃ v, vs = [v] ∧ Rep K M v d := by
  cases r with | cons r rn => cases rn; exact ⟨_, rfl, r⟩
theorem rep2 {vs : List V} {d e : D} (r : RepL K M vs [d, e]) : ∃ v u, vs = [v, u] ∧ Rep K M v d ∧ Rep K M u e := by
  cases r with | cons r rn => cases rn with | cons q rn => cases rn; exact ⟨_, _, rfl, r, q⟩
theorem repr_flat {v : Value} {x : V} {d : D} {A : Around} {E : Value → Shared → Prop} {s : Shared} {prog : Program} {w : World} {Q : Value → Shared → Prop} (f : flatD d = true) (hx : Rep K M x d) (rx : RelV x v) (hs : (toPy d).showable = true) (hz : (toPy d).shown.length ≤ sizeLine)
    (h : Q (.str (toPy d).shown s.toks) { s with toks := s.toks + 1 }) : wpAny (model prog w) A (call (.builtin "repr") [v]) Q E s := by
  cases hx with
  | non => cases rx; exact P.repr_of_none h
  | bl b => cases rx; exact P.repr_of_bool h
  | int i =>
    obtain ⟨t, rfl⟩ := rx
    exact P.repr_of_int (of_decide_eq_true hs) h
  | str y =>
    obtain ⟨t, rfl⟩ := rx
    exact P.repr_of_str h hz
  | _ => exact absurd f (by simp [flatD])
/-! what repr reads -/
section
variable {pins : List (Addr × Obj)} {σ : L2.St} {s : Shared}
mutual
theorem Rep.reads (I : Inv X pins σ H s) (g : Good M H) (ns : H sysModules = none) : ∀ {v : V} {d : D} {u : Value}, Rep X.K M v d → plainR d = true → RelV v u → ∃ as, Reads s.heap u (toPy d) as ∧ sysModules ∉ as
  | _, _, _, .non, _, r => by cases r; unfold toPy; exact ⟨_, Reads.none, List.not_mem_nil⟩
  | _, _, _, .bl b, _, r => by cases r; unfold toPy; exact ⟨_, Reads.bool b, List.not_mem_nil⟩
  | _, _, _, .int i, _, r => by obtain ⟨t, rfl⟩ := r; unfold toPy; exact ⟨_, Reads.int i t, List.not_mem_nil⟩
  | _, _, _, .str x, _, r => by obtain ⟨t, rfl⟩ := r; unfold toPy; exact ⟨_, Reads.str x t, List.not_mem_nil⟩
  | _, _, _, .lst (a := a) h1 rl, hp, r => by
    cases r
    unfold plainR at hp
    have ha : H a = some _ := g.le _ _ h1
    obtain ⟨its, rv, ⟨o, n, ho, hc, _, hd⟩, _⟩ := I.list (SqL.of ha)
    obtain ⟨as, hr, hn⟩ := RepL.reads I g ns rl hp rv
    unfold toPy
    refine ⟨_, Reads.list ho hc hd hr, fun z => ?_⟩
    rcases List.mem_cons.mp z with z | z
    · rw [← z, ns] at ha; cases ha
    · exact hn z
  | _, _, _, .tup h1 rl, hp, r => by
    cases r
    unfold plainR at hp
    obtain ⟨its, rv, ⟨o, ho, hc, n, hd⟩, _⟩ := I.tuple (sqT_mono g.le h1)
    obtain ⟨as, hr, hn⟩ := RepL.reads I g ns rl hp rv
    unfold toPy
    exact ⟨_, Reads.tuple ho hc hd hr, hn⟩
  | _, _, _, .dic (a := a) h1 rk, hp, r => by
    cases r
    unfold plainR at hp
    have ha : H a = some _ := g.le _ _ h1
    obtain ⟨_, hsm, vs, kv, o, es, ep, ho, hx, hd, _, hps, _⟩ := dk_of I.hok ha
    obtain ⟨as, bs, h3, h4, h5, h6⟩ := RepK.reads I g ns rk hp kv hps
    unfold toPy
    refine ⟨_, Reads.dict ho hx.1 hd h3 h4, fun z => ?_⟩
    rcases List.mem_append.mp z with z | z
    · rcases List.mem_cons.mp z with z | z
      · rw [← z] at hsm; exact absurd hsm (by decide)
      · exact h5 z
    · exact h6 z
  | _, _, _, .scr _, hp, _ => by unfold plainR at hp; cases hp
  | _, _, _, .pot _, hp, _ => by unfold plainR at hp; cases hp
theorem RepL.reads (I : Inv X pins σ H s) (g : Good M H) (ns : H sysModules = none) : ∀ {vs : List V} {ds : List D} {us : List Value}, RepL X.K M vs ds → plainRs ds = true → Vals vs us → ∃ as, ReadsAll s.heap us (toPys ds) as ∧ sysModules ∉ as
  | _, _, _, .nil, _, r => by cases r; unfold toPys; exact ⟨_, ReadsAll.nil, List.not_mem_nil⟩
  | _, _, _, .cons h hs, hp, r => by
    unfold plainRs at hp
    rw [Bool.and_eq_true] at hp
    cases r with
    | cons r1 r2 =>
      obtain ⟨as, q1, n1⟩ := Rep.reads I g ns h hp.1 r1
      obtain ⟨bs, q2, n2⟩ := RepL.reads I g ns hs hp.2 r2
      unfold toPys
      exact ⟨_, ReadsAll.cons q1 q2, fun z => (List.mem_append.mp z).elim n1 n2⟩
theorem RepK.reads (I : Inv X pins σ H s) (g : Good M H) (ns : H sysModules = none) : ∀ {kvs : List (Key × V)} {kds : List (Key × D)} {vs : List (Key × Value)} {es : List DictEntry}, RepK X.K M kvs kds → plainRk kds = true → KV kvs vs → Pairs (mixKind X.prog X.w) es vs →
    ∃ as bs, ReadsAll s.heap (es.map (·.key)) ((toPyK kds).map (·.1)) as ∧ ReadsAll s.heap (es.map (·.val)) ((toPyK kds).map (·.2)) bs ∧ sysModules ∉ as ∧ sysModules ∉ bs
  | _, _, _, _, .nil, _, r, p => by
    cases r
    cases p
    unfold toPyK
    exact ⟨_, _, ReadsAll.nil, ReadsAll.nil, List.not_mem_nil, List.not_mem_nil⟩
  | _, _, _, _, .cons (k := kk) h hs, hp, r, p => by
    unfold plainRk at hp
    rw [Bool.and_eq_true] at hp
    cases r with
    | cons r1 r2 =>
      cases p with
      | cons p1 p2 p3 =>
        obtain ⟨as, bs, q1, q2, n1, n2⟩ := RepK.reads I g ns hs hp.2 r2 p3
        obtain ⟨e1, e2⟩ := r1
        obtain ⟨cs, q3, n3⟩ := Rep.reads I g ns h hp.1 e2
        simp only at e1 e2 p1 p2
        rw [← e1] at p1
        rw [← p2] at q3
        rcases keyIs_shape p1 with ⟨i, t, rfl, e3⟩ | ⟨x, t, rfl, e3⟩
        · unfold toPyK
          simp only [List.map_cons, e3]
          exact ⟨_, _, ReadsAll.cons (Reads.int i t) q1, ReadsAll.cons q3 q2, fun z => n1 (by simpa using z), fun z => (List.mem_append.mp z).elim n3 n2⟩
        · unfold toPyK
          simp only [List.map_cons, e3]
          exact ⟨_, _, ReadsAll.cons (Reads.str x t) q1, ReadsAll.cons q3 q2, fun z => n1 (by simpa using z), fun z => (List.mem_append.mp z).elim n3 n2⟩
end
end
theorem opr_reprV {k : Nat} (C : Calm X k) : CallR X (.builtin "repr") (fun xs H Q => ∃ M x d t, xs = [x] ∧ Good M H ∧ Rep X.K M x d ∧ biRepr [d] = some (.val (.str t)) ∧ Q (.str t) H) := by
  intro pins s σ H xs us Q I rx h
  obtain ⟨M, x, d, t, rfl, g, hx, hz, post⟩ := h
  simp only [biRepr] at hz
  split at hz
  · rename_i hc
    cases hz
    obtain ⟨v, rfl, rv⟩ := vals1 rx
    have hz : (toPy d).shown.length ≤ sizeLine := by rw [← lim_eq]; exact hc.2.2.2
    by_cases f : flatD d = true
    · exact repr_flat f hx rv hc.2.1 hz ⟨.str (toPy d).shown, H, I.tok _, ⟨_, rfl⟩, post⟩
    · obtain ⟨so, hso⟩ := Option.isSome_iff_exists.mp C.sm
      have ns : H sysModules = none := (I.bs _ _ (I.mod.kin _ _ hso)).2
      obtain ⟨as, rd, nm⟩ := Rep.reads I g ns hx hc.1 rv
      have isr : ∃ a, v = .ref a := by
        cases hx <;> first | exact absurd rfl f | exact ⟨_, rv⟩
      obtain ⟨a, rfl⟩ := isr
      have hu := C.r.units
      have hd := hc.2.2.1
      refine repr_of_reads' rd hc.2.1 (fun _ => nm) C.g (by omega) (fun _ _ e => e) (fun h' u tk hk => ?_) hz
      exact ⟨.str (toPy d).shown, H, I.kept hk, ⟨_, rfl⟩, post⟩
  · cases hz
theorem repr_str {ds : List D} {z : R} (h : biRepr ds = some z) : ∃ d t, ds = [d] ∧ z = .val (.str t) := by
  unfold biRepr at h
  split at h
  · split at h
    · cases h; exact ⟨_, _, rfl, rfl⟩
    · cases h
  · cases h
theorem opr_repr {k : Nat} (C : Calm X k) : CallR X (.builtin "repr") (pC X.K (biD .repr)) := by
  refine call_imp (opr_reprV C) fun xs H Q h => ?_
  obtain ⟨M, ds, z, g, r, hz, post⟩ := h
  have hz' : biRepr ds = some z := hz
  obtain ⟨d, t, rfl, rfl⟩ := repr_str hz'
  obtain ⟨x, rfl, hx⟩ := rep1 r
  exact ⟨M, x, d, t, rfl, g, hx, hz', post.here g (.str _)⟩
/-! ### sorted, dict -/
/-- how a value stands for data -/
def VRep (K : PySem.W.Frag) (M : Gh) (v : Value) (d : D) : Prop := ∃ x, RelV x v ∧ Rep K M x d
theorem each_of : ∀ {vs : List V} {ds : List D} {us : List Value}, RepL K M vs ds → Vals vs us → PySem.W.EachIs (VRep K M) us ds
  | _, _, _, .nil, .nil => .nil
  | _, _, _, .cons h r, .cons q t => .cons ⟨_, q, h⟩ (each_of r t)
theorem of_each : ∀ {us : List Value} {ds : List D}, PySem.W.EachIs (VRep K M) us ds → ∃ vs, Vals vs us ∧ RepL K M vs ds
  | _, _, .nil => ⟨[], .nil, .nil⟩
  | _, _, .cons ⟨x, h1, h2⟩ t => by
    obtain ⟨vs, q1, q2⟩ := of_each t
    exact ⟨x :: vs, .cons h1 q1, .cons h2 q2⟩
theorem toPys_map : ∀ ds : List D, toPys ds = ds.map toPy
  | [] => by unfold toPys; rfl
  | d :: ds => by unfold toPys; rw [toPys_map ds]; rfl
theorem plains_mem : ∀ {ds : List D} {d : D}, plains ds = true → d ∈ ds → plain d = true
  | x :: ds, d, h, m => by
    unfold plains at h
    rw [Bool.and_eq_true] at h
    rcases List.mem_cons.mp m with rfl | m
    · exact h.1
    · exact plains_mem h.2 m
theorem srtOk_ok {ds : List PyData} (h : srtOk ds = true) : PySem.W.AllAlike ds ∧ PySem.W.Sortable ds ∧ (∀ d ∈ ds, d.depth ≤ 60) ∧ ds.length ≤ lim := by
  unfold srtOk at h
  simp only [Bool.and_eq_true, Bool.or_eq_true, List.all_eq_true, decide_eq_true_eq] at h
  obtain ⟨⟨⟨h1, h2⟩, h3⟩, h4⟩ := h
  refine ⟨fun d hd d' hd' => h1 d hd d' hd', ?_, h3, h4⟩
  rcases h2 with h2 | h2
  · refine .inl fun d hd => ?_
    have := h2 d hd
    unfold tup1 at this
    split at this
    · exact ⟨_, _, rfl⟩
    · cases this
  · refine .inr fun d hd => ?_
    have := h2 d hd
    unfold noTN at this
    split at this
    · cases this
    · cases this
    · rename_i q1 q2
      exact ⟨q1, q2⟩
theorem opr_sorted {k : Nat} (C : Calm X k) : CallR X (.builtin "sorted") (pC X.K (biD .sorted)) := by
  intro pins s σ H xs us Q I rx h
  obtain ⟨M, ds, z, g, r, hz, post⟩ := h
  simp only [biD, biSorted] at hz
  split at hz
  · rename_i ys
    split at hz
    · rename_i hc
      cases hz
      obtain ⟨x, rfl, hx⟩ := rep1 r
      obtain ⟨v, rfl, rv⟩ := vals1 rx
      cases hx with
      | @lst a vs _ h1 rl =>
        obtain rfl : v = Value.ref a := rv
        obtain ⟨its, rvs, hl, hz⟩ := I.list (SqL.of (g.le _ _ h1))
        obtain ⟨s1, s2, s3, s4⟩ := srtOk_ok hc.2
        rw [toPys_map] at s1 s2 s3
        have eR : PySem.W.EachIs (VRep X.K M) its ys := each_of rl rvs
        have er : PySem.W.EachIs (fun v b => ∃ as, Reads s.heap v (toPy b) as) its ys := (PySem.W.each_mem eR).mono fun v d ⟨⟨x, q1, q2⟩, q3⟩ => Dp.reads I _ x v (q2.dp g (plains_mem hc.1 q3)) q1
        have hu := C.r.units
        refine PySem.W.sorted_data (enc := toPy) hl.isList eR er s1 s2 (by rw [← rl.length]; exact hz) (fun b hb => ?_) fun out ho eo => ?_
        · have := s3 _ (List.mem_map.mpr ⟨b, hb, rfl⟩)
          omega
        · obtain ⟨ws, q1, q2⟩ := of_each eo
          obtain ⟨ep, he'⟩ := PyProof.Rows.sortedAll_at s.heap its (List.toArray out)
          have hlen : ws.length ≤ sizeLine := by
            rw [q1.length, ho, ← rl.length]; exact hz
          exact ⟨.ref _, upd H (s.heap.objs.size + 1) (.lst ws), I.laid (t' := s.toks) (fun _ _ => PyProof.Rows.sortedAll_old) (Nat.le_succ _) ⟨hlen, _, ep, q1, he'⟩, rfl, post.newL g q2 _ (I.hok.fresh (Nat.le_succ _))⟩
    · cases hz
  · cases hz
theorem RepK.put : ∀ {kvs : List (Key × V)} {kds : List (Key × D)} {kk : Key} {v : V} {d : D}, RepK K M kvs kds → Rep K M v d → RepK K M (putK kvs kk v) (putD kds kk d) := by
  have any : ∀ {kvs : List (Key × V)} {kds : List (Key × D)} {kk : Key}, RepK K M kvs kds → (kvs.any fun kv => decide (kv.1 = kk)) = (kds.any fun kv => decide (kv.1 = kk)) := fun {kvs kds kk} r => by
    induction kvs generalizing kds with
    | nil => cases r; rfl
    | cons a kvs ih => cases r with | cons h r => rw [List.any_cons, List.any_cons, ih r]
  have mp : ∀ {kvs : List (Key × V)} {kds : List (Key × D)} {kk : Key} {v : V} {d : D}, RepK K M kvs kds → Rep K M v d → RepK K M (kvs.map fun kv => if kv.1 = kk then (kv.1, v) else kv) (kds.map fun kv => if kv.1 = kk then (kv.1, d) else kv) := fun {kvs kds kk v d} r hv => by
    induction kvs generalizing kds with
    | nil => cases r; exact .nil
    | cons a kvs ih =>
      cases r with
      | cons h r =>
        rw [List.map_cons, List.map_cons]
        dsimp only
        split
        · exact .cons hv (ih r)
        · exact .cons h (ih r)
  have sn : ∀ {kvs : List (Key × V)} {kds : List (Key × D)} {kk : Key} {v : V} {d : D}, RepK K M kvs kds → Rep K M v d → RepK K M (kvs ++ [(kk, v)]) (kds ++ [(kk, d)]) := fun {kvs kds kk v d} r hv => by
    induction kvs generalizing kds with
    | nil => cases r; exact .cons hv .nil
    | cons a kvs ih => cases r with | cons h r => exact .cons h (ih r)
  intro kvs kds kk v d r hv
  unfold putK putD
  rw [any (kk := kk) r]
  split
  · exact mp r hv
  · exact sn r hv
theorem RepK.merge : ∀ {more : List (Key × V)} {mds : List (Key × D)} {kvs : List (Key × V)} {kds : List (Key × D)}, RepK K M more mds → RepK K M kvs kds → RepK K M (mergeK kvs more) (mergeD kds mds) := by
  intro more
  induction more with
  | nil => intro mds kvs kds r q; cases r; exact q
  | cons a more ih =>
    intro mds kvs kds r q
    cases r with
    | @cons kk _ _ _ _ h r =>
      have z := ih r (q.put (kk := kk) h)
      exact z
theorem pairs_rep (g : Good M H) : ∀ {vs : List V} {ds : List D} {kds : List (Key × D)}, RepL K M vs ds → pairsD ds = some kds → ∃ (ps : List Addr) (kvs : List (Key × V)), vs = ps.map V.ref ∧ Paired (fun p kv => SqT K H p [kV kv.1, kv.2]) ps kvs ∧ RepK K M kvs kds
  | _, _, _, .nil, e => by cases e; exact ⟨[], [], rfl, .nil, .nil⟩
  | v :: vs, d :: ds, kds, .cons h r, e => by
    unfold pairsD at e
    split at e
    · rename_i e0; cases e0
    · rename_i k0 v0 r0 e0
      cases e0
      cases e1 : keyD k0 with
      | none => rw [e1] at e; cases e
      | some kk =>
        rw [e1, Option.bind_some] at e
        cases e2 : pairsD ds with
        | none => rw [e2] at e; cases e
        | some kr =>
          rw [e2] at e
          cases e
          obtain ⟨ps, kvs, q1, q2, q3⟩ := pairs_rep g r e2
          cases h with
          | @tup a us _ h1 rl =>
            obtain ⟨x, y, rfl, hx, hy⟩ := rep2 rl
            have ek := keyD_rep hx e1
            subst ek q1
            exact ⟨a :: ps, (kk, y) :: kvs, rfl, .cons (sqT_mono g.le h1) q2, .cons hy q3⟩
    · cases e
theorem opr_bi {k : Nat} (C : Calm X k) (b : Bi) : CallR X b.val (pC X.K (biD b)) := by
  cases b with
  | len => exact call_imp call_len fun xs H Q h => bi_len h
  | repr => exact opr_repr C
  | abs =>
    refine call_imp call_abs fun xs H Q h => ?_
    obtain ⟨M, ds, z, g, r, hz, post⟩ := h
    simp only [biD, biAbs] at hz
    split at hz
    · cases hz
      obtain ⟨x, rfl, hx⟩ := rep1 r
      cases hx
      exact ⟨_, rfl, post.here g (.int _)⟩
    · cases hz
  | max =>
    refine call_imp (call_max2 C.c) fun xs H Q h => ?_
    obtain ⟨M, ds, z, g, r, hz, post⟩ := h
    simp only [biD, biMax] at hz
    split at hz
    · cases hz
      obtain ⟨x, y, rfl, hx, hy⟩ := rep2 r
      cases hx; cases hy
      exact ⟨_, _, rfl, post.here g (.int _)⟩
    · cases hz
  | min =>
    refine call_imp (call_min2 C.c) fun xs H Q h => ?_
    obtain ⟨M, ds, z, g, r, hz, post⟩ := h
    simp only [biD, biMin] at hz
    split at hz
    · cases hz
      obtain ⟨x, y, rfl, hx, hy⟩ := rep2 r
      cases hx; cases hy
      exact ⟨_, _, rfl, post.here g (.int _)⟩
    · cases hz
  | int =>
    refine call_imp call_int1 fun xs H Q h => ?_
    obtain ⟨M, ds, z, g, r, hz, post⟩ := h
    simp only [biD, biInt] at hz
    split at hz
    · cases hz
      obtain ⟨x, rfl, hx⟩ := rep1 r
      cases hx
      exact .inl ⟨_, rfl, post.here g (.int _)⟩
    · cases hz
      obtain ⟨x, rfl, hx⟩ := rep1 r
      cases hx
      exact .inr ⟨_, rfl, post.here g (.int _)⟩
    · cases hz
  | sum =>
    refine call_imp (cr_sum C.c) fun xs H Q h => ?_
    obtain ⟨M, ds, z, g, r, hz, post⟩ := h
    simp only [biD, biSum] at hz
    split at hz
    · rename_i ys
      obtain ⟨x, rfl, hx⟩ := rep1 r
      cases e : intsD ys with
      | none => rw [e] at hz; cases hz
      | some ns =>
        rw [e] at hz; cases hz
        cases hx with
        | lst h1 r1 =>
          rw [ints_of r1 e] at h1
          exact ⟨_, ns, rfl, SqL.of (g.le _ _ h1), post.here g (.int _)⟩
    · cases hz
  | all =>
    refine call_imp (cr_all C.c) fun xs H Q h => ?_
    obtain ⟨M, ds, z, g, r, hz, post⟩ := h
    simp only [biD, biAll] at hz
    split at hz
    · rename_i ys
      obtain ⟨x, rfl, hx⟩ := rep1 r
      cases e : boolsD ys with
      | none => rw [e] at hz; cases hz
      | some ns =>
        rw [e] at hz; cases hz
        cases hx with
        | lst h1 r1 =>
          rw [bools_of r1 e] at h1
          exact ⟨_, ns, rfl, SqL.of (g.le _ _ h1), post.here g (.bl _)⟩
    · cases hz
  | any =>
    refine call_imp (cr_any C.c) fun xs H Q h => ?_
    obtain ⟨M, ds, z, g, r, hz, post⟩ := h
    simp only [biD, biAny] at hz
    split at hz
    · rename_i ys
      obtain ⟨x, rfl, hx⟩ := rep1 r
      cases e : boolsD ys with
      | none => rw [e] at hz; cases hz
      | some ns =>
        rw [e] at hz; cases hz
        cases hx with
        | lst h1 r1 =>
          rw [bools_of r1 e] at h1
          exact ⟨_, ns, rfl, SqL.of (g.le _ _ h1), post.here g (.bl _)⟩
    · cases hz
  | list =>
    refine call_imp call_list_of fun xs H Q h => ?_
    obtain ⟨M, ds, z, g, r, hz, post⟩ := h
    simp only [biD, biList] at hz
    split at hz
    · cases hz
      obtain ⟨x, rfl, hx⟩ := rep1 r
      cases hx with
      | lst h1 r1 => exact ⟨_, _, rfl, .inl (SqL.of (g.le _ _ h1)), post.newL g r1⟩
    · cases hz
      obtain ⟨x, rfl, hx⟩ := rep1 r
      cases hx with
      | tup h1 r1 => exact ⟨_, _, rfl, .inr (sqT_mono g.le h1), post.newL g r1⟩
    · cases hz
  | tuple =>
    refine call_imp call_tuple_of fun xs H Q h => ?_
    obtain ⟨M, ds, z, g, r, hz, post⟩ := h
    simp only [biD, biTuple] at hz
    split at hz
    · cases hz
      obtain ⟨x, rfl, hx⟩ := rep1 r
      cases hx with
      | lst h1 r1 => exact ⟨_, _, rfl, .inl ⟨SqL.of (g.le _ _ h1), post.newT g r1⟩⟩
    · cases hz
      obtain ⟨x, rfl, hx⟩ := rep1 r
      cases hx with
      | tup h1 r1 => exact ⟨_, _, rfl, .inr ⟨sqT_mono g.le h1, post.here g (.tup h1 r1)⟩⟩
    · cases hz
  | sorted => exact opr_sorted C
  | dict =>
    refine call_imp (call_dictP C.c) fun xs H Q h => ?_
    obtain ⟨M, ds, z, g, r, hz, post⟩ := h
    simp only [biD, biDict] at hz
    split at hz
    · rename_i ps
      obtain ⟨x, rfl, hx⟩ := rep1 r
      cases e : pairsD ps with
      | none => rw [e] at hz; cases hz
      | some kds =>
        rw [e] at hz; cases hz
        cases hx with
        | lst h1 r1 =>
          obtain ⟨as, kvs, q1, q2, q3⟩ := pairs_rep g r1 e
          rw [q1] at h1
          refine ⟨_, as, kvs, rfl, SqL.of (g.le _ _ h1), q2, fun p hp => ?_⟩
          have x := Ext.new (o := .dK (mergeK [] kvs)) g hp
          exact post _ _ _ x (.val (.dic upd_same ((q3.merge .nil).mono x.le)))
    · cases hz
  | divmod =>
    refine call_imp call_divmod fun xs H Q h => ?_
    obtain ⟨M, ds, z, g, r, hz, post⟩ := h
    simp only [biD, biDivmod] at hz
    split at hz
    · split at hz
      · rename_i hc
        cases hz
        obtain ⟨x, y, rfl, hx, hy⟩ := rep2 r
        cases hx; cases hy
        exact ⟨_, _, rfl, hc, post.newT g (.cons (.int _) (.cons (.int _) .nil))⟩
      · cases hz
    · cases hz
  | str =>
    refine call_imp (CallR.or call_str_int SkE.call_str_str) fun xs H Q h => ?_
    obtain ⟨M, ds, z, g, r, hz, post⟩ := h
    simp only [biD, biStr] at hz
    split at hz
    · split at hz
      · rename_i hc
        cases hz
        obtain ⟨x, rfl, hx⟩ := rep1 r
        cases hx
        exact .inl ⟨_, rfl, hc, post.here g (.str _)⟩
      · cases hz
    · cases hz
      obtain ⟨x, rfl, hx⟩ := rep1 r
      cases hx
      exact .inr ⟨_, rfl, post.here g (.str _)⟩
    · cases hz
end
end PL
set_option maxHeartbeats 3900000
/-! PLf: expressions keep what they come to -/
namespace PL
open PySem L2

/-- how an error stands: its class, its own dict -/
def RepX (mg : Str → Option Value) (x : Xc) (cls : Value) (d : Option Addr) : Prop := x.fs = [] ∧ d = none ∧ ∃ C, mg x.c = some (.ref C) ∧ cls = .ref C
/-- the reading of a piece of text, by what it comes to -/
def tP {al be : Type} (K : PySem.W.Frag) (mg : Str → Option Value) (W : WX) (wp : Env → (al → Env → Prop) → (Xc → Env → Prop) → Prop) (Rv : Gh → Hp → Env → St → Hp → be → al → Prop) : St → Hp → (be → Hp → Prop) → Prop := fun s H Q =>
  ∃ M Fr r Qd Ed, Sim K M Fr r s H ∧ wp r Qd Ed ∧ (∀ v H' M' r' z, Sim K M' Fr r' s H' → M.Le M' → Rv M' Fr r' s H' v z → Qd z r' → Q v H') ∧
    (∀ x H' M' r' cls d, Sim K M' Fr r' s H' → M.Le M' → RepX mg x cls d → Ed x r' → W cls d s H')
section
variable (X : Cx) (P : Pg) (F : Fn) (W : WX)
def tE (e : Ex) : TE := tP X.K X.mg W (wE P F e) (RepV X.K)
def tT (e : Ex) : TT := tP X.K X.mg W (wT P F e) (fun _ _ _ _ _ b c => b = c)
def tTs (es : List Ex) : TT := tP X.K X.mg W (wTs P F es) (fun _ _ _ _ _ b c => b = c)
def tA (es : List Ex) : TA := tP X.K X.mg W (wEs P F es) (fun M _ _ _ _ vs ds => RepL X.K M vs ds)
def tO (e : Option Ex) : TO := tP X.K X.mg W (wO P F e) (fun _ _ _ _ _ b c => b = c)
end
theorem PE.imp {X : Cx} {e : Expr} {t t' : TE} (h : PE X e t) (m : ∀ s H Q, t' s H Q → t s H Q) : PE X e t' := ⟨fun pins s σ H Q I q => h.run pins s σ H Q I (m σ H Q q)⟩
theorem PT.imp {X : Cx} {e : Expr} {t t' : TT} (h : PT X e t) (m : ∀ s H Q, t' s H Q → t s H Q) : PT X e t' := ⟨fun pins s σ H Q I q => h.run pins s σ H Q I (m σ H Q q)⟩
theorem PW.imp {X : Cx} {e : Expr} {t t' : TT} (h : PW X e t) (m : ∀ s H Q, t' s H Q → t s H Q) : PW X e t' := ⟨fun wh pins s σ H Q I q => h.run wh pins s σ H Q I (m σ H Q q)⟩
theorem PA.imp {X : Cx} {e : List Expr} {t t' : TA} (h : PA X e t) (m : ∀ s H Q, t' s H Q → t s H Q) : PA X e t' := ⟨fun pos pins s σ H Q I q => h.run pos pins s σ H Q I (m σ H Q q)⟩
theorem PO.imp {X : Cx} {e : Option Expr} {t t' : TO} (h : PO X e t) (m : ∀ s H Q, t' s H Q → t s H Q) : PO X e t' := ⟨fun pins s σ H Q I q => h.run pins s σ H Q I (m σ H Q q)⟩

section
variable {X : Cx} {P : Pg} {F : Fn} {W : WX} {k : Nat} {a b c : Expr} {a' b' c' : Ex} {pos : Pos}

/-! ### names, constants -/
theorem se_var {i : Nat} {x : Str} (hN : X.N[i]? = some x) (hv : Vis X.env.scope x) (hd : (x == ("__debug__" : Str)) = false) (hcd : (x == ("__classdict__" : Str)) = false) : PE X (.Name x pos) (tE X P F W (.var i)) :=
  PE.imp (pe_var hN hv hd hcd) fun s H Q h => by
    obtain ⟨M, Fr, r, Qd, Ed, S, w, post, exc⟩ := h
    simp only [wE] at w
    obtain ⟨v, M', r', d, e, S', le, rp, q⟩ := S.read w
    exact ⟨v, e, post v H M' r' _ S' le (.val rp) q⟩
theorem tE_cst {d : D} {v : V} {s : St} {H : Hp} {Q : VK} (hv : ∀ M, Rep X.K M v d) (h : tE X P F W (.cst d) s H Q) : Q v H := by
  obtain ⟨M, Fr, r, Qd, Ed, S, w, post, exc⟩ := h
  simp only [wE] at w
  exact post v H M r _ S (.refl M) (.val (hv M)) w
theorem se_int {i : Int} {j : Nat} : PE X (.Constant (.int i) j pos) (tE X P F W (.cst (.int i))) := PE.imp pe_int fun s H Q h => tE_cst (fun _ => .int i) h
theorem se_bl {i : Bool} {j : Nat} : PE X (.Constant (.bool i) j pos) (tE X P F W (.cst (.bl i))) := PE.imp pe_bl fun s H Q h => tE_cst (fun _ => .bl i) h
theorem se_non {j : Nat} : PE X (.Constant .none j pos) (tE X P F W (.cst .non)) := PE.imp pe_non fun s H Q h => tE_cst (fun _ => .non) h
theorem se_str {i : Str} {j : Nat} : PE X (.Constant (.str i) j pos) (tE X P F W (.cst (.str i))) := PE.imp pe_str fun s H Q h => tE_cst (fun _ => .str i) h
/-- a constant of the module -/
theorem se_glo {x : Str} {n : Nat} {d : D} {u : Value} {v : V} (hg : Gl X x) (hm : X.mg x = some u) (rv : RelV v u) (hd : (x == ("__debug__" : Str)) = false) (hG : P.G n = some d) (rp : ∀ M, Rep X.K M v d) : PE X (.Name x pos) (tE X P F W (.glo n)) :=
  PE.imp (pe_glob hg hm rv hd) fun s H Q h => by
    obtain ⟨M, Fr, r, Qd, Ed, S, w, post, exc⟩ := h
    simp only [wE] at w
    obtain ⟨d', e, w⟩ := w
    rw [hG] at e; cases e
    exact post v H M r _ S (.refl M) (.val (rp M)) w

/-! ### two in a row -/
/-- the wish behind a piece: it goes on -/
theorem step2 {al : Type} {Rv : Gh → Hp → Env → St → Hp → al → al → Prop} {s : St} {H : Hp} {Q : V → V → Hp → Prop} {g : D → D → R → Prop} {Qo : R → Env → Prop}
    {M : Gh} {Fr : Hp} {r : Env} {Ed : Xc → Env → Prop} (S : Sim X.K M Fr r s H) (w : wE P F a' r (fun x r1 => wE P F b' r1 (fun y r2 => ∃ z, g x.d y.d z ∧ Qo z r2) Ed) Ed)
    (exc : ∀ x H' M' r' cls d, Sim X.K M' Fr r' s H' → M.Le M' → RepX X.mg x cls d → Ed x r' → W cls d s H')
    (q : ∀ x y M2 r2 H2 dx dy z, Sim X.K M2 Fr r2 s H2 → M.Le M2 → Rep X.K M2 x dx → Rep X.K M2 y dy → g dx dy z → Qo z r2 → Q x y H2) :
    tE X P F W a' s H (fun x H1 => tE X P F W b' s H1 (fun y H2 => Q x y H2)) := by
  refine ⟨M, Fr, r, _, Ed, S, w, fun v H1 M1 r1 z S1 le1 rv wb => ?_, exc⟩
  obtain ⟨M1', S1', le1', rp1⟩ := S1.freeze rv
  refine ⟨M1', Fr, r1, _, Ed, S1', wb, fun v2 H2 M2 r2 z2 S2 le2 rv2 hq => ?_, fun x H' M' r' cls d S' le' rx e => exc x H' M' r' cls d S' ((le1.trans le1').trans le') rx e⟩
  obtain ⟨z', hz, q'⟩ := hq
  obtain ⟨M2', S2', le2', rp2⟩ := S2.freeze rv2
  exact q v v2 M2' r2 H2 _ _ z' S2' ((le1.trans le1').trans (le2.trans le2')) (rp1.mono (le2.trans le2')) rp2 hz q'
theorem tE_op {f : D → D → Option R} {s : St} {H : Hp} {Q : VK} (h : tP X.K X.mg W (fun r Q E => wE P F a' r (fun x r1 => wE P F b' r1 (fun y r2 => ∃ z, f x.d y.d = some z ∧ Q z r2) E) E) (RepV X.K) s H Q) : tOp (pOp X.K f) (tE X P F W a') (tE X P F W b') s H Q := by
  obtain ⟨M, Fr, r, Qd, Ed, S, w, post, exc⟩ := h
  refine step2 (al := Unit) (Rv := fun _ _ _ _ _ _ _ => True) (g := fun x y z => f x y = some z) S w exc fun x y M2 r2 H2 dx dy z S2 le rx ry hz q => ?_
  exact ⟨M2, dx, dy, z, S2.good, rx, ry, hz, fun v H' M' x' rr => post v H' M' r2 z (S2.ext x') (le.trans x'.le) (rr.repV S2 x') q⟩
theorem se_bin {o : Op} (ha : PE X a (tE X P F W a')) (hb : PE X b (tE X P F W b')) : PE X (.BinOp a o.py b pos) (tE X P F W (.bin o a' b')) :=
  PE.imp (pe_op (opr_bin o) ha hb) fun s H Q h => by
    obtain ⟨M, Fr, r, Qd, Ed, S, w, post, exc⟩ := h
    simp only [wE] at w
    exact tE_op ⟨M, Fr, r, Qd, Ed, S, w, post, exc⟩
theorem tE_cmR {o : Cm} {s : St} {H : Hp} {Q : VK} (h : tE X P F W (.cmp o a' b') s H Q) : tOp (pOp X.K (cmR o)) (tE X P F W a') (tE X P F W b') s H Q := by
  refine tE_op ?_
  obtain ⟨M, Fr, r, Qd, Ed, S, w, post, exc⟩ := h
  simp only [wE] at w
  refine ⟨M, Fr, r, Qd, Ed, S, ?_, post, exc⟩
  have e : ∀ (x y : D) (r2 : Env), (∃ z, cmD o x y = some z ∧ Qd (.val (.bl z)) r2) ↔ ∃ z, cmR o x y = some z ∧ Qd z r2 := fun x y r2 => by
    unfold cmR
    cases cmD o x y with
    | none => simp
    | some b => simp
  simp only [e] at w
  exact w
theorem se_cmp {o : Cm} (C : Calm X k) (ha : PE X a (tE X P F W a')) (hb : PE X b (tE X P F W b')) (hm : behindInMarks o.py b = false) : PE X (.Compare a [o.py] [b] pos) (tE X P F W (.cmp o a' b')) :=
  PE.imp (pe_cmpR (opr_cm C.r o) ha hb hm) fun s H Q h => tE_cmR h
theorem se_ix (C : Calm X k) (ha : PE X a (tE X P F W a')) (hb : PE X b (tE X P F W b')) (hs : PlainIx b) : PE X (.Subscript a b pos) (tE X P F W (.ix a' b')) :=
  PE.imp (pe_ix (opr_ix (by have := C.r.units; omega)) ha hb hs) fun s H Q h => by
    refine tE_op ?_
    obtain ⟨M, Fr, r, Qd, Ed, S, w, post, exc⟩ := h
    simp only [wE] at w
    refine ⟨M, Fr, r, Qd, Ed, S, ?_, post, exc⟩
    have e : ∀ (x y : D) (r2 : Env), (∃ z, ixD x y = some z ∧ Qd (.val z) r2) ↔ ∃ z, ixR x y = some z ∧ Qd z r2 := fun x y r2 => by
      unfold ixR
      cases ixD x y with
      | none => simp
      | some b => simp
    simp only [e] at w
    exact w
/-- one operand -/
theorem step1 {s : St} {H : Hp} {Q : V → Hp → Prop} {Qo : R → Env → Prop} {M : Gh} {Fr : Hp} {r : Env} {Ed : Xc → Env → Prop} (S : Sim X.K M Fr r s H) (w : wE P F a' r Qo Ed)
    (exc : ∀ x H' M' r' cls d, Sim X.K M' Fr r' s H' → M.Le M' → RepX X.mg x cls d → Ed x r' → W cls d s H')
    (q : ∀ x M1 r1 H1 z, Sim X.K M1 Fr r1 s H1 → M.Le M1 → Rep X.K M1 x z.d → Qo z r1 → Q x H1) : tE X P F W a' s H Q := by
  refine ⟨M, Fr, r, _, Ed, S, w, fun v H1 M1 r1 z S1 le1 rv wb => ?_, exc⟩
  obtain ⟨M1', S1', le1', rp1⟩ := S1.freeze rv
  exact q v M1' r1 H1 z S1' (le1.trans le1') rp1 wb
theorem se_neg (ha : PE X a (tE X P F W a')) : PE X (.UnaryOp .USub a pos) (tE X P F W (.neg a')) :=
  PE.imp (pe_un un_neg ha) fun s H Q h => by
    obtain ⟨M, Fr, r, Qd, Ed, S, w, post, exc⟩ := h
    simp only [wE] at w
    refine step1 S w exc fun x M1 r1 H1 z S1 le rx hq => ?_
    obtain ⟨i, e, q⟩ := hq
    rw [e] at rx
    cases rx
    exact ⟨i, rfl, post _ H1 M1 r1 _ S1 le (.val (.int _)) q⟩
theorem se_chn {o p : Cm} (C : Calm X k) (ha : PE X a (tE X P F W a')) (hb : PE X b (tE X P F W b')) (hc : PE X c (tE X P F W c')) (hm : lastMarks [o.py, p.py] [b, c] = false) :
    PE X (.Compare a [o.py, p.py] [b, c] pos) (tE X P F W (.chn o p a' b' c')) :=
  PE.imp (pe_chain (opr_cm C.r o) (opr_cm C.r p) ha hb hc hm) fun s H Q h => by
    obtain ⟨M, Fr, r, Qd, Ed, S, w, post, exc⟩ := h
    simp only [wE] at w
    refine step2 (al := Unit) (Rv := fun _ _ _ _ _ _ _ => True) (g := fun x y z => ∃ t, cmD o x y = some t ∧ z = .val (.tup [.bl t, y])) (Qo := fun z r2 => ∃ t y, z = .val (.tup [.bl t, y]) ∧ (if t = true then wE P F c' r2 (fun u r3 => ∃ z', cmD p y u.d = some z' ∧ Qd (.val (.bl z')) r3) Ed else Qd (.val (.bl false)) r2)) S ?_ exc ?_
    · have e : ∀ (x y : R) (r2 : Env), (∃ z, cmD o x.d y.d = some z ∧ (if z = true then wE P F c' r2 (fun u r3 => ∃ z', cmD p y.d u.d = some z' ∧ Qd (.val (.bl z')) r3) Ed else Qd (.val (.bl false)) r2)) ↔
          ∃ z, (∃ t, cmD o x.d y.d = some t ∧ z = R.val (.tup [.bl t, y.d])) ∧ (∃ t y, z = R.val (.tup [.bl t, y]) ∧ (if t = true then wE P F c' r2 (fun u r3 => ∃ z', cmD p y u.d = some z' ∧ Qd (.val (.bl z')) r3) Ed else Qd (.val (.bl false)) r2)) := fun x y r2 => by
        constructor
        · rintro ⟨t, h1, h2⟩
          exact ⟨_, ⟨t, h1, rfl⟩, t, y.d, rfl, h2⟩
        · rintro ⟨z, ⟨t, h1, rfl⟩, t', y', h2, h3⟩
          simp only [R.val.injEq, D.tup.injEq, List.cons.injEq, D.bl.injEq, and_true] at h2
          obtain ⟨rfl, rfl⟩ := h2
          exact ⟨t, h1, h3⟩
      simp only [e] at w
      exact w
    · rintro x y M2 r2 H2 dx dy z S2 le rx ry ⟨t, ho, hz⟩ ⟨t', y', hz', hq⟩
      rw [hz] at hz'
      simp only [R.val.injEq, D.tup.injEq, List.cons.injEq, D.bl.injEq, and_true] at hz'
      obtain ⟨rfl, rfl⟩ := hz'
      refine ⟨M2, dx, dy, .val (.bl t), S2.good, rx, ry, by unfold cmR; rw [ho]; rfl, fun v H' M' x' rr => ?_⟩
      cases rr with
      | val rr =>
        cases rr
        refine ⟨t, rfl, ?_⟩
        have S3 := S2.ext x'
        have le3 := le.trans x'.le
        cases t with
        | false =>
          simp only [Bool.false_eq_true, if_false] at hq ⊢
          exact post _ _ M' r2 _ S3 le3 (.val (.bl _)) hq
        | true =>
          simp only [if_true] at hq ⊢
          refine step1 S3 hq (fun x H' M' r' cls d S' le' rx e => exc x H' M' r' cls d S' (le3.trans le') rx e) fun u M4 r4 H4 z4 S4 le4 ru hq4 => ?_
          obtain ⟨z', hz', q⟩ := hq4
          exact ⟨M4, dy, z4.d, .val (.bl z'), S4.good, (ry.mono x'.le).mono le4, ru, by unfold cmR; rw [hz']; rfl, fun v H' M' x' rr => post v H' M' r4 _ (S4.ext x') ((le3.trans le4).trans x'.le) (rr.repV S4 x') q⟩
theorem se_and {rest : List Expr} (ha : PE X a (tE X P F W a')) (hb : PE X (.BoolOp .And (b :: rest) pos) (tE X P F W b')) : PE X (.BoolOp .And (a :: b :: rest) pos) (tE X P F W (.and a' b')) :=
  PE.imp (pe_andT ha hb) fun s H Q h => by
    obtain ⟨M, Fr, r, Qd, Ed, S, w, post, exc⟩ := h
    simp only [wE] at w
    refine step1 S w exc fun x M1 r1 H1 z S1 le rx hq => ?_
    obtain ⟨t, e, q⟩ := hq
    refine ⟨t, tru_road S1.good rx e, ?_⟩
    cases t with
    | false =>
      simp only [Bool.false_eq_true, if_false] at q ⊢
      exact post _ _ M1 r1 _ S1 le (.val rx) q
    | true =>
      simp only [if_true] at q ⊢
      exact ⟨M1, Fr, r1, _, _, S1, q, fun v H' M' r' z S' le' => post v H' M' r' z S' (le.trans le'), fun x H' M' r' cls d S' le' => exc x H' M' r' cls d S' (le.trans le')⟩
theorem se_or {rest : List Expr} (ha : PE X a (tE X P F W a')) (hb : PE X (.BoolOp .Or (b :: rest) pos) (tE X P F W b')) : PE X (.BoolOp .Or (a :: b :: rest) pos) (tE X P F W (.or a' b')) :=
  PE.imp (pe_orT ha hb) fun s H Q h => by
    obtain ⟨M, Fr, r, Qd, Ed, S, w, post, exc⟩ := h
    simp only [wE] at w
    refine step1 S w exc fun x M1 r1 H1 z S1 le rx hq => ?_
    obtain ⟨t, e, q⟩ := hq
    refine ⟨t, tru_road S1.good rx e, ?_⟩
    cases t with
    | true =>
      simp only [if_true] at q ⊢
      exact post _ _ M1 r1 _ S1 le (.val rx) q
    | false =>
      simp only [Bool.false_eq_true, if_false] at q ⊢
      exact ⟨M1, Fr, r1, _, _, S1, q, fun v H' M' r' z S' le' => post v H' M' r' z S' (le.trans le'), fun x H' M' r' cls d S' le' => exc x H' M' r' cls d S' (le.trans le')⟩
theorem se_not (ha : PE X a (tE X P F W a')) : PE X (.UnaryOp .Not a pos) (tE X P F W (.not a')) :=
  PE.imp (pe_notT ha) fun s H Q h => by
    obtain ⟨M, Fr, r, Qd, Ed, S, w, post, exc⟩ := h
    simp only [wE] at w
    refine step1 S w exc fun x M1 r1 H1 z S1 le rx hq => ?_
    obtain ⟨t, e, q⟩ := hq
    exact ⟨t, tru_road S1.good rx e, post _ _ M1 r1 _ S1 le (.val (.bl _)) q⟩

/-! ### tests -/
/-- any text whose test is its value's truth -/
theorem st_val (hw : ∀ r Q E, wT P F a' r Q E → wE P F a' r (fun x r1 => ∃ k, truD x.d = some k ∧ Q k r1) E) (ha : PE X a (tE X P F W a'))
    (he : ∀ whole, isTrue a X.env whole = (do let v ← whole; standAt a.pos; holding [v] (truthy v))) : PT X a (tT X P F W a') :=
  PT.imp (pt_truth ha he) fun s H Q h => by
    obtain ⟨M, Fr, r, Qd, Ed, S, w, post, exc⟩ := h
    refine step1 S (hw _ _ _ w) exc fun x M1 r1 H1 z S1 le rx hq => ?_
    obtain ⟨t, e, q⟩ := hq
    exact ⟨t, tru_road S1.good rx e, post _ _ M1 r1 _ S1 le rfl q⟩
theorem st_cmp {o : Cm} (C : Calm X k) (ha : PE X a (tE X P F W a')) (hb : PE X b (tE X P F W b')) (hm : behindInMarks o.py b = false) : PT X (.Compare a [o.py] [b] pos) (tT X P F W (.cmp o a' b')) :=
  PT.imp (pt_cmpR (opr_cm C.r o) ha hb hm) fun s H Q h => by
    refine tE_cmR (Q := fun x H' => ∃ k, x = .bl k ∧ Q k H') ?_
    obtain ⟨M, Fr, r, Qd, Ed, S, w, post, exc⟩ := h
    simp only [wT, wE, R.d, truD] at w
    refine ⟨M, Fr, r, (fun x r1 => ∃ k, x = .val (.bl k) ∧ Qd k r1), Ed, S, ?_, fun v H' M' r' z S' le rv hq => ?_, exc⟩
    · simp only [wE]
      have e : ∀ (x y : D) (r : Env), (∃ z, cmD o x y = some z ∧ ∃ k, some z = some k ∧ Qd k r) ↔ ∃ z, cmD o x y = some z ∧ ∃ k, R.val (.bl z) = .val (.bl k) ∧ Qd k r := fun x y r => by simp
      simp only [e] at w
      exact w
    · obtain ⟨t, rfl, q⟩ := hq
      cases rv with
      | val rv => cases rv; exact ⟨t, rfl, post _ _ M' r' _ S' le rfl q⟩
end
end PL
set_option maxHeartbeats 3900000
/-! PLfr: a tuple from behind, a list from behind -/
namespace PL
open PySem PySem.Spec L2 PyProof.Rows HT
section
variable {prog : Program} {w : World} {A : Around} {E : Value → Shared → Prop} {s : Shared}
theorem rev_places (n : Nat) : Builtin.Slice.slicePlaces ((n : Int) - 1) (-1) (-1) = n := by
  unfold Builtin.Slice.slicePlaces
  rw [if_neg (by decide), show (- -1 : Int) = 1 by decide, Int.ediv_one]
  split <;> omega
theorem rev_pick (xs : Array Value) : ((List.range xs.size).filterMap fun (m : Nat) => xs[(((xs.size : Int) - 1) + (m : Int) * (-1)).toNat]?).toArray = xs.toList.reverse.toArray := by
  have e : (fun (m : Nat) => xs[(((xs.size : Int) - 1) + (m : Int) * (-1)).toNat]?) = (fun k => xs[k]?) ∘ fun m => xs.size - 1 - m := funext fun m => by
    have : (((xs.size : Int) - 1) + (m : Int) * (-1)).toNat = xs.size - 1 - m := by omega
    show xs[(((xs.size : Int) - 1) + (m : Int) * (-1)).toNat]? = xs[xs.size - 1 - m]?
    rw [this]
  rw [e, ← List.filterMap_map, PySem.W.krv_range, List.filterMap_reverse, PySem.W.krv_all]
theorem sliceApplied_rev {sl : Addr} {vs : Value} {n : Nat} {Q : Int × Int × Nat → Shared → Prop} (hs : s.heap.IsSliceOf sl .none .none vs) (ps : IsPart vs (some (-1)))
    (h : Q ((n : Int) - 1, -1, n) s) : wpAny (model prog w) A (Builtin.Slice.sliceApplied (.ref sl) (pure (n : Int))) Q E s := by
  obtain ⟨os, hos, hcs, hds⟩ := id hs
  unfold Builtin.Slice.sliceApplied Builtin.Slice.sliceFields
  refine wpAny_bind (wpAny_bind (wpAny_field hos hds (x := .none) rfl (wpAny_bind (wpAny_field hos hds (x := .none) rfl (wpAny_bind (wpAny_field hos hds (x := vs) rfl (wpAny_pure ?_)))))))
  refine wpAny_bind (slicePart_ ps ?_)
  show wpAny _ _ (if ((-1 : Int) == 0) = true then _ else _) _ _ s
  rw [if_neg (by decide)]
  refine wpAny_bind (slicePart_none (wpAny_bind (slicePart_none (wpAny_bind (wpAny_pure ?_)))))
  show wpAny _ _ (pure ((n : Int) - 1, (-1 : Int), Builtin.Slice.slicePlaces ((n : Int) - 1) (-1) (-1))) _ _ s
  rw [rev_places]
  exact wpAny_pure h
theorem getItem_tuple_rev {t sl : Addr} {items : Array Value} {vs : Value} {Q : Value → Shared → Prop} (ht : IsTup s.heap t items) (hs : s.heap.IsSliceOf sl .none .none vs) (ps : IsPart vs (some (-1)))
    (h : Q (.ref s.heap.objs.size) { s with heap := s.heap.push { cls := .type "tuple", data := .seq items.toList.reverse.toArray } })
    (hsz : items.size ≤ sizeLine) : wpAny (model prog w) A (getItem (.ref t) (.ref sl)) Q E s := by
  have htake : sizeOk (.seq items.toList.reverse.toArray) := by
    show items.toList.reverse.toArray.size ≤ sizeLine
    rw [List.size_toArray, List.length_reverse, Array.length_toList]
    exact hsz
  obtain ⟨os, hos, hcs, hds⟩ := id hs
  have hTs : s.TypeIs (.ref sl) "slice" := ⟨os, hos, hcs⟩
  unfold getItem
  try with_reducible refine wpAny_holding ?_
  first | refine wpAny_bind (wpAny_pure ?_) | skip
  refine wpAny_bind (wpAny_sequenceKey ht.typeIs (by decide) ?_)
  refine wpAny_bind (wpAny_callSpecial?_slot (name := Str.ofString "__getitem__") ht.typeIs PyProof.Rows.slot_tuple_getitem
    (wpAny_call_entry PyProof.Rows.slot_tuple_getitem ht.typeIs entry_tuple_getitem ?_ (args_tuple_getitem _ _)))
  show wpAny _ _ (Builtin.Tuple.tupleItemsOf (.ref t) >>= _) _ _ s
  refine wpAny_bind (tupleItemsOf_ ht ?_)
  refine wpAny_bind (wpAny_typeOf hTs ?_)
  rw [if_pos (by decide)]
  refine wpAny_bind (sliceApplied_rev hs ps ?_)
  have hno : ¬ ((((items.size : Int) - 1) == 0 && (-1 : Int) == 1 && items.size == items.size) = true) := by
    intro q
    rw [Bool.and_eq_true, Bool.and_eq_true] at q
    exact absurd q.1.2 (by decide)
  show wpAny _ _ (if (((items.size : Int) - 1) == 0 && (-1 : Int) == 1 && items.size == items.size) = true then _ else _) _ _ s
  rw [if_neg hno, rev_pick]
  first
    | exact wpAny_bind (m := Builtin.Tuple.tupleExact _) (wpAny_newObj_type (wpAny_pure ⟨_, rfl, wpAny_pure h⟩) htake)
    | exact wpAny_bind (m := Builtin.Tuple.tupleExact _) (wpAny_newObj_type (wpAny_bind (wpAny_pure (wpAny_pure ⟨_, rfl, wpAny_pure h⟩))) htake)
    | exact wpAny_bind (wpAny_bind (m := Builtin.Tuple.tupleExact _) (wpAny_newObj_type (wpAny_pure (wpAny_pure ⟨_, rfl, wpAny_pure h⟩)) htake))
    | exact wpAny_bind (wpAny_bind (m := Builtin.Tuple.tupleExact _) (wpAny_newObj_type (wpAny_pure ⟨_, rfl, wpAny_pure h⟩) htake))
end
section
variable {X : Cx}
def tRev2 (K : PySem.W.Frag) (te : TE) : TE := fun σ H Q => te σ H fun x H1 => ∃ a xs, x = .ref a ∧ ((SqL K H1 a xs ∧ ∀ p, H1 p = none → Q (.ref p) (upd H1 p (.lst xs.reverse))) ∨ (SqT K H1 a xs ∧ ∀ p, H1 p = none → Q (.ref p) (upd H1 p (.tup xs.reverse))))
theorem pe_rev2 {e : Expr} {te : TE} {k : Nat} {p1 p2 p3 pos : Pos} (he : PE X e te) : PE X (.Subscript e (.Slice none none (some (.UnaryOp .USub (.Constant (.int 1) k p1) p2)) p3) pos) (tRev2 X.K te) := by
  refine ⟨fun pins s σ H Q I h => ?_⟩
  refine Subscript_ (thn (he.run pins s σ H _ I h) fun v s1 ⟨x, H1, I1, r1, q1⟩ => ?_)
  obtain ⟨a, xs, ex, q1⟩ := q1
  subst ex
  cases r1
  have hst : PO X (some (.UnaryOp .USub (.Constant (.int 1) k p1) p2)) (tPart (tUn (rU fun i => .int (-i)) (tC (.int 1)))) := po_some (pe_un un_neg pe_int)
  refine wpAny_Slice (thn (po_none.run pins s1 σ H1 (fun o H2 => o = none ∧ H2 = H1) I1 ⟨rfl, rfl⟩) fun vl s2 ⟨l, H2, I2, pl, el, e2⟩ => ?_)
  subst el e2
  refine thn (po_none.run pins s2 σ H2 (fun o H3 => o = none ∧ H3 = H2) I2 ⟨rfl, rfl⟩) fun vu s3 ⟨u, H3, I3, pu, eu, e3⟩ => ?_
  subst eu e3
  refine thn (hst.run pins s3 σ H3 (fun o H4 => o = some (-1) ∧ H4 = H3) I3 ⟨1, rfl, -1, rfl, rfl, rfl⟩) fun vs s4 ⟨o, H4, I4, ps, eo, e4⟩ => ?_
  subst eo e4
  have I5 : Inv X pins σ H4 { s4 with heap := s4.heap.push { cls := .type "slice", data := .fields #[vl, vu, vs] } } := I4.kept (t' := s4.toks) fun b ob q => Heap.get?_push_of_some _ q
  show wpAny (model X.prog X.w) X.A (subscriptTail e (.Slice none none (some (.UnaryOp .USub (.Constant (.int 1) k p1) p2)) p3) (.ref a) (.ref s4.heap.objs.size)) (EP X pins σ Q) X.xe { s4 with heap := s4.heap.push { cls := .type "slice", data := .fields #[vl, vu, vs] } }
  rcases q1 with ⟨hx, q⟩ | ⟨hx, q⟩
  · obtain ⟨its, r, ht, hz⟩ := I5.list hx
    have hlen := r.length
    refine tail_any (ops := [.ref a, .ref s4.heap.objs.size]) ht.isList.typeIs (PySem.slot_list_getitem.lookup) ?_ (by with_unfolding_all rfl)
    refine wpAny_getItem_list_slice ht.isList (Heap.IsSliceOf.new _ vl vu vs) pl pu ps (by decide) ?_ (by rw [List.size_toArray]; omega)
    rw [PySem.W.krv_pick]
    refine ⟨.ref _, _, I5.laid (t' := s4.toks) (o := .lst xs.reverse) (fun b ob q => Heap.get?_push_of_some _ q) (Nat.le_refl _) ?_, rfl, q _ (I5.hok.fresh (Nat.le_refl _))⟩
    exact ⟨by rw [List.length_reverse]; exact hz, _, 0, r.reverse, Heap.get?_push_size _ rfl⟩
  · obtain ⟨its, r, ht, hz⟩ := I5.tuple hx
    have hlen := r.length
    cases pl
    cases pu
    have ht' : IsTup ({ s4 with heap := s4.heap.push { cls := .type "slice", data := .fields #[.none, .none, vs] } } : Shared).heap a its.toArray := ht
    refine tail_any (ops := [.ref a, .ref s4.heap.objs.size]) ht'.typeIs PyProof.Rows.slot_tuple_getitem.lookup ?_ (by with_unfolding_all rfl)
    refine getItem_tuple_rev ht' (Heap.IsSliceOf.new _ .none .none vs) ps ?_ (by rw [List.size_toArray]; omega)
    refine ⟨.ref _, _, I5.laid (t' := s4.toks) (o := .tup xs.reverse) (fun b ob q => Heap.get?_push_of_some _ q) (Nat.le_refl _) ?_, rfl, q _ (I5.hok.fresh (Nat.le_refl _))⟩
    exact ⟨by rw [List.length_reverse]; exact hz, _, r.reverse, ⟨_, Heap.get?_push_size _ rfl, rfl, _, rfl⟩⟩
end
end PL
set_option maxHeartbeats 3900000
/-! PLg: tests, displays, calls of built-ins -/
namespace PL
open PySem L2
section
variable {X : Cx} {P : Pg} {F : Fn} {W : WX} {k : Nat} {a b c : Expr} {a' b' c' : Ex} {pos : Pos}
/-- a piece goes on from a later place -/
theorem tP_at {al be : Type} {K : PySem.W.Frag} {mg : Str → Option Value} {wp : Env → (al → Env → Prop) → (Xc → Env → Prop) → Prop} {Rv : Gh → Hp → Env → St → Hp → be → al → Prop} {M M1 : Gh} {Fr : Hp} {r : Env} {s : St} {H : Hp} {Qd : al → Env → Prop} {Ed : Xc → Env → Prop} {Q : be → Hp → Prop}
    (S : Sim K M1 Fr r s H) (le : M.Le M1) (w : wp r Qd Ed) (post : ∀ v H' M' r' z, Sim K M' Fr r' s H' → M.Le M' → Rv M' Fr r' s H' v z → Qd z r' → Q v H')
    (exc : ∀ x H' M' r' cls d, Sim K M' Fr r' s H' → M.Le M' → RepX mg x cls d → Ed x r' → W cls d s H') : tP K mg W wp Rv s H Q :=
  ⟨M1, Fr, r, Qd, Ed, S, w, fun v H' M' r' z S' le' => post v H' M' r' z S' (le.trans le'), fun x H' M' r' cls d S' le' => exc x H' M' r' cls d S' (le.trans le')⟩
theorem stepT {s : St} {H : Hp} {Q : Bool → Hp → Prop} {Qo : Bool → Env → Prop} {M : Gh} {Fr : Hp} {r : Env} {Ed : Xc → Env → Prop} (S : Sim X.K M Fr r s H) (w : wT P F a' r Qo Ed)
    (exc : ∀ x H' M' r' cls d, Sim X.K M' Fr r' s H' → M.Le M' → RepX X.mg x cls d → Ed x r' → W cls d s H')
    (q : ∀ x M1 r1 H1, Sim X.K M1 Fr r1 s H1 → M.Le M1 → Qo x r1 → Q x H1) : tT X P F W a' s H Q :=
  ⟨M, Fr, r, _, Ed, S, w, fun v H1 M1 r1 z S1 le1 rv wb => by cases rv; exact q v M1 r1 H1 S1 le1 wb, exc⟩
theorem stepA {es : List Ex} {s : St} {H : Hp} {Q : List V → Hp → Prop} {Qo : List D → Env → Prop} {M : Gh} {Fr : Hp} {r : Env} {Ed : Xc → Env → Prop} (S : Sim X.K M Fr r s H) (w : wEs P F es r Qo Ed)
    (exc : ∀ x H' M' r' cls d, Sim X.K M' Fr r' s H' → M.Le M' → RepX X.mg x cls d → Ed x r' → W cls d s H')
    (q : ∀ vs ds M1 r1 H1, Sim X.K M1 Fr r1 s H1 → M.Le M1 → RepL X.K M1 vs ds → Qo ds r1 → Q vs H1) : tA X P F W es s H Q :=
  ⟨M, Fr, r, _, Ed, S, w, fun v H1 M1 r1 z S1 le1 rv wb => q v z M1 r1 H1 S1 le1 rv wb, exc⟩

/-! ### and, or, not as tests -/
theorem sw_and1 (ha : PT X a (tT X P F W a')) : PW X (.BoolOp .And [a] pos) (tT X P F W a') := pw_and1 ha
theorem sw_or1 (ha : PT X a (tT X P F W a')) : PW X (.BoolOp .Or [a] pos) (tT X P F W a') := pw_or1 ha
theorem sw_and {rest : List Expr} (ha : PT X a (tT X P F W a')) (hb : PW X (.BoolOp .And (b :: rest) pos) (tT X P F W b')) : PW X (.BoolOp .And (a :: b :: rest) pos) (tT X P F W (.and a' b')) :=
  PW.imp (pw_and ha hb) fun s H Q h => by
    obtain ⟨M, Fr, r, Qd, Ed, S, w, post, exc⟩ := h
    simp only [wT] at w
    refine stepT S w exc fun t M1 r1 H1 S1 le q => ?_
    cases t with
    | false =>
      simp only [Bool.false_eq_true, if_false] at q ⊢
      exact post _ _ M1 r1 _ S1 le rfl q
    | true =>
      simp only [if_true] at q ⊢
      exact tP_at S1 le q post exc
theorem sw_or {rest : List Expr} (ha : PT X a (tT X P F W a')) (hb : PW X (.BoolOp .Or (b :: rest) pos) (tT X P F W b')) : PW X (.BoolOp .Or (a :: b :: rest) pos) (tT X P F W (.or a' b')) :=
  PW.imp (pw_or ha hb) fun s H Q h => by
    obtain ⟨M, Fr, r, Qd, Ed, S, w, post, exc⟩ := h
    simp only [wT] at w
    refine stepT S w exc fun t M1 r1 H1 S1 le q => ?_
    cases t with
    | true =>
      simp only [if_true] at q ⊢
      exact post _ _ M1 r1 _ S1 le rfl q
    | false =>
      simp only [Bool.false_eq_true, if_false] at q ⊢
      exact tP_at S1 le q post exc
theorem st_not (ha : PT X a (tT X P F W a')) : PT X (.UnaryOp .Not a pos) (tT X P F W (.not a')) :=
  PT.imp (pt_not ha) fun s H Q h => by
    obtain ⟨M, Fr, r, Qd, Ed, S, w, post, exc⟩ := h
    simp only [wT] at w
    exact stepT S w exc fun t M1 r1 H1 S1 le q => post _ _ M1 r1 _ S1 le rfl q
theorem se_ifx (hc : PT X c (tT X P F W c')) (ha : PE X a (tE X P F W a')) (hb : PE X b (tE X P F W b')) : PE X (.IfExp c a b pos) (tE X P F W (.ifx c' a' b')) :=
  PE.imp (pe_ifExp hc ha hb) fun s H Q h => by
    obtain ⟨M, Fr, r, Qd, Ed, S, w, post, exc⟩ := h
    simp only [wE] at w
    refine stepT S w exc fun t M1 r1 H1 S1 le q => ?_
    cases t with
    | true =>
      simp only [if_true] at q ⊢
      exact tP_at S1 le q post exc
    | false =>
      simp only [Bool.false_eq_true, if_false] at q ⊢
      exact tP_at S1 le q post exc

/-! ### arguments, displays -/
theorem sa_nil : PA X [] (tA X P F W []) := PA.imp pa_nil fun s H Q h => by
  obtain ⟨M, Fr, r, Qd, Ed, S, w, post, exc⟩ := h
  simp only [wEs] at w
  exact post _ _ M r _ S (.refl M) .nil w
theorem sa_cons {es : List Expr} {es' : List Ex} (ha : PE X a (tE X P F W a')) (hr : PA X es (tA X P F W es')) (hs : starEach (a :: es) X.env = (false, eval a X.env) :: starEach es X.env) : PA X (a :: es) (tA X P F W (a' :: es')) :=
  PA.imp (pa_cons ha hr hs) fun s H Q h => by
    obtain ⟨M, Fr, r, Qd, Ed, S, w, post, exc⟩ := h
    simp only [wEs] at w
    refine step1 S w exc fun x M1 r1 H1 z S1 le rx q => ?_
    refine stepA S1 q (fun x H' M' r' cls d S' le' => exc x H' M' r' cls d S' (le.trans le')) fun vs ds M2 r2 H2 S2 le2 rl q2 => ?_
    exact post _ _ M2 r2 _ S2 (le.trans le2) (.cons (rx.mono le2) rl) q2
theorem se_tup {es : List Expr} {es' : List Ex} {x1 : Nat} (h : PA X es (tA X P F W es')) : PE X (.Tuple es x1 pos) (tE X P F W (.tup es')) :=
  PE.imp (pe_tup h) fun s H Q h => by
    obtain ⟨M, Fr, r, Qd, Ed, S, w, post, exc⟩ := h
    simp only [wE] at w
    refine stepA S w exc fun vs ds M1 r1 H1 S1 le rl q => ?_
    refine ⟨by rw [rl.length, ← lim_eq]; exact q.1, fun p hp => ?_⟩
    have x := Ext.new (o := .tup vs) S1.good hp
    exact post _ _ _ r1 _ (S1.ext x) (le.trans x.le) (.val (.tup (.inl (.inl upd_same)) (rl.mono x.le))) q.2
theorem se_lst {es : List Expr} {es' : List Ex} (h : PA X es (tA X P F W es')) : PE X (.List es pos) (tE X P F W (.lst es')) :=
  PE.imp (pe_lst h) fun s H Q h => by
    obtain ⟨M, Fr, r, Qd, Ed, S, w, post, exc⟩ := h
    simp only [wE] at w
    refine stepA S w exc fun vs ds M1 r1 H1 S1 le rl q => ?_
    refine ⟨by rw [rl.length, ← lim_eq]; exact q.1, fun p hp => ?_⟩
    have x := Ext.newOwn (o := .lst vs) S1.good hp
    obtain ⟨h1, h2⟩ := S1.good.free hp
    exact post _ _ _ r1 _ (S1.ext x) (le.trans x.le) (RepR.repV S1 x (.own hp upd_same h1 h2 rl)) q.2
/-- a dict of written keys and values -/
inductive DicC : List (Option Expr) → List Expr → List (Key × D) → Prop
  | nil : DicC [] [] []
  | int {i : Int} {j : Nat} {p : Pos} {ks : List (Option Expr)} {e : Expr} {es : List Expr} {d : D} {r : List (Key × D)} : (∀ X, PE X e (tC (flV d))) → DicC ks es r → DicC (some (.Constant (.int i) j p) :: ks) (e :: es) ((.inl i, d) :: r)
  | str {x : Str} {j : Nat} {p : Pos} {ks : List (Option Expr)} {e : Expr} {es : List Expr} {d : D} {r : List (Key × D)} : (∀ X, PE X e (tC (flV d))) → DicC ks es r → DicC (some (.Constant (.str x) j p) :: ks) (e :: es) ((.inr x, d) :: r)
theorem DicC.facts {ks : List (Option Expr)} {es : List Expr} {r : List (Key × D)} (h : DicC ks es r) : ks.all (·.isSome) = true ∧ ks.length = es.length ∧ ks.length = r.length := by
  induction h with
  | nil => exact ⟨rfl, rfl, rfl⟩
  | int _ _ ih => exact ⟨by rw [List.all_cons, ih.1]; rfl, by rw [List.length_cons, List.length_cons, ih.2.1], by rw [List.length_cons, List.length_cons, ih.2.2]⟩
  | str _ _ ih => exact ⟨by rw [List.all_cons, ih.1]; rfl, by rw [List.length_cons, List.length_cons, ih.2.1], by rw [List.length_cons, List.length_cons, ih.2.2]⟩
def trsOf (r : List (Key × D)) : List (TE × TE) := r.map fun p => (tC (kV p.1), tC (flV p.2))
theorem DicC.pps {ks : List (Option Expr)} {es : List Expr} {r : List (Key × D)} (h : DicC ks es r) : PPs X pos ks es (trsOf r) := by
  induction h with
  | nil => exact pps_nil
  | int he _ ih => exact pps_cons pe_int (he X) ih
  | str he _ ih => exact pps_cons pe_str (he X) ih
theorem pairs_of : ∀ (r : List (Key × D)) {s : St} {H : Hp} {Q : List (V × V) → Hp → Prop}, Q (r.map fun p => (kV p.1, flV p.2)) H → tPairs (trsOf r) s H Q
  | [], _, _, _, q => q
  | (k, d) :: r, s, H, Q, q => by
    show tPairs (trsOf r) s H _
    exact pairs_of r q
theorem putK_new (acc : List (Key × V)) (k : Key) (v : V) (h : k ∉ acc.map (·.1)) : putK acc k v = acc ++ [(k, v)] := by
  unfold putK
  rw [if_neg]
  intro hn
  obtain ⟨kv, hm, he⟩ := List.any_eq_true.mp hn
  exact h (List.mem_map.mpr ⟨kv, hm, of_decide_eq_true he⟩)
theorem merge_new : ∀ (kvs acc : List (Key × V)), ((acc ++ kvs).map (·.1)).Nodup → mergeK acc kvs = acc ++ kvs
  | [], acc, _ => by rw [List.append_nil]; rfl
  | (k, v) :: r, acc, h => by
    have e : mergeK acc ((k, v) :: r) = mergeK (putK acc k v) r := rfl
    have hk : k ∉ acc.map (·.1) := fun hm => by
      rw [List.map_append, List.nodup_append] at h
      exact h.2.2 k hm k (by simp) rfl
    rw [e, putK_new acc k v hk, merge_new r (acc ++ [(k, v)]) (by simpa using h)]
    simp
theorem repK_flat {K : PySem.W.Frag} {M : Gh} : ∀ (r : List (Key × D)), r.all (fun p => flatD p.2) = true → RepK K M (r.map fun p => (p.1, flV p.2)) r
  | [], _ => .nil
  | (k, d) :: r, h => by
    rw [List.all_cons, Bool.and_eq_true] at h
    refine .cons ?_ (repK_flat r h.2)
    have h1 : flatD d = true := h.1
    cases d <;> first | exact .non | exact .bl _ | exact .int _ | exact .str _ | exact absurd (show false = true from h1) Bool.false_ne_true
theorem se_dic {ks : List (Option Expr)} {es : List Expr} {kvs : List (Key × D)} (h : DicC ks es kvs) : PE X (.Dict ks es pos) (tE X P F W (.dic kvs)) := by
  have fin : ∀ {s : St} {H : Hp} {Q : VK}, tE X P F W (.dic kvs) s H Q → ∀ p, H p = none → kvs.length ≤ 15 ∧ (kvs.map (·.1)).Nodup ∧ Q (.ref p) (upd H p (.dK (kvs.map fun q => (q.1, flV q.2)))) := fun {s H Q} hw p hp => by
    obtain ⟨M, Fr, r, Qd, Ed, S, w, post, exc⟩ := hw
    simp only [wE] at w
    obtain ⟨w1, w2, w3, w4⟩ := w
    have x := Ext.new (o := .dK (kvs.map fun q => (q.1, flV q.2))) S.good hp
    exact ⟨w2, w1, post _ _ _ r _ (S.ext x) x.le (.val (.dic upd_same (repK_flat kvs w3))) w4⟩
  obtain ⟨f1, f2, f3⟩ := h.facts
  cases h with
  | nil => exact PE.imp pe_dnewK fun s H Q hw p hp => (fin hw p hp).2.2
  | @int i j p ks e es d r he hr =>
    refine ⟨fun pins s σ H Q I hw => ?_⟩
    have l15 : r.length + 1 ≤ 15 := by
      obtain ⟨M, Fr, r', Qd, Ed, S, w, post, exc⟩ := hw
      simp only [wE] at w
      simpa using w.2.1
    refine (pe_disp (DicC.pps (.int he hr)) f1 f2 (fun z => by cases z) (by rw [f3]; simpa using l15)).run pins s σ H Q I fun q hq => ?_
    obtain ⟨z1, z2, z3⟩ := fin hw q hq
    refine pairs_of _ ⟨upd_same, ((.inl i, d) :: r).map (fun q => (q.1, flV q.2)), by rw [List.map_map]; rfl, ?_, ?_⟩
    · rw [List.length_map]; exact z1
    · rw [upd_upd, merge_new _ [] (by simpa [List.map_map, Function.comp_def] using z2)]; exact z3
  | @str i j p ks e es d r he hr =>
    refine ⟨fun pins s σ H Q I hw => ?_⟩
    have l15 : r.length + 1 ≤ 15 := by
      obtain ⟨M, Fr, r', Qd, Ed, S, w, post, exc⟩ := hw
      simp only [wE] at w
      simpa using w.2.1
    refine (pe_disp (DicC.pps (.str he hr)) f1 f2 (fun z => by cases z) (by rw [f3]; simpa using l15)).run pins s σ H Q I fun q hq => ?_
    obtain ⟨z1, z2, z3⟩ := fin hw q hq
    refine pairs_of _ ⟨upd_same, ((.inr i, d) :: r).map (fun q => (q.1, flV q.2)), by rw [List.map_map]; rfl, ?_, ?_⟩
    · rw [List.length_map]; exact z1
    · rw [upd_upd, merge_new _ [] (by simpa [List.map_map, Function.comp_def] using z2)]; exact z3

/-! ### slices -/
theorem so_none : PO X none (tO X P F W none) := PO.imp po_none fun s H Q h => by
  obtain ⟨M, Fr, r, Qd, Ed, S, w, post, exc⟩ := h
  simp only [wO] at w
  exact post _ _ M r _ S (.refl M) rfl w
theorem so_some (ha : PE X a (tE X P F W a')) : PO X (some a) (tO X P F W (some a')) := PO.imp (po_some ha) fun s H Q h => by
  obtain ⟨M, Fr, r, Qd, Ed, S, w, post, exc⟩ := h
  simp only [wO] at w
  refine step1 S w exc fun x M1 r1 H1 z S1 le rx hq => ?_
  obtain ⟨i, e, q⟩ := hq
  rw [e] at rx
  cases rx
  exact ⟨i, rfl, post _ _ M1 r1 _ S1 le rfl q⟩
theorem se_sl {lo hi : Option Expr} {lo' hi' : Option Ex} {p2 : Pos} (ha : PE X a (tE X P F W a')) (hl : PO X lo (tO X P F W lo')) (hh : PO X hi (tO X P F W hi')) : PE X (.Subscript a (.Slice lo hi none p2) pos) (tE X P F W (.sl a' lo' hi')) :=
  PE.imp (pe_slice opr_sl ha hl hh) fun s H Q h => by
    obtain ⟨M, Fr, r, Qd, Ed, S, w, post, exc⟩ := h
    simp only [wE] at w
    refine step1 S w exc fun x M1 r1 H1 z S1 le1 rx w1 => ?_
    have exc1 : ∀ x H' M' r' cls d, Sim X.K M' Fr r' s H' → M1.Le M' → RepX X.mg x cls d → Ed x r' → W cls d s H' := fun x H' M' r' cls d S' le' => exc x H' M' r' cls d S' (le1.trans le')
    refine ⟨M1, Fr, r1, _, Ed, S1, w1, fun l H2 M2 r2 l' S2 le2 el w2 => ?_, exc1⟩
    cases el
    refine ⟨M2, Fr, r2, _, Ed, S2, w2, fun u H3 M3 r3 u' S3 le3 eu w3 => ?_, fun x H' M' r' cls d S' le' => exc1 x H' M' r' cls d S' (le2.trans le')⟩
    cases eu
    obtain ⟨z', hz, q⟩ := w3
    exact ⟨M3, z.d, z', S3.good, (rx.mono le2).mono le3, hz, fun v H' M' x' rr => post v H' M' r3 z' (S3.ext x') ((le1.trans (le2.trans le3)).trans x'.le) (rr.repV S3 x') q⟩
theorem se_rev {kk : Nat} {p1 p2 p3 : Pos} (ha : PE X a (tE X P F W a')) : PE X (.Subscript a (.Slice none none (some (.UnaryOp .USub (.Constant (.int 1) kk p1) p2)) p3) pos) (tE X P F W (.rev a')) :=
  PE.imp (pe_rev2 ha) fun s H Q h => by
    obtain ⟨M, Fr, r, Qd, Ed, S, w, post, exc⟩ := h
    simp only [wE] at w
    refine step1 S w exc fun x M1 r1 H1 z S1 le1 rx w1 => ?_
    obtain ⟨z', hz, q⟩ := w1
    unfold revD at hz
    split at hz
    · rename_i ds e
      cases hz
      rw [e] at rx
      cases rx with
      | @lst a vs _ h1 rl =>
        refine ⟨_, _, rfl, .inl ⟨SqL.of (S1.good.le _ _ h1), fun p hp => ?_⟩⟩
        have x := Ext.newOwn (o := .lst vs.reverse) S1.good hp
        obtain ⟨h3, h4⟩ := S1.good.free hp
        exact post _ _ _ r1 _ (S1.ext x) (le1.trans x.le) (RepR.repV S1 x (.own hp upd_same h3 h4 rl.reverse)) q
    · rename_i ds e
      cases hz
      rw [e] at rx
      cases rx with
      | @tup a vs _ h1 rl =>
        refine ⟨_, _, rfl, .inr ⟨sqT_mono S1.good.le h1, fun p hp => ?_⟩⟩
        have x := Ext.new (o := .tup vs.reverse) S1.good hp
        exact post _ _ _ r1 _ (S1.ext x) (le1.trans x.le) (RepR.repV S1 x (.val (.tup (.inl (.inl upd_same)) (rl.reverse.mono (Gh.le_add (S1.good.free hp).1))))) q
    · cases hz

/-! ### calls of built-ins -/
theorem tA_call {es' : List Ex} {f : List D → Option R} {s : St} {H : Hp} {Q : VK} (h : tP X.K X.mg W (fun r Q E => wEs P F es' r (fun ds r1 => ∃ z, f ds = some z ∧ Q z r1) E) (RepV X.K) s H Q) : tCB (pC X.K f) (tA X P F W es') s H Q := by
  obtain ⟨M, Fr, r, Qd, Ed, S, w, post, exc⟩ := h
  refine stepA S w exc fun vs ds M1 r1 H1 S1 le rl hq => ?_
  obtain ⟨z, hz, q⟩ := hq
  exact ⟨M1, ds, z, S1.good, rl, hz, fun v H' M' x' rr => post v H' M' r1 z (S1.ext x') (le.trans x'.le) (rr.repV S1 x') q⟩
def Bi.isTy : Bi → Bool
  | .int => true
  | .list => true
  | .tuple => true
  | _ => false
theorem Bi.names (f : Bi) : f.nm ≠ "__name__" ∧ (f.nm == ("__debug__" : Str)) = false := by cases f <;> decide +kernel
theorem se_bi {f : Bi} {e : Expr} {es : List Expr} {es' : List Ex} {p : Pos} (C : Calm X k) (hg : Gl X f.nm) (hm : X.mg f.nm = none) (ha : PA X (e :: es) (tA X P F W es')) (he : starEach (e :: es) X.env = (false, eval e X.env) :: starEach es X.env) (hpl : (backTo pos (starEach es X.env)).any (·.1) = false) :
    PE X (.Call (.Name f.nm p) (e :: es) [] pos) (tE X P F W (.bi f es')) := by
  have im : ∀ s H Q, tE X P F W (.bi f es') s H Q → tCB (pC X.K (biD f)) (tA X P F W es') s H Q := fun s H Q h => by
    obtain ⟨M, Fr, r, Qd, Ed, S, w, post, exc⟩ := h
    simp only [wE] at w
    exact tA_call ⟨M, Fr, r, Qd, Ed, S, w, post, exc⟩
  obtain ⟨n1, n2⟩ := f.names
  have bt := f.boot
  have cr := opr_bi C f
  cases f <;> first
    | exact PE.imp (pe_callB cr hg hm bt ha n1 n2 he hpl) im
    | exact PE.imp (pe_callTy cr hg hm bt ha n1 n2 he hpl) im
def Ty.nm : Ty → Str
  | .int => "int"
  | .bool => "bool"
  | .str => "str"
  | .list => "list"
  | .tuple => "tuple"
  | .dict => "dict"
theorem Ty.boot (t : Ty) : bootBuiltins t.nm = some (.type t.s) ∧ t.nm ≠ "__name__" ∧ (t.nm == ("__debug__" : Str)) = false := by cases t <;> decide +kernel
theorem se_isi {t : Ty} {p p2 : Pos} (C : Calm X k) (hg : Gl X "isinstance") (hm : X.mg "isinstance" = none) (hgt : Gl X t.nm) (hmt : X.mg t.nm = none) (ha : PE X a (tE X P F W a'))
    (he : starEach [a, .Name t.nm p2] X.env = (false, eval a X.env) :: starEach [.Name t.nm p2] X.env) :
    PE X (.Call (.Name "isinstance" p) [a, .Name t.nm p2] [] pos) (tE X P F W (.isi a' t)) := by
  obtain ⟨b1, b2, b3⟩ := t.boot
  have hT : PE X (.Name t.nm p2) (tC (.ty t.s)) := pe_bltn hgt hmt b1 rfl b2 b3
  refine PE.imp (pe_callB (opr_isi t) hg hm (by decide +kernel) (pa_cons ha (pa_cons hT pa_nil rfl) he) (by decide +kernel) (by decide +kernel) he rfl) fun s H Q h => ?_
  obtain ⟨M, Fr, r, Qd, Ed, S, w, post, exc⟩ := h
  simp only [wE] at w
  refine step1 S w exc fun x M1 r1 H1 z S1 le1 rx q => ?_
  exact ⟨M1, x, z.d, rfl, S1.good, rx, post _ _ M1 r1 _ S1 le1 (.val (.bl _)) q⟩
theorem rgV_rngD {K : PySem.W.Frag} {M : Gh} (i j : Int) : RepL K M (rgV i j) (rngD i (j - i).toNat) := by
  unfold rgV rngD
  induction (List.range (j - i).toNat) with
  | nil => exact .nil
  | cons n l ih => exact .cons (.int _) ih
/-- list(range(a, b)) -/
theorem se_rng {p p1 p2 : Pos} (C : Calm X k) (hg : Gl X "list") (hm : X.mg "list" = none) (hg2 : Gl X "range") (hm2 : X.mg "range" = none) (ha : PE X a (tE X P F W a')) (hb : PE X b (tE X P F W b'))
    (he : starEach [a, b] X.env = (false, eval a X.env) :: starEach [b] X.env) (he2 : starEach [b] X.env = (false, eval b X.env) :: starEach [] X.env) :
    PE X (.Call (.Name "list" p) [.Call (.Name "range" p1) [a, b] [] p2] [] pos) (tE X P F W (.rng a' b')) :=
  PE.imp (pe_listRg C.c hg hm (prg_2 hg2 hm2 ha hb he he2 (by rw [he2]; rfl)) rfl) fun s H Q h => by
    obtain ⟨M, Fr, r, Qd, Ed, S, w, post, exc⟩ := h
    simp only [wE] at w
    refine step1 S w exc fun x M1 r1 H1 z S1 le1 rx w1 => ?_
    refine step1 S1 w1 (fun x H' M' r' cls d S' le' => exc x H' M' r' cls d S' (le1.trans le')) fun y M2 r2 H2 z2 S2 le2 ry w2 => ?_
    obtain ⟨i, j, e1, e2, h1, h2, h3, h4, h5, q⟩ := w2
    rw [e1] at rx
    rw [e2] at ry
    cases rx
    cases ry
    refine ⟨i, j, rfl, rfl, ⟨h1, h2, h3, h4, h5⟩, fun p hp => ?_⟩
    have x := Ext.newOwn (o := .lst (rgV i j)) S2.good hp
    obtain ⟨h6, h7⟩ := S2.good.free hp
    exact post _ _ _ r2 _ (S2.ext x) ((le1.trans le2).trans x.le) (RepR.repV S2 x (.own hp upd_same h6 h7 (rgV_rngD i j))) q
end
end PL
set_option maxHeartbeats 3900000
/-! PLgm: methods of texts and lists -/
namespace PL
open PySem L2
def Mt.nm : Mt → Str
  | .join => "join"
  | .count => "count"
  | .index => "index"
  | .upper => "upper"
/-- a method's call by data -/
def pM (K : PySem.W.Frag) (m : Mt) (dx : D) : V → List V → Hp → VK → Prop := fun x xs H Q => ∃ M ds z, Good M H ∧ Rep K M x dx ∧ RepL K M xs ds ∧ mtD m dx ds = some z ∧ Post K M H z Q
theorem mt_imp {X : Cx} {id : String} {r r' : V → List V → Hp → VK → Prop} (h : MtR X id r) (m : ∀ x xs H Q, r' x xs H Q → r x xs H Q) : MtR X id r' := fun pins s σ H x xs v us Q I rx rxs q => h pins s σ H x xs v us Q I rx rxs (m x xs H Q q)
section
variable {X : Cx} {M : Gh} {H : Hp} {K : PySem.W.Frag}
theorem strs_rep : ∀ {vs : List V} {ds : List D} {zs : List Str}, RepL K M vs ds → strsD ds = some zs → vs = zs.map V.str
  | _, _, _, .nil, h => by cases h; rfl
  | _, _, _, .cons h1 r, h => by
    cases h1 with
    | str x =>
      simp only [strsD] at h
      obtain ⟨zs, e, rfl⟩ := Option.map_eq_some_iff.mp h
      rw [strs_rep r e]; rfl
    | _ => cases h
theorem mr_join {a : Str} : MtR X "str.join" (pM X.K .join (.str a)) := mt_imp mt_join fun x xs H Q h => by
  obtain ⟨M, ds, z, g, hx, hl, hz, post⟩ := h
  cases hx
  simp only [mtD] at hz
  unfold mtJoin at hz
  split at hz
  · rename_i a' ys e1
    cases e1
    obtain ⟨zs, e, hz⟩ := Option.bind_eq_some_iff.mp hz
    split at hz
    · rename_i hc
      cases hz
      cases hl with
      | cons h1 hl =>
        cases hl
        cases h1 with
        | lst h2 r =>
          have ev := strs_rep r e
          refine ⟨a, _, zs, rfl, rfl, .inl (.inl (.inl ?_)), hc, post.here g (.str _)⟩
          rw [← ev]; exact g.le _ _ h2
    · cases hz
  · cases hz
theorem mr_upper {a : Str} : MtR X "str.upper" (pM X.K .upper (.str a)) := mt_imp mt_upper fun x xs H Q h => by
  obtain ⟨M, ds, z, g, hx, hl, hz, post⟩ := h
  cases hx
  simp only [mtD] at hz
  unfold mtUpper at hz
  split at hz
  · rename_i a' e1
    cases e1
    split at hz
    · rename_i hc
      cases hz
      cases hl
      exact ⟨a, rfl, rfl, hc, post.here g (.str _)⟩
    · cases hz
  · cases hz
theorem mr_countS {a : Str} : MtR X "str.count" (pM X.K .count (.str a)) := mt_imp mt_count fun x xs H Q h => by
  obtain ⟨M, ds, z, g, hx, hl, hz, post⟩ := h
  cases hx
  simp only [mtD] at hz
  unfold mtCount at hz
  split at hz
  · rename_i a' b e1
    cases e1
    cases hz
    cases hl with
    | cons h1 hl =>
      cases hl
      cases h1
      exact ⟨a, b, rfl, rfl, post.here g (.int _)⟩
  · rename_i e1; cases e1
  · cases hz
theorem mr_countL {k : Nat} {ys : List D} (hr : Room k X.A) : MtR X "list.count" (pM X.K .count (.lst ys)) := by
  intro pins s σ H x xs v us Q I rx rxs h
  obtain ⟨M, ds, z, g, hx, hl, hz, post⟩ := h
  simp only [mtD] at hz
  unfold mtCount at hz
  split at hz
  · rename_i e1; cases e1
  · rename_i xs' y e1
    cases e1
    split at hz
    · rename_i hc
      obtain ⟨c1, c2, c3, c4, c5⟩ := hc
      cases hz
      cases hl with
      | cons h1 hl =>
        cases hl
        cases hx with
        | @lst a vs _ h2 r =>
          cases rx
          obtain ⟨u, rfl, ru⟩ := rxs.one
          obtain ⟨bs, r1⟩ := Dp.reads I _ _ u (h1.dp g c2) ru
          obtain ⟨its, rv, ⟨o, n, ho, hc', _, hd⟩, _⟩ := I.list (SqL.of (g.le _ _ h2))
          obtain ⟨as, r2⟩ := Dp.readsAll I _ _ its (r.dp g c1) rv
          refine SeqAt.count_list_data (vs := its.toArray) ⟨o, ho, hc', n, hd⟩ (by rw [List.toList_toArray]; exact r2) r1 c3 c4 ?_ ⟨.int _, H, I.tok _, ⟨_, rfl⟩, post.here g (.int _)⟩
          have := hr.un
          have h3 : min (PyData.depthAll (toPys ys)) (toPy y).depth ≤ (toPy y).depth := Nat.min_le_right _ _
          omega
    · cases hz
  · cases hz
end
section
variable {X : Cx} {P : Pg} {F : Fn} {W : WX} {k : Nat} {a b : Expr} {a' b' : Ex}
/-- o.m(e) -/
theorem se_mt1 {m : Mt} {apos cpos : Pos} (C : Calm X k) (ha : PE X a (tE X P F W a')) (hb : PE X b (tE X P F W b')) (hbase : attributeBase a m.nm X.env (eval a X.env) = eval a X.env)
    (hfew : ((backTo cpos (starEach [b] X.env)).all (fun x => !x.1) && (backToKw cpos (keywordEach [] X.env)).all (fun x => x.1.isSome) && decide ([b].length + ([] : List Keyword).length + (if ([] : List Keyword).isEmpty then 0 else 1) < 30)) = true)
    (hline : (apos.endLine == cpos.line) = true) (hs : starEach [b] X.env = (false, eval b X.env) :: starEach [] X.env) : PE X (.Call (.Attribute a m.nm apos) [b] [] cpos) (tE X P F W (.mt m a' [b'])) := by
  refine ⟨fun pins s σ H Q I h => ?_⟩
  obtain ⟨M, Fr, r, Qd, Ed, S, w, post, exc⟩ := h
  simp only [wE] at w
  refine wpAny_Call_method_late hbase hfew hline rfl (thn (ha.run pins s σ H (fun x H1 => ∃ M1 r1 z, Sim X.K M1 Fr r1 σ H1 ∧ M.Le M1 ∧ Rep X.K M1 x z ∧ mtTy m z = true ∧ wEs P F [b'] r1 (fun ds r2 => ∃ y, mtD m z ds = some y ∧ Qd y r2) Ed) I (step1 S w exc fun x M1 r1 H1 z S1 le1 rx hq => ⟨M1, r1, z.d, S1, le1, rx, hq.1, hq.2⟩)) fun v s1 hh => ?_)
  obtain ⟨x, H1, I1, rx, M1, r1, z, S1, le1, rp, ty, w1⟩ := hh
  have tb : ∃ T id : String, PlainAttrs T ∧ Slot T m.nm id ∧ typeOf (.builtin id) = pure (.type "method_descriptor") ∧ tyV X.K T x H1 ∧ MtR X id (pM X.K m z) := by
    cases m with
    | join =>
      cases z <;> first | (cases ty; done) | skip
      cases rp
      exact ⟨_, _, PySem.F.plainAttrs_str, PySem.F.slot_str_join, PySem.F.type_str_join, rfl, mr_join⟩
    | count =>
      cases z <;> first | (cases ty; done) | skip
      · cases rp
        exact ⟨_, _, PySem.F.plainAttrs_str, PySem.F.slot_str_count, PySem.F.type_str_count, rfl, mr_countS⟩
      · cases rp with
        | lst h1 h2 => exact ⟨_, _, PySem.F.plainAttrs_list, PySem.F.slot_list_count, PySem.F.type_list_count, .inl ⟨rfl, _, SqL.of (S1.good.le _ _ h1)⟩, mr_countL C.r⟩
    | upper =>
      cases z <;> first | (cases ty; done) | skip
      cases rp
      exact ⟨_, _, PySem.F.plainAttrs_str, PySem.F.slot_str_upper, PySem.F.type_str_upper, rfl, mr_upper⟩
    | index => cases ty
  obtain ⟨T, id, pa, sl, hty, tv, mr⟩ := tb
  obtain ⟨h1, h2⟩ := tyV_is I1 rx tv
  refine ⟨T, id, pa, sl, hty, h1, h2, ?_⟩
  have hA := (sa_cons hb sa_nil hs).run cpos pins s1 σ H1 (fun vs H2 => pM X.K m z x vs H2 Q) I1 (stepA S1 w1 (fun x H' M' r' cls d S' le' => exc x H' M' r' cls d S' (le1.trans le')) fun vs ds M2 r2 H2 S2 le2 rl hq => by
    obtain ⟨y, hy, q⟩ := hq
    exact ⟨M2, ds, y, S2.good, rp.mono le2, rl, hy, fun v H' M' x' rr => post v H' M' r2 y (S2.ext x') ((le1.trans le2).trans x'.le) (rr.repV S2 x') q⟩)
  rw [hs] at hA ⊢
  refine Calls.callWith_builtin (by rfl) (Calls.evalArgs_plain ?_)
  exact thn hA fun us s2 hh => by
    obtain ⟨vs, H2, I2, r2, q2⟩ := hh
    exact mr pins s2 σ H2 x vs v us Q I2 rx r2 q2
/-- o.m() -/
theorem se_mt0 {m : Mt} {apos cpos : Pos} (ha : PE X a (tE X P F W a')) (hbase : attributeBase a m.nm X.env (eval a X.env) = eval a X.env) (hline : (apos.endLine == cpos.line) = true) (hm : m = .upper) : PE X (.Call (.Attribute a m.nm apos) [] [] cpos) (tE X P F W (.mt m a' [])) := by
  subst hm
  refine ⟨fun pins s σ H Q I h => ?_⟩
  obtain ⟨M, Fr, r, Qd, Ed, S, w, post, exc⟩ := h
  simp only [wE, wEs] at w
  refine wpAny_Call_method0_late hbase hline (thn (ha.run pins s σ H (fun x H1 => ∃ M1 r1 z, Sim X.K M1 Fr r1 σ H1 ∧ M.Le M1 ∧ Rep X.K M1 x z ∧ mtTy .upper z = true ∧ ∃ y, mtD .upper z [] = some y ∧ Qd y r1) I (step1 S w exc fun x M1 r1 H1 z S1 le1 rx hq => ⟨M1, r1, z.d, S1, le1, rx, hq.1, hq.2⟩)) fun v s1 hh => ?_)
  obtain ⟨x, H1, I1, rx, M1, r1, z, S1, le1, rp, ty, y, hy, q⟩ := hh
  cases z <;> first | (cases ty; done) | skip
  cases rp
  obtain ⟨h1, h2⟩ := tyV_is (T := "str") I1 rx rfl
  exact ⟨_, _, PySem.F.plainAttrs_str, PySem.F.slot_str_upper, PySem.F.type_str_upper, h1, h2, Calls.callWith_builtin rfl (PySem.evalArgs_none (mr_upper pins s1 σ H1 _ [] v [] Q I1 rx .nil ⟨M1, [], y, S1.good, .str _, .nil, hy, fun v H' M' x' rr => post v H' M' r1 y (S1.ext x') (le1.trans x'.le) (rr.repV S1 x') q⟩))⟩
end
end PL
set_option maxHeartbeats 3900000
/-! PLgn: a list of one's own is changed: append, pop -/
namespace PL
open PySem L2
section
variable {K : PySem.W.Frag} {M : Gh} {Fr : Hp} {r : Env} {s : St} {H : Hp}
theorem Sim.mu (S : Sim K M Fr r s H) {i : Nat} {a : Addr} {xs : List D} (hr : r[i]? = some (some (.own xs))) (hs : s[i]? = some (some (.ref a))) {vs' : List V} {ys : List D} (rl : RepL K M vs' ys) : Sim K M Fr (r.set i (some (.own ys))) s (upd H a (.lst vs')) := by
  obtain ⟨a', vs, e1, e2, e3, e4, e5, e6⟩ := S.ow i xs hr
  have ea : a' = a := by rw [e1] at hs; cases hs; rfl
  subst ea
  have hl : i < r.length := (List.getElem?_eq_some_iff.mp hr).1
  have get : ∀ {j : Nat} {o : R}, (r.set i (some (.own ys)))[j]? = some (some o) → (j = i ∧ o = .own ys) ∨ (j ≠ i ∧ r[j]? = some (some o)) := fun {j o} e => by
    by_cases q : i = j
    · subst q
      rw [List.getElem?_set_self hl] at e; cases e; exact .inl ⟨rfl, rfl⟩
    · rw [List.getElem?_set_ne q] at e
      exact .inr ⟨fun w => q w.symm, e⟩
  have own : ∀ {j : Nat} {o : List D}, (r.set i (some (.own ys)))[j]? = some (some (.own o)) → ∃ o', r[j]? = some (some (.own o')) := fun {j o} e => by
    rcases get e with ⟨rfl, _⟩ | ⟨_, e⟩
    · exact ⟨xs, hr⟩
    · exact ⟨o, e⟩
  refine ⟨⟨fun b o e => ?_, fun b p => ?_⟩, fun b o e => ?_, S.frP, S.frI, fun j d e => ?_, fun j ds e => ?_, fun j k x y hjk ex ey => ?_, by rw [List.length_set]; exact S.len⟩
  · have z : b ≠ a' := fun z => by rw [z, e3] at e; cases e
    rw [upd_ne z]; exact S.good.le b o e
  · have z : b ≠ a' := fun z => e4 (z ▸ p)
    obtain ⟨h1, n, h2, h3⟩ := S.good.pot b p
    exact ⟨h1, n, h2, by rw [upd_ne z]; exact h3⟩
  · have z : b ≠ a' := fun z => by rw [z, e5] at e; cases e
    rw [upd_ne z]; exact S.fr b o e
  · rcases get e with ⟨_, z⟩ | ⟨_, e⟩
    · cases z
    · exact S.sl j d e
  · rcases get e with ⟨rfl, z⟩ | ⟨hne, e⟩
    · cases z
      exact ⟨a', vs', e1, upd_same, e3, e4, e5, rl⟩
    · obtain ⟨b, ws, f1, f2, f3, f4, f5, f6⟩ := S.ow j ds e
      have z : b ≠ a' := fun z => S.inj j i _ _ hne e hr (by rw [f1, e1, z])
      exact ⟨b, ws, f1, by rw [upd_ne z]; exact f2, f3, f4, f5, f6⟩
  · obtain ⟨x', ex'⟩ := own ex
    obtain ⟨y', ey'⟩ := own ey
    exact S.inj j k x' y' hjk ex' ey'
end
def Mu.nm : Mu → Str
  | .append => "append"
  | .pop => "pop"
def Mu.id : Mu → String
  | .append => "list.append"
  | .pop => "list.pop"
section
variable {X : Cx} {P : Pg} {F : Fn} {W : WX} {k : Nat} {b : Expr} {b' : Ex}
theorem Mu.slot (m : Mu) : Slot "list" m.nm m.id ∧ typeOf (.builtin m.id) = pure (.type "method_descriptor") := by
  cases m with
  | append => exact ⟨PySem.F.slot_list_append, PySem.F.type_list_append⟩
  | pop => exact ⟨PySem.F.slot_list_pop, PySem.F.type_list_pop⟩
/-- the change itself -/
theorem mu_run {m : Mu} {M1 : Gh} {Fr : Hp} {r1 : PL.Env} {σ : St} {H1 : Hp} {i : Nat} {a : Addr} {xs ys ds : List D} {vs : List V} {y : D} {Q : VK} {pins : List (Addr × Obj)} {s : Shared} {us : List Value}
    (S : Sim X.K M1 Fr r1 σ H1) (hr : r1[i]? = some (some (.own xs))) (hs : σ[i]? = some (some (.ref a))) (rl : RepL X.K M1 vs ds) (hm : muD m xs ds = some (ys, y)) (I : Inv X pins σ H1 s) (rv : Vals vs us)
    (q : ∀ v H', Sim X.K M1 Fr (r1.set i (some (.own ys))) σ H' → Rep X.K M1 v y → Q v H') : wpAny (model X.prog X.w) X.A (call (.builtin m.id) (.ref a :: us)) (EP X pins σ Q) X.xe s := by
  obtain ⟨a', vs0, e1, e2, e3, e4, e5, e6⟩ := S.ow i xs hr
  have ea : a' = a := by rw [e1] at hs; cases hs; rfl
  subst ea
  unfold muD at hm
  split at hm
  · split at hm
    · rename_i hc
      cases hm
      cases rl with
      | cons h1 rl =>
        cases rl
        refine mt_append pins s σ H1 (.ref a') _ (.ref a') us Q I rfl rv ⟨a', vs0, _, rfl, rfl, e2, by rw [e6.length, ← lim_eq]; exact hc, q _ _ (S.mu hr e1 (e6.append (.cons h1 .nil))) .non⟩
    · cases hm
  · cases rl
    obtain ⟨y', hy, hz⟩ := Option.map_eq_some_iff.mp hm
    cases hz
    obtain ⟨v, hv, rp⟩ := e6.get hy
    exact mt_pop pins s σ H1 (.ref a') _ (.ref a') us Q I rfl rv ⟨a', vs0, v, rfl, rfl, e2, by rw [e6.length]; exact hv, q _ _ (S.mu hr e1 e6.dropLast) rp⟩
  · split at hm
    · rename_i j hc
      obtain ⟨kk, hk, hm⟩ := Option.bind_eq_some_iff.mp hm
      obtain ⟨y', hy, hz⟩ := Option.map_eq_some_iff.mp hm
      cases hz
      cases rl with
      | cons h1 rl =>
        cases rl
        cases h1
        obtain ⟨v, hv, rp⟩ := e6.get hy
        obtain ⟨g1, g2, g3, g4⟩ := ixN_seq hk
        have p62 : (2 : Int) ^ 63 = 9223372036854775808 := by decide
        have p62n : (2 : Nat) ^ 62 = 4611686018427387904 := by decide
        rw [p62n] at hc
        exact mt_popAt pins s σ H1 (.ref a') _ (.ref a') us Q I rfl rv ⟨a', vs0, _, kk, v, rfl, rfl, e2, by rw [p62]; omega, by rw [p62]; omega, by rw [e6.length]; exact g1, hv, q _ _ (S.mu hr e1 (e6.eraseIdx kk)) rp⟩
    · cases hm
  · cases hm
/-- x.m(e), x a list of one's own -/
theorem se_mu1 {m : Mu} {i : Nat} {x : Str} {p apos cpos : Pos} (hN : X.N[i]? = some x) (hv : Vis X.env.scope x) (hd : (x == ("__debug__" : Str)) = false) (hcd : (x == ("__classdict__" : Str)) = false) (hb : PE X b (tE X P F W b'))
    (hfew : ((backTo cpos (starEach [b] X.env)).all (fun x => !x.1) && (backToKw cpos (keywordEach [] X.env)).all (fun x => x.1.isSome) && decide ([b].length + ([] : List Keyword).length + (if ([] : List Keyword).isEmpty then 0 else 1) < 30)) = true)
    (hline : (apos.endLine == cpos.line) = true) (hs : starEach [b] X.env = (false, eval b X.env) :: starEach [] X.env) : PE X (.Call (.Attribute (.Name x p) m.nm apos) [b] [] cpos) (tE X P F W (.mu m i [b'])) := by
  refine ⟨fun pins s σ H Q I h => ?_⟩
  obtain ⟨M, Fr, r, Qd, Ed, S, w, post, exc⟩ := h
  simp only [wE] at w
  obtain ⟨⟨xs0, hx0⟩, w⟩ := w
  obtain ⟨a, vs0, e1, e2, e3, e4, e5, e6⟩ := S.ow i xs0 hx0
  refine wpAny_Call_method_late rfl hfew hline rfl (thn ((pe_var hN hv hd hcd).run pins s σ H (fun v H1 => v = .ref a ∧ H1 = H) I ⟨_, e1, rfl, rfl⟩) fun v s1 hh => ?_)
  obtain ⟨xv, H1, I1, rx, rfl, rfl⟩ := hh
  cases (show v = Value.ref a from rx)
  obtain ⟨h1, h2⟩ := tyV_is (T := "list") I1 rx (.inl ⟨rfl, _, SqL.of e2⟩)
  refine ⟨"list", m.id, PySem.F.plainAttrs_list, m.slot.1, m.slot.2, h1, h2, ?_⟩
  have hA := (sa_cons hb sa_nil hs).run cpos pins s1 σ H1 (fun vs H2 => ∃ M2 r2 ds xs ys y, Sim X.K M2 Fr r2 σ H2 ∧ M.Le M2 ∧ RepL X.K M2 vs ds ∧ r2[i]? = some (some (.own xs)) ∧ muD m xs ds = some (ys, y) ∧ Qd (.val y) (r2.set i (some (.own ys)))) I1 (stepA S w exc fun vs ds M2 r2 H2 S2 le2 rl hq => by
    obtain ⟨xs, ys, y, g1, g2, g3⟩ := hq
    exact ⟨M2, r2, ds, xs, ys, y, S2, le2, rl, g1, g2, g3⟩)
  rw [hs] at hA ⊢
  refine Calls.callWith_builtin (by rfl) (Calls.evalArgs_plain ?_)
  exact thn hA fun us s2 hh => by
    obtain ⟨vs, H2, I2, rv, M2, r2, ds, xs, ys, y, S2, le2, rl, g1, g2, g3⟩ := hh
    exact mu_run S2 g1 e1 rl g2 I2 rv fun v H' S' rp => post v H' M2 _ (.val y) S' le2 (.val rp) g3
theorem lenV_of {M : Gh} {H : Hp} {x : V} {d : D} {n : Nat} (g : Good M H) (r : Rep X.K M x d) (e : lenD d = some n) : LenV X.K x H n := by
  cases r with
  | lst h1 r1 => cases e; exact .inl ⟨_, SqL.of (g.le _ _ h1), r1.length.symm⟩
  | tup h1 r1 => cases e; exact .inr ⟨_, sqT_mono g.le h1, r1.length.symm⟩
  | scr h1 => cases e; exact .inl ⟨_, sqL_mono g.le h1, by rw [List.length_map]⟩
  | str y =>
    simp only [lenD] at e
    split at e
    · rename_i hl
      cases e
      exact ⟨by rw [← lim_eq]; exact hl, rfl⟩
    · cases e
  | _ => cases e
/-- len(name) -/
theorem se_lenv {i : Nat} {x : Str} {p p2 pos : Pos} (hg : Gl X "len") (hm : X.mg "len" = none) (hN : X.N[i]? = some x) (hv : Vis X.env.scope x) (hd : (x == ("__debug__" : Str)) = false) (hcd : (x == ("__classdict__" : Str)) = false) : PE X (.Call (.Name "len" p) [.Name x p2] [] pos) (tE X P F W (.lenv i)) :=
  PE.imp (pe_callB call_len hg hm (Bi.boot .len) (pa_cons (pe_var hN hv hd hcd) pa_nil rfl) (by decide +kernel) (by decide +kernel) rfl rfl) fun s H Q h => by
    obtain ⟨M, Fr, r, Qd, Ed, S, w, post, exc⟩ := h
    simp only [wE, lnV] at w
    split at w
    · rename_i d e
      obtain ⟨n, h1, h2⟩ := w
      obtain ⟨v, e1, e2⟩ := S.sl i d e
      exact ⟨v, e1, v, n, rfl, lenV_of S.good e2 h1, post _ _ M r _ S (.refl M) (.val (.int _)) h2⟩
    · rename_i ds e
      obtain ⟨a, vs, e1, e2, e3, e4, e5, e6⟩ := S.ow i ds e
      exact ⟨_, e1, _, ds.length, rfl, .inl ⟨_, SqL.of e2, e6.length.symm⟩, post _ _ M r _ S (.refl M) (.val (.int _)) w⟩
    · exact w.elim
/-- repr(name) -/
theorem se_rpv {i : Nat} {x : Str} {p p2 pos : Pos} (C : Calm X k) (hg : Gl X "repr") (hm : X.mg "repr" = none) (hN : X.N[i]? = some x) (hv : Vis X.env.scope x) (hd : (x == ("__debug__" : Str)) = false) (hcd : (x == ("__classdict__" : Str)) = false) : PE X (.Call (.Name "repr" p) [.Name x p2] [] pos) (tE X P F W (.rpv i)) :=
  PE.imp (pe_callB (opr_reprV C) hg hm (Bi.boot .repr) (pa_cons (pe_var hN hv hd hcd) pa_nil rfl) (by decide +kernel) (by decide +kernel) rfl rfl) fun s H Q h => by
    obtain ⟨M, Fr, r, Qd, Ed, S, w, post, exc⟩ := h
    simp only [wE, rpV] at w
    split at w
    · rename_i z e
      obtain ⟨y, h1, h2⟩ := w
      obtain ⟨d, t, e1, rfl⟩ := repr_str h1
      cases e1
      cases z with
      | val d =>
        obtain ⟨v, e1, e2⟩ := S.sl i d e
        exact ⟨v, e1, M, v, d, t, rfl, S.good, e2, h1, post _ _ M r _ S (.refl M) (.val (.str _)) h2⟩
      | own ds =>
        obtain ⟨a, vs, e1, e2, e3, e4, e5, e6⟩ := S.ow i ds e
        have le : M.Le (M.add a (.lst vs)) := Gh.le_add e3
        have g' : Good (M.add a (.lst vs)) H := ⟨fun b o q => by
            have q2 : upd M.I a (.lst vs) b = some o := q
            by_cases z : b = a
            · subst z; rw [upd_same] at q2; cases q2; exact e2
            · rw [upd_ne z] at q2; exact S.good.le b o q2, fun b q => by
            have z : b ≠ a := fun z => e4 (z ▸ q)
            refine ⟨?_, (S.good.pot b q).2⟩
            show upd M.I a (.lst vs) b = none
            rw [upd_ne z]; exact (S.good.pot b q).1⟩
        exact ⟨_, e1, _, _, .lst ds, t, rfl, g', .lst upd_same (e6.mono le), h1, post _ _ M r _ S (.refl M) (.val (.str _)) h2⟩
    · exact w.elim
end
end PL
set_option maxHeartbeats 3900000
/-! PLh: targets, what is walked, comprehensions -/
namespace PL
open PySem L2

/-! ### targets -/
mutual
def Tg.sl : Tg → List Nat
  | .nm i => [i]
  | .tp gs => slAll gs
  | .star i j => [i, j]
def slAll : List Tg → List Nat
  | [] => []
  | g :: gs => g.sl ++ slAll gs
end
/-- slots but those of vs stand -/
def Keeps (vs : List Nat) (s s' : St) : Prop := s'.length = s.length ∧ ∀ i, i ∉ vs → s'[i]? = s[i]?
theorem Keeps.refl (vs : List Nat) (s : St) : Keeps vs s s := ⟨rfl, fun _ _ => rfl⟩
theorem Keeps.trans {vs : List Nat} {s s1 s2 : St} (a : Keeps vs s s1) (b : Keeps vs s1 s2) : Keeps vs s s2 := ⟨b.1.trans a.1, fun i h => (b.2 i h).trans (a.2 i h)⟩
theorem Keeps.mono {vs ws : List Nat} {s s' : St} (a : Keeps vs s s') (h : ∀ i ∈ vs, i ∈ ws) : Keeps ws s s' := ⟨a.1, fun i hi => a.2 i fun q => hi (h i q)⟩
theorem Keeps.set (s : St) (i : Nat) (v : Option V) {vs : List Nat} (h : i ∈ vs) : Keeps vs s (s.set i v) := ⟨List.length_set, fun j hj => List.getElem?_set_ne fun (e : i = j) => hj (by rw [← e]; exact h)⟩
theorem Keeps.wipe {vs : List Nat} {s s' : St} (a : Keeps vs s s') : L2.wipe s' vs = L2.wipe s vs := by
  have gen : ∀ (ws : List Nat) (s s' : St), s'.length = s.length → ∀ i : Nat, (i ∈ ws ∨ s'[i]? = s[i]?) → (L2.wipe s' ws)[i]? = (L2.wipe s ws)[i]? := by
    intro ws
    induction ws with
    | nil => intro s s' _ i h; rcases h with h | h; · cases h
             · exact h
    | cons w ws ih =>
      intro s s' hl i h
      show ((L2.wipe s' ws).set w none)[i]? = ((L2.wipe s ws).set w none)[i]?
      by_cases e : w = i
      · subst e
        by_cases q : w < s.length
        · rw [List.getElem?_set_self (by rw [wipe_length, hl]; exact q), List.getElem?_set_self (by rw [wipe_length]; exact q)]
        · rw [List.getElem?_eq_none (by rw [List.length_set, wipe_length, hl]; omega), List.getElem?_eq_none (by rw [List.length_set, wipe_length]; omega)]
      · rw [List.getElem?_set_ne e, List.getElem?_set_ne e]
        refine ih s s' hl i ?_
        rcases h with h | h
        · rcases List.mem_cons.mp h with h | h
          · exact absurd h.symm e
          · exact .inl h
        · exact .inr h
  apply List.ext_getElem?
  intro i
  refine gen vs s s' a.1 i ?_
  by_cases h : i ∈ vs
  · exact .inl h
  · exact .inr (a.2 i h)
def tG (K : PySem.W.Frag) (g : Tg) : TG := fun v s H Q => ∃ M Fr r z Qd, Sim K M Fr r s H ∧ RepV K M Fr r s H v z ∧ wG g z r Qd ∧ ∀ M' r' s' H', Sim K M' Fr r' s' H' → M.Le M' → Keeps g.sl s s' → Qd r' → Q s' H'
def tGs (K : PySem.W.Frag) (gs : List Tg) : TGs := fun vs s H Q => ∃ M Fr r ds Qd, Sim K M Fr r s H ∧ RepL K M vs ds ∧ wGs gs ds r Qd ∧ ∀ M' r' s' H', Sim K M' Fr r' s' H' → M.Le M' → Keeps (slAll gs) s s' → Qd r' → Q s' H'
theorem PG.imp {X : Cx} {e : Expr} {t t' : TG} (h : PG X e t) (m : ∀ v s H Q, t' v s H Q → t v s H Q) : PG X e t' := ⟨fun pins s σ H v u Q I r q => h.run pins s σ H v u Q I r (m v σ H Q q)⟩
theorem PGs.imp {X : Cx} {e : List Expr} {t t' : TGs} (h : PGs X e t) (m : ∀ v s H Q, t' v s H Q → t v s H Q) : PGs X e t' := ⟨fun pins s σ H v u Q I r q => h.run pins s σ H v u Q I r (m v σ H Q q)⟩
theorem PG.or {X : Cx} {e : Expr} {t t' : TG} (h : PG X e t) (h' : PG X e t') : PG X e (fun v s H Q => t v s H Q ∨ t' v s H Q) := ⟨fun pins s σ H v u Q I r q => by
  rcases q with q | q
  · exact h.run pins s σ H v u Q I r q
  · exact h'.run pins s σ H v u Q I r q⟩
section
variable {X : Cx} {pos : Pos}
theorem sg_nm {i : Nat} {x : Str} (hN : X.N.Nodup) (hi : X.N[i]? = some x) (hx : Loc X.env.scope x) (hf : X.fn x = true ∨ X.env.scope.names.lookup x = some .local) : PG X (.Name x pos) (tG X.K (.nm i)) :=
  PG.imp (pg_name hN hi hx hf) fun v s H Q h => by
    obtain ⟨M, Fr, r, z, Qd, S, rv, w, post⟩ := h
    simp only [wG] at w
    exact post M _ _ H (S.set i rv) (.refl M) (Keeps.set s i _ (by simp [Tg.sl])) w.2
theorem sgs_nil : PGs X [] (tGs X.K []) := PGs.imp pgs_nil fun v s H Q h => by
  obtain ⟨M, Fr, r, ds, Qd, S, rl, w, post⟩ := h
  cases rl with
  | nil => exact ⟨rfl, post M r s H S (.refl M) (.refl _ s) (by simpa only [wGs] using w)⟩
  | cons _ _ => simp only [wGs] at w
theorem sgs_cons {e : Expr} {es : List Expr} {g : Tg} {gs : List Tg} (h1 : PG X e (tG X.K g)) (h2 : PGs X es (tGs X.K gs)) (hs : (assignEach (e :: es) X.env).map (·.2) = assign e X.env :: (assignEach es X.env).map (·.2)) : PGs X (e :: es) (tGs X.K (g :: gs)) :=
  PGs.imp (pgs_cons h1 h2 hs) fun v s H Q h => by
    obtain ⟨M, Fr, r, ds, Qd, S, rl, w, post⟩ := h
    cases rl with
    | nil => simp only [wGs] at w
    | @cons v vs d ds rp rl =>
      simp only [wGs] at w
      refine ⟨v, vs, rfl, M, Fr, r, .val d, _, S, .val rp, w, fun M1 r1 s1 H1 S1 le1 kp1 w1 => ?_⟩
      refine ⟨M1, Fr, r1, ds, Qd, S1, rl.mono le1, w1, fun M2 r2 s2 H2 S2 le2 kp2 q => ?_⟩
      refine post M2 r2 s2 H2 S2 (le1.trans le2) ((kp1.mono fun i hi => ?_).trans (kp2.mono fun i hi => ?_)) q
      · show i ∈ slAll (g :: gs)
        rw [slAll]; exact List.mem_append_left _ hi
      · show i ∈ slAll (g :: gs)
        rw [slAll]; exact List.mem_append_right _ hi
theorem sg_tp {es : List Expr} {gs : List Tg} {k : Nat} (hc : X.calm = true) (h : PGs X es (tGs X.K gs)) (hst : (assignEach es X.env).findIdx? (·.1) = none) (hlen : (assignEach es X.env).length = gs.length) : PG X (.Tuple es k pos) (tG X.K (.tp gs)) :=
  PG.imp (PG.or (pg_tup hc h rfl hst) (pg_lst hc h rfl hst)) fun v s H Q hw => by
    obtain ⟨M, Fr, r, z, Qd, S, rv, w, post⟩ := hw
    obtain ⟨M1, S1, le1, rp⟩ := S.freeze rv
    simp only [wG] at w
    split at w
    · rename_i ds e
      rw [e] at rp
      cases rp with
      | tup h1 rl => exact .inl ⟨_, _, rfl, sqT_mono S1.good.le h1, by rw [rl.length, hlen]; exact w.1, M1, Fr, r, ds, Qd, S1, rl, w.2, fun M' r' s' H' S' le' => post M' r' s' H' S' (le1.trans le')⟩
    · rename_i ds e
      rw [e] at rp
      cases rp with
      | lst h1 rl => exact .inr ⟨_, _, rfl, SqL.of (S1.good.le _ _ h1), by rw [rl.length, hlen]; exact w.1, M1, Fr, r, ds, Qd, S1, rl, w.2, fun M' r' s' H' S' le' => post M' r' s' H' S' (le1.trans le')⟩
    · exact w.elim

/-! ### a, *b = a tuple -/
theorem ns_uniq {h : Heap} {a : Addr} {m m' : Str → Option Value} (x : h.Ns a m) (y : h.Ns a m') : m = m' := by
  obtain ⟨o, es, ep, e, d, _, f⟩ := x
  obtain ⟨o', es', ep', e', d', _, f'⟩ := y
  rw [e] at e'; cases e'
  rw [d] at d'; cases d'
  funext n
  exact (f n).symm.trans (f' n)
theorem hok_gone {P : Program} {w : World} {H : Hp} {h : Heap} {a : Addr} (x : HOk P w H h) (e : h.get? a = none) : H a = none := by
  cases q : H a with
  | none => rfl
  | some o =>
    obtain ⟨u, hu⟩ := objOk_get (x a o q)
    rw [e] at hu; cases hu
theorem hok_laid {P : Program} {w : World} {H : Hp} {h h' : Heap} {a : Addr} {o : HO} (x : HOk P w H h) (k : ∀ b u, H b ≠ none → h.get? b = some u → h'.get? b = some u) (e : h.get? a = none) (new : ObjOk P w (upd H a o) h' a o) : HOk P w (upd H a o) h' := fun b u q => by
  have hn := hok_gone x e
  by_cases hb : b = a
  · subst hb; rw [upd_same] at q; cases q; exact new
  · rw [upd_ne hb] at q
    refine (x b u q).stay (fun c v hc z => k c v ?_ z) (fun c z => by rw [upd_ne (ne_of_none z hn)]; exact z) fun c xs z => by rw [upd_ne (ne_of_none z hn)]; exact z
    rcases hc with rfl | hc
    · rw [q]; exact fun z => nomatch z
    · rw [hc]; exact fun z => nomatch z
def gStar (K : PySem.W.Frag) (i j : Nat) : TG := fun v s H Q => ∃ a z zs, v = .ref a ∧ SqT K H a (z :: zs) ∧ zs.length < 16000 ∧ ∀ D, H D = none → Q ((s.set i (some z)).set j (some (.ref D))) (upd H D (.lst zs))
theorem pg_star {i j : Nat} {x y : Str} {px py ps : Pos} {k : Nat} (hc : X.calm = true) (hN : X.N.Nodup) (hi : X.N[i]? = some x) (hj : X.N[j]? = some y) (hx : Loc X.env.scope x) (hy : Loc X.env.scope y) (hfx : X.fn x = true ∨ X.env.scope.names.lookup x = some .local) (hfy : X.fn y = true ∨ X.env.scope.names.lookup y = some .local) :
    PG X (.Tuple [.Name x px, .Starred (.Name y py) ps] k pos) (gStar X.K i j) := by
  refine ⟨fun pins s σ H v u Q I r hw => ?_⟩
  obtain ⟨a, z, zs, rfl, hq, hz, q⟩ := hw
  cases r
  obtain ⟨its, rv, ht, hl⟩ := I.tuple hq
  cases rv with
  | @cons _ u _ us ru rus =>
    have hul : us.length < 16000 := by rw [← rus.length]; exact hz
    obtain ⟨m, Fm⟩ := I.fr
    refine PySem.W.kun_assignT (first := [u]) (mids := us) (lasts := []) (n := 2) (i := 1) Fm (news_all (g := X.base) (h := s.heap) (L := X.env.locals)) ht (I.ok.hd hc) rfl rfl (by decide) (by simp) (by simp; omega) (by simp) (by simp) (by simp) fun D h' tk F' N' lt => ?_
    have hD := N' (D, PySem.W.listOf us.toArray 0) List.mem_cons_self
    have keep : ∀ b o, b ≠ X.env.locals → s.heap.get? b = some o → h'.get? b = some o := fun b o hb e => by
      cases g : X.base.get? b with
      | some w =>
        have := I.bk b w g
        rw [e] at this; cases this
        exact F'.keep b _ g
      | none => exact (N' (b, o) (List.mem_cons_of_mem _ (mem_allNews hb g e))).1
    have fresh : s.heap.get? D = none := by
      cases e : s.heap.get? D with
      | none => rfl
      | some o => exact absurd (lt (D, o) (mem_allNews hD.2.1 hD.2.2 e)) (Nat.lt_irrefl _)
    have HD : H D = none := hok_gone I.hok fresh
    have new : ObjOk X.prog X.w (upd H D (.lst zs)) h' D (.lst zs) := ⟨by rw [sizeLine_eq]; omega, us, 0, rus, hD.1⟩
    have free : ∀ b, H b ≠ none → b ≠ X.env.locals := fun b hb e => hb (by rw [e]; exact I.free)
    have I1 : Inv X pins σ (upd H D (.lst zs)) { s with heap := h', toks := tk } := by
      refine I.step (g' := s.gens) (d' := s.drawn) (ch := []) (fun _ z => nomatch z) (fun b o hb _ _ e _ => keep b o hb e) (fun b o hb _ _ e _ => ⟨o.slots, keep b o hb e⟩) (fun b o _ e n => ?_) (fun b o _ e => ?_) (fun b xs e => ?_) (fun b o xs e => ?_) (fun b ps e => ?_) (fun m' hm => ?_) (hok_laid I.hok (fun b u hb e => keep b u (free b hb) e) fresh new) I.bare
      · rw [upd_ne (fun z => by rw [z, fresh] at e; cases e)]; exact n
      · by_cases hb : b = X.env.locals
        · obtain ⟨oL, _, _, e2, _⟩ := F'.ns
          exact ⟨oL, by rw [hb]; exact e2⟩
        · exact ⟨o, keep b o hb e⟩
      · rw [upd_ne (ne_of_none e HD)]; exact e
      · rw [upd_ne (ne_of_none e HD)]; exact e
      · exact ⟨#[], by rw [upd_ne (ne_of_none e HD), e]; simp⟩
      · rw [ns_uniq hm Fm.ns]; exact F'.ns
    have G : PGs X [.Name x px, .Name y py] (gCons (gName i) (gCons (gName j) gNil)) := pgs_cons (pg_name hN hi hx hfx) (pgs_cons (pg_name hN hj hy hfy) pgs_nil)
    exact G.run pins _ σ _ [z, .ref D] [u, .ref D] Q I1 (.cons ru (.cons rfl .nil)) ⟨z, [.ref D], rfl, .ref D, [], rfl, rfl, q D HD⟩
theorem sg_star {i j : Nat} {x y : Str} {px py ps : Pos} {k : Nat} (hc : X.calm = true) (hN : X.N.Nodup) (hi : X.N[i]? = some x) (hj : X.N[j]? = some y) (hx : Loc X.env.scope x) (hy : Loc X.env.scope y) (hfx : X.fn x = true ∨ X.env.scope.names.lookup x = some .local) (hfy : X.fn y = true ∨ X.env.scope.names.lookup y = some .local) :
    PG X (.Tuple [.Name x px, .Starred (.Name y py) ps] k pos) (tG X.K (.star i j)) :=
  PG.imp (pg_star hc hN hi hj hx hy hfx hfy) fun v s H Q hw => by
    obtain ⟨M, Fr, r, z, Qd, S, rv, w, post⟩ := hw
    obtain ⟨M1, S1, le1, rp⟩ := S.freeze rv
    simp only [wG] at w
    split at w
    · rename_i d ds e
      rw [e] at rp
      cases rp with
      | tup h1 rl =>
        cases rl with
        | @cons v vs _ _ rp rl =>
          obtain ⟨w1, w2, w3, w4, w5⟩ := w
          refine ⟨_, _, _, rfl, sqT_mono S1.good.le h1, by rw [rl.length]; exact w4, fun D hD => ?_⟩
          have S2 := S1.set i (.val rp)
          have x := Ext.newOwn (o := .lst vs) S2.good hD
          obtain ⟨f1, f2⟩ := S2.good.free hD
          have S3 := (S2.ext x).set j (RepR.repV S2 x (.own hD upd_same f1 f2 rl))
          exact post M1 _ _ _ S3 le1 ((Keeps.set s i _ (by simp [Tg.sl])).trans (Keeps.set _ j _ (by simp [Tg.sl]))) w5
    · exact w.elim
end
end PL
set_option maxHeartbeats 3900000
/-! PLi: what is walked; list comprehensions -/
namespace PL
open PySem L2

/-- a walk J that yields the data ds -/
def JOk (K : PySem.W.Frag) (M : Gh) (J : L2.It) (ds : List D) : Prop := ∀ M1 H, M.Le M1 → Good M1 H → ∀ i : Nat,
  (∀ d, ds[i]? = some d → J.go i H ∧ ∀ x H', J.yld i H x H' → ∃ M2, Ext M1 M2 H H' ∧ Rep K M2 x d) ∧ (ds.length ≤ i → J.stop i H)
section
variable {K : PySem.W.Frag} {M : Gh} {H : Hp}
theorem jok_list {a : Addr} {vs : List V} {ds : List D} (h : M.I a = some (.lst vs)) (r : RepL K M vs ds) : JOk K M (Itl K a) ds := fun M1 H le g i => by
  have sq : SqL K H a vs := SqL.of (g.le _ _ (le.I _ _ h))
  refine ⟨fun d e => ?_, fun hl => ⟨vs, sq, by rw [r.length]; exact hl⟩⟩
  obtain ⟨v, e1, e2⟩ := r.get e
  refine ⟨⟨vs, v, sq, e1⟩, fun x H' y => ?_⟩
  obtain ⟨rfl, y⟩ := y
  have := y vs sq
  rw [e1] at this; cases this
  exact ⟨M1, .refl g, e2.mono le⟩
theorem jok_tup {a : Addr} {vs : List V} {ds : List D} (h : SqT K M.I a vs) (r : RepL K M vs ds) : JOk K M (Itt K a) ds := fun M1 H le g i => by
  have sq : SqT K H a vs := sqT_mono g.le (sqT_mono le.I h)
  refine ⟨fun d e => ?_, fun hl => ⟨vs, sq, by rw [r.length]; exact hl⟩⟩
  obtain ⟨v, e1, e2⟩ := r.get e
  refine ⟨⟨vs, v, sq, e1⟩, fun x H' y => ?_⟩
  obtain ⟨rfl, y⟩ := y
  have := y vs sq
  rw [e1] at this; cases this
  exact ⟨M1, .refl g, e2.mono le⟩
theorem jok_str {x : Str} : JOk K M (Its x) (sgnD x) := fun M1 H le g i => by
  have hl : (sgnD x).length = x.cps.size := by unfold sgnD; rw [List.length_map, Array.length_toList]
  refine ⟨fun d e => ?_, fun h => by rw [hl] at h; exact h⟩
  have hi : i < x.cps.size := by rw [← hl]; exact (List.getElem?_eq_some_iff.mp e).1
  refine ⟨hi, fun v H' y => ?_⟩
  obtain ⟨rfl, c, hc, rfl⟩ := y
  have e2 : (sgnD x)[i]? = some (.str ⟨#[c]⟩) := by unfold sgnD; rw [List.getElem?_map, Array.getElem?_toList, hc]; rfl
  rw [e] at e2; cases e2
  exact ⟨M1, .refl g, .str _⟩
theorem jok_rng {lo : Int} {n : Nat} : JOk K M (Itr lo n) (rngD lo n) := fun M1 H le g i => by
  have hl : (rngD lo n).length = n := by unfold rngD; rw [List.length_map, List.length_range]
  refine ⟨fun d e => ?_, fun h => by rw [hl] at h; exact h⟩
  have hi : i < n := by rw [← hl]; exact (List.getElem?_eq_some_iff.mp e).1
  refine ⟨hi, fun x H' y => ?_⟩
  obtain ⟨rfl, rfl⟩ := y
  have e2 : (rngD lo n)[i]? = some (.int (lo + i)) := by unfold rngD; rw [List.getElem?_map, List.getElem?_range hi]; rfl
  rw [e] at e2; cases e2
  exact ⟨M1, .refl g, .int _⟩
end
section
variable {K : PySem.W.Frag} {M : Gh}
theorem zip_get {dx dy : List D} {i : Nat} {d : D} (e : (zipL dx dy)[i]? = some d) : ∃ x y, dx[i]? = some x ∧ dy[i]? = some y ∧ d = .tup [x, y] := by
  unfold zipL at e
  rw [List.getElem?_zipWith] at e
  cases hx : dx[i]? with
  | none => rw [hx] at e; cases hy : dy[i]? <;> rw [hy] at e <;> cases e
  | some x =>
    cases hy : dy[i]? with
    | none => rw [hx, hy] at e; cases e
    | some y => rw [hx, hy] at e; cases e; exact ⟨x, y, rfl, rfl, rfl⟩
theorem zip_len (dx dy : List D) : (zipL dx dy).length = min dx.length dy.length := by unfold zipL; simp
theorem jok_zip {a b : Addr} {xs ys : List V} {dx dy : List D} (h1 : M.I a = some (.lst xs)) (h2 : M.I b = some (.lst ys)) (r1 : RepL K M xs dx) (r2 : RepL K M ys dy) : JOk K M (Itz K a b) (zipL dx dy) := fun M1 H le g i => by
  have s1 : SqL K H a xs := SqL.of (g.le _ _ (le.I _ _ h1))
  have s2 : SqL K H b ys := SqL.of (g.le _ _ (le.I _ _ h2))
  have hl := zip_len dx dy
  have l1 := r1.length
  have l2 := r2.length
  refine ⟨fun d e => ?_, fun hh => ⟨xs, ys, s1, s2, by omega⟩⟩
  obtain ⟨x, y, ex, ey, rfl⟩ := zip_get e
  obtain ⟨v, ev, rv⟩ := r1.get ex
  obtain ⟨u, eu, ru⟩ := r2.get ey
  refine ⟨⟨xs, ys, v, u, s1, s2, ev, eu⟩, fun z H' yl => ?_⟩
  obtain ⟨T, p, q, rfl, hT, rfl, hp, hq⟩ := yl
  have e1 := hp xs s1
  rw [ev] at e1; cases e1
  have e2 := hq ys s2
  rw [eu] at e2; cases e2
  have l := Gh.le_add (M := M1) (o := .tup [v, u]) (g.free hT).1
  exact ⟨M1.add T (.tup [v, u]), .new g hT, .tup (.inl (.inl upd_same)) (.cons (rv.mono (le.trans l)) (.cons (ru.mono (le.trans l)) .nil))⟩
theorem jok_zipT {a b : Addr} {xs ys : List V} {dx dy : List D} (h1 : SqT K M.I a xs) (h2 : SqT K M.I b ys) (r1 : RepL K M xs dx) (r2 : RepL K M ys dy) : JOk K M (RZ.ItzT K a b) (zipL dx dy) := fun M1 H le g i => by
  have s1 : SqT K H a xs := sqT_mono g.le (sqT_mono le.I h1)
  have s2 : SqT K H b ys := sqT_mono g.le (sqT_mono le.I h2)
  have hl := zip_len dx dy
  have l1 := r1.length
  have l2 := r2.length
  refine ⟨fun d e => ?_, fun hh => ⟨xs, ys, s1, s2, by omega⟩⟩
  obtain ⟨x, y, ex, ey, rfl⟩ := zip_get e
  obtain ⟨v, ev, rv⟩ := r1.get ex
  obtain ⟨u, eu, ru⟩ := r2.get ey
  refine ⟨⟨xs, ys, v, u, s1, s2, ev, eu⟩, fun z H' yl => ?_⟩
  obtain ⟨T, p, q, rfl, hT, rfl, hp, hq⟩ := yl
  have e1 := hp xs s1
  rw [ev] at e1; cases e1
  have e2 := hq ys s2
  rw [eu] at e2; cases e2
  have l := Gh.le_add (M := M1) (o := .tup [v, u]) (g.free hT).1
  exact ⟨M1.add T (.tup [v, u]), .new g hT, .tup (.inl (.inl upd_same)) (.cons (rv.mono (le.trans l)) (.cons (ru.mono (le.trans l)) .nil))⟩
end
def tI (X : Cx) (P : Pg) (F : Fn) (W : WX) (it : It) : TI := tP X.K X.mg W (wI P F it) (fun M _ _ _ _ J ds => JOk X.K M J ds)
theorem PI.imp {X : Cx} {tg e : Expr} {t t' : TI} (h : PI X tg e t) (m : ∀ s H Q, t' s H Q → t s H Q) : PI X tg e t' := ⟨fun pins s σ H R I q => h.run pins s σ H R I (m σ H R q)⟩
section
variable {X : Cx} {P : Pg} {F : Fn} {W : WX} {k : Nat} {a b c tg : Expr} {a' b' c' : Ex} {pos : Pos}
theorem si_seq (ha : PE X a (tE X P F W a')) : PI X tg a (tI X P F W (.seq a')) := by
  refine ⟨fun pins s σ H R I h => ?_⟩
  obtain ⟨M, Fr, r, Qd, Ed, S, w, post, exc⟩ := h
  simp only [wI] at w
  refine thn (ha.run pins s σ H (fun x H1 => ∃ M1 r1 z, Sim X.K M1 Fr r1 σ H1 ∧ M.Le M1 ∧ Rep X.K M1 x z ∧ (match z with
    | .lst ds => Qd ds r1
    | .tup ds => Qd ds r1
    | .str x => Qd (sgnD x) r1
    | _ => False)) I (step1 S w exc fun x M1 r1 H1 z S1 le1 rx q => ⟨M1, r1, z.d, S1, le1, rx, q⟩)) fun v s1 hv => ?_
  obtain ⟨x, H1, I1, rv, M1, r1, z, S1, le1, rp, q⟩ := hv
  cases rp with
  | @lst d vs ds h1 rl =>
    cases rv
    obtain ⟨its, rits, pl, hz⟩ := I1.list (SqL.of (S1.good.le _ _ h1))
    refine wpAny_pyIter_list pl.isList ⟨s1.heap.objs.size, [s1.heap.objs.size], _, Itl X.K d, H1, rfl, I1.kept (t' := s1.toks) fun b o e => Heap.get?_push_of_some _ e, turn_list d _, ⟨_, Heap.get?_push_size _ rfl, rfl, rfl⟩, fun b hb => ?_, post _ _ M1 r1 ds S1 le1 (jok_list h1 rl) q⟩
    have e : b = s1.heap.objs.size := List.mem_singleton.mp hb
    rw [e]
    exact I1.fpOk (Nat.le_refl _) (I1.hok.fresh (Nat.le_refl _))
  | @tup d vs ds h1 rl =>
    cases rv
    obtain ⟨its, rits, pl, hz⟩ := I1.tuple (sqT_mono S1.good.le h1)
    refine wpAny_pyIter_tuple (show s1.heap.IsTuple d its.toArray from pl) ⟨s1.heap.objs.size, [s1.heap.objs.size], _, Itt X.K d, H1, rfl, I1.kept (t' := s1.toks) fun b o e => Heap.get?_push_of_some _ e, turn_tuple d _, ⟨_, Heap.get?_push_size _ rfl, rfl, rfl⟩, fun b hb => ?_, post _ _ M1 r1 ds S1 le1 (jok_tup h1 rl) q⟩
    have e : b = s1.heap.objs.size := List.mem_singleton.mp hb
    rw [e]
    exact I1.fpOk (Nat.le_refl _) (I1.hok.fresh (Nat.le_refl _))
  | str x =>
    obtain ⟨t, rfl⟩ := rv
    have fin := post (Its x) H1 M1 r1 _ S1 le1 jok_str q
    cases hx : x.cps.all (· < 128)
    · exact wpAny_pyIter_wide hx (pi_one (tk := s1.toks) I1 _ (turn_str _ x t "str_iterator" (.inr rfl)) ⟨_, Heap.get?_push_size _ rfl, rfl, rfl⟩ fin)
    · exact wpAny_pyIter_ascii hx (pi_one (tk := s1.toks) I1 _ (turn_str _ x t "str_ascii_iterator" (.inl rfl)) ⟨_, Heap.get?_push_size _ rfl, rfl, rfl⟩ fin)
  | _ => exact q.elim
theorem si_rng1 {p : Pos} (hg : Gl X "range") (hm : X.mg "range" = none) (ha : PE X a (tE X P F W a')) (he : starEach [a] X.env = [(false, eval a X.env)]) : PI X tg (.Call (.Name "range" p) [a] [] pos) (tI X P F W (.rng1 a')) :=
  PI.imp (pi_range1 hg hm (pa_cons ha pa_nil he) he) fun s H Q h => by
    obtain ⟨M, Fr, r, Qd, Ed, S, w, post, exc⟩ := h
    simp only [wI] at w
    refine step1 S w exc fun x M1 r1 H1 z S1 le1 rx hq => ?_
    obtain ⟨j, e, h1, h2, q⟩ := hq
    rw [e] at rx
    cases rx
    exact ⟨j, rfl, h1, h2, post _ _ M1 r1 _ S1 le1 jok_rng q⟩
theorem si_rng2 {p : Pos} (hg : Gl X "range") (hm : X.mg "range" = none) (ha : PE X a (tE X P F W a')) (hb : PE X b (tE X P F W b')) (he : starEach [a, b] X.env = [(false, eval a X.env), (false, eval b X.env)]) (he2 : starEach [b] X.env = [(false, eval b X.env)]) : PI X tg (.Call (.Name "range" p) [a, b] [] pos) (tI X P F W (.rng2 a' b')) :=
  PI.imp (pi_range2 hg hm (pa_cons ha (pa_cons hb pa_nil he2) (by rw [he, he2])) he he2) fun s H Q h => by
    obtain ⟨M, Fr, r, Qd, Ed, S, w, post, exc⟩ := h
    simp only [wI] at w
    refine step1 S w exc fun x M1 r1 H1 z S1 le1 rx w1 => ?_
    refine step1 S1 w1 (fun x H' M' r' cls d S' le' => exc x H' M' r' cls d S' (le1.trans le')) fun y M2 r2 H2 z2 S2 le2 ry w2 => ?_
    obtain ⟨i, j, e1, e2, h1, h2, h3, h4, q⟩ := w2
    rw [e1] at rx
    rw [e2] at ry
    cases rx
    cases ry
    exact ⟨i, j, rfl, ⟨h1, h2, h3, h4⟩, post _ _ M2 r2 _ S2 (le1.trans le2) jok_rng q⟩
theorem si_zip {p tpos : Pos} {elts : List Expr} {kk : Nat} (hg : Gl X "zip") (hm : X.mg "zip" = none) (ha : PE X a (tE X P F W a')) (hb : PE X b (tE X P F W b')) (he : starEach [a, b] X.env = [(false, eval a X.env), (false, eval b X.env)]) (he2 : starEach [b] X.env = [(false, eval b X.env)]) : PI X (.Tuple elts kk tpos) (.Call (.Name "zip" p) [a, b] [] pos) (tI X P F W (.zip a' b')) :=
  PI.imp (RZ.pi_zipA hg hm (pa_cons ha (pa_cons hb pa_nil he2) (by rw [he, he2])) (by rw [he, he2]) (by rw [he2]; rfl)) fun s H Q h => by
    obtain ⟨M, Fr, r, Qd, Ed, S, w, post, exc⟩ := h
    simp only [wI] at w
    refine step1 S w exc fun x M1 r1 H1 z S1 le1 rx w1 => ?_
    refine step1 S1 w1 (fun x H' M' r' cls d S' le' => exc x H' M' r' cls d S' (le1.trans le')) fun y M2 r2 H2 z2 S2 le2 ry w2 => ?_
    obtain ⟨ds, e, q⟩ := w2
    have rx' := rx.mono le2
    unfold zipD at e
    split at e
    · rename_i xs ys ex ey
      cases e
      rw [ex] at rx'
      rw [ey] at ry
      cases rx' with
      | lst h1 rl1 => cases ry with
        | lst h2 rl2 => exact ⟨_, _, _, _, rfl, .inl ⟨SqL.of (S2.good.le _ _ h1), SqL.of (S2.good.le _ _ h2), post _ _ M2 r2 _ S2 (le1.trans le2) (jok_zip h1 h2 rl1 rl2) q⟩⟩
    · rename_i xs ys ex ey
      cases e
      rw [ex] at rx'
      rw [ey] at ry
      cases rx' with
      | tup h1 rl1 => cases ry with
        | tup h2 rl2 => exact ⟨_, _, _, _, rfl, .inr ⟨sqT_mono S2.good.le h1, sqT_mono S2.good.le h2, post _ _ M2 r2 _ S2 (le1.trans le2) (jok_zipT h1 h2 rl1 rl2) q⟩⟩
    · cases e

/-! ### list comprehensions -/
theorem wipeR_len (r : Env) : ∀ vs : List Nat, (wipeR r vs).length = r.length
  | [] => rfl
  | v :: vs => by unfold wipeR; rw [List.length_set, wipeR_len r vs]
theorem wipeR_some {r : Env} {i : Nat} {z : R} : ∀ {vs : List Nat}, (wipeR r vs)[i]? = some (some z) → r[i]? = some (some z) ∧ i ∉ vs
  | [], h => ⟨h, by simp⟩
  | v :: vs, h => by
    unfold wipeR at h
    by_cases e : v = i
    · subst e
      by_cases q : v < (wipeR r vs).length
      · rw [List.getElem?_set_self q] at h; cases h
      · rw [List.getElem?_eq_none (by simpa using q)] at h; cases h
    · rw [List.getElem?_set_ne e] at h
      obtain ⟨h1, h2⟩ := wipeR_some (vs := vs) h
      exact ⟨h1, fun m => (List.mem_cons.mp m).elim (fun z => e z.symm) h2⟩
theorem backR_len (r0 r : Env) : ∀ vs : List Nat, (backR r0 r vs).length = r.length
  | [] => rfl
  | v :: vs => by unfold backR; rw [List.length_set, backR_len r0 r vs]
theorem backR_some {r0 r : Env} (hl : r0.length = r.length) {i : Nat} {z : R} : ∀ {vs : List Nat}, (backR r0 r vs)[i]? = some (some z) → (i ∈ vs ∧ r0[i]? = some (some z)) ∨ (i ∉ vs ∧ r[i]? = some (some z))
  | [], h => .inr ⟨by simp, h⟩
  | v :: vs, h => by
    unfold backR at h
    by_cases e : v = i
    · subst e
      by_cases q : v < (backR r0 r vs).length
      · rw [List.getElem?_set_self q] at h
        refine .inl ⟨List.mem_cons_self, ?_⟩
        have q2 : v < r0.length := by rw [hl]; rw [backR_len] at q; exact q
        rw [List.getD_eq_getElem?_getD, List.getElem?_eq_getElem q2] at h
        rw [List.getElem?_eq_getElem q2]
        exact h
      · rw [List.getElem?_eq_none (by simpa using q)] at h; cases h
    · rw [List.getElem?_set_ne e] at h
      rcases backR_some hl (vs := vs) h with ⟨h1, h2⟩ | ⟨h1, h2⟩
      · exact .inl ⟨List.mem_cons_of_mem _ h1, h2⟩
      · exact .inr ⟨fun m => (List.mem_cons.mp m).elim (fun z => e z.symm) h1, h2⟩
theorem Sim.wiped {K : PySem.W.Frag} {M : Gh} {Fr : Hp} {r : Env} {s : St} {H : Hp} (S : Sim K M Fr r s H) (vs : List Nat) : Sim K M Fr (wipeR r vs) (L2.wipe s vs) H :=
  S.weak (by rw [wipeR_len, wipe_length]; exact S.len) fun i z e => by
    obtain ⟨h1, h2⟩ := wipeR_some e
    exact ⟨h1, wipe_out h2⟩
/-- a cell of our own is locked -/
theorem Sim.lock {K : PySem.W.Frag} {M : Gh} {Fr : Hp} {r : Env} {s : St} {H : Hp} (S : Sim K M Fr r s H) {D : Addr} {o : HO} (h : H D = none) : Sim K M (upd Fr D o) r s (upd H D o) := by
  obtain ⟨f1, f2⟩ := S.good.free h
  have x := Ext.newOwn (o := o) S.good h
  have S' := S.ext x
  refine ⟨S'.good, fun a u e => ?_, fun a p => ?_, fun a u e => ?_, S'.sl, fun i ds e => ?_, S'.inj, S'.len⟩
  · by_cases z : a = D
    · subst z; rw [upd_same] at e ⊢; exact e
    · rw [upd_ne z] at e; exact S'.fr a u e
  · rw [upd_ne (show a ≠ D from fun z => f2 (z ▸ p))]; exact S.frP a p
  · rw [upd_ne (fun z => by rw [z, f1] at e; cases e)]; exact S.frI a u e
  · obtain ⟨a, vs, h1, h2, h3, h4, h5, h6⟩ := S.ow i ds e
    have z : a ≠ D := ne_of_none h2 h
    exact ⟨a, vs, h1, by rw [upd_ne z]; exact h2, h3, h4, by rw [upd_ne z]; exact h5, h6⟩
/-- the locked cell is written -/
theorem Sim.relock {K : PySem.W.Frag} {M : Gh} {Fr : Hp} {r : Env} {s : St} {H : Hp} {D : Addr} {o o' : HO} (S : Sim K M (upd Fr D o) r s H) : Sim K M (upd Fr D o') r s (upd H D o') := by
  have f1 : M.I D = none := by
    cases e : M.I D with
    | none => rfl
    | some u =>
      have := S.frI D u e
      rw [upd_same] at this; cases this
  have f2 : ¬ M.P D := fun p => by
    have := S.frP D p
    rw [upd_same] at this; cases this
  refine ⟨⟨fun a u e => ?_, fun a p => ?_⟩, fun a u e => ?_, fun a p => ?_, fun a u e => ?_, S.sl, fun i ds e => ?_, S.inj, S.len⟩
  · rw [upd_ne (fun z => by rw [z, f1] at e; cases e)]; exact S.good.le a u e
  · obtain ⟨q1, n, q2, q3⟩ := S.good.pot a p
    exact ⟨q1, n, q2, by rw [upd_ne (show a ≠ D from fun z => f2 (z ▸ p))]; exact q3⟩
  · by_cases z : a = D
    · subst z; rw [upd_same] at e ⊢; exact e
    · rw [upd_ne z] at e ⊢; exact S.fr a u (by rw [upd_ne z]; exact e)
  · have z : a ≠ D := fun z => f2 (z ▸ p)
    rw [upd_ne z]
    have := S.frP a p
    rw [upd_ne z] at this; exact this
  · have z : a ≠ D := fun z => by rw [z, f1] at e; cases e
    rw [upd_ne z]
    have := S.frI a u e
    rw [upd_ne z] at this; exact this
  · obtain ⟨a, vs, h1, h2, h3, h4, h5, h6⟩ := S.ow i ds e
    have z : a ≠ D := fun z => by rw [z, upd_same] at h5; cases h5
    refine ⟨a, vs, h1, by rw [upd_ne z]; exact h2, h3, h4, ?_, h6⟩
    rw [upd_ne z]
    rw [upd_ne z] at h5; exact h5
theorem PTs.imp {ifs : List Expr} {t t' : TT} (h : PTs X ifs t) (m : ∀ s H Q, t' s H Q → t s H Q) : PTs X ifs t' := ⟨fun pins s σ H Q I q => h.run pins s σ H Q I (m σ H Q q)⟩
theorem sts_nil : PTs X [] (tTs X P F W []) := PTs.imp pts_nil fun s H Q h => by
  obtain ⟨M, Fr, r, Qd, Ed, S, w, post, exc⟩ := h
  simp only [wTs] at w
  exact post _ _ M r _ S (.refl M) rfl w
theorem sts_one (h : PT X a (tT X P F W a')) : PTs X [a] (tTs X P F W [a']) := PTs.imp (pts_one h) fun s H Q h => by
  obtain ⟨M, Fr, r, Qd, Ed, S, w, post, exc⟩ := h
  simp only [wTs] at w
  exact ⟨M, Fr, r, Qd, Ed, S, w, post, exc⟩
abbrev W0 : WX := fun _ _ _ _ => False
theorem tLc_of {wi : TI} {it' : It} {g' : Tg} {cs' : List Ex} {e' : Ex} {vs : List Nat} (hsl : ∀ i ∈ g'.sl, i ∈ vs) {s : St} {H : Hp} {Q : VK} (h : tE X P F W (.lc g' it' cs' e' vs) s H Q) :
    tLc (tI X P F W it') (tG X.K g') (tTs X P F W0 cs') (tE X P F W0 e') vs s H Q := by
  obtain ⟨M, Fr, r, Qd, Ed, S, w, post, exc⟩ := h
  simp only [wE] at w
  refine ⟨M, Fr, r, _, Ed, S, w, fun J H1 M1 r1 ds S1 le1 jok w1 => ?_, exc⟩
  intro Dd hD
  obtain ⟨hno, w1⟩ := w1
  have SB := (S1.wiped vs).lock (o := .lst []) hD
  have FD : Fr Dd = none := S1.frFree hD
  refine ⟨fun i m Hc => m = ds.length - i ∧ i ≤ ds.length ∧ ∃ M' r' acc avs, Sim X.K M' (upd Fr Dd (.lst avs)) r' (L2.wipe s vs) Hc ∧ M1.Le M' ∧ RepL X.K M' avs acc ∧
    lcP (fun x r2 k => wG g' (.val x) r2 fun r3 => wTs P F cs' r3 (fun b r4 => if b = true then wE P F e' r4 (fun y r5 => k (some y.d) (wipeR r5 vs)) (fun _ _ => False) else k none (wipeR r4 vs)) (fun _ _ => False)) (fun acc r2 => Qd (.own acc) (backR r1 r2 vs)) (ds.drop i) acc r', ⟨ds.length, by simp, Nat.zero_le _, M1, _, [], [], SB, .refl M1, .nil, w1⟩, ?_⟩
  rintro i m Hc ⟨rfl, hi, M', r', acc, avs, S', le', rl, w'⟩
  by_cases hlt : i < ds.length
  · obtain ⟨jgo, _⟩ := jok M' Hc le' S'.good i
    obtain ⟨go, yl⟩ := jgo ds[i] (by simp [hlt])
    refine .inr ⟨go, fun H' => ∃ M2 r2 acc2 avs2, Sim X.K M2 (upd Fr Dd (.lst avs2)) r2 (L2.wipe s vs) H' ∧ M1.Le M2 ∧ RepL X.K M2 avs2 acc2 ∧ lcP _ _ (ds.drop (i + 1)) acc2 r2, fun H' hN => ⟨ds.length - (i + 1), by omega, rfl, hlt, hN⟩, fun x H' y => ?_⟩
    obtain ⟨M2, x2, rx⟩ := yl x H' y
    have S2 := S'.ext x2
    rw [List.drop_eq_getElem_cons hlt] at w'
    simp only [lcP] at w'
    refine ⟨M2, upd Fr Dd (.lst avs), r', .val ds[i], _, S2, .val rx, w', fun M3 r3 s3 H3 S3 le3 kp w3 => ⟨(kp.mono hsl).wipe.trans (by
      apply Keeps.wipe
      refine ⟨wipe_length _ _, fun j hj => wipe_out hj⟩), ?_⟩⟩
    have kp' : L2.wipe s3 vs = L2.wipe s vs := (kp.mono hsl).wipe.trans (by
      apply Keeps.wipe
      exact ⟨wipe_length _ _, fun j hj => wipe_out hj⟩)
    refine ⟨M3, upd Fr Dd (.lst avs), r3, _, _, S3, w3, fun b H4 M4 r4 b' S4 le4 eb w4 => ?_, fun x H' M' r' cls d S' le' rx e => e.elim⟩
    cases eb
    have base4 : M1.Le M4 := ((le'.trans x2.le).trans le3).trans le4
    cases b with
    | false =>
      simp only [Bool.false_eq_true, if_false] at w4 ⊢
      have S5 := S4.wiped vs
      rw [kp'] at S5
      exact ⟨M4, _, acc, avs, S5, base4, ((rl.mono x2.le).mono le3).mono le4, w4⟩
    | true =>
      simp only [if_true] at w4 ⊢
      refine step1 S4 w4 (fun x H' M' r' cls d S' le' rx e => e.elim) fun y M5 r5 H5 z5 S5 le5 ry w5 => ?_
      have rl5 : RepL X.K M5 avs acc := (((rl.mono x2.le).mono le3).mono le4).mono le5
      refine ⟨avs, S5.fr Dd _ upd_same, by rw [rl.length, ← lim_eq]; exact w5.1, ?_⟩
      have S6 := (S5.wiped vs).relock (o' := .lst (avs ++ [y]))
      rw [kp'] at S6
      exact ⟨M5, _, acc ++ [z5.d], avs ++ [y], S6, base4.trans le5, rl5.append (.cons ry .nil), w5.2⟩
  · have e : i = ds.length := by omega
    subst e
    obtain ⟨_, jst⟩ := jok M' Hc le' S'.good ds.length
    refine .inl ⟨jst (Nat.le_refl _), ?_⟩
    rw [List.drop_length] at w'
    simp only [lcP] at w'
    have f1 : M'.I Dd = none := by
      cases e : M'.I Dd with
      | none => rfl
      | some u =>
        have := S'.frI Dd u e
        rw [upd_same] at this; cases this
    have f2 : ¬ M'.P Dd := fun p => by
      have := S'.frP Dd p
      rw [upd_same] at this; cases this
    have hlen : r1.length = r'.length := by rw [S1.len, S'.len, wipe_length]
    have unl : ∀ (a : Addr), (upd Fr Dd (.lst avs)) a = none → a ≠ Dd ∧ Fr a = none := fun a h => by
      have z : a ≠ Dd := fun z => by rw [z, upd_same] at h; cases h
      rw [upd_ne z] at h; exact ⟨z, h⟩
    have S7 : Sim X.K M' Fr (backR r1 r' vs) s Hc := by
      refine ⟨S'.good, fun a o e => S'.fr a o (by rw [upd_ne (fun z => by rw [z, FD] at e; cases e)]; exact e), fun a p => (unl a (S'.frP a p)).2, fun a o e => (unl a (S'.frI a o e)).2, fun j d e => ?_, fun j xs e => ?_, fun j j2 x y hne ex ey => ?_, by rw [backR_len, S'.len, wipe_length]⟩
      · rcases backR_some hlen e with ⟨h1, h2⟩ | ⟨h1, h2⟩
        · obtain ⟨v, e1, e2⟩ := S1.sl j d h2
          exact ⟨v, e1, e2.mono le'⟩
        · obtain ⟨v, e1, e2⟩ := S'.sl j d h2
          rw [wipe_out h1] at e1
          exact ⟨v, e1, e2⟩
      · rcases backR_some hlen e with ⟨h1, h2⟩ | ⟨h1, h2⟩
        · exact absurd h2 (hno j h1 xs)
        · obtain ⟨a, us, e1, e2, e3, e4, e5, e6⟩ := S'.ow j xs h2
          rw [wipe_out h1] at e1
          exact ⟨a, us, e1, e2, e3, e4, (unl a e5).2, e6⟩
      · rcases backR_some hlen ex with ⟨h1, h2⟩ | ⟨h1, h2⟩
        · exact absurd h2 (hno j h1 x)
        · rcases backR_some hlen ey with ⟨h3, h4⟩ | ⟨h3, h4⟩
          · exact absurd h4 (hno j2 h3 y)
          · have := S'.inj j j2 x y hne h2 h4
            rw [wipe_out h1, wipe_out h3] at this; exact this
    refine post _ _ M' _ _ S7 (le1.trans le') (.own (S'.fr Dd _ upd_same) f1 f2 FD (fun j x e q => ?_) rl) w'
    rcases backR_some hlen e with ⟨h1, h2⟩ | ⟨h1, h2⟩
    · exact absurd h2 (hno j h1 x)
    · obtain ⟨a, us, e1, e2, e3, e4, e5, e6⟩ := S'.ow j x h2
      rw [wipe_out h1, q] at e1
      cases e1
      exact (unl _ e5).1 rfl
theorem se_lc {elt iter : Expr} {ifs : List Expr} {scope : Scope} {own : List (Str × Nat)} {it' : It} {g' : Tg} {cs' : List Ex} {e' : Ex} (C : Calm X k) (hN : X.N.Nodup) (hi : PI X tg iter (tI X P F W it')) (ok : BlkOk X.N X.env.scope scope own)
    (hg : ∀ (s : Shared) (H : Hp) (C : Addr) (cl : List (Str × Addr)) (fp : List Addr), PG (X.blk s H scope (compEnvC scope cl C X.env) fp) tg (tG X.K g')) (ht : ∀ (s : Shared) (H : Hp) (C : Addr) (cl : List (Str × Addr)) (fp : List Addr), PTs (X.blk s H scope (compEnvC scope cl C X.env) fp) ifs (tTs X P F W0 cs'))
    (he : ∀ (s : Shared) (H : Hp) (C : Addr) (cl : List (Str × Addr)) (fp : List Addr), PE (X.blk s H scope (compEnvC scope cl C X.env) fp) elt (tE X P F W0 e')) (hsl : ∀ i ∈ g'.sl, i ∈ own.map (·.2)) (hs : ∀ x, foldedSetIterable iter X.env x = pure x) :
    PE X (.ListComp elt [⟨tg, iter, ifs, 0⟩] scope pos) (tE X P F W (.lc g' it' cs' e' (own.map (·.2)))) :=
  PE.imp (pe_lc C.c hN hi ok hg ht he hs) fun s H Q h => tLc_of (wi := tI X P F W it') hsl h
end
end PL
set_option maxHeartbeats 3900000
/-! PLj: calls of defs, statements -/
namespace PL
open PySem L2

/-- a def that keeps a promise, called where no guard is up -/
structure FnG (P : Program) (w : World) (K : PySem.W.Frag) (mg : Str → Option Value) (base : Heap) (k : Nat) (f : Addr) (fd : FuncData) (ps : List Str) (sp : Sp) : Prop where
  len : ∀ vs H Q E, sp vs H Q E → vs.length = ps.length
  go : ∀ (A : Around) (out : List PySem.Env) (s : Shared) (H : Hp) (ar : Args) (us : List Value) (vs : List V) (Q : VK) (E : XK), Room k A → A.guards = some [] → Env0 P w K mg base A out s H →
    BindsTo s fd ar (ps.zip us) → Vals vs us → sp vs H Q E → codeAny (model P w) A (.call (.ref f) ar) (CR (L2N.CX P w) out P w H s Q E) s
theorem FnG.mono {P : Program} {w : World} {K : PySem.W.Frag} {mg : Str → Option Value} {base : Heap} {j k : Nat} {f : Addr} {fd : FuncData} {ps : List Str} {sp : Sp} (x : FnG P w K mg base j f fd ps sp) (h : j ≤ k) : FnG P w K mg base k f fd ps sp :=
  ⟨x.len, fun A out s H ar us vs Q E hr => x.go A out s H ar us vs Q E (hr.mono h)⟩
/-- what is promised of the n-th def -/
def spF (K : PySem.W.Frag) (mg : Str → Option Value) (F : Fn) (n np : Nat) : Sp := fun vs H Q E => vs.length = np ∧ ∃ M ds Qd Ed, Good M H ∧ RepL K M vs ds ∧ F n ds Qd Ed ∧
  (∀ v H' M' z, Ext M M' H H' → RepR K M' H H' v z → Qd z → Q v H') ∧ (∀ x H' M' cls d, Ext M M' H H' → RepX mg x cls d → Ed x → E cls d H')
section
variable {X : Cx} {P : Pg} {F : Fn} {W : WX} {k : Nat} {a b c tg : Expr} {a' b' c' : Ex} {pos : Pos}
theorem run_G {j n np : Nat} {f : Addr} {fd : FuncData} {ps : List Str} (G : FnG X.prog X.w X.K X.mg X.base j f fd ps (spF X.K X.mg F n np)) (C : Calm X j) (hb : Binds X.K fd ps []) (tk : L2N.Takes X W)
    {pins : List (Addr × Obj)} {σ : St} {H : Hp} {s : Shared} {Q : VK} {us : List Value} {vs : List V} (I : Inv X pins σ H s) (rv : Vals vs us) (h : spF X.K X.mg F n np vs H Q (WE W σ)) : wpAny (model X.prog X.w) X.A (call (.ref f) us) (EP X pins σ Q) X.xe s := by
  have hl : (us ++ []).length = ps.length := by rw [List.append_nil, ← rv.length]; exact G.len _ _ _ _ h
  have bt := hb s us I.kIn hl
  rw [List.append_nil] at bt
  refine wpAny_call (codeAny_mono (G.go X.A X.stack s H ⟨us, []⟩ us vs Q (WE W σ) C.r C.g I.env0 bt rv h) fun rr s' hq => ?_)
  cases rr with
  | error e => exact L2N.passAt tk σ pins H s e s' I hq
  | ok fl =>
    cases fl with
    | ret u => exact I.after hq
    | next => exact hq.elim
    | brk => exact hq.elim
    | cont => exact hq.elim
theorem sp_of {n np : Nat} {s : St} {Q : VK} {M M1 : Gh} {Fr : Hp} {r1 : PL.Env} {H1 : Hp} {vs : List V} {ds : List D} {Qd : R → PL.Env → Prop} {Ed : Xc → PL.Env → Prop} (S1 : Sim X.K M1 Fr r1 s H1) (le1 : M.Le M1) (rl : RepL X.K M1 vs ds) (hl : vs.length = np) (wf : F n ds (fun z => Qd z r1) (fun x => Ed x r1))
    (post : ∀ v H' M' r' z, Sim X.K M' Fr r' s H' → M.Le M' → RepV X.K M' Fr r' s H' v z → Qd z r' → Q v H') (exc : ∀ x H' M' r' cls d, Sim X.K M' Fr r' s H' → M.Le M' → RepX X.mg x cls d → Ed x r' → W cls d s H') :
    spF X.K X.mg F n np vs H1 Q (WE W s) :=
  ⟨hl, M1, ds, _, _, S1.good, rl, wf, fun v H' M' z x rr q => post v H' M' r1 z (S1.ext x) (le1.trans x.le) (rr.repV S1 x) q, fun x H' M' cls d xx rx e => exc x H' M' r1 cls d (S1.ext xx) (le1.trans xx.le) rx e⟩
theorem se_call {j n np : Nat} {f : Addr} {fd : FuncData} {ps : List Str} {x : Str} {p : Pos} {e : Expr} {es : List Expr} {es' : List Ex} (G : FnG X.prog X.w X.K X.mg X.base j f fd ps (spF X.K X.mg F n np)) (C : Calm X j) (hb : Binds X.K fd ps []) (tk : L2N.Takes X W)
    (hg : Gl X x) (hm : X.mg x = some (.ref f)) (hk : PySem.W.keepIn X.K (.ref f) = true) (ha : PA X (e :: es) (tA X P F W es')) (hdb : (x == ("__debug__" : Str)) = false)
    (he : starEach (e :: es) X.env = (false, eval e X.env) :: starEach es X.env) (hpl : (backTo pos (starEach es X.env)).any (·.1) = false) (hF : ∀ ds Q E, F n ds Q E → ds.length = np) :
    PE X (.Call (.Name x p) (e :: es) [] pos) (tE X P F W (.call n es')) := by
  refine ⟨fun pins s σ H Q I h => ?_⟩
  obtain ⟨M, Fr, r, Qd, Ed, S, w, post, exc⟩ := h
  simp only [wE] at w
  refine wpAny_Call_Name_kw (ld_glob I hg hm ?_ hdb)
  refine PySem.W.callWith_K (h₀ := X.base) I.ok.mod.kin hk (thn (ha.run pos pins s σ H (fun vs H1 => spF X.K X.mg F n np vs H1 Q (WE W σ)) I (stepA S w exc fun vs ds M1 r1 H1 S1 le1 rl wf => ?_)) fun us s1 hh => ?_) he hpl
  · exact sp_of S1 le1 rl (by rw [rl.length]; exact hF _ _ _ wf) wf post exc
  · obtain ⟨vs, H1, I1, rv, q⟩ := hh
    exact ⟨I1.kIn, run_G G C hb tk I1 rv q⟩
theorem se_call0 {j n : Nat} {f : Addr} {fd : FuncData} {ps : List Str} {x : Str} {p : Pos} (G : FnG X.prog X.w X.K X.mg X.base j f fd ps (spF X.K X.mg F n 0)) (C : Calm X j) (hb : Binds X.K fd ps []) (tk : L2N.Takes X W)
    (hg : Gl X x) (hm : X.mg x = some (.ref f)) (hk : PySem.W.keepIn X.K (.ref f) = true) (hdb : (x == ("__debug__" : Str)) = false) : PE X (.Call (.Name x p) [] [] pos) (tE X P F W (.call n [])) := by
  refine ⟨fun pins s σ H Q I h => ?_⟩
  obtain ⟨M, Fr, r, Qd, Ed, S, w, post, exc⟩ := h
  simp only [wE, wEs] at w
  refine wpAny_Call_Name_kw (ld_glob I hg hm ?_ hdb)
  exact PySem.W.callWith_K0 I.kIn hk (run_G (us := []) G C hb tk I .nil (sp_of S (.refl M) .nil rfl w post exc))

/-! ### statements -/
structure EndsOk (K : PySem.W.Frag) (mg : Str → Option Value) (W : WX) (M : Gh) (Fr : Hp) (Dd : Ed) (D : Ends) : Prop where
  nx : ∀ M' r' s' H', Sim K M' Fr r' s' H' → M.Le M' → Dd.nx r' → D.nx s' H'
  rt : ∀ v z M' r' s' H', Sim K M' Fr r' s' H' → M.Le M' → RepV K M' Fr r' s' H' v z → Dd.rt z → D.rt v H'
  bk : ∀ M' r' s' H', Sim K M' Fr r' s' H' → M.Le M' → Dd.bk r' → D.bk s' H'
  ct : ∀ M' r' s' H', Sim K M' Fr r' s' H' → M.Le M' → Dd.ct r' → D.ct s' H'
  ex : ∀ x cls d M' r' s' H', Sim K M' Fr r' s' H' → M.Le M' → RepX mg x cls d → Dd.ex x r' → W cls d s' H'
theorem EndsOk.le {K : PySem.W.Frag} {mg : Str → Option Value} {M M1 : Gh} {Fr : Hp} {Dd : Ed} {D : Ends} (e : EndsOk K mg W M Fr Dd D) (le : M.Le M1) : EndsOk K mg W M1 Fr Dd D :=
  ⟨fun M' r' s' H' S l => e.nx M' r' s' H' S (le.trans l), fun v z M' r' s' H' S l => e.rt v z M' r' s' H' S (le.trans l), fun M' r' s' H' S l => e.bk M' r' s' H' S (le.trans l), fun M' r' s' H' S l => e.ct M' r' s' H' S (le.trans l), fun x cls d M' r' s' H' S l => e.ex x cls d M' r' s' H' S (le.trans l)⟩
def tS (X : Cx) (P : Pg) (F : Fn) (W : WX) (st : Sm) : TS := fun D s H => ∃ M Fr r Dd, Sim X.K M Fr r s H ∧ wS P F st r Dd ∧ EndsOk X.K X.mg W M Fr Dd D
def tSs (X : Cx) (P : Pg) (F : Fn) (W : WX) (st : List Sm) : TS := fun D s H => ∃ M Fr r Dd, Sim X.K M Fr r s H ∧ wSs P F st r Dd ∧ EndsOk X.K X.mg W M Fr Dd D
theorem PS.imp {st : Stmt} {t t' : TS} (h : PS X st t) (m : ∀ D s H, t' D s H → t D s H) : PS X st t' := ⟨fun pins s σ H D I q => h.run pins s σ H D I (m D σ H q)⟩
theorem PSs.imp {st : List Stmt} {t t' : TS} (h : PSs X st t) (m : ∀ D s H, t' D s H → t D s H) : PSs X st t' := ⟨fun pins s σ H D I q => h.run pins s σ H D I (m D σ H q)⟩
theorem ss_nil : PSs X [] (tSs X P F W []) := PSs.imp pss_nil fun D s H h => by
  obtain ⟨M, Fr, r, Dd, S, w, e⟩ := h
  simp only [wSs] at w
  exact e.nx M r s H S (.refl M) w
theorem ss_cons {st : Stmt} {sts : List Stmt} {s' : Sm} {ss' : List Sm} (h1 : PS X st (tS X P F W s')) (h2 : PSs X sts (tSs X P F W ss')) : PSs X (st :: sts) (tSs X P F W (s' :: ss')) :=
  PSs.imp (pss_cons h1 h2) fun D s H h => by
    obtain ⟨M, Fr, r, Dd, S, w, e⟩ := h
    simp only [wSs] at w
    exact ⟨M, Fr, r, _, S, w, fun M' r' s' H' S' l q => ⟨M', Fr, r', Dd, S', q, e.le l⟩, e.rt, e.bk, e.ct, e.ex⟩
theorem s_asg {g' : Tg} (he : PE X a (tE X P F W a')) (hg : PG X tg (tG X.K g')) (hs : swapsWithSole [tg] a pos.line X.env = pure false) (hw : swappedStores [tg] a X.env = pure none) (h1 : (assignEach [tg] X.env).map (·.2) = [assign tg X.env]) : PS X (.Assign [tg] a pos) (tS X P F W (.asg g' a')) :=
  PS.imp (ps_asg he hg hs hw h1) fun D s H h => by
    obtain ⟨M, Fr, r, Dd, S, w, e⟩ := h
    simp only [wS] at w
    refine ⟨M, Fr, r, _, _, S, w, fun v H1 M1 r1 z S1 le1 rv w1 => ?_, fun x H' M' r' cls d S' l rx ee => e.ex x cls d M' r' s H' S' l rx ee⟩
    exact ⟨M1, Fr, r1, z, _, S1, rv, w1, fun M' r' s' H' S' l _ q => e.nx M' r' s' H' S' (le1.trans l) q⟩
/-- name = [.. for ..] on one line -/
theorem s_asgLc {i : Nat} {y : Str} {py : Pos} {elt iter : Expr} {ifs : List Expr} {scope : Scope} {own : List (Str × Nat)} {it' : It} {g' : Tg} {cs' : List Ex} {e' : Ex} {spos : Pos} (C : Calm X k) (hN : X.N.Nodup) (hy : X.N[i]? = some y) (hyl : X.env.scope.names.lookup y = some .local)
    (hsw : swapsWith (.ListComp elt [⟨tg, iter, ifs, 0⟩] scope pos) (some (.Name y py)) spos.line X.env = pure true) (hi : PI X tg iter (tI X P F W it')) (ok : BlkOk X.N X.env.scope scope own)
    (hg : ∀ (s : Shared) (H : Hp) (C : Addr) (cl : List (Str × Addr)) (fp : List Addr), PG (X.blk s H scope (compEnvC scope cl C X.env) fp) tg (tG X.K g')) (ht : ∀ (s : Shared) (H : Hp) (C : Addr) (cl : List (Str × Addr)) (fp : List Addr), PTs (X.blk s H scope (compEnvC scope cl C X.env) fp) ifs (tTs X P F W0 cs'))
    (he : ∀ (s : Shared) (H : Hp) (C : Addr) (cl : List (Str × Addr)) (fp : List Addr), PE (X.blk s H scope (compEnvC scope cl C X.env) fp) elt (tE X P F W0 e')) (hsl : ∀ i ∈ g'.sl, i ∈ own.map (·.2)) (hs : ∀ x, foldedSetIterable iter X.env x = pure x) :
    PS X (.Assign [.Name y py] (.ListComp elt [⟨tg, iter, ifs, 0⟩] scope pos) spos) (tS X P F W (.asg (.nm i) (.lc g' it' cs' e' (own.map (·.2))))) :=
  PS.imp (ps_setLc C.c hN hy hyl hsw hi ok hg ht he hs) fun D s H h => by
    obtain ⟨M, Fr, r, Dd, S, w, e⟩ := h
    simp only [wS] at w
    refine tLc_of (wi := tI X P F W it') hsl (Q := fun x H1 => gName i x s H1 D.nx) ⟨M, Fr, r, _, _, S, w, fun v H1 M1 r1 z S1 le1 rv w1 => ?_, fun x H' M' r' cls d S' l rx ee => e.ex x cls d M' r' s H' S' l rx ee⟩
    simp only [wG] at w1
    exact e.nx M1 _ _ _ (S1.set i rv) le1 w1.2
theorem s_ex (he : PE X a (tE X P F W a')) (hs : swapsWith a none pos.line X.env = pure false) : PS X (.Expr a pos) (tS X P F W (.ex a')) :=
  PS.imp (ps_expr he hs) fun D s H h => by
    obtain ⟨M, Fr, r, Dd, S, w, e⟩ := h
    simp only [wS] at w
    exact ⟨M, Fr, r, _, _, S, w, fun v H1 M1 r1 z S1 le1 rv w1 => e.nx M1 r1 s H1 S1 le1 w1, fun x H' M' r' cls d S' l rx ee => e.ex x cls d M' r' s H' S' l rx ee⟩
theorem s_ret (he : PE X a (tE X P F W a')) : PS X (.Return (some a) pos) (tS X P F W (.ret a')) :=
  PS.imp (ps_ret he) fun D s H h => by
    obtain ⟨M, Fr, r, Dd, S, w, e⟩ := h
    simp only [wS] at w
    exact ⟨M, Fr, r, _, _, S, w, fun v H1 M1 r1 z S1 le1 rv w1 => e.rt v z M1 r1 s H1 S1 le1 rv w1, fun x H' M' r' cls d S' l rx ee => e.ex x cls d M' r' s H' S' l rx ee⟩
theorem s_retN : PS X (.Return none pos) (tS X P F W .retN) :=
  PS.imp ps_retN fun D s H h => by
    obtain ⟨M, Fr, r, Dd, S, w, e⟩ := h
    simp only [wS] at w
    exact e.rt .non _ M r s H S (.refl M) (.val .non) w
theorem s_if {x y : List Stmt} {x' y' : List Sm} (hc : PT X c (tT X P F W c')) (ha : PSs X x (tSs X P F W x')) (hb : PSs X y (tSs X P F W y')) : PS X (.If c x y pos) (tS X P F W (.ife c' x' y')) :=
  PS.imp (ps_if hc ha hb) fun D s H h => by
    obtain ⟨M, Fr, r, Dd, S, w, e⟩ := h
    simp only [wS] at w
    refine stepT S w (fun x H' M' r' cls d S' l rx ee => e.ex x cls d M' r' s H' S' l rx ee) fun t M1 r1 H1 S1 le1 q => ?_
    cases t with
    | true =>
      simp only [if_true] at q ⊢
      exact ⟨M1, Fr, r1, Dd, S1, q, e.le le1⟩
    | false =>
      simp only [Bool.false_eq_true, if_false] at q ⊢
      exact ⟨M1, Fr, r1, Dd, S1, q, e.le le1⟩
theorem s_pass : PS X (.Pass pos) (tS X P F W .pas) := PS.imp ps_pass fun D s H h => by
  obtain ⟨M, Fr, r, Dd, S, w, e⟩ := h
  simp only [wS] at w
  exact e.nx M r s H S (.refl M) w
theorem s_brk : PS X (.Break pos) (tS X P F W .brk) := PS.imp ps_break fun D s H h => by
  obtain ⟨M, Fr, r, Dd, S, w, e⟩ := h
  simp only [wS] at w
  exact e.bk M r s H S (.refl M) w
theorem s_cnt : PS X (.Continue pos) (tS X P F W .cnt) := PS.imp ps_continue fun D s H h => by
  obtain ⟨M, Fr, r, Dd, S, w, e⟩ := h
  simp only [wS] at w
  exact e.ct M r s H S (.refl M) w
theorem s_for {iter : Expr} {body : List Stmt} {b' : List Sm} {it' : It} {g' : Tg} (hp : PassesOwn (model X.prog X.w) X.A X.env X.xe) (hc : X.calm = true) (hi : PI X tg iter (tI X P F W it')) (hg : PG X tg (tG X.K g')) (hb : PSs X body (tSs X P F W b')) (hs : ∀ x, foldedSetIterable iter X.env x = pure x) :
    PS X (.For tg iter body [] pos) (tS X P F W (.fo g' it' b')) :=
  PS.imp (ps_for hp hc hi hg hb hs) fun D s H h => by
    obtain ⟨M, Fr, r, Dd, S, w, e⟩ := h
    simp only [wS] at w
    refine ⟨M, Fr, r, _, _, S, w, fun J H1 M1 r1 ds S1 le1 jok w1 => ?_, fun x H' M' r' cls d S' l rx ee => e.ex x cls d M' r' s H' S' l rx ee⟩
    refine ⟨fun i m sc Hc => m = ds.length - i ∧ i ≤ ds.length ∧ ∃ M' r', Sim X.K M' Fr r' sc Hc ∧ M1.Le M' ∧ loopP (fun x r2 k => wG g' (.val x) r2 fun r3 => wSs P F b' r3 { Dd with nx := k, ct := k, bk := Dd.nx }) Dd.nx (ds.drop i) r', ⟨ds.length, by simp, Nat.zero_le _, M1, r1, S1, .refl M1, w1⟩, ?_⟩
    rintro i m sc Hc ⟨rfl, hi, M', r', S', le', w'⟩
    by_cases hlt : i < ds.length
    · obtain ⟨jgo, _⟩ := jok M' Hc le' S'.good i
      obtain ⟨go, yl⟩ := jgo ds[i] (by simp [hlt])
      refine .inr ⟨go, fun s2 H2 => ∃ M2 r2, Sim X.K M2 Fr r2 s2 H2 ∧ M1.Le M2 ∧ loopP (fun x r2 k => wG g' (.val x) r2 fun r3 => wSs P F b' r3 { Dd with nx := k, ct := k, bk := Dd.nx }) Dd.nx (ds.drop (i + 1)) r2, fun s2 H2 hN => ⟨ds.length - (i + 1), by omega, rfl, hlt, hN⟩, fun x H' y => ?_⟩
      obtain ⟨M2, x2, rx⟩ := yl x H' y
      have S2 := S'.ext x2
      rw [List.drop_eq_getElem_cons hlt] at w'
      simp only [loopP] at w'
      refine ⟨M2, Fr, r', .val ds[i], _, S2, .val rx, w', fun M3 r3 s3 H3 S3 le3 _ w3 => ?_⟩
      have l3 : M1.Le M3 := (le'.trans x2.le).trans le3
      exact ⟨M3, Fr, r3, _, S3, w3, fun M4 r4 s4 H4 S4 l4 q => ⟨M4, r4, S4, l3.trans l4, q⟩, fun v z M4 r4 s4 H4 S4 l4 => e.rt v z M4 r4 s4 H4 S4 (le1.trans (l3.trans l4)), fun M4 r4 s4 H4 S4 l4 => e.nx M4 r4 s4 H4 S4 (le1.trans (l3.trans l4)), fun M4 r4 s4 H4 S4 l4 q => ⟨M4, r4, S4, l3.trans l4, q⟩, fun x cls d M4 r4 s4 H4 S4 l4 => e.ex x cls d M4 r4 s4 H4 S4 (le1.trans (l3.trans l4))⟩
    · have ei : i = ds.length := by omega
      subst ei
      obtain ⟨_, jst⟩ := jok M' Hc le' S'.good ds.length
      rw [List.drop_length] at w'
      simp only [loopP] at w'
      exact .inl ⟨jst (Nat.le_refl _), e.nx M' r' sc Hc S' (le1.trans le') w'⟩
theorem s_while {body : List Stmt} {b' : List Sm} (hp : PassesOwn (model X.prog X.w) X.A X.env X.xe) (hc : PT X c (tT X P F W c')) (hb : PSs X body (tSs X P F W b')) : PS X (.While c body [] pos) (tS X P F W (.whil c' b')) :=
  PS.imp (ps_while hp hc hb) fun D s H h => by
    obtain ⟨M, Fr, r, Dd, S, w, e⟩ := h
    simp only [wS] at w
    obtain ⟨n, w⟩ := w
    refine ⟨fun m sc Hc => ∃ M' r', Sim X.K M' Fr r' sc Hc ∧ M.Le M' ∧ whP (fun r k => wT P F c' r k Dd.ex) (fun r k => wSs P F b' r { Dd with nx := k, ct := k, bk := Dd.nx }) Dd.nx m r', ⟨n, M, r, S, .refl M, w⟩, ?_⟩
    rintro m sc Hc ⟨M', r', S', le', w'⟩
    cases m with
    | zero => simp only [whP] at w'
    | succ m =>
      simp only [whP] at w'
      refine stepT S' w' (fun x H' M2 r2 cls d S2 l rx ee => e.ex x cls d M2 r2 sc H' S2 (le'.trans l) rx ee) fun t M1 r1 H1 S1 le1 q => ?_
      cases t with
      | false =>
        simp only [Bool.false_eq_true, if_false] at q ⊢
        exact e.nx M1 r1 sc H1 S1 (le'.trans le1) q
      | true =>
        simp only [if_true] at q ⊢
        have l3 : M.Le M1 := le'.trans le1
        refine ⟨fun s2 H2 => ∃ M2 r2, Sim X.K M2 Fr r2 s2 H2 ∧ M.Le M2 ∧ whP (fun r k => wT P F c' r k Dd.ex) (fun r k => wSs P F b' r { Dd with nx := k, ct := k, bk := Dd.nx }) Dd.nx m r2, fun s2 H2 hN => ⟨m, Nat.lt_succ_self m, hN⟩, ?_⟩
        exact ⟨M1, Fr, r1, _, S1, q, fun M4 r4 s4 H4 S4 l4 q => ⟨M4, r4, S4, l3.trans l4, q⟩, fun v z M4 r4 s4 H4 S4 l4 => e.rt v z M4 r4 s4 H4 S4 (l3.trans l4), fun M4 r4 s4 H4 S4 l4 => e.nx M4 r4 s4 H4 S4 (l3.trans l4), fun M4 r4 s4 H4 S4 l4 q => ⟨M4, r4, S4, l3.trans l4, q⟩, fun x cls d M4 r4 s4 H4 S4 l4 => e.ex x cls d M4 r4 s4 H4 S4 (l3.trans l4)⟩
/-- raise X() -/
theorem mk0 {C : Addr} {x : Str} {p : Pos} {bmB : List Value} {B newId initId : String} (Fx : ExcBaseFacts B newId initId bmB) (q : PySem.W.excIn X.K C bmB newId = true) (gC : X.mg x = some (.ref C)) (kC : PySem.W.keepIn X.K (.ref C) = true) (rs : Raises X (.ref C)) (hg : Gl X x) (hdb : (x == ("__debug__" : Str)) = false) :
    L2N.PMk X (.Call (.Name x p) [] [] pos) (fun _ H Q => Q (.ref C) none H) := by
  intro pins s σ H Q I h
  refine wpAny_Call_Name_kw (ld_glob I hg gC (PySem.W.callWith_K0 I.kIn kC ?_) hdb)
  obtain ⟨bm, N, nm, qn, bs, hdct, sn, sub, ab, col, dd, k0, k1, k2, k3, k5, mN, hC, hN, hni, T⟩ := exc_obj I.kIn q
  exact wpAny_call_exc_subT Fx T hC hN hni (fun h' e hm => L2N.mk_of I hm rs h (I.hok.gone hm.new)) (Nat.zero_le _)
theorem s_raise {C : Addr} {x : Str} {p p2 : Pos} {bmB : List Value} {B newId initId : String} (hc : X.calm = true) (tk : L2N.Takes X W) (Fx : ExcBaseFacts B newId initId bmB) (q : PySem.W.excIn X.K C bmB newId = true) (gC : X.mg x = some (.ref C)) (kC : PySem.W.keepIn X.K (.ref C) = true) (rs : Raises X (.ref C)) (hg : Gl X x) (hdb : (x == ("__debug__" : Str)) = false) :
    PS X (.Raise (some (.Call (.Name x p) [] [] p2)) none pos) (tS X P F W (.rais x)) :=
  PS.imp (L2N.ps_raise hc tk (mk0 Fx q gC kC rs hg hdb)) fun D s H h => by
    obtain ⟨M, Fr, r, Dd, S, w, e⟩ := h
    simp only [wS] at w
    exact e.ex _ _ _ M r s H S (.refl M) ⟨rfl, rfl, C, gC, rfl⟩ w
end
end PL
set_option maxHeartbeats 3900000
/-! PLjk: calls of defs with keywords (in the parameters' order) -/
namespace PL
open PySem L2
theorem wEs_app {P : Pg} {F : Fn} {b : List Ex} {E : Xc → PL.Env → Prop} : ∀ {a : List Ex} {r : PL.Env} {Q : List D → PL.Env → Prop}, wEs P F (a ++ b) r Q E = wEs P F a r (fun ds r1 => wEs P F b r1 (fun ds' r2 => Q (ds ++ ds') r2) E) E
  | [], r, Q => by simp only [List.nil_append, wEs]
  | e :: a, r, Q => by
    rw [List.cons_append]
    simp only [wEs]
    congr 1
    funext x r1
    rw [wEs_app]
    rfl
section
variable {X : Cx} {P : Pg} {F : Fn} {W : WX} {k : Nat} {pos : Pos}
theorem PK.imp {kws : List Keyword} {t t' : TA} (h : PK X kws t) (m : ∀ s H Q, t' s H Q → t s H Q) : PK X kws t' := ⟨fun pos pins s σ H Q I q => h.run pos pins s σ H Q I (m σ H Q q)⟩
theorem sk_nil : PK X [] (tA X P F W []) := PK.imp pk_nil fun s H Q h => by
  obtain ⟨M, Fr, r, Qd, Ed, S, w, post, exc⟩ := h
  simp only [wEs] at w
  exact post _ _ M r _ S (.refl M) .nil w
theorem sk_cons {e : Expr} {e' : Ex} {nm : Option Str} {kp : Pos} {kws : List Keyword} {es' : List Ex} (ha : PE X e (tE X P F W e')) (hr : PK X kws (tA X P F W es')) : PK X (⟨nm, e, kp⟩ :: kws) (tA X P F W (e' :: es')) :=
  PK.imp (pk_cons ha hr) fun s H Q h => by
    obtain ⟨M, Fr, r, Qd, Ed, S, w, post, exc⟩ := h
    simp only [wEs] at w
    refine step1 S w exc fun x M1 r1 H1 z S1 le rx q => ?_
    refine stepA S1 q (fun x H' M' r' cls d S' le' => exc x H' M' r' cls d S' (le.trans le')) fun vs ds M2 r2 H2 S2 le2 rl q2 => ?_
    exact post _ _ M2 r2 _ S2 (le.trans le2) (.cons (rx.mono le2) rl) q2
theorem vals_pick {vs : List V} {us : List Value} (r : Vals vs us) : ∀ pm : List Nat, Vals (pick .non pm vs) (pick .none pm us)
  | [] => .nil
  | i :: pm => by
    refine .cons ?_ (vals_pick r pm)
    dsimp only
    by_cases h : i < vs.length
    · have h2 : i < us.length := by rw [← r.length]; exact h
      rw [List.getD_eq_getElem?_getD, List.getD_eq_getElem?_getD, List.getElem?_eq_getElem h, List.getElem?_eq_getElem h2]
      obtain ⟨u, e1, e2⟩ := r.get (List.getElem?_eq_getElem h)
      rw [List.getElem?_eq_getElem h2] at e1
      cases e1
      exact e2
    · have h2 : us.length ≤ i := by rw [← r.length]; omega
      rw [List.getD_eq_getElem?_getD, List.getD_eq_getElem?_getD, List.getElem?_eq_none (by omega), List.getElem?_eq_none h2]
      exact rfl
theorem RepL.pick {K : PySem.W.Frag} {M : Gh} {vs : List V} {ds : List D} (r : RepL K M vs ds) : ∀ pm : List Nat, RepL K M (pick .non pm vs) (pick .non pm ds)
  | [] => .nil
  | i :: pm => by
    refine .cons ?_ (RepL.pick r pm)
    dsimp only
    by_cases h : i < vs.length
    · have h2 : i < ds.length := by rw [← r.length]; exact h
      rw [List.getD_eq_getElem?_getD, List.getD_eq_getElem?_getD, List.getElem?_eq_getElem h, List.getElem?_eq_getElem h2]
      obtain ⟨u, e1, e2⟩ := r.get (List.getElem?_eq_getElem h2)
      rw [List.getElem?_eq_getElem h] at e1
      cases e1
      exact e2
    · have h2 : ds.length ≤ i := by rw [← r.length]; omega
      rw [List.getD_eq_getElem?_getD, List.getD_eq_getElem?_getD, List.getElem?_eq_none (by omega), List.getElem?_eq_none h2]
      exact .non
/-- what a call with keywords binds -/
abbrev KBp (K : PySem.W.Frag) (fd : FuncData) (ps : List Str) (m : Nat) (ks : List Str) (pm : List Nat) : Prop := KBn K fd ps m ks (fun us ws => PL.pick .none pm (us ++ ws)) (fun vs zs => PL.pick .non pm (vs ++ zs))
theorem run_GK {j n np m : Nat} {pm : List Nat} {f : Addr} {fd : FuncData} {ps ks : List Str} (G : FnG X.prog X.w X.K X.mg X.base j f fd ps (spF X.K X.mg F n np)) (C : Calm X j) (hb : KBp X.K fd ps m ks pm) (tk : L2N.Takes X W)
    {pins : List (Addr × Obj)} {σ : St} {H : Hp} {s : Shared} {Q : VK} {us ws : List Value} {vs zs : List V} (I : Inv X pins σ H s) (rv : Vals vs us) (rz : Vals zs ws) (l1 : vs.length = m) (l2 : zs.length = ks.length) (h : spF X.K X.mg F n np (PL.pick .non pm (vs ++ zs)) H Q (WE W σ)) : wpAny (model X.prog X.w) X.A (call (.ref f) us (ks.zip ws)) (EP X pins σ Q) X.xe s := by
  refine wpAny_call (codeAny_mono (G.go X.A X.stack s H ⟨us, ks.zip ws⟩ (PL.pick .none pm (us ++ ws)) (PL.pick .non pm (vs ++ zs)) Q (WE W σ) C.r C.g I.env0 (hb.to s us ws I.kIn (rv.length.symm.trans l1) (rz.length.symm.trans l2)) (hb.rel rv rz) h) fun rr s' hq => ?_)
  cases rr with
  | error e => exact L2N.passAt tk σ pins H s e s' I hq
  | ok fl =>
    cases fl with
    | ret u => exact I.after hq
    | next => exact hq.elim
    | brk => exact hq.elim
    | cont => exact hq.elim
theorem se_callk {j n np : Nat} {pm : List Nat} {f : Addr} {fd : FuncData} {ps ks : List Str} {x : Str} {p : Pos} {es : List Expr} {kws : List Keyword} {es' ks' : List Ex} (G : FnG X.prog X.w X.K X.mg X.base j f fd ps (spF X.K X.mg F n np)) (C : Calm X j) (hb : KBp X.K fd ps es'.length ks pm) (hkl : ks.length = ks'.length) (tk : L2N.Takes X W)
    (hg : Gl X x) (hm : X.mg x = some (.ref f)) (hk : PySem.W.keepIn X.K (.ref f) = true) (ha : PA X es (tA X P F W es')) (hkw : PK X kws (tA X P F W ks')) (hdb : (x == ("__debug__" : Str)) = false)
    (hall : (backToKw pos (keywordEach kws X.env)).all (·.1.isSome) = true) (hks : (backToKw pos (keywordEach kws X.env)).filterMap (·.1) = ks) (he : ∀ e r, es = e :: r → starEach (e :: r) X.env = (false, eval e X.env) :: starEach r X.env) (hel : es.length = es'.length)
    (hpl : ((backTo pos (starEach es X.env)).any (·.1) || (backToKw pos (keywordEach kws X.env)).any (·.1.isNone)) = false) (hF : ∀ ds Q E, F n ds Q E → ds.length = np) :
    PE X (.Call (.Name x p) es kws pos) (tE X P F W (.callk n pm es' ks')) := by
  refine ⟨fun pins s σ H Q I h => ?_⟩
  obtain ⟨M, Fr, r, Qd, Ed, S, w, post, exc⟩ := h
  simp only [wE] at w
  refine wpAny_Call_Name_kw (ld_glob I hg hm ?_ hdb)
  have go : ∀ (s1 : Shared) (us : List Value) (vs : List V) (H1 : Hp) (M1 : Gh) (r1 : PL.Env) (ds : List D), Inv X pins σ H1 s1 → Vals vs us → Sim X.K M1 Fr r1 σ H1 → M.Le M1 → RepL X.K M1 vs ds → ds.length = es'.length →
      wEs P F ks' r1 (fun zs r2 => zs.length = ks'.length ∧ F n (PL.pick .non pm (ds ++ zs)) (fun x => Qd x r2) fun x => Ed x r2) Ed → wpAny (model X.prog X.w) X.A (evalAll ((backToKw pos (keywordEach kws X.env)).map (·.2))) (fun ws s2 => X.K.In s2.heap ∧ wpAny (model X.prog X.w) X.A (call (.ref f) us (((backToKw pos (keywordEach kws X.env)).filterMap (·.1)).zip ws)) (EP X pins σ Q) X.xe s2) X.xe s1 := fun s1 us vs H1 M1 r1 ds I1 rv S1 le1 rl ln w1 => by
    refine thn (hkw.run pos pins s1 σ H1 (fun zs H2 => zs.length = ks.length ∧ spF X.K X.mg F n np (PL.pick .non pm (vs ++ zs)) H2 Q (WE W σ)) I1 (stepA S1 w1 (fun x H' M' r' cls d S' le' => exc x H' M' r' cls d S' (le1.trans le')) fun zs ds' M2 r2 H2 S2 le2 rl2 wf => ?_)) fun ws s2 hh => ?_
    · refine ⟨by rw [rl2.length, hkl]; exact wf.1, sp_of S2 (le1.trans le2) (((rl.mono le2).append rl2).pick pm) ?_ wf.2 post exc⟩
      rw [(((rl.mono le2).append rl2).pick pm).length]
      exact hF _ _ _ wf.2
    · obtain ⟨zs, H2, I2, rz, l2, q2⟩ := hh
      refine ⟨I2.kIn, ?_⟩
      rw [hks]
      exact run_GK G C hb tk I2 rv rz (by rw [rl.length]; exact ln) l2 q2
  cases es with
  | nil =>
    cases es' with
    | cons _ _ => cases hel
    | nil =>
      simp only [wEs] at w
      exact PySem.W.callWith_KW0 (h₀ := X.base) I.ok.mod.kin hk hall (go s [] [] H M r [] I .nil S (.refl M) .nil rfl w.2) hpl
  | cons e es =>
    refine PySem.W.callWith_KW (h₀ := X.base) I.ok.mod.kin hk hall (thn (ha.run pos pins s σ H (fun vs H1 => ∃ M1 r1 ds, Sim X.K M1 Fr r1 σ H1 ∧ M.Le M1 ∧ RepL X.K M1 vs ds ∧ ds.length = es'.length ∧ wEs P F ks' r1 (fun zs r2 => zs.length = ks'.length ∧ F n (PL.pick .non pm (ds ++ zs)) (fun x => Qd x r2) fun x => Ed x r2) Ed) I (stepA S w exc fun vs ds M1 r1 H1 S1 le1 rl wf => ⟨M1, r1, ds, S1, le1, rl, wf.1, wf.2⟩)) fun us s1 hh => ?_) hpl (he e es rfl)
    obtain ⟨vs, H1, I1, rv, M1, r1, ds, S1, le1, rl, ln, w1⟩ := hh
    exact go s1 us vs H1 M1 r1 ds I1 rv S1 le1 rl ln w1
end
end PL
set_option maxHeartbeats 3900000
/-! PLjs: sorted(xs, key=def) -/
namespace PL
open PySem L2
theorem Ext.off {M M' : Gh} {H H' : Hp} {b : Addr} (x : Ext M M' H H') (h : H' b = none) : M'.I b = none ∧ ¬ M'.P b := x.good.free h
theorem map_len {ds : List D} {kf : D → D} : (toPys (ds.map kf)).length = ds.length := by rw [toPys_map, List.length_map, List.length_map]
section
variable {X : Cx} {P : Pg} {F : Fn} {W : WX} {k : Nat} {pos : Pos}
/-- one key -/
theorem key_call {j n : Nat} {f : Addr} {fd : FuncData} {ps : List Str} {kf : D → D} {M M1 : Gh} {H H1 : Hp} {d : D} {v : V} {u : Value} {A : Around} (G : FnG X.prog X.w X.K X.mg X.base j f fd ps (spF X.K X.mg F n 1)) (r : Room j A) (hg : A.guards = some []) (hb : Binds X.K fd ps [])
    {pins : List (Addr × Obj)} {σ : St} {s : Shared} {E : Value → Shared → Prop} (I : Inv X pins σ H1 s) (he : Env0 X.prog X.w X.K X.mg X.base A X.stack s H1) (x : Ext M M1 H H1) (rv : RelV v u) (rp : Rep X.K M1 v d) (hF : F n [d] (fun z => z = .val (kf d)) fun _ => False) :
    wpAny (model X.prog X.w) A (call (.ref f) [u]) (fun w s' => ∃ y H2 M2, Inv X pins σ H2 s' ∧ RelV y w ∧ Ext M1 M2 H1 H2 ∧ Rep X.K M2 y (kf d)) E s := by
  have sp : spF X.K X.mg F n 1 [v] H1 (fun y H2 => ∃ M2, Ext M1 M2 H1 H2 ∧ Rep X.K M2 y (kf d)) (fun _ _ _ => False) := ⟨rfl, M1, [d], _, _, x.good, .cons rp .nil, hF, fun y H' M' z x' rr e => by
    subst e
    cases rr with
    | val rr => exact ⟨M', x', rr⟩, fun _ _ _ _ _ _ _ z => z.elim⟩
  have bt := hb s [u] I.kIn (by rw [← G.len _ _ _ _ sp]; rfl)
  rw [List.append_nil] at bt
  refine wpAny_call (codeAny_mono (G.go A X.stack s H1 ⟨[u], []⟩ [u] [v] _ _ r hg he bt (.cons rv .nil) sp) fun rr s' hq => ?_)
  · cases rr with
    | error e =>
      obtain ⟨_, _, _, _, _, _, _, _, _, _, _, _, z⟩ := hq
      exact z.elim
    | ok fl =>
      cases fl with
      | ret u =>
        obtain ⟨y, H2, I2, ry, M2, x2, r2⟩ := I.after hq
        exact ⟨y, H2, M2, I2, ry, x2, r2⟩
      | next => exact hq.elim
      | brk => exact hq.elim
      | cont => exact hq.elim
theorem VRep.mono {K : PySem.W.Frag} {M M' : Gh} {v : Value} {d : D} (l : M.Le M') (h : VRep K M v d) : VRep K M' v d := by
  obtain ⟨x, h1, h2⟩ := h
  exact ⟨x, h1, h2.mono l⟩
theorem each_at {al be : Type} {R : al → be → Prop} : ∀ {as : List al} {bs : List be} {i : Nat} {a : al}, PySem.W.EachIs R as bs → as[i]? = some a → ∃ b, bs[i]? = some b ∧ R a b
  | _, _, _, _, .nil, e => by simp at e
  | _, _, 0, _, .cons h _, e => by simp at e; subst e; exact ⟨_, rfl, h⟩
  | _, _, i + 1, _, .cons _ t, e => by
    obtain ⟨b, e1, e2⟩ := each_at (i := i) t (by simpa using e)
    exact ⟨b, by simpa using e1, e2⟩
theorem each_reads {M1 : Gh} {H1 : Hp} {pins : List (Addr × Obj)} {σ : St} {s : Shared} (I : Inv X pins σ H1 s) (g : Good M1 H1) : ∀ {us : List Value} {ds : List D}, PySem.W.EachIs (VRep X.K M1) us ds → plains ds = true → PySem.W.EachIs (fun v d => ∃ as, Reads s.heap v d as) us (toPys ds)
  | _, _, .nil, _ => by unfold toPys; exact .nil
  | _, _, .cons ⟨x, h1, h2⟩ t, p => by
    unfold plains at p
    rw [Bool.and_eq_true] at p
    unfold toPys
    exact .cons (Dp.reads I _ x _ (h2.dp g p.1) h1) (each_reads I g t p.2)
theorem plains_take : ∀ {ds : List D} (i : Nat), plains ds = true → plains (ds.take i) = true
  | _, 0, _ => by rw [List.take_zero]; unfold plains; rfl
  | [], i + 1, _ => by rw [List.take_nil]; unfold plains; rfl
  | d :: ds, i + 1, h => by
    unfold plains at h
    rw [Bool.and_eq_true] at h
    rw [List.take_succ_cons]
    unfold plains
    rw [h.1, plains_take i h.2]; rfl
theorem srk_rest {j n : Nat} {f a kS : Addr} {fd : FuncData} {ps : List Str} {kf : D → D} {M : Gh} {H : Hp} {ds : List D} {e1 : Nat} {its : List Value} (G : FnG X.prog X.w X.K X.mg X.base j f fd ps (spF X.K X.mg F n 1)) (r : Room j X.A.in1.in1) (hg : X.A.in1.in1.guards = some []) (hb : Binds X.K fd ps [])
    {pins : List (Addr × Obj)} {σ : St} {s : Shared} {E : Value → Shared → Prop} {R : PySem.Fin → Shared → Prop} (I : Inv X pins σ H s) (g : Good M H) (fa : FpOk X pins H a) (fk : FpOk X pins H kS) (na : s.heap.get? a = some (PyProof.Rows.seqObj "list" #[] e1)) (nk : s.heap.get? kS = some (PyProof.Rows.seqObj "list" #[] 0)) (hka : kS ≠ a)
    (ei : PySem.W.EachIs (VRep X.K M) its ds) (hF : ∀ d ∈ ds, F n [d] (fun z => z = .val (kf d)) fun _ => False) (hp : plains (ds.map kf) = true) (hs : srtOk (toPys (ds.map kf)) = true) (hu : X.A.in1.in1.units + 60 < cLine)
    (fin : ∀ s' H' M' ws, Inv X pins σ (upd H' a (.lst ws)) s' → Ext M M' H H' → H' a = none → RepL X.K M' ws (srtD kf ds) → R (.done (.ret .none)) s') :
    wpAny (model X.prog X.w) X.A.in1.in1 (PyProof.Rows.ksk_rest a (.ref f) false its.toArray e1 (.ref kS)) R E s := by
  obtain ⟨s1, s2, s3, s4⟩ := srtOk_ok hs
  have hlen : its.length = ds.length := ei.length
  have hZ : its.length ≤ sizeLine := by
    rw [hlen, ← lim_eq, ← map_len (kf := kf)]; exact s4
  have cells : ∀ {c : String} {xs : Array Value} {m : Nat} (v : Option Value), (PyProof.Rows.seqObj c xs m).data ≠ .cell v := fun v z => by cases z
  unfold PyProof.Rows.ksk_rest
  refine wpAny_bind (wpAny_rule ?_)
  first
    | rw [List.forIn_toArray]
    | (rw [← Array.forIn_toList]; simp only [List.toList_toArray])
    | rw [← Array.forIn_toList]
  refine wpAny_bind (PyProof.Rows.ksk_fold (fun i s' => ∃ H' M' kA e, Inv X pins σ H' s' ∧ Ext M M' H H' ∧ H' a = none ∧ H' kS = none ∧ s'.heap.get? kS = some (PyProof.Rows.seqObj "list" kA e) ∧ s'.heap.get? a = some (PyProof.Rows.seqObj "list" #[] e1) ∧ PySem.W.EachIs (VRep X.K M') kA.toList ((ds.take i).map kf)) its 0 s
    ⟨H, M, #[], 0, I, .refl g, fa.1, fk.1, nk, na, by rw [List.take_zero]; exact .nil⟩ ?step ?done)
  case step =>
    rintro i x s' hx ⟨H1, M1, kA, e, I1, x1, ha, hk, nk1, na1, ek⟩
    simp only [Nat.zero_add] at ek ⊢
    obtain ⟨d, hd, v, rv, rp⟩ := each_at ei hx
    have fp : ∀ b ∈ [a, kS], FpOk X pins H1 b := fun b hb => by
      simp only [List.mem_cons, List.not_mem_nil, or_false] at hb
      rcases hb with rfl | rfl
      · exact ⟨ha, fa.2⟩
      · exact ⟨hk, fk.2⟩
    have ho : ∀ b ∈ [a, kS], ∃ o, s'.heap.get? b = some o ∧ ∀ v, o.data ≠ .cell v := fun b hb => by
      simp only [List.mem_cons, List.not_mem_nil, or_false] at hb
      rcases hb with rfl | rfl
      · exact ⟨_, na1, fun v => cells v⟩
      · exact ⟨_, nk1, fun v => cells v⟩
    have Ip := I1.pinned fp ho
    refine wpAny_bind (wpAny_attempt (wpAny_mono (key_call (E := fun _ _ => False) G r hg hb Ip I1.env0.in1.in1 x1 rv (rp.mono x1.le) (hF d (List.mem_of_getElem? hd))) (fun w s2 hq => ?_) fun _ _ z => z.elim))
    obtain ⟨y, H2, M2, I2, ry, x2, r2⟩ := hq
    obtain ⟨na2, ha2, _⟩ := I2.pin (a, _) (List.mem_append_right _ (List.mem_append_right _ (mem_pinsAt (by simp) na1)))
    obtain ⟨nk2, hk2, _⟩ := I2.pin (kS, _) (List.mem_append_right _ (List.mem_append_right _ (mem_pinsAt (by simp) nk1)))
    have hz : kA.size ≤ its.length := by
      have h1 := ek.length
      rw [Array.length_toList, List.length_map, List.length_take] at h1
      omega
    dsimp only
    refine wpAny_bind (PyProof.Rows.listUpdate_at nk2 rfl ?_ (Nat.le_trans hz hZ) (Nat.le_trans (Nat.le_of_eq (Array.size_push ..)) (Nat.succ_le_succ (Nat.le_trans hz hZ))))
    have sb := Heap.SameBut.update s2.heap kS (Obj.mapSeq (·.push w))
    have hc2 := PyProof.Rows.get?_update_seq nk2 (·.push w)
    have I3 := I2.unpinned.turnedL (ch := [kS]) (t' := s2.toks) (h' := s2.heap.update kS (Obj.mapSeq (·.push w))) (fun b o hb q => (sb.2 b (by simpa using hb)).trans q) (fun b hb => by
      have : b = kS := by simpa using hb
      subst this
      exact ⟨hk2, fk.2⟩)
    refine wpAny_pure ⟨rfl, H2, M2, kA.push w, _, I3, x1.trans g x2, ha2, hk2, hc2, (sb.2 a hka.symm).trans na2, ?_⟩
    have et : (ds.take (i + 1)).map kf = (ds.take i).map kf ++ [kf d] := by rw [List.take_add_one, hd, List.map_append]; rfl
    have ea : (kA.push w).toList = kA.toList ++ [w] := by simp
    rw [et, ea]
    exact PySem.W.each_snoc ⟨y, ry, r2⟩ (ek.mono fun u b q => VRep.mono x2.le q)
  case done =>
    rintro s' ⟨H1, M1, kA, e, I1, x1, ha, hk, nk1, na1, ek⟩
    have e0 : ds.take (0 + its.length) = ds := List.take_of_length_le (by omega)
    rw [e0] at ek
    have ks : kA.size = its.length := by
      have h1 := ek.length
      rw [Array.length_toList, List.length_map] at h1
      omega
    refine wpAny_bind (PyProof.Rows.listItems_at nk1 rfl ?_)
    obtain ⟨G1, g1, g2⟩ := L2.restrict s'.heap fun b => decide (b ≠ kS)
    have er := each_reads I1 x1.good ek hp
    refine PySem.W.keyH_end (κ := PySem.W.dataKind s'.heap (toPys (ds.map kf))) (h₁ := G1) (fun b o _ q => ?_) (g2 kS (by simp)) nk1 na1 hka (PySem.W.SortsAt.data er s1 s2 (fun d hd => by have := s3 d hd; omega)) ks hZ fun h3 tk c kp n3 => ?_
    · by_cases hbk : b = kS
      · rw [hbk, g2 kS (by simp)] at q; cases q
      · rw [← g1 b (by simpa using hbk)]; exact q
    · have eo : PySem.W.EachIs (VRep X.K M) (PySem.W.sortVals (PySem.W.dataKind s'.heap (toPys (ds.map kf))) false kA.toList its) (srtD kf ds) := by
        refine PySem.W.keyedOut_each (fun x => toPy (kf x)) ?_ ei
        have ez : ds.map (fun x => toPy (kf x)) = toPys (ds.map kf) := by rw [toPys_map, List.map_map]; rfl
        rw [ez]
        exact ⟨s'.heap, kA.toList, s1, rfl, er⟩
      obtain ⟨ws, q1, q2⟩ := of_each eo
      have fp : ∀ b ∈ [a, kS], FpOk X pins H1 b := fun b hb => by
        simp only [List.mem_cons, List.not_mem_nil, or_false] at hb
        rcases hb with rfl | rfl
        · exact ⟨ha, fa.2⟩
        · exact ⟨hk, fk.2⟩
      have I4 := I1.turnedL (ch := [a, kS]) (t' := tk) (h' := h3) (fun b o hb q => kp b o (by simp at hb; exact hb.1) (by rw [g1 b (by simp at hb; simpa using hb.2)]; exact q)) fp
      have wl : ws.length ≤ sizeLine := by
        rw [q1.length, PySem.W.sortVals_length false (by rw [Array.length_toList]; exact ks)]; exact hZ
      have I5 := I4.take (t' := tk) (h' := h3) (it := a) (o := .lst ws) (fun b ob _ q => q) ⟨ha, fa.2⟩ ⟨wl, _, c, q1, n3⟩
      exact fin _ H1 M1 ws I5 x1 ha (q2.mono x1.le)
theorem kw_facts {env : PySem.Env} {pos : Pos} : ∀ {kws : List Keyword} {ks : List Str}, kws.mapM (fun q => q.arg) = some ks → (backToKw pos (keywordEach kws env)).all (·.1.isSome) = true ∧ (backToKw pos (keywordEach kws env)).filterMap (·.1) = ks ∧ (backToKw pos (keywordEach kws env)).any (·.1.isNone) = false
  | [], _, h => by
    rw [List.mapM_nil] at h
    cases h
    exact ⟨rfl, rfl, rfl⟩
  | ⟨nm, v, p⟩ :: kws, ks, h => by
    rw [List.mapM_cons] at h
    cases nm with
    | none => cases h
    | some x =>
      cases e : kws.mapM (fun q => q.arg) with
      | none => rw [e] at h; cases h
      | some r =>
        rw [e] at h
        cases h
        obtain ⟨h1, h2, h3⟩ := kw_facts (env := env) (pos := pos) e
        unfold backToKw at h1 h2 h3 ⊢
        refine ⟨?_, ?_, ?_⟩
        · show (true && List.all _ _) = true
          rw [h1]; rfl
        · show x :: List.filterMap _ _ = x :: r
          rw [h2]
        · show (false || List.any _ _) = false
          rw [h3]; rfl
theorem se_srk {j n : Nat} {f : Addr} {fd : FuncData} {ps : List Str} {x : Str} {p p2 kp : Pos} {e : Expr} {e' : Ex} (G : FnG X.prog X.w X.K X.mg X.base j f fd ps (spF X.K X.mg F n 1)) (C : Calm X (j + 2)) (hb : Binds X.K fd ps [])
    (hg : Gl X "sorted") (hm : X.mg "sorted" = none) (hgx : Gl X x) (hmx : X.mg x = some (.ref f)) (hdb : (x == ("__debug__" : Str)) = false) (ha : PE X e (tE X P F W e')) (st : starEach [e] X.env = (false, eval e X.env) :: starEach [] X.env) :
    PE X (.Call (.Name "sorted" p) [e] [⟨some "key", .Name x p2, kp⟩] pos) (tE X P F W (.srk n e')) := by
  refine ⟨fun pins s σ H Q I h => ?_⟩
  obtain ⟨M, Fr, r, Qd, Ed, S, w, post, exc⟩ := h
  simp only [wE] at w
  refine wpAny_Call_Name_kw (ld_blt I hg hm (Bi.boot .sorted) ?_ (by decide +kernel) (by decide +kernel))
  have pa : PA X [e] (tA X P F W [e']) := sa_cons ha sa_nil st
  refine PyProof.Rows.callWith_kw (thn (pa.run pos pins s σ H (fun vs H1 => ∃ M1 r1 v d, vs = [v] ∧ Sim X.K M1 Fr r1 σ H1 ∧ M.Le M1 ∧ Rep X.K M1 v d ∧ ∃ ds kf, d = .lst ds ∧ (∀ d ∈ ds, F n [d] (fun z => z = .val (kf d)) fun _ => False) ∧ plains (ds.map kf) = true ∧ srtOk (toPys (ds.map kf)) = true ∧ Qd (.own (srtD kf ds)) r1) I ?_) fun us s1 hh => ?_) (by rw [st]; rfl) (by rw [st]; rfl) rfl rfl
  · have w' : wEs P F [e'] r (fun zs r1 => ∃ d ds kf, zs = [d] ∧ d = .lst ds ∧ (∀ d ∈ ds, F n [d] (fun z => z = .val (kf d)) fun _ => False) ∧ plains (ds.map kf) = true ∧ srtOk (toPys (ds.map kf)) = true ∧ Qd (.own (srtD kf ds)) r1) Ed := by
      simp only [wEs]
      refine cast (congrArg (fun q => wE P F e' r q Ed) (funext fun x => funext fun r1 => ?_)) w
      refine propext ⟨fun ⟨ds, kf, q1, q2⟩ => ⟨x.d, ds, kf, rfl, q1, q2⟩, fun ⟨d, ds, kf, q0, q1, q2⟩ => ?_⟩
      cases q0
      exact ⟨ds, kf, q1, q2⟩
    refine stepA S w' exc fun vs zs M1 r1 H1 S1 le1 rl q => ?_
    obtain ⟨d, ds, kf, q0, q1, q2⟩ := q
    subst q0
    obtain ⟨v, rfl, rv⟩ := rep1 rl
    exact ⟨M1, r1, v, d, rfl, S1, le1, rv, ds, kf, q1, q2⟩
  · obtain ⟨vs, H1, I1, rv, M1, r1, v, d, rfl, S1, le1, rp, ds, kf, rfl, hF, hp, hs, q⟩ := hh
    have pk : PK X [⟨some "key", .Name x p2, kp⟩] (tCons (tC (.ref f)) tNil) := pk_cons (pe_glob hgx hmx rfl hdb) pk_nil
    refine thn (pk.run pos pins s1 σ H1 (fun zs H2 => zs = [.ref f] ∧ H2 = H1) I1 ⟨rfl, rfl⟩) fun ws s2 hh => ?_
    obtain ⟨zs, H2, I2, rz, rfl, rfl⟩ := hh
    obtain ⟨u, rfl, ru⟩ := vals1 rz
    obtain rfl : u = Value.ref f := ru
    obtain ⟨u, rfl, ru⟩ := vals1 rv
    cases rp with
    | @lst l vs _ h1 rl =>
      obtain rfl : u = Value.ref l := ru
      obtain ⟨its, rvs, hl, hz⟩ := I2.list (SqL.of (S1.good.le _ _ h1))
      have zl : its.length ≤ sizeLine := by rw [← rvs.length]; exact hz
      show wpAny _ _ (call (.builtin "sorted") [.ref l] [(Str.ofString "key", .ref f)]) _ _ _
      refine PySem.W.sorted_of_sort hl.isList zl (PyProof.Rows.ksk_s1 _ _) (fun _ => PyProof.Rows.ksk_l1 _ _) fun E' => ?_
      rw [PyProof.Rows.ksk_t1]
      have ho := PySem.W.copyHeap_at s2.heap its
      obtain ⟨e1, ho1⟩ : ∃ e1, ((PySem.W.copyHeap s2.heap its).update (s2.heap.objs.size + 1) (Obj.mapSeq fun _ => (#[] : Array Value))).get? (s2.heap.objs.size + 1) = some (PyProof.Rows.seqObj "list" #[] e1) := ⟨_, PyProof.Rows.get?_update_seq ho fun _ => #[]⟩
      unfold PyProof.Rows.ksk_tree
      refine wpAny_bind (PyProof.Rows.listItems_at ho rfl ?_)
      refine wpAny_bind (PyProof.Rows.listUpdate_at ho rfl ?_ (by rw [List.size_toArray]; exact zl) (Nat.zero_le _))
      refine wpAny_bind (PyProof.Rows.seqEpoch_at ho1 rfl ?_)
      refine wpAny_bind (wpAny_newTuple ?_ (by show its.length ≤ _; exact zl))
      refine wpAny_bind (wpAny_newList ?_ (Nat.zero_le _))
      refine wpAny_holding ?_
      have sh : ∀ b o, s2.heap.get? b = some o → (PySem.W.sortingHeap (PySem.W.copyHeap s2.heap its) (s2.heap.objs.size + 1) its).get? b = some o := fun b o e => PySem.W.sorting_copy_old e
      have I3 := I2.turnedL (ch := []) (t' := s2.toks) (h' := PySem.W.sortingHeap (PySem.W.copyHeap s2.heap its) (s2.heap.objs.size + 1) its) (fun b o _ e => sh b o e) (fun b hb => by cases hb)
      have hsz : ((((PySem.W.copyHeap s2.heap its).update (s2.heap.objs.size + 1) (Obj.mapSeq fun _ => (#[] : Array Value))).push (PyProof.Rows.seqObj "tuple" its.toArray 0))).objs.size = s2.heap.objs.size + 3 := by
        rw [PyProof.Rows.size_push', Heap.size_update]
        unfold PySem.W.copyHeap
        rw [PyProof.Rows.size_push', Heap.size_update, PyProof.Rows.size_push']
      have room : Room j X.A.in1.in1 := Room.in1 (Room.in1 C.r)
      refine srk_rest (M := M1) (ds := ds) (kf := kf) (s := { s2 with heap := PySem.W.sortingHeap (PySem.W.copyHeap s2.heap its) (s2.heap.objs.size + 1) its }) G room C.g hb I3 S1.good (I2.fpOk (Nat.le_succ _) (I2.hok.fresh (Nat.le_succ _))) ?_ ?_ ?_ ?_ (each_of rl rvs) hF hp hs (by have := room.units; omega) fun s' H' M' ws I' x' ha' rw' => ?_
      · rw [hsz]
        exact I2.fpOk (by omega) (I2.hok.fresh (by omega))
      · exact Heap.get?_push_of_some _ (Heap.get?_push_of_some _ ho1)
      · exact Heap.get?_push_size _ rfl
      · rw [hsz]; exact Nat.ne_of_gt (Nat.lt_succ_of_lt (Nat.lt_succ_self _))
      · refine ⟨rfl, .ref _, upd H' (s2.heap.objs.size + 1) (.lst ws), I', rfl, ?_⟩
        have hn : H2 (s2.heap.objs.size + 1) = none := I2.hok.fresh (Nat.le_succ _)
        have S2 := S1.ext x'
        have x2 := Ext.newOwn (o := .lst ws) S2.good ha'
        obtain ⟨h3, h4⟩ := S2.good.free ha'
        exact post _ _ M' r1 _ (S2.ext x2) (le1.trans x'.le) (RepR.repV S2 x2 (.own ha' upd_same h3 h4 rw')) q
end
end PL
set_option maxHeartbeats 3900000
/-! PLk: a def by its text -/
namespace PL
open PySem L2

open Classical in
/-- all that a called def must leave as it is, but what never changes anyhow -/
noncomputable def rest0 (M : Gh) (H : Hp) : Hp := fun b => if M.P b ∨ M.I b ≠ none then none else H b
theorem rest0_no {M : Gh} {H : Hp} {b : Addr} (h : M.P b ∨ M.I b ≠ none) : rest0 M H b = none := if_pos h
theorem rest0_yes {M : Gh} {H : Hp} {b : Addr} (h1 : ¬ M.P b) (h2 : M.I b = none) : rest0 M H b = H b := if_neg fun z => z.elim h1 fun q => q h2
theorem bind0_get {fd : Fd} {ds : List D} {i : Nat} {z : R} (h : (bind0 fd ds)[i]? = some (some z)) : ∃ d, ds[i]? = some d ∧ z = .val d := by
  unfold bind0 at h
  by_cases q : i < ds.length
  · rw [List.getElem?_append_left (by rw [List.length_map]; exact q), List.getElem?_map, List.getElem?_eq_getElem q] at h
    cases h
    exact ⟨_, List.getElem?_eq_getElem q, rfl⟩
  · rw [List.getElem?_append_right (by rw [List.length_map]; omega)] at h
    rw [List.getElem?_replicate] at h
    split at h <;> cases h
theorem start_get {N : List Str} {vs : List V} {i : Nat} {v : V} (h : vs[i]? = some v) : (L2.start N vs)[i]? = some (some v) := by
  have q : i < vs.length := (List.getElem?_eq_some_iff.mp h).1
  unfold L2.start
  rw [List.getElem?_append_left (by rw [List.length_map]; exact q), List.getElem?_map, h]
  rfl
theorem Sim.enter {K : PySem.W.Frag} {M : Gh} {H : Hp} {N : List Str} {vs : List V} {ds : List D} {fd : Fd} (g : Good M H) (r : RepL K M vs ds) (hn : fd.nl = N.length) : Sim K M (rest0 M H) (bind0 fd ds) (L2.start N vs) H := by
  refine ⟨g, fun a o e => ?_, fun a p => rest0_no (.inl p), fun a o e => rest0_no (.inr (by rw [e]; exact fun z => nomatch z)), fun i d e => ?_, fun i xs e => ?_, fun i j x y _ e => ?_, ?_⟩
  · by_cases p : M.P a
    · rw [rest0_no (.inl p)] at e; cases e
    · cases q : M.I a with
      | some u => rw [rest0_no (.inr (by rw [q]; exact fun z => nomatch z))] at e; cases e
      | none => rw [rest0_yes p q] at e; exact e
  · obtain ⟨d', e1, e2⟩ := bind0_get e
    cases e2
    obtain ⟨v, e3, e4⟩ := r.get e1
    exact ⟨v, start_get e3, e4⟩
  · obtain ⟨d', e1, e2⟩ := bind0_get e
    cases e2
  · obtain ⟨d', e1, e2⟩ := bind0_get e
    cases e2
  · unfold bind0 L2.start
    rw [List.length_append, List.length_append, List.length_map, List.length_map, List.length_replicate, List.length_replicate, r.length, hn]
/-- behind the def -/
theorem Sim.leave {K : PySem.W.Frag} {M M' : Gh} {H H' : Hp} {r : PL.Env} {s : St} (g : Good M H) (S : Sim K M' (rest0 M H) r s H') (le : M.Le M') : Ext M M' H H' := by
  have old : ∀ a, M.I a = none → ¬ M.P a → rest0 M H a = none → H a = none := fun a h1 h2 h3 => by rw [rest0_yes h2 h1] at h3; exact h3
  refine ⟨le, fun a o e e' => ?_, fun a p p' => ?_, fun b o e p => ?_, S.good⟩
  · refine old a e' (fun p => ?_) (S.frI a o e)
    have := (S.good.pot a (le.P a p)).1
    rw [e] at this; cases this
  · refine old a ?_ p' (S.frP a p)
    cases q : M.I a with
    | none => rfl
    | some u =>
      have := (S.good.pot a p).1
      rw [le.I a u q] at this; cases this
  · cases q : M.I b with
    | some u =>
      have h1 := S.good.le b u (le.I b u q)
      have h2 : H b = some u := g.le b u q
      rw [e] at h2; cases h2
      exact h1
    | none => exact S.fr b o (by rw [rest0_yes p q]; exact e)
theorem RepV.out {K : PySem.W.Frag} {M M' : Gh} {H H' : Hp} {r : PL.Env} {s : St} {v : V} {z : R} (le : M.Le M') (h : RepV K M' (rest0 M H) r s H' v z) : RepR K M' H H' v z := by
  cases h with
  | val h => exact .val h
  | own h1 h2 h3 h4 h5 h6 =>
    refine .own ?_ h1 h2 h3 h6
    have p : ¬ M.P _ := fun p => h3 (le.P _ p)
    refine (rest0_yes p ?_).symm.trans h4
    cases q : M.I _ with
    | none => rfl
    | some u => rw [le.I _ u q] at h2; cases h2

/-- the wish about errors that leave a def -/
abbrev WOf (E : XK) : WX := fun cls d _ H => E cls d H
/-- the context of a def's body -/
abbrev cxB (P : Program) (w : World) (K : PySem.W.Frag) (mg : Str → Option Value) (base : Heap) (N : List Str) (qual : Str) (sc : Scope) (f : Addr) (cd : Value) (A : Around) (out : List PySem.Env) (s : Shared) (H : Hp) (E : XK) : Cx := cxOf (L2N.CX P w) P w K mg base N qual sc f cd A out s H E
section
variable {P : Program} {w : World} {K : PySem.W.Frag} {mg : Str → Option Value} {base : Heap}
/-- a def of the text: from its body's derivation -/
theorem fnG_of {k n : Nat} {f : Addr} {x qual : Str} {st : Stmt} {fd : FuncData} {N ps : List Str} {sp : Sp} (Fu : Fun K x qual st f fd) (S : FnScope N ps (defScope st)) (len : ∀ vs H Q E, sp vs H Q E → vs.length = ps.length)
    (body : ∀ (cd : Value) (A : Around) (out : List PySem.Env) (s : Shared) (H : Hp) (vs : List V) (Q : VK) (E : XK), Room k (A.deeper (PyProof.Rows.envOfC qual (defScope st) s.heap.objs.size f cd)) → A.guards = some [] → sp vs H Q E →
      ∃ t, PSs (cxB P w K mg base N qual (defScope st) f cd A out s H E) (defBody st) t ∧ t { nx := fun _ H' => Q .non H', rt := Q } (L2.start N vs) H) : FnG P w K mg base (k + 1) f fd ps sp := by
  obtain ⟨oc, od, kV, doc, pm, an, cd, ct, osl, rfl, lk, hcd⟩ := Fu.ex
  refine ⟨len, fun A out s H ar us vs Q E room grd e0 bnd rvs hsp => ?_⟩
  have lim : s.heap.NoLimit := e0.mod.nolimit.keeps fun b o z => (e0.bs b o z).1
  have KIn : K.In s.heap := e0.mod.kin.keeps fun b o z => (e0.bs b o z).1
  have kinds : ∀ y ∈ ps.zip us, (defScope st).names.lookup y.1 = some .local ∨ ((defScope st).names.lookup y.1 = some .cell ∧ ((cellsFrom (s.heap.objs.size + 1) (defScope st).names []).lookup y.1).isSome = true) := by
    rintro ⟨nm, v⟩ hy
    exact (S.par nm (List.of_mem_zip hy).1).imp id fun q => ⟨q, PySem.W.cellsFrom_some _ _ _ (.inl q)⟩
  refine codeAny_call_function room.depth (KIn _ _ lk) rfl S.co S.gen rfl (PySem.W.codeRec_of KIn hcd) (bnd _ _ _ _ (wpAny_newFunctionEnv_cells S.kind kinds fun env he s1 ic => ?_))
  subst he
  refine ⟨lim.keeps ic.toInCall.keep, codeAny_func ?_⟩
  obtain ⟨t, ht, hq⟩ := body cd A out s H vs Q E (room.deeper _) grd hsp
  have J : Inv (cxB P w K mg base N qual (defScope st) f cd A out s H E) [] (L2.start N vs) H s1 := inv_start S room.hd e0 (len _ _ _ _ hsp) rvs ic
  refine wpAny_mono (ht.run [] s1 (L2.start N vs) H _ J hq) (fun fl s' hs => ?_) fun e s' hs => hs
  cases fl with
  | brk => exact hs.elim fun _ z => z.elim fun _ z => z.2.elim
  | cont => exact hs.elim fun _ z => z.elim fun _ z => z.2.elim
  | next =>
    obtain ⟨σ', H', J', q⟩ := hs
    exact ⟨.non, H', J'.os, J'.bare, J'.base, J'.hok, rfl, q⟩
  | ret u =>
    obtain ⟨v, σ', H', J', rv, q⟩ := hs
    exact ⟨v, H', J'.os, J'.bare, J'.base, J'.hok, rv, q⟩
/-- .. of the small language -/
theorem fnG_text {k n : Nat} {f : Addr} {x qual : Str} {st : Stmt} {fd : FuncData} {N ps : List Str} {Pp : Pg} {F F' : Fn} {fm : Fd} (Fu : Fun K x qual st f fd) (S : FnScope N ps (defScope st)) (hN : fm.nl = N.length)
    (hF : ∀ ds Q E, F' n ds Q E → wSs Pp F fm.body (bind0 fm ds) { nx := fun _ => Q (.val .non), rt := Q, bk := fun _ => False, ct := fun _ => False, ex := fun x _ => E x })
    (body : ∀ (cd : Value) (A : Around) (out : List PySem.Env) (s : Shared) (H : Hp) (E : XK), Room k (A.deeper (PyProof.Rows.envOfC qual (defScope st) s.heap.objs.size f cd)) → A.guards = some [] →
      PSs (cxB P w K mg base N qual (defScope st) f cd A out s H E) (defBody st) (tSs (cxB P w K mg base N qual (defScope st) f cd A out s H E) Pp F (WOf E) fm.body)) :
    FnG P w K mg base (k + 1) f fd ps (spF K mg F' n ps.length) := by
  refine fnG_of (n := n) Fu S (fun vs H Q E h => h.1) fun cd A out s H vs Q E room grd hsp => ⟨_, body cd A out s H E room grd, ?_⟩
  obtain ⟨_, M, ds, Qd, Ed, g, rl, w, post, exc⟩ := hsp
  exact ⟨M, rest0 M H, bind0 fm ds, _, Sim.enter g rl hN, hF _ _ _ w, fun M' r' s' H' S' l q => post .non H' M' _ (S'.leave g l) (.val .non) q, fun v z M' r' s' H' S' l rv q => post v H' M' z (S'.leave g l) (RepV.out l rv) q, fun _ _ _ _ _ _ q => q.elim, fun _ _ _ _ _ _ q => q.elim, fun x cls d M' r' s' H' S' l rx q => exc x H' M' cls d (S'.leave g l) rx q⟩
end
end PL
set_option maxHeartbeats 3900000
/-! PLl: pots; names += -/
namespace PL
open PySem L2
section
variable {X : Cx} {P : Pg} {F : Fn} {W : WX} {k : Nat} {a b c tg : Expr} {a' b' c' : Ex} {pos : Pos}
theorem Sim.potAt {K : PySem.W.Frag} {M : Gh} {Fr : Hp} {r : PL.Env} {s : St} {H : Hp} (S : Sim K M Fr r s H) {i : Nat} (h : r[i]? = some (some (.val .pot))) : ∃ a n, s[i]? = some (some (.ref a)) ∧ M.P a ∧ 0 ≤ n ∧ H a = some (.lst [.int n]) := by
  obtain ⟨v, e1, e2⟩ := S.sl i _ h
  cases e2 with
  | pot p =>
    obtain ⟨_, n, h0, q⟩ := S.good.pot _ p
    exact ⟨_, n, e1, p, h0, q⟩
/-- pot[0] -/
theorem se_potg {i : Nat} {x : Str} {j : Nat} {p1 p2 : Pos} (hN : X.N[i]? = some x) (hv : Vis X.env.scope x) (hd : (x == ("__debug__" : Str)) = false) (hcd : (x == ("__classdict__" : Str)) = false) :
    PE X (.Subscript (.Name x p1) (.Constant (.int 0) j p2) pos) (tE X P F W (.potg i)) :=
  PE.imp (pe_ix ix_list (pe_var hN hv hd hcd) pe_int fun _ _ => rfl) fun s H Q h => by
    obtain ⟨M, Fr, r, Qd, Ed, S, w, post, exc⟩ := h
    simp only [wE] at w
    obtain ⟨a, n, e1, e2, e3, e4⟩ := S.potAt w.1
    exact ⟨.ref a, e1, a, [.int n], 0, .int n, rfl, rfl, SqL.of e4, rfl, post _ _ M r _ S (.refl M) (.val (.int n)) (w.2 n e3)⟩
theorem Sim.potw {K : PySem.W.Frag} {M : Gh} {Fr : Hp} {r : PL.Env} {s : St} {H : Hp} (S : Sim K M Fr r s H) {a : Addr} (p : M.P a) {m : Int} (h0 : 0 ≤ m) : Sim K M Fr r s (upd H a (.lst [.int m])) := by
  have f1 : M.I a = none := (S.good.pot a p).1
  have f2 : Fr a = none := S.frP a p
  refine ⟨⟨fun b u e => ?_, fun b q => ?_⟩, fun b u e => ?_, S.frP, S.frI, S.sl, fun i ds e => ?_, S.inj, S.len⟩
  · rw [upd_ne (fun z => by rw [z, f1] at e; cases e)]; exact S.good.le b u e
  · obtain ⟨q1, n, q2, q3⟩ := S.good.pot b q
    by_cases z : b = a
    · subst z; exact ⟨q1, m, h0, upd_same⟩
    · exact ⟨q1, n, q2, by rw [upd_ne z]; exact q3⟩
  · rw [upd_ne (fun z => by rw [z, f2] at e; cases e)]; exact S.fr b u e
  · obtain ⟨b, vs, h1, h2, h3, h4, h5, h6⟩ := S.ow i ds e
    exact ⟨b, vs, h1, by rw [upd_ne (show b ≠ a from fun z => h4 (z ▸ p))]; exact h2, h3, h4, h5, h6⟩
/-- pot[0] = e -/
theorem s_potp {i : Nat} {x : Str} {j : Nat} {p1 p2 p3 : Pos} (hN : X.N[i]? = some x) (hv : Vis X.env.scope x) (hd : (x == ("__debug__" : Str)) = false) (hcd : (x == ("__classdict__" : Str)) = false) (ha : PE X a (tE X P F W a'))
    (hs : swapsWithSole [.Subscript (.Name x p1) (.Constant (.int 0) j p2) p3] a pos.line X.env = pure false) (hw : swappedStores [.Subscript (.Name x p1) (.Constant (.int 0) j p2) p3] a X.env = pure none) :
    PS X (.Assign [.Subscript (.Name x p1) (.Constant (.int 0) j p2) p3] a pos) (tS X P F W (.potp i a')) :=
  PS.imp (ps_asg ha (pg_sub (pe_var hN hv hd hcd) pe_int set_list) hs hw rfl) fun D s H h => by
    obtain ⟨M, Fr, r, Dd, S, w, e⟩ := h
    simp only [wS] at w
    refine step1 S w (fun x H' M' r' cls d S' l rx ee => e.ex x cls d M' r' s H' S' l rx ee) fun x M1 r1 H1 z S1 le1 rx hq => ?_
    obtain ⟨m, ez, h0, hp, q⟩ := hq
    rw [ez] at rx
    cases rx
    obtain ⟨a, n, e1, e2, e3, e4⟩ := S1.potAt hp
    exact ⟨.ref a, e1, a, [.int n], 0, 0, rfl, rfl, e4, rfl, e.nx M1 r1 s _ (S1.potw e2 h0) le1 q⟩
/-- a new list of one number as a pot -/
theorem se_mkpot (ha : PE X a (tE X P F W a')) : PE X a (tE X P F W (.mkpot a')) :=
  PE.imp ha fun s H Q h => by
    obtain ⟨M, Fr, r, Qd, Ed, S, w, post, exc⟩ := h
    simp only [wE] at w
    refine ⟨M, Fr, r, _, Ed, S, w, fun v H1 M1 r1 z S1 le1 rv hq => ?_, exc⟩
    obtain ⟨n, rfl, h0, q⟩ := hq
    cases rv with
    | @own a vs _ h1 h2 h3 h4 h5 h6 =>
      obtain ⟨u, rfl, ru⟩ := rep1 h6
      cases ru
      have l2 : M1.Le (M1.addP a) := Gh.le_addP
      refine post _ _ (M1.addP a) r1 _ ⟨⟨S1.good.le, fun b p => ?_⟩, S1.fr, fun b p => ?_, S1.frI, fun i d e => ?_, fun i ds e => ?_, S1.inj, S1.len⟩ (le1.trans l2) (.val (.pot (.inl rfl))) q
      · rcases p with rfl | p
        · exact ⟨h2, n, h0, h1⟩
        · exact S1.good.pot b p
      · rcases p with rfl | p
        · exact h4
        · exact S1.frP b p
      · obtain ⟨v, e1, e2⟩ := S1.sl i d e
        exact ⟨v, e1, e2.mono l2⟩
      · obtain ⟨b, us, e1, e2, e3, e4, e5, e6⟩ := S1.ow i ds e
        refine ⟨b, us, e1, e2, e3, fun p => ?_, e5, e6.mono l2⟩
        rcases p with rfl | p
        · exact h5 i ds e e1
        · exact e4 p
theorem iop_bin (o : Op) : PIp X o.py (pOp X.K (augD o)) := by
  intro pins s σ H x y v u Q I rx ry h
  obtain ⟨M, dx, dy, z, g, hx, hy, hz, post⟩ := h
  unfold augD at hz
  split at hz
  · cases hx; cases hy; cases hz
    exact iop_add pins s σ H _ _ v u Q I rx ry ⟨_, _, rfl, rfl, post.here g (.int _)⟩
  · split at hz
    · rename_i hl
      cases hx; cases hy; cases hz
      exact iop_add_str pins s σ H _ _ v u Q I rx ry ⟨_, _, rfl, rfl, by rw [← lim_eq]; exact hl, post.here g (.str _)⟩
    · cases hz
  · cases hx; cases hy; cases hz
    exact iop_sub pins s σ H _ _ v u Q I rx ry ⟨_, _, rfl, rfl, post.here g (.int _)⟩
  · cases hz
/-- x += e -/
theorem s_aug {i : Nat} {x : Str} {o : Op} {p1 : Pos} (hN : X.N.Nodup) (hi : X.N[i]? = some x) (hx : Loc X.env.scope x) (ha : PE X a (tE X P F W a')) (hf : X.fn x = true ∨ X.env.scope.names.lookup x = some .local) :
    PS X (.AugAssign (.Name x p1) o.py a pos) (tS X P F W (.aug i o a')) :=
  PS.imp (ps_aug hN hi hx ha (iop_bin o) hf) fun D s H h => by
    obtain ⟨M, Fr, r, Dd, S, w, e⟩ := h
    simp only [wS] at w
    obtain ⟨v, M0, r0, d, ev, S0, l0, rp, w⟩ := S.read w
    refine ⟨v, ev, step1 S0 w (fun x H' M' r' cls d S' l rx ee => e.ex x cls d M' r' s H' S' (l0.trans l) rx ee) fun y M1 r1 H1 z S1 le1 ry hq => ?_⟩
    obtain ⟨z', hz, q⟩ := hq
    exact ⟨M1, d, z.d, z', S1.good, rp.mono le1, ry, hz, fun u H' M' x' rr => e.nx M' _ _ H' ((S1.ext x').set i (rr.repV S1 x')) ((l0.trans le1).trans x'.le) q⟩
/-- x, y = (a, b) -/
theorem s_par2 {i j : Nat} {x y : Str} {px py pt pt2 : Pos} {kt k2 : Nat} (C : Calm X k) (hN : X.N.Nodup) (hi : X.N[i]? = some x) (hj : X.N[j]? = some y) (hij : i ≠ j) (hx : X.env.scope.names.lookup x = some .local) (hy : X.env.scope.names.lookup y = some .local)
    (ha : PA X [a, b] (tA X P F W [a', b'])) (hw : swappedStores [.Tuple [.Name x px, .Name y py] kt pt] (.Tuple [a, b] k2 pt2) X.env = pure (some [x, y])) :
    PS X (.Assign [.Tuple [.Name x px, .Name y py] kt pt] (.Tuple [a, b] k2 pt2) pos) (tS X P F W (.par2 i j a' b')) :=
  PS.imp (ps_par C.c hN hi hj hij hx hy ha hw rfl) fun D s H h => by
    obtain ⟨M, Fr, r, Dd, S, w, e⟩ := h
    simp only [wS] at w
    refine stepA S w (fun x H' M' r' cls d S' l rx ee => e.ex x cls d M' r' s H' S' l rx ee) fun vs ds M1 r1 H1 S1 le1 rl hq => ?_
    obtain ⟨dx, dy, rfl, q⟩ := hq
    cases rl with
    | cons r1' rl =>
      cases rl with
      | cons r2' rl =>
        cases rl
        have S2 := S1.set i (.val r1')
        exact ⟨_, _, rfl, e.nx M1 _ _ H1 (S2.set j (.val r2')) le1 q⟩
end
end PL
set_option maxHeartbeats 3900000
/-! PLm: from Python's syntax to the small language -/
namespace PL
open PySem L2

/-- where a piece of text stands: the names, the scope, which cells are its own -/
structure Stt where
  N : List Str
  sc : Scope
  fn : Str → Bool
/-- the names of the module -/
structure Tbl where
  blt : Str → Bool
  fn : Str → Option (Nat × Nat)
  fk : Str → Nat → List Str → Option (Nat × List Nat × Nat)
  cst : Str → Option Nat
  xc : Str → Bool
  potf : Str → Bool
  potv : Str → Bool

def ixOf (x : Str) : List Str → Option Nat
  | [] => none
  | y :: r => if y = x then some 0 else (ixOf x r).map (· + 1)
theorem ixOf_get {x : Str} : ∀ {N : List Str} {i : Nat}, ixOf x N = some i → N[i]? = some x
  | [], _, h => by cases h
  | y :: r, i, h => by
    unfold ixOf at h
    split at h
    · rename_i e
      cases h
      rw [e]; rfl
    · cases q : ixOf x r with
      | none => rw [q] at h; cases h
      | some j => rw [q] at h; cases h; show r[j]? = some x; exact ixOf_get q
/-- a plain name: neither __debug__ nor __classdict__ -/
def okN (x : Str) : Bool := !(x == ("__debug__" : Str)) && !(x == ("__classdict__" : Str))
theorem okN_1 {x : Str} (h : okN x = true) : (x == ("__debug__" : Str)) = false ∧ (x == ("__classdict__" : Str)) = false := by
  unfold okN at h
  rw [Bool.and_eq_true, Bool.not_eq_true', Bool.not_eq_true'] at h
  exact h
def visB (sc : Scope) (x : Str) : Bool := match sc.names.lookup x with
  | some .local => true
  | some .cell => true
  | some .free => true
  | _ => false
theorem visB_ok {sc : Scope} {x : Str} (h : visB sc x = true) : Vis sc x := by
  unfold visB at h
  split at h
  · rename_i e; exact .inl e
  · rename_i e; exact .inr (.inl e)
  · rename_i e; exact .inr (.inr e)
  · cases h
def globB (sc : Scope) (x : Str) : Bool := match sc.names.lookup x with
  | some .globalImplicit => true
  | _ => false
theorem globB_ok {sc : Scope} {x : Str} (h : globB sc x = true) : sc.names.lookup x = some .globalImplicit := by
  unfold globB at h
  split at h
  · rename_i e; exact e
  · cases h
def trVar (S : Stt) (x : Str) : Option Nat := if okN x && visB S.sc x then ixOf x S.N else none
theorem trVar_ok {S : Stt} {x : Str} {i : Nat} (h : trVar S x = some i) : S.N[i]? = some x ∧ Vis S.sc x ∧ (x == ("__debug__" : Str)) = false ∧ (x == ("__classdict__" : Str)) = false := by
  unfold trVar at h
  split at h
  · rename_i c
    rw [Bool.and_eq_true] at c
    exact ⟨ixOf_get h, visB_ok c.2, okN_1 c.1⟩
  · cases h
/-- a name that may be stored -/
def trLoc (S : Stt) (x : Str) : Option Nat := match S.sc.names.lookup x with
  | some .local => ixOf x S.N
  | some .cell => if S.fn x then ixOf x S.N else none
  | _ => none
theorem trLoc_ok {S : Stt} {x : Str} {i : Nat} (h : trLoc S x = some i) : S.N[i]? = some x ∧ Loc S.sc x ∧ (S.fn x = true ∨ S.sc.names.lookup x = some .local) := by
  unfold trLoc at h
  split at h
  · rename_i e; exact ⟨ixOf_get h, .inl e, .inr e⟩
  · rename_i e
    split at h
    · rename_i c; exact ⟨ixOf_get h, .inr e, .inl c⟩
    · cases h
  · cases h
def trOp : Operator → Option Op
  | .Add => some .add
  | .Sub => some .sub
  | .Mult => some .mul
  | .FloorDiv => some .fdiv
  | .Mod => some .mod
  | .Pow => some .pow
  | _ => none
theorem trOp_ok {o : Operator} {o' : Op} (h : trOp o = some o') : o = o'.py := by cases o <;> cases h <;> rfl
def trCm : CmpOp → Option Cm
  | .Eq => some .eq
  | .NotEq => some .ne
  | .Lt => some .lt
  | .LtE => some .le
  | .Gt => some .gt
  | .GtE => some .ge
  | .In => some .isin
  | .NotIn => some .notin
  | .Is => some .is
  | .IsNot => some .isnot
theorem trCm_ok {o : CmpOp} {o' : Cm} (h : trCm o = some o') : o = o'.py := by cases o <;> cases h <;> rfl
def trBi1 (x : Str) : Option Bi :=
  if x = "len" then some .len else if x = "abs" then some .abs else if x = "max" then some .max else if x = "min" then some .min else if x = "int" then some .int else if x = "repr" then some .repr
  else if x = "sum" then some .sum else if x = "all" then some .all else if x = "any" then some .any else if x = "list" then some .list else if x = "tuple" then some .tuple else none
def trBi2 (x : Str) : Option Bi := if x = "sorted" then some .sorted else if x = "dict" then some .dict else if x = "divmod" then some .divmod else if x = "str" then some .str else none
def trBi (x : Str) : Option Bi := match trBi1 x with
  | some b => some b
  | none => trBi2 x
theorem trBi1_ok {x : Str} {b : Bi} (h : trBi1 x = some b) : x = b.nm := by
  unfold trBi1 at h
  repeat' (split at h; · rename_i e; cases h; exact e)
  cases h
theorem trBi2_ok {x : Str} {b : Bi} (h : trBi2 x = some b) : x = b.nm := by
  unfold trBi2 at h
  repeat' (split at h; · rename_i e; cases h; exact e)
  cases h
theorem trBi_ok {x : Str} {b : Bi} (h : trBi x = some b) : x = b.nm := by
  unfold trBi at h
  split at h
  · rename_i e; cases h; exact trBi1_ok e
  · exact trBi2_ok h
def trTy (x : Str) : Option Ty :=
  if x = "int" then some .int else if x = "bool" then some .bool else if x = "str" then some .str else if x = "list" then some .list else if x = "tuple" then some .tuple else if x = "dict" then some .dict else none
theorem trTy_ok {x : Str} {b : Ty} (h : trTy x = some b) : x = b.nm := by
  unfold trTy at h
  repeat' (split at h; · rename_i e; cases h; exact e)
  cases h
def trC : Const → Option D
  | .int i => some (.int i)
  | .bool b => some (.bl b)
  | .none => some .non
  | .str x => some (.str x)
  | _ => none
def andL : List Ex → Option Ex
  | [] => none
  | [a] => some a
  | a :: r => (andL r).map (.and a)
def orL : List Ex → Option Ex
  | [] => none
  | [a] => some a
  | a :: r => (orL r).map (.or a)
def notStar : Expr → Bool
  | .Starred .. => false
  | _ => true
def notSlice : Expr → Bool
  | .Slice .. => false
  | _ => true
def notSet : Expr → Bool
  | .Set .. => false
  | _ => true
/-- no comprehension -/
def notComp : Expr → Bool
  | .ListComp .. => false
  | .SetComp .. => false
  | .DictComp .. => false
  | _ => true
/-- a text whose test is its value's truth -/
def plainT : Expr → Bool
  | .UnaryOp .Not _ _ => false
  | .BoolOp .. => false
  | .IfExp .. => false
  | .Compare .. => false
  | _ => true
theorem star_cons {e : Expr} (h : notStar e = true) (es : List Expr) (env : PySem.Env) : starEach (e :: es) env = (false, eval e env) :: starEach es env := by
  cases e <;> first | rfl | (exact absurd (show false = true from h) Bool.false_ne_true)
theorem star_any {env : PySem.Env} {pos : Pos} : ∀ {es : List Expr}, es.all notStar = true → (backTo pos (starEach es env)).any (·.1) = false
  | [], _ => rfl
  | e :: es, h => by
    rw [List.all_cons, Bool.and_eq_true] at h
    rw [star_cons h.1]
    have ih := star_any (env := env) (pos := pos) h.2
    unfold backTo at ih ⊢
    rw [List.map_cons, List.any_cons, ih]
    rfl
theorem plain_ix {b : Expr} (h : notSlice b = true) : PlainIx b := by
  intro o i
  cases b <;> first | rfl | (exact absurd (show false = true from h) Bool.false_ne_true)
theorem set_fold {e : Expr} (h : notSet e = true) (env : PySem.Env) (x : Value) : foldedSetIterable e env x = pure x := by
  cases e <;> first | rfl | (exact absurd (show false = true from h) Bool.false_ne_true)
theorem set_marks {e : Expr} (h : notSet e = true) (op : CmpOp) : behindInMarks op e = false := by
  cases e <;> first | rfl | (exact absurd (show false = true from h) Bool.false_ne_true)
theorem comp_swap {e : Expr} (h : notComp e = true) (t : Option Expr) (l : Nat) (env : PySem.Env) : swapsWith e t l env = pure false := by
  cases e <;> first | rfl | (exact absurd (show false = true from h) Bool.false_ne_true)
theorem plain_test {e : Expr} (h : plainT e = true) (env : PySem.Env) (whole : Sem Value) : isTrue e env whole = (do let v ← whole; standAt e.pos; holding [v] (truthy v)) := by
  cases e with
  | UnaryOp op a p => cases op <;> first | rfl | (exact absurd (show false = true from h) Bool.false_ne_true)
  | _ => first | rfl | (exact absurd (show false = true from h) Bool.false_ne_true)
end PL
set_option maxHeartbeats 3900000
/-! PLn: expressions, from Python's syntax -/
namespace PL
open PySem L2

def trG (S : Stt) : Nat → Expr → Option Tg
  | 0, _ => none
  | n + 1, e => match e with
    | .Name x _ => (trLoc S x).map .nm
    | .Tuple [.Name x _, .Starred (.Name y _) _] _ _ => (trLoc S x).bind fun i => (trLoc S y).map fun j => .star i j
    | .Tuple es _ _ => if es.all notStar then (es.mapM (trG S n)).map .tp else none
    | _ => none
/-- a comprehension's own names, by their places -/
def ownN (S : Stt) : List (Str × NameKind) → List (Str × Nat)
  | [] => []
  | (x, k) :: r => match k, ixOf x S.N with
    | .local, some i => (x, i) :: ownN S r
    | .cell, some i => (x, i) :: ownN S r
    | _, _ => ownN S r
/-- within a comprehension -/
def Stt.blk (S : Stt) (scope : Scope) : Stt := ⟨S.N, relS scope S.sc, fun x => scope.names.lookup x == some .cell⟩
def trDic : List (Option Expr) → List Expr → Option (List (Key × D))
  | [], [] => some []
  | some (.Constant (.int i) _ _) :: ks, .Constant c _ _ :: es => (trC c).bind fun d => (trDic ks es).map fun r => (.inl i, d) :: r
  | some (.Constant (.str x) _ _) :: ks, .Constant c _ _ :: es => (trC c).bind fun d => (trDic ks es).map fun r => (.inr x, d) :: r
  | _, _ => none
/-- a test that is not an IfExp within, nor a chain -/
def tstB : Nat → Expr → Bool
  | 0, _ => false
  | n + 1, e => match e with
    | .UnaryOp .Not a _ => tstB n a
    | .BoolOp _ es _ => es.all (tstB n)
    | .IfExp .. => false
    | .Compare _ [_] [_] _ => true
    | .Compare .. => false
    | _ => true
def bltG (T : Tbl) (S : Stt) (x : Str) : Bool := T.blt x && globB S.sc x
/-- what is walked -/
def tupT : Expr → Bool
  | .Tuple .. => true
  | _ => false
def trI (T : Tbl) (S : Stt) (f : Expr → Option Ex) (tg : Expr) (e : Expr) : Option It := match e with
  | .Call (.Name x _) [a] [] _ => if x = "range" && bltG T S x && notStar a then (f a).map .rng1 else (f e).map .seq
  | .Call (.Name x _) [a, b] [] _ => if x = "range" && bltG T S x && notStar a && notStar b then (f a).bind fun a' => (f b).map fun b' => .rng2 a' b' else if x = "zip" && bltG T S x && notStar a && notStar b && tupT tg then (f a).bind fun a' => (f b).map fun b' => .zip a' b' else (f e).map .seq
  | _ => (f e).map .seq
/-- len(name) -/
def trLen (T : Tbl) (S : Stt) (x : Str) (es : List Expr) : Option Ex := match es with
  | [.Name y _] => if bltG T S x then (if x = "len" then (trVar S y).map .lenv else if x = "repr" then (trVar S y).map .rpv else none) else none
  | _ => none
def trCall (T : Tbl) (S : Stt) (f : Expr → Option Ex) (x : Str) (es : List Expr) : Option Ex :=
  if es.all notStar && okN x && globB S.sc x then
    match T.fn x with
    | some (n, np) => if es.length = np then (es.mapM f).map fun es' => if T.potf x then .mkpot (.call n es') else .call n es' else none
    | none => match es with
      | [.Call (.Name y _) [a, b] [] _] => if x = "list" && y = "range" && bltG T S x && bltG T S y && notStar a && notStar b then (f a).bind fun a' => (f b).map fun b' => .rng a' b' else
        if bltG T S x then (trBi x).bind fun bi => (es.mapM f).map (.bi bi) else none
      | [a, .Name t _] => if x = "isinstance" then (if bltG T S x && bltG T S t then (trTy t).bind fun t' => (f a).map fun a' => .isi a' t' else none) else
        if bltG T S x then (trBi x).bind fun bi => (es.mapM f).map (.bi bi) else none
      | [] => none
      | _ => if bltG T S x then (trBi x).bind fun bi => (es.mapM f).map (.bi bi) else none
  else none
/-- a call with keywords -/
def trSrk (T : Tbl) (S : Stt) (f : Expr → Option Ex) (x : Str) (es : List Expr) (kws : List Keyword) : Option Ex := match es, kws with
  | [e], [⟨some kn, .Name y _, _⟩] => if x = "sorted" && bltG T S x && kn = "key" && okN y && globB S.sc y && notStar e then (match T.fn y with
    | some (n, np) => if np = 1 then (f e).map (.srk n) else none
    | none => none) else none
  | _, _ => none
def trCallK (T : Tbl) (S : Stt) (f : Expr → Option Ex) (x : Str) (es : List Expr) (kws : List Keyword) : Option Ex :=
  match kws.mapM (fun q => q.arg) with
  | none => none
  | some ks => match T.fk x es.length ks with
    | some (n, pm, np) => if es.all notStar && okN x && globB S.sc x then (es.mapM f).bind fun es' => (kws.mapM fun q => f q.value).map fun ks' => .callk n pm es' ks' else none
    | none => trSrk T S f x es kws
def trPart (f : Expr → Option Ex) : Option Expr → Option (Option Ex)
  | none => some none
  | some e => (f e).map some
def potSub (T : Tbl) (S : Stt) (a b : Expr) : Option Nat := match a, b with
  | .Name x _, .Constant (.int i) _ _ => if T.potv x && decide (i = 0) then trVar S x else none
  | _, _ => none
def trSub (T : Tbl) (S : Stt) (f : Expr → Option Ex) (a b : Expr) : Option Ex := match b with
  | .Slice lo hi st _ => match st with
    | none => (f a).bind fun a' => (trPart f lo).bind fun lo' => (trPart f hi).map fun hi' => .sl a' lo' hi'
    | some (.UnaryOp .USub (.Constant (.int i) _ _) _) => match lo, hi with
      | none, none => if i = 1 then (f a).map .rev else none
      | _, _ => none
    | _ => none
  | b => match potSub T S a b with
    | some i => some (.potg i)
    | none => (f a).bind fun a' => (f b).map fun b' => .ix a' b'
def trCmp (f : Expr → Option Ex) (a : Expr) (ops : List CmpOp) (bs : List Expr) : Option Ex := match ops, bs with
  | [o], [b] => if notSet b then (trCm o).bind fun o' => (f a).bind fun a' => (f b).map fun b' => .cmp o' a' b' else none
  | [o, p], [b, c] => if notSet c then (trCm o).bind fun o' => (trCm p).bind fun p' => (f a).bind fun a' => (f b).bind fun b' => (f c).map fun c' => .chn o' p' a' b' c' else none
  | _, _ => none
def trUn (f : Expr → Option Ex) (o : UnaryOp) (a : Expr) : Option Ex := match o with
  | .USub => (f a).map .neg
  | .Not => (f a).map .not
  | _ => none
def trName (T : Tbl) (S : Stt) (x : Str) : Option Ex := match trVar S x with
  | some i => some (.var i)
  | none => if okN x && globB S.sc x then (T.cst x).map .glo else none
def trIfs (f : Expr → Option Ex) (ifs : List Expr) : Option (List Ex) := match ifs with
  | [] => some []
  | [c] => if tstB 30 c then (f c).map fun c' => [c'] else none
  | _ => none
def ownIx (S : Stt) (scope : Scope) : List Nat := (ownN S scope.names).map fun p => p.2
def trLc (T : Tbl) (S : Stt) (n : Nat) (f g : Expr → Option Ex) (elt : Expr) (gens : List Comprehension) (scope : Scope) : Option Ex := match gens with
  | [⟨tg, iter, ifs, as⟩] =>
    if as = 0 ∧ blkC S.N S.sc scope (ownN S scope.names) = true ∧ notSet iter = true then
      (trI T S f tg iter).bind fun it' => (trG (S.blk scope) n tg).bind fun g' =>
        if g'.sl.all (fun i => (ownIx S scope).contains i) then (trIfs g ifs).bind fun cs' => (g elt).map fun e' => .lc g' it' cs' e' (ownIx S scope) else none
    else none
  | _ => none
/-- a text that is not a call, ahead of a dot -/
def dotB : Expr → Bool
  | .Call .. => false
  | _ => true
theorem dot_base {o : Expr} (h : dotB o = true) (x : Str) (env : PySem.Env) (w : Sem Value) : attributeBase o x env w = w := by
  cases o <;> first | rfl | (exact absurd (show false = true from h) Bool.false_ne_true)
def trMtN (x : Str) : Option Mt := if x = "join" then some .join else if x = "count" then some .count else if x = "upper" then some .upper else none
def Mt.isUp : Mt → Bool
  | .upper => true
  | _ => false
def trMt (f : Expr → Option Ex) (o : Expr) (x : Str) (ap : Pos) (es : List Expr) (cp : Pos) : Option Ex :=
  if dotB o && (ap.endLine == cp.line) then (trMtN x).bind fun m => match es with
    | [] => if m.isUp then (f o).map fun o' => .mt m o' [] else none
    | [e] => if notStar e then (f o).bind fun o' => (f e).map fun e' => .mt m o' [e'] else none
    | _ => none
  else none
def trMuN (x : Str) : Option Mu := if x = "append" then some .append else if x = "pop" then some .pop else none
def trMu (S : Stt) (f : Expr → Option Ex) (o : Expr) (m : Mu) (ap : Pos) (es : List Expr) (cp : Pos) : Option Ex := match o, es with
  | .Name y _, [e] => if notStar e && (ap.endLine == cp.line) then (trVar S y).bind fun i => (f e).map fun e' => .mu m i [e'] else none
  | _, _ => none
def trAt (S : Stt) (f : Expr → Option Ex) (o : Expr) (x : Str) (ap : Pos) (es : List Expr) (cp : Pos) : Option Ex := match trMuN x with
  | some m => trMu S f o m ap es cp
  | none => trMt f o x ap es cp
def trE (T : Tbl) : Nat → Stt → Expr → Option Ex
  | 0, _, _ => none
  | n + 1, S, e => match e with
    | .Name x _ => trName T S x
    | .Constant c _ _ => (trC c).map .cst
    | .UnaryOp o a _ => trUn (trE T n S) o a
    | .BinOp a o b _ => (trOp o).bind fun o' => (trE T n S a).bind fun a' => (trE T n S b).map fun b' => .bin o' a' b'
    | .Compare a ops bs _ => trCmp (trE T n S) a ops bs
    | .BoolOp o es _ => (es.mapM (trE T n S)).bind (match o with | .And => andL | .Or => orL)
    | .IfExp c a b _ => if tstB 30 c then (trE T n S c).bind fun c' => (trE T n S a).bind fun a' => (trE T n S b).map fun b' => .ifx c' a' b' else none
    | .Tuple es _ _ => if es.all notStar then (es.mapM (trE T n S)).map .tup else none
    | .List es _ => if es.all notStar then (es.mapM (trE T n S)).map .lst else none
    | .Dict ks es _ => (trDic ks es).map .dic
    | .Subscript a b _ => trSub T S (trE T n S) a b
    | .Call (.Name x _) es [] _ => match trLen T S x es with
      | some e' => some e'
      | none => trCall T S (trE T n S) x es
    | .Call (.Name x _) es kws _ => trCallK T S (trE T n S) x es kws
    | .Call (.Attribute o x ap) es [] cp => trAt S (trE T n S) o x ap es cp
    | .ListComp elt gens scope _ => trLc T S n (trE T n S) (trE T n (S.blk scope)) elt gens scope
    | _ => none

/-- the context of a piece of text -/
structure CtxOk (X : Cx) (S : Stt) (T : Tbl) (P : Pg) (F : Fn) (W : WX) (k : Nat) : Prop where
  N : X.N = S.N
  sc : X.env.scope = S.sc
  fn : X.fn = S.fn
  nd : S.N.Nodup
  cm : Calm X (k + 2)
  tk : L2N.Takes X W
  blt : ∀ x, T.blt x = true → X.mg x = none
  fns : ∀ x n np, T.fn x = some (n, np) → ∃ f fd ps, FnG X.prog X.w X.K X.mg X.base k f fd ps (spF X.K X.mg F n np) ∧ Binds X.K fd ps [] ∧ X.mg x = some (.ref f) ∧ PySem.W.keepIn X.K (.ref f) = true ∧ ∀ ds Q E, F n ds Q E → ds.length = np
  fks : ∀ x m ks n pm np, T.fk x m ks = some (n, pm, np) → ∃ f fd ps, FnG X.prog X.w X.K X.mg X.base k f fd ps (spF X.K X.mg F n np) ∧ KBp X.K fd ps m ks pm ∧ X.mg x = some (.ref f) ∧ PySem.W.keepIn X.K (.ref f) = true ∧ ∀ ds Q E, F n ds Q E → ds.length = np
  cst : ∀ x n, T.cst x = some n → ∃ d u v, X.mg x = some u ∧ RelV v u ∧ P.G n = some d ∧ ∀ M, Rep X.K M v d
theorem CtxOk.vis {X : Cx} {S : Stt} {T : Tbl} {P : Pg} {F : Fn} {W : WX} {k : Nat} (c : CtxOk X S T P F W k) {x : Str} {i : Nat} (h : trVar S x = some i) : X.N[i]? = some x ∧ Vis X.env.scope x ∧ (x == ("__debug__" : Str)) = false ∧ (x == ("__classdict__" : Str)) = false := by
  rw [c.N, c.sc]; exact trVar_ok h
theorem CtxOk.gl {X : Cx} {S : Stt} {T : Tbl} {P : Pg} {F : Fn} {W : WX} {k : Nat} (c : CtxOk X S T P F W k) {x : Str} (h : globB S.sc x = true) : Gl X x := by
  show X.env.scope.names.lookup x = _
  rw [c.sc]; exact globB_ok h
theorem CtxOk.bl {X : Cx} {S : Stt} {T : Tbl} {P : Pg} {F : Fn} {W : WX} {k : Nat} (c : CtxOk X S T P F W k) {x : Str} (h : bltG T S x = true) : Gl X x ∧ X.mg x = none := by
  unfold bltG at h
  rw [Bool.and_eq_true] at h
  exact ⟨c.gl h.2, c.blt x h.1⟩
/-- into a comprehension's block -/
theorem CtxOk.blk {X : Cx} {S : Stt} {T : Tbl} {P : Pg} {F : Fn} {W : WX} {k : Nat} (c : CtxOk X S T P F W k) (scope : Scope) (s : Shared) (H : Hp) (C : Addr) (cl : List (Str × Addr)) (fp : List Addr) : CtxOk (X.blk s H scope (compEnvC scope cl C X.env) fp) (S.blk scope) T P F W0 k where
  N := c.N
  sc := by
    show relS scope X.env.scope = relS scope S.sc
    rw [c.sc]
  fn := rfl
  nd := c.nd
  cm := ⟨c.cm.c, c.cm.r, c.cm.g, c.cm.sm⟩
  tk := fun u s' h => by
    obtain ⟨a, B, sI, pins, σ, H, cls, d, _, _, _, _, _, _, _, _, w⟩ := h
    exact w
  blt := c.blt
  fns := c.fns
  fks := c.fks
  cst := c.cst
end PL
set_option maxHeartbeats 3900000
/-! PLo: the translation of expressions is right -/
namespace PL
open PySem L2
theorem bind_some {al be : Type} {o : Option al} {f : al → Option be} {y : be} (h : o.bind f = some y) : ∃ x, o = some x ∧ f x = some y := by
  cases o with
  | none => cases h
  | some x => exact ⟨x, rfl, h⟩
theorem map_some {al be : Type} {o : Option al} {f : al → be} {y : be} (h : o.map f = some y) : ∃ x, o = some x ∧ f x = y := by
  cases o with
  | none => cases h
  | some x => cases h; exact ⟨x, rfl, rfl⟩
theorem mapM_cons {al be : Type} {f : al → Option be} {e : al} {es : List al} {l : List be} (h : (e :: es).mapM f = some l) : ∃ e' es', f e = some e' ∧ es.mapM f = some es' ∧ l = e' :: es' := by
  rw [List.mapM_cons] at h
  obtain ⟨e', h1, h⟩ := bind_some h
  obtain ⟨es', h2, h⟩ := bind_some h
  cases h
  exact ⟨e', es', h1, h2, rfl⟩
theorem mapM_nil {al be : Type} {f : al → Option be} {l : List be} (h : ([] : List al).mapM f = some l) : l = [] := by
  rw [List.mapM_nil] at h; cases h; rfl
theorem mapM_len {al be : Type} {f : al → Option be} : ∀ {es : List al} {l : List be}, es.mapM f = some l → l.length = es.length
  | [], _, h => by rw [mapM_nil h]; rfl
  | e :: es, _, h => by
    obtain ⟨e', es', _, h2, rfl⟩ := mapM_cons h
    rw [List.length_cons, List.length_cons, mapM_len h2]
section
variable {X : Cx} {S : Stt} {T : Tbl} {P : Pg} {F : Fn} {W : WX} {k : Nat}
/-- what a translator must keep -/
def Snd (X : Cx) (P : Pg) (F : Fn) (W : WX) (f : Expr → Option Ex) : Prop := ∀ e e', f e = some e' → PE X e (tE X P F W e')
theorem snd_args {f : Expr → Option Ex} (hf : Snd X P F W f) : ∀ {es : List Expr} {es' : List Ex}, es.all notStar = true → es.mapM f = some es' → PA X es (tA X P F W es')
  | [], _, _, h => by rw [mapM_nil h]; exact sa_nil
  | e :: es, _, hs, h => by
    obtain ⟨e', es', h1, h2, rfl⟩ := mapM_cons h
    rw [List.all_cons, Bool.and_eq_true] at hs
    exact sa_cons (hf e e' h1) (snd_args hf hs.2 h2) (star_cons hs.1 es X.env)
theorem snd_and {f : Expr → Option Ex} (hf : Snd X P F W f) {pos : Pos} : ∀ {es : List Expr} {es' : List Ex} {e' : Ex}, es.mapM f = some es' → andL es' = some e' → PE X (.BoolOp .And es pos) (tE X P F W e')
  | [], _, _, h, q => by rw [mapM_nil h] at q; cases q
  | [a], _, _, h, q => by
    obtain ⟨a', r', h1, h2, rfl⟩ := mapM_cons h
    rw [mapM_nil h2] at q; cases q
    exact pe_one (hf a _ h1)
  | a :: b :: es, _, _, h, q => by
    obtain ⟨a', r', h1, h2, rfl⟩ := mapM_cons h
    obtain ⟨b', r2, h3, h4, rfl⟩ := mapM_cons h2
    simp only [andL] at q
    obtain ⟨z, q1, rfl⟩ := map_some q
    exact se_and (hf a a' h1) (snd_and hf h2 q1)
theorem snd_or {f : Expr → Option Ex} (hf : Snd X P F W f) {pos : Pos} : ∀ {es : List Expr} {es' : List Ex} {e' : Ex}, es.mapM f = some es' → orL es' = some e' → PE X (.BoolOp .Or es pos) (tE X P F W e')
  | [], _, _, h, q => by rw [mapM_nil h] at q; cases q
  | [a], _, _, h, q => by
    obtain ⟨a', r', h1, h2, rfl⟩ := mapM_cons h
    rw [mapM_nil h2] at q; cases q
    exact pe_one (hf a _ h1)
  | a :: b :: es, _, _, h, q => by
    obtain ⟨a', r', h1, h2, rfl⟩ := mapM_cons h
    obtain ⟨b', r2, h3, h4, rfl⟩ := mapM_cons h2
    simp only [orL] at q
    obtain ⟨z, q1, rfl⟩ := map_some q
    exact se_or (hf a a' h1) (snd_or hf h2 q1)
/-- .. and as a test -/
def SndT (X : Cx) (P : Pg) (F : Fn) (W : WX) (t : Expr → Bool) (f : Expr → Option Ex) : Prop := ∀ e e', t e = true → f e = some e' → PT X e (tT X P F W e')
theorem sndT_and {t : Expr → Bool} {f : Expr → Option Ex} (hf : SndT X P F W t f) {pos : Pos} : ∀ {es : List Expr} {es' : List Ex} {e' : Ex}, es.all t = true → es.mapM f = some es' → andL es' = some e' → PW X (.BoolOp .And es pos) (tT X P F W e')
  | [], _, _, _, h, q => by rw [mapM_nil h] at q; cases q
  | [a], _, _, ht, h, q => by
    obtain ⟨a', r', h1, h2, rfl⟩ := mapM_cons h
    rw [mapM_nil h2] at q; cases q
    rw [List.all_cons, Bool.and_eq_true] at ht
    exact sw_and1 (hf a _ ht.1 h1)
  | a :: b :: es, _, _, ht, h, q => by
    obtain ⟨a', r', h1, h2, rfl⟩ := mapM_cons h
    obtain ⟨b', r2, h3, h4, rfl⟩ := mapM_cons h2
    simp only [andL] at q
    obtain ⟨z, q1, rfl⟩ := map_some q
    rw [List.all_cons, Bool.and_eq_true] at ht
    exact sw_and (hf a a' ht.1 h1) (sndT_and hf ht.2 h2 q1)
theorem sndT_or {t : Expr → Bool} {f : Expr → Option Ex} (hf : SndT X P F W t f) {pos : Pos} : ∀ {es : List Expr} {es' : List Ex} {e' : Ex}, es.all t = true → es.mapM f = some es' → orL es' = some e' → PW X (.BoolOp .Or es pos) (tT X P F W e')
  | [], _, _, _, h, q => by rw [mapM_nil h] at q; cases q
  | [a], _, _, ht, h, q => by
    obtain ⟨a', r', h1, h2, rfl⟩ := mapM_cons h
    rw [mapM_nil h2] at q; cases q
    rw [List.all_cons, Bool.and_eq_true] at ht
    exact sw_or1 (hf a _ ht.1 h1)
  | a :: b :: es, _, _, ht, h, q => by
    obtain ⟨a', r', h1, h2, rfl⟩ := mapM_cons h
    obtain ⟨b', r2, h3, h4, rfl⟩ := mapM_cons h2
    simp only [orL] at q
    obtain ⟨z, q1, rfl⟩ := map_some q
    rw [List.all_cons, Bool.and_eq_true] at ht
    exact sw_or (hf a a' ht.1 h1) (sndT_or hf ht.2 h2 q1)
/-- a text that is no and, or, not: its test is its value's truth -/
def plainX : Ex → Bool
  | .and _ _ => false
  | .or _ _ => false
  | .not _ => false
  | _ => true
theorem plainX_wT {e : Ex} (h : plainX e = true) (r : PL.Env) (Q : Bool → PL.Env → Prop) (E : Xc → PL.Env → Prop) (w : wT P F e r Q E) : wE P F e r (fun x r1 => ∃ k, truD x.d = some k ∧ Q k r1) E := by
  cases e <;> first | exact absurd (show false = true from h) Bool.false_ne_true | (simp only [wT] at w; exact w)
theorem if_some {al : Type} {c : Prop} [Decidable c] {x : Option al} {y : al} (h : (if c then x else none) = some y) : c ∧ x = some y := by
  split at h
  · rename_i q; exact ⟨q, h⟩
  · cases h
theorem beq_dec {x y : Str} (h : decide (x = y) = true) : x = y := of_decide_eq_true h

/-! ### calls -/
theorem bi_plain {b : Bi} {es : List Ex} : plainX (.bi b es) = true := rfl
theorem snd_bi (c : CtxOk X S T P F W k) {f : Expr → Option Ex} (hf : Snd X P F W f) {x : Str} {p pos : Pos} {e : Expr} {es : List Expr} {e' : Ex} (hs : (e :: es).all notStar = true) (hb : bltG T S x = true) (h : ((trBi x).bind fun bi => ((e :: es).mapM f).map (Ex.bi bi)) = some e') :
    PE X (.Call (.Name x p) (e :: es) [] pos) (tE X P F W e') ∧ plainX e' = true := by
  obtain ⟨bi, h1, h⟩ := bind_some h
  obtain ⟨es', h2, rfl⟩ := map_some h
  have hx := trBi_ok h1
  obtain ⟨g1, g2⟩ := c.bl hb
  have hs' := hs
  rw [List.all_cons, Bool.and_eq_true] at hs'
  subst hx
  exact ⟨se_bi c.cm g1 g2 (snd_args hf hs h2) (star_cons hs'.1 es X.env) (star_any hs'.2), rfl⟩
theorem snd_call (c : CtxOk X S T P F W k) {f : Expr → Option Ex} (hf : Snd X P F W f) {x : Str} {p pos : Pos} {es : List Expr} {e' : Ex} (h : trCall T S f x es = some e') : PE X (.Call (.Name x p) es [] pos) (tE X P F W e') ∧ plainX e' = true := by
  unfold trCall at h
  obtain ⟨hc, h⟩ := if_some h
  rw [Bool.and_eq_true, Bool.and_eq_true] at hc
  obtain ⟨⟨hs, hok⟩, hgl⟩ := hc
  split at h
  · rename_i n np hT
    obtain ⟨hl, h⟩ := if_some h
    obtain ⟨es', h1, h⟩ := map_some h
    obtain ⟨fa, fd, ps, G, hb, hm, hk, hF⟩ := c.fns x n np hT
    have core : PE X (.Call (.Name x p) es [] pos) (tE X P F W (.call n es')) := by
      cases es with
      | nil =>
        rw [mapM_nil h1]
        simp only [List.length_nil] at hl
        subst hl
        exact se_call0 (G.mono (Nat.le_add_right _ _)) c.cm hb c.tk (c.gl hgl) hm hk (okN_1 hok).1
      | cons e es =>
        have hs' := hs
        rw [List.all_cons, Bool.and_eq_true] at hs'
        exact se_call (G.mono (Nat.le_add_right _ _)) c.cm hb c.tk (c.gl hgl) hm hk (snd_args hf hs h1) (okN_1 hok).1 (star_cons hs'.1 es X.env) (star_any hs'.2) hF
    split at h
    · subst h; exact ⟨se_mkpot core, rfl⟩
    · subst h; exact ⟨core, rfl⟩
  · split at h
    · rename_i y p1 a b p2
      split at h
      · rename_i q
        simp only [Bool.and_eq_true, decide_eq_true_eq] at q
        obtain ⟨⟨⟨⟨⟨q1, q2⟩, q3⟩, q4⟩, q5⟩, q6⟩ := q
        subst q1 q2
        obtain ⟨a', h1, h⟩ := bind_some h
        obtain ⟨b', h2, rfl⟩ := map_some h
        obtain ⟨g1, g2⟩ := c.bl q3
        obtain ⟨g3, g4⟩ := c.bl q4
        exact ⟨se_rng c.cm g1 g2 g3 g4 (hf _ a' h1) (hf _ b' h2) (star_cons q5 _ X.env) (star_cons q6 [] X.env), rfl⟩
      · obtain ⟨hb, h⟩ := if_some h
        exact snd_bi c hf hs hb h
    · rename_i a t p1
      split at h
      · rename_i q
        subst q
        obtain ⟨q, h⟩ := if_some h
        rw [Bool.and_eq_true] at q
        obtain ⟨t', h1, h⟩ := bind_some h
        obtain ⟨a', h2, rfl⟩ := map_some h
        have ht := trTy_ok h1
        subst ht
        obtain ⟨g1, g2⟩ := c.bl q.1
        obtain ⟨g3, g4⟩ := c.bl q.2
        rw [List.all_cons, Bool.and_eq_true] at hs
        exact ⟨se_isi c.cm g1 g2 g3 g4 (hf _ a' h2) (star_cons hs.1 _ X.env), rfl⟩
      · obtain ⟨hb, h⟩ := if_some h
        exact snd_bi c hf hs hb h
    · cases h
    · obtain ⟨hb, h⟩ := if_some h
      cases es with
      | nil => simp_all
      | cons e es => exact snd_bi c hf hs hb h
theorem snd_kws {f : Expr → Option Ex} (hf : Snd X P F W f) : ∀ {kws : List Keyword} {ks' : List Ex}, (kws.mapM fun q => f q.value) = some ks' → PK X kws (tA X P F W ks')
  | [], _, h => by rw [mapM_nil h]; exact sk_nil
  | ⟨nm, e, kp⟩ :: kws, _, h => by
    obtain ⟨e', es', h1, h2, rfl⟩ := mapM_cons h
    exact sk_cons (hf e e' h1) (snd_kws hf h2)
theorem snd_callK (c : CtxOk X S T P F W k) {f : Expr → Option Ex} (hf : Snd X P F W f) {x : Str} {p pos : Pos} {es : List Expr} {kws : List Keyword} {e' : Ex} (h : trCallK T S f x es kws = some e') : PE X (.Call (.Name x p) es kws pos) (tE X P F W e') ∧ plainX e' = true := by
  unfold trCallK at h
  split at h
  · cases h
  · rename_i ks hks
    obtain ⟨k1, k2, k3⟩ := kw_facts (env := X.env) (pos := pos) hks
    split at h
    · rename_i n pm np hT
      obtain ⟨hc, h⟩ := if_some h
      rw [Bool.and_eq_true, Bool.and_eq_true] at hc
      obtain ⟨⟨hs, hok⟩, hgl⟩ := hc
      obtain ⟨es', h1, h⟩ := bind_some h
      obtain ⟨ks', h2, rfl⟩ := map_some h
      obtain ⟨fa, fd, ps, G, hb, hm, hk, hF⟩ := c.fks x es.length ks n pm np hT
      have l1 := mapM_len h1
      have l2 := mapM_len h2
      have l3 := mapM_len hks
      refine ⟨se_callk (G.mono (Nat.le_add_right _ _)) c.cm (by rw [l1]; exact hb) (by rw [l3, l2]) c.tk (c.gl hgl) hm hk (snd_args hf hs h1) (snd_kws hf h2) (okN_1 hok).1 k1 k2 (fun e r er => ?_) l1.symm ?_ hF, rfl⟩
      · subst er
        rw [List.all_cons, Bool.and_eq_true] at hs
        exact star_cons hs.1 r X.env
      · rw [star_any hs, k3]; rfl
    · unfold trSrk at h
      split at h
      · rename_i e kn y p1 p2 hTk
        obtain ⟨hc, hv⟩ := if_some h
        clear h
        simp only [Bool.and_eq_true, decide_eq_true_eq] at hc
        obtain ⟨⟨⟨⟨⟨q1, q2⟩, q3⟩, q4⟩, q5⟩, q6⟩ := hc
        subst q1 q3
        cases hT : T.fn y with
        | none => rw [hT] at hv; cases hv
        | some q =>
          obtain ⟨n, np⟩ := q
          rw [hT] at hv
          obtain ⟨hl, hv⟩ := if_some hv
          subst hl
          obtain ⟨e2, h1, rfl⟩ := map_some hv
          obtain ⟨fa, fd, ps, G, hb, hm, hk, hF⟩ := c.fns y n 1 hT
          obtain ⟨g1, g2⟩ := c.bl q2
          exact ⟨se_srk G c.cm hb g1 g2 (c.gl q5) hm (okN_1 q4).1 (hf _ e2 h1) (star_cons q6 [] X.env), rfl⟩
      · cases h
end
end PL
set_option maxHeartbeats 3900000
/-! PLp: the translation of expressions is right, as a whole -/
namespace PL
open PySem L2
theorem asg_cons {e : Expr} (h : notStar e = true) (es : List Expr) (env : PySem.Env) : assignEach (e :: es) env = (false, assign e env) :: assignEach es env := by
  cases e <;> first | rfl | (exact absurd (show false = true from h) Bool.false_ne_true)
theorem asg_facts (env : PySem.Env) : ∀ {es : List Expr}, es.all notStar = true → (assignEach es env).findIdx? (·.1) = none ∧ (assignEach es env).length = es.length
  | [], _ => ⟨rfl, rfl⟩
  | e :: es, h => by
    rw [List.all_cons, Bool.and_eq_true] at h
    obtain ⟨h1, h2⟩ := asg_facts env h.2
    rw [asg_cons h.1]
    refine ⟨?_, by rw [List.length_cons, List.length_cons, h2]⟩
    rw [List.findIdx?_cons, h1]
    rfl
section
variable {X : Cx} {S : Stt} {T : Tbl} {P : Pg} {F : Fn} {W : WX} {k : Nat}
theorem CtxOk.loc (c : CtxOk X S T P F W k) {x : Str} {i : Nat} (h : trLoc S x = some i) : X.N[i]? = some x ∧ Loc X.env.scope x ∧ (X.fn x = true ∨ X.env.scope.names.lookup x = some .local) := by
  rw [c.N, c.sc, c.fn]; exact trLoc_ok h
theorem CtxOk.nodup (c : CtxOk X S T P F W k) : X.N.Nodup := by rw [c.N]; exact c.nd
theorem trGs_ok {f : Expr → Option Tg} (hf : ∀ e g, f e = some g → PG X e (tG X.K g)) : ∀ {es : List Expr} {gs : List Tg}, es.all notStar = true → es.mapM f = some gs → PGs X es (tGs X.K gs)
  | [], _, _, h => by rw [mapM_nil h]; exact sgs_nil
  | e :: es, _, hs, h => by
    obtain ⟨g, gs, h1, h2, rfl⟩ := mapM_cons h
    rw [List.all_cons, Bool.and_eq_true] at hs
    exact sgs_cons (hf e g h1) (trGs_ok hf hs.2 h2) (by rw [asg_cons hs.1]; rfl)
theorem trG_ok (c : CtxOk X S T P F W k) : ∀ (n : Nat) (e : Expr) (g : Tg), trG S n e = some g → PG X e (tG X.K g)
  | 0, _, _, h => by cases h
  | n + 1, e, g, h => by
    unfold trG at h
    split at h
    · obtain ⟨i, h1, rfl⟩ := map_some h
      obtain ⟨l1, l2, l3⟩ := c.loc h1
      exact sg_nm c.nodup l1 l2 l3
    · obtain ⟨i, h1, h⟩ := bind_some h
      obtain ⟨j, h2, rfl⟩ := map_some h
      obtain ⟨l1, l2, l3⟩ := c.loc h1
      obtain ⟨m1, m2, m3⟩ := c.loc h2
      exact sg_star c.cm.c c.nodup l1 m1 l2 m2 l3 m3
    · obtain ⟨hs, h⟩ := if_some h
      obtain ⟨gs, h1, rfl⟩ := map_some h
      obtain ⟨f1, f2⟩ := asg_facts X.env hs
      exact sg_tp c.cm.c (trGs_ok (fun e g => trG_ok c n e g) hs h1) f1 (by rw [f2, mapM_len h1])
    · cases h

/-! ### the arms -/
theorem snd_name (c : CtxOk X S T P F W k) {x : Str} {p : Pos} {e' : Ex} (h : trName T S x = some e') : PE X (.Name x p) (tE X P F W e') ∧ plainX e' = true := by
  unfold trName at h
  split at h
  · rename_i i hv
    cases h
    obtain ⟨h1, h2, h3, h4⟩ := c.vis hv
    exact ⟨se_var h1 h2 h3 h4, rfl⟩
  · obtain ⟨hc, h⟩ := if_some h
    rw [Bool.and_eq_true] at hc
    obtain ⟨n, h1, rfl⟩ := map_some h
    obtain ⟨d, u, v, hm, rv, hG, rp⟩ := c.cst x n h1
    exact ⟨se_glo (c.gl hc.2) hm rv (okN_1 hc.1).1 hG rp, rfl⟩
theorem snd_const {co : Const} {j : Nat} {p : Pos} {d : D} (h : trC co = some d) : PE X (.Constant co j p) (tE X P F W (.cst d)) := by
  cases co <;> cases h
  · exact se_non
  · exact se_bl
  · exact se_int
  · exact se_str
theorem const_flat {co : Const} {j : Nat} {p : Pos} {d : D} (h : trC co = some d) (Y : Cx) : PE Y (.Constant co j p) (tC (flV d)) := by
  cases co <;> cases h
  · exact pe_non
  · exact pe_bl
  · exact pe_int
  · exact pe_str
theorem snd_dic : ∀ {ks : List (Option Expr)} {es : List Expr} {r : List (Key × D)}, trDic ks es = some r → DicC ks es r := by
  intro ks
  induction ks with
  | nil =>
    intro es r h
    cases es with
    | nil => cases h; exact .nil
    | cons e es => cases h
  | cons kx ks ih =>
    intro es r h
    unfold trDic at h
    split at h
    · exact absurd ‹kx :: ks = []› (by simp)
    · rename_i i _ _ ks' co _ _ es' e1 
      cases e1
      obtain ⟨d, h1, h⟩ := bind_some h
      obtain ⟨r', h2, rfl⟩ := map_some h
      exact .int (const_flat h1) (ih h2)
    · rename_i i _ _ ks' co _ _ es' e1
      cases e1
      obtain ⟨d, h1, h⟩ := bind_some h
      obtain ⟨r', h2, rfl⟩ := map_some h
      exact .str (const_flat h1) (ih h2)
    · cases h
theorem snd_part {f : Expr → Option Ex} (hf : Snd X P F W f) {o : Option Expr} {o' : Option Ex} (h : trPart f o = some o') : PO X o (tO X P F W o') := by
  cases o with
  | none => cases h; exact so_none
  | some e =>
    obtain ⟨e', h1, rfl⟩ := map_some h
    exact so_some (hf e e' h1)
theorem snd_sub (c : CtxOk X S T P F W k) {f : Expr → Option Ex} (hf : Snd X P F W f) {a b : Expr} {p : Pos} {e' : Ex} (h : trSub T S f a b = some e') : PE X (.Subscript a b p) (tE X P F W e') ∧ plainX e' = true := by
  unfold trSub at h
  split at h
  · split at h
    · obtain ⟨a', h1, h⟩ := bind_some h
      obtain ⟨lo', h2, h⟩ := bind_some h
      obtain ⟨hi', h3, rfl⟩ := map_some h
      exact ⟨se_sl (hf a a' h1) (snd_part hf h2) (snd_part hf h3), rfl⟩
    · split at h
      · obtain ⟨hi, h⟩ := if_some h
        subst hi
        obtain ⟨a', h1, rfl⟩ := map_some h
        exact ⟨se_rev (hf a a' h1), rfl⟩
      · cases h
    · cases h
  · rename_i hns
    have ns : notSlice b = true := by
      cases b <;> first | rfl | exact absurd rfl (hns _ _ _ _)
    split at h
    · rename_i i hp
      cases h
      unfold potSub at hp
      split at hp
      · obtain ⟨hc, hp2⟩ := if_some hp
        rw [Bool.and_eq_true, decide_eq_true_eq] at hc
        obtain ⟨_, hc⟩ := hc
        subst hc
        obtain ⟨h1, h2, h3, h4⟩ := c.vis hp2
        exact ⟨se_potg h1 h2 h3 h4, rfl⟩
      · cases hp
    · obtain ⟨a', h1, h⟩ := bind_some h
      obtain ⟨b', h2, rfl⟩ := map_some h
      exact ⟨se_ix c.cm (hf a a' h1) (hf b b' h2) (plain_ix ns), rfl⟩
theorem snd_cmp (c : CtxOk X S T P F W k) {f : Expr → Option Ex} (hf : Snd X P F W f) {a : Expr} {ops : List CmpOp} {bs : List Expr} {p : Pos} {e' : Ex} (h : trCmp f a ops bs = some e') : PE X (.Compare a ops bs p) (tE X P F W e') := by
  unfold trCmp at h
  split at h
  · obtain ⟨hs, h⟩ := if_some h
    obtain ⟨o', h0, h⟩ := bind_some h
    obtain ⟨a', h1, h⟩ := bind_some h
    obtain ⟨b', h2, rfl⟩ := map_some h
    have := trCm_ok h0
    subst this
    exact se_cmp c.cm (hf _ a' h1) (hf _ b' h2) (set_marks hs _)
  · obtain ⟨hs, h⟩ := if_some h
    obtain ⟨o', h0, h⟩ := bind_some h
    obtain ⟨p', h00, h⟩ := bind_some h
    obtain ⟨a', h1, h⟩ := bind_some h
    obtain ⟨b', h2, h⟩ := bind_some h
    obtain ⟨c', h3, rfl⟩ := map_some h
    have e1 := trCm_ok h0
    have e2 := trCm_ok h00
    subst e1 e2
    exact se_chn c.cm (hf _ a' h1) (hf _ b' h2) (hf _ c' h3) (by
      show behindInMarks _ _ = false
      exact set_marks hs _)
  · cases h
theorem sndT_cmp (c : CtxOk X S T P F W k) {f : Expr → Option Ex} (hf : Snd X P F W f) {a b : Expr} {o : CmpOp} {p : Pos} {e' : Ex} (h : trCmp f a [o] [b] = some e') : PT X (.Compare a [o] [b] p) (tT X P F W e') := by
  unfold trCmp at h
  obtain ⟨hs, h⟩ := if_some h
  obtain ⟨o', h0, h⟩ := bind_some h
  obtain ⟨a', h1, h⟩ := bind_some h
  obtain ⟨b', h2, rfl⟩ := map_some h
  have := trCm_ok h0
  subst this
  exact st_cmp c.cm (hf _ a' h1) (hf _ b' h2) (set_marks hs _)
theorem snd_it (c : CtxOk X S T P F W k) {f : Expr → Option Ex} (hf : Snd X P F W f) {tg e : Expr} {it' : It} (h : trI T S f tg e = some it') : PI X tg e (tI X P F W it') := by
  have seq : ∀ {x : It}, (f e).map It.seq = some x → PI X tg e (tI X P F W x) := fun {x} q => by
    obtain ⟨e', h1, rfl⟩ := map_some q
    exact si_seq (hf e e' h1)
  unfold trI at h
  split at h
  · split at h
    · rename_i q
      simp only [Bool.and_eq_true, decide_eq_true_eq] at q
      obtain ⟨⟨q1, q2⟩, q3⟩ := q
      subst q1
      obtain ⟨a', h1, rfl⟩ := map_some h
      obtain ⟨g1, g2⟩ := c.bl q2
      exact si_rng1 g1 g2 (hf _ a' h1) (star_cons q3 [] X.env)
    · exact seq h
  · split at h
    · rename_i q
      simp only [Bool.and_eq_true, decide_eq_true_eq] at q
      obtain ⟨⟨⟨q1, q2⟩, q3⟩, q4⟩ := q
      subst q1
      obtain ⟨a', h1, h⟩ := bind_some h
      obtain ⟨b', h2, rfl⟩ := map_some h
      obtain ⟨g1, g2⟩ := c.bl q2
      exact si_rng2 g1 g2 (hf _ a' h1) (hf _ b' h2) (by rw [star_cons q3, star_cons q4]; rfl) (star_cons q4 [] X.env)
    · split at h
      · rename_i q
        simp only [Bool.and_eq_true, decide_eq_true_eq] at q
        obtain ⟨⟨⟨⟨q1, q2⟩, q3⟩, q4⟩, q5⟩ := q
        subst q1
        obtain ⟨a', h1, h⟩ := bind_some h
        obtain ⟨b', h2, rfl⟩ := map_some h
        obtain ⟨g1, g2⟩ := c.bl q2
        cases tg <;> first
          | (exact absurd (show false = true from q5) (by decide))
          | exact si_zip g1 g2 (hf _ a' h1) (hf _ b' h2) (by rw [star_cons q3, star_cons q4]; rfl) (star_cons q4 [] X.env)
      · exact seq h
  · exact seq h
theorem snd_ifs {t : Expr → Bool} {g : Expr → Option Ex} (hg : SndT X P F W (tstB 30) g) {ifs : List Expr} {cs' : List Ex} (h : trIfs g ifs = some cs') : PTs X ifs (tTs X P F W cs') := by
  unfold trIfs at h
  split at h
  · cases h; exact sts_nil
  · obtain ⟨ht, h⟩ := if_some h
    obtain ⟨c', h1, rfl⟩ := map_some h
    exact sts_one (hg _ c' ht h1)
  · cases h
theorem snd_lc (c : CtxOk X S T P F W k) {n : Nat} {f g : Expr → Option Ex} {elt : Expr} {gens : List Comprehension} {scope : Scope} {p : Pos} {e' : Ex} (hf : Snd X P F W f)
    (hg : ∀ (s : Shared) (H : Hp) (C : Addr) (cl : List (Str × Addr)) (fp : List Addr), Snd (X.blk s H scope (compEnvC scope cl C X.env) fp) P F W0 g ∧ SndT (X.blk s H scope (compEnvC scope cl C X.env) fp) P F W0 (tstB 30) g) (h : trLc T S n f g elt gens scope = some e') :
    ∃ tg iter ifs it' g' cs' x', gens = [⟨tg, iter, ifs, 0⟩] ∧ e' = .lc g' it' cs' x' ((ownN S scope.names).map (·.2)) ∧ PI X tg iter (tI X P F W it') ∧ BlkOk X.N X.env.scope scope (ownN S scope.names) ∧
      (∀ (s : Shared) (H : Hp) (C : Addr) (cl : List (Str × Addr)) (fp : List Addr), PG (X.blk s H scope (compEnvC scope cl C X.env) fp) tg (tG X.K g')) ∧ (∀ (s : Shared) (H : Hp) (C : Addr) (cl : List (Str × Addr)) (fp : List Addr), PTs (X.blk s H scope (compEnvC scope cl C X.env) fp) ifs (tTs X P F W0 cs')) ∧
      (∀ (s : Shared) (H : Hp) (C : Addr) (cl : List (Str × Addr)) (fp : List Addr), PE (X.blk s H scope (compEnvC scope cl C X.env) fp) elt (tE X P F W0 x')) ∧ (∀ i ∈ g'.sl, i ∈ (ownN S scope.names).map (·.2)) ∧ (∀ x, foldedSetIterable iter X.env x = pure x) := by
  unfold trLc at h
  split at h
  · rename_i tg iter ifs as
    obtain ⟨⟨q1, q2, q3⟩, hh⟩ := if_some h
    subst q1
    obtain ⟨it', h1, hh⟩ := bind_some hh
    obtain ⟨g', h2, hh⟩ := bind_some hh
    obtain ⟨q4, hh⟩ := if_some hh
    obtain ⟨cs', h3, hh⟩ := bind_some hh
    obtain ⟨x', h4, rfl⟩ := map_some hh
    refine ⟨tg, iter, ifs, it', g', cs', x', rfl, rfl, snd_it c hf h1, by rw [c.N, c.sc]; exact blkOk_by q2, fun s H C cl fp => trG_ok (c.blk scope s H C cl fp) n tg g' h2, fun s H C cl fp => snd_ifs (t := fun _ => true) (hg s H C cl fp).2 h3, fun s H C cl fp => (hg s H C cl fp).1 elt x' h4, fun i hi => ?_, fun x => set_fold q3 X.env x⟩
    have := List.all_eq_true.mp q4 i hi
    rw [List.contains_iff_mem] at this
    exact this
  · cases h
end
/-- expressions and tests -/
theorem trMtN_ok {x : Str} {m : Mt} (h : trMtN x = some m) : x = m.nm := by
  unfold trMtN at h
  split at h
  · rename_i e; cases h; exact e
  · split at h
    · rename_i e; cases h; exact e
    · split at h
      · rename_i e; cases h; exact e
      · cases h
theorem snd_mt {X : Cx} {S : Stt} {T : Tbl} {P : Pg} {F : Fn} {W : WX} {k : Nat} (c : CtxOk X S T P F W k) {f : Expr → Option Ex} (hf : Snd X P F W f) {o : Expr} {x : Str} {ap cp : Pos} {es : List Expr} {e' : Ex} (h : trMt f o x ap es cp = some e') : PE X (.Call (.Attribute o x ap) es [] cp) (tE X P F W e') := by
  unfold trMt at h
  obtain ⟨hc, ha⟩ := if_some h
  rw [Bool.and_eq_true] at hc
  obtain ⟨m, h1, hh⟩ := bind_some ha
  clear h ha
  have e1 := trMtN_ok h1
  subst e1
  split at hh
  · obtain ⟨hu, hv⟩ := if_some hh
    obtain ⟨o', h2, rfl⟩ := map_some hv
    exact se_mt0 (hf _ o' h2) (dot_base hc.1 _ _ _) hc.2 (by cases m <;> first | rfl | cases hu)
  · obtain ⟨hs, hv⟩ := if_some hh
    obtain ⟨o', h2, hw⟩ := bind_some hv
    obtain ⟨a', h3, rfl⟩ := map_some hw
    have st := star_cons hs [] X.env
    exact se_mt1 c.cm (hf _ o' h2) (hf _ a' h3) (dot_base hc.1 _ _ _) (by rw [st]; rfl) hc.2 st
  · cases hh
theorem snd_mtp {f : Expr → Option Ex} {o : Expr} {x : Str} {ap cp : Pos} {es : List Expr} {e' : Ex} (h : trMt f o x ap es cp = some e') : plainX e' = true := by
  unfold trMt at h
  obtain ⟨hc, ha⟩ := if_some h
  obtain ⟨m, h1, hh⟩ := bind_some ha
  clear h ha
  split at hh
  · obtain ⟨hu, hv⟩ := if_some hh
    obtain ⟨o', h2, rfl⟩ := map_some hv
    rfl
  · obtain ⟨hs, hv⟩ := if_some hh
    obtain ⟨o', h2, hw⟩ := bind_some hv
    obtain ⟨a', h3, rfl⟩ := map_some hw
    rfl
  · cases hh
theorem trMuN_ok {x : Str} {m : Mu} (h : trMuN x = some m) : x = m.nm := by
  unfold trMuN at h
  split at h
  · rename_i e; cases h; exact e
  · split at h
    · rename_i e; cases h; exact e
    · cases h
theorem snd_at {X : Cx} {S : Stt} {T : Tbl} {P : Pg} {F : Fn} {W : WX} {k : Nat} (c : CtxOk X S T P F W k) {f : Expr → Option Ex} (hf : Snd X P F W f) {o : Expr} {x : Str} {ap cp : Pos} {es : List Expr} {e' : Ex} (h : trAt S f o x ap es cp = some e') :
    PE X (.Call (.Attribute o x ap) es [] cp) (tE X P F W e') ∧ (plainT (.Call (.Attribute o x ap) es [] cp) = true → plainX e' = true) := by
  unfold trAt at h
  split at h
  · rename_i m hm
    have e1 := trMuN_ok hm
    subst e1
    unfold trMu at h
    split at h
    · obtain ⟨hc, hv⟩ := if_some h
      rw [Bool.and_eq_true] at hc
      obtain ⟨i, h1, hw⟩ := bind_some hv
      obtain ⟨b', h2, rfl⟩ := map_some hw
      obtain ⟨g1, g2, g3, g4⟩ := c.vis h1
      have st := star_cons hc.1 [] X.env
      exact ⟨se_mu1 g1 g2 g3 g4 (hf _ b' h2) (by rw [st]; rfl) hc.2 st, fun _ => rfl⟩
    · cases h
  · exact ⟨snd_mt c hf h, fun _ => snd_mtp h⟩
theorem trE_ok {T : Tbl} {P : Pg} {F : Fn} {k : Nat} : ∀ (n : Nat) {S : Stt} {X : Cx} {W : WX}, CtxOk X S T P F W k →
    (∀ e e', trE T n S e = some e' → PE X e (tE X P F W e') ∧ (plainT e = true → plainX e' = true)) ∧ ∀ m, SndT X P F W (tstB m) (trE T n S)
  | 0, S, X, W, c => ⟨fun e e' h => by simp [trE] at h, fun m e e' _ h => by simp [trE] at h⟩
  | n + 1, S, X, W, c => by
    obtain ⟨ih1, ih2⟩ := trE_ok n c
    have hf : Snd X P F W (trE T n S) := fun e e' h => (ih1 e e' h).1
    have main : ∀ e e', trE T (n + 1) S e = some e' → PE X e (tE X P F W e') ∧ (plainT e = true → plainX e' = true) := by
      intro e e' h
      unfold trE at h
      split at h
      · obtain ⟨h1, h2⟩ := snd_name (p := _) c h
        exact ⟨h1, fun _ => h2⟩
      · obtain ⟨d, h1, rfl⟩ := map_some h
        exact ⟨snd_const h1, fun _ => rfl⟩
      · unfold trUn at h
        split at h
        · obtain ⟨a', h1, rfl⟩ := map_some h
          exact ⟨se_neg (hf _ a' h1), fun _ => rfl⟩
        · obtain ⟨a', h1, rfl⟩ := map_some h
          exact ⟨se_not (hf _ a' h1), fun q => by cases q⟩
        · cases h
      · obtain ⟨o', h0, h⟩ := bind_some h
        obtain ⟨a', h1, h⟩ := bind_some h
        obtain ⟨b', h2, rfl⟩ := map_some h
        have := trOp_ok h0
        subst this
        exact ⟨se_bin (hf _ a' h1) (hf _ b' h2), fun _ => rfl⟩
      · exact ⟨snd_cmp c hf h, fun q => by cases q⟩
      · obtain ⟨es', h1, h⟩ := bind_some h
        refine ⟨?_, fun q => by cases q⟩
        split at h
        · exact snd_and hf h1 h
        · exact snd_or hf h1 h
      · obtain ⟨ht, h⟩ := if_some h
        obtain ⟨c', h1, h⟩ := bind_some h
        obtain ⟨a', h2, h⟩ := bind_some h
        obtain ⟨b', h3, rfl⟩ := map_some h
        exact ⟨se_ifx (ih2 30 _ c' ht h1) (hf _ a' h2) (hf _ b' h3), fun q => by cases q⟩
      · obtain ⟨hs, h⟩ := if_some h
        obtain ⟨es', h1, rfl⟩ := map_some h
        exact ⟨se_tup (snd_args hf hs h1), fun _ => rfl⟩
      · obtain ⟨hs, h⟩ := if_some h
        obtain ⟨es', h1, rfl⟩ := map_some h
        exact ⟨se_lst (snd_args hf hs h1), fun _ => rfl⟩
      · obtain ⟨kvs, h1, rfl⟩ := map_some h
        exact ⟨se_dic (snd_dic h1), fun _ => rfl⟩
      · obtain ⟨h1, h2⟩ := snd_sub (p := _) c hf h
        exact ⟨h1, fun _ => h2⟩
      · rename_i x p0 es pos0
        cases hl : trLen T S x es with
        | some e2 =>
          rw [hl] at h
          cases h
          unfold trLen at hl
          split at hl
          · obtain ⟨hb, hv⟩ := if_some hl
            obtain ⟨b1, b2⟩ := c.bl hb
            split at hv
            · rename_i hx
              subst hx
              obtain ⟨i, h1, rfl⟩ := map_some hv
              obtain ⟨g1, g2, g3, g4⟩ := c.vis h1
              exact ⟨se_lenv b1 b2 g1 g2 g3 g4, fun _ => rfl⟩
            · obtain ⟨hx, hv⟩ := if_some hv
              subst hx
              obtain ⟨i, h1, rfl⟩ := map_some hv
              obtain ⟨g1, g2, g3, g4⟩ := c.vis h1
              exact ⟨se_rpv c.cm b1 b2 g1 g2 g3 g4, fun _ => rfl⟩
          · cases hl
        | none =>
          rw [hl] at h
          obtain ⟨h1, h2⟩ := snd_call (p := _) (pos := _) c hf h
          exact ⟨h1, fun _ => h2⟩
      · obtain ⟨h1, h2⟩ := snd_callK (p := _) (pos := _) c hf h
        exact ⟨h1, fun _ => h2⟩
      · exact snd_at c hf h
      · rename_i elt gens scope pos
        have hg : ∀ (s : Shared) (H : Hp) (C : Addr) (cl : List (Str × Addr)) (fp : List Addr), Snd (X.blk s H scope (compEnvC scope cl C X.env) fp) P F W0 (trE T n (S.blk scope)) ∧ SndT (X.blk s H scope (compEnvC scope cl C X.env) fp) P F W0 (tstB 30) (trE T n (S.blk scope)) := fun s H C cl fp => by
          obtain ⟨j1, j2⟩ := trE_ok n (c.blk scope s H C cl fp)
          exact ⟨fun e e' h => (j1 e e' h).1, j2 30⟩
        obtain ⟨tg, iter, ifs, it', g', cs', x', rfl, rfl, k1, k2, k3, k4, k5, k6, k7⟩ := snd_lc (p := pos) c hf hg h
        exact ⟨se_lc c.cm c.nodup k1 k2 k3 k4 k5 k6 k7, fun _ => rfl⟩
      · cases h
    refine ⟨main, fun m e e' ht h => ?_⟩
    cases m with
    | zero => cases ht
    | succ m =>
      by_cases hp : plainT e = true
      · obtain ⟨h1, h2⟩ := main e e' h
        exact st_val (fun r Q E w => plainX_wT (h2 hp) r Q E w) h1 (plain_test hp X.env)
      · cases e with
        | UnaryOp o a p =>
          cases o with
          | Not =>
            simp only [trE, trUn] at h
            obtain ⟨a', h1, rfl⟩ := map_some h
            exact st_not (ih2 m a a' ht h1)
          | _ => exact absurd rfl hp
        | BoolOp o es p =>
          simp only [trE] at h
          obtain ⟨es', h1, h⟩ := bind_some h
          cases o with
          | And => exact (sndT_and (ih2 m) ht h1 h).pt
          | Or => exact (sndT_or (ih2 m) ht h1 h).pt
        | IfExp _ _ _ _ => cases ht
        | Compare a ops bs p =>
          simp only [trE] at h
          unfold tstB at ht
          split at ht
          · rename_i q; cases q
          · rename_i q; cases q
          · rename_i q; cases q
          · rename_i q
            cases q
            exact sndT_cmp c hf h
          · cases ht
          · rename_i q
            exact (q a ops bs p rfl).elim
        | _ => exact absurd rfl hp
end PL
set_option maxHeartbeats 3900000
/-! PLq: statements, from Python's syntax -/
namespace PL
open PySem L2

theorem any_2 {al : Type} {f : al → Bool} {a b : al} (h1 : f a = false) (h2 : f b = false) : [a, b].any f = false := by
  show (f a || (f b || false)) = false
  rw [h1, h2]; rfl
theorem par_sw2 {x y : Str} {px py pt pt2 : Pos} {kt k2 : Nat} {a b : Expr} {env : PySem.Env} (h1 : env.blockKind = .function) (h2 : env.kindOf x = some .local) (h3 : env.kindOf y = some .local) (h4 : (py.line == px.line) = true) (h5 : (x == y) = false)
    (h6 : notStar a = true) (h7 : notStar b = true) (h8 : (foldedForSure 8 a && foldedForSure 8 b) = false) (h9 : (constantsAlone 8 a && constantsAlone 8 b) = false) :
    swappedStores [.Tuple [.Name x px, .Name y py] kt pt] (.Tuple [a, b] k2 pt2) env = pure (some [x, y]) := by
  unfold swappedStores
  have e1 : (env.blockKind != .function) = false := by rw [h1]; rfl
  have e3 : [a, b].all (foldedForSure 8) = false := by show (foldedForSure 8 a && (foldedForSure 8 b && true)) = false; rw [Bool.and_true]; exact h8
  have e4 : [a, b].all (constantsAlone 8) = false := by show (constantsAlone 8 a && (constantsAlone 8 b && true)) = false; rw [Bool.and_true]; exact h9
  have k2' : (env.kindOf x == some .local) = true := by rw [h2]; rfl
  have k3' : (env.kindOf y == some .local) = true := by rw [h3]; rfl
  have hl : (px.line == px.line) = true := by simp
  have ed : ([x, y].eraseDups.length != [x, y].length) = false := by
    have hxy : (y == x) = false := by
      rw [Bool.eq_false_iff]; intro z; rw [eq_of_beq z] at h5; simp at h5
    simp [List.eraseDups, List.eraseDupsBy, List.eraseDupsBy.loop, h5, hxy]
  simp only [e1, e3, e4]
  rw [any_2 (by cases a <;> first | rfl | cases h6) (by cases b <;> first | rfl | cases h7)]
  simp only [List.filterMap_cons, List.filterMap_nil, List.head?_cons, Option.map_some, Option.getD_some, Expr.pos, k2', k3', hl, h4, Bool.and_self, if_true, ed]
  rfl
theorem kind_fn {kd : ScopeKind} (h : (kd == ScopeKind.function) = true) : kd = .function := by
  cases kd <;> first | rfl | cases h
/-- x, y = (a, b), its stores not by a pair -/
def parB (S : Stt) (x : Str) (px : Pos) (y : Str) (py : Pos) (a b : Expr) : Bool :=
  (S.sc.kind == .function) && (S.sc.names.lookup x == some .local) && (S.sc.names.lookup y == some .local) && (py.line == px.line) && !(x == y) && notStar a && notStar b && !(foldedForSure 8 a && foldedForSure 8 b) && !(constantsAlone 8 a && constantsAlone 8 b)
/-- name = [..]: whether the value is stored within the comprehension's frame -/
def swapB (S : Stt) (y : Str) (py : Pos) (scope : Scope) (lp : Pos) : Bool :=
  (S.sc.names.lookup y == some .local) && (py.line == lp.line) && !(scope.names.any fun p => p.1 == y && (p.2 == .local || p.2 == .cell))
def tupV : Expr → Bool
  | .Tuple .. => true
  | _ => false
def seqT : Expr → Bool
  | .Tuple .. => true
  | .List .. => true
  | _ => false
theorem seq_swap {tg v : Expr} (h : (notComp v || seqT tg) = true) (l : Nat) (env : PySem.Env) : swapsWithSole [tg] v l env = pure false := by
  cases hc : notComp v with
  | true => unfold swapsWithSole; exact comp_swap hc _ _ _
  | false =>
    rw [hc, Bool.false_or] at h
    cases tg <;> first
      | (exact absurd (show false = true from h) (by decide))
      | (cases v <;> rfl)
theorem sw_none {tg v : Expr} (h : (seqT tg && tupV v) = false) (env : PySem.Env) : swappedStores [tg] v env = pure none := by
  cases tg <;> first
    | rfl
    | (cases v <;> first | rfl | (exact absurd (show true = false from h) (by decide)))
/-- x, y = (a, b), where a comprehension reads x or y -/
theorem sw_cell {x y : Str} {px py pt pt2 : Pos} {kt k2 : Nat} {a b : Expr} {env : PySem.Env} (h : (env.kindOf x == some .local) = false ∨ (env.kindOf y == some .local) = false) :
    swappedStores [.Tuple [.Name x px, .Name y py] kt pt] (.Tuple [a, b] k2 pt2) env = pure none := by
  unfold swappedStores
  simp only [List.filterMap_cons, List.filterMap_nil, List.head?_cons, Option.map_some, Option.getD_some, Expr.pos]
  generalize ([a, b].any fun | .Starred .. => true | _ => false) = st
  cases st with
  | true => split <;> rfl
  | false =>
    rcases h with h | h
    · simp only [h, Bool.false_and, Bool.false_eq_true, if_false]
      split
      · rfl
      · by_cases hq : (env.kindOf y == some NameKind.local && py.line == px.line) = true
        · simp only [hq, if_true]; rfl
        · simp only [hq, if_false]; rfl
    · simp only [h, Bool.false_and, Bool.false_eq_true, if_false]
      split
      · rfl
      · by_cases hq : (env.kindOf x == some NameKind.local && px.line == px.line) = true
        · simp only [hq, if_true]; rfl
        · simp only [hq, if_false]; rfl
def celB (S : Stt) (x y : Str) : Bool := !(S.sc.names.lookup x == some .local) || !(S.sc.names.lookup y == some .local)
def isPotT (T : Tbl) (S : Stt) (tg : Expr) : Option Nat := match tg with
  | .Subscript a b _ => potSub T S a b
  | _ => none
def trAsg (T : Tbl) (S : Stt) (n : Nat) (tg v : Expr) : Option Sm := match isPotT T S tg with
  | some i => if notComp v then (trE T n S v).map (.potp i) else none
  | none => match tg, v with
    | .Name y py, .ListComp elt gens scope lp => (trLoc S y).bind fun i => if S.sc.kind == .function then (trLc T S n (trE T n S) (trE T n (S.blk scope)) elt gens scope).map (.asg (.nm i)) else none
    | .Tuple [.Name x px, .Name y py] t1 t2, .Tuple [a, b] u1 u2 => if parB S x px y py a b then (ixOf x S.N).bind fun i => (ixOf y S.N).bind fun j => (trE T n S a).bind fun a' => (trE T n S b).map fun b' => .par2 i j a' b'
      else if celB S x y then (trE T n S (.Tuple [a, b] u1 u2)).bind fun v' => (trG S n (.Tuple [.Name x px, .Name y py] t1 t2)).map fun g => .asg g v' else none
    | tg, v => if (notComp v || seqT tg) && !(seqT tg && tupV v) then (trE T n S v).bind fun v' => (trG S n tg).map fun g => .asg g v' else none
def trTry (T : Tbl) (S : Stt) (f : List Stmt → Option (List Sm)) (body : List Stmt) (hs : List ExceptHandler) (oe fb : List Stmt) : Option Sm := match hs, oe, fb with
  | [.ExceptHandler (some (.Name x _)) (some n) [.Return (some (.Call (.Name r _) [.Name n2 _] [] _)) _] _], [], [] =>
    if x = "SayError" ∧ r = "_law_refusal" ∧ n2 = n ∧ globB S.sc x = true ∧ globB S.sc r = true ∧ S.sc.names.lookup n = some .local ∧ okN n = true then (f body).bind fun b' => (ixOf n S.N).map fun i => .tryr i b' else none
  | _, _, _ => none
def trS (T : Tbl) : Nat → Stt → Stmt → Option Sm
  | 0, _, _ => none
  | n + 1, S, st => match st with
    | .Assign [tg] v _ => trAsg T S n tg v
    | .AugAssign (.Name x _) o e _ => (trOp o).bind fun o' => (trLoc S x).bind fun i => (trE T n S e).map fun e' => .aug i o' e'
    | .Expr e _ => if notComp e then (trE T n S e).map .ex else none
    | .Return (some e) _ => (trE T n S e).map .ret
    | .Return none _ => some .retN
    | .If c a b _ => if tstB 30 c then (trE T n S c).bind fun c' => (a.mapM (trS T n S)).bind fun a' => (b.mapM (trS T n S)).map fun b' => .ife c' a' b' else none
    | .For tg it b [] _ => if notSet it then (trI T S (trE T n S) tg it).bind fun it' => (trG S n tg).bind fun g' => (b.mapM (trS T n S)).map fun b' => .fo g' it' b' else none
    | .While c b [] _ => if tstB 30 c then (trE T n S c).bind fun c' => (b.mapM (trS T n S)).map fun b' => .whil c' b' else none
    | .Pass _ => some .pas
    | .Break _ => some .brk
    | .Continue _ => some .cnt
    | .Raise (some (.Call (.Name x _) [] [] _)) none _ => if T.xc x && globB S.sc x && okN x then some (.rais x) else none
    | .Try b hs oe fb _ => trTry T S (fun b => b.mapM (trS T n S)) b hs oe fb
    | _ => none

abbrev veT : List Value := [.type "ValueError", .type "Exception", .type "BaseException", .type "object"]
/-- what an own error class must say -/
structure XcOk (K : PySem.W.Frag) (mg : Str → Option Value) (say : Addr) (x : Str) : Prop where
  ex : ∃ C, PySem.W.excIn K C veT "ValueError.__new__" = true ∧ mg x = some (.ref C) ∧ PySem.W.keepIn K (.ref C) = true ∧ PySem.W.subIn K (.ref C) (.type "BaseException") = some true ∧ PySem.W.typeIn K (.ref C) = some (.type "type") ∧ PySem.W.exmOne K (.ref C) (.ref say) = some true
/-- return _law_refusal(e), in an except suite: the error's word -/
def tRef (K : PySem.W.Frag) (mg : Str → Option Value) (P : Pg) (i : Nat) (a : Addr) (cls : Value) (d : Option Addr) : TS := fun D s H => ∃ x dd M, RepX mg x cls d ∧ P.RF x = some dd ∧ Good M H ∧ s[i]? = some (some (.ref a)) ∧ H a = none ∧ ∀ v H' M', Ext M M' H H' → Rep K M' v dd → D.rt v H'
def RefOk (X : Cx) (P : Pg) : Prop := ∀ (i : Nat) (n : Str) (a : Addr) (oe : Obj) (cls : Value) (d : Option Addr) (pn : List (Addr × Obj)) (p1 p2 p3 p4 : Pos), X.N[i]? = some n → X.env.scope.names.lookup n = some .local → okN n = true → Gl X "_law_refusal" → L2N.Zn cls d oe → (∃ vs, oe.data = .fields vs) →
  PSs (X.suite a ((a, oe) :: pn)) [.Return (some (.Call (.Name "_law_refusal" p1) [.Name n p2] [] p3)) p4] (tRef X.K X.mg P i a cls d)
/-- the context of statements -/
structure CtxS (X : Cx) (S : Stt) (T : Tbl) (P : Pg) (F : Fn) (W : WX) (k : Nat) (say : Addr) : Prop where
  c : CtxOk X S T P F W k
  po : PassesOwn (model X.prog X.w) X.A X.env X.xe
  stk : X.stack = X.env :: X.outer
  frm : X.env.frame = some X.env.locals
  xcs : ∀ x, T.xc x = true → XcOk X.K X.mg say x
  only : ∀ x dd, P.RF x = some dd → T.xc x.c = true
  say : X.mg "SayError" = some (.ref say)
  ref : RefOk X P
section
variable {X : Cx} {S : Stt} {T : Tbl} {P : Pg} {F : Fn} {W : WX} {k : Nat} {say : Addr}
theorem swap_is (hk : X.env.scope.kind = .function) {y : Str} {py lp : Pos} {elt : Expr} {gens : List Comprehension} {scope : Scope} {l : Nat} (hs : X.env.scope = S.sc) : swapsWith (.ListComp elt gens scope lp) (some (.Name y py)) l X.env = pure (swapB S y py scope lp) := by
  have hb : X.env.blockKind = .function := by unfold PySem.Env.blockKind; rw [hk]; rfl
  show pure (X.env.blockKind == .function && X.env.kindOf y == some .local && py.line == lp.line && !(scope.names.any fun (n, k) => n == y && (k == .local || k == .cell))) = _
  rw [hb]
  unfold swapB PySem.Env.kindOf
  rw [hs]
  rfl
theorem s_try {body : List Stmt} {b' : List Sm} {n : Str} {i : Nat} {np p1 p2 p3 p4 p5 pos : Pos} (c : CtxS X S T P F W k say) (hi : X.N[i]? = some n) (hl : X.env.scope.names.lookup n = some .local) (hn : okN n = true) (hg : Gl X "SayError") (hg2 : Gl X "_law_refusal")
    (hb : ∀ (W' : WX) (pn : List (Addr × Obj)) (xe : Value → Shared → Prop), L2N.Takes (X.tr pn xe) W' → PassesOwn (model X.prog X.w) X.A X.env xe → PSs (X.tr pn xe) body (tSs X P F W' b')) :
    PS X (.Try body [.ExceptHandler (some (.Name "SayError" np)) (some n) [.Return (some (.Call (.Name "_law_refusal" p1) [.Name n p2] [] p3)) p4] p5] [] [] pos) (tS X P F W (.tryr i b')) := by
  refine PS.imp (L2N.ps_try_as (i := i) (c := .ref say) (tb := fun W' => tSs X P F W' b') (ts := fun a cls d => tRef X.K X.mg P i a cls d) (Wout := W) c.stk c.frm c.c.nodup hi hl ⟨hg, by decide +kernel, .inl c.say⟩ c.c.tk hb fun a oe cls d pn hz hf => c.ref i n a oe cls d pn p1 p2 p3 p4 hi hl hn hg2 hz hf) fun D s H h => ?_
  obtain ⟨M, Fr, r, Dd, Sm', w, e⟩ := h
  simp only [wS] at w
  refine ⟨M, Fr, r, _, Sm', w, e.nx, e.rt, e.bk, e.ct, fun x cls d M' r' s' H' S' l rx ee => ?_⟩
  obtain ⟨hil, dd, h1, h2⟩ := ee
  obtain ⟨C, _, hm, _, _, _, hex⟩ := (c.xcs x.c (c.only x dd h1)).ex
  have rx' := rx
  obtain ⟨_, _, C', hm', hcls⟩ := rx'
  rw [hm] at hm'; cases hm'
  subst hcls
  refine ⟨true, hex, fun _ a ha => ⟨x, dd, M', rx, h1, S'.good, ?_, ha, fun v H2 M2 x2 rp => ?_⟩, fun z => by cases z⟩
  · refine List.getElem?_set_self ?_
    rw [← S'.len]
    exact hil
  · exact e.rt v _ M2 r' s' H2 (S'.ext x2) (l.trans x2.le) (.val rp) h2
theorem CtxS.tr (c : CtxS X S T P F W k say) {W' : WX} {pn : List (Addr × Obj)} {xe : Value → Shared → Prop} (tk : L2N.Takes (X.tr pn xe) W') (po : PassesOwn (model X.prog X.w) X.A X.env xe) : CtxS (X.tr pn xe) S T P F W' k say where
  c := ⟨c.c.N, c.c.sc, c.c.fn, c.c.nd, ⟨c.c.cm.c, c.c.cm.r, c.c.cm.g, c.c.cm.sm⟩, tk, c.c.blt, c.c.fns, c.c.fks, c.c.cst⟩
  po := po
  stk := c.stk
  frm := c.frm
  xcs := c.xcs
  only := c.only
  say := c.say
  ref := c.ref
theorem trSs_ok {f : Stmt → Option Sm} (hf : ∀ s s', f s = some s' → PS X s (tS X P F W s')) : ∀ {ss : List Stmt} {ss' : List Sm}, ss.mapM f = some ss' → PSs X ss (tSs X P F W ss')
  | [], _, h => by rw [mapM_nil h]; exact ss_nil
  | s :: ss, _, h => by
    obtain ⟨s', ss', h1, h2, rfl⟩ := mapM_cons h
    exact ss_cons (hf s s' h1) (trSs_ok hf h2)
theorem asg_one {tg : Expr} (h : notStar tg = true) (env : PySem.Env) : (assignEach [tg] env).map (·.2) = [assign tg env] := by rw [asg_cons h]; rfl
theorem trAsg_ok (c : CtxOk X S T P F W k) {n : Nat} {tg v : Expr} {p : Pos} {s' : Sm} (h : trAsg T S n tg v = some s') : PS X (.Assign [tg] v p) (tS X P F W s') := by
  obtain ⟨ih1, ih2⟩ := trE_ok n c
  have hf : Snd X P F W (trE T n S) := fun e e' h => (ih1 e e' h).1
  unfold trAsg at h
  split at h
  · rename_i i hp
    obtain ⟨hc, h⟩ := if_some h
    obtain ⟨v', h1, rfl⟩ := map_some h
    unfold isPotT at hp
    split at hp
    · unfold potSub at hp
      split at hp
      · obtain ⟨hq, hp2⟩ := if_some hp
        rw [Bool.and_eq_true, decide_eq_true_eq] at hq
        obtain ⟨_, hq⟩ := hq
        subst hq
        obtain ⟨h5, h6, h7, h8⟩ := c.vis hp2
        exact s_potp h5 h6 h7 h8 (hf v v' h1) (by unfold swapsWithSole; exact comp_swap hc _ _ _) (sw_none (by rfl) X.env)
      · cases hp
    · cases hp
  · split at h
    · rename_i y py elt gens scope lp hpot
      obtain ⟨i, h0, h⟩ := bind_some h
      obtain ⟨hk, h⟩ := if_some h
      obtain ⟨v', h1, rfl⟩ := map_some h
      have kd : X.env.scope.kind = .function := by rw [c.sc]; exact kind_fn hk
      have hg : ∀ (s : Shared) (H : Hp) (C : Addr) (cl : List (Str × Addr)) (fp : List Addr), Snd (X.blk s H scope (compEnvC scope cl C X.env) fp) P F W0 (trE T n (S.blk scope)) ∧ SndT (X.blk s H scope (compEnvC scope cl C X.env) fp) P F W0 (tstB 30) (trE T n (S.blk scope)) := fun s H C cl fp => by
        obtain ⟨j1, j2⟩ := trE_ok n (c.blk scope s H C cl fp)
        exact ⟨fun e e' h => (j1 e e' h).1, j2 30⟩
      obtain ⟨tg, iter, ifs, it', g', cs', x', rfl, rfl, k1, k2, k3, k4, k5, k6, k7⟩ := snd_lc (p := lp) c hf hg h1
      obtain ⟨l1, l2, l3⟩ := c.loc h0
      have sw := swap_is (X := X) (S := S) (y := y) (py := py) (lp := lp) (elt := elt) (gens := [⟨tg, iter, ifs, 0⟩]) (scope := scope) (l := p.line) kd c.sc
      cases hb : swapB S y py scope lp with
      | true =>
        rw [hb] at sw
        have hy : X.env.scope.names.lookup y = some .local := by
          unfold swapB at hb
          rw [Bool.and_eq_true, Bool.and_eq_true] at hb
          rw [c.sc]
          have := hb.1.1
          cases q : S.sc.names.lookup y with
          | none => rw [q] at this; cases this
          | some kk => rw [q] at this; cases kk <;> first | rfl | cases this
        exact s_asgLc c.cm c.nodup l1 hy sw k1 k2 k3 k4 k5 k6 k7
      | false =>
        rw [hb] at sw
        exact s_asg (se_lc c.cm c.nodup k1 k2 k3 k4 k5 k6 k7) (sg_nm c.nodup l1 l2 l3) sw rfl rfl
    · rename_i x px y py t1 t2 a b u1 u2 _
      by_cases hb : parB S x px y py a b = true
      case neg =>
        rw [if_neg hb] at h
        obtain ⟨hc, h⟩ := if_some h
        obtain ⟨v', h1, h⟩ := bind_some h
        obtain ⟨g, h2, rfl⟩ := map_some h
        refine s_asg (hf _ v' h1) (trG_ok c n _ g h2) (show swapsWithSole [Expr.Tuple [Expr.Name x px, Expr.Name y py] t1 t2] (Expr.Tuple [a, b] u1 u2) p.line X.env = pure false from rfl) (sw_cell ?_) (asg_one ?_ X.env)
        · unfold celB at hc
          unfold PySem.Env.kindOf
          rw [c.sc]
          simpa using hc
        · cases n with
          | zero => cases h2
          | succ n =>
            unfold trG at h2
            split at h2 <;> first | rfl | cases h2
      rw [if_pos hb] at h
      obtain ⟨i, g1, h⟩ := bind_some h
      obtain ⟨j, g2, h⟩ := bind_some h
      obtain ⟨a', g3, h⟩ := bind_some h
      obtain ⟨b', g4, rfl⟩ := map_some h
      unfold parB at hb
      simp only [Bool.and_eq_true, Bool.not_eq_true'] at hb
      obtain ⟨⟨⟨⟨⟨⟨⟨⟨b1, b2⟩, b3⟩, b4⟩, b5⟩, b6⟩, b7⟩, b8⟩, b9⟩ := hb
      have kd : X.env.scope.kind = .function := by rw [c.sc]; exact kind_fn b1
      have bk : X.env.blockKind = .function := by unfold PySem.Env.blockKind; rw [kd]; rfl
      have k1 := eq_of_beq b2
      have k2 := eq_of_beq b3
      rw [← c.sc] at k1 k2
      have n1 := ixOf_get g1
      have n2 := ixOf_get g2
      rw [← c.N] at n1 n2
      have ij : i ≠ j := fun z => by
        subst z
        rw [n1] at n2
        cases n2
        simp at b5
      exact s_par2 c.cm c.nodup n1 n2 ij k1 k2 (sa_cons (hf _ a' g3) (sa_cons (hf _ b' g4) sa_nil (star_cons b7 _ _)) (star_cons b6 _ _)) (par_sw2 bk k1 k2 b4 b5 b6 b7 b8 b9)
    · obtain ⟨hc, h⟩ := if_some h
      rw [Bool.and_eq_true, Bool.not_eq_true'] at hc
      obtain ⟨v', h1, h⟩ := bind_some h
      obtain ⟨g, h2, rfl⟩ := map_some h
      refine s_asg (hf v v' h1) (trG_ok c n tg g h2) (seq_swap hc.1 _ _) (sw_none hc.2 X.env) (asg_one ?_ X.env)
      cases n with
      | zero => cases h2
      | succ n =>
        unfold trG at h2
        split at h2 <;> first | rfl | cases h2
end
/-- statements -/
theorem trS_ok {T : Tbl} {P : Pg} {F : Fn} {k : Nat} {say : Addr} : ∀ (n : Nat) {S : Stt} {X : Cx} {W : WX}, CtxS X S T P F W k say → ∀ s s', trS T n S s = some s' → PS X s (tS X P F W s')
  | 0, S, X, W, c => fun s s' h => by simp [trS] at h
  | n + 1, S, X, W, c => by
    intro s s' h
    obtain ⟨ih1, ih2⟩ := trE_ok n c.c
    have hf : Snd X P F W (trE T n S) := fun e e' h => (ih1 e e' h).1
    have hs := trS_ok n c
    unfold trS at h
    split at h
    · exact trAsg_ok c.c h
    · obtain ⟨o', h0, h⟩ := bind_some h
      obtain ⟨i, h1, h⟩ := bind_some h
      obtain ⟨e', h2, rfl⟩ := map_some h
      obtain ⟨l1, l2, l3⟩ := c.c.loc h1
      have := trOp_ok h0
      subst this
      exact s_aug c.c.nodup l1 l2 (hf _ e' h2) l3
    · obtain ⟨hc, h⟩ := if_some h
      obtain ⟨e', h1, rfl⟩ := map_some h
      exact s_ex (hf _ e' h1) (comp_swap hc _ _ _)
    · obtain ⟨e', h1, rfl⟩ := map_some h
      exact s_ret (hf _ e' h1)
    · cases h; exact s_retN
    · obtain ⟨ht, h⟩ := if_some h
      obtain ⟨c', h1, h⟩ := bind_some h
      obtain ⟨a', h2, h⟩ := bind_some h
      obtain ⟨b', h3, rfl⟩ := map_some h
      exact s_if (ih2 30 _ c' ht h1) (trSs_ok hs h2) (trSs_ok hs h3)
    · obtain ⟨hq, h⟩ := if_some h
      obtain ⟨it', h1, h⟩ := bind_some h
      obtain ⟨g', h2, h⟩ := bind_some h
      obtain ⟨b', h3, rfl⟩ := map_some h
      exact s_for c.po c.c.cm.c (snd_it c.c hf h1) (trG_ok c.c n _ g' h2) (trSs_ok hs h3) (fun x => set_fold hq X.env x)
    · obtain ⟨ht, h⟩ := if_some h
      obtain ⟨c', h1, h⟩ := bind_some h
      obtain ⟨b', h2, rfl⟩ := map_some h
      exact s_while c.po (ih2 30 _ c' ht h1) (trSs_ok hs h2)
    · cases h; exact s_pass
    · cases h; exact s_brk
    · cases h; exact s_cnt
    · obtain ⟨hc, h⟩ := if_some h
      cases h
      rw [Bool.and_eq_true, Bool.and_eq_true] at hc
      obtain ⟨C, q1, q2, q3, q4, q5, _⟩ := (c.xcs _ hc.1.1).ex
      exact s_raise c.c.cm.c c.c.tk PySem.F.excBase_ValueError q1 q2 q3 (raises_own q4 q5) (c.c.gl hc.1.2) (okN_1 hc.2).1
    · unfold trTry at h
      split at h
      · obtain ⟨⟨q1, q2, q3, q4, q5, q6, q7⟩, hh⟩ := if_some h
        subst q1 q2 q3
        obtain ⟨b', h1, hh⟩ := bind_some hh
        obtain ⟨i, h2, rfl⟩ := map_some hh
        exact s_try c (by rw [c.c.N]; exact ixOf_get h2) (by rw [c.c.sc]; exact q6) q7 (c.c.gl q4) (c.c.gl q5) fun W' pn xe tk po => trSs_ok (trS_ok n (c.tr tk po)) h1
      · cases h
    · cases h
end PL
set_option maxHeartbeats 3900000
/-! PLr: a whole program; the end of a law -/
namespace PL
open PySem PySem.Spec L2

/-! ### the end: the law's call -/
theorem end_call {P : Program} {w : World} {K : PySem.W.Frag} {mg mb : Str → Option Value} {k : Nat} {fa a : Addr} {fd : FuncData} {x : Str} {sp : Sp} {s1 : Shared} {vs : List Value} {ns : List Int} (KX : K.In s1.heap) (hg : s1.heap.Ns mainGlobals mg) (hb : s1.heap.Ns builtinsNs mb) (hbb : ∀ y : Str, y ≠ "__name__" → mb y = bootBuiltins y) (nl : s1.heap.NoLimit) (ng : s1.gens = #[])
    (ha : s1.heap.get? a = some { cls := .type "list", data := .seq vs.toArray }) (hi : PyProof.Rows.IntsAre vs ns) (hl : ns.length ≤ sizeLine) (room : Room k callerA)
    (G : ∀ base : Heap, K.In base → base.Ns mainGlobals mg → FnG P w K mg base k fa fd [x] sp) (bnd : ∀ (s : Shared) (u : Value), BindsTo s fd ⟨[u], []⟩ [(x, u)])
    (hsp : ∀ H : Hp, Only H → SqL K H a (ns.map V.int) → sp [.ref a] H (fun v _ => v = .bl true) fun _ _ _ => False) :
    codeAny (model P w) callerA (.call (.ref fa) ⟨[.ref a], []⟩) (fun r s' => r = .ok (.ret (.bool true)) ∧ OldK s1.heap s'.heap ∧ s'.os = s1.os ∧ PyProof.Rows.AllBare s'.gens) s1 := by
  have rv : Vals (ns.map V.int) vs := vals_of_ints hi
  have hvl := hi.length
  have main : ∀ H : Hp, Only H → SqL K H a (ns.map V.int) → HOk P w H s1.heap → (∀ b, H b ≠ none → b = a) → (H a ≠ none → K.lookup a = none) →
      codeAny (model P w) callerA (.call (.ref fa) ⟨[.ref a], []⟩) (fun r s' => r = .ok (.ret (.bool true)) ∧ OldK s1.heap s'.heap ∧ s'.os = s1.os ∧ PyProof.Rows.AllBare s'.gens) s1 := by
    intro H hO hS ok onlyA outK
    have low : ∀ {b : Addr} {o : Obj}, s1.heap.get? b = some o → b ≠ a → (hidT s1.heap H).get? b = some o := fun {b o} e hne => hidT_get e (by
      cases q : H b with
      | none => rfl
      | some u => exact absurd (onlyA b (by rw [q]; exact fun z => nomatch z)) hne)
    have nsLow : ∀ {b : Addr} {m : Str → Option Value}, s1.heap.Ns b m → (hidT s1.heap H).Ns b m := fun {b m} hm => by
      obtain ⟨o, es, ep, e, d, r⟩ := hm
      refine ⟨o, es, ep, low e (fun z => ?_), d, r⟩
      rw [z, ha] at e
      cases e
      cases d
    have kLow : K.In (hidT s1.heap H) := fun b o e => by
      refine hidT_get (KX b o e) ?_
      cases q : H b with
      | none => rfl
      | some u =>
        have z := onlyA b (by rw [q]; exact fun z => nomatch z)
        subst z
        rw [outK (by rw [q]; exact fun z => nomatch z)] at e
        cases e
    have md : Mod K mg (hidT s1.heap H) := ⟨kLow, nsLow hg, ⟨mb, nsLow hb, hbb⟩, by obtain ⟨mc, h1, h2⟩ := nl; exact ⟨mc, nsLow h1, h2⟩⟩
    have e0 : Env0 P w K mg (hidT s1.heap H) callerA [] s1 H := ⟨rfl, md, fun b o e => of_hidT e, Nat.le_of_eq (hidT_size _ _), trivial, (fun b z => by cases z), ok, .of_eq ng⟩
    refine codeAny_mono ((G _ kLow (nsLow hg)).go callerA [] s1 H ⟨[.ref a], []⟩ [.ref a] [.ref a] _ _ room rfl e0 (bnd s1 (.ref a)) (.cons rfl .nil) (hsp H hO hS)) fun r s' h => ?_
    cases r with
    | error e =>
      obtain ⟨_, _, _, _, _, _, _, _, _, _, _, _, z⟩ := h
      exact z.elim
    | ok fl =>
      cases fl with
      | next => exact h.elim
      | brk => exact h.elim
      | cont => exact h.elim
      | ret u =>
        obtain ⟨v, H', os, bare, un, ok', ru, q⟩ := h
        have qq : v = .bl true := q
        subst qq
        have eu : u = Value.bool true := ru
        subst eu
        refine ⟨rfl, OldK.of_keep fun b o e => ?_, os, bare⟩
        rcases hO b with z | ⟨ob, xs, z⟩
        · exact un.keep b o e z (by intro y; cases y) (by intro y; cases y)
        · obtain ⟨e1, _⟩ := ok b _ z
          obtain ⟨e2, _⟩ := ok' b _ (un.frzs b ob _ z)
          rw [e] at e1; cases e1
          exact e2
  cases hk : K.lookup a with
  | some o =>
    have e := KX a o hk
    rw [ha] at e
    cases e
    exact main (fun _ => none) (fun _ => .inl rfl) (.inr ⟨_, vs.toArray, _, hk, rfl, rfl, rfl, by rw [List.size_toArray, hvl]; exact hl, rv⟩) (fun b u z => by cases z) (fun b z => absurd rfl z) fun z => absurd rfl z
  | none =>
    have fz : ∀ b (u : HO), (fun c => if c = a then some (HO.frz { cls := .type "list", data := .seq vs.toArray } (.lst (ns.map V.int))) else none) b = some u → b = a ∧ u = .frz { cls := .type "list", data := .seq vs.toArray } (.lst (ns.map V.int)) := fun b u z => by
      by_cases hba : b = a
      · simp only [hba, if_true] at z
        cases z
        exact ⟨hba, rfl⟩
      · simp only [hba, if_false] at z
        cases z
    refine main (fun c => if c = a then some (.frz { cls := .type "list", data := .seq vs.toArray } (.lst (ns.map V.int))) else none) (fun b => ?_) (.inl (.inr ⟨{ cls := .type "list", data := .seq vs.toArray }, if_pos rfl⟩)) (fun b u z => ?_) (fun b z => ?_) fun _ => hk
    · by_cases hba : b = a
      · exact .inr ⟨_, _, if_pos hba⟩
      · exact .inl (if_neg hba)
    · obtain ⟨rfl, rfl⟩ := fz b u z
      exact ⟨ha, by rw [List.length_map]; exact hl, vs, _, rv, ha⟩
    · by_cases hba : b = a
      · exact hba
      · exact absurd (if_neg hba) z
theorem walk_G {l : PySem.W.OpenLaw} {n k : Nat} {q : Program} {loose : List Str} {XP : (Str → Option Value) → Heap → Prop} {YP : World → Heap → Prop} {d : PySem.DefRec} {x : Str} (hn : l.most = some n) (hn2 : n ≤ sizeLine) (hdf : d.params.defaults = []) (room : Room k callerA)
    (G : ∀ (w : World) (mg : Str → Option Value) (fa : Addr) (h : Heap), YP w h → h.Ns mainGlobals mg → mg d.name = some (.ref fa) → ∃ (K : PySem.W.Frag) (fd : FuncData) (sp : Sp), K.In h ∧ (∀ (s : Shared) (u : Value), BindsTo s fd ⟨[u], []⟩ [(x, u)]) ∧
      (∀ (H : Hp) (a : Addr) (ns : List Int), ns.length ≤ n → Only H → SqL K H a (ns.map V.int) → sp [.ref a] H (fun v _ => v = .bl true) fun _ _ _ => False) ∧ ∀ base : Heap, K.In base → base.Ns mainGlobals mg → FnG l.prog w K mg base k fa fd [x] sp) :
    PySem.W.WalkO q loose XP YP l.row.toRowW d [] (fun f vs => PySem.call f vs) := by
  refine Att.attach_call hn hdf fun w s0 s1 mg mb fa o pm cd doc a vs ns Gr Y ho hd hcd hmg hobj hints hlen hg => ?_
  obtain ⟨K, fd, sp, KX, hb, hsp, hG⟩ := G w mg fa _ Y Gr.T.g hmg
  exact end_call KX Gr.T.g Gr.T.b Gr.T.builtins Gr.T.nolimit hg hobj hints (Nat.le_trans hlen hn2) room hG hb fun H hO hS => hsp H a ns hlen hO hS

/-! ### the defs of a program -/
/-- a def: its name, its text, its names by slot, its parameters, what it is in the small language -/
structure DefI where
  x : Str
  st : Stmt
  N : List Str
  ps : List Str
  fm : Fd
def scOk (N ps : List Str) (sc : Scope) : Bool :=
  (sc.kind == .function) && !sc.isCoroutine && !sc.isGenerator && decide N.Nodup && decide (N.take ps.length = ps) &&
    (ps.all fun x => match sc.names.lookup x with
      | some .local => true
      | some .cell => true
      | _ => false) && (sc.names.all fun y => match y.2 with
      | .free => false
      | _ => true)
theorem scOk_ok {N ps : List Str} {sc : Scope} (h : scOk N ps sc = true) : FnScope N ps sc := by
  unfold scOk at h
  simp only [Bool.and_eq_true, Bool.not_eq_true', decide_eq_true_eq] at h
  obtain ⟨⟨⟨⟨⟨⟨h1, h2⟩, h3⟩, h4⟩, h5⟩, h6⟩, h7⟩ := h
  refine ⟨kind_fn h1, h2, h3, h4, h5, fun x hx => ?_, fun y hy e => ?_⟩
  · have := List.all_eq_true.mp h6 x hx
    split at this
    · rename_i q; exact .inl q
    · rename_i q; exact .inr q
    · cases this
  · have := List.all_eq_true.mp h7 y hy
    rw [e] at this
    cases this
abbrev FunI (K : PySem.W.Frag) (d : DefI) (fd : FuncData) : Prop := FunD K d.x d.x (defArgs d.st) (defBody d.st) (defScope d.st) [] [] (He.ga K d.x) fd
/-- what the top has left of a program -/
structure Left (K : PySem.W.Frag) (mg : Str → Option Value) (T : Tbl) (Pp : Pg) (ds : Nat → Option DefI) (say : Addr) : Prop where
  fn : ∀ n d, ds n = some d → ∃ fd, FunI K d fd
  gl : ∀ n d, ds n = some d → mg d.x = some (.ref (He.ga K d.x))
  sc : ∀ n d, ds n = some d → FnScope d.N d.ps (defScope d.st) ∧ d.fm.nl = d.N.length ∧ d.fm.np = d.ps.length
  tr : ∀ n d, ds n = some d → (defBody d.st).mapM (trS T 60 ⟨d.N, defScope d.st, fun _ => true⟩) = some d.fm.body
  tb : ∀ x n np, T.fn x = some (n, np) → ∃ d, ds n = some d ∧ d.x = x ∧ np = d.ps.length ∧ ∀ fd, FunI K d fd → Binds K fd d.ps []
  tk : ∀ x m ks n pm np, T.fk x m ks = some (n, pm, np) → ∃ d, ds n = some d ∧ d.x = x ∧ np = d.ps.length ∧ ∀ fd, FunI K d fd → KBp K fd d.ps m ks pm
  blt : ∀ x, T.blt x = true → mg x = none
  cst : ∀ x n, T.cst x = some n → ∃ d u v, mg x = some u ∧ RelV v u ∧ Pp.G n = some d ∧ ∀ M, Rep K M v d
  xcs : ∀ x, T.xc x = true → XcOk K mg say x
  only : ∀ x dd, Pp.RF x = some dd → T.xc x.c = true
  sy : mg "SayError" = some (.ref say)
  sm : (K.lookup sysModules).isSome = true
def tabOf (ds : Nat → Option DefI) : Nat → Option Fd := fun n => (ds n).map DefI.fm
section
variable {P : Program} {w : World} {K : PySem.W.Frag} {mg : Str → Option Value} {base : Heap} {T : Tbl} {Pp : Pg} {ds : Nat → Option DefI} {say : Addr}
theorem FunI.fnG {d : DefI} {fd : FuncData} {k n : Nat} {sp : Sp} (Fu : FunI K d fd) (S : FnScope d.N d.ps (defScope d.st)) (len : ∀ vs H Q E, sp vs H Q E → vs.length = d.ps.length)
    (body : ∀ (cd : Value) (A : Around) (out : List PySem.Env) (s : Shared) (H : Hp) (vs : List V) (Q : VK) (E : XK), Room k (A.deeper (PyProof.Rows.envOfC d.x (defScope d.st) s.heap.objs.size (He.ga K d.x) cd)) → A.guards = some [] → sp vs H Q E →
      ∃ t, PSs (cxB P w K mg base d.N d.x (defScope d.st) (He.ga K d.x) cd A out s H E) (defBody d.st) t ∧ t { nx := fun _ H' => Q .non H', rt := Q } (L2.start d.N vs) H) : FnG P w K mg base (k + 1) (He.ga K d.x) fd d.ps sp := by
  obtain ⟨oc, od, dV, kV, doc, pm, an, cd, ct, osl, rfl, lk, hcd, hD, hK⟩ := Fu.ex
  rcases hD with ⟨_, rfl⟩ | ⟨e, _⟩
  · exact fnG_of (n := n) (st := d.st) ⟨⟨oc, od, kV, doc, pm, an, cd, ct, osl, rfl, lk, hcd⟩, Fu.kp⟩ S len body
  · exact absurd rfl e
theorem defs_ok (L : Left K mg T Pp ds say) (ref : ∀ X : Cx, X.prog = P → X.w = w → X.K = K → X.mg = mg → X.base = base → L2H.RoomH 2 X.A → RefOk X Pp) :
    ∀ (k n : Nat) (d : DefI) (fd : FuncData), ds n = some d → FunI K d fd → FnG P w K mg base (3 * k + 3) (He.ga K d.x) fd d.ps (spF K mg (fnP Pp (tabOf ds) k) n d.ps.length)
  | 0, n, d, fd, hd, Fu => ⟨fun vs H Q E h => h.1, fun A out s H ar us vs Q E _ _ _ _ _ h => by
      obtain ⟨_, M, dd, Qd, Ed, _, _, z, _⟩ := h
      exact (show False from z).elim⟩
  | k + 1, n, d, fd, hd, Fu => by
    have ih := defs_ok L ref k
    obtain ⟨hS, hnl, hnp⟩ := L.sc n d hd
    refine Fu.fnG (n := n) (k := 3 * k + 3 + 2) hS (fun vs H Q E h => h.1) fun cd A out s H vs Q E room grd hsp => ?_
    have cx : CtxS (cxB P w K mg base d.N d.x (defScope d.st) (He.ga K d.x) cd A out s H E) ⟨d.N, defScope d.st, fun _ => true⟩ T Pp (fnP Pp (tabOf ds) k) (WOf E) (3 * k + 3) say := by
      have hF : ∀ (m : Nat) (d' : DefI), ds m = some d' → ∀ dd Q E, fnP Pp (tabOf ds) k m dd Q E → dd.length = d'.ps.length := fun m d' h1 dd Q E hf => by
        cases k with
        | zero => exact (show False from hf).elim
        | succ k =>
          have hf' : (match tabOf ds m with
            | some fd => dd.length = fd.np ∧ wSs Pp (fnP Pp (tabOf ds) k) fd.body (bind0 fd dd) { nx := fun _ => Q (.val .non), rt := Q, bk := fun _ => False, ct := fun _ => False, ex := fun x _ => E x }
            | none => False) := hf
          have e : tabOf ds m = some d'.fm := by unfold tabOf; rw [h1]; rfl
          rw [e] at hf'
          rw [hf'.1]; exact (L.sc m d' h1).2.2
      refine ⟨⟨rfl, rfl, rfl, hS.nd, ⟨rfl, room, grd, L.sm⟩, L2N.takes_of rfl rfl rfl rfl, L.blt, fun x m np hx => ?_, fun x m ks q pm np hx => ?_, L.cst⟩, passes_of rfl, rfl, rfl, L.xcs, L.only, L.sy, ref _ rfl rfl rfl rfl rfl ?_⟩
      · obtain ⟨d', h1, h2, h3, h4⟩ := L.tb x m np hx
        obtain ⟨fd', F'⟩ := L.fn m d' h1
        subst h2 h3
        exact ⟨_, fd', d'.ps, ih m d' fd' h1 F', h4 fd' F', L.gl m d' h1, F'.kp, hF m d' h1⟩
      · obtain ⟨d', h1, h2, h3, h4⟩ := L.tk x m ks q pm np hx
        obtain ⟨fd', F'⟩ := L.fn q d' h1
        subst h2 h3
        exact ⟨_, fd', d'.ps, ih q d' fd' h1 F', h4 fd' F', L.gl q d' h1, F'.kp, hF q d' h1⟩
      · have h1 := room.dp
        have h2 := room.un
        have e0 : (cxB P w K mg base d.N d.x (defScope d.st) (He.ga K d.x) cd A out s H E).A = A.deeper (PyProof.Rows.envOfC d.x (defScope d.st) s.heap.objs.size (He.ga K d.x) cd) := rfl
        rw [e0]
        exact ⟨by omega, by omega⟩
    refine ⟨_, trSs_ok (fun s s' h => trS_ok 60 cx s s' h) (L.tr n d hd), ?_⟩
    obtain ⟨_, M, dd, Qd, Ed, g, rl, wf, post, exc⟩ := hsp
    have wf' : (match tabOf ds n with
      | some fd => dd.length = fd.np ∧ wSs Pp (fnP Pp (tabOf ds) k) fd.body (bind0 fd dd) { nx := fun _ => Qd (.val .non), rt := Qd, bk := fun _ => False, ct := fun _ => False, ex := fun x _ => Ed x }
      | none => False) := wf
    have e : tabOf ds n = some d.fm := by unfold tabOf; rw [hd]; rfl
    rw [e] at wf'
    exact ⟨M, rest0 M H, bind0 d.fm dd, _, Sim.enter g rl hnl, wf'.2, fun M' r' s' H' S' l q => post .non H' M' _ (S'.leave g l) (.val .non) q, fun v z M' r' s' H' S' l rv q => post v H' M' z (S'.leave g l) (RepV.out l rv) q, fun _ _ _ _ _ _ q => q.elim, fun _ _ _ _ _ _ q => q.elim, fun x cls d M' r' s' H' S' l rx q => exc x H' M' cls d (S'.leave g l) rx q⟩
end
end PL
set_option maxHeartbeats 3900000
/-! PLs: a caught error told by the law's own words -/
namespace PL
open PySem PySem.Spec L2

/-! ### a def called in an except suite, on the error that is caught -/
structure FnX (P : Program) (w : World) (K : PySem.W.Frag) (mg : Str → Option Value) (base : Heap) (p : Addr × Obj) (k : Nat) (f : Addr) (fd : FuncData) (ps : List Str) (sp : Hp → VK → Prop) : Prop where
  len : ps.length = 1
  go : ∀ (A : Around) (out : List PySem.Env) (s : Shared) (H : Hp) (Q : VK), L2H.RoomH k A → L2H.Hot1 A p → L2H.PinOk out H s p → Env0 P w K mg base A out s H →
    BindsTo s fd ⟨[.ref p.1], []⟩ (ps.zip [.ref p.1]) → sp H Q → codeAny (model P w) A (.call (.ref f) ⟨[.ref p.1], []⟩) (CR CX0 out P w H s Q E0) s
section
variable {P : Program} {w : World} {K : PySem.W.Frag} {mg : Str → Option Value} {base : Heap} {p : Addr × Obj}
theorem fnX_of {k : Nat} {d : DefI} {fd : FuncData} {sp : Hp → VK → Prop} (Fu : FunI K d fd) (S : FnScope d.N d.ps (defScope d.st)) (l1 : d.ps.length = 1)
    (body : ∀ (cd : Value) (A : Around) (out : List PySem.Env) (s : Shared) (H : Hp) (Q : VK), L2H.Hot1 A p → L2H.RoomH k (A.deeper (PyProof.Rows.envOfC d.x (defScope d.st) s.heap.objs.size (He.ga K d.x) cd)) → sp H Q →
      ∃ t, PSs (L2H.cxH CX0 P w K mg base d.N d.x (defScope d.st) (He.ga K d.x) cd A out s H E0 p) (defBody d.st) t ∧ t { nx := fun _ H' => Q .non H', rt := Q } (L2.start d.N [.ref p.1]) H) : FnX P w K mg base p (k + 1) (He.ga K d.x) fd d.ps sp := by
  obtain ⟨oc, od, dV, kV, doc, pm, an, cd, ct, osl, rfl, lk, hcd, hD, hK⟩ := Fu.ex
  rcases hD with ⟨_, rfl⟩ | ⟨e, _⟩
  case inr => exact absurd rfl e
  refine ⟨l1, fun A out s H Q room hot pin e0 bnd hsp => ?_⟩
  have lim : s.heap.NoLimit := e0.mod.nolimit.keeps fun b o z => (e0.bs b o z).1
  have KIn : K.In s.heap := e0.mod.kin.keeps fun b o z => (e0.bs b o z).1
  have kinds : ∀ y ∈ d.ps.zip [Value.ref p.1], (defScope d.st).names.lookup y.1 = some .local ∨ ((defScope d.st).names.lookup y.1 = some .cell ∧ ((cellsFrom (s.heap.objs.size + 1) (defScope d.st).names []).lookup y.1).isSome = true) := by
    rintro ⟨nm, v⟩ hy
    exact (S.par nm (List.of_mem_zip hy).1).imp id fun q => ⟨q, PySem.W.cellsFrom_some _ _ _ (.inl q)⟩
  refine codeAny_call_function room.depth (KIn _ _ lk) rfl S.co S.gen rfl (PySem.W.codeRec_of KIn hcd) (bnd _ _ _ _ (wpAny_newFunctionEnv_cells S.kind kinds fun env he s1 ic => ?_))
  subst he
  refine ⟨lim.keeps ic.toInCall.keep, codeAny_func ?_⟩
  obtain ⟨t, ht, hq⟩ := body cd A out s H Q hot (room.deeper _) hsp
  have J : Inv (L2H.cxH CX0 P w K mg base d.N d.x (defScope d.st) (He.ga K d.x) cd A out s H E0 p) [] (L2.start d.N [.ref p.1]) H s1 := L2H.inv_startH S pin e0 (by rw [l1]; rfl) (.cons rfl .nil) ic
  refine wpAny_mono (ht.run [] s1 (L2.start d.N [.ref p.1]) H _ J hq) (fun fl s' hs => ?_) fun e s' hs => hs
  cases fl with
  | brk => exact hs.elim fun _ z => z.elim fun _ z => z.2.elim
  | cont => exact hs.elim fun _ z => z.elim fun _ z => z.2.elim
  | next =>
    obtain ⟨σ', H', J', q⟩ := hs
    exact ⟨.non, H', J'.os, J'.bare, J'.base, J'.hok, rfl, q⟩
  | ret u =>
    obtain ⟨v, σ', H', J', rv, q⟩ := hs
    exact ⟨v, H', J'.os, J'.bare, J'.base, J'.hok, rv, q⟩
end
/-- what is wished of the error's word -/
def spR (K : PySem.W.Frag) (dd : D) : Hp → VK → Prop := fun H Q => ∃ M, Good M H ∧ ∀ v H' M', Ext M M' H H' → Rep K M' v dd → Q v H'
theorem ref_ok {X : Cx} {Pp : Pg} {k : Nat} {f : Addr} {fd : FuncData} {ps : List Str} (hm : X.mg "_law_refusal" = some (.ref f)) (hk : PySem.W.keepIn X.K (.ref f) = true) (hb : Binds X.K fd ps []) (rm : L2H.RoomH k X.A)
    (hF : ∀ (x : Xc) (dd : D) (C : Addr) (a : Addr) (oe : Obj), Pp.RF x = some dd → X.mg x.c = some (.ref C) → L2N.Zn (.ref C) none oe → (∃ vs, oe.data = .fields vs) → FnX X.prog X.w X.K X.mg X.base (a, oe) k f fd ps (spR X.K dd)) : RefOk X Pp := by
  intro i n a oe cls d pn p1 p2 p3 p4 hi hl hn hg hz hf
  obtain ⟨hn1, hn2⟩ := okN_1 hn
  refine pss_one (ps_ret (te := fun s H Q => ∃ x dd M, RepX X.mg x cls d ∧ Pp.RF x = some dd ∧ Good M H ∧ s[i]? = some (some (.ref a)) ∧ H a = none ∧ ∀ v H' M', Ext M M' H H' → Rep X.K M' v dd → Q v H') ⟨fun pins s σ H Q I h => ?_⟩)
  obtain ⟨x, dd, M, ⟨_, rfl, C, hC, rfl⟩, hrf, g, hs, ha, post⟩ := h
  refine wpAny_Call_Name_kw (ld_glob I hg hm ?_ (by decide +kernel))
  have pa : PA (X.suite a ((a, oe) :: pn)) [.Name n p2] (tCons (tVar i) tNil) := pa_cons (pe_var hi (.inl hl) hn1 hn2) pa_nil rfl
  refine PySem.W.callWith_K (h₀ := X.base) I.ok.mod.kin hk (thn (pa.run p3 pins s σ H (fun vs H1 => vs = [.ref a] ∧ H1 = H) I ⟨_, hs, rfl, rfl⟩) fun us s1 hh => ?_) rfl rfl
  obtain ⟨vs, H1, I1, rv, e1, e2⟩ := hh
  subst e1 e2
  obtain ⟨u, rfl, ru⟩ := rv.one
  cases (show u = Value.ref a from ru)
  have F := hF x dd C a oe hrf hC hz hf
  obtain ⟨vs, hvs⟩ := hf
  have hot : L2H.Hot1 (X.suite a ((a, oe) :: pn)).A (a, oe) := ⟨rfl, vs, hvs, hz.2.2 vs hvs⟩
  have P1 := I1.pin (a, oe) (List.mem_append_left _ List.mem_cons_self)
  have pin : L2H.PinOk X.stack H1 s1 (a, oe) := ⟨P1.1, P1.2.1, fun hm => (List.mem_cons.mp (I1.stkSub _ hm)).elim P1.2.2.1 P1.2.2.2.1, P1.2.2.2.2⟩
  have bt := hb s1 [.ref a] I1.kIn (by rw [List.append_nil, F.len]; rfl)
  rw [List.append_nil] at bt
  refine ⟨I1.kIn, wpAny_call (codeAny_mono (F.go (X.suite a ((a, oe) :: pn)).A X.stack s1 H1 Q ⟨rm.dp, rm.un⟩ hot pin I1.env0 bt ⟨M, g, post⟩) fun rr s' hq => ?_)⟩
  cases rr with
  | error e => exact hq.elim
  | ok fl =>
    cases fl with
    | ret u => exact I1.after hq
    | next => exact hq.elim
    | brk => exact hq.elim
    | cont => exact hq.elim

/-! ### the pieces of such a def's body -/
section
variable {X : Cx} {a C : Addr} {oe : Obj} {pos : Pos}
/-- the caught error's class, its object -/
structure ErrAt (X : Cx) (a C : Addr) (oe : Obj) : Prop where
  c : ExcC X.K C
  p : (a, oe) ∈ X.pn
  z : Zc (.ref C) none oe
  f : ∃ vs, oe.data = .fields vs
theorem ErrAt.inst (E : ErrAt X a C oe) {pins : List (Addr × Obj)} {s : Shared} {σ : St} {H : Hp} (I : Inv X pins σ H s) : PySem.W.InstAt s.heap a oe C none := by
  obtain ⟨hget, _⟩ := I.pin (a, oe) (List.mem_append_left _ E.p)
  obtain ⟨vs, hv⟩ := E.f
  obtain ⟨oc, od, oda, osl⟩ := oe
  obtain ⟨h1, h2⟩ := E.z
  dsimp only at h1 h2 hv
  subst h1 h2 hv
  exact ⟨hget, rfl, rfl, trivial⟩
theorem ErrAt.is (E : ErrAt X a C oe) : CallR X (.builtin "isinstance") (rIsE X.K C a) := by
  intro pins s σ H xs us Q I r h
  obtain ⟨c, cv, b, rfl, hcv, e, q⟩ := h
  obtain ⟨u1, u2, rfl, r1, r2⟩ := vals2 r
  · cases (show u1 = Value.ref a from r1)
    cases hcv _ r2
    exact PySem.W.kia_one (PySem.W.handS_kitx_exc E.c.hg E.c.hk E.c.hs E.c.hd E.c.ha E.c.hn E.c.ht E.c.hm) I.kIn (E.inst I) e (fun z => nomatch z) fun tk => ⟨.bl b, H, I.tok tk, rfl, q⟩
/-- isinstance(e, (c1, c2)) -/
def rIsET (K : PySem.W.Frag) (C a : Addr) : List V → Hp → VK → Prop := fun xs H Q => ∃ (tp : Addr) (cs : List V) (ws : List Value) (b : Bool), xs = [.ref a, .ref tp] ∧ H tp = some (.tup cs) ∧ Paired ClsV cs ws ∧ PySem.W.kitAny K (.ref C) ws = some b ∧ Q (.bl b) H
theorem ErrAt.isT (E : ErrAt X a C oe) : CallR X (.builtin "isinstance") (rIsET X.K C a) := by
  intro pins s σ H xs us Q I r h
  obtain ⟨tp, cs, ws, b, rfl, hT, k, e, q⟩ := h
  obtain ⟨u1, u2, rfl, r1, r2⟩ := vals2 r
  cases (show u1 = Value.ref a from r1)
  cases (show u2 = Value.ref tp from r2)
  obtain ⟨_, its, rv, o, h1, h2, n, h3⟩ := (show ObjOk X.prog X.w H s.heap tp (.tup cs) from I.hok tp _ hT)
  cases ClsV.all k rv
  obtain ⟨oc, od, dt, sl⟩ := o
  simp only at h2 h3
  subst h2 h3
  exact PySem.W.kia_tup (PySem.W.handS_kitx_exc E.c.hg E.c.hk E.c.hs E.c.hd E.c.ha E.c.hn E.c.ht E.c.hm) I.kIn (E.inst I) h1 e (fun z => nomatch z) fun tk => ⟨.bl b, H, I.tok tk, rfl, q⟩
/-- list.count of flat things -/
def rCntF (K : PySem.W.Frag) : V → List V → Hp → VK → Prop := fun x xs H Q => ∃ (p : Addr) (ys : List V) (y : V), x = .ref p ∧ xs = [y] ∧ SqL K H p ys ∧ flatV y = true ∧ ys.all flatV = true ∧ Q (.int (ys.countP (fun z => eqV z y) : Nat)) H
theorem countP_eqU {y : V} : ∀ {ys : List V} {us : List Value}, Vals ys us → ys.all flatV = true → us.countP (eqU y) = ys.countP fun z => eqV z y
  | _, _, .nil, _ => rfl
  | _, _, .cons r t, f => by
    rw [List.all_cons, Bool.and_eq_true] at f
    rw [List.countP_cons, List.countP_cons, countP_eqU t f.2, eqU_of r f.1]
theorem mt_cntF : MtR X "list.count" (rCntF X.K) := by
  intro pins s σ H x xs v us Q I rx rxs h
  obtain ⟨p, ys, y, rfl, rfl, hs, fy, fys, q⟩ := h
  cases rx
  obtain ⟨u, rfl, ru⟩ := rxs.one
  obtain ⟨its, rv, ⟨⟨cls, dd, data, sl⟩, n, ho, hc, hdn, hd⟩, hlen⟩ := I.list hs
  simp only at hc hd
  subst hc hd
  refine call_meets PySem.F.slot_list_count ⟨_, ho, rfl⟩ PySem.F.entry_list_count (PySem.F.args_list_count_2 _ _) (SeqAt.list_countAt p its.toArray n dd sl u (eqU y))
    ⟨ho, fun u' hu' => mem_eqAt ru fy rv fys u' (by simpa using hu'), ?_⟩
  refine ⟨.int (ys.countP (fun z => eqV z y) : Nat), H, I.tok _, ⟨s.toks, ?_⟩, q⟩
  show Value.int ((its.toArray.toList.countP (eqU y) : Nat) : Int) s.toks = _
  rw [show its.toArray.toList.countP (eqU y) = ys.countP (fun z => eqV z y) from countP_eqU rv fys]
end
end PL
set_option maxHeartbeats 3900000
/-! PLt: the def that tells a caught error, statement by statement -/
namespace PL
open PySem PySem.Spec L2
/-- the setting of that def's body -/
structure RX (X : Cx) (a C : Addr) (oe : Obj) : Prop where
  e : ErrAt X a C oe
  n : X.N = ([Str.ofString "_law_e", Str.ofString "_law_some", Str.ofString "_law_at", Str.ofString "_law_words"] : List Str)
  v : ∀ x ∈ X.N, X.env.scope.names.lookup x = some .local
  gi : Gl X "isinstance"
  mi : X.mg "isinstance" = none
def tBs (a : Addr) (bs : List Bool) : TA := fun s H Q => s[0]? = some (some (.ref a)) ∧ Q (bs.map V.bl) H
def tTri (Pre Post : St → Hp → Prop) : TS := fun D s H => Pre s H ∧ ∀ s' H', Post s' H' → D.nx s' H'
section
variable {X : Cx} {a C : Addr} {oe : Obj} {pos p1 p2 p3 p4 p5 p6 p7 p8 p9 : Pos} {j1 j2 j3 : Nat}
theorem RX.v0 (R : RX X a C oe) : PE X (.Name "_law_e" pos) (tVar 0) := pe_var (by rw [R.n]; rfl) (.inl (R.v _ (by rw [R.n]; decide))) (by decide +kernel) (by decide +kernel)
theorem RX.v1 (R : RX X a C oe) : PE X (.Name "_law_some" pos) (tVar 1) := pe_var (by rw [R.n]; rfl) (.inl (R.v _ (by rw [R.n]; decide))) (by decide +kernel) (by decide +kernel)
theorem RX.v2 (R : RX X a C oe) : PE X (.Name "_law_at" pos) (tVar 2) := pe_var (by rw [R.n]; rfl) (.inl (R.v _ (by rw [R.n]; decide))) (by decide +kernel) (by decide +kernel)
theorem RX.v3 (R : RX X a C oe) : PE X (.Name "_law_words" pos) (tVar 3) := pe_var (by rw [R.n]; rfl) (.inl (R.v _ (by rw [R.n]; decide))) (by decide +kernel) (by decide +kernel)
theorem RX.nd (R : RX X a C oe) : X.N.Nodup := by rw [R.n]; decide +kernel
theorem is_nil : PA X [] (tBs a []) := PA.imp pa_nil fun s H Q h => h.2
/-- isinstance(e, c), c a class of the module -/
theorem is_pe (R : RX X a C oe) {c : Str} {D : Addr} {b : Bool} (hg : Gl X c) (hm : X.mg c = some (.ref D)) (hd : (c == ("__debug__" : Str)) = false) (hk : PySem.W.kitOne X.K (.ref C) (.ref D) = some b) : PE X (.Call (.Name "isinstance" p1) [.Name "_law_e" p2, .Name c p3] [] p4) (fun s H Q => s[0]? = some (some (.ref a)) ∧ Q (.bl b) H) :=
  PE.imp (pe_callB R.e.is R.gi R.mi (by decide +kernel) (pa_cons R.v0 (pa_cons (pe_glob hg hm (v := .ref D) rfl hd) pa_nil rfl) rfl) (by decide +kernel) (by decide +kernel) rfl rfl) fun s H Q h => ⟨_, h.1, _, .ref D, b, rfl, fun u hu => hu, hk, h.2⟩
theorem is_cons (R : RX X a C oe) {c : Str} {D : Addr} {b : Bool} {bs : List Bool} {es : List Expr} (hg : Gl X c) (hm : X.mg c = some (.ref D)) (hd : (c == ("__debug__" : Str)) = false) (hk : PySem.W.kitOne X.K (.ref C) (.ref D) = some b) (hr : PA X es (tBs a bs)) :
    PA X (.Call (.Name "isinstance" p1) [.Name "_law_e" p2, .Name c p3] [] p4 :: es) (tBs a (b :: bs)) :=
  PA.imp (pa_cons (is_pe R hg hm hd hk) hr rfl) fun s H Q h => ⟨h.1, h.1, h.2⟩
variable {M : Gh} {H0 : Hp}
/-- how things stand between the statements -/
def A0 (M : Gh) (H0 : Hp) (a : Addr) : St → Hp → Prop := fun s H => s.length = 4 ∧ s[0]? = some (some (.ref a)) ∧ Ext M M H0 H
def A1 (M : Gh) (H0 : Hp) (a : Addr) (bs : List Bool) : St → Hp → Prop := fun s H => A0 M H0 a s H ∧ ∃ p, s[1]? = some (some (.ref p)) ∧ H p = some (.lst (bs.map V.bl))
def A2 (M : Gh) (H0 : Hp) (a : Addr) (j : Nat) : St → Hp → Prop := fun s H => A0 M H0 a s H ∧ s[2]? = some (some (.int (j : Int)))
def A3 (M : Gh) (H0 : Hp) (a : Addr) (j : Nat) (ws : List Str) : St → Hp → Prop := fun s H => A2 M H0 a j s H ∧ ∃ p, s[3]? = some (some (.ref p)) ∧ H p = some (.lst (ws.map V.str))
theorem A0.set {s : St} {H : Hp} {i : Nat} {v : V} (h : A0 M H0 a s H) (hi : i ≠ 0) : A0 M H0 a (s.set i (some v)) H := ⟨by rw [List.length_set]; exact h.1, by rw [List.getElem?_set_ne hi]; exact h.2.1, h.2.2⟩
theorem A0.new {s : St} {H : Hp} {p : Addr} {o : HO} (g : Good M H0) (h : A0 M H0 a s H) (hp : H p = none) : A0 M H0 a s (upd H p o) := ⟨h.1, h.2.1, h.2.2.trans g (Ext.newOwn h.2.2.good hp)⟩
theorem r_set {s : St} {H : Hp} {i : Nat} {v : V} (h : A0 M H0 a s H) (hi : i < 4) : (s.set i (some v))[i]? = some (some v) := List.getElem?_set_self (by rw [h.1]; exact hi)
theorem r_s1 (R : RX X a C oe) (g : Good M H0) {es : List Expr} {bs : List Bool} (hb : bs.length ≤ 100) (h : PA X es (tBs a bs)) : PS X (.Assign [.Name "_law_some" p1] (.List es p2) p3) (tTri (A0 M H0 a) (A1 M H0 a bs)) :=
  PS.imp (ps_set (i := 1) R.nd (by rw [R.n]; rfl) (.inl (R.v _ (by rw [R.n]; decide))) (pe_lst h) rfl (.inr (R.v _ (by rw [R.n]; decide)))) fun D s H hh => by
    refine ⟨hh.1.2.1, ?_, fun p hp => hh.2 _ _ ⟨(hh.1.new g hp).set (by decide), p, r_set hh.1 (by decide), upd_same⟩⟩
    rw [List.length_map, sizeLine_eq]; omega
theorem r_s2 (R : RX X a C oe) (g : Good M H0) {es : List Expr} {bs cs : List Bool} (hb : bs.length + cs.length ≤ 100) (h : PA X es (tBs a cs)) : PS X (.Assign [.Name "_law_some" p1] (.BinOp (.Name "_law_some" p4) .Add (.List es p2) p5) p3) (tTri (A1 M H0 a bs) (A1 M H0 a (bs ++ cs))) :=
  PS.imp (ps_set (i := 1) R.nd (by rw [R.n]; rfl) (.inl (R.v _ (by rw [R.n]; decide))) (pe_op op_cat R.v1 (pe_lst h)) rfl (.inr (R.v _ (by rw [R.n]; decide)))) fun D s H hh => by
    obtain ⟨⟨h0, p, hs, hp⟩, post⟩ := hh
    refine ⟨_, hs, h0.2.1, by rw [List.length_map, sizeLine_eq]; omega, fun q hq => ⟨p, q, bs.map V.bl, cs.map V.bl, rfl, rfl, ?_, upd_same, ?_, fun q2 hq2 => post _ _ ⟨((h0.new g hq).new g hq2).set (by decide), q2, r_set h0 (by decide), ?_⟩⟩⟩
    · rw [upd_ne (ne_of_none hp hq)]; exact hp
    · rw [List.length_map, List.length_map, sizeLine_eq]; omega
    · rw [upd_same, List.map_append]
theorem eqV_bl (b : Bool) : eqV (.bl b) (.bl true) = b := by cases b <;> rfl
theorem flat_bls (bs : List Bool) : (bs.map V.bl).all flatV = true := by
  induction bs with
  | nil => rfl
  | cons b bs ih => rw [List.map_cons, List.all_cons, ih]; rfl
theorem count_bls (bs : List Bool) : (bs.map V.bl).countP (fun z => eqV z (.bl true)) = bs.countP id := by
  rw [List.countP_map]
  congr 1
  funext b
  exact eqV_bl b
theorem r_cnt (R : RX X a C oe) (hl : (p2.endLine == p4.line) = true) : PE X (.Call (.Attribute (.Name "_law_some" p1) "count" p2) [.Constant (.bool true) j1 p3] [] p4) (tBM X.K "list" (rCntF X.K) (tVar 1) (tCons (tC (.bl true)) tNil)) :=
  pe_bm PySem.F.plainAttrs_list PySem.F.slot_list_count PySem.F.type_list_count mt_cntF R.v1 (pa_cons pe_bl pa_nil rfl) rfl rfl hl rfl rfl
/-- the guard: it is not taken -/
theorem r_if (R : RX X a C oe) (g : Good M H0) {bs : List Bool} {b : List Stmt} {x : Nat} (hc : bs.countP id = 1) (hk : PySem.W.kitOne X.K (.ref C) (.type "ValueError") = some true) (hk2 : PySem.W.kitAny X.K (.ref C) [.type "LookupError", .type "TypeError"] = some false)
    (gv : Gl X "ValueError") (mv : X.mg "ValueError" = none) (gl : Gl X "LookupError") (ml : X.mg "LookupError" = none) (gt : Gl X "TypeError") (mt : X.mg "TypeError" = none) {q1 q2 q3 q4 q5 q6 q7 q8 q9 : Pos} {qa : Pos} (hl : (p2.endLine == p4.line) = true) :
    PS X (.If (.BoolOp .Or [.Compare (.Call (.Attribute (.Name "_law_some" p1) "count" p2) [.Constant (.bool true) j1 p3] [] p4) [.NotEq] [.Constant (.int 1) j2 p5] p6, .UnaryOp .Not (.Call (.Name "isinstance" p7) [.Name "_law_e" p8, .Name "ValueError" p9] [] q1) q2,
      .Call (.Name "isinstance" q3) [.Name "_law_e" q4, .Tuple [.Name "LookupError" q5, .Name "TypeError" q6] x q7] [] q8] q9) b [] qa) (tTri (A1 M H0 a bs) (A1 M H0 a bs)) := by
  have e1 : PE X (.Call (.Name "isinstance" p7) [.Name "_law_e" p8, .Name "ValueError" p9] [] q1) (fun s H Q => s[0]? = some (some (.ref a)) ∧ Q (.bl true) H) :=
    PE.imp (pe_callB R.e.is R.gi R.mi (by decide +kernel) (pa_cons R.v0 (pa_cons (pe_bltn gv mv (v := .ty "ValueError") (by decide +kernel) rfl (by decide +kernel) (by decide +kernel)) pa_nil rfl) rfl) (by decide +kernel) (by decide +kernel) rfl rfl) fun s H Q h => ⟨_, h.1, _, .type "ValueError", true, rfl, fun u hu => hu, hk, h.2⟩
  have e2 : PE X (.Call (.Name "isinstance" q3) [.Name "_law_e" q4, .Tuple [.Name "LookupError" q5, .Name "TypeError" q6] x q7] [] q8) (fun s H Q => s[0]? = some (some (.ref a)) ∧ ∀ p, H p = none → Q (.bl false) (upd H p (.tup [.ty "LookupError", .ty "TypeError"]))) :=
    PE.imp (pe_callB R.e.isT R.gi R.mi (by decide +kernel) (pa_cons R.v0 (pa_cons (pe_tup (pa_cons (pe_bltn gl ml (v := .ty "LookupError") (by decide +kernel) rfl (by decide +kernel) (by decide +kernel)) (pa_cons (pe_bltn gt mt (v := .ty "TypeError") (by decide +kernel) rfl (by decide +kernel) (by decide +kernel)) pa_nil rfl) rfl)) pa_nil rfl) rfl) (by decide +kernel) (by decide +kernel) rfl rfl) fun s H Q h =>
      ⟨_, h.1, by rw [sizeLine_eq]; decide, fun p hp => ⟨p, _, [.type "LookupError", .type "TypeError"], false, rfl, upd_same, .cons (.ty _) (.cons (.ty _) .nil), hk2, h.2 p hp⟩⟩
  refine PS.imp (ps_if (t := fun _ _ _ => False) (u := fun D s H => D.nx s H) (PW.pt (pw_or (pt_cmpR op_ne (r_cnt R hl) pe_int rfl) (pw_or (pt_not (pt_truth e1 fun _ => rfl)) (pw_or1 (pt_truth e2 fun _ => rfl))))) ⟨fun pins s σ H D I h => h.elim⟩ pss_nil) fun D s H hh => ?_
  obtain ⟨⟨h0, p, hs, hp⟩, post⟩ := hh
  refine ⟨_, hs, .inl ⟨rfl, _, .inl (.inl hp)⟩, ⟨p, bs.map V.bl, .bl true, rfl, rfl, .inl (.inl hp), rfl, flat_bls bs, ?_⟩⟩
  rw [count_bls, hc]
  refine ⟨rfl, false, rfl, ?_⟩
  simp only [Bool.false_eq_true, if_false]
  refine ⟨h0.2.1, true, rfl, ?_⟩
  simp only [Bool.not_true, Bool.false_eq_true, if_false]
  refine ⟨h0.2.1, fun q hq => ⟨false, rfl, ?_⟩⟩
  simp only [Bool.false_eq_true, if_false]
  refine post s _ ⟨h0.new g hq, p, hs, ?_⟩
  rw [upd_ne (ne_of_none hp hq)]; exact hp
theorem r_at (R : RX X a C oe) {bs : List Bool} {j : Nat} (hj : bs[j]? = some true) (hn : ∀ m, m < j → bs[m]? = some false) (hl : (p2.endLine == p4.line) = true) :
    PS X (.Assign [.Name "_law_at" p5] (.Call (.Attribute (.Name "_law_some" p1) "index" p2) [.Constant (.bool true) j1 p3] [] p4) p6) (tTri (A1 M H0 a bs) (A2 M H0 a j)) :=
  PS.imp (ps_set (i := 2) R.nd (by rw [R.n]; rfl) (.inl (R.v _ (by rw [R.n]; decide))) (pe_bm PySem.F.plainAttrs_list PySem.F.slot_list_index PySem.F.type_list_index mt_index R.v1 (pa_cons pe_bl pa_nil rfl) rfl rfl hl rfl rfl) rfl (.inr (R.v _ (by rw [R.n]; decide)))) fun D s H hh => by
    obtain ⟨⟨h0, p, hs, hp⟩, post⟩ := hh
    refine ⟨_, hs, .inl ⟨rfl, _, .inl (.inl hp)⟩, ⟨p, bs.map V.bl, .bl true, j, .bl true, rfl, rfl, .inl (.inl hp), rfl, flat_bls bs, ?_, rfl, fun m z hm hz => ?_, post _ _ ⟨h0.set (by decide), r_set h0 (by decide)⟩⟩⟩
    · rw [List.getElem?_map, hj]; rfl
    · rw [List.getElem?_map, hn m hm] at hz
      cases hz
      rfl
def tSs' (ws : List Str) : TA := fun s H Q => Q (ws.map V.str) H
theorem w_nil : PA X [] (tSs' []) := PA.imp pa_nil fun s H Q h => h
theorem w_cons {x : Str} {ws : List Str} {es : List Expr} (hr : PA X es (tSs' ws)) : PA X (.Constant (.str x) j1 p1 :: es) (tSs' (x :: ws)) := PA.imp (pa_cons pe_str hr rfl) fun s H Q h => h
theorem r_w1 (R : RX X a C oe) (g : Good M H0) {j : Nat} {es : List Expr} {ws : List Str} (hb : ws.length ≤ 100) (h : PA X es (tSs' ws)) : PS X (.Assign [.Name "_law_words" p1] (.List es p2) p3) (tTri (A2 M H0 a j) (A3 M H0 a j ws)) :=
  PS.imp (ps_set (i := 3) R.nd (by rw [R.n]; rfl) (.inl (R.v _ (by rw [R.n]; decide))) (pe_lst h) rfl (.inr (R.v _ (by rw [R.n]; decide)))) fun D s H hh => by
    obtain ⟨⟨h0, h2⟩, post⟩ := hh
    refine ⟨?_, fun p hp => post _ _ ⟨⟨(h0.new g hp).set (by decide), ?_⟩, p, r_set h0 (by decide), upd_same⟩⟩
    · rw [List.length_map, sizeLine_eq]; omega
    · rw [List.getElem?_set_ne (by decide)]; exact h2
theorem r_w2 (R : RX X a C oe) (g : Good M H0) {j : Nat} {es : List Expr} {ws us : List Str} (hb : ws.length + us.length ≤ 100) (h : PA X es (tSs' us)) : PS X (.Assign [.Name "_law_words" p1] (.BinOp (.Name "_law_words" p4) .Add (.List es p2) p5) p3) (tTri (A3 M H0 a j ws) (A3 M H0 a j (ws ++ us))) :=
  PS.imp (ps_set (i := 3) R.nd (by rw [R.n]; rfl) (.inl (R.v _ (by rw [R.n]; decide))) (pe_op op_cat R.v3 (pe_lst h)) rfl (.inr (R.v _ (by rw [R.n]; decide)))) fun D s H hh => by
    obtain ⟨⟨⟨h0, h2⟩, p, hs, hp⟩, post⟩ := hh
    refine ⟨_, hs, ?_, fun q hq => ⟨p, q, ws.map V.str, us.map V.str, rfl, rfl, ?_, upd_same, ?_, fun q2 hq2 => post _ _ ⟨⟨((h0.new g hq).new g hq2).set (by decide), ?_⟩, q2, r_set h0 (by decide), ?_⟩⟩⟩
    · rw [List.length_map, sizeLine_eq]; omega
    · rw [upd_ne (ne_of_none hp hq)]; exact hp
    · rw [List.length_map, List.length_map, sizeLine_eq]; omega
    · rw [List.getElem?_set_ne (by decide)]; exact h2
    · rw [upd_same, List.map_append]
/-- the word is told -/
def tEnd (K : PySem.W.Frag) (M : Gh) (H0 : Hp) (a : Addr) (j : Nat) (ws : List Str) (w : Str) : TS := fun D s H => A3 M H0 a j ws s H ∧ ws[j]? = some w ∧ ∀ v H' M', Ext M M' H0 H' → Rep K M' v (.tup [.str w]) → D.rt v H'
theorem r_end (R : RX X a C oe) (g : Good M H0) {j x : Nat} {ws : List Str} {w : Str} (hj : j < 14) : PS X (.If (.Compare (.Name "_law_at" p1) [.Lt] [.Constant (.int 14) j1 p2] p3) [.Return (some (.Tuple [.Subscript (.Name "_law_words" p4) (.Name "_law_at" p5) p6] x p7)) p8] [] p9) (tEnd X.K M H0 a j ws w) := by
  have e1 : PE X (.Subscript (.Name "_law_words" p4) (.Name "_law_at" p5) p6) (tOp (rIxL X.K) (tVar 3) (tVar 2)) := pe_ix ix_list R.v3 R.v2 fun _ _ => rfl
  refine PS.imp (ps_if (u := fun _ _ _ => False) (pt_cmpR op_lt R.v2 pe_int rfl) (pss_one (ps_ret (pe_tup (pa_cons e1 pa_nil rfl)))) ⟨fun pins s σ H D I h => h.elim⟩) fun D s H hh => ?_
  obtain ⟨⟨⟨h0, h2⟩, p, hs, hp⟩, hw, post⟩ := hh
  refine ⟨_, h2, _, _, rfl, rfl, true, ?_, ?_⟩
  · show V.bl (decide ((j : Int) < 14)) = V.bl true
    rw [decide_eq_true (by omega)]
  refine (if_pos rfl : (if true = true then tRet (tTup (tCons (tOp (rIxL X.K) (tVar 3) (tVar 2)) tNil)) D s H else False) = _).mpr ?_
  refine ⟨_, hs, _, h2, p, ws.map V.str, j, .str w, rfl, rfl, .inl (.inl hp), ?_, by rw [sizeLine_eq]; show 1 ≤ _; decide, fun q hq => ?_⟩
  · exact atI_nat (by rw [List.getElem?_map, hw]; rfl)
  have x := Ext.new (o := .tup [.str w]) h0.2.2.good hq
  exact post _ _ _ (h0.2.2.trans g x) (.tup (.inl (.inl upd_same)) (.cons (.str w) .nil))
/-- the rest of a body is not reached -/
theorem r_rest {ss : List Stmt} : PSs X ss (fun _ _ _ => False) := ⟨fun pins s σ H D I h => h.elim⟩
def refWords : List Str := [Str.ofString "saying", Str.ofString "letter", Str.ofString "word", Str.ofString "guard", Str.ofString "shape", Str.ofString "guards", Str.ofString "machine", Str.ofString "turner", Str.ofString "plain", Str.ofString "head", Str.ofString "whole", Str.ofString "name", Str.ofString "deed", Str.ofString "line"]
def refCls : List Str := [Str.ofString "NoSaying", Str.ofString "NoLetter", Str.ofString "NoWord", Str.ofString "NoGuard", Str.ofString "NoShape", Str.ofString "NoGuards", Str.ofString "NoMachine", Str.ofString "NoTurner", Str.ofString "NoPlain", Str.ofString "NoHead", Str.ofString "NoWhole", Str.ofString "NoName", Str.ofString "NoDeed", Str.ofString "NoLine", Str.ofString "BadMachine", Str.ofString "BadTurner", Str.ofString "NoText", Str.ofString "TooMany"]
/-- what a raised class must say, so that it is told by the j-th word -/
def refB (K : PySem.W.Frag) (c : Str) (j : Nat) : Bool :=
  decide (PySem.W.findIn K (.ref (He.ga K c)) "__getattribute__" = some (some (.builtin "BaseException.__getattribute__"))) && (decide (PySem.W.findIn K (.ref (He.ga K c)) "__getattr__" = some none) && (decide (PySem.W.subIn K (.ref (He.ga K c)) (.type "BaseException") = some true) && (PySem.W.hasDictIn K (He.ga K c) &&
  (decide (PySem.W.findIn K (.ref (He.ga K c)) "__class__" = some (some (.builtin "object.__class__"))) && (decide (PySem.W.specialIn K (.builtin "object.__class__") "__get__" = some (some (.builtin "getset_descriptor.__get__"))) && (decide (PySem.W.takesIn K (.builtin "object.__class__") = some true) &&
  (decide (PySem.W.mroIn K (He.ga K c) (.type "object") = some true) && (decide (PySem.W.kitOne K (.ref (He.ga K c)) (.type "ValueError") = some true) && (decide (PySem.W.kitAny K (.ref (He.ga K c)) [.type "LookupError", .type "TypeError"] = some false) && (decide (j < 14) &&
  (List.range 18).all fun i => decide (PySem.W.kitOne K (.ref (He.ga K c)) (.ref (He.ga K (refCls.getD i Str.empty))) = some (i == j))))))))))))
structure RefI (K : PySem.W.Frag) (C : Addr) (j : Nat) : Prop where
  c : ExcC K C
  ve : PySem.W.kitOne K (.ref C) (.type "ValueError") = some true
  lt : PySem.W.kitAny K (.ref C) [.type "LookupError", .type "TypeError"] = some false
  jl : j < 14
  k : ∀ i < 18, PySem.W.kitOne K (.ref C) (.ref (He.ga K (refCls.getD i Str.empty))) = some (i == j)
theorem refB_ok {K : PySem.W.Frag} {c : Str} {j : Nat} (h : refB K c j = true) : RefI K (He.ga K c) j := by
  unfold refB at h
  simp only [Bool.and_eq_true, decide_eq_true_eq] at h
  obtain ⟨h1, h2, h3, h4, h5, h6, h7, h8, h9, h10, h11, h12⟩ := h
  exact ⟨⟨h1, h2, h3, h4, h5, h6, h7, h8⟩, h9, h10, h11, fun i hi => of_decide_eq_true (List.all_eq_true.mp h12 i (List.mem_range.mpr hi))⟩
def bsOf (j : Nat) : List Bool := [0 == j, 1 == j, 2 == j, 3 == j] ++ [4 == j, 5 == j, 6 == j, 7 == j] ++ [8 == j, 9 == j, 10 == j, 11 == j] ++ [12 == j, 13 == j, 14 == j, 15 == j] ++ [16 == j, 17 == j]
/-- what the text sees of the names it asks for -/
structure Sees (X : Cx) (C : Addr) (j : Nat) : Prop where
  r : RefI X.K C j
  gl : ∀ i < 18, Gl X (refCls.getD i Str.empty)
  mg : ∀ i < 18, X.mg (refCls.getD i Str.empty) = some (.ref (He.ga X.K (refCls.getD i Str.empty)))
  g1 : Gl X "ValueError"
  m1 : X.mg "ValueError" = none
  g2 : Gl X "LookupError"
  m2 : X.mg "LookupError" = none
  g3 : Gl X "TypeError"
  m3 : X.mg "TypeError" = none
theorem cls_dbg : ∀ i < 18, ((refCls.getD i Str.empty) == ("__debug__" : Str)) = false := by decide +kernel
theorem is_c {j : Nat} (R : RX X a C oe) (S : Sees X C j) (i : Nat) {bs : List Bool} {es : List Expr} (hr : PA X es (tBs a bs)) (hi : i < 18 := by decide) :
    PA X (.Call (.Name "isinstance" p1) [.Name "_law_e" p2, .Name (refCls.getD i Str.empty) p3] [] p4 :: es) (tBs a ((i == j) :: bs)) := is_cons R (S.gl i hi) (S.mg i hi) (cls_dbg i hi) (S.r.k i hi) hr
theorem bs_1 : ∀ j < 14, (bsOf j).countP id = 1 := by decide +kernel
theorem bs_2 : ∀ j < 14, (bsOf j)[j]? = some true := by decide +kernel
theorem bs_3 : ∀ j < 14, ∀ m < j, (bsOf j)[m]? = some false := by decide +kernel
theorem ws_j : ∀ j < 14, refWords[j]? = some (refWords.getD j Str.empty) := by decide +kernel
end
/-- the def's text, all of it -/
theorem ref_all {X : Cx} {a : Addr} {M : Gh} {H0 : Hp} {j : Nat} {ss : List Stmt} {s1 s2 s3 s4 s5 s6 s7 s8 s9 s10 : Stmt} (hj : j < 14)
    (h1 : PS X s1 (tTri (A0 M H0 a) (A1 M H0 a [0 == j, 1 == j, 2 == j, 3 == j]))) (h2 : PS X s2 (tTri (A1 M H0 a [0 == j, 1 == j, 2 == j, 3 == j]) (A1 M H0 a ([0 == j, 1 == j, 2 == j, 3 == j] ++ [4 == j, 5 == j, 6 == j, 7 == j]))))
    (h3 : PS X s3 (tTri (A1 M H0 a ([0 == j, 1 == j, 2 == j, 3 == j] ++ [4 == j, 5 == j, 6 == j, 7 == j])) (A1 M H0 a ([0 == j, 1 == j, 2 == j, 3 == j] ++ [4 == j, 5 == j, 6 == j, 7 == j] ++ [8 == j, 9 == j, 10 == j, 11 == j]))))
    (h4 : PS X s4 (tTri (A1 M H0 a ([0 == j, 1 == j, 2 == j, 3 == j] ++ [4 == j, 5 == j, 6 == j, 7 == j] ++ [8 == j, 9 == j, 10 == j, 11 == j])) (A1 M H0 a ([0 == j, 1 == j, 2 == j, 3 == j] ++ [4 == j, 5 == j, 6 == j, 7 == j] ++ [8 == j, 9 == j, 10 == j, 11 == j] ++ [12 == j, 13 == j, 14 == j, 15 == j]))))
    (h5 : PS X s5 (tTri (A1 M H0 a ([0 == j, 1 == j, 2 == j, 3 == j] ++ [4 == j, 5 == j, 6 == j, 7 == j] ++ [8 == j, 9 == j, 10 == j, 11 == j] ++ [12 == j, 13 == j, 14 == j, 15 == j])) (A1 M H0 a (bsOf j))))
    (h6 : PS X s6 (tTri (A1 M H0 a (bsOf j)) (A1 M H0 a (bsOf j)))) (h7 : PS X s7 (tTri (A1 M H0 a (bsOf j)) (A2 M H0 a j))) (h8 : PS X s8 (tTri (A2 M H0 a j) (A3 M H0 a j (refWords.take 11)))) (h9 : PS X s9 (tTri (A3 M H0 a j (refWords.take 11)) (A3 M H0 a j (refWords.take 11 ++ refWords.drop 11))))
    (h10 : PS X s10 (tEnd X.K M H0 a j (refWords.take 11 ++ refWords.drop 11) (refWords.getD j Str.empty))) (g : Good M H0) :
    PSs X (s1 :: s2 :: s3 :: s4 :: s5 :: s6 :: s7 :: s8 :: s9 :: s10 :: ss) (fun D s H => A0 M H0 a s H ∧ ∀ v H' M', Ext M M' H0 H' → Rep X.K M' v (.tup [.str (refWords.getD j Str.empty)]) → D.rt v H') :=
  PSs.imp (pss_cons h1 (pss_cons h2 (pss_cons h3 (pss_cons h4 (pss_cons h5 (pss_cons h6 (pss_cons h7 (pss_cons h8 (pss_cons h9 (pss_cons h10 r_rest)))))))))) fun D s H hh =>
    ⟨hh.1, fun _ _ q => ⟨q, fun _ _ q => ⟨q, fun _ _ q => ⟨q, fun _ _ q => ⟨q, fun _ _ q => ⟨q, fun _ _ q => ⟨q, fun _ _ q => ⟨q, fun _ _ q => ⟨q, fun _ _ q => ⟨q, by rw [List.take_append_drop]; exact ws_j j hj, hh.2⟩⟩⟩⟩⟩⟩⟩⟩⟩⟩
end PL
set_option maxHeartbeats 3900000
/-! PLu: a program by its data; what the head must see; the end -/
namespace PL
open PySem PySem.Spec L2
/-- a program: its defs, the built-in names it uses, its constants, the error classes it raises (by their words' places), the defs and names of pots -/
structure PrI where
  defs : List DefI
  blts : List Str
  csts : List (Str × D)
  xcs : List (Str × Nat)
  potf : List Str
  potv : List Str
  /-- defs that are not called by places alone -/
  npos : List Str
  /-- whether errors are caught and told -/
  ref : Bool
  /-- which def, how many by places, the keywords, where each parameter's value stands -/
  fks : List ((Nat × Nat × List Str) × List Nat)
def PrI.T (p : PrI) : Tbl where
  blt := fun x => p.blts.contains x
  fn := fun x => if p.npos.contains x = true then none else (ixOf x (p.defs.map DefI.x)).bind fun n => (p.defs[n]?).map fun d => (n, d.ps.length)
  fk := fun x m ks => (ixOf x (p.defs.map DefI.x)).bind fun n => (p.defs[n]?).bind fun d => (p.fks.lookup (n, m, ks)).map fun pm => (n, pm, d.ps.length)
  cst := fun x => ixOf x (p.csts.map Prod.fst)
  xc := fun x => (p.xcs.lookup x).isSome
  potf := fun x => p.potf.contains x
  potv := fun x => p.potv.contains x
def PrI.P (p : PrI) : Pg where
  G := fun n => (p.csts[n]?).map Prod.snd
  RF := fun x => if p.ref = true then (p.xcs.lookup x.c).map (fun j => .tup [.str (refWords.getD j Str.empty)]) else none
def PrI.ds (p : PrI) : Nat → Option DefI := fun n => p.defs[n]?
def cstFa : Str × D → He.Fa
  | (x, .int i) => .int x i
  | (x, .str y) => .str x y
  | (x, _) => .glo x
def cstB : D → Bool
  | .int _ => true
  | .str _ => true
  | .tup ds => ds.all flatD
  | _ => false
/-- a tuple of flat things that stands in the written part -/
def tupB (K : PySem.W.Frag) (a : Addr) (ds : List D) : Bool := match K.lookup a with
  | some ⟨.type c, _, .seq its _, _⟩ => decide (c = "tuple") && (decide (its.size = ds.length) && (decide (ds.length ≤ 1000) && (ds.zip its.toList).all fun p => He.relB (flV p.1) p.2))
  | _ => false
theorem vals_zip : ∀ {ds : List D} {us : List Value}, us.length = ds.length → (ds.zip us).all (fun p => He.relB (flV p.1) p.2) = true → Vals (ds.map flV) us
  | [], [], _, _ => .nil
  | [], _ :: _, h, _ => by cases h
  | _ :: _, [], h, _ => by cases h
  | d :: ds, u :: us, h, q => by
    rw [List.zip_cons_cons, List.all_cons, Bool.and_eq_true] at q
    exact .cons (He.relB_ok q.1) (vals_zip (Nat.succ.inj h) q.2)
theorem repL_flV {K : PySem.W.Frag} {M : Gh} : ∀ {ds : List D}, ds.all flatD = true → RepL K M (ds.map flV) ds
  | [], _ => .nil
  | d :: ds, h => by
    rw [List.all_cons, Bool.and_eq_true] at h
    refine .cons ?_ (repL_flV h.2)
    have h1 := h.1
    cases d <;> first | exact .non | exact .bl _ | exact .int _ | exact .str _ | exact absurd (show false = true from h1) Bool.false_ne_true
theorem tupB_ok {K : PySem.W.Frag} {a : Addr} {ds : List D} (h : tupB K a ds = true) (hf : ds.all flatD = true) (M : Gh) : Rep K M (.ref a) (.tup ds) := by
  unfold tupB at h
  cases q : K.lookup a with
  | none => rw [q] at h; cases h
  | some o =>
    obtain ⟨oc, od, dt, sl⟩ := o
    rw [q] at h
    cases oc with
    | type c =>
      cases dt with
      | seq its n =>
        simp only [Bool.and_eq_true, decide_eq_true_eq] at h
        obtain ⟨h1, h2, h3, h4⟩ := h
        subst h1
        refine .tup (.inr ⟨_, its, n, q, rfl, rfl, by rw [sizeLine_eq]; omega, vals_zip (by rw [Array.length_toList]; exact h2) h4⟩) (repL_flV hf)
      | _ => cases h
    | _ => cases dt <;> cases h
def cstT (K : PySem.W.Frag) : Str × D → Bool
  | (x, .tup ds) => tupB K (He.ga K x) ds
  | _ => true
def DefI.dd (d : DefI) : He.DefD := ⟨(d.x, none), d.x, d.x, defArgs d.st, defBody d.st, defScope d.st, [], []⟩
/-- what the head must see of it -/
def PrI.fa (p : PrI) : List He.Fa := .glo "SayError" :: (p.defs.map (fun d => .glo d.x) ++ p.blts.map .free ++ p.csts.map cstFa ++ p.xcs.map (fun c => .glo c.1) ++ p.xcs.map (fun c => .exc c.1) ++ p.xcs.map fun c => .exm c.1 "SayError" true)
def PrI.fn (p : PrI) : List He.DefD := p.defs.map DefI.dd
def BndI (d : DefI) : Prop := ∀ (kV doc pm : Value) (an : Option Addr) (cd ct : Value) (us : List Value), us.length = d.ps.length → bindArgs (PySem.W.fnOf d.x d.x (defArgs d.st) (defBody d.st) (defScope d.st) .none kV doc pm an cd ct) ⟨us, []⟩ = pure (d.ps.zip us)
def BndP (np : List Str) (d : DefI) : Prop := np.contains d.x = true ∨ BndI d
def KbD (d : DefI) (m : Nat) (ks : List Str) (pm : List Nat) : Prop := ∀ (kV doc pm' : Value) (an : Option Addr) (cd ct : Value) (us ws : List Value), us.length = m → ws.length = ks.length → bindArgs (PySem.W.fnOf d.x d.x (defArgs d.st) (defBody d.st) (defScope d.st) .none kV doc pm' an cd ct) ⟨us, ks.zip ws⟩ = pure (d.ps.zip (pick .none pm (us ++ ws)))
def KbI (p : PrI) (q : (Nat × Nat × List Str) × List Nat) : Prop := ∀ d, p.defs[q.1.1]? = some d → KbD d q.1.2.1 q.1.2.2 q.2
def DefI.okB (d : DefI) : Bool := scOk d.N d.ps (defScope d.st) && (d.fm.nl == d.N.length) && (d.fm.np == d.ps.length)
section
variable {K : PySem.W.Frag} {mg : Str → Option Value} {h : Heap} {p : PrI}
theorem lookup_in {x : Str} {j : Nat} : ∀ {l : List (Str × Nat)}, l.lookup x = some j → (x, j) ∈ l
  | [], e => by cases e
  | (y, i) :: r, e => by
    rw [List.lookup_cons] at e
    split at e
    · rename_i q
      cases e
      rw [eq_of_beq q]
      exact List.mem_cons_self
    · exact List.mem_cons_of_mem _ (lookup_in e)
theorem lookup_inG {al be : Type} [BEq al] [LawfulBEq al] {x : al} {j : be} : ∀ {l : List (al × be)}, l.lookup x = some j → (x, j) ∈ l
  | [], e => by cases e
  | (y, i) :: r, e => by
    rw [List.lookup_cons] at e
    split at e
    · rename_i q
      cases e
      rw [eq_of_beq q]
      exact List.mem_cons_self
    · exact List.mem_cons_of_mem _ (lookup_inG e)
theorem ixOf_x {x : Str} {N : List Str} {i : Nat} (h : ixOf x N = some i) : N[i]? = some x := ixOf_get h
theorem left_of {fa : List He.Fa} {fn : List He.DefD} (KX : K.In h) (G : h.Ns mainGlobals mg) (c : He.SaysD fa fn K) (hfa : ∀ f ∈ p.fa, f ∈ fa) (hfn : ∀ d ∈ p.fn, d ∈ fn)
    (hb : ∀ d ∈ p.defs, BndP p.npos d) (hk : ∀ q ∈ p.fks, KbI p q) (hs : p.defs.all DefI.okB = true) (hc : p.csts.all (fun q => cstB q.2) = true) (ht : p.csts.all (cstT K) = true) (sm : (K.lookup sysModules).isSome = true) (tr : ∀ d ∈ p.defs, (defBody d.st).mapM (trS p.T 60 ⟨d.N, defScope d.st, fun _ => true⟩) = some d.fm.body) :
    Left K mg p.T p.P p.ds (He.ga K "SayError") := by
  have F : ∀ f ∈ p.fa, f.ok K = true := fun f hf => c.facts (hfa f hf)
  have mem : ∀ {n : Nat} {d : DefI}, p.ds n = some d → d ∈ p.defs := fun {n d} e => List.mem_of_getElem? e
  have fun_ : ∀ d ∈ p.defs, ∃ fd, FunI K d fd := fun d hd => c.defs (d := d.dd) (hfn _ (List.mem_map.mpr ⟨d, hd, rfl⟩))
  refine ⟨fun n d e => ?_, fun n d e => ?_, fun n d e => ?_, fun n d e => tr d (mem e), fun x n np e => ?_, fun x m ks n pm np e => ?_, fun x e => ?_, fun x n e => ?_, fun x e => ?_, fun x dd e => ?_, ?_, sm⟩
  · exact fun_ d (mem e)
  · refine He.glo_ok KX G (F _ ?_)
    simp only [PrI.fa, List.mem_cons, List.mem_append, List.mem_map]
    exact .inr (.inl (.inl (.inl (.inl (.inl ⟨d, mem e, rfl⟩)))))
  · have := List.all_eq_true.mp hs d (mem e)
    unfold DefI.okB at this
    rw [Bool.and_eq_true, Bool.and_eq_true, beq_iff_eq, beq_iff_eq] at this
    exact ⟨scOk_ok this.1.1, this.1.2, this.2⟩
  · have e' : (if p.npos.contains x = true then none else (ixOf x (p.defs.map DefI.x)).bind fun n => (p.defs[n]?).map fun d => (n, d.ps.length)) = some (n, np) := e
    split at e'
    · cases e'
    · rename_i hn
      obtain ⟨m, e1, e2⟩ := bind_some e'
      obtain ⟨d, e3, e4⟩ := map_some e2
      cases e4
      have z := ixOf_get e1
      rw [List.getElem?_map, e3] at z
      have ex : d.x = x := Option.some.inj z
      refine ⟨d, e3, ex, rfl, fun fd Fu => FunD.bindsN Fu ?_⟩
      rcases hb d (mem e3) with h | h
      · rw [ex] at h; exact absurd h hn
      · exact h
  · obtain ⟨q, e1, e2⟩ := bind_some e
    obtain ⟨d, e3, e4⟩ := bind_some e2
    obtain ⟨pm', e5, e6⟩ := map_some e4
    cases e6
    have z := ixOf_get e1
    rw [List.getElem?_map, e3] at z
    have kb : KbD d m ks pm := hk ((n, m, ks), pm) (lookup_inG e5) d e3
    refine ⟨d, e3, Option.some.inj z, rfl, fun fd Fu => ⟨fun s us ws _ l1 l2 => ?_, fun r1 r2 => vals_pick (r1.append r2) _⟩⟩
    obtain ⟨oc, od, dV, kV, doc, pm2, an, cdv, ct, osl, rfl, lk, hcd, hD, hK⟩ := Fu.ex
    rcases hD with ⟨_, rfl⟩ | ⟨ez, _⟩
    · exact .of_eq (kb kV doc pm2 an cdv ct us ws l1 l2)
    · exact absurd rfl ez
  · refine He.free_ok KX G (F _ ?_)
    simp only [PrI.fa, List.mem_cons, List.mem_append, List.mem_map]
    have e' : p.blts.contains x = true := e
    exact .inr (.inl (.inl (.inl (.inl (.inr ⟨x, List.contains_iff_mem.mp e', rfl⟩)))))
  · have z := ixOf_get (show ixOf x (p.csts.map Prod.fst) = some n from e)
    rw [List.getElem?_map] at z
    obtain ⟨⟨x', d⟩, e3, e4⟩ := Option.map_eq_some_iff.mp z
    cases e4
    have hm := List.mem_of_getElem? e3
    have ok : (cstFa (x', d)).ok K = true := F _ (by
      simp only [PrI.fa, List.mem_cons, List.mem_append, List.mem_map]
      exact .inr (.inl (.inl (.inl (.inr ⟨_, hm, rfl⟩)))))
    have cb := List.all_eq_true.mp hc _ hm
    have hG : p.P.G n = some d := by show (p.csts[n]?).map Prod.snd = some d; rw [e3]; rfl
    cases d with
    | int i =>
      obtain ⟨t, q⟩ := He.int_ok KX G ok
      exact ⟨_, _, .int i, q, ⟨t, rfl⟩, hG, fun M => .int i⟩
    | str y =>
      obtain ⟨t, q⟩ := He.str_ok KX G ok
      exact ⟨_, _, .str y, q, ⟨t, rfl⟩, hG, fun M => .str y⟩
    | tup ds => exact ⟨_, _, .ref _, He.glo_ok KX G ok, rfl, hG, tupB_ok (List.all_eq_true.mp ht _ hm) cb⟩
    | _ => cases cb
  · have e' : (p.xcs.lookup x).isSome = true := e
    obtain ⟨j, ej⟩ := Option.isSome_iff_exists.mp e'
    have hm := lookup_in ej
    have f1 : (He.Fa.glo x).ok K = true := F _ (by
      simp only [PrI.fa, List.mem_cons, List.mem_append, List.mem_map]
      exact .inr (.inl (.inl (.inr ⟨_, hm, rfl⟩))))
    have f2 : (He.Fa.exc x).ok K = true := F _ (by
      simp only [PrI.fa, List.mem_cons, List.mem_append, List.mem_map]
      exact .inr (.inl (.inr ⟨_, hm, rfl⟩)))
    have f3 : (He.Fa.exm x "SayError" true).ok K = true := F _ (by
      simp only [PrI.fa, List.mem_cons, List.mem_append, List.mem_map]
      exact .inr (.inr ⟨_, hm, rfl⟩))
    obtain ⟨q1, q2, q3, q4⟩ := He.exc_ok f2
    exact ⟨_, q1, He.glo_ok KX G f1, q2, q3, q4, He.exm_ok f3⟩
  · obtain ⟨_, e'⟩ := if_some (show (if p.ref = true then (p.xcs.lookup x.c).map (fun j => .tup [.str (refWords.getD j Str.empty)]) else none) = some dd from e)
    obtain ⟨j, ej, _⟩ := map_some e'
    show (p.xcs.lookup x.c).isSome = true
    rw [ej]; rfl
  · exact He.glo_ok KX G (F _ List.mem_cons_self)
end

theorem ref_none {X : Cx} {Pp : Pg} (h : ∀ x, Pp.RF x = none) : RefOk X Pp := by
  intro i n a oe cls d pn p1 p2 p3 p4 _ _ _ _ _ _
  refine ⟨fun pins s σ H D I hq => ?_⟩
  obtain ⟨x, dd, M, _, e, _⟩ := hq
  rw [h x] at e
  cases e
theorem al_n {al : Type} {Q : al → Prop} : ∀ d ∈ ([] : List al), Q d := fun _ h => by cases h
theorem al_c {al : Type} {Q : al → Prop} {a : al} {l : List al} (h : Q a) (t : ∀ d ∈ l, Q d) : ∀ d ∈ a :: l, Q d := List.forall_mem_cons.mpr ⟨h, t⟩
theorem al_a {al : Type} {Q : al → Prop} {l m : List al} (h : ∀ d ∈ l, Q d) (t : ∀ d ∈ m, Q d) : ∀ d ∈ l ++ m, Q d := List.forall_mem_append.mpr ⟨h, t⟩
/-! ### the end of a law -/
theorem law_G {P : Program} {w : World} {K : PySem.W.Frag} {mg : Str → Option Value} {T : Tbl} {Pp : Pg} {ds : Nat → Option DefI} {say : Addr} {k n m : Nat} {d : DefI} {x : Str} (L : Left K mg T Pp ds say) (hd : ds n = some d) (hp : d.ps = [x]) (hB : BndI d)
    (ref : ∀ X : Cx, X.prog = P → X.w = w → X.K = K → X.mg = mg → L2H.RoomH 2 X.A → RefOk X Pp)
    (pure : ∀ ns : List Int, ns.length ≤ m → fnP Pp (tabOf ds) k n [.scr ns] (fun z => z = .val (.bl true)) fun _ => False) :
    ∃ (fd : FuncData) (sp : Sp), (∀ (s : Shared) (u : Value), BindsTo s fd ⟨[u], []⟩ [(x, u)]) ∧
      (∀ (H : Hp) (a : Addr) (ns : List Int), ns.length ≤ m → Only H → SqL K H a (ns.map V.int) → sp [.ref a] H (fun v _ => v = .bl true) fun _ _ _ => False) ∧ ∀ base : Heap, K.In base → base.Ns mainGlobals mg → FnG P w K mg base (3 * k + 3) (He.ga K d.x) fd [x] sp := by
  obtain ⟨fd, Fu⟩ := L.fn n d hd
  refine ⟨fd, spF K mg (fnP Pp (tabOf ds) k) n d.ps.length, fun s u => ?_, fun H a ns hl hO hS => ?_, fun base _ _ => ?_⟩
  · have := FunD.bindsA (ps := d.ps) Fu hB s [u] (by rw [hp]; rfl)
    rw [hp] at this
    exact this
  · refine ⟨by rw [hp]; rfl, ⟨H, fun _ => False⟩, [.scr ns], _, _, ⟨fun _ _ e => e, fun _ z => z.elim⟩, .cons (.scr hS) .nil, pure ns hl, fun v H' M' z _ rr q => ?_, fun _ _ _ _ _ _ _ z => z.elim⟩
    subst q
    cases rr with
    | val rr => cases rr; rfl
  · have := defs_ok (base := base) L (fun X h1 h2 h3 h4 _ => ref X h1 h2 h3 h4) k n d fd hd Fu
    rw [hp] at this ⊢
    exact this
/-! ### the hook: what the head must see, and that nothing of ours stands where the modules do -/
def asY (g : Addr → Option Obj) (n : Nat) : List Addr := He.asD g n ++ [sysModules]
def obsY (n : Nat) (fa : List He.Fa) (fn : List He.DefD) (ex : PySem.W.Frag → Bool) (g : Addr → Option Obj) : He.AlX := (He.obsT fa fn [] (He.frT g (asY g n)), ex (He.frT g (asY g n)))
theorem saysY_of {n : Nat} {fa : List He.Fa} {fn : List He.DefD} {ex : PySem.W.Frag → Bool} {w : World} {h : Heap} (e : obsY n fa fn ex h.get? = He.valX fn [] w) : He.SaysX fa fn [] [] ex w h (He.frT h.get? (asY h.get? n)) :=
  ⟨congrArg (fun z : He.AlX => z.1) e, congrArg (fun z : He.AlX => z.2) e, fun _ hp => absurd hp List.not_mem_nil, fun _ hp => absurd hp List.not_mem_nil, fun _ hp => absurd hp List.not_mem_nil⟩
def hookY (n : Nat) (fa : List He.Fa) (fn : List He.DefD) (ex : PySem.W.Frag → Bool) : PySem.W.Hook where
  α := He.AlX
  obs := fun s => obsY n fa fn ex s.heap.get?
  val := fun w => He.valX fn [] w
  says := fun w h => ∃ K : PySem.W.Frag, K.In h ∧ He.SaysX fa fn [] [] ex w h K
  of := fun _ _ e => ⟨_, He.frT_in, saysY_of e⟩
  keeps := fun _ _ _ ⟨K, hK, c⟩ k => ⟨K, PySem.W.Frag.In.keeps hK k, ⟨c.t, c.more, c.hd, c.out, fun p hp => k _ _ (c.empty p hp)⟩⟩
theorem obsY_eq {n : Nat} {fa : List He.Fa} {fn : List He.DefD} {ex : PySem.W.Frag → Bool} {g : Addr → Option Obj} {s : Shared} (h : ∀ a, g a = s.heap.get? a) : obsY n fa fn ex g = (hookY n fa fn ex).obs s := by
  have e : g = s.heap.get? := funext h
  rw [e] <;> rfl
end PL
set_option maxHeartbeats 3900000
/-! PLv: wishes grow: a piece that comes to Q comes to all that Q gives -/
namespace PL
open PySem
def FMono (F : Fn) : Prop := ∀ (f : Nat) (ds : List D) (Q Q' : R → Prop) (E E' : Xc → Prop), (∀ z, Q z → Q' z) → (∀ x, E x → E' x) → F f ds Q E → F f ds Q' E'
theorem rdV_mono {i : Nat} {r : Env} {Q Q' : R → Env → Prop} (hq : ∀ x r, Q x r → Q' x r) (h : rdV i r Q) : rdV i r Q' := by
  unfold rdV at h ⊢
  split at h
  · exact hq _ _ h
  · exact hq _ _ h
  · exact h
theorem wG_mono_aux : (∀ (g : Tg) (v : R) (r : Env) (k k' : Env → Prop), (∀ r, k r → k' r) → wG g v r k → wG g v r k') := by
  intro g
  induction g using Tg.rec (motive_2 := fun gs => ∀ (ds : List D) (r : Env) (k k' : Env → Prop), (∀ r, k r → k' r) → wGs gs ds r k → wGs gs ds r k') with
  | nm i => intro v r k k' hk h; simp only [wG] at h ⊢; exact ⟨h.1, hk _ h.2⟩
  | tp gs ih =>
    intro v r k k' hk h
    simp only [wG] at h ⊢
    split at h
    · exact ⟨h.1, ih _ _ _ _ hk h.2⟩
    · exact ⟨h.1, ih _ _ _ _ hk h.2⟩
    · exact h
  | star i j =>
    intro v r k k' hk h
    simp only [wG] at h ⊢
    split at h
    · exact ⟨h.1, h.2.1, h.2.2.1, h.2.2.2.1, hk _ h.2.2.2.2⟩
    · exact h
  | nil => 
    rename_i ds r k k' hk h
    cases ds with
    | nil => simp only [wGs] at h ⊢; exact hk _ h
    | cons d ds => simp only [wGs] at h
  | cons g gs ih1 ih2 =>
    rename_i ds r k k' hk h
    cases ds with
    | nil => simp only [wGs] at h
    | cons d ds =>
      simp only [wGs] at h ⊢
      exact ih1 _ _ _ _ (fun r hr => ih2 _ _ _ _ hk hr) h
theorem wG_mono {g : Tg} {v : R} {r : Env} {k k' : Env → Prop} (hk : ∀ r, k r → k' r) (h : wG g v r k) : wG g v r k' := wG_mono_aux g v r k k' hk h
theorem loopP_mono {st st' : D → Env → (Env → Prop) → Prop} {fin fin' : Env → Prop} (hs : ∀ x r k k', (∀ r, k r → k' r) → st x r k → st' x r k') (hf : ∀ r, fin r → fin' r) : ∀ {ds : List D} {r : Env}, loopP st fin ds r → loopP st' fin' ds r
  | [], _, h => hf _ h
  | x :: xs, r, h => hs x r _ _ (fun r' h' => loopP_mono hs hf h') h
theorem lcP_mono {st st' : D → Env → (Option D → Env → Prop) → Prop} {fin fin' : List D → Env → Prop} (hs : ∀ x r k k', (∀ o r, k o r → k' o r) → st x r k → st' x r k') (hf : ∀ a r, fin a r → fin' a r) : ∀ {ds acc : List D} {r : Env}, lcP st fin ds acc r → lcP st' fin' ds acc r
  | [], _, _, h => hf _ _ h
  | x :: xs, acc, r, h => hs x r _ _ (fun o r' h' => by
      cases o with
      | none => exact lcP_mono hs hf h'
      | some y => exact ⟨h'.1, lcP_mono hs hf h'.2⟩) h
section
variable {P : Pg} {F : Fn} (mF : FMono F)
include mF
theorem mono_all : ∀ e : Ex, (∀ (r : Env) (Q Q' : R → Env → Prop) (E E' : Xc → Env → Prop), (∀ x r, Q x r → Q' x r) → (∀ x r, E x r → E' x r) → wE P F e r Q E → wE P F e r Q' E') ∧
    (∀ (r : Env) (Q Q' : Bool → Env → Prop) (E E' : Xc → Env → Prop), (∀ x r, Q x r → Q' x r) → (∀ x r, E x r → E' x r) → wT P F e r Q E → wT P F e r Q' E') := by
  intro e
  have dflt : ∀ {e : Ex} {r : Env} {Q Q' : Bool → Env → Prop} {E E' : Xc → Env → Prop}, (∀ (r : Env) (Q Q' : R → Env → Prop) (E E' : Xc → Env → Prop), (∀ x r, Q x r → Q' x r) → (∀ x r, E x r → E' x r) → wE P F e r Q E → wE P F e r Q' E') → (∀ x r, Q x r → Q' x r) → (∀ x r, E x r → E' x r) →
      wE P F e r (fun x r1 => ∃ k, truD x.d = some k ∧ Q k r1) E → wE P F e r (fun x r1 => ∃ k, truD x.d = some k ∧ Q' k r1) E' := fun {e r Q Q' E E'} he hq hE h => he r _ _ _ _ (fun x r1 ⟨k, h1, h2⟩ => ⟨k, h1, hq _ _ h2⟩) hE h
  induction e using Ex.rec
    (motive_2 := fun it => ∀ (r : Env) (Q Q' : List D → Env → Prop) (E E' : Xc → Env → Prop), (∀ x r, Q x r → Q' x r) → (∀ x r, E x r → E' x r) → wI P F it r Q E → wI P F it r Q' E')
    (motive_3 := fun es => (∀ (r : Env) (Q Q' : List D → Env → Prop) (E E' : Xc → Env → Prop), (∀ x r, Q x r → Q' x r) → (∀ x r, E x r → E' x r) → wEs P F es r Q E → wEs P F es r Q' E') ∧ (∀ (r : Env) (Q Q' : Bool → Env → Prop) (E E' : Xc → Env → Prop), (∀ x r, Q x r → Q' x r) → (∀ x r, E x r → E' x r) → wTs P F es r Q E → wTs P F es r Q' E'))
    (motive_4 := fun o => ∀ (r : Env) (Q Q' : Option Int → Env → Prop) (E E' : Xc → Env → Prop), (∀ x r, Q x r → Q' x r) → (∀ x r, E x r → E' x r) → wO P F o r Q E → wO P F o r Q' E') with
  | var i =>
    have w : ∀ (r : Env) (Q Q' : R → Env → Prop) (E E' : Xc → Env → Prop), (∀ x r, Q x r → Q' x r) → (∀ x r, E x r → E' x r) → wE P F (.var i) r Q E → wE P F (.var i) r Q' E' := fun r Q Q' E E' hq he h => by
      simp only [wE] at h ⊢
      exact rdV_mono hq h
    exact ⟨w, fun r Q Q' E E' hq he h => by simp only [wT] at h ⊢; exact dflt w hq he h⟩
  | cst c =>
    have w : ∀ (r : Env) (Q Q' : R → Env → Prop) (E E' : Xc → Env → Prop), (∀ x r, Q x r → Q' x r) → (∀ x r, E x r → E' x r) → wE P F (.cst c) r Q E → wE P F (.cst c) r Q' E' := fun r Q Q' E E' hq he h => by
      simp only [wE] at h ⊢
      exact hq _ _ h
    exact ⟨w, fun r Q Q' E E' hq he h => by simp only [wT] at h ⊢; exact dflt w hq he h⟩
  | glo x =>
    have w : ∀ (r : Env) (Q Q' : R → Env → Prop) (E E' : Xc → Env → Prop), (∀ x r, Q x r → Q' x r) → (∀ x r, E x r → E' x r) → wE P F (.glo x) r Q E → wE P F (.glo x) r Q' E' := fun r Q Q' E E' hq he h => by
      simp only [wE] at h ⊢
      obtain ⟨d, h1, h2⟩ := h
      exact ⟨d, h1, hq _ _ h2⟩
    exact ⟨w, fun r Q Q' E E' hq he h => by simp only [wT] at h ⊢; exact dflt w hq he h⟩
  | neg a ih =>
    have w : ∀ (r : Env) (Q Q' : R → Env → Prop) (E E' : Xc → Env → Prop), (∀ x r, Q x r → Q' x r) → (∀ x r, E x r → E' x r) → wE P F (.neg a) r Q E → wE P F (.neg a) r Q' E' := fun r Q Q' E E' hq he h => by
      simp only [wE] at h ⊢
      exact ih.1 _ _ _ _ _ (fun x r1 ⟨i, h1, h2⟩ => ⟨i, h1, hq _ _ h2⟩) he h
    exact ⟨w, fun r Q Q' E E' hq he h => by simp only [wT] at h ⊢; exact dflt w hq he h⟩
  | bin o a b ih1 ih2 =>
    have w : ∀ (r : Env) (Q Q' : R → Env → Prop) (E E' : Xc → Env → Prop), (∀ x r, Q x r → Q' x r) → (∀ x r, E x r → E' x r) → wE P F (.bin o a b) r Q E → wE P F (.bin o a b) r Q' E' := fun r Q Q' E E' hq he h => by
      simp only [wE] at h ⊢
      exact ih1.1 _ _ _ _ _ (fun x r1 h1 => ih2.1 _ _ _ _ _ (fun y r2 ⟨z, h2, h3⟩ => ⟨z, h2, hq _ _ h3⟩) he h1) he h
    exact ⟨w, fun r Q Q' E E' hq he h => by simp only [wT] at h ⊢; exact dflt w hq he h⟩
  | cmp o a b ih1 ih2 =>
    have w : ∀ (r : Env) (Q Q' : R → Env → Prop) (E E' : Xc → Env → Prop), (∀ x r, Q x r → Q' x r) → (∀ x r, E x r → E' x r) → wE P F (.cmp o a b) r Q E → wE P F (.cmp o a b) r Q' E' := fun r Q Q' E E' hq he h => by
      simp only [wE] at h ⊢
      exact ih1.1 _ _ _ _ _ (fun x r1 h1 => ih2.1 _ _ _ _ _ (fun y r2 ⟨z, h2, h3⟩ => ⟨z, h2, hq _ _ h3⟩) he h1) he h
    exact ⟨w, fun r Q Q' E E' hq he h => by simp only [wT] at h ⊢; exact dflt w hq he h⟩
  | chn o p a b c ih1 ih2 ih3 =>
    have w : ∀ (r : Env) (Q Q' : R → Env → Prop) (E E' : Xc → Env → Prop), (∀ x r, Q x r → Q' x r) → (∀ x r, E x r → E' x r) → wE P F (.chn o p a b c) r Q E → wE P F (.chn o p a b c) r Q' E' := fun r Q Q' E E' hq he h => by
      simp only [wE] at h ⊢
      refine ih1.1 _ _ _ _ _ (fun x r1 h1 => ih2.1 _ _ _ _ _ (fun y r2 ⟨z, h2, h3⟩ => ⟨z, h2, ?_⟩) he h1) he h
      cases z with
      | true => exact ih3.1 _ _ _ _ _ (fun u r3 ⟨z', h4, h5⟩ => ⟨z', h4, hq _ _ h5⟩) he h3
      | false => exact hq _ _ h3
    exact ⟨w, fun r Q Q' E E' hq he h => by simp only [wT] at h ⊢; exact dflt w hq he h⟩
  | and a b ih1 ih2 =>
    have w : ∀ (r : Env) (Q Q' : R → Env → Prop) (E E' : Xc → Env → Prop), (∀ x r, Q x r → Q' x r) → (∀ x r, E x r → E' x r) → wE P F (.and a b) r Q E → wE P F (.and a b) r Q' E' := fun r Q Q' E E' hq he h => by
      simp only [wE] at h ⊢
      refine ih1.1 _ _ _ _ _ (fun x r1 ⟨k, h1, h2⟩ => ⟨k, h1, ?_⟩) he h
      cases k with
      | true => exact ih2.1 _ _ _ _ _ hq he h2
      | false => exact hq _ _ h2
    exact ⟨w, fun r Q Q' E E' hq he h => by
      simp only [wT] at h ⊢
      refine ih1.2 _ _ _ _ _ (fun k r1 h2 => ?_) he h
      cases k with
      | true => exact ih2.2 _ _ _ _ _ hq he h2
      | false => exact hq _ _ h2⟩
  | or a b ih1 ih2 =>
    have w : ∀ (r : Env) (Q Q' : R → Env → Prop) (E E' : Xc → Env → Prop), (∀ x r, Q x r → Q' x r) → (∀ x r, E x r → E' x r) → wE P F (.or a b) r Q E → wE P F (.or a b) r Q' E' := fun r Q Q' E E' hq he h => by
      simp only [wE] at h ⊢
      refine ih1.1 _ _ _ _ _ (fun x r1 ⟨k, h1, h2⟩ => ⟨k, h1, ?_⟩) he h
      cases k with
      | true => exact hq _ _ h2
      | false => exact ih2.1 _ _ _ _ _ hq he h2
    exact ⟨w, fun r Q Q' E E' hq he h => by
      simp only [wT] at h ⊢
      refine ih1.2 _ _ _ _ _ (fun k r1 h2 => ?_) he h
      cases k with
      | true => exact hq _ _ h2
      | false => exact ih2.2 _ _ _ _ _ hq he h2⟩
  | not a ih =>
    have w : ∀ (r : Env) (Q Q' : R → Env → Prop) (E E' : Xc → Env → Prop), (∀ x r, Q x r → Q' x r) → (∀ x r, E x r → E' x r) → wE P F (.not a) r Q E → wE P F (.not a) r Q' E' := fun r Q Q' E E' hq he h => by
      simp only [wE] at h ⊢
      exact ih.1 _ _ _ _ _ (fun x r1 ⟨k, h1, h2⟩ => ⟨k, h1, hq _ _ h2⟩) he h
    exact ⟨w, fun r Q Q' E E' hq he h => by
      simp only [wT] at h ⊢
      exact ih.2 _ _ _ _ _ (fun k r1 h2 => hq _ _ h2) he h⟩
  | ifx c a b ih1 ih2 ih3 =>
    have w : ∀ (r : Env) (Q Q' : R → Env → Prop) (E E' : Xc → Env → Prop), (∀ x r, Q x r → Q' x r) → (∀ x r, E x r → E' x r) → wE P F (.ifx c a b) r Q E → wE P F (.ifx c a b) r Q' E' := fun r Q Q' E E' hq he h => by
      simp only [wE] at h ⊢
      refine ih1.2 _ _ _ _ _ (fun k r1 h2 => ?_) he h
      cases k with
      | true => exact ih2.1 _ _ _ _ _ hq he h2
      | false => exact ih3.1 _ _ _ _ _ hq he h2
    exact ⟨w, fun r Q Q' E E' hq he h => by simp only [wT] at h ⊢; exact dflt w hq he h⟩
  | tup es ih =>
    have w : ∀ (r : Env) (Q Q' : R → Env → Prop) (E E' : Xc → Env → Prop), (∀ x r, Q x r → Q' x r) → (∀ x r, E x r → E' x r) → wE P F (.tup es) r Q E → wE P F (.tup es) r Q' E' := fun r Q Q' E E' hq he h => by
      simp only [wE] at h ⊢
      exact ih.1 _ _ _ _ _ (fun ds r1 h1 => ⟨h1.1, hq _ _ h1.2⟩) he h
    exact ⟨w, fun r Q Q' E E' hq he h => by simp only [wT] at h ⊢; exact dflt w hq he h⟩
  | lst es ih =>
    have w : ∀ (r : Env) (Q Q' : R → Env → Prop) (E E' : Xc → Env → Prop), (∀ x r, Q x r → Q' x r) → (∀ x r, E x r → E' x r) → wE P F (.lst es) r Q E → wE P F (.lst es) r Q' E' := fun r Q Q' E E' hq he h => by
      simp only [wE] at h ⊢
      exact ih.1 _ _ _ _ _ (fun ds r1 h1 => ⟨h1.1, hq _ _ h1.2⟩) he h
    exact ⟨w, fun r Q Q' E E' hq he h => by simp only [wT] at h ⊢; exact dflt w hq he h⟩
  | dic kvs =>
    have w : ∀ (r : Env) (Q Q' : R → Env → Prop) (E E' : Xc → Env → Prop), (∀ x r, Q x r → Q' x r) → (∀ x r, E x r → E' x r) → wE P F (.dic kvs) r Q E → wE P F (.dic kvs) r Q' E' := fun r Q Q' E E' hq he h => by
      simp only [wE] at h ⊢
      exact ⟨h.1, h.2.1, h.2.2.1, hq _ _ h.2.2.2⟩
    exact ⟨w, fun r Q Q' E E' hq he h => by simp only [wT] at h ⊢; exact dflt w hq he h⟩
  | ix a b ih1 ih2 =>
    have w : ∀ (r : Env) (Q Q' : R → Env → Prop) (E E' : Xc → Env → Prop), (∀ x r, Q x r → Q' x r) → (∀ x r, E x r → E' x r) → wE P F (.ix a b) r Q E → wE P F (.ix a b) r Q' E' := fun r Q Q' E E' hq he h => by
      simp only [wE] at h ⊢
      exact ih1.1 _ _ _ _ _ (fun x r1 h1 => ih2.1 _ _ _ _ _ (fun y r2 ⟨z, h2, h3⟩ => ⟨z, h2, hq _ _ h3⟩) he h1) he h
    exact ⟨w, fun r Q Q' E E' hq he h => by simp only [wT] at h ⊢; exact dflt w hq he h⟩
  | sl a lo hi ih1 ih2 ih3 =>
    have w : ∀ (r : Env) (Q Q' : R → Env → Prop) (E E' : Xc → Env → Prop), (∀ x r, Q x r → Q' x r) → (∀ x r, E x r → E' x r) → wE P F (.sl a lo hi) r Q E → wE P F (.sl a lo hi) r Q' E' := fun r Q Q' E E' hq he h => by
      simp only [wE] at h ⊢
      exact ih1.1 _ _ _ _ _ (fun x r1 h1 => ih2 _ _ _ _ _ (fun l r2 h2 => ih3 _ _ _ _ _ (fun u r3 ⟨z, h3, h4⟩ => ⟨z, h3, hq _ _ h4⟩) he h2) he h1) he h
    exact ⟨w, fun r Q Q' E E' hq he h => by simp only [wT] at h ⊢; exact dflt w hq he h⟩
  | rev a ih =>
    have w : ∀ (r : Env) (Q Q' : R → Env → Prop) (E E' : Xc → Env → Prop), (∀ x r, Q x r → Q' x r) → (∀ x r, E x r → E' x r) → wE P F (.rev a) r Q E → wE P F (.rev a) r Q' E' := fun r Q Q' E E' hq he h => by
      simp only [wE] at h ⊢
      exact ih.1 _ _ _ _ _ (fun x r1 ⟨z, h1, h2⟩ => ⟨z, h1, hq _ _ h2⟩) he h
    exact ⟨w, fun r Q Q' E E' hq he h => by simp only [wT] at h ⊢; exact dflt w hq he h⟩
  | call f es ih =>
    have w : ∀ (r : Env) (Q Q' : R → Env → Prop) (E E' : Xc → Env → Prop), (∀ x r, Q x r → Q' x r) → (∀ x r, E x r → E' x r) → wE P F (.call f es) r Q E → wE P F (.call f es) r Q' E' := fun r Q Q' E E' hq he h => by
      simp only [wE] at h ⊢
      exact ih.1 _ _ _ _ _ (fun ds r1 h1 => mF _ _ _ _ _ _ (fun z hz => hq _ _ hz) (fun x hx => he _ _ hx) h1) he h
    exact ⟨w, fun r Q Q' E E' hq he h => by simp only [wT] at h ⊢; exact dflt w hq he h⟩
  | callk f pm es ks ih1 ih2 =>
    have w : ∀ (r : Env) (Q Q' : R → Env → Prop) (E E' : Xc → Env → Prop), (∀ x r, Q x r → Q' x r) → (∀ x r, E x r → E' x r) → wE P F (.callk f pm es ks) r Q E → wE P F (.callk f pm es ks) r Q' E' := fun r Q Q' E E' hq he h => by
      simp only [wE] at h ⊢
      exact ih1.1 _ _ _ _ _ (fun ds r1 h1 => ⟨h1.1, ih2.1 _ _ _ _ _ (fun zs r2 h2 => ⟨h2.1, mF _ _ _ _ _ _ (fun z hz => hq _ _ hz) (fun x hx => he _ _ hx) h2.2⟩) he h1.2⟩) he h
    exact ⟨w, fun r Q Q' E E' hq he h => by simp only [wT] at h ⊢; exact dflt w hq he h⟩
  | srk f e ih =>
    have w : ∀ (r : Env) (Q Q' : R → Env → Prop) (E E' : Xc → Env → Prop), (∀ x r, Q x r → Q' x r) → (∀ x r, E x r → E' x r) → wE P F (.srk f e) r Q E → wE P F (.srk f e) r Q' E' := fun r Q Q' E E' hq he h => by
      simp only [wE] at h ⊢
      exact ih.1 _ _ _ _ _ (fun x r1 ⟨ds, kf, h1, h2, h3, h4, h5⟩ => ⟨ds, kf, h1, h2, h3, h4, hq _ _ h5⟩) he h
    exact ⟨w, fun r Q Q' E E' hq he h => by simp only [wT] at h ⊢; exact dflt w hq he h⟩
  | bi f es ih =>
    have w : ∀ (r : Env) (Q Q' : R → Env → Prop) (E E' : Xc → Env → Prop), (∀ x r, Q x r → Q' x r) → (∀ x r, E x r → E' x r) → wE P F (.bi f es) r Q E → wE P F (.bi f es) r Q' E' := fun r Q Q' E E' hq he h => by
      simp only [wE] at h ⊢
      exact ih.1 _ _ _ _ _ (fun ds r1 ⟨z, h1, h2⟩ => ⟨z, h1, hq _ _ h2⟩) he h
    exact ⟨w, fun r Q Q' E E' hq he h => by simp only [wT] at h ⊢; exact dflt w hq he h⟩
  | rng a b ih1 ih2 =>
    have w : ∀ (r : Env) (Q Q' : R → Env → Prop) (E E' : Xc → Env → Prop), (∀ x r, Q x r → Q' x r) → (∀ x r, E x r → E' x r) → wE P F (.rng a b) r Q E → wE P F (.rng a b) r Q' E' := fun r Q Q' E E' hq he h => by
      simp only [wE] at h ⊢
      exact ih1.1 _ _ _ _ _ (fun x r1 h1 => ih2.1 _ _ _ _ _ (fun y r2 ⟨i, j, h2, h3, h4, h5, h6, h7, h8, h9⟩ => ⟨i, j, h2, h3, h4, h5, h6, h7, h8, hq _ _ h9⟩) he h1) he h
    exact ⟨w, fun r Q Q' E E' hq he h => by simp only [wT] at h ⊢; exact dflt w hq he h⟩
  | isi a t ih =>
    have w : ∀ (r : Env) (Q Q' : R → Env → Prop) (E E' : Xc → Env → Prop), (∀ x r, Q x r → Q' x r) → (∀ x r, E x r → E' x r) → wE P F (.isi a t) r Q E → wE P F (.isi a t) r Q' E' := fun r Q Q' E E' hq he h => by
      simp only [wE] at h ⊢
      exact ih.1 _ _ _ _ _ (fun x r1 h1 => hq _ _ h1) he h
    exact ⟨w, fun r Q Q' E E' hq he h => by simp only [wT] at h ⊢; exact dflt w hq he h⟩
  | mt m a es ih1 ih2 =>
    have w : ∀ (r : Env) (Q Q' : R → Env → Prop) (E E' : Xc → Env → Prop), (∀ x r, Q x r → Q' x r) → (∀ x r, E x r → E' x r) → wE P F (.mt m a es) r Q E → wE P F (.mt m a es) r Q' E' := fun r Q Q' E E' hq he h => by
      simp only [wE] at h ⊢
      exact ih1.1 _ _ _ _ _ (fun x r1 h1 => ⟨h1.1, ih2.1 _ _ _ _ _ (fun ds r2 ⟨z, h2, h3⟩ => ⟨z, h2, hq _ _ h3⟩) he h1.2⟩) he h
    exact ⟨w, fun r Q Q' E E' hq he h => by simp only [wT] at h ⊢; exact dflt w hq he h⟩
  | mu m i es ih =>
    have w : ∀ (r : Env) (Q Q' : R → Env → Prop) (E E' : Xc → Env → Prop), (∀ x r, Q x r → Q' x r) → (∀ x r, E x r → E' x r) → wE P F (.mu m i es) r Q E → wE P F (.mu m i es) r Q' E' := fun r Q Q' E E' hq he h => by
      simp only [wE] at h ⊢
      exact ⟨h.1, ih.1 _ _ _ _ _ (fun ds r1 ⟨xs, ys, y, h1, h2, h3⟩ => ⟨xs, ys, y, h1, h2, hq _ _ h3⟩) he h.2⟩
    exact ⟨w, fun r Q Q' E E' hq he h => by simp only [wT] at h ⊢; exact dflt w hq he h⟩
  | lenv i =>
    have w : ∀ (r : Env) (Q Q' : R → Env → Prop) (E E' : Xc → Env → Prop), (∀ x r, Q x r → Q' x r) → (∀ x r, E x r → E' x r) → wE P F (.lenv i) r Q E → wE P F (.lenv i) r Q' E' := fun r Q Q' E E' hq he h => by
      simp only [wE] at h ⊢
      unfold lnV at h ⊢
      split at h
      · obtain ⟨n, h1, h2⟩ := h
        exact ⟨n, h1, hq _ _ h2⟩
      · exact hq _ _ h
      · exact h
    exact ⟨w, fun r Q Q' E E' hq he h => by simp only [wT] at h ⊢; exact dflt w hq he h⟩
  | rpv i =>
    have w : ∀ (r : Env) (Q Q' : R → Env → Prop) (E E' : Xc → Env → Prop), (∀ x r, Q x r → Q' x r) → (∀ x r, E x r → E' x r) → wE P F (.rpv i) r Q E → wE P F (.rpv i) r Q' E' := fun r Q Q' E E' hq he h => by
      simp only [wE] at h ⊢
      unfold rpV at h ⊢
      split at h
      · obtain ⟨n, h1, h2⟩ := h
        exact ⟨n, h1, hq _ _ h2⟩
      · exact h
    exact ⟨w, fun r Q Q' E E' hq he h => by simp only [wT] at h ⊢; exact dflt w hq he h⟩
  | potg i =>
    have w : ∀ (r : Env) (Q Q' : R → Env → Prop) (E E' : Xc → Env → Prop), (∀ x r, Q x r → Q' x r) → (∀ x r, E x r → E' x r) → wE P F (.potg i) r Q E → wE P F (.potg i) r Q' E' := fun r Q Q' E E' hq he h => by
      simp only [wE] at h ⊢
      exact ⟨h.1, fun n hn => hq _ _ (h.2 n hn)⟩
    exact ⟨w, fun r Q Q' E E' hq he h => by simp only [wT] at h ⊢; exact dflt w hq he h⟩
  | mkpot e ih =>
    have w : ∀ (r : Env) (Q Q' : R → Env → Prop) (E E' : Xc → Env → Prop), (∀ x r, Q x r → Q' x r) → (∀ x r, E x r → E' x r) → wE P F (.mkpot e) r Q E → wE P F (.mkpot e) r Q' E' := fun r Q Q' E E' hq he h => by
      simp only [wE] at h ⊢
      exact ih.1 _ _ _ _ _ (fun x r1 ⟨n, h1, h2, h3⟩ => ⟨n, h1, h2, hq _ _ h3⟩) he h
    exact ⟨w, fun r Q Q' E E' hq he h => by simp only [wT] at h ⊢; exact dflt w hq he h⟩
  | lc g it cs e ws ih1 ih2 ih3 =>
    have w : ∀ (r : Env) (Q Q' : R → Env → Prop) (E E' : Xc → Env → Prop), (∀ x r, Q x r → Q' x r) → (∀ x r, E x r → E' x r) → wE P F (.lc g it cs e ws) r Q E → wE P F (.lc g it cs e ws) r Q' E' := fun r Q Q' E E' hq he h => by
      simp only [wE] at h ⊢
      refine ih1 _ _ _ _ _ (fun ds r1 h1 => ⟨h1.1, lcP_mono (fun x r2 k k' hk h2 => wG_mono (fun r3 h3 => ih2.2 _ _ _ _ _ (fun b r4 h4 => ?_) (fun _ _ z => z) h3) h2) (fun acc r2 h2 => hq _ _ h2) h1.2⟩) he h
      cases b with
      | true => exact ih3.1 _ _ _ _ _ (fun y r5 h5 => hk _ _ h5) (fun _ _ z => z) h4
      | false => exact hk _ _ h4
    exact ⟨w, fun r Q Q' E E' hq he h => by simp only [wT] at h ⊢; exact dflt w hq he h⟩
  | seq e ih =>
    rename_i r Q Q' E E' hq he h
    simp only [wI] at h ⊢
    refine ih.1 _ _ _ _ _ (fun x r1 h1 => ?_) he h
    split at h1
    · exact hq _ _ h1
    · exact hq _ _ h1
    · exact hq _ _ h1
    · exact h1
  | rng1 a ih =>
    rename_i r Q Q' E E' hq he h
    simp only [wI] at h ⊢
    exact ih.1 _ _ _ _ _ (fun x r1 ⟨j, h1, h2, h3, h4⟩ => ⟨j, h1, h2, h3, hq _ _ h4⟩) he h
  | rng2 a b ih1 ih2 =>
    rename_i r Q Q' E E' hq he h
    simp only [wI] at h ⊢
    exact ih1.1 _ _ _ _ _ (fun x r1 h1 => ih2.1 _ _ _ _ _ (fun y r2 ⟨i, j, h2, h3, h4, h5, h6, h7, h8⟩ => ⟨i, j, h2, h3, h4, h5, h6, h7, hq _ _ h8⟩) he h1) he h
  | zip a b ih1 ih2 =>
    rename_i r Q Q' E E' hq he h
    simp only [wI] at h ⊢
    exact ih1.1 _ _ _ _ _ (fun x r1 h1 => ih2.1 _ _ _ _ _ (fun y r2 ⟨ds, h2, h3⟩ => ⟨ds, h2, hq _ _ h3⟩) he h1) he h
  | nil =>
    exact ⟨fun r Q Q' E E' hq he h => by simp only [wEs] at h ⊢; exact hq _ _ h, fun r Q Q' E E' hq he h => by simp only [wTs] at h ⊢; exact hq _ _ h⟩
  | cons e es ih1 ih2 =>
    refine ⟨fun r Q Q' E E' hq he h => by simp only [wEs] at h ⊢; exact ih1.1 _ _ _ _ _ (fun x r1 h1 => ih2.1 _ _ _ _ _ (fun ds r2 h2 => hq _ _ h2) he h1) he h, fun r Q Q' E E' hq he h => ?_⟩
    cases es with
    | nil => simp only [wTs] at h ⊢; exact ih1.2 _ _ _ _ _ hq he h
    | cons f fs => simp only [wTs] at h
  | none =>
    rename_i r Q Q' E E' hq he h
    simp only [wO] at h ⊢
    exact hq _ _ h
  | some e ih =>
    rename_i r Q Q' E E' hq he h
    simp only [wO] at h ⊢
    exact ih.1 _ _ _ _ _ (fun x r1 ⟨i, h1, h2⟩ => ⟨i, h1, hq _ _ h2⟩) he h
theorem wE_mono {e : Ex} {r : Env} {Q Q' : R → Env → Prop} {E E' : Xc → Env → Prop} (h : wE P F e r Q E) (hq : ∀ x r, Q x r → Q' x r) (he : ∀ x r, E x r → E' x r) : wE P F e r Q' E' := (mono_all mF e).1 r Q Q' E E' hq he h
theorem wT_mono {e : Ex} {r : Env} {Q Q' : Bool → Env → Prop} {E E' : Xc → Env → Prop} (h : wT P F e r Q E) (hq : ∀ x r, Q x r → Q' x r) (he : ∀ x r, E x r → E' x r) : wT P F e r Q' E' := (mono_all mF e).2 r Q Q' E E' hq he h
theorem wI_mono {e : It} {r : Env} {Q Q' : List D → Env → Prop} {E E' : Xc → Env → Prop} (h : wI P F e r Q E) (hq : ∀ x r, Q x r → Q' x r) (he : ∀ x r, E x r → E' x r) : wI P F e r Q' E' := by
  cases e with
  | seq e =>
    simp only [wI] at h ⊢
    refine wE_mono mF h (fun x r1 h1 => ?_) he
    split at h1
    · exact hq _ _ h1
    · exact hq _ _ h1
    · exact hq _ _ h1
    · exact h1
  | rng1 a =>
    simp only [wI] at h ⊢
    exact wE_mono mF h (fun x r1 ⟨j, h1, h2, h3, h4⟩ => ⟨j, h1, h2, h3, hq _ _ h4⟩) he
  | rng2 a b =>
    simp only [wI] at h ⊢
    exact wE_mono mF h (fun x r1 h1 => wE_mono mF h1 (fun y r2 ⟨i, j, h2, h3, h4, h5, h6, h7, h8⟩ => ⟨i, j, h2, h3, h4, h5, h6, h7, hq _ _ h8⟩) he) he
  | zip a b =>
    simp only [wI] at h ⊢
    exact wE_mono mF h (fun x r1 h1 => wE_mono mF h1 (fun y r2 ⟨ds, h2, h3⟩ => ⟨ds, h2, hq _ _ h3⟩) he) he
structure EdLe (D D' : Ed) : Prop where
  nx : ∀ r, D.nx r → D'.nx r
  rt : ∀ z, D.rt z → D'.rt z
  bk : ∀ r, D.bk r → D'.bk r
  ct : ∀ r, D.ct r → D'.ct r
  ex : ∀ x r, D.ex x r → D'.ex x r
theorem whP_mono {c c' : Env → (Bool → Env → Prop) → Prop} {b b' : Env → (Env → Prop) → Prop} {fin fin' : Env → Prop} (hc : ∀ r k k', (∀ x r, k x r → k' x r) → c r k → c' r k') (hb : ∀ r k k', (∀ r, k r → k' r) → b r k → b' r k') (hf : ∀ r, fin r → fin' r) : ∀ {n : Nat} {r : Env}, whP c b fin n r → whP c' b' fin' n r
  | 0, _, h => h
  | n + 1, r, h => hc r _ _ (fun x r1 h1 => by
      cases x with
      | true => exact hb _ _ _ (fun r2 h2 => whP_mono hc hb hf h2) h1
      | false => exact hf _ h1) h
theorem monoS (s : Sm) : ∀ (r : Env) (D D' : Ed), EdLe D D' → wS P F s r D → wS P F s r D' := by
  induction s using Sm.rec (motive_2 := fun ss => ∀ (r : Env) (D D' : Ed), EdLe D D' → wSs P F ss r D → wSs P F ss r D') with
  | asg g e => intro r D D' l h; simp only [wS] at h ⊢; exact wE_mono mF h (fun x r1 h1 => wG_mono l.nx h1) l.ex
  | par2 i j a b => intro r D D' l h; simp only [wS, wEs] at h ⊢; exact wE_mono mF h (fun x r1 h1 => wE_mono mF h1 (fun y r2 ⟨u, v, h2, h3⟩ => ⟨u, v, h2, l.nx _ h3⟩) l.ex) l.ex
  | aug i o e => intro r D D' l h; simp only [wS] at h ⊢; exact rdV_mono (fun x r1 h1 => wE_mono mF h1 (fun y r2 ⟨z, h2, h3⟩ => ⟨z, h2, l.nx _ h3⟩) l.ex) h
  | potp i e => intro r D D' l h; simp only [wS] at h ⊢; exact wE_mono mF h (fun x r1 ⟨m, h1, h2, h3, h4⟩ => ⟨m, h1, h2, h3, l.nx _ h4⟩) l.ex
  | ex e => intro r D D' l h; simp only [wS] at h ⊢; exact wE_mono mF h (fun x r1 h1 => l.nx _ h1) l.ex
  | ret e => intro r D D' l h; simp only [wS] at h ⊢; exact wE_mono mF h (fun x r1 h1 => l.rt _ h1) l.ex
  | retN => intro r D D' l h; simp only [wS] at h ⊢; exact l.rt _ h
  | ife c a b ih1 ih2 =>
    intro r D D' l h; simp only [wS] at h ⊢
    refine wT_mono mF h (fun k r1 h1 => ?_) l.ex
    cases k with
    | true => exact ih1 _ _ _ l h1
    | false => exact ih2 _ _ _ l h1
  | fo g it b ih =>
    intro r D D' l h; simp only [wS] at h ⊢
    refine wI_mono mF h (fun ds r1 h1 => ?_) l.ex
    refine loopP_mono (fun x r2 k k' hk h2 => ?_) l.nx h1
    refine wG_mono (fun r3 h3 => ?_) h2
    refine ih _ _ _ ?_ h3
    exact ⟨hk, l.rt, l.nx, hk, l.ex⟩
  | whil c b ih =>
    intro r D D' l h; simp only [wS] at h ⊢
    obtain ⟨n, h⟩ := h
    refine ⟨n, whP_mono mF (fun r k k' hk h1 => ?_) (fun r k k' hk h1 => ?_) l.nx h⟩
    · exact wT_mono mF h1 hk l.ex
    · refine ih _ _ _ ?_ h1
      exact ⟨hk, l.rt, l.nx, hk, l.ex⟩
  | pas => intro r D D' l h; simp only [wS] at h ⊢; exact l.nx _ h
  | brk => intro r D D' l h; simp only [wS] at h ⊢; exact l.bk _ h
  | cnt => intro r D D' l h; simp only [wS] at h ⊢; exact l.ct _ h
  | rais x => intro r D D' l h; simp only [wS] at h ⊢; exact l.ex _ _ h
  | tryr i b ih =>
    intro r D D' l h; simp only [wS] at h ⊢
    refine ih _ _ _ ?_ h
    exact ⟨l.nx, l.rt, l.bk, l.ct, fun x r1 ⟨h1, d, h2, h3⟩ => ⟨h1, d, h2, l.rt _ h3⟩⟩
  | nil =>
    rename_i r D D' l h
    simp only [wSs] at h ⊢; exact l.nx _ h
  | cons s ss ih1 ih2 =>
    rename_i r D D' l h
    simp only [wSs] at h ⊢
    refine ih1 _ _ _ ?_ h
    exact ⟨fun r1 h1 => ih2 _ _ _ l h1, l.rt, l.bk, l.ct, l.ex⟩
theorem monoSs : ∀ (ss : List Sm) {r : Env} {D D' : Ed}, EdLe D D' → wSs P F ss r D → wSs P F ss r D'
  | [], r, D, D', l, h => by simp only [wSs] at h ⊢; exact l.nx _ h
  | s :: ss, r, D, D', l, h => by
    simp only [wSs] at h ⊢
    refine monoS mF s _ _ _ ?_ h
    exact ⟨fun r1 h1 => monoSs ss l h1, l.rt, l.bk, l.ct, l.ex⟩
end
theorem fnP_mono (P : Pg) (T : Nat → Option Fd) : ∀ k, FMono (fnP P T k)
  | 0 => fun _ _ _ _ _ _ _ _ h => h.elim
  | k + 1 => fun f ds Q Q' E E' hq he h => by
    simp only [fnP] at h ⊢
    split at h
    · refine ⟨h.1, monoSs (fnP_mono P T k) _ ?_ h.2⟩
      exact ⟨fun _ h1 => hq _ h1, hq, fun _ z => z, fun _ z => z, fun x _ h1 => he x h1⟩
    · exact h
/-! ### steps -/
section
variable {P : Pg} {F : Fn} {r : Env} {Dn : Ed} {ss : List Sm}
theorem p_nil (h : Dn.nx r) : wSs P F [] r Dn := by simp only [wSs]; exact h
/-- name = e -/
theorem p_asg (mF : FMono F) {g : Tg} {e : Ex} (Q : R → Env → Prop) (he : wE P F e r Q fun _ _ => False) (h : ∀ x r1, Q x r1 → wG g x r1 fun r2 => wSs P F ss r2 Dn) : wSs P F (.asg g e :: ss) r Dn := by
  simp only [wSs, wS]
  exact wE_mono mF he h fun _ _ z => z.elim
theorem p_ret (mF : FMono F) {e : Ex} (Q : R → Env → Prop) (he : wE P F e r Q fun _ _ => False) (h : ∀ x r1, Q x r1 → Dn.rt x) : wSs P F (.ret e :: ss) r Dn := by
  simp only [wSs, wS]
  exact wE_mono mF he h fun _ _ z => z.elim
theorem p_ex (mF : FMono F) {e : Ex} (Q : R → Env → Prop) (he : wE P F e r Q fun _ _ => False) (h : ∀ x r1, Q x r1 → wSs P F ss r1 Dn) : wSs P F (.ex e :: ss) r Dn := by
  simp only [wSs, wS]
  exact wE_mono mF he h fun _ _ z => z.elim
theorem p_ift (mF : FMono F) {c : Ex} {a b : List Sm} {r' : Env} (hc : wT P F c r (fun k r1 => k = true ∧ r1 = r') fun _ _ => False) (h : wSs P F a r' { Dn with nx := fun r1 => wSs P F ss r1 Dn }) : wSs P F (.ife c a b :: ss) r Dn := by
  simp only [wSs, wS]
  refine wT_mono mF hc (fun k r1 h1 => ?_) fun _ _ z => z.elim
  obtain ⟨rfl, rfl⟩ := h1
  exact h
theorem p_iff (mF : FMono F) {c : Ex} {a b : List Sm} {r' : Env} (hc : wT P F c r (fun k r1 => k = false ∧ r1 = r') fun _ _ => False) (h : wSs P F b r' { Dn with nx := fun r1 => wSs P F ss r1 Dn }) : wSs P F (.ife c a b :: ss) r Dn := by
  simp only [wSs, wS]
  refine wT_mono mF hc (fun k r1 h1 => ?_) fun _ _ z => z.elim
  obtain ⟨rfl, rfl⟩ := h1
  exact h
/-- if not c: on with the rest -/
theorem p_skip (mF : FMono F) {c : Ex} {a : List Sm} {r' : Env} (hc : wT P F c r (fun k r1 => k = false ∧ r1 = r') fun _ _ => False) (h : wSs P F ss r' Dn) : wSs P F (.ife c a [] :: ss) r Dn := p_iff mF hc (p_nil h)
/-- a loop, by what holds ahead of each turn -/
theorem p_loop {step : D → Env → (Env → Prop) → Prop} {fin : Env → Prop} (I : Env → Prop) : ∀ {ds : List D} {r : Env}, I r → (∀ x ∈ ds, ∀ r k, I r → (∀ r', I r' → k r') → step x r k) → (∀ r, I r → fin r) → loopP step fin ds r
  | [], r, h, _, hf => hf r h
  | x :: xs, r, h, hs, hf => hs x List.mem_cons_self r _ h fun r' h' => p_loop I h' (fun y hy => hs y (List.mem_cons_of_mem _ hy)) hf
theorem p_for (mF : FMono F) {g : Tg} {it : It} {b : List Sm} (Q : List D → Env → Prop) (I : Env → Prop) (hi : wI P F it r Q fun _ _ => False) (h0 : ∀ ds r1, Q ds r1 → I r1)
    (hs : ∀ ds r0, Q ds r0 → ∀ x ∈ ds, ∀ r1, I r1 → ∀ k : Env → Prop, (∀ r', I r' → k r') → wG g (.val x) r1 fun r2 => wSs P F b r2 { Dn with nx := k, ct := k, bk := fun r3 => wSs P F ss r3 Dn }) (hf : ∀ r1, I r1 → wSs P F ss r1 Dn) : wSs P F (.fo g it b :: ss) r Dn := by
  simp only [wSs, wS]
  refine wI_mono mF hi (fun ds r1 hq => ?_) fun _ _ z => z.elim
  exact p_loop I (h0 ds r1 hq) (fun x hx r2 k h2 hk => hs ds r1 hq x hx r2 h2 k hk) hf
end
end PL
set_option maxHeartbeats 3900000
/-! PLw: small steps of reckoning -/
namespace PL
open PySem
theorem at_0 {al : Type} {x : al} {xs : List al} : L2.atI (x :: xs) 0 = some x := L2.atI_nat (j := 0) rfl
theorem at_1 {al : Type} {x y : al} {xs : List al} : L2.atI (x :: y :: xs) 1 = some y := L2.atI_nat (j := 1) rfl
theorem at_2 {al : Type} {x y z : al} {xs : List al} : L2.atI (x :: y :: z :: xs) 2 = some z := L2.atI_nat (j := 2) rfl
theorem at_lt {al : Type} {xs : List al} {i : Int} (h0 : 0 ≤ i) (h1 : i < xs.length) : ∃ x, x ∈ xs ∧ L2.atI xs i = some x := by
  obtain ⟨j, rfl⟩ := Int.eq_ofNat_of_zero_le h0
  have hj : j < xs.length := by exact Int.ofNat_lt.mp h1
  exact ⟨xs[j], List.getElem_mem hj, L2.atI_nat (List.getElem?_eq_getElem hj)⟩
theorem d_val (d : D) : (R.val d).d = d := rfl
theorem d_own (d : List D) : (R.own d).d = .lst d := rfl
theorem tru_bl (b : Bool) : truD (.bl b) = some b := rfl
theorem tru_non : truD .non = some false := rfl
theorem tru_int (i : Int) : truD (.int i) = some (i != 0) := rfl
theorem tru_lst (xs : List D) : truD (.lst xs) = some (!xs.isEmpty) := rfl
theorem tru_tup (xs : List D) : truD (.tup xs) = some (!xs.isEmpty) := rfl
theorem ix_l (xs : List D) (i : Int) : ixD (.lst xs) (.int i) = L2.atI xs i := rfl
theorem ix_t (xs : List D) (i : Int) : ixD (.tup xs) (.int i) = L2.atI xs i := rfl
theorem op_add (i j : Int) : opD .add (.int i) (.int j) = some (.val (.int (i + j))) := rfl
theorem op_sub (i j : Int) : opD .sub (.int i) (.int j) = some (.val (.int (i - j))) := rfl
theorem op_mod {i j : Int} (h : 0 < j) : opD .mod (.int i) (.int j) = some (.val (.int (i % j))) := if_pos h
theorem op_div {i j : Int} (h : 0 < j) (h2 : j < 2 ^ 64) : opD .fdiv (.int i) (.int j) = some (.val (.int (i / j))) := if_pos ⟨h, h2⟩
theorem op_mulr {i j : Int} (h : -(2 ^ 64) < j ∧ j < 2 ^ 64) : opD .mul (.int i) (.int j) = some (.val (.int (i * j))) := if_pos (.inr h)
theorem op_mull {i j : Int} (h : -(2 ^ 64) < i ∧ i < 2 ^ 64) : opD .mul (.int i) (.int j) = some (.val (.int (i * j))) := if_pos (.inl h)
theorem cm_lt (i j : Int) : cmD .lt (.int i) (.int j) = some (decide (i < j)) := rfl
theorem cm_le (i j : Int) : cmD .le (.int i) (.int j) = some (decide (i ≤ j)) := rfl
theorem cm_gt (i j : Int) : cmD .gt (.int i) (.int j) = some (decide (j < i)) := rfl
theorem cm_ge (i j : Int) : cmD .ge (.int i) (.int j) = some (decide (j ≤ i)) := rfl
theorem rd_val {i : Nat} {r : Env} {Q : R → Env → Prop} {d : D} (h : r[i]? = some (some (.val d))) : rdV i r Q = Q (.val d) r := by unfold rdV; rw [h]
theorem rd_own {i : Nat} {r : Env} {Q : R → Env → Prop} {ds : List D} (h : r[i]? = some (some (.own ds))) : rdV i r Q = Q (.val (.lst ds)) (r.set i (some (.val (.lst ds)))) := by unfold rdV; rw [h]
theorem cut_1 {x : D} {xs : List D} : cutD (x :: xs) (some 1) none = xs := by
  unfold cutD
  have e : HT.sIx (x :: xs).length 0 (some 1) = 1 := by
    have z := HT.sIx_nat (x :: xs).length 0 1
    rw [List.length_cons] at z ⊢
    exact z.trans (by omega)
  rw [e, HT.sIx_none]
  show (xs.take (xs.length + 1 - 1)) = xs
  rw [Nat.add_sub_cancel, List.take_length]
section
variable {P : Pg} {F : Fn} {r : Env} {Dn : Ed} {ss : List Sm} {E : Xc → Env → Prop}
theorem q_cmp {o : Cm} {i : Nat} {c d : D} {b : Bool} (h1 : r[i]? = some (some (.val d))) (h2 : cmD o d c = some b) : wT P F (.cmp o (.var i) (.cst c)) r (fun k r1 => k = b ∧ r1 = r) E := by
  simp only [wT, wE, rdV, h1, R.d, truD]
  exact ⟨b, h2, b, rfl, rfl, True.intro⟩
theorem q_in2 {o : Cm} {i : Nat} {c1 c2 d : D} {b : Bool} (h1 : r[i]? = some (some (.val d))) (h2 : cmD o d (.tup [c1, c2]) = some b) : wT P F (.cmp o (.var i) (.tup [.cst c1, .cst c2])) r (fun k r1 => k = b ∧ r1 = r) E := by
  simp only [wT, wE, wEs, rdV, h1, R.d, truD]
  exact ⟨by show 2 ≤ lim; decide, _, h2, _, rfl, rfl, True.intro⟩
theorem q_and {a b : Ex} {r' : Env} {k : Bool} {r'' : Env} (mF : FMono F) (ha : wT P F a r (fun k r1 => k = true ∧ r1 = r') E) (hb : wT P F b r' (fun k' r1 => k' = k ∧ r1 = r'') E) : wT P F (.and a b) r (fun k' r1 => k' = k ∧ r1 = r'') E := by
  simp only [wT]
  refine wT_mono mF ha (fun k r1 h => ?_) fun _ _ z => z
  obtain ⟨rfl, rfl⟩ := h
  exact hb
theorem q_andf {a b : Ex} {r' : Env} (mF : FMono F) (ha : wT P F a r (fun k r1 => k = false ∧ r1 = r') E) : wT P F (.and a b) r (fun k' r1 => k' = false ∧ r1 = r') E := by
  simp only [wT]
  refine wT_mono mF ha (fun k r1 h => ?_) fun _ _ z => z
  obtain ⟨rfl, rfl⟩ := h
  simp
theorem q_or {a b : Ex} {r' : Env} {k : Bool} {r'' : Env} (mF : FMono F) (ha : wT P F a r (fun k r1 => k = false ∧ r1 = r') E) (hb : wT P F b r' (fun k' r1 => k' = k ∧ r1 = r'') E) : wT P F (.or a b) r (fun k' r1 => k' = k ∧ r1 = r'') E := by
  simp only [wT]
  refine wT_mono mF ha (fun k r1 h => ?_) fun _ _ z => z
  obtain ⟨rfl, rfl⟩ := h
  exact hb
theorem q_ort {a b : Ex} {r' : Env} (mF : FMono F) (ha : wT P F a r (fun k r1 => k = true ∧ r1 = r') E) : wT P F (.or a b) r (fun k' r1 => k' = true ∧ r1 = r') E := by
  simp only [wT]
  refine wT_mono mF ha (fun k r1 h => ?_) fun _ _ z => z
  obtain ⟨rfl, rfl⟩ := h
  simp
theorem q_not {a : Ex} {r' : Env} {k : Bool} (mF : FMono F) (ha : wT P F a r (fun k' r1 => k' = k ∧ r1 = r') E) : wT P F (.not a) r (fun k' r1 => k' = (!k) ∧ r1 = r') E := by
  simp only [wT]
  refine wT_mono mF ha (fun k r1 h => ?_) fun _ _ z => z
  obtain ⟨rfl, rfl⟩ := h
  exact ⟨rfl, rfl⟩
/-- word, *rest = thing -/
theorem p_star {i a b : Nat} {d : D} {ds : List D} (h1 : r[i]? = some (some (.val (.tup (d :: ds))))) (ha : a < r.length) (hb : b < r.length) (hab : a ≠ b) (hd : ds.length < 16000) (h : wSs P F ss ((r.set a (some (.val d))).set b (some (.own ds))) Dn) : wSs P F (.asg (.star a b) (.var i) :: ss) r Dn := by
  simp only [wSs, wS, wE, rdV, h1, wG, R.d]
  exact ⟨ha, hb, hab, hd, h⟩
/-- word = thing[0] -/
theorem p_ix0 {i j : Nat} {d : D} {ds : List D} (h1 : r[i]? = some (some (.val (.tup (d :: ds))))) (hj : j < r.length) (h : wSs P F ss (r.set j (some (.val d))) Dn) : wSs P F (.asg (.nm j) (.ix (.var i) (.cst (.int 0))) :: ss) r Dn := by
  simp only [wSs, wS, wE, rdV, h1, wG, R.d, ixD, at_0]
  exact ⟨d, rfl, hj, h⟩
theorem p_retb (mF : FMono F) {e : Ex} {x : R} (he : wE P F e r (fun z _ => z = x) fun _ _ => False) (h : Dn.rt x) : wSs P F (.ret e :: ss) r Dn := p_ret mF _ he fun z r1 hz => by rw [hz]; exact h
end
end PL
set_option maxHeartbeats 3900000
/-! PLx: comprehensions by what they come to; data that are equal -/
namespace PL
open PySem
section
variable {st : D → Env → (Option D → Env → Prop) → Prop} {fin : List D → Env → Prop} {r : Env}
theorem lc_fm (g : D → Option D) : ∀ {ds acc : List D}, acc.length + ds.length ≤ lim → (∀ x ∈ ds, ∀ k : Option D → Env → Prop, k (g x) r → st x r k) → fin (acc ++ ds.filterMap g) r → lcP st fin ds acc r
  | [], acc, _, _, h => by simpa [lcP] using h
  | x :: xs, acc, hl, hs, h => by
    simp only [lcP]
    refine hs x List.mem_cons_self _ ?_
    rw [List.length_cons] at hl
    cases e : g x with
    | none =>
      rw [List.filterMap_cons_none e] at h
      exact lc_fm g (by omega) (fun y hy => hs y (List.mem_cons_of_mem _ hy)) h
    | some y =>
      rw [List.filterMap_cons_some e] at h
      exact ⟨by omega, lc_fm g (by simp; omega) (fun y hy => hs y (List.mem_cons_of_mem _ hy)) (by simpa using h)⟩
theorem lc_map (f : D → D) {ds : List D} (hl : ds.length ≤ lim) (hs : ∀ x ∈ ds, ∀ k : Option D → Env → Prop, k (some (f x)) r → st x r k) (h : fin (ds.map f) r) : lcP st fin ds [] r :=
  lc_fm (fun x => some (f x)) (by simpa using hl) hs (by rw [List.filterMap_eq_map']; simpa using h)
/-- each item is any of some -/
theorem lc_draw (Pd : D → Prop) : ∀ {ds acc : List D}, acc.length + ds.length ≤ lim → (∀ x ∈ ds, ∀ k : Option D → Env → Prop, (∀ y, Pd y → k (some y) r) → st x r k) → (∀ ys : List D, ys.length = ds.length → (∀ y ∈ ys, Pd y) → fin (acc ++ ys) r) → lcP st fin ds acc r
  | [], acc, _, _, h => by simpa [lcP] using h [] rfl (by simp)
  | x :: xs, acc, hl, hs, h => by
    simp only [lcP]
    rw [List.length_cons] at hl
    refine hs x List.mem_cons_self _ fun y hy => ⟨by omega, lc_draw Pd (by simp; omega) (fun z hz => hs z (List.mem_cons_of_mem _ hz)) fun ys h1 h2 => ?_⟩
    have := h (y :: ys) (by simp [h1]) (by simpa [hy] using h2)
    simpa using this
/-- by what holds of the rest, of what is made, of the slots -/
theorem lc_inv (I : List D → List D → Env → Prop) : ∀ {ds acc : List D} {r : Env}, I ds acc r → (∀ x xs acc r, I (x :: xs) acc r → ∀ k : Option D → Env → Prop, (∀ y r', acc.length < lim ∧ I xs (acc ++ [y]) r' → k (some y) r') → (∀ r', I xs acc r' → k none r') → st x r k) → (∀ acc r, I [] acc r → fin acc r) → lcP st fin ds acc r
  | [], acc, r, h, _, hf => by simp only [lcP]; exact hf acc r h
  | x :: xs, acc, r, h, hs, hf => by
    simp only [lcP]
    exact hs x xs acc r h _ (fun y r' hy => ⟨hy.1, lc_inv I hy.2 hs hf⟩) fun r' h' => lc_inv I h' hs hf
end
/-! ### numbers -/
theorem op_pow {i j : Int} (h : 0 ≤ j ∧ j ≤ 1000000 ∧ i.natAbs < 2 ^ 64) : opD .pow (.int i) (.int j) = some (.val (.int (i ^ j.toNat))) := if_pos h
theorem p9 : opD .pow (.int 10) (.int 9) = some (.val (.int 1000000000)) := by rw [op_pow (by decide)]; rfl
theorem p10 : opD .pow (.int 10) (.int 10) = some (.val (.int 10000000000)) := by rw [op_pow (by decide)]; rfl
theorem p11 : opD .pow (.int 10) (.int 11) = some (.val (.int 100000000000)) := by rw [op_pow (by decide)]; rfl
theorem p18 : opD .pow (.int 10) (.int 18) = some (.val (.int 1000000000000000000)) := by rw [op_pow (by decide)]; rfl
theorem op_addl {xs ys : List D} (h : xs.length + ys.length ≤ lim) : opD .add (.lst xs) (.lst ys) = some (.own (xs ++ ys)) := by
  simp only [opD, addD]; rw [if_pos h]
theorem op_addt {xs ys : List D} (h : xs.length + ys.length ≤ lim) : opD .add (.tup xs) (.tup ys) = some (.val (.tup (xs ++ ys))) := by
  simp only [opD, addD]; rw [if_pos h]
theorem op_adds {xs ys : Str} (h : xs.length + ys.length ≤ lim) : opD .add (.str xs) (.str ys) = some (.val (.str (xs ++ ys))) := by
  simp only [opD, addD]; rw [if_pos h]
theorem rng_mem {lo : Int} {n : Nat} {d : D} (h : d ∈ rngD lo n) : ∃ j : Int, lo ≤ j ∧ j < lo + n ∧ d = .int j := by
  unfold rngD at h
  obtain ⟨i, hi, rfl⟩ := List.mem_map.mp h
  have := List.mem_range.mp hi
  exact ⟨lo + i, by omega, by omega, rfl⟩
theorem rng_len (lo : Int) (n : Nat) : (rngD lo n).length = n := by unfold rngD; simp
theorem mem_at {xs : List D} {i : Int} {Q : D → Prop} (h0 : 0 ≤ i) (h1 : i < xs.length) (h : ∀ x ∈ xs, Q x) : ∃ z, L2.atI xs i = some z ∧ Q z := by
  obtain ⟨x, hx, e⟩ := at_lt h0 h1
  exact ⟨x, e, h x hx⟩
theorem len_l (xs : List D) : lenD (.lst xs) = some xs.length := rfl
theorem len_t (xs : List D) : lenD (.tup xs) = some xs.length := rfl
theorem len_sc (xs : List Int) : lenD (.scr xs) = some xs.length := rfl
theorem bi_ln (x : D) : biD .len [x] = (lenD x).map fun (n : Nat) => R.val (.int (n : Int)) := rfl
theorem bi_abs (i : Int) : biD .abs [.int i] = some (.val (.int (if i < 0 then -i else i))) := rfl
theorem bi_max (i j : Int) : biD .max [.int i, .int j] = some (.val (.int (if j > i then j else i))) := rfl
theorem bi_min (i j : Int) : biD .min [.int i, .int j] = some (.val (.int (if j < i then j else i))) := rfl
theorem bi_listl (xs : List D) : biD .list [.lst xs] = some (.own xs) := rfl
theorem bi_listt (xs : List D) : biD .list [.tup xs] = some (.own xs) := rfl
theorem bi_tupl (xs : List D) : biD .tuple [.lst xs] = some (.val (.tup xs)) := rfl
theorem bi_tupt (xs : List D) : biD .tuple [.tup xs] = some (.val (.tup xs)) := rfl
theorem bi_intb (b : Bool) : biD .int [.bl b] = some (.val (.int (if b then 1 else 0))) := rfl
theorem bi_inti (i : Int) : biD .int [.int i] = some (.val (.int i)) := rfl
theorem bools_map : ∀ bs : List Bool, boolsD (bs.map D.bl) = some bs
  | [] => rfl
  | b :: bs => by rw [List.map_cons, boolsD, bools_map bs]; rfl
theorem bi_all (bs : List Bool) : biD .all [.lst (bs.map D.bl)] = some (.val (.bl (bs.all id))) := by
  show (boolsD (bs.map D.bl)).map _ = _
  rw [bools_map]; rfl
theorem sl_l (xs : List D) (lo hi : Option Int) : slD (.lst xs) lo hi = some (.own (cutD xs lo hi)) := rfl
theorem sl_t (xs : List D) (lo hi : Option Int) : slD (.tup xs) lo hi = some (.val (.tup (cutD xs lo hi))) := rfl
theorem is_non (x : D) : isD x .non = some (match x with | .non => true | _ => false) := by cases x <;> rfl
theorem is_bl (a b : Bool) : isD (.bl a) (.bl b) = some (a == b) := rfl
theorem cm_is (x y : D) : cmD .is x y = isD x y := rfl
theorem cm_isnot (x y : D) : cmD .isnot x y = (isD x y).map not := rfl
theorem it_lst {xs : List D} {Q : List D → Env → Prop} {r1 : Env} : (match D.lst xs with | .lst ds => Q ds r1 | .tup ds => Q ds r1 | .str x => Q (sgnD x) r1 | _ => False) = Q xs r1 := rfl
theorem ixn_nat {n j : Nat} (hj : j < n) : L2.ixN n (j : Int) = some j := by
  unfold L2.ixN
  rw [if_pos (by omega), if_pos (by omega)]
  simp
theorem erase_map {al be : Type} (f : al → be) : ∀ (l : List al) (j : Nat), (l.map f).eraseIdx j = (l.eraseIdx j).map f
  | [], _ => by simp
  | x :: l, 0 => by simp
  | x :: l, j + 1 => by simp [erase_map f l j]
theorem erase_perm {al : Type} : ∀ {l : List al} {j : Nat} (h : j < l.length), (l[j] :: l.eraseIdx j).Perm l
  | x :: l, 0, _ => by simp
  | x :: l, j + 1, h => by
    have := erase_perm (l := l) (j := j) (by simpa using h)
    simp only [List.getElem_cons_succ, List.eraseIdx_cons_succ]
    exact (List.Perm.swap x _ _).trans (this.cons x)
theorem cut_to {xs : List D} (n : Nat) : cutD xs none (some (n : Int)) = xs.take n := by
  unfold cutD
  rw [HT.sIx_none, HT.sIx_nat, List.drop_zero, Nat.sub_zero]
  by_cases h : n ≤ xs.length
  · rw [Nat.min_eq_left h]
  · rw [Nat.min_eq_right (by omega), List.take_length, List.take_of_length_le (by omega)]
theorem cut_from {xs : List D} (n : Nat) : cutD xs (some (n : Int)) none = xs.drop n := by
  unfold cutD
  rw [HT.sIx_none, HT.sIx_nat]
  by_cases h : n ≤ xs.length
  · rw [Nat.min_eq_left h, List.take_of_length_le (by rw [List.length_drop]; omega)]
  · rw [Nat.min_eq_right (by omega), List.drop_length, List.drop_of_length_le (by omega), List.take_nil]
theorem cut_last {xs : List D} : cutD xs none (some (-1)) = xs.dropLast := by
  unfold cutD
  have e : HT.sIx xs.length xs.length (some (-1)) = xs.length - 1 := by
    show (if (-1 : Int) < 0 then ((-1 : Int) + (xs.length : Int)).toNat else min (-1 : Int).toNat xs.length) = _
    rw [if_pos (by decide)]; omega
  rw [HT.sIx_none, e, List.drop_zero, Nat.sub_zero, List.dropLast_eq_take]
theorem dropLast_map {al be : Type} (f : al → be) (l : List al) : (l.map f).dropLast = l.dropLast.map f := by
  rw [List.dropLast_eq_take, List.dropLast_eq_take, List.length_map, List.map_take]
/-! ### equal data -/
theorem eqD_int (a b : Int) : eqD (.int a) (.int b) = some (decide (a = b)) := by
  have h1 : ∀ a, SeqAt.shaped (toPy (.int a)) = true := fun a => by unfold toPy; rfl
  have h2 : ∀ a : Int, PL.plain (.int a) = true := fun a => by unfold PL.plain; rfl
  show eqG _ _ = _
  unfold eqG
  rw [if_pos ⟨h2 a, h2 b, h1 a, h1 b⟩]
  unfold toPy
  first | rfl | (unfold PyData.eqv; rfl) | (simp [PyData.eqv])
theorem cm_eqi (a b : Int) : cmD .eq (.int a) (.int b) = some (decide (a = b)) := eqD_int a b
theorem cm_nei (a b : Int) : cmD .ne (.int a) (.int b) = some (!decide (a = b)) := by simp only [cmD, eqD_int, Option.map_some]
/-- data that == takes -/
def okE (x : D) : Prop := plain x = true ∧ SeqAt.shaped (toPy x) = true
theorem eqD_ok {x y : D} (hx : okE x) (hy : okE y) : eqD x y = some (PyData.eqv (toPy x) (toPy y)) := by
  unfold eqD
  split
  · unfold toPy
    simp only [PyData.eqv]
    rw [Option.some.injEq, Bool.eq_iff_iff]
    simp
  · rename_i xs
    cases xs <;> simp [toPy, toPys, PyData.eqv, PyData.eqvAll]
  · rename_i xs
    cases xs <;> simp [toPy, toPys, PyData.eqv, PyData.eqvAll]
  · exact if_pos ⟨hx.1, hy.1, hx.2, hy.2⟩
theorem cm_eqs (a b : Str) : cmD .eq (.str a) (.str b) = some (decide (a = b)) := rfl
theorem cm_nes (a b : Str) : cmD .ne (.str a) (.str b) = some (!decide (a = b)) := rfl
theorem eqD_same {x : D} (hx : okE x) : eqD x x = some true := by
  rw [eqD_ok hx hx, SeqAt.eqv_refl _ (SeqAt.canLay_of_shaped hx.2)]
theorem cm_eqS {x : D} (hx : okE x) : cmD .eq x x = some true := eqD_same hx
theorem cm_neS {x : D} (hx : okE x) : cmD .ne x x = some false := by simp only [cmD, eqD_same hx, Option.map_some, Bool.not_true]
mutual
theorem plainR_of : ∀ {d : D}, plain d = true → plainR d = true
  | .non, _ => by unfold plainR; rfl
  | .bl _, _ => by unfold plainR; rfl
  | .int _, _ => by unfold plainR; rfl
  | .str _, _ => by unfold plainR; rfl
  | .lst xs, h => by unfold PL.plain at h; unfold plainR; exact plainRs_of h
  | .tup xs, h => by unfold PL.plain at h; unfold plainR; exact plainRs_of h
  | .dic _, h => by unfold PL.plain at h; cases h
  | .pot, h => by unfold PL.plain at h; cases h
  | .scr _, h => by unfold PL.plain at h; cases h
theorem plainRs_of : ∀ {ds : List D}, plains ds = true → plainRs ds = true
  | [], _ => by unfold plainRs; rfl
  | d :: ds, h => by
    unfold plains at h
    rw [Bool.and_eq_true] at h
    unfold plainRs
    rw [plainR_of h.1, plainRs_of h.2]; rfl
end
/-! how deep data are, whether they hold plain things of texts that can be laid -/
mutual
def fitE : Nat → D → Bool
  | _, .non => true
  | _, .bl _ => true
  | _, .int _ => true
  | _, .str x => (PyData.str x).canLay0
  | 0, _ => false
  | n + 1, .lst xs => fitEs n xs
  | n + 1, .tup xs => fitEs n xs
  | _, _ => false
def fitEs : Nat → List D → Bool
  | _, [] => true
  | n, x :: xs => fitE n x && fitEs n xs
end
mutual
theorem fitE_ok : ∀ {n : Nat} {d : D}, fitE n d = true → plain d = true ∧ (toPy d).canLay0 = true ∧ (toPy d).depth ≤ n
  | n, .non, _ => by refine ⟨by unfold PL.plain; rfl, by unfold toPy; rfl, by unfold toPy; exact Nat.zero_le _⟩
  | n, .bl _, _ => by refine ⟨by unfold PL.plain; rfl, by unfold toPy; rfl, by unfold toPy; exact Nat.zero_le _⟩
  | n, .int _, _ => by refine ⟨by unfold PL.plain; rfl, by unfold toPy; rfl, by unfold toPy; exact Nat.zero_le _⟩
  | n, .str _, h => by
    refine ⟨by unfold PL.plain; rfl, ?_, by unfold toPy; exact Nat.zero_le _⟩
    unfold toPy
    unfold fitE at h
    exact h
  | 0, .lst _, h => by unfold fitE at h; cases h
  | 0, .tup _, h => by unfold fitE at h; cases h
  | n + 1, .lst xs, h => by
    unfold fitE at h
    obtain ⟨h1, h2, h3⟩ := fitEs_ok h
    refine ⟨by unfold PL.plain; exact h1, by unfold toPy PyData.canLay0; exact h2, ?_⟩
    unfold toPy PyData.depth
    omega
  | n + 1, .tup xs, h => by
    unfold fitE at h
    obtain ⟨h1, h2, h3⟩ := fitEs_ok h
    refine ⟨by unfold PL.plain; exact h1, by unfold toPy PyData.canLay0; exact h2, ?_⟩
    unfold toPy PyData.depth
    omega
  | 0, .dic _, h => by unfold fitE at h; cases h
  | n + 1, .dic _, h => by unfold fitE at h; cases h
  | 0, .pot, h => by unfold fitE at h; cases h
  | n + 1, .pot, h => by unfold fitE at h; cases h
  | 0, .scr _, h => by unfold fitE at h; cases h
  | n + 1, .scr _, h => by unfold fitE at h; cases h
theorem fitEs_ok : ∀ {n : Nat} {ds : List D}, fitEs n ds = true → plains ds = true ∧ PyData.canLayAll0 (toPys ds) = true ∧ PyData.depthAll (toPys ds) ≤ n
  | n, [], _ => by refine ⟨by unfold plains; rfl, by unfold toPys; rfl, by unfold toPys PyData.depthAll; exact Nat.zero_le _⟩
  | n, d :: ds, h => by
    unfold fitEs at h
    rw [Bool.and_eq_true] at h
    obtain ⟨a1, a2, a3⟩ := fitE_ok h.1
    obtain ⟨b1, b2, b3⟩ := fitEs_ok h.2
    refine ⟨by unfold plains; rw [a1, b1]; rfl, by unfold toPys PyData.canLayAll0; rw [a2, b2]; rfl, ?_⟩
    unfold toPys PyData.depthAll
    exact Nat.max_le.mpr ⟨a3, b3⟩
end
theorem okE_fit {n : Nat} {d : D} (h : fitE n d = true) (hn : n ≤ 64) : okE d := by
  obtain ⟨h1, h2, h3⟩ := fitE_ok h
  refine ⟨h1, ?_⟩
  unfold SeqAt.shaped
  rw [h2, Bool.true_and, decide_eq_true_eq]
  omega
theorem fitEs_all {n : Nat} : ∀ {ds : List D}, (∀ d ∈ ds, fitE n d = true) → fitEs n ds = true
  | [], _ => by unfold fitEs; rfl
  | d :: ds, h => by
    unfold fitEs
    rw [h d List.mem_cons_self, fitEs_all fun x hx => h x (List.mem_cons_of_mem _ hx)]; rfl
theorem fit_ints {n : Nat} (w : List Int) : fitEs n (w.map D.int) = true := fitEs_all fun d hd => by
  obtain ⟨i, _, rfl⟩ := List.mem_map.mp hd
  cases n <;> (unfold fitE; rfl)
theorem ne_nil {w : List Int} : cmD .ne (.tup (w.map D.int)) (.tup []) = some (!w.isEmpty) := by
  have h1 : okE (.tup (w.map D.int)) := okE_fit (n := 1) (by unfold fitE; exact fit_ints w) (by decide)
  have h2 : okE (.tup []) := okE_fit (n := 1) (by unfold fitE fitEs; rfl) (by decide)
  simp only [cmD, eqD_ok h1 h2, Option.map_some]
  cases w <;> simp [toPy, toPys, PyData.eqv, PyData.eqvAll]
theorem p_par2 {P : Pg} {F : Fn} (mF : FMono F) {r : Env} {Dn : Ed} {ss : List Sm} {i j : Nat} {a b : Ex} {Q : List D → Env → Prop} (he : wEs P F [a, b] r Q fun _ _ => False) (h : ∀ ds r1, Q ds r1 → ∃ x y, ds = [x, y] ∧ wSs P F ss ((r1.set i (some (.val x))).set j (some (.val y))) Dn) : wSs P F (.par2 i j a b :: ss) r Dn := by
  simp only [wSs, wS, wEs] at he ⊢
  exact wE_mono mF he (fun x r1 h1 => wE_mono mF h1 (fun y r2 h2 => h _ _ h2) fun _ _ z => z.elim) fun _ _ z => z.elim
end PL
set_option maxHeartbeats 3900000
/-! PWd: words and their order -/
namespace PL
open PySem
/-- a letter's place among all -/
def rk (l : Int) : Nat := 2 * l.natAbs + if l < 0 then 1 else 0
theorem rk_inj {a b : Int} (h : rk a = rk b) : a = b := by
  unfold rk at h
  split at h <;> split at h <;> omega
def rankD (l : Int) : D := .tup [.int (if l < 0 then -l else l), .bl (decide (l < 0))]
def encW (w : List Int) : D := .tup (w.map .int)
theorem encW_inj {a b : List Int} (h : encW a = encW b) : a = b := by
  unfold encW at h
  injection h with h
  induction a generalizing b with
  | nil =>
    cases b with
    | nil => rfl
    | cons y b => cases h
  | cons x a ih =>
    cases b with
    | nil => cases h
    | cons y b =>
      injection h with h1 h2
      injection h1 with h1
      rw [h1, ih h2]
def keyL : D → D
  | .int i => rankD i
  | _ => .non
def keyW : D → D
  | .tup xs => .tup [.int xs.length, .lst (xs.map keyL)]
  | _ => .non
theorem keyW_enc (w : List Int) : keyW (encW w) = .tup [.int (w.length : Int), .lst (w.map rankD)] := by
  show D.tup [.int ((w.map D.int).length : Int), .lst ((w.map D.int).map keyL)] = _
  rw [List.length_map, List.map_map]
  rfl
def lxl : List Int → List Int → Bool
  | x :: a, y :: b => if x = y then lxl a b else decide (rk x < rk y)
  | _, _ => false
def wlt (a b : List Int) : Bool := if a.length = b.length then lxl a b else decide (a.length < b.length)
theorem toPy_rank (l : Int) : toPy (rankD l) = .tuple [.int (if l < 0 then -l else l), .bool (decide (l < 0))] := by
  unfold rankD
  simp only [toPy, toPys]
theorem alike_rank (a b : Int) : PySem.W.alike (toPy (rankD a)) (toPy (rankD b)) = true := by
  rw [toPy_rank, toPy_rank]; simp [PySem.W.alike, PySem.W.alikeAll]
theorem eqv_rank (a b : Int) : PyData.eqv (toPy (rankD a)) (toPy (rankD b)) = decide (a = b) := by
  rw [toPy_rank, toPy_rank]
  simp only [PyData.eqv, PyData.eqvAll, Bool.and_true]
  rw [Bool.eq_iff_iff]
  simp only [Bool.and_eq_true, beq_iff_eq, decide_eq_true_eq, decide_eq_decide]
  constructor
  · rintro ⟨h1, h2⟩
    split at h1 <;> split at h1 <;> omega
  · rintro rfl
    exact ⟨rfl, Iff.rfl⟩
theorem lt_rank (a b : Int) (h : a ≠ b) : PySem.W.dataLt (toPy (rankD a)) (toPy (rankD b)) = decide (rk a < rk b) := by
  rw [toPy_rank, toPy_rank, PySem.W.dataLt_pair (by simp [PySem.W.alike]) (by simp [PySem.W.alike]), PySem.W.dataLt_int, PySem.W.dataLt_bool]
  simp only [PyData.eqv, beq_iff_eq]
  unfold rk
  by_cases ha : a < 0 <;> by_cases hb : b < 0 <;> simp [ha, hb, PyProof.Rows.b2i]
  all_goals (try split) <;> (try simp) <;> (try rw [Bool.eq_iff_iff]) <;> (try simp) <;> omega
theorem lt_list : ∀ a b : List Int, a.length = b.length → PyProof.Rows.lexLt PyProof.Rows.itemOrd (PySem.W.keyToksAll (toPys (a.map rankD))) (PySem.W.keyToksAll (toPys (b.map rankD))) = lxl a b
  | [], [], _ => PyProof.Rows.lex_irrefl _
  | x :: a, y :: b, h => by
    have e : ∀ (z : Int) (c : List Int), toPys ((z :: c).map rankD) = toPy (rankD z) :: toPys (c.map rankD) := fun z c => by rw [toPys_map, toPys_map]; rfl
    rw [e, e, PySem.W.dataLt_cons (alike_rank x y), eqv_rank, lt_list a b (by simpa using h)]
    rw [lxl]
    by_cases q : x = y
    · simp [q]
    · simp only [q, decide_false, Bool.false_eq_true, if_false]
      exact lt_rank x y q
theorem toPy_key (w : List Int) : toPy (keyW (encW w)) = .tuple [.int w.length, .list (toPys (w.map rankD))] := by
  rw [keyW_enc]
  simp only [toPy, toPys]
theorem alike_ranks : ∀ a b : List Int, PySem.W.alikeAll (toPys (a.map rankD)) (toPys (b.map rankD)) = true
  | [], _ => by simp [toPys, PySem.W.alikeAll]
  | _ :: _, [] => by simp [toPys, PySem.W.alikeAll]
  | x :: a, y :: b => by
    have e : ∀ (z : Int) (c : List Int), toPys ((z :: c).map rankD) = toPy (rankD z) :: toPys (c.map rankD) := fun z c => by rw [toPys_map, toPys_map]; rfl
    rw [e, e, PySem.W.alikeAll, alike_rank, alike_ranks a b]; rfl
theorem eqv_ranks : ∀ a b : List Int, PyData.eqvAll (toPys (a.map rankD)) (toPys (b.map rankD)) = decide (a = b)
  | [], [] => by simp [toPys, PyData.eqvAll]
  | [], y :: b => by
    have e : ∀ (z : Int) (c : List Int), toPys ((z :: c).map rankD) = toPy (rankD z) :: toPys (c.map rankD) := fun z c => by rw [toPys_map, toPys_map]; rfl
    rw [e]; simp [toPys, PyData.eqvAll]
  | x :: a, [] => by
    have e : ∀ (z : Int) (c : List Int), toPys ((z :: c).map rankD) = toPy (rankD z) :: toPys (c.map rankD) := fun z c => by rw [toPys_map, toPys_map]; rfl
    rw [e]; simp [toPys, PyData.eqvAll]
  | x :: a, y :: b => by
    have e : ∀ (z : Int) (c : List Int), toPys ((z :: c).map rankD) = toPy (rankD z) :: toPys (c.map rankD) := fun z c => by rw [toPys_map, toPys_map]; rfl
    rw [e, e, PyData.eqvAll, eqv_rank, eqv_ranks a b, Bool.eq_iff_iff]
    simp
theorem lxl_irrefl : ∀ a : List Int, lxl a a = false
  | [] => rfl
  | x :: a => by unfold lxl; rw [if_pos rfl]; exact lxl_irrefl a
theorem lt_key (a b : List Int) : PySem.W.dataLt (toPy (keyW (encW a))) (toPy (keyW (encW b))) = wlt a b := by
  rw [toPy_key, toPy_key, PySem.W.dataLt_pair (by simp [PySem.W.alike]) (by rw [PySem.W.alike]; exact alike_ranks a b), PySem.W.dataLt_int, PySem.W.dataLt_list]
  have e1 : PyData.eqv (.int (a.length : Int)) (.int (b.length : Int)) = decide (a.length = b.length) := by
    simp only [PyData.eqv]; rw [Bool.eq_iff_iff]; simp; omega
  have e2 : PyData.eqv (.list (toPys (a.map rankD))) (.list (toPys (b.map rankD))) = decide (a = b) := by
    simp only [PyData.eqv]; exact eqv_ranks a b
  rw [e1, e2]
  unfold wlt
  by_cases h : a.length = b.length
  · simp only [h, decide_true, if_true]
    by_cases q : a = b
    · subst q; simp [lxl_irrefl]
    · simp only [q, decide_false, Bool.false_eq_true, if_false]
      exact lt_list a b h
  · simp only [h, decide_false, Bool.false_eq_true, if_false]
    rw [Bool.eq_iff_iff]; simp
def wle (a b : List Int) : Bool := !wlt b a
theorem le_key (a b : List Int) : PySem.W.dataLe false (fun x => toPy (keyW x)) (encW a) (encW b) = wle a b := by
  show (!PySem.W.dataLt (toPy (keyW (encW b))) (toPy (keyW (encW a)))) = _
  rw [lt_key]; rfl
def sortW (ws : List (List Int)) : List (List Int) := ws.mergeSort wle
theorem srt_words (ws : List (List Int)) : srtD keyW (ws.map encW) = (sortW ws).map encW := by
  unfold srtD sortW
  exact (List.map_mergeSort fun a _ b _ => (le_key a b).symm).symm
theorem lxl_total : ∀ {a b : List Int}, a.length = b.length → lxl a b = false → lxl b a = false → a = b
  | [], [], _, _, _ => rfl
  | x :: a, y :: b, h, h1, h2 => by
    unfold lxl at h1 h2
    by_cases q : x = y
    · subst q
      rw [if_pos rfl] at h1 h2
      rw [lxl_total (by simpa using h) h1 h2]
    · rw [if_neg q, decide_eq_false_iff_not] at h1
      rw [if_neg fun z => q z.symm, decide_eq_false_iff_not] at h2
      exact absurd (rk_inj (by omega)) q
theorem wle_anti {a b : List Int} (h1 : wle a b = true) (h2 : wle b a = true) : a = b := by
  unfold wle wlt at h1 h2
  rw [Bool.not_eq_true'] at h1 h2
  by_cases h : a.length = b.length
  · rw [if_pos h.symm] at h1
    rw [if_pos h] at h2
    exact lxl_total h h2 h1
  · rw [if_neg fun z => h z.symm, decide_eq_false_iff_not] at h1
    rw [if_neg h, decide_eq_false_iff_not] at h2
    omega
theorem wle_trans (a b c : List Int) (h1 : wle a b = true) (h2 : wle b c = true) : wle a c = true := by
  rw [← le_key] at h1 h2 ⊢
  exact (PySem.W.sortLe_total _ _ _).trans _ _ _ h1 h2
theorem wle_total (a b : List Int) : (wle a b || wle b a) = true := by
  rw [← le_key, ← le_key]
  rw [Bool.or_eq_true]
  exact (PySem.W.sortLe_total _ _ _).total _ _
theorem sortW_perm (ws : List (List Int)) : (sortW ws).Perm ws := List.mergeSort_perm _ _
theorem sortW_pw (ws : List (List Int)) : (sortW ws).Pairwise fun a b => wle a b = true := List.pairwise_mergeSort wle_trans wle_total ws
theorem pw_unique : ∀ {xs ys : List (List Int)}, xs.Perm ys → xs.Pairwise (fun a b => wle a b = true) → ys.Pairwise (fun a b => wle a b = true) → xs = ys
  | [], ys, p, _, _ => (List.Perm.nil_eq p)
  | x :: xs, [], p, _, _ => absurd p.symm.nil_eq (by simp)
  | x :: xs, y :: ys, p, h1, h2 => by
    rw [List.pairwise_cons] at h1 h2
    have exy : x = y := by
      have hx : x ∈ y :: ys := p.subset List.mem_cons_self
      have hy : y ∈ x :: xs := p.symm.subset List.mem_cons_self
      rcases List.mem_cons.mp hx with e | hx
      · exact e
      · rcases List.mem_cons.mp hy with e | hy
        · exact e.symm
        · exact wle_anti (h1.1 y hy) (h2.1 x hx)
    subst exy
    rw [pw_unique (List.Perm.cons_inv p) h1.2 h2.2]
theorem sortW_eq {xs ys : List (List Int)} (h : xs.Perm ys) : sortW xs = sortW ys :=
  pw_unique ((sortW_perm xs).trans (h.trans (sortW_perm ys).symm)) (sortW_pw xs) (sortW_pw ys)
theorem sortW_is {xs ys : List (List Int)} (h : xs.Perm ys) (hp : ys.Pairwise fun a b => wle a b = true) : sortW xs = ys :=
  pw_unique ((sortW_perm xs).trans h) (sortW_pw xs) hp
theorem wlt_cons (l : Int) (a b : List Int) (h : a.length = b.length) : wlt (l :: a) (l :: b) = wlt a b := by
  unfold wlt
  rw [if_pos (by simp [h]), if_pos h, lxl, if_pos rfl]
theorem sortW_cons (l : Int) {ws : List (List Int)} (h : ∀ a ∈ ws, ∀ b ∈ ws, a.length = b.length) : sortW (ws.map (l :: ·)) = (sortW ws).map (l :: ·) := by
  unfold sortW
  refine (List.map_mergeSort fun a ha b hb => ?_).symm
  show (!wlt b a) = !wlt (l :: b) (l :: a)
  rw [wlt_cons l b a (h b hb a ha)]
theorem wle_short {a b : List Int} (h : a.length < b.length) : wle a b = true := by
  unfold wle wlt
  rw [if_neg (by omega), Bool.not_eq_true', decide_eq_false_iff_not]
  omega
theorem wle_one {x y : Int} (h : rk x ≤ rk y) : wle [x] [y] = true := by
  unfold wle wlt
  rw [if_pos (show [y].length = [x].length from rfl), lxl]
  by_cases e : y = x
  · rw [if_pos e]; rfl
  · rw [if_neg e, Bool.not_eq_true', decide_eq_false_iff_not]; omega
theorem fit_words {n : Nat} (ws : List (List Int)) : fitEs (n + 1) (ws.map encW) = true := fitEs_all fun d hd => by
  obtain ⟨w, _, rfl⟩ := List.mem_map.mp hd
  unfold encW fitE
  exact fit_ints w
theorem ok_words (ws : List (List Int)) : okE (.lst (ws.map encW)) := okE_fit (n := 2) (by unfold fitE; exact fit_words ws) (by decide)
theorem ok_word (w : List Int) : okE (encW w) := okE_fit (n := 1) (by unfold encW fitE; exact fit_ints w) (by decide)
end PL
set_option maxHeartbeats 3900000
/-! PLy: what repr takes -/
namespace PL
open PySem
mutual
/-- whole numbers of at most twelve figures -/
def smallE : D → Bool
  | .int i => decide (i.natAbs < 10 ^ 12)
  | .lst xs => smallEs xs
  | .tup xs => smallEs xs
  | _ => true
def smallEs : List D → Bool
  | [] => true
  | x :: xs => smallE x && smallEs xs
end
mutual
def wgtE : D → Nat
  | .int _ => 40
  | .str x => x.cps.size
  | .lst xs => wgtEs xs
  | .tup xs => wgtEs xs
  | _ => 0
def wgtEs : List D → Nat
  | [] => 0
  | x :: xs => wgtE x + 1 + wgtEs xs
end
mutual
theorem small_ok : ∀ {n : Nat} {d : D}, fitE n d = true → smallE d = true → (toPy d).intsShort 13 = true ∧ (toPy d).showable = true ∧ (toPy d).weight ≤ wgtE d
  | n, .non, _, _ => by unfold toPy; exact ⟨rfl, rfl, Nat.zero_le _⟩
  | n, .bl _, _, _ => by unfold toPy; exact ⟨rfl, rfl, Nat.zero_le _⟩
  | n, .str x, _, _ => by unfold toPy wgtE; exact ⟨rfl, rfl, Nat.le_refl _⟩
  | n, .int i, _, h => by
    unfold smallE at h
    rw [decide_eq_true_eq] at h
    have l40 : i.natAbs.log2 < 40 := by
      by_cases h0 : i.natAbs = 0
      · rw [h0]; decide
      · exact (Nat.log2_lt h0).mpr (Nat.lt_of_lt_of_le h (by decide))
    unfold toPy wgtE
    refine ⟨decide_eq_true (PyData.shown_int_le h), decide_eq_true (by omega), ?_⟩
    unfold PyData.weight
    split <;> omega
  | 0, .lst _, h, _ => by unfold fitE at h; cases h
  | 0, .tup _, h, _ => by unfold fitE at h; cases h
  | n + 1, .lst xs, h, q => by
    unfold fitE at h
    unfold smallE at q
    obtain ⟨h1, h2, h3⟩ := smalls_ok h q
    unfold toPy wgtE
    exact ⟨by unfold PyData.intsShort; exact h1, by unfold PyData.showable; exact h2, by unfold PyData.weight; exact h3⟩
  | n + 1, .tup xs, h, q => by
    unfold fitE at h
    unfold smallE at q
    obtain ⟨h1, h2, h3⟩ := smalls_ok h q
    unfold toPy wgtE
    exact ⟨by unfold PyData.intsShort; exact h1, by unfold PyData.showable; exact h2, by unfold PyData.weight; exact h3⟩
  | 0, .dic _, h, _ => by unfold fitE at h; cases h
  | n + 1, .dic _, h, _ => by unfold fitE at h; cases h
  | 0, .pot, h, _ => by unfold fitE at h; cases h
  | n + 1, .pot, h, _ => by unfold fitE at h; cases h
  | 0, .scr _, h, _ => by unfold fitE at h; cases h
  | n + 1, .scr _, h, _ => by unfold fitE at h; cases h
theorem smalls_ok : ∀ {n : Nat} {ds : List D}, fitEs n ds = true → smallEs ds = true → PyData.intsShortAll 13 (toPys ds) = true ∧ PyData.showableAll (toPys ds) = true ∧ PyData.weightAll (toPys ds) ≤ wgtEs ds
  | n, [], _, _ => by unfold toPys; exact ⟨rfl, rfl, Nat.zero_le _⟩
  | n, d :: ds, h, q => by
    unfold fitEs at h
    unfold smallEs at q
    rw [Bool.and_eq_true] at h q
    obtain ⟨a1, a2, a3⟩ := small_ok h.1 q.1
    obtain ⟨b1, b2, b3⟩ := smalls_ok h.2 q.2
    unfold toPys wgtEs
    refine ⟨by unfold PyData.intsShortAll; rw [a1, b1]; rfl, by unfold PyData.showableAll; rw [a2, b2]; rfl, ?_⟩
    unfold PyData.weightAll
    omega
end
def shw (d : D) : Str := (toPy d).shown
theorem repr_ok {n : Nat} {d : D} (h1 : fitE n d = true) (hn : n ≤ 62) (h2 : smallE d = true) (h3 : wgtE d ≤ 2 ^ 20) : biRepr [d] = some (.val (.str (shw d))) ∧ (shw d).length ≤ 15728653 := by
  obtain ⟨p1, p2, p3⟩ := fitE_ok h1
  obtain ⟨s1, s2, s3⟩ := small_ok h1 h2
  have lay : PyData.layable0 (toPy d) = true := by
    unfold PyData.layable0
    rw [p2, Bool.true_and, Bool.and_eq_true, decide_eq_true_eq, decide_eq_true_eq]
    omega
  have l := PyData.shown_le_of_layable0 lay s1
  have hlim : lim = 16777216 := rfl
  refine ⟨?_, l⟩
  show (if plainR d = true ∧ (toPy d).showable = true ∧ (toPy d).depth ≤ 62 ∧ (toPy d).shown.length ≤ lim then some (R.val (.str (toPy d).shown)) else none) = _
  rw [if_pos ⟨plainR_of p1, s2, by omega, by omega⟩]
  rfl
theorem bi_repr {d : D} (h : biRepr [d] = some (.val (.str (shw d)))) : biD .repr [d] = some (.val (.str (shw d))) := h
theorem smalls_all : ∀ {ds : List D}, (∀ d ∈ ds, smallE d = true) → smallEs ds = true
  | [], _ => by unfold smallEs; rfl
  | d :: ds, h => by
    unfold smallEs
    rw [h d List.mem_cons_self, smalls_all fun x hx => h x (List.mem_cons_of_mem _ hx)]; rfl
theorem wgts_le {m : Nat} : ∀ {ds : List D}, (∀ d ∈ ds, wgtE d ≤ m) → wgtEs ds ≤ ds.length * (m + 1)
  | [], _ => by unfold wgtEs; exact Nat.zero_le _
  | d :: ds, h => by
    have h1 := h d List.mem_cons_self
    have h2 := wgts_le (m := m) fun x hx => h x (List.mem_cons_of_mem _ hx)
    unfold wgtEs
    rw [List.length_cons, Nat.succ_mul]
    omega
/-- words of few letters of few figures -/
def Wd (w : List Int) : Prop := w.length ≤ 10 ∧ ∀ l ∈ w, l.natAbs < 10 ^ 12
theorem wd_small {w : List Int} (h : Wd w) : smallE (encW w) = true ∧ wgtE (encW w) ≤ 410 := by
  unfold encW
  refine ⟨?_, ?_⟩
  · unfold smallE
    refine smalls_all fun d hd => ?_
    obtain ⟨l, hl, rfl⟩ := List.mem_map.mp hd
    unfold smallE
    exact decide_eq_true (h.2 l hl)
  · unfold wgtE
    have := wgts_le (m := 40) (ds := w.map D.int) fun d hd => by
      obtain ⟨l, hl, rfl⟩ := List.mem_map.mp hd
      unfold wgtE
      exact Nat.le_refl _
    rw [List.length_map] at this
    have := h.1
    omega
theorem repr_words {ws : List (List Int)} (hl : ws.length ≤ 100) (hw : ∀ w ∈ ws, Wd w) : biRepr [.lst (ws.map encW)] = some (.val (.str (shw (.lst (ws.map encW))))) ∧ (shw (.lst (ws.map encW))).length ≤ 15728653 := by
  refine repr_ok (n := 2) (by unfold fitE; exact fit_words ws) (by decide) ?_ ?_
  · unfold smallE
    refine smalls_all fun d hd => ?_
    obtain ⟨w, hw', rfl⟩ := List.mem_map.mp hd
    exact (wd_small (hw w hw')).1
  · unfold wgtE
    have := wgts_le (m := 410) (ds := ws.map encW) fun d hd => by
      obtain ⟨w, hw', rfl⟩ := List.mem_map.mp hd
      exact (wd_small (hw w hw')).2
    rw [List.length_map] at this
    omega
end PL
set_option maxHeartbeats 3900000
/-! PSh: rows of signs without end, told from one side to the other; the one form of each. No program in sight. -/
namespace PL
open PySem
/-- a text of signs, gone through again and again -/
def atT (t : List Bool) (n : Int) : Bool := t.getD (n % (t.length : Int)).toNat false
theorem atT_per (t : List Bool) (n k : Int) : atT t (n + t.length * k) = atT t n := by
  unfold atT
  rw [Int.add_mul_emod_self_left]
theorem atT_dvd {t : List Bool} {m : Nat} (h : t.length ∣ m) (n k : Int) : atT t (n + m * k) = atT t n := by
  obtain ⟨c, rfl⟩ := h
  have := atT_per t n (c * k)
  rw [← Int.mul_assoc] at this
  rw [show ((t.length * c : Nat) : Int) = (t.length : Int) * c from by simp]
  exact this
theorem atT_nat {t : List Bool} {i : Nat} (h : i < t.length) : atT t (i : Int) = t[i] := by
  unfold atT
  have e : ((i : Int) % (t.length : Int)).toNat = i := by
    rw [Int.emod_eq_of_lt (by omega) (by omega)]; simp
  rw [e, List.getD_eq_getElem?_getD, List.getElem?_eq_getElem h]
  rfl
theorem bez : ∀ m n : Nat, ∃ a b : Int, ((Nat.gcd m n : Nat) : Int) = m * a + n * b := by
  intro m
  induction m using Nat.strongRecOn with
  | ind m ih =>
    intro n
    by_cases h : m = 0
    · subst h
      exact ⟨0, 1, by simp⟩
    · obtain ⟨a, b, e⟩ := ih (n % m) (Nat.mod_lt _ (Nat.pos_of_ne_zero h)) m
      refine ⟨b - (n / m : Nat) * a, a, ?_⟩
      rw [Nat.gcd_rec m n, e]
      have e2 : ((n % m : Nat) : Int) = (n : Int) - m * (n / m : Nat) := by
        have := Nat.div_add_mod n m
        have e3 : ((m * (n / m) + n % m : Nat) : Int) = (n : Int) := by rw [this]
        rw [Int.natCast_add, Int.natCast_mul] at e3
        omega
      rw [e2, Int.sub_mul, Int.mul_sub, Int.mul_assoc]
      omega
/-- no shorter text tells the same -/
def Prim (t : List Bool) : Prop := t ≠ [] ∧ ∀ d : Nat, 0 < d → d ∣ t.length → (∀ n : Int, atT t (n + d) = atT t n) → d = t.length
theorem per_mul {e : Int → Bool} {d : Nat} (h : ∀ n : Int, e (n + d) = e n) : ∀ (n k : Int), e (n + d * k) = e n := by
  have pos : ∀ (k : Nat) (n : Int), e (n + d * k) = e n := by
    intro k
    induction k with
    | zero => intro n; simp
    | succ k ih =>
      intro n
      have e1 : n + (d : Int) * ((k + 1 : Nat) : Int) = (n + d * (k : Int)) + d := by
        rw [Int.natCast_add, Int.mul_add]; simp [Int.add_assoc]
      rw [e1, h, ih]
  intro n k
  rcases Int.eq_nat_or_neg k with ⟨j, rfl | rfl⟩
  · exact pos j n
  · have := pos j (n + d * -(j : Int))
    rw [← this]
    congr 1
    rw [Int.mul_neg]
    omega
theorem prim_eq {t u : List Bool} (ht : Prim t) (hu : Prim u) (h : ∀ n, atT t n = atT u n) : t = u := by
  obtain ⟨a, b, e⟩ := bez t.length u.length
  have pos : 0 < Nat.gcd t.length u.length := Nat.gcd_pos_of_pos_left _ (List.length_pos_iff.mpr ht.1)
  have per : ∀ n : Int, atT t (n + (Nat.gcd t.length u.length : Nat)) = atT t n := fun n => by
    rw [e, ← Int.add_assoc, h, atT_per, ← h, atT_per]
  have e1 := ht.2 _ pos (Nat.gcd_dvd_left _ _) per
  have e2 := hu.2 _ pos (Nat.gcd_dvd_right _ _) fun n => by rw [← h, ← h]; exact per n
  have el : t.length = u.length := e1.symm.trans e2
  refine List.ext_getElem el fun i h1 h2 => ?_
  rw [← atT_nat h1, ← atT_nat h2, h]
/-- a side -/
structure Side (t : List Bool) : Prop where
  p : Prim t
  d : t.length ∣ 60
theorem Side.ne {t : List Bool} (h : Side t) : t ≠ [] := h.p.1
theorem Side.le {t : List Bool} (h : Side t) : t.length ≤ 60 := Nat.le_of_dvd (by decide) h.d
theorem Side.pos {t : List Bool} (h : Side t) : 0 < t.length := List.length_pos_iff.mpr h.ne
structure Sh where
  l : List Bool
  low : Int
  m : List Bool
  r : List Bool
def Sh.e (x : Sh) : Int := x.low + x.m.length
/-- the sign of a letter -/
def Sh.sg (x : Sh) (n : Int) : Bool := if n < x.low then atT x.l n else if n < x.e then x.m.getD (n - x.low).toNat false else atT x.r n
theorem Sh.sg_l {x : Sh} {n : Int} (h : n < x.low) : x.sg n = atT x.l n := if_pos h
theorem Sh.sg_r {x : Sh} {n : Int} (h : x.e ≤ n) : x.sg n = atT x.r n := by
  unfold Sh.sg
  have : x.low ≤ x.e := by unfold Sh.e; omega
  rw [if_neg (by omega), if_neg (by omega)]
theorem Sh.sg_m {x : Sh} {i : Nat} (h : i < x.m.length) : x.sg (x.low + i) = x.m[i] := by
  unfold Sh.sg Sh.e
  rw [if_neg (by omega), if_pos (by omega)]
  have : (x.low + (i : Int) - x.low).toNat = i := by omega
  rw [this, List.getD_eq_getElem?_getD, List.getElem?_eq_getElem h]
  rfl
structure Canon (x : Sh) : Prop where
  hl : Side x.l
  hr : Side x.r
  fm : (x.l = x.r ∧ x.low = 0 ∧ x.m = []) ∨ (x.sg x.low ≠ atT x.l x.low ∧ (x.m ≠ [] → x.sg (x.e - 1) ≠ atT x.r (x.e - 1)))
theorem side_of_far {t u : List Bool} (ht : Side t) (hu : Side u) (b : Int) (h : ∀ n, n < b → atT t n = atT u n) : t = u := by
  refine prim_eq ht.p hu.p fun n => ?_
  have e1 := atT_dvd ht.d n (-((n - b).natAbs + 1 : Nat))
  have e2 := atT_dvd hu.d n (-((n - b).natAbs + 1 : Nat))
  rw [← e1, ← e2]
  exact h _ (by omega)
theorem side_of_fur {t u : List Bool} (ht : Side t) (hu : Side u) (b : Int) (h : ∀ n, b ≤ n → atT t n = atT u n) : t = u := by
  refine prim_eq ht.p hu.p fun n => ?_
  have e1 := atT_dvd ht.d n ((n - b).natAbs + 1 : Nat)
  have e2 := atT_dvd hu.d n ((n - b).natAbs + 1 : Nat)
  rw [← e1, ← e2]
  exact h _ (by omega)
/-- each set has one form -/
theorem canon_eq {x y : Sh} (hx : Canon x) (hy : Canon y) (h : ∀ n, x.sg n = y.sg n) : x = y := by
  have el : x.l = y.l := side_of_far hx.hl hy.hl (min x.low y.low) fun n hn => by
    rw [← Sh.sg_l (x := x) (by omega), ← Sh.sg_l (x := y) (by omega), h]
  have er : x.r = y.r := side_of_fur hx.hr hy.hr (max x.e y.e) fun n hn => by
    rw [← Sh.sg_r (x := x) (by omega), ← Sh.sg_r (x := y) (by omega), h]
  have flat : ∀ {z : Sh}, z.l = z.r → z.low = 0 → z.m = [] → ∀ n, z.sg n = atT z.l n := fun {z} h1 h2 h3 n => by
    unfold Sh.sg Sh.e
    rw [h1, h2, h3]
    by_cases q : n < 0
    · rw [if_pos q]
    · rw [if_neg q, if_neg (by simp; omega)]
  obtain ⟨xl, xlow, xm, xr⟩ := x
  obtain ⟨yl, ylow, ym, yr⟩ := y
  simp only at el er
  subst el er
  rcases hx.fm with ⟨a1, a2, a3⟩ | ⟨a1, a2⟩
  · rcases hy.fm with ⟨b1, b2, b3⟩ | ⟨b1, b2⟩
    · simp only at a2 a3 b2 b3
      subst a2 a3 b2 b3
      rfl
    · exact absurd ((h _).symm.trans (flat a1 a2 a3 _)) b1
  · rcases hy.fm with ⟨b1, b2, b3⟩ | ⟨b1, b2⟩
    · exact absurd ((h _).trans (flat b1 b2 b3 _)) a1
    · have elow : xlow = ylow := by
        simp only at a1 b1
        rcases Int.lt_trichotomy xlow ylow with q | q | q
        · exact absurd ((h xlow).trans (Sh.sg_l (x := ⟨xl, ylow, ym, xr⟩) q)) a1
        · exact q
        · exact absurd ((h ylow).symm.trans (Sh.sg_l (x := ⟨xl, xlow, xm, xr⟩) q)) b1
      subst elow
      have elen : xm.length = ym.length := by
        rcases Nat.lt_trichotomy xm.length ym.length with q | q | q
        · have nn : ym ≠ [] := fun z => by rw [z] at q; simp at q
          refine absurd ((h _).symm.trans (Sh.sg_r (x := ⟨xl, xlow, xm, xr⟩) ?_)) (b2 nn)
          simp only [Sh.e]; omega
        · exact q
        · have nn : xm ≠ [] := fun z => by rw [z] at q; simp at q
          refine absurd ((h _).trans (Sh.sg_r (x := ⟨xl, xlow, ym, xr⟩) ?_)) (a2 nn)
          simp only [Sh.e]; omega
      have em : xm = ym := List.ext_getElem elen fun i h1 h2 => by
        have e1 := Sh.sg_m (x := ⟨xl, xlow, xm, xr⟩) h1
        have e2 := Sh.sg_m (x := ⟨xl, xlow, ym, xr⟩) h2
        simp only at e1 e2
        rw [← e1, ← e2]
        exact h _
      rw [em]
end PL
set_option maxHeartbeats 3900000
/-! PSt: texts of signs -/
namespace PL
open PySem
def sgc (b : Bool) : Nat := if b then 49 else 48
theorem sgc_inj {a b : Bool} (h : sgc a = sgc b) : a = b := by cases a <;> cases b <;> first | rfl | cases h
def tx (a : List Bool) : Str := ⟨(a.map sgc).toArray⟩
theorem tx_len (a : List Bool) : (tx a).length = a.length := by
  show (a.map sgc).toArray.size = _
  simp
theorem tx_cps (a : List Bool) : (tx a).cps.toList = a.map sgc := by unfold tx; simp
theorem tx_app (a b : List Bool) : tx a ++ tx b = tx (a ++ b) := by
  show (⟨(tx a).cps ++ (tx b).cps⟩ : Str) = _
  unfold tx
  simp
theorem tx_inj {a b : List Bool} (h : tx a = tx b) : a = b := by
  have h1 : (tx a).cps.toList = (tx b).cps.toList := by rw [h]
  rw [tx_cps, tx_cps] at h1
  induction a generalizing b with
  | nil => cases b with
    | nil => rfl
    | cons y b => cases h1
  | cons x a ih => cases b with
    | nil => cases h1
    | cons y b =>
      rw [List.map_cons, List.map_cons, List.cons.injEq] at h1
      have := ih (b := b) (by unfold tx; rw [h1.2]) h1.2
      rw [this, sgc_inj h1.1]
theorem tx_eq (a b : List Bool) : decide (tx a = tx b) = decide (a = b) := by
  by_cases h : a = b
  · simp [h]
  · rw [decide_eq_false h, decide_eq_false fun z => h (tx_inj z)]
theorem tx_nil : tx [] = Str.ofString "" := by decide +kernel
theorem tx_0 : tx [false] = Str.ofString "0" := by decide +kernel
theorem tx_1 : tx [true] = Str.ofString "1" := by decide +kernel
theorem tx_01 : tx [false, true] = Str.ofString "01" := by decide +kernel
theorem ix_tx {a : List Bool} {i : Nat} (h : i < a.length) (hl : a.length ≤ 16777216) : ixD (.str (tx a)) (.int (i : Int)) = some (.str (tx [a[i]])) := by
  show (if (tx a).length ≤ lim then (L2.atI (tx a).cps.toList (i : Int)).map (fun c => D.str ⟨#[c]⟩) else none) = _
  rw [tx_len, if_pos (show a.length ≤ lim from hl), tx_cps]
  have : L2.atI (a.map sgc) (i : Int) = some (sgc a[i]) := by
    unfold L2.atI
    rw [List.length_map, ixn_nat h, Option.bind_some, List.getElem?_map, List.getElem?_eq_getElem h]
    rfl
  rw [this]
  rfl
theorem len_tx {a : List Bool} (hl : a.length ≤ 16777216) : lenD (.str (tx a)) = some a.length := by
  show (if (tx a).length ≤ lim then some (tx a).length else none) = _
  rw [tx_len, if_pos (show a.length ≤ lim from hl)]
theorem cut_tx {a : List Bool} (i j : Nat) : L2.cutS (tx a) (some (i : Int)) (some (j : Int)) = tx ((a.drop i).take (j - i)) := by
  unfold L2.cutS
  rw [HT.sIx_nat, HT.sIx_nat, tx_len, tx_cps, ← List.map_drop, ← List.map_take]
  unfold tx
  congr 2
  congr 1
  by_cases h1 : i ≤ a.length
  · rw [Nat.min_eq_left h1]
    by_cases h2 : j ≤ a.length
    · rw [Nat.min_eq_left h2]
    · rw [Nat.min_eq_right (by omega), List.take_of_length_le (by rw [List.length_drop]; omega), List.take_of_length_le (by rw [List.length_drop]; omega)]
  · rw [Nat.min_eq_right (show a.length ≤ i by omega), List.drop_length, List.drop_of_length_le (show a.length ≤ i by omega), List.take_nil, List.take_nil]
theorem cut_txto {a : List Bool} (j : Nat) : L2.cutS (tx a) none (some (j : Int)) = tx (a.take j) := by
  have := cut_tx (a := a) 0 j
  rw [List.drop_zero, Nat.sub_zero] at this
  rw [← this]
  unfold L2.cutS
  rw [HT.sIx_none, HT.sIx_nat (tx a).length 0 0, Nat.zero_min]
theorem sl_tx {a : List Bool} (hl : a.length ≤ 16777216) (lo hi : Option Int) : slD (.str (tx a)) lo hi = some (.val (.str (L2.cutS (tx a) lo hi))) := by
  show (if (tx a).length ≤ lim then some (R.val (.str (L2.cutS (tx a) lo hi))) else none) = _
  rw [tx_len, if_pos (show a.length ≤ lim from hl)]
/-- a text again and again -/
def rep : Nat → List Bool → List Bool
  | 0, _ => []
  | k + 1, a => rep k a ++ a
theorem rep_len (a : List Bool) : ∀ k, (rep k a).length = k * a.length
  | 0 => by simp [rep]
  | k + 1 => by rw [rep, List.length_append, rep_len a k, Nat.succ_mul]
theorem rep_get (a : List Bool) : ∀ (k i : Nat), i < k * a.length → (rep k a)[i]? = a[i % a.length]?
  | 0, i, h => by simp at h
  | k + 1, i, h => by
    rw [rep]
    by_cases q : i < k * a.length
    · rw [List.getElem?_append_left (by rw [rep_len]; exact q)]
      exact rep_get a k i q
    · rw [List.getElem?_append_right (by rw [rep_len]; omega), rep_len]
      rw [Nat.succ_mul] at h
      have e : i % a.length = i - k * a.length := by
        have e1 : i = (i - k * a.length) + a.length * k := by rw [Nat.mul_comm a.length k]; omega
        rw [e1, Nat.add_mul_mod_self_left, Nat.mod_eq_of_lt (by omega)]
        omega
      rw [e]
theorem mul_fold (x : Array Nat) : ∀ (k : Nat) (acc : Array Nat), (List.replicate k x).foldl (· ++ ·) acc = acc ++ (List.replicate k x).foldl (· ++ ·) #[]
  | 0, acc => by simp
  | k + 1, acc => by
    rw [List.replicate_succ, List.foldl_cons, List.foldl_cons, mul_fold x k (acc ++ x), mul_fold x k (#[] ++ x)]
    simp
theorem rep_comm (a : List Bool) : ∀ k, rep k a ++ a = a ++ rep k a
  | 0 => by simp [rep]
  | k + 1 => by rw [rep, rep_comm a k, List.append_assoc, rep_comm a k]
theorem mul_tx0 (a : List Bool) : ∀ k : Nat, (List.replicate k (tx a).cps).foldl (· ++ ·) #[] = (tx (rep k a)).cps
  | 0 => by simp [rep, tx]
  | k + 1 => by
    rw [List.replicate_succ, List.foldl_cons, mul_fold, mul_tx0 a k, rep, rep_comm]
    unfold tx
    simp
theorem mul_tx (a : List Bool) (k : Nat) (h : 1 ≤ k) : Txt.mul (tx a) (k : Int) = tx (rep k a) := by
  unfold Txt.mul
  rw [if_neg (by omega)]
  by_cases q : (((k : Int) == 1) || ((tx a).length == 0)) = true
  · rw [if_pos q]
    rw [Bool.or_eq_true, beq_iff_eq, beq_iff_eq, tx_len] at q
    rcases q with q | q
    · have : k = 1 := by omega
      subst this
      simp [rep]
    · have : a = [] := List.length_eq_zero_iff.mp q
      subst this
      congr 1
      exact (List.length_eq_zero_iff.mp (by rw [rep_len]; simp)).symm
  · rw [if_neg q, Int.toNat_natCast, mul_tx0]
theorem glue_tx : ∀ (bs : List Bool) (acc : List Bool), (bs.map fun b => tx [b]).foldl (fun (c : Array Nat) p => c ++ (Str.ofString "").cps ++ p.cps) (tx acc).cps = (tx (acc ++ bs)).cps
  | [], acc => by simp
  | b :: bs, acc => by
    rw [List.map_cons, List.foldl_cons]
    have e : (tx acc).cps ++ (Str.ofString "").cps ++ (tx [b]).cps = (tx (acc ++ [b])).cps := by
      rw [← tx_nil]
      unfold tx
      simp
    rw [e, glue_tx bs (acc ++ [b])]
    simp
theorem join_tx (bs : List Bool) : Txt.join (Str.ofString "") (bs.map fun b => tx [b]) = tx bs := by
  show (⟨((bs.map fun b => tx [b]).drop 1).foldl (fun (c : Array Nat) p => c ++ (Str.ofString "").cps ++ p.cps) ((bs.map fun b => tx [b]).headD Str.empty).cps⟩ : Str) = _
  cases bs with
  | nil => rfl
  | cons b bs =>
    rw [List.map_cons, List.drop_succ_cons, List.drop_zero, List.headD_cons, glue_tx bs [b]]
    rfl
theorem strs_tx (bs : List Bool) : strsD (bs.map fun b => D.str (tx [b])) = some (bs.map fun b => tx [b]) := by
  induction bs with
  | nil => rfl
  | cons b bs ih => rw [List.map_cons, strsD, ih]; rfl
theorem join_ok {bs : List Bool} (hl : bs.length ≤ 16777216) : mtD .join (.str (Str.ofString "")) [.lst (bs.map fun b => D.str (tx [b]))] = some (.val (.str (tx bs))) := by
  show (strsD (bs.map fun b => D.str (tx [b]))).bind _ = _
  rw [strs_tx, Option.bind_some]
  have e0 : (Str.ofString "").length = 0 := rfl
  have e1 : ∀ bs : List Bool, ((bs.map fun b => tx [b]).map (·.length)).sum = bs.length := fun bs => by
    induction bs with
    | nil => rfl
    | cons b bs ih => rw [List.map_cons, List.map_cons, List.sum_cons, ih, tx_len]; simp; omega
  rw [e1, e0, Nat.mul_zero, Nat.add_zero, if_pos hl, join_tx]
/-! ### periods -/
theorem per_iff {t : List Bool} {d : Nat} (h0 : 0 < d) (hd : d ∣ t.length) (hn : t ≠ []) : rep (t.length / d) (t.take d) = t ↔ ∀ n : Int, atT t (n + d) = atT t n := by
  have hp : 0 < t.length := List.length_pos_iff.mpr hn
  have hle : d ≤ t.length := Nat.le_of_dvd hp hd
  have tl : (t.take d).length = d := by rw [List.length_take]; omega
  have rl : (rep (t.length / d) (t.take d)).length = t.length := by rw [rep_len, tl, Nat.div_mul_cancel hd]
  have get : ∀ i, i < t.length → (rep (t.length / d) (t.take d))[i]? = t[i % d]? := fun i hi => by
    rw [rep_get _ _ _ (by rw [tl, Nat.div_mul_cancel hd]; exact hi), tl, List.getElem?_take, if_pos (Nat.mod_lt _ h0)]
  constructor
  · intro h n
    have key : ∀ i, i < t.length → t[i]? = t[i % d]? := fun i hi => by rw [← get i hi, h]
    have at_ : ∀ n : Int, atT t n = t.getD (n % (d : Int)).toNat false := fun n => by
      unfold atT
      have b1 := Int.emod_nonneg n (show (t.length : Int) ≠ 0 by omega)
      have b2 := Int.emod_lt_of_pos n (show (0 : Int) < t.length by omega)
      have e := key (n % (t.length : Int)).toNat (by omega)
      rw [List.getD_eq_getElem?_getD, List.getD_eq_getElem?_getD, e]
      congr 2
      have : ((n % (t.length : Int)).toNat % d : Nat) = (n % (d : Int)).toNat := by
        have e2 : (((n % (t.length : Int)).toNat % d : Nat) : Int) = n % (d : Int) := by
          rw [Int.natCast_emod, Int.toNat_of_nonneg b1]
          exact Int.emod_emod_of_dvd n (Int.natCast_dvd_natCast.mpr hd)
        omega
      rw [this]
    rw [at_, at_]
    congr 2
    have := Int.add_mul_emod_self_left n (d : Int) 1
    rw [Int.mul_one] at this
    rw [this]
  · intro h
    refine List.ext_getElem? fun i => ?_
    by_cases hi : i < t.length
    · rw [get i hi]
      have hm : i % d < t.length := Nat.lt_of_lt_of_le (Nat.mod_lt _ h0) hle
      rw [List.getElem?_eq_getElem hi, List.getElem?_eq_getElem hm, ← atT_nat hi, ← atT_nat hm]
      have := per_mul h ((i % d : Nat) : Int) ((i / d : Nat) : Int)
      rw [← this]
      congr 2
      have e := Nat.mod_add_div i d
      have e2 : ((i % d + d * (i / d) : Nat) : Int) = (i : Int) := by rw [e]
      rw [Int.natCast_add, Int.natCast_mul] at e2
      exact e2
    · rw [List.getElem?_eq_none (by rw [rl]; omega), List.getElem?_eq_none (by omega)]
theorem take_at {t : List Bool} {d : Nat} (h0 : 0 < d) (hd : d ∣ t.length) (hn : t ≠ []) (h : ∀ n : Int, atT t (n + d) = atT t n) (n : Int) : atT (t.take d) n = atT t n := by
  have hp : 0 < t.length := List.length_pos_iff.mpr hn
  have hle : d ≤ t.length := Nat.le_of_dvd hp hd
  have tl : (t.take d).length = d := by rw [List.length_take]; omega
  have e : n = (n % (d : Int)) + d * (n / (d : Int)) := (Int.emod_add_mul_ediv n d).symm
  have b1 := Int.emod_nonneg n (show (d : Int) ≠ 0 by omega)
  have b2 := Int.emod_lt_of_pos n (show (0 : Int) < d by omega)
  have e1 : atT t n = atT t (n % (d : Int)) := by
    conv => lhs; rw [e]
    exact per_mul h _ _
  rw [e1]
  have e2 : n % (d : Int) = ((n % (d : Int)).toNat : Int) := by omega
  rw [e2, atT_nat (by omega)]
  unfold atT
  rw [tl, List.getD_eq_getElem?_getD, List.getElem?_take, if_pos (by omega), List.getElem?_eq_getElem (by omega)]
  rfl
end PL
set_option maxHeartbeats 3900000
/-! PLz: whiles; filters; shapes as data -/
namespace PL
open PySem
/-- a while, by what holds ahead of each turn and how many turns there may be -/
theorem p_while {P : Pg} {F : Fn} (mF : FMono F) {c : Ex} {b ss : List Sm} {Dn : Ed} (I : Nat → Env → Prop) {n : Nat} {r : Env} (h0 : I n r)
    (hs : ∀ n r, I n r → wT P F c r (fun k r1 => if k = true then 0 < n ∧ wSs P F b r1 { Dn with nx := fun r2 => I (n - 1) r2, ct := fun r2 => I (n - 1) r2, bk := fun r3 => wSs P F ss r3 Dn } else wSs P F ss r1 Dn) fun _ _ => False) : wSs P F (.whil c b :: ss) r Dn := by
  simp only [wSs, wS]
  refine ⟨n + 1, ?_⟩
  induction n generalizing r with
  | zero =>
    simp only [whP]
    refine wT_mono mF (hs 0 r h0) (fun k r1 h1 => ?_) fun _ _ z => z.elim
    cases k with
    | true => exact absurd h1.1 (Nat.lt_irrefl _)
    | false => exact h1
  | succ n ih =>
    simp only [whP]
    refine wT_mono mF (hs (n + 1) r h0) (fun k r1 h1 => ?_) fun _ _ z => z.elim
    cases k with
    | true =>
      refine monoSs mF b ?_ h1.2
      exact ⟨fun r2 h2 => ih h2, fun _ z => z, fun _ z => z, fun r2 h2 => ih h2, fun _ _ z => z⟩
    | false => exact h1
/-- a for, by its items -/
theorem p_fo {P : Pg} {F : Fn} (mF : FMono F) {g : Tg} {it : It} {b ss : List Sm} {Dn : Ed} {r : Env} (Q : List D → Env → Prop) (hi : wI P F it r Q fun _ _ => False)
    (h : ∀ ds r1, Q ds r1 → loopP (fun x r2 k => wG g (.val x) r2 fun r3 => wSs P F b r3 { Dn with nx := k, ct := k, bk := fun r4 => wSs P F ss r4 Dn }) (fun r4 => wSs P F ss r4 Dn) ds r1) : wSs P F (.fo g it b :: ss) r Dn := by
  simp only [wSs, wS]
  exact wI_mono mF hi (fun ds r1 hq => h ds r1 hq) fun _ _ z => z.elim
theorem fm_filter {al : Type} (f : al → D) (p : al → Bool) (h : al → D) (g : D → Option D) (hg : ∀ a, g (f a) = if p a = true then some (h a) else none) : ∀ l : List al, (l.map f).filterMap g = (l.filter p).map h
  | [] => rfl
  | a :: l => by
    rw [List.map_cons]
    by_cases q : p a = true
    · rw [List.filterMap_cons_some (by rw [hg, if_pos q]), List.filter_cons_of_pos q, List.map_cons, fm_filter f p h g hg l]
    · rw [List.filterMap_cons_none (by rw [hg, if_neg q]), List.filter_cons_of_neg q, fm_filter f p h g hg l]
/-- the first of a rising list -/
theorem first_of {p : Nat → Bool} {l : List Nat} (hs : l.Pairwise (· < ·)) {d : Nat} (hd : d ∈ l) (hp : p d = true) : ∃ a rest, l.filter p = a :: rest ∧ p a = true ∧ a ∈ l ∧ ∀ b ∈ l, p b = true → a ≤ b := by
  have hm : d ∈ l.filter p := List.mem_filter.mpr ⟨hd, hp⟩
  cases e : l.filter p with
  | nil => rw [e] at hm; cases hm
  | cons a rest =>
    have ha : a ∈ l.filter p := by rw [e]; exact List.mem_cons_self
    have hs' := hs.filter p
    rw [e, List.pairwise_cons] at hs'
    refine ⟨a, rest, rfl, (List.mem_filter.mp ha).2, (List.mem_filter.mp ha).1, fun b hb hpb => ?_⟩
    have : b ∈ a :: rest := by rw [← e]; exact List.mem_filter.mpr ⟨hb, hpb⟩
    rcases List.mem_cons.mp this with rfl | h
    · exact Nat.le_refl _
    · exact Nat.le_of_lt (hs'.1 b h)
def upto (n : Nat) : List Nat := (List.range n).map (· + 1)
theorem upto_mem {n d : Nat} : d ∈ upto n ↔ 1 ≤ d ∧ d ≤ n := by
  unfold upto
  rw [List.mem_map]
  constructor
  · rintro ⟨i, hi, rfl⟩
    have := List.mem_range.mp hi
    omega
  · rintro ⟨h1, h2⟩
    exact ⟨d - 1, List.mem_range.mpr (by omega), by omega⟩
theorem upto_pw (n : Nat) : (upto n).Pairwise (· < ·) := by
  unfold upto
  rw [List.pairwise_map]
  exact List.pairwise_lt_range.imp (by omega)
theorem rng_upto (n : Nat) : rngD 1 n = (upto n).map fun d : Nat => D.int (d : Int) := by
  unfold rngD upto
  rw [List.map_map]
  refine List.map_congr_left fun i _ => ?_
  show D.int (1 + (i : Int)) = D.int ((i + 1 : Nat) : Int)
  congr 1
  omega
/-- the shortest text that tells the same -/
theorem shortest_of {t : List Bool} {a : Nat} (hn : t ≠ []) (h1 : 1 ≤ a) (hd : a ∣ t.length) (hp : rep (t.length / a) (t.take a) = t) (hmin : ∀ b, 1 ≤ b → b ∣ t.length → rep (t.length / b) (t.take b) = t → a ≤ b) :
    Prim (t.take a) ∧ (t.take a).length ∣ t.length ∧ ∀ n, atT (t.take a) n = atT t n := by
  have hpos : 0 < t.length := List.length_pos_iff.mpr hn
  have hle : a ≤ t.length := Nat.le_of_dvd hpos hd
  have tl : (t.take a).length = a := by rw [List.length_take]; omega
  have per := (per_iff h1 hd hn).mp hp
  have same := take_at h1 hd hn per
  refine ⟨⟨fun z => by rw [z] at tl; simp at tl; omega, fun d d0 dd dp => ?_⟩, by rw [tl]; exact hd, same⟩
  rw [tl] at dd ⊢
  have dd' : d ∣ t.length := Nat.dvd_trans dd hd
  have := hmin d d0 dd' ((per_iff d0 dd' hn).mpr fun n => by rw [← same, ← same]; exact dp n)
  exact Nat.le_antisymm (Nat.le_of_dvd h1 dd) this
theorem window {t u : List Bool} (ht : Side t) (hu : Side u) (c : Int) (h : ∀ i : Int, c ≤ i → i < c + 60 → atT t i = atT u i) : t = u := by
  refine prim_eq ht.p hu.p fun n => ?_
  have b1 := Int.emod_nonneg (n - c) (show (60 : Int) ≠ 0 by decide)
  have b2 := Int.emod_lt_of_pos (n - c) (show (0 : Int) < 60 by decide)
  have e : n = (c + (n - c) % 60) + 60 * ((n - c) / 60) := by
    have := Int.emod_add_mul_ediv (n - c) 60
    omega
  have e1 := atT_dvd ht.d (c + (n - c) % 60) ((n - c) / 60)
  have e2 := atT_dvd hu.d (c + (n - c) % 60) ((n - c) / 60)
  rw [show ((60 : Nat) : Int) = 60 from rfl, ← e] at e1 e2
  rw [e1, e2]
  exact h _ (by omega) (by omega)
/-- what the program makes of what is told is the one form -/
theorem form_ok {T : Sh} {l r : List Bool} {A En : Nat} (sl : Side l) (sr : Side r) (h1 : ∀ n : Int, n < T.low + A → T.sg n = atT l n) (h2 : ∀ n : Int, T.low + (max A En : Nat) ≤ n → T.sg n = atT r n) (h3 : T.sg (T.low + A) ≠ atT l (T.low + A)) (h4 : A < En → T.sg (T.low + En - 1) ≠ atT r (T.low + En - 1)) (h5 : En ≤ T.m.length) :
    Canon ⟨l, T.low + A, (T.m.drop A).take (max A En - A), r⟩ ∧ (∀ n, (Sh.mk l (T.low + A) ((T.m.drop A).take (max A En - A)) r).sg n = T.sg n) ∧ ((T.m.drop A).take (max A En - A)).length = max A En - A := by
  have ml : ((T.m.drop A).take (max A En - A)).length = max A En - A := by
    rw [List.length_take, List.length_drop]; omega
  have sg : ∀ n, (Sh.mk l (T.low + A) ((T.m.drop A).take (max A En - A)) r).sg n = T.sg n := fun n => by
    by_cases q1 : n < T.low + A
    · rw [Sh.sg_l q1, h1 n q1]
    by_cases q2 : T.low + (max A En : Nat) ≤ n
    · rw [Sh.sg_r (by simp only [Sh.e, ml]; omega), h2 n q2]
    have hi : (n - T.low - A).toNat < ((T.m.drop A).take (max A En - A)).length := by rw [ml]; omega
    have hj : (n - T.low).toNat < T.m.length := by omega
    have e1 := Sh.sg_m (x := Sh.mk l (T.low + A) ((T.m.drop A).take (max A En - A)) r) hi
    have e2 := Sh.sg_m (x := T) hj
    have n1 : T.low + (A : Int) + ((n - T.low - A).toNat : Int) = n := by omega
    have n2 : T.low + ((n - T.low).toNat : Int) = n := by omega
    simp only at e1
    rw [n1] at e1
    rw [n2] at e2
    rw [e1, e2, List.getElem_take, List.getElem_drop]
    congr 1
    omega
  refine ⟨⟨sl, sr, .inr ⟨?_, fun hm => ?_⟩⟩, sg, ml⟩
  · rw [sg]; exact h3
  · rw [sg]
    have hlt : A < En := by
      rcases Nat.lt_or_ge A En with q | q
      · exact q
      · exact absurd (List.length_eq_zero_iff.mp (by rw [ml]; omega)) hm
    simp only [Sh.e, ml]
    have : T.low + (A : Int) + ((max A En - A : Nat) : Int) - 1 = T.low + En - 1 := by omega
    rw [this]
    exact h4 hlt
theorem form_flat {T : Sh} {l : List Bool} (sl : Side l) (h : ∀ n, T.sg n = atT l n) : Canon ⟨l, 0, [], l⟩ ∧ ∀ n, (Sh.mk l 0 [] l).sg n = T.sg n := by
  have sg : ∀ n, (Sh.mk l 0 [] l).sg n = atT l n := fun n => by
    by_cases q : n < 0
    · rw [Sh.sg_l q]
    · rw [Sh.sg_r (by simp only [Sh.e]; simp; omega)]
  exact ⟨⟨sl, sl, .inl ⟨rfl, rfl, rfl⟩⟩, fun n => by rw [sg, h]⟩
/-- a shape as data -/
def encS (x : Sh) : D := .tup [.str (tx x.l), .int x.low, .str (tx x.m), .str (tx x.r)]
/-- signs by a rule, from a place on -/
def tabB (lo : Int) (c : Nat) (g : Int → Bool) : List Bool := (List.range c).map fun i : Nat => g (lo + i)
theorem tab_len (lo : Int) (c : Nat) (g : Int → Bool) : (tabB lo c g).length = c := by unfold tabB; simp
theorem tab_ne {lo : Int} {c : Nat} {g : Int → Bool} (h : 0 < c) : tabB lo c g ≠ [] := fun z => by
  have := tab_len lo c g
  rw [z] at this
  simp at this
  omega
theorem tab_get {lo : Int} {c : Nat} {g : Int → Bool} {i : Nat} (h : i < (tabB lo c g).length) : (tabB lo c g)[i] = g (lo + i) := by
  simp only [tabB, List.getElem_map, List.getElem_range]
theorem atT_tab {c : Nat} {g : Int → Bool} (h0 : 0 < c) (hg : ∀ n k : Int, g (n + c * k) = g n) (n : Int) : atT (tabB 0 c g) n = g n := by
  have b1 := Int.emod_nonneg n (show (c : Int) ≠ 0 by omega)
  have b2 := Int.emod_lt_of_pos n (show (0 : Int) < c by omega)
  have hi : (n % (c : Int)).toNat < (tabB 0 c g).length := by rw [tab_len]; omega
  have e : atT (tabB 0 c g) n = (tabB 0 c g)[(n % (c : Int)).toNat] := by
    unfold atT
    rw [tab_len, List.getD_eq_getElem?_getD, List.getElem?_eq_getElem hi]
    rfl
  rw [e, tab_get]
  have e2 : (0 : Int) + ((n % (c : Int)).toNat : Int) = n % (c : Int) := by omega
  rw [e2]
  have := hg (n % (c : Int)) (n / (c : Int))
  rw [Int.emod_add_mul_ediv] at this
  exact this.symm
theorem comb_ok {x y : Sh} (f : Bool → Bool → Bool) {c d : Nat} {lo hi : Int} (c0 : 0 < c) (d0 : 0 < d) (xc : x.l.length ∣ c) (yc : y.l.length ∣ c) (xd : x.r.length ∣ d) (yd : y.r.length ∣ d) (hx : lo ≤ x.low) (hy : lo ≤ y.low) (ex : x.e ≤ hi) (ey : y.e ≤ hi) (n : Int) :
    (Sh.mk (tabB 0 c fun n => f (atT x.l n) (atT y.l n)) lo (tabB lo (hi - lo).toNat fun n => f (x.sg n) (y.sg n)) (tabB 0 d fun n => f (atT x.r n) (atT y.r n))).sg n = f (x.sg n) (y.sg n) := by
  have lx : x.low ≤ x.e := by unfold Sh.e; omega
  by_cases q1 : n < lo
  · rw [Sh.sg_l q1, Sh.sg_l (x := x) (by omega), Sh.sg_l (x := y) (by omega)]
    exact atT_tab (g := fun n => f (atT x.l n) (atT y.l n)) c0 (fun n k => by rw [atT_dvd xc, atT_dvd yc]) n
  by_cases q2 : hi ≤ n
  · rw [Sh.sg_r (by simp only [Sh.e, tab_len]; omega), Sh.sg_r (x := x) (by omega), Sh.sg_r (x := y) (by omega)]
    exact atT_tab (g := fun n => f (atT x.r n) (atT y.r n)) d0 (fun n k => by rw [atT_dvd xd, atT_dvd yd]) n
  have hi' : (n - lo).toNat < (tabB lo (hi - lo).toNat fun n => f (x.sg n) (y.sg n)).length := by rw [tab_len]; omega
  have e := Sh.sg_m (x := Sh.mk (tabB 0 c fun n => f (atT x.l n) (atT y.l n)) lo (tabB lo (hi - lo).toNat fun n => f (x.sg n) (y.sg n)) (tabB 0 d fun n => f (atT x.r n) (atT y.r n))) hi'
  simp only [tab_get] at e
  have n1 : lo + ((n - lo).toNat : Int) = n := by omega
  rw [n1] at e
  exact e
def mapS (g : Int → Bool) : D → D
  | .int j => .str (tx [g j])
  | _ => .non
theorem rng_tab {lo : Int} {c : Nat} (g : Int → Bool) : (rngD lo c).map (mapS g) = (tabB lo c g).map fun b => D.str (tx [b]) := by
  unfold rngD tabB
  rw [List.map_map, List.map_map]
  rfl
end PL
set_option maxHeartbeats 3900000
/-! PSg: sayings -/
namespace PL
open PySem
inductive Sg where
  | fr (b : Int)
  | to (b : Int)
  | rs (m r : Int)
  | al
  | no
  | nt (s : Sg)
  | bo (s t : Sg)
  | ei (s t : Sg)
def Sg.enc : Sg → D
  | .fr b => .tup [.str "from", .int b]
  | .to b => .tup [.str "to", .int b]
  | .rs m r => .tup [.str "rest", .int m, .int r]
  | .al => .tup [.str "all"]
  | .no => .tup [.str "none"]
  | .nt s => .tup [.str "not", s.enc]
  | .bo s t => .tup [.str "both", s.enc, t.enc]
  | .ei s t => .tup [.str "either", s.enc, t.enc]
def Sg.sz : Sg → Nat
  | .nt s => s.sz + 1
  | .bo s t => s.sz + t.sz + 1
  | .ei s t => s.sz + t.sz + 1
  | _ => 1
def Sg.dp : Sg → Nat
  | .nt s => s.dp + 1
  | .bo s t => max s.dp t.dp + 1
  | .ei s t => max s.dp t.dp + 1
  | _ => 0
def Sg.ok : Sg → Prop
  | .fr b => -99 ≤ b ∧ b ≤ 99
  | .to b => -99 ≤ b ∧ b ≤ 99
  | .rs m r => 2 ≤ m ∧ m ≤ 6 ∧ 0 ≤ r ∧ r < m
  | .nt s => s.ok
  | .bo s t => s.ok ∧ t.ok
  | .ei s t => s.ok ∧ t.ok
  | _ => True
def Sg.mean (n : Int) : Sg → Bool
  | .fr b => decide (b ≤ n)
  | .to b => decide (n ≤ b)
  | .rs m r => decide (n % m = r)
  | .al => true
  | .no => false
  | .nt s => !s.mean n
  | .bo s t => s.mean n && t.mean n
  | .ei s t => s.mean n || t.mean n
theorem eq_t {a b : Int} (h : a = b) : cmD .eq (.int a) (.int b) = some true := by rw [cm_eqi, decide_eq_true h]
theorem eq_f {a b : Int} (h : a ≠ b) : cmD .eq (.int a) (.int b) = some false := by rw [cm_eqi, decide_eq_false h]
theorem lt_t {a b : Int} (h : a < b) : cmD .lt (.int a) (.int b) = some true := by rw [cm_lt, decide_eq_true h]
theorem lt_f {a b : Int} (h : ¬ a < b) : cmD .lt (.int a) (.int b) = some false := by rw [cm_lt, decide_eq_false h]
/-- the side of a remainder -/
def restT (m : Nat) (q : Int) : List Bool := tabB 0 m fun n => decide (n % (m : Int) = q)
theorem restT_at {m : Nat} {q : Int} (h : 0 < m) (n : Int) : atT (restT m q) n = decide (n % (m : Int) = q) := by
  unfold restT
  exact atT_tab (g := fun n => decide (n % (m : Int) = q)) h (fun n k => by rw [Int.add_mul_emod_self_left]) n
theorem rest_side {m : Nat} {q : Int} (h : m ∣ 60) (h0 : 0 < m) (q0 : 0 ≤ q) (q1 : q < m) : Side (restT m q) := by
  have tl : (restT m q).length = m := tab_len _ _ _
  refine ⟨⟨tab_ne h0, fun d d0 dd dp => ?_⟩, by rw [tl]; exact h⟩
  rw [tl] at dd ⊢
  have e := dp q
  rw [restT_at h0, restT_at h0, decide_eq_decide] at e
  have e2 : q % (m : Int) = q := Int.emod_eq_of_lt q0 q1
  have e3 := e.mpr e2
  have dv : (m : Int) ∣ d := by
    have z := Int.emod_add_mul_ediv (q + d) m
    rw [e3] at z
    exact ⟨(q + d) / m, by omega⟩
  exact Nat.le_antisymm (Nat.le_of_dvd h0 dd) (Nat.le_of_dvd d0 (Int.natCast_dvd_natCast.mp dv))
theorem flat_sg {l : List Bool} (n : Int) : (Sh.mk l 0 [] l).sg n = atT l n := by
  by_cases q : n < 0
  · rw [Sh.sg_l q]
  · rw [Sh.sg_r (by simp only [Sh.e]; simp; omega)]
theorem sgn_tx (t : List Bool) : sgnD (tx t) = t.map fun b => D.str (tx [b]) := by
  unfold sgnD
  rw [tx_cps, List.map_map]
  rfl
theorem in_01 (b : Bool) : cmD .isin (.str (tx [b])) (.str "01") = some true := by cases b <;> decide +kernel
end PL
set_option maxHeartbeats 3900000
/-! PSl: how the laws put a row of a thousand signs into the one form; dicts of pairs -/
namespace PL
open PySem
/-- comes again by sixty beyond bounds -/
structure Reg (g : Int → Bool) : Prop where
  lo : ∀ n : Int, n < -100 → g (n - 60) = g n
  hi : ∀ n : Int, 100 ≤ n → g (n + 60) = g n
theorem Reg.los {g : Int → Bool} (h : Reg g) (k : Nat) : ∀ n : Int, n < -100 → g (n - 60 * k) = g n := by
  induction k with
  | zero => intro n _; simp
  | succ k ih =>
    intro n hn
    have e : n - 60 * ((k + 1 : Nat) : Int) = (n - 60 * k) - 60 := by omega
    rw [e, h.lo _ (by omega), ih n hn]
theorem Reg.his {g : Int → Bool} (h : Reg g) (k : Nat) : ∀ n : Int, 100 ≤ n → g (n + 60 * k) = g n := by
  induction k with
  | zero => intro n _; simp
  | succ k ih =>
    intro n hn
    have e : n + 60 * ((k + 1 : Nat) : Int) = (n + 60 * k) + 60 := by omega
    rw [e, h.hi _ (by omega), ih n hn]
theorem reg_mean : ∀ {s : Sg}, s.ok → Reg (fun n => s.mean n)
  | .fr b, ok => by
    have ok' : -99 ≤ b ∧ b ≤ 99 := ok
    refine ⟨fun n hn => ?_, fun n hn => ?_⟩ <;> simp only [Sg.mean, decide_eq_decide] <;> omega
  | .to b, ok => by
    have ok' : -99 ≤ b ∧ b ≤ 99 := ok
    refine ⟨fun n hn => ?_, fun n hn => ?_⟩ <;> simp only [Sg.mean, decide_eq_decide] <;> omega
  | .rs m q, ok => by
    obtain ⟨m1, m2, q1, q2⟩ := (show 2 ≤ m ∧ m ≤ 6 ∧ 0 ≤ q ∧ q < m from ok)
    have hm : m = 2 ∨ m = 3 ∨ m = 4 ∨ m = 5 ∨ m = 6 := by omega
    refine ⟨fun n hn => ?_, fun n hn => ?_⟩ <;> simp only [Sg.mean, decide_eq_decide] <;> rcases hm with rfl | rfl | rfl | rfl | rfl <;> omega
  | .al, _ => ⟨fun _ _ => rfl, fun _ _ => rfl⟩
  | .no, _ => ⟨fun _ _ => rfl, fun _ _ => rfl⟩
  | .nt s, ok => by
    have ih := reg_mean (s := s) ok
    exact ⟨fun n hn => congrArg not (ih.lo n hn), fun n hn => congrArg not (ih.hi n hn)⟩
  | .bo s t, ok => by
    have i1 := reg_mean (s := s) ok.1
    have i2 := reg_mean (s := t) ok.2
    refine ⟨fun n hn => ?_, fun n hn => ?_⟩
    · show (s.mean (n - 60) && t.mean (n - 60)) = (s.mean n && t.mean n)
      rw [show s.mean (n - 60) = s.mean n from i1.lo n hn, show t.mean (n - 60) = t.mean n from i2.lo n hn]
    · show (s.mean (n + 60) && t.mean (n + 60)) = (s.mean n && t.mean n)
      rw [show s.mean (n + 60) = s.mean n from i1.hi n hn, show t.mean (n + 60) = t.mean n from i2.hi n hn]
  | .ei s t, ok => by
    have i1 := reg_mean (s := s) ok.1
    have i2 := reg_mean (s := t) ok.2
    refine ⟨fun n hn => ?_, fun n hn => ?_⟩
    · show (s.mean (n - 60) || t.mean (n - 60)) = (s.mean n || t.mean n)
      rw [show s.mean (n - 60) = s.mean n from i1.lo n hn, show t.mean (n - 60) = t.mean n from i2.lo n hn]
    · show (s.mean (n + 60) || t.mean (n + 60)) = (s.mean n || t.mean n)
      rw [show s.mean (n + 60) = s.mean n from i1.hi n hn, show t.mean (n + 60) = t.mean n from i2.hi n hn]
/-- the signs by remainders of sixty, from a place on -/
def resT (g : Int → Bool) (lo : Int) : List Bool := tabB 0 60 fun i => g (lo + (i - lo) % 60)
theorem resT_len (g : Int → Bool) (lo : Int) : (resT g lo).length = 60 := tab_len _ _ _
theorem resT_at (g : Int → Bool) (lo n : Int) : atT (resT g lo) n = g (lo + (n - lo) % 60) := by
  unfold resT
  refine atT_tab (c := 60) (g := fun i => g (lo + (i - lo) % 60)) (by decide) (fun n k => ?_) n
  have e : (n + ((60 : Nat) : Int) * k - lo) = (n - lo) + 60 * k := by omega
  show g (lo + (n + ((60 : Nat) : Int) * k - lo) % 60) = g (lo + (n - lo) % 60)
  rw [e, Int.add_mul_emod_self_left]
theorem res_left {g : Int → Bool} (h : Reg g) (n : Int) (hn : n < -100) : atT (resT g (-500)) n = g n := by
  rw [resT_at]
  have b1 := Int.emod_nonneg (n - -500) (show (60 : Int) ≠ 0 by decide)
  have b2 := Int.emod_lt_of_pos (n - -500) (show (0 : Int) < 60 by decide)
  have e := Int.emod_add_mul_ediv (n - -500) 60
  rcases Int.le_total 0 ((n - -500) / 60) with z | z
  · have := h.los ((n - -500) / 60).toNat n hn
    rw [← this]
    congr 1
    omega
  · have := h.los (-((n - -500) / 60)).toNat (-500 + (n - -500) % 60) (by omega)
    rw [← this]
    congr 1
    omega
theorem res_right {g : Int → Bool} (h : Reg g) (n : Int) (hn : 100 ≤ n) : atT (resT g 300) n = g n := by
  rw [resT_at]
  have b1 := Int.emod_nonneg (n - 300) (show (60 : Int) ≠ 0 by decide)
  have b2 := Int.emod_lt_of_pos (n - 300) (show (0 : Int) < 60 by decide)
  have e := Int.emod_add_mul_ediv (n - 300) 60
  rcases Int.le_total 0 ((n - 300) / 60) with z | z
  · have := h.his ((n - 300) / 60).toNat (300 + (n - 300) % 60) (by omega)
    rw [← this]
    congr 1
    omega
  · have := h.his (-((n - 300) / 60)).toNat n hn
    rw [← this]
    congr 1
    omega
/-- the law's form is the one form -/
theorem law_flat {g : Int → Bool} {l r : List Bool} (sl : Side l) (sr : Side r) (hl : ∀ n : Int, n < -100 → atT l n = g n) (hr : ∀ n : Int, 100 ≤ n → atT r n = g n) (h : ∀ n : Int, -300 ≤ n → n ≤ 300 → g n = atT l n) : Canon ⟨l, 0, [], l⟩ ∧ ∀ n, (Sh.mk l 0 [] l).sg n = g n := by
  have e : l = r := window sl sr 100 fun i h1 h2 => by rw [hr i h1, h i (by omega) (by omega)]
  subst e
  refine ⟨⟨sl, sl, .inl ⟨rfl, rfl, rfl⟩⟩, fun n => ?_⟩
  rw [flat_sg]
  by_cases q1 : n < -100
  · exact hl n q1
  by_cases q2 : 100 ≤ n
  · exact hr n q2
  exact (h n (by omega) (by omega)).symm
theorem law_form {g : Int → Bool} {l r : List Bool} {L : Int} {c : Nat} (sl : Side l) (sr : Side r) (hl : ∀ n : Int, n < -100 → atT l n = g n) (hr : ∀ n : Int, 100 ≤ n → atT r n = g n) (h1 : -300 ≤ L) (h2 : L + c ≤ 300) (hpre : ∀ n : Int, -300 ≤ n → n < L → g n = atT l n) (hne : g L ≠ atT l L)
    (hsuf : ∀ n : Int, L + c ≤ n → n < 300 → g n = atT r n) (hend : 0 < c → g (L + c - 1) ≠ atT r (L + c - 1)) : Canon ⟨l, L, tabB L c g, r⟩ ∧ ∀ n, (Sh.mk l L (tabB L c g) r).sg n = g n := by
  have tl : (tabB L c g).length = c := tab_len _ _ _
  have sg : ∀ n, (Sh.mk l L (tabB L c g) r).sg n = g n := fun n => by
    by_cases q1 : n < L
    · rw [Sh.sg_l q1]
      by_cases q : n < -100
      · exact hl n q
      · exact (hpre n (by omega) q1).symm
    by_cases q2 : L + c ≤ n
    · rw [Sh.sg_r (by simp only [Sh.e, tl]; exact q2)]
      by_cases q : 100 ≤ n
      · exact hr n q
      · exact (hsuf n q2 (by omega)).symm
    have hi : (n - L).toNat < (tabB L c g).length := by rw [tl]; omega
    have e := Sh.sg_m (x := Sh.mk l L (tabB L c g) r) hi
    simp only [tab_get] at e
    rw [show L + ((n - L).toNat : Int) = n by omega] at e
    exact e
  refine ⟨⟨sl, sr, .inr ⟨?_, fun hm => ?_⟩⟩, sg⟩
  · rw [sg]; exact hne
  · rw [sg]
    simp only [Sh.e, tl]
    refine hend ?_
    rcases Nat.eq_zero_or_pos c with z | z
    · subst z
      exact absurd (List.length_eq_zero_iff.mp tl) hm
    · exact z
theorem cut_tab {g : Int → Bool} {lo : Int} {c i j : Nat} (h : i + j ≤ c) : ((tabB lo c g).drop i).take j = tabB (lo + i) j g := by
  refine List.ext_getElem (by rw [List.length_take, List.length_drop, tab_len, tab_len]; omega) fun m h1 h2 => ?_
  rw [List.getElem_take, List.getElem_drop, tab_get, tab_get]
  congr 1
  rw [Int.natCast_add]
  omega
/-! ### dicts of pairs -/
theorem val_nil (k : L2.Key) : valD [] k = none := rfl
theorem val_cons (p : L2.Key × D) (r : List (L2.Key × D)) (k : L2.Key) : valD (p :: r) k = if p.1 = k then some p.2 else valD r k := by
  unfold valD
  by_cases h : p.1 = k
  · rw [if_pos h, List.find?_cons_of_pos (by simpa using h)]; rfl
  · rw [if_neg h, List.find?_cons_of_neg (by simpa using h)]
theorem val_app (a b : List (L2.Key × D)) (k : L2.Key) : valD (a ++ b) k = match valD a k with | some v => some v | none => valD b k := by
  induction a with
  | nil => rfl
  | cons p a ih =>
    rw [List.cons_append, val_cons, val_cons, ih]
    by_cases h : p.1 = k
    · rw [if_pos h, if_pos h]
    · rw [if_neg h, if_neg h]
theorem val_map (a : List (L2.Key × D)) (k : L2.Key) (v : D) (k' : L2.Key) : valD (a.map fun kv => if kv.1 = k then (kv.1, v) else kv) k' = if k' = k ∧ (a.any fun kv => decide (kv.1 = k)) = true then some v else valD a k' := by
  induction a with
  | nil => simp [valD]
  | cons p a ih =>
    rw [List.map_cons, val_cons, val_cons, ih, List.any_cons]
    by_cases h : p.1 = k
    · subst h
      by_cases q : k' = p.1
      · subst q; simp
      · have q' : ¬ p.1 = k' := fun z => q z.symm
        simp [q, q']
    · by_cases q : k' = k
      · subst q
        have hd : decide (p.1 = k') = false := decide_eq_false h
        simp only [h, if_false, decide_false, Bool.false_or]
      · simp only [h, if_false, q, false_and]
theorem val_none {a : List (L2.Key × D)} {k : L2.Key} (h : ¬ (a.any fun kv => decide (kv.1 = k)) = true) : valD a k = none := by
  induction a with
  | nil => rfl
  | cons p a ih =>
    rw [List.any_cons, Bool.or_eq_true, decide_eq_true_eq] at h
    rw [val_cons, if_neg fun z => h (.inl z), ih fun z => h (.inr z)]
theorem val_put (a : List (L2.Key × D)) (k : L2.Key) (v : D) (k' : L2.Key) : valD (putD a k v) k' = if k' = k then some v else valD a k' := by
  unfold putD
  by_cases h : (a.any fun kv => decide (kv.1 = k)) = true
  · rw [if_pos h, val_map]
    by_cases q : k' = k
    · rw [if_pos ⟨q, h⟩, if_pos q]
    · rw [if_neg fun z => q z.1, if_neg q]
  · rw [if_neg h, val_app, val_cons]
    by_cases q : k' = k
    · subst q
      rw [val_none h, if_pos rfl, if_pos rfl]
    · rw [if_neg q, if_neg fun z => q z.symm]
      cases valD a k' <;> rfl
theorem val_merge (f : L2.Key → D) : ∀ (kvs acc : List (L2.Key × D)), (∀ p ∈ kvs, p.2 = f p.1) → ∀ k, (valD acc k = some (f k) ∨ ∃ p ∈ kvs, p.1 = k) → valD (mergeD acc kvs) k = some (f k)
  | [], acc, _, k, h => by
    rcases h with h | ⟨p, hp, _⟩
    · exact h
    · cases hp
  | p :: kvs, acc, hf, k, h => by
    have e : mergeD acc (p :: kvs) = mergeD (putD acc p.1 p.2) kvs := rfl
    rw [e]
    refine val_merge f kvs _ (fun q hq => hf q (List.mem_cons_of_mem _ hq)) k ?_
    by_cases q : k = p.1
    · left
      rw [val_put, if_pos q, hf p List.mem_cons_self, q]
    · rcases h with h | ⟨p', hp, hk⟩
      · left
        rw [val_put, if_neg q, h]
      · right
        rcases List.mem_cons.mp hp with rfl | hp
        · exact absurd hk.symm q
        · exact ⟨p', hp, hk⟩
theorem bi_dict (ps : List D) : biD .dict [.lst ps] = (pairsD ps).map fun kvs => R.val (.dic (mergeD [] kvs)) := rfl
theorem pairs_map {al : Type} (l : List al) (f : al → Int) (g : al → D) : pairsD (l.map fun a => .tup [.int (f a), g a]) = some (l.map fun a => (.inl (f a), g a)) := by
  induction l with
  | nil => rfl
  | cons a l ih => rw [List.map_cons, pairsD, keyD, Option.bind_some, ih]; rfl
end PL
set_option maxHeartbeats 3900000
/-! PSy: repr of sayings and shapes -/
namespace PL
open PySem
theorem fitE_mono : ∀ {n m : Nat} {d : D}, n ≤ m → fitE n d = true → fitE m d = true := by
  have main : ∀ (n : Nat), (∀ (m : Nat) (d : D), n ≤ m → fitE n d = true → fitE m d = true) := by
    intro n
    induction n with
    | zero =>
      intro m d _ h
      cases d with
      | non => unfold fitE; rfl
      | bl b => unfold fitE; rfl
      | int i => unfold fitE; rfl
      | str x => unfold fitE at h ⊢; exact h
      | lst xs => unfold fitE at h; cases h
      | tup xs => unfold fitE at h; cases h
      | dic k => unfold fitE at h; cases h
      | pot => unfold fitE at h; cases h
      | scr x => unfold fitE at h; cases h
    | succ n ih =>
      intro m d hm h
      obtain ⟨j, rfl⟩ : ∃ j, m = j + 1 := ⟨m - 1, by omega⟩
      have all : ∀ xs : List D, fitEs n xs = true → fitEs j xs = true := by
        intro xs
        induction xs with
        | nil => intro _; unfold fitEs; rfl
        | cons x xs ihx =>
          intro hx
          unfold fitEs at hx ⊢
          rw [Bool.and_eq_true] at hx
          rw [ih j x (by omega) hx.1, ihx hx.2]; rfl
      cases d with
      | lst xs => unfold fitE at h ⊢; exact all xs h
      | tup xs => unfold fitE at h ⊢; exact all xs h
      | str x => unfold fitE at h ⊢; exact h
      | non => unfold fitE; rfl
      | bl b => unfold fitE; rfl
      | int i => unfold fitE; rfl
      | dic k => unfold fitE at h; cases h
      | pot => unfold fitE at h; cases h
      | scr x => unfold fitE at h; cases h
  exact fun {n m d} => main n m d
theorem fit_enc : ∀ s : Sg, fitE (s.dp + 1) s.enc = true
  | .fr b => by simp only [Sg.enc, Sg.dp, fitE, fitEs]; decide +kernel
  | .to b => by simp only [Sg.enc, Sg.dp, fitE, fitEs]; decide +kernel
  | .rs m q => by simp only [Sg.enc, Sg.dp, fitE, fitEs]; decide +kernel
  | .al => by decide +kernel
  | .no => by decide +kernel
  | .nt s => by
    have i1 := fit_enc s
    simp only [Sg.enc, Sg.dp, fitE, fitEs, i1, Bool.and_true]
    decide +kernel
  | .bo s t => by
    have i1 := fitE_mono (m := max s.dp t.dp + 1) (by omega) (fit_enc s)
    have i2 := fitE_mono (m := max s.dp t.dp + 1) (by omega) (fit_enc t)
    simp only [Sg.enc, Sg.dp, fitE, fitEs, i1, i2, Bool.and_true]
    decide +kernel
  | .ei s t => by
    have i1 := fitE_mono (m := max s.dp t.dp + 1) (by omega) (fit_enc s)
    have i2 := fitE_mono (m := max s.dp t.dp + 1) (by omega) (fit_enc t)
    simp only [Sg.enc, Sg.dp, fitE, fitEs, i1, i2, Bool.and_true]
    decide +kernel
theorem small_enc : ∀ {s : Sg}, s.ok → smallE s.enc = true ∧ wgtE s.enc ≤ 200 * s.sz
  | .fr b, ok => by
    have ok' : -99 ≤ b ∧ b ≤ 99 := ok
    have e : (Str.ofString "from").cps.size = 4 := by decide +kernel
    have h : b.natAbs < 10 ^ 12 := by omega
    simp only [Sg.enc, Sg.sz, smallE, smallEs, wgtE, wgtEs, e, h, decide_true, Bool.and_true, Bool.and_self, true_and]
    decide
  | .to b, ok => by
    have ok' : -99 ≤ b ∧ b ≤ 99 := ok
    have e : (Str.ofString "to").cps.size = 2 := by decide +kernel
    have h : b.natAbs < 10 ^ 12 := by omega
    simp only [Sg.enc, Sg.sz, smallE, smallEs, wgtE, wgtEs, e, h, decide_true, Bool.and_true, Bool.and_self, true_and]
    decide
  | .rs m q, ok => by
    obtain ⟨m1, m2, q1, q2⟩ := (show 2 ≤ m ∧ m ≤ 6 ∧ 0 ≤ q ∧ q < m from ok)
    have e : (Str.ofString "rest").cps.size = 4 := by decide +kernel
    have h1 : m.natAbs < 10 ^ 12 := by omega
    have h2 : q.natAbs < 10 ^ 12 := by omega
    simp only [Sg.enc, Sg.sz, smallE, smallEs, wgtE, wgtEs, e, h1, h2, decide_true, Bool.and_true, Bool.and_self, true_and]
    decide
  | .al, _ => ⟨by decide +kernel, by decide +kernel⟩
  | .no, _ => ⟨by decide +kernel, by decide +kernel⟩
  | .nt s, ok => by
    obtain ⟨i1, i2⟩ := small_enc (s := s) ok
    have e : (Str.ofString "not").cps.size = 3 := by decide +kernel
    simp only [Sg.enc, Sg.sz, smallE, smallEs, wgtE, wgtEs, e, i1, Bool.and_true, true_and]
    omega
  | .bo s t, ok => by
    obtain ⟨i1, i2⟩ := small_enc (s := s) ok.1
    obtain ⟨j1, j2⟩ := small_enc (s := t) ok.2
    have e : (Str.ofString "both").cps.size = 4 := by decide +kernel
    simp only [Sg.enc, Sg.sz, smallE, smallEs, wgtE, wgtEs, e, i1, j1, Bool.and_true, true_and]
    omega
  | .ei s t, ok => by
    obtain ⟨i1, i2⟩ := small_enc (s := s) ok.1
    obtain ⟨j1, j2⟩ := small_enc (s := t) ok.2
    have e : (Str.ofString "either").cps.size = 6 := by decide +kernel
    simp only [Sg.enc, Sg.sz, smallE, smallEs, wgtE, wgtEs, e, i1, j1, Bool.and_true, true_and]
    omega
theorem repr_enc {s : Sg} (ok : s.ok) (hd : s.dp ≤ 50) (hz : s.sz ≤ 1000) : biRepr [s.enc] = some (.val (.str (shw s.enc))) := by
  obtain ⟨h1, h2⟩ := small_enc ok
  exact (repr_ok (fit_enc s) (by omega) h1 (by omega)).1
theorem strok_tx (t : List Bool) : (PyData.str (tx t)).canLay0 = true := by
  show ((tx t).cps.all (· < 0x110000)) = true
  rw [← Array.all_toList, tx_cps, List.all_map, List.all_eq_true]
  intro b _
  cases b <;> rfl
theorem tx_size (t : List Bool) : (tx t).cps.size = t.length := tx_len t
theorem sh_small {x : Sh} (c : Canon x) (h1 : -100000 ≤ x.low) (h2 : x.e ≤ 100000) : fitE 1 (encS x) = true ∧ smallE (encS x) = true ∧ wgtE (encS x) ≤ 200200 := by
  have he : x.e = x.low + x.m.length := rfl
  have l1 := c.hl.le
  have l2 := c.hr.le
  have h : x.low.natAbs < 10 ^ 12 := by omega
  refine ⟨?_, ?_, ?_⟩
  · unfold encS
    simp only [fitE, fitEs, strok_tx, Bool.and_self]
  · unfold encS
    simp only [smallE, smallEs, h, decide_true, Bool.and_self]
  · unfold encS
    simp only [wgtE, wgtEs, tx_size]
    omega
theorem repr_sh {x : Sh} (c : Canon x) (h1 : -100000 ≤ x.low) (h2 : x.e ≤ 100000) : biRepr [encS x] = some (.val (.str (shw (encS x)))) := by
  obtain ⟨a, b, d⟩ := sh_small c h1 h2
  exact (repr_ok a (by decide) b (by omega)).1
theorem repr_sh2 {x : Sh} (c : Canon x) (h1 : -100000 ≤ x.low) (h2 : x.e ≤ 100000) : biRepr [.lst [encS x, encS x]] = some (.val (.str (shw (.lst [encS x, encS x])))) := by
  obtain ⟨a, b, d⟩ := sh_small c h1 h2
  refine (repr_ok (n := 2) ?_ (by decide) ?_ ?_).1
  · simp only [fitE, fitEs, a, Bool.and_self]
  · simp only [smallE, smallEs, b, Bool.and_self]
  · simp only [wgtE, wgtEs]
    omega
end PL
set_option maxHeartbeats 3900000
/-! PSo: letters in order, the least letter of a set -/
namespace PL
open PySem
def row3 (l : Int) : D := .tup [.int (if 0 - l > l then 0 - l else l), .int (if decide (l < 0) = true then 1 else 0), .int l]
theorem toPy_row3 (l : Int) : toPy (row3 l) = .tuple [.int (if 0 - l > l then 0 - l else l), .int (if decide (l < 0) = true then 1 else 0), .int l] := by
  unfold row3
  simp only [toPy, toPys]
theorem lt_row3 (a b : Int) : PySem.W.dataLt (toPy (row3 a)) (toPy (row3 b)) = decide (rk a < rk b) := by
  rw [toPy_row3, toPy_row3, PySem.W.dataLt_tuple, PySem.W.dataLt_cons (by simp [PySem.W.alike]), PySem.W.dataLt_cons (by simp [PySem.W.alike]), PySem.W.dataLt_cons (by simp [PySem.W.alike]), PySem.W.dataLt_int, PySem.W.dataLt_int, PySem.W.dataLt_int]
  have e1 : ∀ x y : Int, PyData.eqv (.int x) (.int y) = decide (x = y) := fun x y => by
    simp only [PyData.eqv]; rw [Bool.eq_iff_iff]; simp
  rw [e1, e1, e1]
  by_cases q : a = b
  · subst q
    simp only [decide_true, if_true, Nat.lt_irrefl, decide_false]
    exact PyProof.Rows.lex_irrefl _
  · simp only [q, decide_false, Bool.false_eq_true, if_false]
    unfold rk
    by_cases q1 : a < 0 <;> by_cases q2 : b < 0 <;> simp only [q1, q2, decide_true, decide_false, if_true, if_false, Bool.false_eq_true]
    all_goals
      (repeat' split) <;> simp only [decide_eq_true_eq] at * <;> (try rw [decide_eq_decide]) <;> omega
def sortL (ls : List Int) : List Int := ls.mergeSort fun a b => decide (rk a ≤ rk b)
theorem le_row3 (a b : Int) : PySem.W.dataLe false (fun x => toPy (id x)) (row3 a) (row3 b) = decide (rk a ≤ rk b) := by
  show (!PySem.W.dataLt (toPy (row3 b)) (toPy (row3 a))) = _
  rw [lt_row3, Bool.eq_iff_iff]; simp
theorem srt_rows3 (ls : List Int) : srtD id (ls.map row3) = (sortL ls).map row3 := by
  unfold srtD sortL
  exact (List.map_mergeSort fun a _ b _ => (le_row3 a b).symm).symm
theorem sortL_perm (ls : List Int) : (sortL ls).Perm ls := List.mergeSort_perm _ _
theorem rows3_ok {ls : List Int} (hl : ls.length ≤ 5000) : biD .sorted [.lst (ls.map row3)] = some (.own ((sortL ls).map row3)) := by
  have hlim : lim = 16777216 := rfl
  have f1 : ∀ l : Int, fitE 2 (row3 l) = true := fun l => by unfold row3; simp [fitE, fitEs]
  have f : fitEs 2 (ls.map row3) = true := fitEs_all fun d hd => by
    obtain ⟨w, _, rfl⟩ := List.mem_map.mp hd
    exact f1 w
  have s : srtOk (toPys (ls.map row3)) = true := by
    have mem : ∀ d ∈ toPys (ls.map row3), ∃ w : Int, d = toPy (row3 w) := fun d hd => by
      rw [toPys_map] at hd
      obtain ⟨x, hx, rfl⟩ := List.mem_map.mp hd
      obtain ⟨w, _, rfl⟩ := List.mem_map.mp hx
      exact ⟨w, rfl⟩
    unfold srtOk
    simp only [Bool.and_eq_true, Bool.or_eq_true, List.all_eq_true, decide_eq_true_eq]
    refine ⟨⟨⟨fun d hd e he => ?_, .inl fun d hd => ?_⟩, fun d hd => ?_⟩, ?_⟩
    · obtain ⟨w, rfl⟩ := mem d hd
      obtain ⟨u, rfl⟩ := mem e he
      rw [toPy_row3, toPy_row3]
      simp [PySem.W.alike, PySem.W.alikeAll]
    · obtain ⟨w, rfl⟩ := mem d hd
      rw [toPy_row3]
      rfl
    · obtain ⟨w, rfl⟩ := mem d hd
      have := (fitE_ok (f1 w)).2.2
      omega
    · rw [toPys_map]; simp; omega
  show (if plains (ls.map row3) = true ∧ srtOk (toPys (ls.map row3)) = true then some (R.own (srtD id (ls.map row3))) else none) = _
  rw [if_pos ⟨(fitEs_ok f).1, s⟩, srt_rows3]
theorem sortL_head {ls : List Int} (h : ls ≠ []) : ∃ a rest, sortL ls = a :: rest ∧ a ∈ ls ∧ ∀ b ∈ ls, rk a ≤ rk b := by
  have p := sortL_perm ls
  cases e : sortL ls with
  | nil => rw [e] at p; exact absurd p.symm.eq_nil h
  | cons a rest =>
    rw [e] at p
    have w : (sortL ls).Pairwise fun a b => decide (rk a ≤ rk b) = true := List.pairwise_mergeSort (fun a b c h1 h2 => by simp only [decide_eq_true_eq] at *; omega) (fun a b => by simp only [Bool.or_eq_true, decide_eq_true_eq]; omega) ls
    rw [e, List.pairwise_cons] at w
    refine ⟨a, rest, rfl, p.mem_iff.mp List.mem_cons_self, fun b hb => ?_⟩
    rcases List.mem_cons.mp (p.mem_iff.mpr hb) with rfl | hb
    · exact Nat.le_refl _
    · exact of_decide_eq_true (w.1 b hb)
/-- the least letter of a set, or none -/
def Least (f : Int → Bool) (d : D) : Prop := (d = .non ∧ ∀ n, f n = false) ∨ ∃ a, d = .int a ∧ f a = true ∧ ∀ b, f b = true → rk a ≤ rk b
theorem least_one {f : Int → Bool} {d e : D} (h1 : Least f d) (h2 : Least f e) : d = e := by
  rcases h1 with ⟨rfl, h1⟩ | ⟨a, rfl, a1, a2⟩ <;> rcases h2 with ⟨rfl, h2⟩ | ⟨b, rfl, b1, b2⟩
  · rfl
  · rw [h1] at b1; cases b1
  · rw [h2] at a1; cases a1
  · have := rk_inj (Nat.le_antisymm (a2 b b1) (b2 a a1))
    rw [this]
theorem least_congr {f g : Int → Bool} {d : D} (h : ∀ n, f n = g n) (l : Least f d) : Least g d := by
  have e : f = g := funext h
  rw [← e]; exact l
/-- a set whose letters beyond a bound come nearer -/
theorem near {f : Int → Bool} {B : Nat} (hn : ∀ n : Int, (B : Int) < n.natAbs → f n = true → ∃ m : Int, m.natAbs < n.natAbs ∧ f m = true) : ∀ (n : Int), f n = true → ∃ m : Int, m.natAbs ≤ B ∧ m.natAbs ≤ n.natAbs ∧ f m = true := by
  have main : ∀ (c : Nat) (n : Int), n.natAbs = c → f n = true → ∃ m : Int, m.natAbs ≤ B ∧ m.natAbs ≤ n.natAbs ∧ f m = true := by
    intro c
    induction c using Nat.strongRecOn with
    | ind c ih =>
      intro n hc h
      by_cases q : n.natAbs ≤ B
      · exact ⟨n, q, Nat.le_refl _, h⟩
      · obtain ⟨m, m1, m2⟩ := hn n (by omega) h
        obtain ⟨u, u1, u2, u3⟩ := ih m.natAbs (by omega) m rfl m2
        exact ⟨u, u1, by omega, u3⟩
  exact fun n h => main _ n rfl h
theorem rk_abs {a b : Int} (h : a.natAbs < b.natAbs) : rk a ≤ rk b := by unfold rk; split <;> split <;> omega
/-- the least of a list that has all letters within a bound -/
theorem least_list {f : Int → Bool} {B : Nat} {ls : List Int} (hn : ∀ n : Int, (B : Int) < n.natAbs → f n = true → ∃ m : Int, m.natAbs < n.natAbs ∧ f m = true) (h1 : ∀ a ∈ ls, f a = true) (h2 : ∀ a : Int, a.natAbs ≤ B → f a = true → a ∈ ls) :
    (ls = [] → Least f .non) ∧ ∀ a rest, sortL ls = a :: rest → Least f (.int a) := by
  refine ⟨fun e => .inl ⟨rfl, fun n => ?_⟩, fun a rest e => .inr ⟨a, rfl, ?_⟩⟩
  · cases q : f n with
    | false => rfl
    | true =>
      obtain ⟨m, m1, _, m3⟩ := near hn n q
      have := h2 m m1 m3
      rw [e] at this; cases this
  · have p := sortL_perm ls
    have ne : ls ≠ [] := fun z => by rw [z, show sortL [] = [] by simp [sortL]] at e; cases e
    obtain ⟨a', rest', e', m1, m2⟩ := sortL_head ne
    rw [e] at e'
    injection e' with e1 e2
    subst e1
    refine ⟨h1 a m1, fun b hb => ?_⟩
    by_cases q : b.natAbs ≤ B
    · exact m2 b (h2 b q hb)
    · obtain ⟨m, n1, n2, n3⟩ := near hn b hb
      have := m2 m (h2 m n1 n3)
      have := rk_abs (a := m) (b := b) (by omega)
      omega
theorem reg_near {g : Int → Bool} (h : Reg g) {by_ : Int} (hb : -120 ≤ by_ ∧ by_ ≤ 120) {B : Nat} (hB : 160 + by_.natAbs ≤ B) (n : Int) (hn : (B : Int) < n.natAbs) (hg : g (n - by_) = true) : ∃ m : Int, m.natAbs < n.natAbs ∧ g (m - by_) = true := by
  by_cases q : 0 < n
  · have := h.hi (n - by_ - 60) (by omega)
    rw [show n - by_ - 60 + 60 = n - by_ by omega, hg] at this
    exact ⟨n - 60, by omega, by rw [show n - 60 - by_ = n - by_ - 60 by omega]; exact this.symm⟩
  · have := h.lo (n - by_ + 60) (by omega)
    rw [show n - by_ + 60 - 60 = n - by_ by omega, hg] at this
    exact ⟨n + 60, by omega, by rw [show n + 60 - by_ = n - by_ + 60 by omega]; exact this.symm⟩
/-- no letter near, no letter at all -/
theorem sh_near {x : Sh} (c : Canon x) {F : Nat} (hF : x.low.natAbs + x.l.length ≤ F) (hG : x.e.natAbs + x.r.length ≤ F) (n : Int) (hn : (F : Int) < n.natAbs) (hg : x.sg n = true) : ∃ m : Int, m.natAbs < n.natAbs ∧ x.sg m = true := by
  have lp := c.hl.pos
  have rp := c.hr.pos
  have hle : x.low ≤ x.e := by unfold Sh.e; omega
  by_cases q : 0 < n
  · refine ⟨n - x.r.length, by omega, ?_⟩
    rw [Sh.sg_r (by omega)] at hg ⊢
    have := atT_per x.r (n - x.r.length) 1
    rw [show n - (x.r.length : Int) + x.r.length * 1 = n by omega] at this
    rw [← this]; exact hg
  · refine ⟨n + x.l.length, by omega, ?_⟩
    rw [Sh.sg_l (by omega)] at hg ⊢
    have := atT_per x.l n 1
    rw [Int.mul_one] at this
    rw [this]; exact hg
theorem sh_none {x : Sh} (c : Canon x) {F : Nat} (hF : x.low.natAbs + x.l.length ≤ F) (hG : x.e.natAbs + x.r.length ≤ F) (h : ∀ b : Int, b.natAbs ≤ F → x.sg b = false) (n : Int) : x.sg n = false := by
  cases q : x.sg n with
  | false => rfl
  | true =>
    obtain ⟨m, m1, _, m3⟩ := near (sh_near c hF hG) n q
    rw [h m m1] at m3; cases m3
theorem rng_cons (lo : Int) (n : Nat) : rngD lo (n + 1) = .int lo :: rngD (lo + 1) n := by
  unfold rngD
  rw [List.range_succ_eq_map, List.map_cons, List.map_map]
  congr 1
  · simp
  · refine List.map_congr_left fun i _ => ?_
    show D.int (lo + ((i + 1 : Nat) : Int)) = D.int (lo + 1 + i)
    congr 1
    omega
theorem loop_rng {step : D → Env → (Env → Prop) → Prop} {fin : Env → Prop} (I : Int → Env → Prop) : ∀ {n : Nat} {lo : Int} {r : Env}, I lo r → (∀ j r k, lo ≤ j → j < lo + n → I j r → (∀ r', I (j + 1) r' → k r') → step (.int j) r k) → (∀ r, I (lo + n) r → fin r) → loopP step fin (rngD lo n) r
  | 0, lo, r, h, _, hf => hf r (by simpa using h)
  | n + 1, lo, r, h, hs, hf => by
    rw [rng_cons]
    refine hs lo r _ (by omega) (by omega) h fun r' h' => loop_rng I h' (fun j r k h1 h2 h3 h4 => hs j r k (by omega) (by omega) h3 h4) fun r h => hf r ?_
    rw [show lo + ((n + 1 : Nat) : Int) = lo + 1 + n by omega]; exact h
/-- the letters of a set from a number on -/
def filtG (g : Int → Bool) : D → Option D
  | .int n => if g n = true then some (.int n) else none
  | _ => none
def rngL (lo : Int) (n : Nat) (g : Int → Bool) : List Int := ((List.range n).filter fun i : Nat => g (lo + i)).map fun i : Nat => lo + (i : Int)
theorem rng_fm (lo : Int) (n : Nat) (g : Int → Bool) : (rngD lo n).filterMap (filtG g) = (rngL lo n g).map D.int := by
  unfold rngD rngL
  rw [fm_filter (fun i : Nat => D.int (lo + i)) (fun i : Nat => g (lo + i)) (fun i : Nat => D.int (lo + i)) (filtG g) (fun a => rfl), List.map_map]
  rfl
theorem rngL_mem {lo : Int} {n : Nat} {g : Int → Bool} {a : Int} : a ∈ rngL lo n g ↔ lo ≤ a ∧ a < lo + n ∧ g a = true := by
  unfold rngL
  rw [List.mem_map]
  constructor
  · rintro ⟨i, hi, rfl⟩
    rw [List.mem_filter, List.mem_range] at hi
    exact ⟨by omega, by omega, hi.2⟩
  · rintro ⟨h1, h2, h3⟩
    refine ⟨(a - lo).toNat, List.mem_filter.mpr ⟨List.mem_range.mpr (by omega), ?_⟩, by omega⟩
    rw [show lo + ((a - lo).toNat : Int) = a by omega]; exact h3
theorem rngL_len (lo : Int) (n : Nat) (g : Int → Bool) : (rngL lo n g).length ≤ n := by
  unfold rngL
  rw [List.length_map]
  have := List.length_filter_le (fun i : Nat => g (lo + i)) (List.range n)
  rwa [List.length_range] at this
theorem ne_nill {w : List Int} : cmD .ne (.lst (w.map D.int)) (.lst []) = some (!w.isEmpty) := by
  have h1 : okE (.lst (w.map D.int)) := okE_fit (n := 2) (by unfold fitE; exact fit_ints w) (by decide)
  have h2 : okE (.lst []) := okE_fit (n := 1) rfl (by decide)
  simp only [cmD, eqD_ok h1 h2, Option.map_some]
  cases w <;> rfl
/-- near ones, or none -/
def lowD (d : D) : Prop := d = .non ∨ ∃ a : Int, d = .int a ∧ a.natAbs ≤ 1000000
theorem repr_low {d : D} (h : lowD d) : biRepr [d] = some (.val (.str (shw d))) := by
  rcases h with rfl | ⟨a, rfl, ha⟩
  · exact (repr_ok (n := 1) rfl (by decide) rfl (by decide)).1
  · have h : a.natAbs < 10 ^ 12 := by omega
    exact (repr_ok (n := 1) rfl (by decide) (by simp only [smallE, h, decide_true]) (by simp [wgtE])).1
theorem repr_low2 {d : D} (h : lowD d) : biRepr [.lst [d, d]] = some (.val (.str (shw (.lst [d, d])))) := by
  rcases h with rfl | ⟨a, rfl, ha⟩
  · exact (repr_ok (n := 2) rfl (by decide) rfl (by decide)).1
  · have h : a.natAbs < 10 ^ 12 := by omega
    exact (repr_ok (n := 2) rfl (by decide) (by simp only [smallE, smallEs, h, decide_true, Bool.and_self]) (by simp [wgtE, wgtEs])).1
end PL
set_option maxHeartbeats 3900000
/-! PSc: how many letters of a set there are -/
namespace PL
open PySem
theorem same_1 (b : Bool) : (if Spec.same (.str ⟨#[sgc b]⟩) (.str ⟨#[49]⟩) = true then (1 : Int) else 0) = if b = true then 1 else 0 := by
  cases b <;> decide +kernel
theorem count_list : ∀ t : List Bool, PyProof.Rows.cnt 49 (t.map sgc) = ((t.count true : Nat) : Int)
  | [] => rfl
  | b :: t => by
    have ih := count_list t
    unfold PyProof.Rows.cnt at ih ⊢
    rw [List.map_cons, List.map_cons, Spec.countIn, ih, same_1]
    cases b
    · simp
    · simp; omega
theorem count_tx (t : List Bool) : Txt.count (tx t) (Str.ofString "1") = ((t.count true : Nat) : Int) := by
  have e : Str.ofString "1" = ⟨#[49]⟩ := by decide +kernel
  rw [e, PyProof.Rows.count_cnt, tx_cps, count_list]
theorem mt_count_tx (t : List Bool) : mtD .count (.str (tx t)) [.str (Str.ofString "1")] = some (.val (.int ((t.count true : Nat) : Int))) := by
  show some (R.val (.int (Txt.count (tx t) (Str.ofString "1")))) = _
  rw [count_tx]
def cntN (g : Int → Bool) : Int → Nat → Nat
  | _, 0 => 0
  | lo, n + 1 => (if g lo = true then 1 else 0) + cntN g (lo + 1) n
theorem cnt_add (g : Int → Bool) : ∀ (m n : Nat) (lo : Int), cntN g lo (m + n) = cntN g lo m + cntN g (lo + m) n
  | 0, n, lo => by simp [cntN]
  | m + 1, n, lo => by
    rw [show m + 1 + n = (m + n) + 1 by omega, cntN, cntN, cnt_add g m n (lo + 1), show lo + 1 + (m : Int) = lo + ((m + 1 : Nat) : Int) by omega]
    omega
theorem cnt_congr {g h : Int → Bool} : ∀ {n : Nat} {lo : Int}, (∀ i, lo ≤ i → i < lo + n → g i = h i) → cntN g lo n = cntN h lo n
  | 0, lo, _ => rfl
  | n + 1, lo, e => by
    rw [cntN, cntN, e lo (by omega) (by omega), cnt_congr (n := n) (lo := lo + 1) fun i h1 h2 => e i (by omega) (by omega)]
theorem cnt_trans (g : Int → Bool) (c : Int) : ∀ (n : Nat) (lo : Int), cntN (fun i => g (c + i)) lo n = cntN g (c + lo) n
  | 0, lo => rfl
  | n + 1, lo => by
    rw [cntN, cntN, cnt_trans g c n (lo + 1), Int.add_assoc]
theorem cnt_shift {g : Int → Bool} {p : Int} (hp : ∀ n, g (n + p) = g n) (n : Nat) (lo : Int) : cntN g (lo + p) n = cntN g lo n := by
  have := cnt_trans g p n lo
  rw [Int.add_comm lo p, ← this]
  exact cnt_congr fun i _ _ => by rw [Int.add_comm]; exact hp i
theorem cnt_step {g : Int → Bool} {p : Nat} (hp : ∀ n : Int, g (n + p) = g n) (lo : Int) : cntN g (lo + 1) p = cntN g lo p := by
  have e1 : cntN g lo (p + 1) = (if g lo = true then 1 else 0) + cntN g (lo + 1) p := rfl
  have e2 := cnt_add g p 1 lo
  have e3 : cntN g (lo + p) 1 = if g (lo + p) = true then 1 else 0 := rfl
  rw [e3, hp] at e2
  omega
theorem cnt_round {g : Int → Bool} {p : Nat} (hp : ∀ n : Int, g (n + p) = g n) (lo : Int) : cntN g lo p = cntN g 0 p := by
  have nat : ∀ (j : Nat) (lo : Int), cntN g (lo + j) p = cntN g lo p := by
    intro j
    induction j with
    | zero => intro lo; simp
    | succ j ih =>
      intro lo
      rw [show lo + ((j + 1 : Nat) : Int) = (lo + j) + 1 by omega, cnt_step hp, ih]
  rcases Int.eq_nat_or_neg lo with ⟨j, rfl | rfl⟩
  · have := nat j 0
    rwa [Int.zero_add] at this
  · have := nat j (-(j : Int))
    rw [← this, show -(j : Int) + j = 0 by omega]
theorem cnt_rounds {g : Int → Bool} {p : Nat} (hp : ∀ n : Int, g (n + p) = g n) (r : Nat) : ∀ (q : Nat) (lo : Int), cntN g lo (p * q + r) = q * cntN g 0 p + cntN g lo r
  | 0, lo => by simp
  | q + 1, lo => by
    rw [show p * (q + 1) + r = p + (p * q + r) by rw [Nat.mul_add]; omega, cnt_add, cnt_round hp, cnt_rounds hp r q (lo + p), cnt_shift hp, Nat.add_mul]
    omega
theorem cnt_list {g : Int → Bool} : ∀ {t : List Bool} {lo : Int}, (∀ (i : Nat) (h : i < t.length), g (lo + i) = t[i]) → t.count true = cntN g lo t.length
  | [], _, _ => rfl
  | b :: t, lo, h => by
    have h0 := h 0 (by simp)
    have ih := cnt_list (g := g) (t := t) (lo := lo + 1) fun i hi => by
      have := h (i + 1) (by simpa using hi)
      rw [show lo + 1 + (i : Int) = lo + ((i + 1 : Nat) : Int) by omega, this]
      rfl
    rw [List.length_cons, cntN, ← ih]
    have e : g lo = b := by simpa using h0
    rw [e, List.count_cons]
    cases b
    · simp
    · simp; omega
theorem rngL_cnt (g : Int → Bool) : ∀ (n : Nat) (lo : Int), (rngL lo n g).length = cntN g lo n
  | 0, lo => rfl
  | n + 1, lo => by
    have ih := rngL_cnt g n (lo + 1)
    unfold rngL at ih ⊢
    rw [List.length_map] at ih ⊢
    rw [List.range_succ_eq_map, cntN, ← ih, List.filter_cons, List.filter_map, Function.comp_def]
    have e : (fun i : Nat => g (lo + ((i + 1 : Nat) : Int))) = fun i : Nat => g (lo + 1 + (i : Int)) := funext fun i => by
      rw [show lo + ((i + 1 : Nat) : Int) = lo + 1 + i by omega]
    have e0 : lo + ((0 : Nat) : Int) = lo := by simp
    rw [e0]
    simp only [Nat.succ_eq_add_one, e]
    by_cases q : g lo = true
    · rw [if_pos q, if_pos q, List.length_cons, List.length_map]; omega
    · rw [if_neg q, if_neg q, List.length_map]; omega
theorem cnt_pair (f g : Int → Bool) : ∀ (n : Nat) (lo : Int), cntN f lo n + cntN g lo n = cntN (fun i => f i && g i) lo n + cntN (fun i => f i || g i) lo n
  | 0, _ => rfl
  | n + 1, lo => by
    have := cnt_pair f g n (lo + 1)
    have hf : f lo = true ∨ f lo = false := by cases f lo <;> simp
    have hg : g lo = true ∨ g lo = false := by cases g lo <;> simp
    rcases hf with hf | hf <;> rcases hg with hg | hg <;> simp only [cntN, hf, hg, Bool.and_self, Bool.or_self, Bool.and_false, Bool.false_and, Bool.or_true, Bool.true_or, Bool.or_false, Bool.false_or, if_true, if_false, Bool.false_eq_true] <;> omega
theorem cnt_not (f : Int → Bool) : ∀ (n : Nat) (lo : Int), cntN f lo n + cntN (fun i => !f i) lo n = n
  | 0, _ => rfl
  | n + 1, lo => by
    have := cnt_not f n (lo + 1)
    have hf : f lo = true ∨ f lo = false := by cases f lo <;> simp
    rcases hf with hf | hf <;> simp only [cntN, hf, Bool.not_true, Bool.not_false, if_true, if_false, Bool.false_eq_true] <;> omega
/-- how many letters of a shape there are, part by part -/
theorem many_sum (x : Sh) (lo H : Int) : cntN x.sg lo (H - lo).toNat = cntN (atT x.l) lo (min H x.low - lo).toNat + cntN (atT x.r) (max lo x.e) (H - max lo x.e).toNat + ((x.m.drop (max 0 (lo - x.low)).toNat).take ((max 0 (H - x.low)).toNat - (max 0 (lo - x.low)).toNat)).count true := by
  have he : x.e = x.low + x.m.length := rfl
  have tl : ((x.m.drop (max 0 (lo - x.low)).toNat).take ((max 0 (H - x.low)).toNat - (max 0 (lo - x.low)).toNat)).length = min ((max 0 (H - x.low)).toNat - (max 0 (lo - x.low)).toNat) (x.m.length - (max 0 (lo - x.low)).toNat) := by
    rw [List.length_take, List.length_drop]
  by_cases hH : H < lo
  · have e1 : (H - lo).toNat = 0 := by omega
    have e2 : (min H x.low - lo).toNat = 0 := by omega
    have e3 : (H - max lo x.e).toNat = 0 := by omega
    have e4 : (max 0 (H - x.low)).toNat - (max 0 (lo - x.low)).toNat = 0 := by omega
    rw [e1, e2, e3, e4]
    simp [cntN]
  · obtain ⟨c1, hc1⟩ : ∃ c1, max lo (min H x.low) = c1 := ⟨_, rfl⟩
    obtain ⟨c2, hc2⟩ : ∃ c2, max c1 (min H x.e) = c2 := ⟨_, rfl⟩
    have e : (H - lo).toNat = (c1 - lo).toNat + ((c2 - c1).toNat + (H - c2).toNat) := by omega
    rw [e, cnt_add, cnt_add, show lo + ((c1 - lo).toNat : Int) = c1 by omega, show c1 + ((c2 - c1).toNat : Int) = c2 by omega]
    have p1 : cntN x.sg lo (c1 - lo).toNat = cntN (atT x.l) lo (min H x.low - lo).toNat := by
      rw [show (min H x.low - lo).toNat = (c1 - lo).toNat by omega]
      exact cnt_congr fun i h1 h2 => Sh.sg_l (by omega)
    have p3 : cntN x.sg c2 (H - c2).toNat = cntN (atT x.r) (max lo x.e) (H - max lo x.e).toNat := by
      by_cases q : H ≤ max lo x.e
      · rw [show (H - max lo x.e).toNat = 0 by omega, show (H - c2).toNat = 0 by omega]
        rfl
      · rw [show max lo x.e = c2 by omega]
        exact cnt_congr fun i h1 h2 => Sh.sg_r (by omega)
    have p2 : ((x.m.drop (max 0 (lo - x.low)).toNat).take ((max 0 (H - x.low)).toNat - (max 0 (lo - x.low)).toNat)).count true = cntN x.sg c1 (c2 - c1).toNat := by
      rw [show (c2 - c1).toNat = ((x.m.drop (max 0 (lo - x.low)).toNat).take ((max 0 (H - x.low)).toNat - (max 0 (lo - x.low)).toNat)).length by rw [tl]; omega]
      refine cnt_list fun i hi => ?_
      rw [List.getElem_take, List.getElem_drop]
      rw [tl] at hi
      have hj : (max 0 (lo - x.low)).toNat + i < x.m.length := by omega
      have := Sh.sg_m (x := x) hj
      rw [← this]
      congr 1
      omega
    rw [p1, p2, p3]
    omega
theorem cm_neb (a b : Bool) : cmD .ne (.bl a) (.bl b) = some (a != b) := by cases a <;> cases b <;> decide +kernel
theorem cm_eqb (a b : Bool) : cmD .eq (.bl a) (.bl b) = some (a == b) := by cases a <;> cases b <;> decide +kernel
theorem bi_divmod {i j : Int} (h : 0 < j) (h2 : j < 1073741824) : biD .divmod [.int i, .int j] = some (.val (.tup [.int (i / j), .int (i % j)])) := if_pos ⟨h, h2⟩
instance : DecidableEq Sh := fun x y => by
  obtain ⟨xl, xo, xm, xr⟩ := x
  obtain ⟨yl, yo, ym, yr⟩ := y
  rw [Sh.mk.injEq]
  exact inferInstance
/-- == of shapes -/
theorem eq_sh (x y : Sh) : cmD .eq (encS x) (encS y) = some (decide (x = y)) := by
  have fx : ∀ x : Sh, okE (encS x) := fun x => okE_fit (n := 1) (by unfold encS; simp only [fitE, fitEs, strok_tx, Bool.and_self]) (by decide)
  show eqD (encS x) (encS y) = _
  rw [eqD_ok (fx x) (fx y)]
  obtain ⟨xl, xo, xm, xr⟩ := x
  obtain ⟨yl, yo, ym, yr⟩ := y
  unfold encS
  simp only [toPy, toPys, PyData.eqv, PyData.eqvAll, Option.some.injEq]
  rw [Bool.eq_iff_iff]
  simp only [Bool.and_eq_true, beq_iff_eq, decide_eq_true_eq, Sh.mk.injEq, Bool.and_true]
  constructor
  · rintro ⟨h1, h2, h3, h4⟩
    exact ⟨tx_inj h1, h2, tx_inj h3, tx_inj h4⟩
  · rintro ⟨rfl, rfl, rfl, rfl⟩
    exact ⟨rfl, rfl, rfl, rfl⟩
theorem ne_sh {x y : Sh} (hx : Canon x) (hy : Canon y) (h : ∀ n, x.sg n = y.sg n) : cmD .ne (encS x) (encS y) = some false := by
  have e := canon_eq hx hy h
  subst e
  have := eq_sh x x
  rw [decide_eq_true rfl] at this
  show (eqD (encS x) (encS x)).map not = _
  rw [show eqD (encS x) (encS x) = cmD .eq (encS x) (encS x) from rfl, this]
  rfl
/-- the least letter of two sets together -/
def keepD : D → Option D
  | .non => none
  | x => some x
theorem least_two {f g : Int → Bool} {d e : D} (h1 : Least f d) (h2 : Least g e) : ∃ ls : List Int, [d, e].filterMap keepD = ls.map D.int ∧ ls.length ≤ 2 ∧ (ls = [] → Least (fun n => f n || g n) .non) ∧ ∀ a rest, sortL ls = a :: rest → Least (fun n => f n || g n) (.int a) := by
  rcases h1 with ⟨rfl, f0⟩ | ⟨a, rfl, a1, a2⟩ <;> rcases h2 with ⟨rfl, g0⟩ | ⟨b, rfl, b1, b2⟩
  · refine ⟨[], rfl, by simp, fun _ => .inl ⟨rfl, fun n => by simp only [f0, g0, Bool.or_self]⟩, fun a rest e => by rw [show sortL [] = [] by simp [sortL]] at e; cases e⟩
  · refine ⟨[b], rfl, by simp, (fun z => absurd z (by simp)), fun c rest e => ?_⟩
    obtain ⟨c', rest', e', m1, m2⟩ := sortL_head (ls := [b]) (by simp)
    rw [e] at e'; injection e' with e1 _; subst e1
    have : c = b := by simpa using m1
    subst this
    exact .inr ⟨c, rfl, by simp only [b1, Bool.or_true], fun u hu => b2 u (by simpa only [f0, Bool.false_or] using hu)⟩
  · refine ⟨[a], rfl, by simp, (fun z => absurd z (by simp)), fun c rest e => ?_⟩
    obtain ⟨c', rest', e', m1, m2⟩ := sortL_head (ls := [a]) (by simp)
    rw [e] at e'; injection e' with e1 _; subst e1
    have : c = a := by simpa using m1
    subst this
    exact .inr ⟨c, rfl, by simp only [a1, Bool.true_or], fun u hu => a2 u (by simpa only [g0, Bool.or_false] using hu)⟩
  · refine ⟨[a, b], rfl, by simp, (fun z => absurd z (by simp)), fun c rest e => ?_⟩
    obtain ⟨c', rest', e', m1, m2⟩ := sortL_head (ls := [a, b]) (by simp)
    rw [e] at e'; injection e' with e1 _; subst e1
    have ca := m2 a (by simp)
    have cb := m2 b (by simp)
    refine .inr ⟨c, rfl, ?_, fun u hu => ?_⟩
    · have : c = a ∨ c = b := by simpa using m1
      rcases this with rfl | rfl
      · simp only [a1, Bool.true_or]
      · simp only [b1, Bool.or_true]
    · rcases Bool.or_eq_true_iff.mp hu with hu | hu
      · have := a2 u hu; omega
      · have := b2 u hu; omega
theorem least_ok {f : Int → Bool} {d : D} (h : Least f d) : okE d := by
  rcases h with ⟨rfl, _⟩ | ⟨a, rfl, _⟩ <;> exact okE_fit (n := 1) rfl (by decide)
/-- a comprehension over things as data -/
theorem lc_mapA {al : Type} {st : D → Env → (Option D → Env → Prop) → Prop} {fin : List D → Env → Prop} {r : Env} (e f : al → D) : ∀ {l : List al} {acc : List D}, acc.length + l.length ≤ lim → (∀ a ∈ l, ∀ k : Option D → Env → Prop, k (some (f a)) r → st (e a) r k) → fin (acc ++ l.map f) r → lcP st fin (l.map e) acc r
  | [], acc, _, _, h => by simpa [lcP] using h
  | a :: l, acc, hl, hs, h => by
    rw [List.map_cons]
    simp only [lcP]
    rw [List.length_cons] at hl
    exact hs a List.mem_cons_self _ ⟨by omega, lc_mapA e f (by simp; omega) (fun b hb => hs b (List.mem_cons_of_mem _ hb)) (by simpa using h)⟩
theorem w_cmp {P : Pg} {F : Fn} {o : Cm} {a b : Ex} {r : Env} {Q : R → Env → Prop} {E : Xc → Env → Prop} (h : wE P F a r (fun x r1 => wE P F b r1 (fun y r2 => ∃ z, cmD o x.d y.d = some z ∧ Q (.val (.bl z)) r2) E) E) : wE P F (.cmp o a b) r Q E := by
  simp only [wE]; exact h
theorem w_lst2 {P : Pg} {F : Fn} {a b : Ex} {r : Env} {Q : R → Env → Prop} {E : Xc → Env → Prop} (h : wE P F a r (fun x r1 => wE P F b r1 (fun y r2 => [x.d, y.d].length ≤ lim ∧ Q (.own [x.d, y.d]) r2) E) E) : wE P F (.lst [a, b]) r Q E := by
  simp only [wE, wEs]; exact h
theorem w_call1 {P : Pg} {F : Fn} {f : Nat} {a : Ex} {r : Env} {Q : R → Env → Prop} {E : Xc → Env → Prop} (h : wE P F a r (fun x r1 => F f [x.d] (fun z => Q z r1) (fun z => E z r1)) E) : wE P F (.call f [a]) r Q E := by
  simp only [wE, wEs]; exact h
theorem w_call2 {P : Pg} {F : Fn} {f : Nat} {a b : Ex} {r : Env} {Q : R → Env → Prop} {E : Xc → Env → Prop} (h : wE P F a r (fun x r1 => wE P F b r1 (fun y r2 => F f [x.d, y.d] (fun z => Q z r2) (fun z => E z r2)) E) E) : wE P F (.call f [a, b]) r Q E := by
  simp only [wE, wEs]; exact h
theorem at_3 {al : Type} {x y z u : al} {xs : List al} : L2.atI (x :: y :: z :: u :: xs) 3 = some u := L2.atI_nat (j := 3) rfl
end PL
/-! PRd: a slot read, slot by slot (printed by gen/prd.py) -/
namespace PL
open PySem
section
variable {r : Env} {Q : R → Env → Prop} {d : D} {ds : List D}
theorem rv0 : rdV 0 (some (.val d) :: r) Q = Q (.val d) (some (.val d) :: r) := rfl
theorem ro0 : rdV 0 (some (.own ds) :: r) Q = Q (.val (.lst ds)) (some (.val (.lst ds)) :: r) := rfl
theorem lv0 : lnV 0 (some (.val d) :: r) Q = ∃ n : Nat, lenD d = some n ∧ Q (.val (.int (n : Int))) (some (.val d) :: r) := rfl
theorem lo0 : lnV 0 (some (.own ds) :: r) Q = Q (.val (.int (ds.length : Int))) (some (.own ds) :: r) := rfl
theorem rv1 {x0 : Option R} : rdV 1 (x0 :: some (.val d) :: r) Q = Q (.val d) (x0 :: some (.val d) :: r) := rfl
theorem ro1 {x0 : Option R} : rdV 1 (x0 :: some (.own ds) :: r) Q = Q (.val (.lst ds)) (x0 :: some (.val (.lst ds)) :: r) := rfl
theorem lv1 {x0 : Option R} : lnV 1 (x0 :: some (.val d) :: r) Q = ∃ n : Nat, lenD d = some n ∧ Q (.val (.int (n : Int))) (x0 :: some (.val d) :: r) := rfl
theorem lo1 {x0 : Option R} : lnV 1 (x0 :: some (.own ds) :: r) Q = Q (.val (.int (ds.length : Int))) (x0 :: some (.own ds) :: r) := rfl
theorem rv2 {x0 x1 : Option R} : rdV 2 (x0 :: x1 :: some (.val d) :: r) Q = Q (.val d) (x0 :: x1 :: some (.val d) :: r) := rfl
theorem ro2 {x0 x1 : Option R} : rdV 2 (x0 :: x1 :: some (.own ds) :: r) Q = Q (.val (.lst ds)) (x0 :: x1 :: some (.val (.lst ds)) :: r) := rfl
theorem lv2 {x0 x1 : Option R} : lnV 2 (x0 :: x1 :: some (.val d) :: r) Q = ∃ n : Nat, lenD d = some n ∧ Q (.val (.int (n : Int))) (x0 :: x1 :: some (.val d) :: r) := rfl
theorem lo2 {x0 x1 : Option R} : lnV 2 (x0 :: x1 :: some (.own ds) :: r) Q = Q (.val (.int (ds.length : Int))) (x0 :: x1 :: some (.own ds) :: r) := rfl
theorem rv3 {x0 x1 x2 : Option R} : rdV 3 (x0 :: x1 :: x2 :: some (.val d) :: r) Q = Q (.val d) (x0 :: x1 :: x2 :: some (.val d) :: r) := rfl
theorem ro3 {x0 x1 x2 : Option R} : rdV 3 (x0 :: x1 :: x2 :: some (.own ds) :: r) Q = Q (.val (.lst ds)) (x0 :: x1 :: x2 :: some (.val (.lst ds)) :: r) := rfl
theorem lv3 {x0 x1 x2 : Option R} : lnV 3 (x0 :: x1 :: x2 :: some (.val d) :: r) Q = ∃ n : Nat, lenD d = some n ∧ Q (.val (.int (n : Int))) (x0 :: x1 :: x2 :: some (.val d) :: r) := rfl
theorem lo3 {x0 x1 x2 : Option R} : lnV 3 (x0 :: x1 :: x2 :: some (.own ds) :: r) Q = Q (.val (.int (ds.length : Int))) (x0 :: x1 :: x2 :: some (.own ds) :: r) := rfl
theorem rv4 {x0 x1 x2 x3 : Option R} : rdV 4 (x0 :: x1 :: x2 :: x3 :: some (.val d) :: r) Q = Q (.val d) (x0 :: x1 :: x2 :: x3 :: some (.val d) :: r) := rfl
theorem ro4 {x0 x1 x2 x3 : Option R} : rdV 4 (x0 :: x1 :: x2 :: x3 :: some (.own ds) :: r) Q = Q (.val (.lst ds)) (x0 :: x1 :: x2 :: x3 :: some (.val (.lst ds)) :: r) := rfl
theorem lv4 {x0 x1 x2 x3 : Option R} : lnV 4 (x0 :: x1 :: x2 :: x3 :: some (.val d) :: r) Q = ∃ n : Nat, lenD d = some n ∧ Q (.val (.int (n : Int))) (x0 :: x1 :: x2 :: x3 :: some (.val d) :: r) := rfl
theorem lo4 {x0 x1 x2 x3 : Option R} : lnV 4 (x0 :: x1 :: x2 :: x3 :: some (.own ds) :: r) Q = Q (.val (.int (ds.length : Int))) (x0 :: x1 :: x2 :: x3 :: some (.own ds) :: r) := rfl
theorem rv5 {x0 x1 x2 x3 x4 : Option R} : rdV 5 (x0 :: x1 :: x2 :: x3 :: x4 :: some (.val d) :: r) Q = Q (.val d) (x0 :: x1 :: x2 :: x3 :: x4 :: some (.val d) :: r) := rfl
theorem ro5 {x0 x1 x2 x3 x4 : Option R} : rdV 5 (x0 :: x1 :: x2 :: x3 :: x4 :: some (.own ds) :: r) Q = Q (.val (.lst ds)) (x0 :: x1 :: x2 :: x3 :: x4 :: some (.val (.lst ds)) :: r) := rfl
theorem lv5 {x0 x1 x2 x3 x4 : Option R} : lnV 5 (x0 :: x1 :: x2 :: x3 :: x4 :: some (.val d) :: r) Q = ∃ n : Nat, lenD d = some n ∧ Q (.val (.int (n : Int))) (x0 :: x1 :: x2 :: x3 :: x4 :: some (.val d) :: r) := rfl
theorem lo5 {x0 x1 x2 x3 x4 : Option R} : lnV 5 (x0 :: x1 :: x2 :: x3 :: x4 :: some (.own ds) :: r) Q = Q (.val (.int (ds.length : Int))) (x0 :: x1 :: x2 :: x3 :: x4 :: some (.own ds) :: r) := rfl
theorem rv6 {x0 x1 x2 x3 x4 x5 : Option R} : rdV 6 (x0 :: x1 :: x2 :: x3 :: x4 :: x5 :: some (.val d) :: r) Q = Q (.val d) (x0 :: x1 :: x2 :: x3 :: x4 :: x5 :: some (.val d) :: r) := rfl
theorem ro6 {x0 x1 x2 x3 x4 x5 : Option R} : rdV 6 (x0 :: x1 :: x2 :: x3 :: x4 :: x5 :: some (.own ds) :: r) Q = Q (.val (.lst ds)) (x0 :: x1 :: x2 :: x3 :: x4 :: x5 :: some (.val (.lst ds)) :: r) := rfl
theorem lv6 {x0 x1 x2 x3 x4 x5 : Option R} : lnV 6 (x0 :: x1 :: x2 :: x3 :: x4 :: x5 :: some (.val d) :: r) Q = ∃ n : Nat, lenD d = some n ∧ Q (.val (.int (n : Int))) (x0 :: x1 :: x2 :: x3 :: x4 :: x5 :: some (.val d) :: r) := rfl
theorem lo6 {x0 x1 x2 x3 x4 x5 : Option R} : lnV 6 (x0 :: x1 :: x2 :: x3 :: x4 :: x5 :: some (.own ds) :: r) Q = Q (.val (.int (ds.length : Int))) (x0 :: x1 :: x2 :: x3 :: x4 :: x5 :: some (.own ds) :: r) := rfl
theorem rv7 {x0 x1 x2 x3 x4 x5 x6 : Option R} : rdV 7 (x0 :: x1 :: x2 :: x3 :: x4 :: x5 :: x6 :: some (.val d) :: r) Q = Q (.val d) (x0 :: x1 :: x2 :: x3 :: x4 :: x5 :: x6 :: some (.val d) :: r) := rfl
theorem ro7 {x0 x1 x2 x3 x4 x5 x6 : Option R} : rdV 7 (x0 :: x1 :: x2 :: x3 :: x4 :: x5 :: x6 :: some (.own ds) :: r) Q = Q (.val (.lst ds)) (x0 :: x1 :: x2 :: x3 :: x4 :: x5 :: x6 :: some (.val (.lst ds)) :: r) := rfl
theorem lv7 {x0 x1 x2 x3 x4 x5 x6 : Option R} : lnV 7 (x0 :: x1 :: x2 :: x3 :: x4 :: x5 :: x6 :: some (.val d) :: r) Q = ∃ n : Nat, lenD d = some n ∧ Q (.val (.int (n : Int))) (x0 :: x1 :: x2 :: x3 :: x4 :: x5 :: x6 :: some (.val d) :: r) := rfl
theorem lo7 {x0 x1 x2 x3 x4 x5 x6 : Option R} : lnV 7 (x0 :: x1 :: x2 :: x3 :: x4 :: x5 :: x6 :: some (.own ds) :: r) Q = Q (.val (.int (ds.length : Int))) (x0 :: x1 :: x2 :: x3 :: x4 :: x5 :: x6 :: some (.own ds) :: r) := rfl
theorem rv8 {x0 x1 x2 x3 x4 x5 x6 x7 : Option R} : rdV 8 (x0 :: x1 :: x2 :: x3 :: x4 :: x5 :: x6 :: x7 :: some (.val d) :: r) Q = Q (.val d) (x0 :: x1 :: x2 :: x3 :: x4 :: x5 :: x6 :: x7 :: some (.val d) :: r) := rfl
theorem ro8 {x0 x1 x2 x3 x4 x5 x6 x7 : Option R} : rdV 8 (x0 :: x1 :: x2 :: x3 :: x4 :: x5 :: x6 :: x7 :: some (.own ds) :: r) Q = Q (.val (.lst ds)) (x0 :: x1 :: x2 :: x3 :: x4 :: x5 :: x6 :: x7 :: some (.val (.lst ds)) :: r) := rfl
theorem lv8 {x0 x1 x2 x3 x4 x5 x6 x7 : Option R} : lnV 8 (x0 :: x1 :: x2 :: x3 :: x4 :: x5 :: x6 :: x7 :: some (.val d) :: r) Q = ∃ n : Nat, lenD d = some n ∧ Q (.val (.int (n : Int))) (x0 :: x1 :: x2 :: x3 :: x4 :: x5 :: x6 :: x7 :: some (.val d) :: r) := rfl
theorem lo8 {x0 x1 x2 x3 x4 x5 x6 x7 : Option R} : lnV 8 (x0 :: x1 :: x2 :: x3 :: x4 :: x5 :: x6 :: x7 :: some (.own ds) :: r) Q = Q (.val (.int (ds.length : Int))) (x0 :: x1 :: x2 :: x3 :: x4 :: x5 :: x6 :: x7 :: some (.own ds) :: r) := rfl
theorem rv9 {x0 x1 x2 x3 x4 x5 x6 x7 x8 : Option R} : rdV 9 (x0 :: x1 :: x2 :: x3 :: x4 :: x5 :: x6 :: x7 :: x8 :: some (.val d) :: r) Q = Q (.val d) (x0 :: x1 :: x2 :: x3 :: x4 :: x5 :: x6 :: x7 :: x8 :: some (.val d) :: r) := rfl
theorem ro9 {x0 x1 x2 x3 x4 x5 x6 x7 x8 : Option R} : rdV 9 (x0 :: x1 :: x2 :: x3 :: x4 :: x5 :: x6 :: x7 :: x8 :: some (.own ds) :: r) Q = Q (.val (.lst ds)) (x0 :: x1 :: x2 :: x3 :: x4 :: x5 :: x6 :: x7 :: x8 :: some (.val (.lst ds)) :: r) := rfl
theorem lv9 {x0 x1 x2 x3 x4 x5 x6 x7 x8 : Option R} : lnV 9 (x0 :: x1 :: x2 :: x3 :: x4 :: x5 :: x6 :: x7 :: x8 :: some (.val d) :: r) Q = ∃ n : Nat, lenD d = some n ∧ Q (.val (.int (n : Int))) (x0 :: x1 :: x2 :: x3 :: x4 :: x5 :: x6 :: x7 :: x8 :: some (.val d) :: r) := rfl
theorem lo9 {x0 x1 x2 x3 x4 x5 x6 x7 x8 : Option R} : lnV 9 (x0 :: x1 :: x2 :: x3 :: x4 :: x5 :: x6 :: x7 :: x8 :: some (.own ds) :: r) Q = Q (.val (.int (ds.length : Int))) (x0 :: x1 :: x2 :: x3 :: x4 :: x5 :: x6 :: x7 :: x8 :: some (.own ds) :: r) := rfl
theorem rv10 {x0 x1 x2 x3 x4 x5 x6 x7 x8 x9 : Option R} : rdV 10 (x0 :: x1 :: x2 :: x3 :: x4 :: x5 :: x6 :: x7 :: x8 :: x9 :: some (.val d) :: r) Q = Q (.val d) (x0 :: x1 :: x2 :: x3 :: x4 :: x5 :: x6 :: x7 :: x8 :: x9 :: some (.val d) :: r) := rfl
theorem ro10 {x0 x1 x2 x3 x4 x5 x6 x7 x8 x9 : Option R} : rdV 10 (x0 :: x1 :: x2 :: x3 :: x4 :: x5 :: x6 :: x7 :: x8 :: x9 :: some (.own ds) :: r) Q = Q (.val (.lst ds)) (x0 :: x1 :: x2 :: x3 :: x4 :: x5 :: x6 :: x7 :: x8 :: x9 :: some (.val (.lst ds)) :: r) := rfl
theorem lv10 {x0 x1 x2 x3 x4 x5 x6 x7 x8 x9 : Option R} : lnV 10 (x0 :: x1 :: x2 :: x3 :: x4 :: x5 :: x6 :: x7 :: x8 :: x9 :: some (.val d) :: r) Q = ∃ n : Nat, lenD d = some n ∧ Q (.val (.int (n : Int))) (x0 :: x1 :: x2 :: x3 :: x4 :: x5 :: x6 :: x7 :: x8 :: x9 :: some (.val d) :: r) := rfl
theorem lo10 {x0 x1 x2 x3 x4 x5 x6 x7 x8 x9 : Option R} : lnV 10 (x0 :: x1 :: x2 :: x3 :: x4 :: x5 :: x6 :: x7 :: x8 :: x9 :: some (.own ds) :: r) Q = Q (.val (.int (ds.length : Int))) (x0 :: x1 :: x2 :: x3 :: x4 :: x5 :: x6 :: x7 :: x8 :: x9 :: some (.own ds) :: r) := rfl
theorem rv11 {x0 x1 x2 x3 x4 x5 x6 x7 x8 x9 x10 : Option R} : rdV 11 (x0 :: x1 :: x2 :: x3 :: x4 :: x5 :: x6 :: x7 :: x8 :: x9 :: x10 :: some (.val d) :: r) Q = Q (.val d) (x0 :: x1 :: x2 :: x3 :: x4 :: x5 :: x6 :: x7 :: x8 :: x9 :: x10 :: some (.val d) :: r) := rfl
theorem ro11 {x0 x1 x2 x3 x4 x5 x6 x7 x8 x9 x10 : Option R} : rdV 11 (x0 :: x1 :: x2 :: x3 :: x4 :: x5 :: x6 :: x7 :: x8 :: x9 :: x10 :: some (.own ds) :: r) Q = Q (.val (.lst ds)) (x0 :: x1 :: x2 :: x3 :: x4 :: x5 :: x6 :: x7 :: x8 :: x9 :: x10 :: some (.val (.lst ds)) :: r) := rfl
theorem lv11 {x0 x1 x2 x3 x4 x5 x6 x7 x8 x9 x10 : Option R} : lnV 11 (x0 :: x1 :: x2 :: x3 :: x4 :: x5 :: x6 :: x7 :: x8 :: x9 :: x10 :: some (.val d) :: r) Q = ∃ n : Nat, lenD d = some n ∧ Q (.val (.int (n : Int))) (x0 :: x1 :: x2 :: x3 :: x4 :: x5 :: x6 :: x7 :: x8 :: x9 :: x10 :: some (.val d) :: r) := rfl
theorem lo11 {x0 x1 x2 x3 x4 x5 x6 x7 x8 x9 x10 : Option R} : lnV 11 (x0 :: x1 :: x2 :: x3 :: x4 :: x5 :: x6 :: x7 :: x8 :: x9 :: x10 :: some (.own ds) :: r) Q = Q (.val (.int (ds.length : Int))) (x0 :: x1 :: x2 :: x3 :: x4 :: x5 :: x6 :: x7 :: x8 :: x9 :: x10 :: some (.own ds) :: r) := rfl
theorem rv12 {x0 x1 x2 x3 x4 x5 x6 x7 x8 x9 x10 x11 : Option R} : rdV 12 (x0 :: x1 :: x2 :: x3 :: x4 :: x5 :: x6 :: x7 :: x8 :: x9 :: x10 :: x11 :: some (.val d) :: r) Q = Q (.val d) (x0 :: x1 :: x2 :: x3 :: x4 :: x5 :: x6 :: x7 :: x8 :: x9 :: x10 :: x11 :: some (.val d) :: r) := rfl
theorem ro12 {x0 x1 x2 x3 x4 x5 x6 x7 x8 x9 x10 x11 : Option R} : rdV 12 (x0 :: x1 :: x2 :: x3 :: x4 :: x5 :: x6 :: x7 :: x8 :: x9 :: x10 :: x11 :: some (.own ds) :: r) Q = Q (.val (.lst ds)) (x0 :: x1 :: x2 :: x3 :: x4 :: x5 :: x6 :: x7 :: x8 :: x9 :: x10 :: x11 :: some (.val (.lst ds)) :: r) := rfl
theorem lv12 {x0 x1 x2 x3 x4 x5 x6 x7 x8 x9 x10 x11 : Option R} : lnV 12 (x0 :: x1 :: x2 :: x3 :: x4 :: x5 :: x6 :: x7 :: x8 :: x9 :: x10 :: x11 :: some (.val d) :: r) Q = ∃ n : Nat, lenD d = some n ∧ Q (.val (.int (n : Int))) (x0 :: x1 :: x2 :: x3 :: x4 :: x5 :: x6 :: x7 :: x8 :: x9 :: x10 :: x11 :: some (.val d) :: r) := rfl
theorem lo12 {x0 x1 x2 x3 x4 x5 x6 x7 x8 x9 x10 x11 : Option R} : lnV 12 (x0 :: x1 :: x2 :: x3 :: x4 :: x5 :: x6 :: x7 :: x8 :: x9 :: x10 :: x11 :: some (.own ds) :: r) Q = Q (.val (.int (ds.length : Int))) (x0 :: x1 :: x2 :: x3 :: x4 :: x5 :: x6 :: x7 :: x8 :: x9 :: x10 :: x11 :: some (.own ds) :: r) := rfl
theorem rv13 {x0 x1 x2 x3 x4 x5 x6 x7 x8 x9 x10 x11 x12 : Option R} : rdV 13 (x0 :: x1 :: x2 :: x3 :: x4 :: x5 :: x6 :: x7 :: x8 :: x9 :: x10 :: x11 :: x12 :: some (.val d) :: r) Q = Q (.val d) (x0 :: x1 :: x2 :: x3 :: x4 :: x5 :: x6 :: x7 :: x8 :: x9 :: x10 :: x11 :: x12 :: some (.val d) :: r) := rfl
theorem ro13 {x0 x1 x2 x3 x4 x5 x6 x7 x8 x9 x10 x11 x12 : Option R} : rdV 13 (x0 :: x1 :: x2 :: x3 :: x4 :: x5 :: x6 :: x7 :: x8 :: x9 :: x10 :: x11 :: x12 :: some (.own ds) :: r) Q = Q (.val (.lst ds)) (x0 :: x1 :: x2 :: x3 :: x4 :: x5 :: x6 :: x7 :: x8 :: x9 :: x10 :: x11 :: x12 :: some (.val (.lst ds)) :: r) := rfl
theorem lv13 {x0 x1 x2 x3 x4 x5 x6 x7 x8 x9 x10 x11 x12 : Option R} : lnV 13 (x0 :: x1 :: x2 :: x3 :: x4 :: x5 :: x6 :: x7 :: x8 :: x9 :: x10 :: x11 :: x12 :: some (.val d) :: r) Q = ∃ n : Nat, lenD d = some n ∧ Q (.val (.int (n : Int))) (x0 :: x1 :: x2 :: x3 :: x4 :: x5 :: x6 :: x7 :: x8 :: x9 :: x10 :: x11 :: x12 :: some (.val d) :: r) := rfl
theorem lo13 {x0 x1 x2 x3 x4 x5 x6 x7 x8 x9 x10 x11 x12 : Option R} : lnV 13 (x0 :: x1 :: x2 :: x3 :: x4 :: x5 :: x6 :: x7 :: x8 :: x9 :: x10 :: x11 :: x12 :: some (.own ds) :: r) Q = Q (.val (.int (ds.length : Int))) (x0 :: x1 :: x2 :: x3 :: x4 :: x5 :: x6 :: x7 :: x8 :: x9 :: x10 :: x11 :: x12 :: some (.own ds) :: r) := rfl
theorem rv14 {x0 x1 x2 x3 x4 x5 x6 x7 x8 x9 x10 x11 x12 x13 : Option R} : rdV 14 (x0 :: x1 :: x2 :: x3 :: x4 :: x5 :: x6 :: x7 :: x8 :: x9 :: x10 :: x11 :: x12 :: x13 :: some (.val d) :: r) Q = Q (.val d) (x0 :: x1 :: x2 :: x3 :: x4 :: x5 :: x6 :: x7 :: x8 :: x9 :: x10 :: x11 :: x12 :: x13 :: some (.val d) :: r) := rfl
theorem ro14 {x0 x1 x2 x3 x4 x5 x6 x7 x8 x9 x10 x11 x12 x13 : Option R} : rdV 14 (x0 :: x1 :: x2 :: x3 :: x4 :: x5 :: x6 :: x7 :: x8 :: x9 :: x10 :: x11 :: x12 :: x13 :: some (.own ds) :: r) Q = Q (.val (.lst ds)) (x0 :: x1 :: x2 :: x3 :: x4 :: x5 :: x6 :: x7 :: x8 :: x9 :: x10 :: x11 :: x12 :: x13 :: some (.val (.lst ds)) :: r) := rfl
theorem lv14 {x0 x1 x2 x3 x4 x5 x6 x7 x8 x9 x10 x11 x12 x13 : Option R} : lnV 14 (x0 :: x1 :: x2 :: x3 :: x4 :: x5 :: x6 :: x7 :: x8 :: x9 :: x10 :: x11 :: x12 :: x13 :: some (.val d) :: r) Q = ∃ n : Nat, lenD d = some n ∧ Q (.val (.int (n : Int))) (x0 :: x1 :: x2 :: x3 :: x4 :: x5 :: x6 :: x7 :: x8 :: x9 :: x10 :: x11 :: x12 :: x13 :: some (.val d) :: r) := rfl
theorem lo14 {x0 x1 x2 x3 x4 x5 x6 x7 x8 x9 x10 x11 x12 x13 : Option R} : lnV 14 (x0 :: x1 :: x2 :: x3 :: x4 :: x5 :: x6 :: x7 :: x8 :: x9 :: x10 :: x11 :: x12 :: x13 :: some (.own ds) :: r) Q = Q (.val (.int (ds.length : Int))) (x0 :: x1 :: x2 :: x3 :: x4 :: x5 :: x6 :: x7 :: x8 :: x9 :: x10 :: x11 :: x12 :: x13 :: some (.own ds) :: r) := rfl
theorem rv15 {x0 x1 x2 x3 x4 x5 x6 x7 x8 x9 x10 x11 x12 x13 x14 : Option R} : rdV 15 (x0 :: x1 :: x2 :: x3 :: x4 :: x5 :: x6 :: x7 :: x8 :: x9 :: x10 :: x11 :: x12 :: x13 :: x14 :: some (.val d) :: r) Q = Q (.val d) (x0 :: x1 :: x2 :: x3 :: x4 :: x5 :: x6 :: x7 :: x8 :: x9 :: x10 :: x11 :: x12 :: x13 :: x14 :: some (.val d) :: r) := rfl
theorem ro15 {x0 x1 x2 x3 x4 x5 x6 x7 x8 x9 x10 x11 x12 x13 x14 : Option R} : rdV 15 (x0 :: x1 :: x2 :: x3 :: x4 :: x5 :: x6 :: x7 :: x8 :: x9 :: x10 :: x11 :: x12 :: x13 :: x14 :: some (.own ds) :: r) Q = Q (.val (.lst ds)) (x0 :: x1 :: x2 :: x3 :: x4 :: x5 :: x6 :: x7 :: x8 :: x9 :: x10 :: x11 :: x12 :: x13 :: x14 :: some (.val (.lst ds)) :: r) := rfl
theorem lv15 {x0 x1 x2 x3 x4 x5 x6 x7 x8 x9 x10 x11 x12 x13 x14 : Option R} : lnV 15 (x0 :: x1 :: x2 :: x3 :: x4 :: x5 :: x6 :: x7 :: x8 :: x9 :: x10 :: x11 :: x12 :: x13 :: x14 :: some (.val d) :: r) Q = ∃ n : Nat, lenD d = some n ∧ Q (.val (.int (n : Int))) (x0 :: x1 :: x2 :: x3 :: x4 :: x5 :: x6 :: x7 :: x8 :: x9 :: x10 :: x11 :: x12 :: x13 :: x14 :: some (.val d) :: r) := rfl
theorem lo15 {x0 x1 x2 x3 x4 x5 x6 x7 x8 x9 x10 x11 x12 x13 x14 : Option R} : lnV 15 (x0 :: x1 :: x2 :: x3 :: x4 :: x5 :: x6 :: x7 :: x8 :: x9 :: x10 :: x11 :: x12 :: x13 :: x14 :: some (.own ds) :: r) Q = Q (.val (.int (ds.length : Int))) (x0 :: x1 :: x2 :: x3 :: x4 :: x5 :: x6 :: x7 :: x8 :: x9 :: x10 :: x11 :: x12 :: x13 :: x14 :: some (.own ds) :: r) := rfl
end
end PL
set_option maxHeartbeats 3900000
/-! PTh: things of any kind that repr takes -/
namespace PL
open PySem
def asc (x : Str) : Bool := x.cps.toList.all fun c => decide (c < 128)
def keyT (B : Nat) : L2.Key → Bool
  | .inl i => decide (i.natAbs < B)
  | .inr x => asc x
mutual
/-- so deep at most; whole numbers of few figures, plain texts -/
def tameE (B : Nat) : Nat → D → Bool
  | _, .non => true
  | _, .bl _ => true
  | _, .int i => decide (i.natAbs < B)
  | _, .str x => asc x
  | n + 1, .lst xs => tameEs B n xs
  | n + 1, .tup xs => tameEs B n xs
  | n + 1, .dic kvs => tameEk B n kvs
  | _, _ => false
def tameEs (B : Nat) : Nat → List D → Bool
  | _, [] => true
  | n, x :: xs => tameE B n x && tameEs B n xs
def tameEk (B : Nat) : Nat → List (L2.Key × D) → Bool
  | _, [] => true
  | n, (k, d) :: r => keyT B k && tameE B n d && tameEk B n r
end
def keyWt : L2.Key → Nat
  | .inl _ => 40
  | .inr x => x.cps.size
mutual
def wgtR : D → Nat
  | .int _ => 40
  | .str x => x.cps.size
  | .lst xs => wgtRs xs
  | .tup xs => wgtRs xs
  | .dic kvs => wgtRk kvs
  | _ => 0
def wgtRs : List D → Nat
  | [] => 0
  | x :: xs => wgtR x + 1 + wgtRs xs
def wgtRk : List (L2.Key × D) → Nat
  | [] => 0
  | (k, d) :: r => keyWt k + wgtR d + 2 + wgtRk r
end
theorem int_tame {B : Nat} {i : Int} (hB : B ≤ 10 ^ 12) (h : decide (i.natAbs < B) = true) : (PyData.int i).showable = true ∧ (PyData.int i).leavesShort 13 = true ∧ (PyData.int i).weight ≤ 40 := by
  rw [decide_eq_true_eq] at h
  replace h : i.natAbs < 10 ^ 12 := by omega
  have l40 : i.natAbs.log2 < 40 := by
    by_cases h0 : i.natAbs = 0
    · rw [h0]; decide
    · exact (Nat.log2_lt h0).mpr (Nat.lt_of_lt_of_le h (by decide))
  refine ⟨decide_eq_true (by omega), decide_eq_true (PyData.shown_int_le h), ?_⟩
  unfold PyData.weight
  split <;> omega
theorem str_tame {x : Str} (h : asc x = true) : (PyData.str x).leavesShort 13 = true := by
  unfold PyData.leavesShort
  rw [List.all_eq_true]
  intro c hc
  have := List.all_eq_true.mp h c hc
  rw [decide_eq_true_eq] at this ⊢
  have e : (16 : Nat) ^ 8 = 4294967296 := by decide
  omega
mutual
theorem tame_ok {B : Nat} (hB : B ≤ 10 ^ 12) : ∀ {n : Nat} {d : D}, tameE B n d = true → plainR d = true ∧ (toPy d).showable = true ∧ (toPy d).leavesShort 13 = true ∧ (toPy d).depth ≤ n ∧ (toPy d).weight ≤ wgtR d
  | n, .non, _ => by unfold toPy plainR; exact ⟨rfl, rfl, rfl, Nat.zero_le _, Nat.zero_le _⟩
  | n, .bl _, _ => by unfold toPy plainR; exact ⟨rfl, rfl, rfl, Nat.zero_le _, Nat.zero_le _⟩
  | n, .int i, h => by
    unfold tameE at h
    obtain ⟨h1, h2, h3⟩ := int_tame hB h
    unfold toPy plainR wgtR
    exact ⟨rfl, h1, h2, Nat.zero_le _, h3⟩
  | n, .str x, h => by
    unfold tameE at h
    unfold toPy plainR wgtR
    exact ⟨rfl, rfl, str_tame h, Nat.zero_le _, Nat.le_refl _⟩
  | 0, .lst _, h => by unfold tameE at h; cases h
  | 0, .tup _, h => by unfold tameE at h; cases h
  | 0, .dic _, h => by unfold tameE at h; cases h
  | n + 1, .lst xs, h => by
    unfold tameE at h
    obtain ⟨h1, h2, h3, h4, h5⟩ := tames_ok hB h
    unfold toPy plainR wgtR
    refine ⟨h1, by unfold PyData.showable; exact h2, by unfold PyData.leavesShort; exact h3, by unfold PyData.depth; omega, by unfold PyData.weight; exact h5⟩
  | n + 1, .tup xs, h => by
    unfold tameE at h
    obtain ⟨h1, h2, h3, h4, h5⟩ := tames_ok hB h
    unfold toPy plainR wgtR
    refine ⟨h1, by unfold PyData.showable; exact h2, by unfold PyData.leavesShort; exact h3, by unfold PyData.depth; omega, by unfold PyData.weight; exact h5⟩
  | n + 1, .dic kvs, h => by
    unfold tameE at h
    obtain ⟨h1, h2, h3, h4, h5⟩ := tamek_ok hB h
    unfold toPy plainR wgtR
    refine ⟨h1, by unfold PyData.showable; exact h2, by unfold PyData.leavesShort; exact h3, by unfold PyData.depth; omega, by unfold PyData.weight; exact h5⟩
  | 0, .pot, h => by unfold tameE at h; cases h
  | n + 1, .pot, h => by unfold tameE at h; cases h
  | 0, .scr _, h => by unfold tameE at h; cases h
  | n + 1, .scr _, h => by unfold tameE at h; cases h
theorem tames_ok {B : Nat} (hB : B ≤ 10 ^ 12) : ∀ {n : Nat} {ds : List D}, tameEs B n ds = true → plainRs ds = true ∧ PyData.showableAll (toPys ds) = true ∧ PyData.leavesShortAll 13 (toPys ds) = true ∧ PyData.depthAll (toPys ds) ≤ n ∧ PyData.weightAll (toPys ds) ≤ wgtRs ds
  | n, [], _ => by unfold toPys plainRs; exact ⟨rfl, rfl, rfl, Nat.zero_le _, Nat.zero_le _⟩
  | n, d :: ds, h => by
    unfold tameEs at h
    rw [Bool.and_eq_true] at h
    obtain ⟨a1, a2, a3, a4, a5⟩ := tame_ok hB h.1
    obtain ⟨b1, b2, b3, b4, b5⟩ := tames_ok hB h.2
    unfold toPys plainRs wgtRs
    refine ⟨by rw [a1, b1]; rfl, by unfold PyData.showableAll; rw [a2, b2]; rfl, by unfold PyData.leavesShortAll; rw [a3, b3]; rfl, by unfold PyData.depthAll; exact Nat.max_le.mpr ⟨a4, b4⟩, by unfold PyData.weightAll; omega⟩
theorem tamek_ok {B : Nat} (hB : B ≤ 10 ^ 12) : ∀ {n : Nat} {ds : List (L2.Key × D)}, tameEk B n ds = true → plainRk ds = true ∧ PyData.showableKv (toPyK ds) = true ∧ PyData.leavesShortKv 13 (toPyK ds) = true ∧ PyData.depthKv (toPyK ds) ≤ n ∧ PyData.weightKv (toPyK ds) ≤ wgtRk ds
  | n, [], _ => by unfold toPyK plainRk; exact ⟨rfl, rfl, rfl, Nat.zero_le _, Nat.zero_le _⟩
  | n, (.inl i, d) :: ds, h => by
    unfold tameEk at h
    rw [Bool.and_eq_true, Bool.and_eq_true] at h
    obtain ⟨c1, c2, c3⟩ := int_tame hB (i := i) h.1.1
    obtain ⟨a1, a2, a3, a4, a5⟩ := tame_ok hB h.1.2
    obtain ⟨b1, b2, b3, b4, b5⟩ := tamek_ok hB h.2
    have e0 : keyWt (.inl i) = 40 := rfl
    unfold toPyK plainRk wgtRk
    refine ⟨by rw [a1, b1]; rfl, by unfold PyData.showableKv; rw [c1, a2, b2]; rfl, by unfold PyData.leavesShortKv; rw [c2, a3, b3]; rfl, by unfold PyData.depthKv; exact Nat.max_le.mpr ⟨Nat.max_le.mpr ⟨Nat.zero_le _, a4⟩, b4⟩, by unfold PyData.weightKv; omega⟩
  | n, (.inr x, d) :: ds, h => by
    unfold tameEk at h
    rw [Bool.and_eq_true, Bool.and_eq_true] at h
    have c2 := str_tame (x := x) h.1.1
    obtain ⟨a1, a2, a3, a4, a5⟩ := tame_ok hB h.1.2
    obtain ⟨b1, b2, b3, b4, b5⟩ := tamek_ok hB h.2
    have c1 : (PyData.str x).showable = true := rfl
    have c3 : (PyData.str x).weight = x.cps.size := rfl
    have e0 : keyWt (.inr x) = x.cps.size := rfl
    unfold toPyK plainRk wgtRk
    refine ⟨by rw [a1, b1]; rfl, by unfold PyData.showableKv; rw [c1, a2, b2]; rfl, by unfold PyData.leavesShortKv; rw [c2, a3, b3]; rfl, by unfold PyData.depthKv; exact Nat.max_le.mpr ⟨Nat.max_le.mpr ⟨Nat.zero_le _, a4⟩, b4⟩, by unfold PyData.weightKv; omega⟩
end
theorem repr_tame {B n : Nat} {d : D} (hB : B ≤ 10 ^ 12) (h : tameE B n d = true) (hn : n ≤ 62) (hw : wgtR d ≤ 2 ^ 20) : biRepr [d] = some (.val (.str (shw d))) := by
  obtain ⟨h1, h2, h3, h4, h5⟩ := tame_ok hB h
  have l := PyData.shown_fits (by decide) (by decide) h3 (Nat.le_trans h5 hw)
  have hl : sizeLine = lim := by rw [sizeLine_eq]; rfl
  show (if plainR d = true ∧ (toPy d).showable = true ∧ (toPy d).depth ≤ 62 ∧ (toPy d).shown.length ≤ lim then some (R.val (.str (toPy d).shown)) else none) = _
  rw [if_pos ⟨h1, h2, by omega, by omega⟩]
  rfl
theorem tames_mem {B n : Nat} : ∀ {ds : List D}, tameEs B n ds = true ↔ ∀ d ∈ ds, tameE B n d = true
  | [] => by unfold tameEs; simp
  | d :: ds => by
    unfold tameEs
    rw [Bool.and_eq_true, tames_mem (ds := ds)]
    simp
theorem tame_mono {B : Nat} : ∀ {n m : Nat} {d : D}, n ≤ m → tameE B n d = true → tameE B m d = true := by
  have main : ∀ (n : Nat), (∀ (m : Nat) (d : D), n ≤ m → tameE B n d = true → tameE B m d = true) := by
    intro n
    induction n with
    | zero =>
      intro m d _ h
      cases d with
      | non => unfold tameE; rfl
      | bl b => unfold tameE; rfl
      | int i => unfold tameE at h ⊢; exact h
      | str x => unfold tameE at h ⊢; exact h
      | lst xs => unfold tameE at h; cases h
      | tup xs => unfold tameE at h; cases h
      | dic k => unfold tameE at h; cases h
      | pot => unfold tameE at h; cases h
      | scr x => unfold tameE at h; cases h
    | succ n ih =>
      intro m d hm h
      obtain ⟨j, rfl⟩ : ∃ j, m = j + 1 := ⟨m - 1, by omega⟩
      have allk : ∀ xs : List (L2.Key × D), tameEk B n xs = true → tameEk B j xs = true := by
        intro xs
        induction xs with
        | nil => intro _; unfold tameEk; rfl
        | cons x xs ihx =>
          obtain ⟨k, d⟩ := x
          intro hx
          unfold tameEk at hx ⊢
          rw [Bool.and_eq_true, Bool.and_eq_true] at hx
          rw [hx.1.1, ih j d (by omega) hx.1.2, ihx hx.2]; rfl
      cases d with
      | lst xs => unfold tameE at h ⊢; exact tames_mem.mpr fun d hd => ih j d (by omega) (tames_mem.mp h d hd)
      | tup xs => unfold tameE at h ⊢; exact tames_mem.mpr fun d hd => ih j d (by omega) (tames_mem.mp h d hd)
      | dic kvs => unfold tameE at h ⊢; exact allk kvs h
      | str x => unfold tameE at h ⊢; exact h
      | non => unfold tameE; rfl
      | bl b => unfold tameE; rfl
      | int i => unfold tameE at h ⊢; exact h
      | pot => unfold tameE at h; cases h
      | scr x => unfold tameE at h; cases h
  exact fun {n m d} => main n m d
theorem wgts_cons (x : D) (xs : List D) : wgtRs (x :: xs) = wgtR x + 1 + wgtRs xs := by rw [wgtRs]
theorem wgts_nil : wgtRs [] = 0 := by rw [wgtRs]
theorem wgts_sum : ∀ (xs ys : List D), wgtRs (xs ++ ys) = wgtRs xs + wgtRs ys
  | [], ys => by rw [List.nil_append, wgts_nil]; omega
  | x :: xs, ys => by
    rw [List.cons_append, wgts_cons, wgts_cons, wgts_sum xs ys]
    omega
theorem wgts_mem : ∀ {xs : List D} {x : D}, x ∈ xs → wgtR x + 1 ≤ wgtRs xs
  | y :: xs, x, h => by
    rw [wgts_cons]
    rcases List.mem_cons.mp h with rfl | h
    · omega
    · have := wgts_mem h; omega
theorem wgts_take (xs : List D) (n : Nat) : wgtRs (xs.take n) ≤ wgtRs xs := by
  have := wgts_sum (xs.take n) (xs.drop n)
  rw [List.take_append_drop] at this
  omega
theorem wgts_drop (xs : List D) (n : Nat) : wgtRs (xs.drop n) ≤ wgtRs xs := by
  have := wgts_sum (xs.take n) (xs.drop n)
  rw [List.take_append_drop] at this
  omega
theorem wgts_rev : ∀ xs : List D, wgtRs xs.reverse = wgtRs xs
  | [] => rfl
  | x :: xs => by
    rw [List.reverse_cons, wgts_sum, wgts_rev xs, wgts_cons, wgts_cons, wgts_nil]
    omega
theorem wgts_len (xs : List D) : xs.length ≤ wgtRs xs := by
  induction xs with
  | nil => exact Nat.zero_le _
  | cons x xs ih => rw [wgts_cons, List.length_cons]; omega
/-! ### plain texts made great -/
theorem upper1 : (List.range 128).all (fun c => match Unicode.upperOf c with | [d] => decide (d < 128) | _ => false) = true := by decide +kernel
theorem asc_app {x y : Str} (hx : asc x = true) (hy : asc y = true) : asc (x ++ y) = true := by
  unfold asc at *
  have e : (x ++ y).cps.toList = x.cps.toList ++ y.cps.toList := by show (x.cps ++ y.cps).toList = _; simp
  rw [e, List.all_append, hx, hy]; rfl
theorem asc_sub {x y : Str} (h : ∀ c ∈ y.cps.toList, c ∈ x.cps.toList) (hx : asc x = true) : asc y = true := by
  unfold asc at *
  rw [List.all_eq_true] at hx ⊢
  exact fun c hc => hx c (h c hc)
theorem upper_one {c : Nat} (h : c < 128) : ∃ d, Unicode.upperOf c = [d] ∧ d < 128 := by
  have := List.all_eq_true.mp upper1 c (List.mem_range.mpr h)
  split at this
  · rename_i d e
    exact ⟨d, e, of_decide_eq_true this⟩
  · cases this
theorem upper_list : ∀ {l : List Nat}, (∀ c ∈ l, c < 128) → (l.flatMap Unicode.upperOf).length = l.length ∧ ∀ c ∈ l.flatMap Unicode.upperOf, c < 128
  | [], _ => ⟨rfl, fun c h => by simp at h⟩
  | a :: l, h => by
    obtain ⟨d, e, hd⟩ := upper_one (h a List.mem_cons_self)
    obtain ⟨h1, h2⟩ := upper_list fun c hc => h c (List.mem_cons_of_mem _ hc)
    rw [List.flatMap_cons, e]
    refine ⟨by simp [h1], fun c hc => ?_⟩
    rcases List.mem_append.mp hc with hc | hc
    · have : c = d := by simpa using hc
      omega
    · exact h2 c hc
theorem upper_cps (x : Str) : (Txt.upper x).cps.toList = x.cps.toList.flatMap Unicode.upperOf := by
  show ((x.cps.mapIdx fun _ c => (Unicode.upperOf c).toArray).flatten).toList = _
  rw [Array.toList_flatten]
  have e : (x.cps.mapIdx fun _ c => (Unicode.upperOf c).toArray) = x.cps.map fun c => (Unicode.upperOf c).toArray := by
    apply Array.ext
    · simp
    · intro i h1 h2
      simp
  rw [e, Array.toList_map, List.map_map, List.flatMap_def]
  rfl
theorem upper_asc {x : Str} (h : asc x = true) : asc (Txt.upper x) = true ∧ (Txt.upper x).cps.size = x.cps.size := by
  have h' : ∀ c ∈ x.cps.toList, c < 128 := fun c hc => of_decide_eq_true (List.all_eq_true.mp h c hc)
  obtain ⟨h1, h2⟩ := upper_list h'
  refine ⟨?_, ?_⟩
  · unfold asc
    rw [upper_cps, List.all_eq_true]
    exact fun c hc => decide_eq_true (h2 c hc)
  · rw [← Array.length_toList, upper_cps, h1, Array.length_toList]
/-! ### texts of signs -/
def sgT (x : Str) : Bool := x.cps.toList.all fun c => decide (c ∈ (Str.ofString "01").cps.toList)
theorem sgT_c {c : Nat} : decide (c ∈ (Str.ofString "01").cps.toList) = (c == 48 || c == 49) := by
  have e : (Str.ofString "01").cps.toList = [48, 49] := by decide +kernel
  rw [e, Bool.eq_iff_iff]
  simp
theorem sgT_tx {x : Str} (h : sgT x = true) : ∃ t, x = tx t := by
  refine ⟨x.cps.toList.map (fun c => c == 49), ?_⟩
  have e : (x.cps.toList.map (fun c => c == 49)).map sgc = x.cps.toList := by
    rw [List.map_map]
    conv => rhs; rw [← List.map_id x.cps.toList]
    refine List.map_congr_left fun c hc => ?_
    have := List.all_eq_true.mp h c hc
    rw [sgT_c, Bool.or_eq_true, beq_iff_eq, beq_iff_eq] at this
    rcases this with rfl | rfl <;> rfl
  obtain ⟨⟨l⟩⟩ := x
  unfold tx
  rw [e]
theorem tx_sgT (t : List Bool) : sgT (tx t) = true := by
  unfold sgT
  rw [tx_cps, List.all_map, List.all_eq_true]
  intro b _
  show decide (sgc b ∈ (Str.ofString "01").cps.toList) = true
  rw [sgT_c]
  cases b <;> rfl
/-- a shape, of whatever bounds -/
def IsShp (d : D) : Prop := ∃ x : Sh, Canon x ∧ d = encS x
/-- a side's text: one that is not shorter told -/
def IsSd (d : D) : Prop := ∃ t : List Bool, t ≠ [] ∧ t.length ∣ 60 ∧ d = .str (tx t)
noncomputable def prB (p : Prop) : Bool := @decide p (Classical.propDecidable p)
theorem prB_t {p : Prop} (h : p) : prB p = true := @decide_eq_true p (Classical.propDecidable p) h
theorem prB_f {p : Prop} (h : ¬ p) : prB p = false := @decide_eq_false p (Classical.propDecidable p) h
theorem prB_iff {p : Prop} {b : Bool} (h : b = true ↔ p) : prB p = b := by
  cases b with
  | true => exact prB_t (h.mp rfl)
  | false => exact prB_f fun z => by have := h.mpr z; cases this
theorem of_prB {p : Prop} (h : prB p = true) : p := @of_decide_eq_true p (Classical.propDecidable p) h
theorem not_prB {p : Prop} (h : prB p = false) : ¬ p := fun z => by rw [prB_t z] at h; cases h
theorem encS_inj {x y : Sh} (h : encS x = encS y) : x = y := by
  unfold encS at h
  simp only [D.tup.injEq, List.cons.injEq, D.str.injEq, D.int.injEq, and_true] at h
  obtain ⟨h1, h2, h3, h4⟩ := h
  obtain ⟨xl, xo, xm, xr⟩ := x
  obtain ⟨yl, yo, ym, yr⟩ := y
  simp only at h1 h2 h3 h4
  rw [tx_inj h1, h2, tx_inj h3, tx_inj h4]
theorem isSd_tx {t : List Bool} : IsSd (.str (tx t)) ↔ t ≠ [] ∧ t.length ∣ 60 :=
  ⟨fun ⟨u, h1, h2, e⟩ => by rw [D.str.injEq] at e; rw [tx_inj e]; exact ⟨h1, h2⟩, fun h => ⟨t, h.1, h.2, rfl⟩⟩
theorem len_str {x : Str} (h : x.cps.size ≤ 16777216) : lenD (.str x) = some x.cps.size := if_pos h
theorem wgt_str (x : Str) : wgtR (.str x) = x.cps.size := by rw [wgtR]
theorem wgt_tup (xs : List D) : wgtR (.tup xs) = wgtRs xs := by rw [wgtR]
theorem wgt_lst (xs : List D) : wgtR (.lst xs) = wgtRs xs := by rw [wgtR]
/-- a and b as a value, a a truth -/
theorem w_and {P : Pg} {F : Fn} (mF : FMono F) {a b : Ex} {r r' : Env} {t : Bool} {Q : R → Env → Prop} {E : Xc → Env → Prop} (ha : wE P F a r (fun v r1 => v = .val (.bl t) ∧ r1 = r') E) (h0 : t = false → Q (.val (.bl false)) r') (h1 : t = true → wE P F b r' Q E) : wE P F (.and a b) r Q E := by
  simp only [wE]
  refine wE_mono mF ha (fun v r1 ⟨e, e1⟩ => ?_) fun _ _ z => z
  subst e e1
  refine ⟨t, rfl, ?_⟩
  cases t with
  | true => exact h1 rfl
  | false => exact h0 rfl
theorem cutS_asc {x : Str} (lo hi : Option Int) (h : asc x = true) : asc (L2.cutS x lo hi) = true ∧ (L2.cutS x lo hi).cps.size ≤ x.cps.size := by
  refine ⟨asc_sub (x := x) (fun c hc => ?_) h, ?_⟩
  · have : c ∈ (x.cps.toList.drop (HT.sIx x.length 0 lo)).take (HT.sIx x.length x.length hi - HT.sIx x.length 0 lo) := hc
    exact List.mem_of_mem_drop (List.mem_of_mem_take this)
  · show ((x.cps.toList.drop (HT.sIx x.length 0 lo)).take (HT.sIx x.length x.length hi - HT.sIx x.length 0 lo)).toArray.size ≤ _
    rw [List.size_toArray, List.length_take, List.length_drop, Array.length_toList]
    omega
theorem cutD_mem {xs : List D} {lo hi : Option Int} {d : D} (h : d ∈ cutD xs lo hi) : d ∈ xs := by
  unfold cutD at h
  exact List.mem_of_mem_drop (List.mem_of_mem_take h)
theorem cutD_wgt (xs : List D) (lo hi : Option Int) : wgtRs (cutD xs lo hi) ≤ wgtRs xs := by
  unfold cutD
  exact Nat.le_trans (wgts_take _ _) (wgts_drop _ _)
theorem sl_s {x : Str} (h : x.cps.size ≤ 16777216) (lo hi : Option Int) : slD (.str x) lo hi = some (.val (.str (L2.cutS x lo hi))) := if_pos h
theorem monoB_k {B C : Nat} {k : L2.Key} (hl : B ≤ C) (h : keyT B k = true) : keyT C k = true := by
  cases k with
  | inl i => exact decide_eq_true (Nat.lt_of_lt_of_le (of_decide_eq_true h) hl)
  | inr x => exact h
theorem tame_monoB {B C : Nat} (hl : B ≤ C) : ∀ (n : Nat) (d : D), tameE B n d = true → tameE C n d = true := by
  intro n
  induction n with
  | zero =>
    intro d h
    cases d with
    | non => unfold tameE; rfl
    | bl b => unfold tameE; rfl
    | int i => unfold tameE at h ⊢; exact decide_eq_true (Nat.lt_of_lt_of_le (of_decide_eq_true h) hl)
    | str x => unfold tameE at h ⊢; exact h
    | lst xs => unfold tameE at h; cases h
    | tup xs => unfold tameE at h; cases h
    | dic k => unfold tameE at h; cases h
    | pot => unfold tameE at h; cases h
    | scr x => unfold tameE at h; cases h
  | succ n ih =>
    intro d h
    have allk : ∀ xs : List (L2.Key × D), tameEk B n xs = true → tameEk C n xs = true := by
      intro xs
      induction xs with
      | nil => intro _; unfold tameEk; rfl
      | cons x xs ihx =>
        obtain ⟨k, d⟩ := x
        intro hx
        unfold tameEk at hx ⊢
        rw [Bool.and_eq_true, Bool.and_eq_true] at hx
        rw [monoB_k hl hx.1.1, ih d hx.1.2, ihx hx.2]; rfl
    cases d with
    | lst xs => unfold tameE at h ⊢; exact tames_mem.mpr fun d hd => ih d (tames_mem.mp h d hd)
    | tup xs => unfold tameE at h ⊢; exact tames_mem.mpr fun d hd => ih d (tames_mem.mp h d hd)
    | dic kvs => unfold tameE at h ⊢; exact allk kvs h
    | str x => unfold tameE at h ⊢; exact h
    | non => unfold tameE; rfl
    | bl b => unfold tameE; rfl
    | int i => unfold tameE at h ⊢; exact decide_eq_true (Nat.lt_of_lt_of_le (of_decide_eq_true h) hl)
    | pot => unfold tameE at h; cases h
    | scr x => unfold tameE at h; cases h
theorem tame_up {B C n m : Nat} {d : D} (hB : B ≤ C) (hn : n ≤ m) (h : tameE B n d = true) : tameE C m d = true := tame_mono hn (tame_monoB hB n d h)
theorem tame_tup {B n : Nat} {xs : List D} : tameE B (n + 1) (.tup xs) = true ↔ ∀ d ∈ xs, tameE B n d = true := by rw [tameE]; exact tames_mem
theorem tame_lst {B n : Nat} {xs : List D} : tameE B (n + 1) (.lst xs) = true ↔ ∀ d ∈ xs, tameE B n d = true := by rw [tameE]; exact tames_mem
theorem tame_tup0 {B n : Nat} {xs : List D} (h : tameE B n (.tup xs) = true) : ∃ m, n = m + 1 ∧ ∀ d ∈ xs, tameE B m d = true := by
  cases n with
  | zero => unfold tameE at h; cases h
  | succ m => exact ⟨m, rfl, tame_tup.mp h⟩
theorem tame_int {B n : Nat} {i : Int} : tameE B n (.int i) = true ↔ i.natAbs < B := by
  cases n <;> (rw [tameE]; exact decide_eq_true_iff)
theorem tame_str {B n : Nat} {x : Str} : tameE B n (.str x) = true ↔ asc x = true := by
  cases n <;> rw [tameE]
theorem tame_bl {B n : Nat} {b : Bool} : tameE B n (.bl b) = true := by cases n <;> rw [tameE]
theorem tame_non {B n : Nat} : tameE B n .non = true := by cases n <;> rw [tameE]
theorem wgt_int (i : Int) : wgtR (.int i) = 40 := by rw [wgtR]
theorem wgt_bl (b : Bool) : wgtR (.bl b) = 0 := by unfold wgtR; rfl
theorem wgt_non : wgtR .non = 0 := by unfold wgtR; rfl
def oddB : Nat := 100000000001
def odds : List D := [.non, .bl true, .bl false, .int (-1), .int 100000000000, .str "", .str "a", .str "1", .tup [], .lst [], .dic [], .lst [.tup []], .tup [.tup []], .tup [.int 0], .lst [.int 0], .dic [(.inl 0, .int 1)], .tup [.bl true, .bl true]]
theorem odds_ok : ∀ d ∈ odds, tameE oddB 2 d = true ∧ wgtR d ≤ 100 := by
  unfold odds
  simp only [List.forall_mem_cons]
  refine ⟨?_, ?_, ?_, ?_, ?_, ?_, ?_, ?_, ?_, ?_, ?_, ?_, ?_, ?_, ?_, ?_, ?_, by simp⟩
  all_goals
    simp only [tameE, tameEs, tameEk, wgtR, wgtRs, wgtRk]
    decide +kernel
/-- a test of whose answer something is known -/
theorem p_ife {P : Pg} {F : Fn} (mF : FMono F) {c : Ex} {a ss : List Sm} {Dn : Ed} {r : Env} (Qt : Bool → Env → Prop) (hc : wT P F c r Qt fun _ _ => False) (ht : ∀ r1, Qt true r1 → wSs P F a r1 { Dn with nx := fun r2 => wSs P F ss r2 Dn }) (hf : ∀ r1, Qt false r1 → wSs P F ss r1 Dn) : wSs P F (.ife c a [] :: ss) r Dn := by
  simp only [wSs, wS]
  refine wT_mono mF hc (fun q r1 h => ?_) fun _ _ z => z.elim
  cases q with
  | true => exact ht r1 h
  | false =>
    simp only [Bool.false_eq_true, if_false, wSs]
    exact hf r1 h
theorem w_bin {P : Pg} {F : Fn} (mF : FMono F) {o : Op} {a b : Ex} {r : Env} {A B : R → Env → Prop} {Q : R → Env → Prop} {E : Xc → Env → Prop} (ha : wE P F a r (fun x r1 => A x r1 ∧ r1 = r) E) (hb : wE P F b r (fun y r2 => B y r2 ∧ r2 = r) E) (h : ∀ x y, A x r → B y r → ∃ z, opD o x.d y.d = some z ∧ Q z r) : wE P F (.bin o a b) r Q E := by
  simp only [wE]
  refine wE_mono mF ha (fun x r1 ⟨hx, e⟩ => ?_) fun _ _ z => z
  subst e
  refine wE_mono mF hb (fun y r2 ⟨hy, e⟩ => ?_) fun _ _ z => z
  subst e
  exact h x y hx hy
end PL
set_option maxHeartbeats 0
namespace K12
open PySem PySem.Spec L2 PL
/-! ### sayarrows_k12_shapes_known: its text -/
def topS (i : Nat) : Stmt := PySem.Challenge.pw_sayarrows_k12_shapes_known.main.body.getD i (.Pass ⟨0, 0, 0, 0⟩)
abbrev i_is_whole : Nat := 0
abbrev i_sign_by : Nat := 1
abbrev i_shortest : Nat := 2
abbrev i_in_form : Nat := 3
abbrev i_sign_of : Nat := 4
abbrev i_has_in : Nat := 5
abbrev i_end_of : Nat := 6
abbrev i_round_of : Nat := 7
abbrev i_by_signs : Nat := 8
abbrev i_mark : Nat := 9
abbrev i_less_in : Nat := 10
abbrev i_others_in : Nat := 11
abbrev i_is_side : Nat := 12
abbrev i_is_shape : Nat := 13
abbrev i_need_shapes : Nat := 14
abbrev i_all_others : Nat := 15
abbrev i_least_in : Nat := 16
abbrev i_least_letter : Nat := 17
abbrev i__law_cell_at : Nat := 18
abbrev i__law_pot : Nat := 19
abbrev i__law_take : Nat := 20
abbrev i__law_whole : Nat := 21
abbrev i__law_odd : Nat := 22
abbrev i__law_bound : Nat := 23
abbrev i__law_rest : Nat := 24
abbrev i__law_saying : Nat := 25
abbrev i__law_fits : Nat := 26
abbrev i__law_many_tuples : Nat := 27
abbrev i__law_bent : Nat := 28
abbrev i__law_signs : Nat := 29
abbrev i__law_side : Nat := 30
abbrev i__law_shape : Nat := 31
abbrev i__law_drawn : Nat := 32
abbrev i__law_met : Nat := 33
abbrev i__law_are_signs : Nat := 34
abbrev i__law_is_shape : Nat := 35
abbrev i__law_near : Nat := 36
abbrev i_law : Nat := 37
/- is_whole : 0 thing -/
def fd_is_whole : Fd := ⟨1, 1,
    [(.ret (.and (.isi (.var 0) .int) (.not (.isi (.var 0) .bool))))]⟩
/- sign_by : 0 text, 1 letter -/
def fd_sign_by : Fd := ⟨2, 2,
    [(.ret (.ix (.var 0) (.bin .mod (.var 1) (.lenv 0))))]⟩
/- shortest : 0 text, 1 some, 2 size -/
def fd_shortest : Fd := ⟨1, 3,
    [(.asg (.nm 1) (.lc (.nm 2) (.rng2 (.cst (.int 1)) (.bin .add (.lenv 0) (.cst (.int 1)))) [(.cmp .eq (.bin .mod (.lenv 0) (.var 2)) (.cst (.int 0)))] (.var 2) [2])),
    (.ret (.ix (.lc (.nm 2) (.seq (.var 1)) [(.cmp .eq (.bin .mul (.sl (.var 0) none (some (.var 2))) (.bin .fdiv (.lenv 0) (.var 2))) (.var 0))] (.sl (.var 0) none (some (.var 2))) [2]) (.cst (.int 0))))]⟩
/- in_form : 0 left, 1 low, 2 middle, 3 right, 4 at, 5 end -/
def fd_in_form : Fd := ⟨4, 6,
    [(.par2 0 3 (.call i_shortest [(.var 0)]) (.call i_shortest [(.var 3)])),
    (.par2 4 5 (.cst (.int 0)) (.lenv 2)),
    (.whil (.and (.cmp .lt (.var 4) (.var 5)) (.cmp .eq (.ix (.var 2) (.var 4)) (.call i_sign_by [(.var 0), (.bin .add (.var 1) (.var 4))])))
      [(.aug 4 .add (.cst (.int 1)))]),
    (.ife (.and (.cmp .eq (.var 4) (.var 5)) (.cmp .eq (.var 0) (.var 3)))
      [(.ret (.tup [(.var 0), (.cst (.int 0)), (.cst (.str "")), (.var 3)]))]
      []),
    (.whil (.and (.cmp .ge (.var 4) (.var 5)) (.cmp .eq (.call i_sign_by [(.var 0), (.bin .add (.var 1) (.var 4))]) (.call i_sign_by [(.var 3), (.bin .add (.var 1) (.var 4))])))
      [(.aug 4 .add (.cst (.int 1)))]),
    (.whil (.and (.cmp .gt (.var 5) (.var 4)) (.cmp .eq (.ix (.var 2) (.bin .sub (.var 5) (.cst (.int 1)))) (.call i_sign_by [(.var 3), (.bin .sub (.bin .add (.var 1) (.var 5)) (.cst (.int 1)))])))
      [(.aug 5 .sub (.cst (.int 1)))]),
    (.ret (.tup [(.var 0), (.bin .add (.var 1) (.var 4)), (.sl (.var 2) (some (.var 4)) (some (.bi .max [(.var 4), (.var 5)]))), (.var 3)]))]⟩
/- sign_of : 0 shape, 1 letter, 2 left, 3 low, 4 middle, 5 right -/
def fd_sign_of : Fd := ⟨2, 6,
    [(.asg (.tp [(.nm 2), (.nm 3), (.nm 4), (.nm 5)]) (.var 0)),
    (.ife (.cmp .lt (.var 1) (.var 3))
      [(.ret (.call i_sign_by [(.var 2), (.var 1)]))]
      []),
    (.ret (.ifx (.cmp .lt (.var 1) (.bin .add (.var 3) (.lenv 4))) (.ix (.var 4) (.bin .sub (.var 1) (.var 3))) (.call i_sign_by [(.var 5), (.var 1)])))]⟩
/- has_in : 0 shape, 1 letter -/
def fd_has_in : Fd := ⟨2, 2,
    [(.ret (.cmp .eq (.call i_sign_of [(.var 0), (.var 1)]) (.cst (.str "1"))))]⟩
/- end_of : 0 shape -/
def fd_end_of : Fd := ⟨1, 1,
    [(.ret (.bin .add (.ix (.var 0) (.cst (.int 1))) (.bi .len [(.ix (.var 0) (.cst (.int 2)))])))]⟩
/- round_of : 0 one, 1 other, 2 size -/
def fd_round_of : Fd := ⟨2, 3,
    [(.asg (.nm 2) (.var 0)),
    (.whil (.cmp .ne (.bin .mod (.var 2) (.var 1)) (.cst (.int 0)))
      [(.aug 2 .add (.var 0))]),
    (.ret (.var 2))]⟩
/- by_signs : 0 one, 1 other, 2 fitting, 3 low, 4 end, 5 middle, 6 letter, 7 sides, 8 mine, 9 its, 10 size, 11 at -/
def fd_by_signs : Fd := ⟨3, 12,
    [(.par2 3 4 (.bi .min [(.ix (.var 0) (.cst (.int 1))), (.ix (.var 1) (.cst (.int 1)))]) (.bi .max [(.call i_end_of [(.var 0)]), (.call i_end_of [(.var 1)])])),
    (.asg (.nm 5) (.mt .join (.cst (.str "")) [(.lc (.nm 6) (.rng2 (.var 3) (.var 4)) [] (.call i_mark [(.bin .add (.call i_sign_of [(.var 0), (.var 6)]) (.call i_sign_of [(.var 1), (.var 6)])), (.var 2)]) [6])])),
    (.asg (.nm 7) (.lst [])),
    (.fo (.tp [(.nm 8), (.nm 9)]) (.seq (.tup [(.tup [(.ix (.var 0) (.cst (.int 0))), (.ix (.var 1) (.cst (.int 0)))]), (.tup [(.ix (.var 0) (.cst (.int 3))), (.ix (.var 1) (.cst (.int 3)))])]))
      [(.asg (.nm 10) (.call i_round_of [(.lenv 8), (.lenv 9)])),
      (.ex (.mu .append 7 [(.mt .join (.cst (.str "")) [(.lc (.nm 11) (.rng1 (.var 10)) [] (.call i_mark [(.bin .add (.call i_sign_by [(.var 8), (.var 11)]) (.call i_sign_by [(.var 9), (.var 11)])), (.var 2)]) [11])])]))]),
    (.ret (.call i_in_form [(.ix (.var 7) (.cst (.int 0))), (.var 3), (.var 5), (.ix (.var 7) (.cst (.int 1)))]))]⟩
/- mark : 0 signs, 1 fitting -/
def fd_mark : Fd := ⟨2, 2,
    [(.ret (.ix (.glo 0) (.bi .int [(.cmp .isin (.var 0) (.var 1))])))]⟩
/- less_in : 0 one, 1 other -/
def fd_less_in : Fd := ⟨2, 2,
    [(.ret (.callk i_by_signs [0, 1, 2] [(.var 0), (.var 1)] [(.tup [(.cst (.str "10"))])]))]⟩
/- others_in : 0 shape -/
def fd_others_in : Fd := ⟨1, 1,
    [(.ret (.call i_less_in [(.glo 2), (.var 0)]))]⟩
/- is_side : 0 thing, 1 sign -/
def fd_is_side : Fd := ⟨1, 2,
    [(.ife (.or (.not (.isi (.var 0) .str)) (.or (.cmp .eq (.lenv 0) (.cst (.int 0))) (.cmp .ne (.bin .mod (.glo 1) (.lenv 0)) (.cst (.int 0)))))
      [(.ret (.cst (.bl false)))]
      []),
    (.ret (.bi .all [(.lc (.nm 1) (.seq (.var 0)) [] (.cmp .isin (.var 1) (.glo 0)) [1])]))]⟩
/- is_shape : 0 thing, 1 left, 2 low, 3 middle, 4 right, 5 sign -/
def fd_is_shape : Fd := ⟨1, 6,
    [(.ife (.or (.not (.isi (.var 0) .tuple)) (.or (.cmp .ne (.lenv 0) (.cst (.int 4))) (.or (.not (.call i_is_side [(.ix (.var 0) (.cst (.int 0)))])) (.not (.call i_is_side [(.ix (.var 0) (.cst (.int 3)))])))))
      [(.ret (.cst (.bl false)))]
      []),
    (.asg (.tp [(.nm 1), (.nm 2), (.nm 3), (.nm 4)]) (.var 0)),
    (.ife (.or (.not (.call i_is_whole [(.var 2)])) (.not (.isi (.var 3) .str)))
      [(.ret (.cst (.bl false)))]
      []),
    (.ret (.and (.bi .all [(.lc (.nm 5) (.seq (.var 3)) [] (.cmp .isin (.var 5) (.glo 0)) [5])]) (.cmp .eq (.call i_in_form [(.var 1), (.var 2), (.var 3), (.var 4)]) (.var 0))))]⟩
/- need_shapes : 0 things, 1 thing -/
def fd_need_shapes : Fd := ⟨1, 2,
    [(.fo (.nm 1) (.seq (.var 0))
      [(.ife (.not (.call i_is_shape [(.var 1)]))
        [(.rais "NoShape")]
        [])])]⟩
/- all_others : 0 shape -/
def fd_all_others : Fd := ⟨1, 1,
    [(.ex (.call i_need_shapes [(.lst [(.var 0)])])),
    (.ret (.call i_others_in [(.var 0)]))]⟩
/- least_in : 0 shape, 1 left, 2 low, 3 middle, 4 right, 5 farthest, 6 size, 7 letter -/
def fd_least_in : Fd := ⟨1, 8,
    [(.asg (.tp [(.nm 1), (.nm 2), (.nm 3), (.nm 4)]) (.var 0)),
    (.asg (.nm 5) (.bin .add (.bi .max [(.bi .abs [(.var 2)]), (.bi .abs [(.call i_end_of [(.var 0)])])]) (.bi .max [(.lenv 1), (.lenv 4)]))),
    (.fo (.nm 6) (.rng1 (.bin .add (.var 5) (.cst (.int 1))))
      [(.fo (.nm 7) (.seq (.tup [(.var 6), (.neg (.var 6))]))
        [(.ife (.call i_has_in [(.var 0), (.var 7)])
          [(.ret (.var 7))]
          [])])]),
    (.ret (.cst .non))]⟩
/- least_letter : 0 shape -/
def fd_least_letter : Fd := ⟨1, 1,
    [(.ex (.call i_need_shapes [(.lst [(.var 0)])])),
    (.ret (.call i_least_in [(.var 0)]))]⟩
/- _law_cell_at : 0 _law_script, 1 _law_k -/
def fd__law_cell_at : Fd := ⟨2, 2,
    [(.ife (.cmp .lt (.var 1) (.lenv 0))
      [(.ret (.ix (.var 0) (.var 1)))]
      []),
    (.ret (.cst (.int 0)))]⟩
/- _law_pot : 0 _law_cell, 1 _law_number, 2 _law_j, 3 _law_more -/
def fd__law_pot : Fd := ⟨1, 4,
    [(.ife (.cmp .ge (.var 0) (.bin .pow (.cst (.int 10)) (.cst (.int 18))))
      [(.ret (.lst [(.bin .sub (.var 0) (.bin .pow (.cst (.int 10)) (.cst (.int 18))))]))]
      []),
    (.asg (.nm 1) (.cst (.int 0))),
    (.fo (.nm 2) (.rng1 (.cst (.int 64)))
      [(.asg (.nm 3) (.bin .mod (.bin .mul (.bin .add (.bin .add (.bin .mod (.var 0) (.cst (.int 2147483629))) (.bin .mul (.cst (.int 7919)) (.var 2))) (.cst (.int 1))) (.cst (.int 48271))) (.cst (.int 2147483647)))),
      (.asg (.nm 3) (.bin .mod (.bin .add (.bin .add (.bin .mul (.var 3) (.var 3)) (.bin .mul (.cst (.int 69621)) (.var 2))) (.cst (.int 7))) (.cst (.int 2147483587)))),
      (.asg (.nm 1) (.bin .add (.bin .mul (.var 1) (.cst (.int 2147483587))) (.var 3)))]),
    (.ret (.lst [(.var 1)]))]⟩
/- _law_take : 0 _law_pot_here, 1 _law_far, 2 _law_found -/
def fd__law_take : Fd := ⟨2, 3,
    [(.asg (.nm 2) (.bin .mod (.potg 0) (.var 1))),
    (.potp 0 (.bin .fdiv (.potg 0) (.var 1))),
    (.ret (.var 2))]⟩
/- _law_whole : 0 _law_thing -/
def fd__law_whole : Fd := ⟨1, 1,
    [(.ret (.and (.isi (.var 0) .int) (.not (.isi (.var 0) .bool))))]⟩
/- _law_odd : 0 _law_pot_here, 1 _law_some -/
def fd__law_odd : Fd := ⟨1, 2,
    [(.asg (.nm 1) (.lst [(.cst .non), (.cst (.bl true)), (.cst (.bl false)), (.neg (.cst (.int 1))), (.bin .pow (.cst (.int 10)) (.cst (.int 11))), (.cst (.str "")), (.cst (.str "a")), (.cst (.str "1")), (.tup []), (.lst []), (.dic []), (.lst [(.tup [])]), (.tup [(.tup [])]), (.tup [(.cst (.int 0))]), (.lst [(.cst (.int 0))]), (.dic [(.inl 0, (.int 1))]), (.tup [(.cst (.bl true)), (.cst (.bl true))])])),
    (.ret (.ix (.var 1) (.call i__law_take [(.var 0), (.lenv 1)])))]⟩
/- _law_bound : 0 _law_pot_here -/
def fd__law_bound : Fd := ⟨1, 1,
    [(.ret (.ix (.lst [(.bin .sub (.call i__law_take [(.var 0), (.cst (.int 9))]) (.cst (.int 4))), (.ix (.lst [(.cst (.int 99)), (.neg (.cst (.int 99))), (.cst (.int 0)), (.cst (.int 1)), (.neg (.cst (.int 1)))]) (.call i__law_take [(.var 0), (.cst (.int 5))])), (.bin .sub (.call i__law_take [(.var 0), (.cst (.int 199))]) (.cst (.int 99)))]) (.call i__law_take [(.var 0), (.cst (.int 3))])))]⟩
/- _law_rest : 0 _law_pot_here, 1 _law_by -/
def fd__law_rest : Fd := ⟨1, 2,
    [(.asg (.nm 1) (.bin .add (.cst (.int 2)) (.call i__law_take [(.var 0), (.cst (.int 5))]))),
    (.ret (.tup [(.cst (.str "rest")), (.var 1), (.call i__law_take [(.var 0), (.var 1)])]))]⟩
/- _law_saying : 0 _law_pot_here, 1 _law_deep, 2 _law_way, 3 _law_some -/
def fd__law_saying : Fd := ⟨2, 4,
    [(.asg (.nm 2) (.call i__law_take [(.var 0), (.cst (.int 12))])),
    (.ife (.or (.cmp .eq (.var 1) (.cst (.int 0))) (.cmp .lt (.var 2) (.cst (.int 6))))
      [(.asg (.nm 3) (.lst [(.tup [(.cst (.str "from")), (.call i__law_bound [(.var 0)])]), (.tup [(.cst (.str "to")), (.call i__law_bound [(.var 0)])]), (.call i__law_rest [(.var 0)]), (.tup [(.cst (.str "all"))]), (.tup [(.cst (.str "none"))]), (.call i__law_rest [(.var 0)])])),
      (.ret (.ix (.var 3) (.bin .mod (.var 2) (.cst (.int 6)))))]
      []),
    (.ife (.or (.cmp .eq (.var 2) (.cst (.int 6))) (.cmp .eq (.var 2) (.cst (.int 7))))
      [(.ret (.tup [(.cst (.str "not")), (.call i__law_saying [(.var 0), (.bin .sub (.var 1) (.cst (.int 1)))])]))]
      []),
    (.ret (.tup [(.ix (.lst [(.cst (.str "both")), (.cst (.str "either"))]) (.bin .mod (.var 2) (.cst (.int 2)))), (.call i__law_saying [(.var 0), (.bin .sub (.var 1) (.cst (.int 1)))]), (.call i__law_saying [(.var 0), (.bin .sub (.var 1) (.cst (.int 1)))])]))]⟩
/- _law_fits : 0 _law_saying_here, 1 _law_letter, 2 _law_word -/
def fd__law_fits : Fd := ⟨2, 3,
    [(.asg (.nm 2) (.ix (.var 0) (.cst (.int 0)))),
    (.ife (.cmp .isin (.var 2) (.tup [(.cst (.str "all")), (.cst (.str "none"))]))
      [(.ret (.cmp .eq (.var 2) (.cst (.str "all"))))]
      []),
    (.ife (.cmp .eq (.var 2) (.cst (.str "not")))
      [(.ret (.not (.call i__law_fits [(.ix (.var 0) (.cst (.int 1))), (.var 1)])))]
      []),
    (.ife (.cmp .eq (.var 2) (.cst (.str "both")))
      [(.ret (.and (.call i__law_fits [(.ix (.var 0) (.cst (.int 1))), (.var 1)]) (.call i__law_fits [(.ix (.var 0) (.cst (.int 2))), (.var 1)])))]
      []),
    (.ife (.cmp .eq (.var 2) (.cst (.str "either")))
      [(.ret (.or (.call i__law_fits [(.ix (.var 0) (.cst (.int 1))), (.var 1)]) (.call i__law_fits [(.ix (.var 0) (.cst (.int 2))), (.var 1)])))]
      []),
    (.ife (.cmp .eq (.var 2) (.cst (.str "rest")))
      [(.ret (.cmp .eq (.bin .mod (.var 1) (.ix (.var 0) (.cst (.int 1)))) (.ix (.var 0) (.cst (.int 2)))))]
      []),
    (.ret (.ifx (.cmp .eq (.var 2) (.cst (.str "from"))) (.cmp .ge (.var 1) (.ix (.var 0) (.cst (.int 1)))) (.cmp .le (.var 1) (.ix (.var 0) (.cst (.int 1))))))]⟩
/- _law_many_tuples : 0 _law_saying_here, 1 _law_part -/
def fd__law_many_tuples : Fd := ⟨1, 2,
    [(.ret (.bin .add (.cst (.int 1)) (.bi .sum [(.lc (.nm 1) (.seq (.sl (.var 0) (some (.cst (.int 1))) none)) [(.isi (.var 1) .tuple)] (.call i__law_many_tuples [(.var 1)]) [1])])))]⟩
/- _law_bent : 0 _law_pot_here, 1 _law_thing, 2 _law_deep, 3 _law_at, 4 _law_way -/
def fd__law_bent : Fd := ⟨3, 5,
    [(.ife (.and (.call i__law_whole [(.var 1)]) (.cmp .gt (.call i__law_take [(.var 0), (.cst (.int 3))]) (.cst (.int 0))))
      [(.ret (.ix (.lst [(.bin .add (.var 1) (.cst (.int 1))), (.bin .sub (.var 1) (.cst (.int 1))), (.bin .sub (.cst (.int 0)) (.var 1)), (.bin .add (.var 1) (.cst (.int 100))), (.bin .pow (.cst (.int 10)) (.cst (.int 11))), (.cst (.bl true))]) (.call i__law_take [(.var 0), (.cst (.int 6))])))]
      []),
    (.ife (.and (.isi (.var 1) .str) (.cmp .gt (.call i__law_take [(.var 0), (.cst (.int 3))]) (.cst (.int 0))))
      [(.ret (.ix (.lst [(.bin .add (.var 1) (.cst (.str "0"))), (.sl (.var 1) none (some (.neg (.cst (.int 1))))), (.sl (.var 1) (some (.cst (.int 1))) none), (.mt .upper (.var 1) []), (.bin .add (.var 1) (.cst (.str "1"))), (.cst (.str "not"))]) (.call i__law_take [(.var 0), (.cst (.int 6))])))]
      []),
    (.ife (.or (.not (.isi (.var 1) .tuple)) (.or (.cmp .eq (.var 1) (.tup [])) (.cmp .eq (.var 2) (.cst (.int 0)))))
      [(.ret (.call i__law_odd [(.var 0)]))]
      []),
    (.par2 3 4 (.call i__law_take [(.var 0), (.lenv 1)]) (.call i__law_take [(.var 0), (.cst (.int 10))])),
    (.ife (.cmp .eq (.var 4) (.cst (.int 0)))
      [(.ret (.bin .add (.bin .add (.sl (.var 1) none (some (.var 3))) (.tup [(.call i__law_odd [(.var 0)])])) (.sl (.var 1) (some (.var 3)) none)))]
      []),
    (.ife (.cmp .eq (.var 4) (.cst (.int 1)))
      [(.ret (.bin .add (.sl (.var 1) none (some (.var 3))) (.sl (.var 1) (some (.bin .add (.var 3) (.cst (.int 1)))) none)))]
      []),
    (.ife (.cmp .eq (.var 4) (.cst (.int 2)))
      [(.ret (.bin .add (.bin .add (.sl (.var 1) none (some (.var 3))) (.sl (.var 1) (some (.var 3)) (some (.bin .add (.var 3) (.cst (.int 1)))))) (.sl (.var 1) (some (.var 3)) none)))]
      []),
    (.ife (.cmp .eq (.var 4) (.cst (.int 3)))
      [(.ret (.ix (.lst [(.bi .list [(.var 1)]), (.rev (.var 1))]) (.call i__law_take [(.var 0), (.cst (.int 2))])))]
      []),
    (.ret (.bin .add (.bin .add (.sl (.var 1) none (some (.var 3))) (.tup [(.call i__law_bent [(.var 0), (.ix (.var 1) (.var 3)), (.bin .sub (.var 2) (.cst (.int 1)))])])) (.sl (.var 1) (some (.bin .add (.var 3) (.cst (.int 1)))) none)))]⟩
/- _law_signs : 0 _law_saying_here, 1 _law_letter -/
def fd__law_signs : Fd := ⟨1, 2,
    [(.ret (.mt .join (.cst (.str "")) [(.lc (.nm 1) (.rng2 (.neg (.cst (.int 500))) (.cst (.int 501))) [] (.ix (.cst (.str "01")) (.bi .int [(.call i__law_fits [(.var 0), (.var 1)])])) [1])]))]⟩
/- _law_side : 0 _law_signs_here, 1 _law_low, 2 _law_row, 3 _law_at, 4 _law_text, 5 _law_size -/
def fd__law_side : Fd := ⟨2, 6,
    [(.asg (.nm 2) (.bi .dict [(.lc (.nm 3) (.rng1 (.cst (.int 120))) [] (.tup [(.bin .mod (.bin .add (.var 1) (.var 3)) (.cst (.int 60))), (.ix (.var 0) (.bin .add (.bin .add (.var 1) (.var 3)) (.cst (.int 500))))]) [3])])),
    (.asg (.nm 4) (.mt .join (.cst (.str "")) [(.lc (.nm 3) (.rng1 (.cst (.int 60))) [] (.ix (.var 2) (.var 3)) [3])])),
    (.ret (.ix (.lc (.nm 5) (.rng2 (.cst (.int 1)) (.cst (.int 61))) [(.and (.cmp .eq (.bin .mod (.cst (.int 60)) (.var 5)) (.cst (.int 0))) (.cmp .eq (.bin .mul (.sl (.var 4) none (some (.var 5))) (.bin .fdiv (.cst (.int 60)) (.var 5))) (.var 4)))] (.sl (.var 4) none (some (.var 5))) [5]) (.cst (.int 0))))]⟩
/- _law_shape : 0 _law_signs_here, 1 _law_left, 2 _law_right, 3 _law_low, 4 _law_end -/
def fd__law_shape : Fd := ⟨1, 5,
    [(.par2 1 2 (.call i__law_side [(.var 0), (.neg (.cst (.int 500)))]) (.call i__law_side [(.var 0), (.cst (.int 300))])),
    (.asg (.nm 3) (.neg (.cst (.int 300)))),
    (.whil (.and (.cmp .le (.var 3) (.cst (.int 300))) (.cmp .eq (.ix (.var 0) (.bin .add (.var 3) (.cst (.int 500)))) (.ix (.var 1) (.bin .mod (.var 3) (.lenv 1)))))
      [(.asg (.nm 3) (.bin .add (.var 3) (.cst (.int 1))))]),
    (.ife (.cmp .gt (.var 3) (.cst (.int 300)))
      [(.ret (.tup [(.var 1), (.cst (.int 0)), (.cst (.str "")), (.var 1)]))]
      []),
    (.asg (.nm 4) (.cst (.int 300))),
    (.whil (.and (.cmp .gt (.var 4) (.var 3)) (.cmp .eq (.ix (.var 0) (.bin .add (.bin .sub (.var 4) (.cst (.int 1))) (.cst (.int 500)))) (.ix (.var 2) (.bin .mod (.bin .sub (.var 4) (.cst (.int 1))) (.lenv 2)))))
      [(.asg (.nm 4) (.bin .sub (.var 4) (.cst (.int 1))))]),
    (.ret (.tup [(.var 1), (.var 3), (.sl (.var 0) (some (.bin .add (.var 3) (.cst (.int 500)))) (some (.bin .add (.var 4) (.cst (.int 500))))), (.var 2)]))]⟩
/- _law_drawn : 0 _law_pot_here, 1 _law_saying_here -/
def fd__law_drawn : Fd := ⟨1, 2,
    [(.asg (.nm 1) (.call i__law_saying [(.var 0), (.call i__law_take [(.var 0), (.cst (.int 5))])])),
    (.ret (.ifx (.cmp .le (.call i__law_many_tuples [(.var 1)]) (.cst (.int 30))) (.var 1) (.call i__law_rest [(.var 0)])))]⟩
/- _law_met : 0 _law_way, 1 _law_thing, 2 _law_e -/
def fd__law_met : Fd := ⟨2, 3,
    [(.tryr 2 [(.ife (.cmp .eq (.var 0) (.cst (.int 0)))
        [(.ex (.call i_all_others [(.var 1)]))]
        [(.ex (.call i_least_letter [(.var 1)]))])]),
    (.ret (.tup []))]⟩
/- _law_are_signs : 0 _law_thing, 1 _law_least, 2 _law_sign -/
def fd__law_are_signs : Fd := ⟨2, 3,
    [(.ret (.and (.isi (.var 0) .str) (.and (.cmp .ge (.lenv 0) (.var 1)) (.cmp .eq (.lc (.nm 2) (.seq (.var 0)) [(.cmp .notin (.var 2) (.cst (.str "01")))] (.var 2) [2]) (.lst [])))))]⟩
/- _law_is_shape : 0 _law_thing, 1 _law_left, 2 _law_low, 3 _law_middle, 4 _law_right, 5 _law_side_here, 6 _law_sizes, 7 _law_size, 8 _law_end -/
def fd__law_is_shape : Fd := ⟨1, 9,
    [(.ife (.or (.not (.isi (.var 0) .tuple)) (.or (.cmp .ne (.lenv 0) (.cst (.int 4))) (.not (.call i__law_whole [(.ix (.var 0) (.cst (.int 1)))]))))
      [(.ret (.cst (.bl false)))]
      []),
    (.asg (.tp [(.nm 1), (.nm 2), (.nm 3), (.nm 4)]) (.var 0)),
    (.ife (.or (.not (.call i__law_are_signs [(.var 1), (.cst (.int 1))])) (.or (.not (.call i__law_are_signs [(.var 3), (.cst (.int 0))])) (.not (.call i__law_are_signs [(.var 4), (.cst (.int 1))]))))
      [(.ret (.cst (.bl false)))]
      []),
    (.fo (.nm 5) (.seq (.tup [(.var 1), (.var 4)]))
      [(.ife (.cmp .ne (.bin .mod (.cst (.int 60)) (.lenv 5)) (.cst (.int 0)))
        [(.ret (.cst (.bl false)))]
        []),
      (.asg (.nm 6) (.lc (.nm 7) (.rng2 (.cst (.int 1)) (.lenv 5)) [(.cmp .eq (.bin .mod (.lenv 5) (.var 7)) (.cst (.int 0)))] (.var 7) [7])),
      (.ife (.cmp .ne (.lc (.nm 7) (.seq (.var 6)) [(.cmp .eq (.bin .mul (.sl (.var 5) none (some (.var 7))) (.bin .fdiv (.lenv 5) (.var 7))) (.var 5))] (.var 7) [7]) (.lst []))
        [(.ret (.cst (.bl false)))]
        [])]),
    (.ife (.and (.cmp .eq (.var 3) (.cst (.str ""))) (.cmp .eq (.var 1) (.var 4)))
      [(.ret (.cmp .eq (.var 2) (.cst (.int 0))))]
      []),
    (.ife (.cmp .eq (.var 3) (.cst (.str "")))
      [(.ret (.cmp .ne (.ix (.var 1) (.bin .mod (.var 2) (.lenv 1))) (.ix (.var 4) (.bin .mod (.var 2) (.lenv 4)))))]
      []),
    (.asg (.nm 8) (.bin .sub (.bin .add (.var 2) (.lenv 3)) (.cst (.int 1)))),
    (.ret (.and (.cmp .ne (.ix (.var 3) (.cst (.int 0))) (.ix (.var 1) (.bin .mod (.var 2) (.lenv 1)))) (.cmp .ne (.ix (.var 3) (.neg (.cst (.int 1)))) (.ix (.var 4) (.bin .mod (.var 8) (.lenv 4))))))]⟩
/- _law_near : 0 _law_pot_here, 1 _law_shape_here, 2 _law_left, 3 _law_low, 4 _law_middle, 5 _law_right, 6 _law_first, 7 _law_last, 8 _law_some -/
def fd__law_near : Fd := ⟨2, 9,
    [(.asg (.tp [(.nm 2), (.nm 3), (.nm 4), (.nm 5)]) (.var 1)),
    (.asg (.nm 6) (.ix (.var 2) (.bin .mod (.bin .sub (.var 3) (.cst (.int 1))) (.lenv 2)))),
    (.asg (.nm 7) (.ix (.var 5) (.bin .mod (.bin .add (.var 3) (.lenv 4)) (.lenv 5)))),
    (.asg (.nm 8) (.lst [(.tup [(.bin .mul (.var 2) (.cst (.int 2))), (.var 3), (.var 4), (.var 5)]), (.tup [(.var 2), (.var 3), (.var 4), (.bin .mul (.var 5) (.cst (.int 3)))]), (.tup [(.var 2), (.bin .sub (.var 3) (.cst (.int 1))), (.bin .add (.var 6) (.var 4)), (.var 5)])])),
    (.asg (.nm 8) (.bin .add (.var 8) (.lst [(.tup [(.var 2), (.var 3), (.bin .add (.var 4) (.var 7)), (.var 5)]), (.tup [(.var 2), (.bin .add (.var 3) (.cst (.int 1))), (.var 4), (.var 5)]), (.tup [(.var 2), (.bin .sub (.var 3) (.cst (.int 60))), (.var 4), (.var 5)])]))),
    (.asg (.nm 8) (.bin .add (.var 8) (.lst [(.tup [(.cst (.str "")), (.var 3), (.var 4), (.var 5)]), (.tup [(.var 2), (.var 3), (.var 4), (.cst (.str "01010"))]), (.tup [(.cst (.str "0000001")), (.var 3), (.var 4), (.var 5)])]))),
    (.asg (.nm 8) (.bin .add (.var 8) (.lst [(.tup [(.cst (.str "01")), (.var 3), (.var 4), (.cst (.str "01"))]), (.tup [(.cst (.str "01")), (.var 3), (.cst (.str "")), (.cst (.str "01"))]), (.tup [(.cst (.str "0")), (.var 3), (.cst (.str "")), (.cst (.str "0"))]), (.tup [(.cst (.str "1")), (.cst (.int 0)), (.cst (.str "0")), (.cst (.str "1"))])]))),
    (.asg (.nm 8) (.bin .add (.var 8) (.lst [(.tup [(.cst (.str "0")), (.var 3), (.cst (.str "1")), (.cst (.str "0"))]), (.tup [(.cst (.str "2")), (.cst (.int 0)), (.cst (.str "")), (.cst (.str "2"))]), (.bi .list [(.var 1)]), (.sl (.var 1) none (some (.cst (.int 3)))), (.bin .add (.var 1) (.tup [(.cst (.str "0"))]))]))),
    (.ex (.mu .append 8 [(.tup [(.var 2), (.bi .str [(.var 3)]), (.var 4), (.var 5)])])),
    (.ret (.bin .add (.var 8) (.lst [(.tup [(.var 2), (.cst (.bl true)), (.var 4), (.var 5)]), (.tup [(.var 2), (.var 3), (.cst .non), (.var 5)]), (.tup [(.var 2), (.var 3), (.bin .mul (.cst (.str "1")) (.cst (.int 40))), (.var 5)])])))]⟩
/- law : 0 _law_script, 1 _law_k, 2 _law_pot_here, 3 _law_shape_here, 4 _law_things, 5 _law_turn, 6 _law_thing, 7 _law_due, 8 _law_kept -/
def fd_law : Fd := ⟨1, 9,
    [(.fo (.nm 1) (.rng1 (.bi .max [(.cst (.int 1)), (.bi .min [(.lenv 0), (.cst (.int 4))])]))
      [(.asg (.nm 2) (.mkpot (.call i__law_pot [(.call i__law_cell_at [(.var 0), (.var 1)])]))),
      (.asg (.nm 3) (.call i__law_shape [(.call i__law_signs [(.call i__law_drawn [(.var 2)])])])),
      (.asg (.nm 4) (.bin .add (.lst [(.var 3), (.call i__law_odd [(.var 2)]), (.cst .non), (.cst (.str ""))]) (.call i__law_near [(.var 2), (.var 3)]))),
      (.fo (.nm 5) (.rng1 (.cst (.int 14)))
        [(.asg (.nm 4) (.bin .add (.var 4) (.lst [(.call i__law_bent [(.var 2), (.var 3), (.cst (.int 1))]), (.call i__law_bent [(.var 2), (.call i__law_bent [(.var 2), (.var 3), (.cst (.int 1))]), (.cst (.int 1))])])))]),
      (.fo (.nm 6) (.seq (.var 4))
        [(.par2 7 8 (.call i__law_is_shape [(.var 6)]) (.rpv 6)),
        (.ife (.or (.cmp .ne (.bi .repr [(.call i_is_shape [(.var 6)])]) (.rpv 7)) (.cmp .ne (.rpv 6) (.var 8)))
          [(.ret (.cst (.bl false)))]
          []),
        (.ife (.and (.not (.var 7)) (.cmp .ne (.lst [(.call i__law_met [(.cst (.int 0)), (.var 6)]), (.call i__law_met [(.cst (.int 1)), (.var 6)])]) (.bin .mul (.lst [(.tup [(.cst (.str "shape"))])]) (.cst (.int 2)))))
          [(.ret (.cst (.bl false)))]
          [])])]),
    (.ret (.cst (.bl true)))]⟩
def TT : Nat → Option Fd
  | 0 => some fd_is_whole
  | 1 => some fd_sign_by
  | 2 => some fd_shortest
  | 3 => some fd_in_form
  | 4 => some fd_sign_of
  | 5 => some fd_has_in
  | 6 => some fd_end_of
  | 7 => some fd_round_of
  | 8 => some fd_by_signs
  | 9 => some fd_mark
  | 10 => some fd_less_in
  | 11 => some fd_others_in
  | 12 => some fd_is_side
  | 13 => some fd_is_shape
  | 14 => some fd_need_shapes
  | 15 => some fd_all_others
  | 16 => some fd_least_in
  | 17 => some fd_least_letter
  | 18 => some fd__law_cell_at
  | 19 => some fd__law_pot
  | 20 => some fd__law_take
  | 21 => some fd__law_whole
  | 22 => some fd__law_odd
  | 23 => some fd__law_bound
  | 24 => some fd__law_rest
  | 25 => some fd__law_saying
  | 26 => some fd__law_fits
  | 27 => some fd__law_many_tuples
  | 28 => some fd__law_bent
  | 29 => some fd__law_signs
  | 30 => some fd__law_side
  | 31 => some fd__law_shape
  | 32 => some fd__law_drawn
  | 33 => some fd__law_met
  | 34 => some fd__law_are_signs
  | 35 => some fd__law_is_shape
  | 36 => some fd__law_near
  | 37 => some fd_law
  | _ => none

abbrev s_is_whole : Stmt := topS 21
abbrev s_sign_by : Stmt := topS 26
abbrev s_shortest : Stmt := topS 27
abbrev s_in_form : Stmt := topS 28
abbrev s_sign_of : Stmt := topS 29
abbrev s_has_in : Stmt := topS 30
abbrev s_end_of : Stmt := topS 31
abbrev s_round_of : Stmt := topS 32
abbrev s_by_signs : Stmt := topS 33
abbrev s_mark : Stmt := topS 34
abbrev s_less_in : Stmt := topS 35
abbrev s_others_in : Stmt := topS 36
abbrev s_is_side : Stmt := topS 37
abbrev s_is_shape : Stmt := topS 38
abbrev s_need_shapes : Stmt := topS 39
abbrev s_all_others : Stmt := topS 40
abbrev s_least_in : Stmt := topS 41
abbrev s_least_letter : Stmt := topS 42
abbrev s__law_cell_at : Stmt := topS 44
abbrev s__law_pot : Stmt := topS 45
abbrev s__law_take : Stmt := topS 46
abbrev s__law_whole : Stmt := topS 47
abbrev s__law_odd : Stmt := topS 48
abbrev s__law_bound : Stmt := topS 49
abbrev s__law_rest : Stmt := topS 50
abbrev s__law_saying : Stmt := topS 51
abbrev s__law_fits : Stmt := topS 52
abbrev s__law_many_tuples : Stmt := topS 53
abbrev s__law_bent : Stmt := topS 54
abbrev s__law_refusal : Stmt := topS 55
abbrev s__law_signs : Stmt := topS 56
abbrev s__law_side : Stmt := topS 57
abbrev s__law_shape : Stmt := topS 58
abbrev s__law_drawn : Stmt := topS 59
abbrev s__law_met : Stmt := topS 60
abbrev s__law_are_signs : Stmt := topS 61
abbrev s__law_is_shape : Stmt := topS 62
abbrev s__law_near : Stmt := topS 63
abbrev s_law : Stmt := topS 64
def d_is_whole : DefI := ⟨Str.ofString "is_whole", s_is_whole, [Str.ofString "thing"], [Str.ofString "thing"], fd_is_whole⟩
def d_sign_by : DefI := ⟨Str.ofString "sign_by", s_sign_by, [Str.ofString "text", Str.ofString "letter"], [Str.ofString "text", Str.ofString "letter"], fd_sign_by⟩
def d_shortest : DefI := ⟨Str.ofString "shortest", s_shortest, [Str.ofString "text", Str.ofString "some", Str.ofString "size"], [Str.ofString "text"], fd_shortest⟩
def d_in_form : DefI := ⟨Str.ofString "in_form", s_in_form, [Str.ofString "left", Str.ofString "low", Str.ofString "middle", Str.ofString "right", Str.ofString "at", Str.ofString "end"], [Str.ofString "left", Str.ofString "low", Str.ofString "middle", Str.ofString "right"], fd_in_form⟩
def d_sign_of : DefI := ⟨Str.ofString "sign_of", s_sign_of, [Str.ofString "shape", Str.ofString "letter", Str.ofString "left", Str.ofString "low", Str.ofString "middle", Str.ofString "right"], [Str.ofString "shape", Str.ofString "letter"], fd_sign_of⟩
def d_has_in : DefI := ⟨Str.ofString "has_in", s_has_in, [Str.ofString "shape", Str.ofString "letter"], [Str.ofString "shape", Str.ofString "letter"], fd_has_in⟩
def d_end_of : DefI := ⟨Str.ofString "end_of", s_end_of, [Str.ofString "shape"], [Str.ofString "shape"], fd_end_of⟩
def d_round_of : DefI := ⟨Str.ofString "round_of", s_round_of, [Str.ofString "one", Str.ofString "other", Str.ofString "size"], [Str.ofString "one", Str.ofString "other"], fd_round_of⟩
def d_by_signs : DefI := ⟨Str.ofString "by_signs", s_by_signs, [Str.ofString "one", Str.ofString "other", Str.ofString "fitting", Str.ofString "low", Str.ofString "end", Str.ofString "middle", Str.ofString "letter", Str.ofString "sides", Str.ofString "mine", Str.ofString "its", Str.ofString "size", Str.ofString "at"], [Str.ofString "one", Str.ofString "other", Str.ofString "fitting"], fd_by_signs⟩
def d_mark : DefI := ⟨Str.ofString "mark", s_mark, [Str.ofString "signs", Str.ofString "fitting"], [Str.ofString "signs", Str.ofString "fitting"], fd_mark⟩
def d_less_in : DefI := ⟨Str.ofString "less_in", s_less_in, [Str.ofString "one", Str.ofString "other"], [Str.ofString "one", Str.ofString "other"], fd_less_in⟩
def d_others_in : DefI := ⟨Str.ofString "others_in", s_others_in, [Str.ofString "shape"], [Str.ofString "shape"], fd_others_in⟩
def d_is_side : DefI := ⟨Str.ofString "is_side", s_is_side, [Str.ofString "thing", Str.ofString "sign"], [Str.ofString "thing"], fd_is_side⟩
def d_is_shape : DefI := ⟨Str.ofString "is_shape", s_is_shape, [Str.ofString "thing", Str.ofString "left", Str.ofString "low", Str.ofString "middle", Str.ofString "right", Str.ofString "sign"], [Str.ofString "thing"], fd_is_shape⟩
def d_need_shapes : DefI := ⟨Str.ofString "need_shapes", s_need_shapes, [Str.ofString "things", Str.ofString "thing"], [Str.ofString "things"], fd_need_shapes⟩
def d_all_others : DefI := ⟨Str.ofString "all_others", s_all_others, [Str.ofString "shape"], [Str.ofString "shape"], fd_all_others⟩
def d_least_in : DefI := ⟨Str.ofString "least_in", s_least_in, [Str.ofString "shape", Str.ofString "left", Str.ofString "low", Str.ofString "middle", Str.ofString "right", Str.ofString "farthest", Str.ofString "size", Str.ofString "letter"], [Str.ofString "shape"], fd_least_in⟩
def d_least_letter : DefI := ⟨Str.ofString "least_letter", s_least_letter, [Str.ofString "shape"], [Str.ofString "shape"], fd_least_letter⟩
def d__law_cell_at : DefI := ⟨Str.ofString "_law_cell_at", s__law_cell_at, [Str.ofString "_law_script", Str.ofString "_law_k"], [Str.ofString "_law_script", Str.ofString "_law_k"], fd__law_cell_at⟩
def d__law_pot : DefI := ⟨Str.ofString "_law_pot", s__law_pot, [Str.ofString "_law_cell", Str.ofString "_law_number", Str.ofString "_law_j", Str.ofString "_law_more"], [Str.ofString "_law_cell"], fd__law_pot⟩
def d__law_take : DefI := ⟨Str.ofString "_law_take", s__law_take, [Str.ofString "_law_pot_here", Str.ofString "_law_far", Str.ofString "_law_found"], [Str.ofString "_law_pot_here", Str.ofString "_law_far"], fd__law_take⟩
def d__law_whole : DefI := ⟨Str.ofString "_law_whole", s__law_whole, [Str.ofString "_law_thing"], [Str.ofString "_law_thing"], fd__law_whole⟩
def d__law_odd : DefI := ⟨Str.ofString "_law_odd", s__law_odd, [Str.ofString "_law_pot_here", Str.ofString "_law_some"], [Str.ofString "_law_pot_here"], fd__law_odd⟩
def d__law_bound : DefI := ⟨Str.ofString "_law_bound", s__law_bound, [Str.ofString "_law_pot_here"], [Str.ofString "_law_pot_here"], fd__law_bound⟩
def d__law_rest : DefI := ⟨Str.ofString "_law_rest", s__law_rest, [Str.ofString "_law_pot_here", Str.ofString "_law_by"], [Str.ofString "_law_pot_here"], fd__law_rest⟩
def d__law_saying : DefI := ⟨Str.ofString "_law_saying", s__law_saying, [Str.ofString "_law_pot_here", Str.ofString "_law_deep", Str.ofString "_law_way", Str.ofString "_law_some"], [Str.ofString "_law_pot_here", Str.ofString "_law_deep"], fd__law_saying⟩
def d__law_fits : DefI := ⟨Str.ofString "_law_fits", s__law_fits, [Str.ofString "_law_saying_here", Str.ofString "_law_letter", Str.ofString "_law_word"], [Str.ofString "_law_saying_here", Str.ofString "_law_letter"], fd__law_fits⟩
def d__law_many_tuples : DefI := ⟨Str.ofString "_law_many_tuples", s__law_many_tuples, [Str.ofString "_law_saying_here", Str.ofString "_law_part"], [Str.ofString "_law_saying_here"], fd__law_many_tuples⟩
def d__law_bent : DefI := ⟨Str.ofString "_law_bent", s__law_bent, [Str.ofString "_law_pot_here", Str.ofString "_law_thing", Str.ofString "_law_deep", Str.ofString "_law_at", Str.ofString "_law_way"], [Str.ofString "_law_pot_here", Str.ofString "_law_thing", Str.ofString "_law_deep"], fd__law_bent⟩
def d__law_signs : DefI := ⟨Str.ofString "_law_signs", s__law_signs, [Str.ofString "_law_saying_here", Str.ofString "_law_letter"], [Str.ofString "_law_saying_here"], fd__law_signs⟩
def d__law_side : DefI := ⟨Str.ofString "_law_side", s__law_side, [Str.ofString "_law_signs_here", Str.ofString "_law_low", Str.ofString "_law_row", Str.ofString "_law_at", Str.ofString "_law_text", Str.ofString "_law_size"], [Str.ofString "_law_signs_here", Str.ofString "_law_low"], fd__law_side⟩
def d__law_shape : DefI := ⟨Str.ofString "_law_shape", s__law_shape, [Str.ofString "_law_signs_here", Str.ofString "_law_left", Str.ofString "_law_right", Str.ofString "_law_low", Str.ofString "_law_end"], [Str.ofString "_law_signs_here"], fd__law_shape⟩
def d__law_drawn : DefI := ⟨Str.ofString "_law_drawn", s__law_drawn, [Str.ofString "_law_pot_here", Str.ofString "_law_saying_here"], [Str.ofString "_law_pot_here"], fd__law_drawn⟩
def d__law_met : DefI := ⟨Str.ofString "_law_met", s__law_met, [Str.ofString "_law_way", Str.ofString "_law_thing", Str.ofString "_law_e"], [Str.ofString "_law_way", Str.ofString "_law_thing"], fd__law_met⟩
def d__law_are_signs : DefI := ⟨Str.ofString "_law_are_signs", s__law_are_signs, [Str.ofString "_law_thing", Str.ofString "_law_least", Str.ofString "_law_sign"], [Str.ofString "_law_thing", Str.ofString "_law_least"], fd__law_are_signs⟩
def d__law_is_shape : DefI := ⟨Str.ofString "_law_is_shape", s__law_is_shape, [Str.ofString "_law_thing", Str.ofString "_law_left", Str.ofString "_law_low", Str.ofString "_law_middle", Str.ofString "_law_right", Str.ofString "_law_side_here", Str.ofString "_law_sizes", Str.ofString "_law_size", Str.ofString "_law_end"], [Str.ofString "_law_thing"], fd__law_is_shape⟩
def d__law_near : DefI := ⟨Str.ofString "_law_near", s__law_near, [Str.ofString "_law_pot_here", Str.ofString "_law_shape_here", Str.ofString "_law_left", Str.ofString "_law_low", Str.ofString "_law_middle", Str.ofString "_law_right", Str.ofString "_law_first", Str.ofString "_law_last", Str.ofString "_law_some"], [Str.ofString "_law_pot_here", Str.ofString "_law_shape_here"], fd__law_near⟩
def d_law : DefI := ⟨Str.ofString "law", s_law, [Str.ofString "_law_script", Str.ofString "_law_k", Str.ofString "_law_pot_here", Str.ofString "_law_shape_here", Str.ofString "_law_things", Str.ofString "_law_turn", Str.ofString "_law_thing", Str.ofString "_law_due", Str.ofString "_law_kept"], [Str.ofString "_law_script"], fd_law⟩
def d__law_refusal : DefI := ⟨Str.ofString "_law_refusal", s__law_refusal, [Str.ofString "_law_e", Str.ofString "_law_some", Str.ofString "_law_at", Str.ofString "_law_words"], [Str.ofString "_law_e"], ⟨1, 4, []⟩⟩
def defsL0 : List DefI := [d_is_whole, d_sign_by, d_shortest, d_in_form, d_sign_of, d_has_in, d_end_of, d_round_of, d_by_signs, d_mark, d_less_in, d_others_in, d_is_side, d_is_shape, d_need_shapes, d_all_others, d_least_in, d_least_letter, d__law_cell_at, d__law_pot]
def defsL1 : List DefI := [d__law_take, d__law_whole, d__law_odd, d__law_bound, d__law_rest, d__law_saying, d__law_fits, d__law_many_tuples, d__law_bent, d__law_signs, d__law_side, d__law_shape, d__law_drawn, d__law_met, d__law_are_signs, d__law_is_shape, d__law_near, d_law]
def defsL : List DefI := defsL0 ++ defsL1
def prI : PrI := ⟨defsL, [Str.ofString "len", Str.ofString "abs", Str.ofString "max", Str.ofString "min", Str.ofString "int", Str.ofString "repr", Str.ofString "sum", Str.ofString "all", Str.ofString "list", Str.ofString "tuple", Str.ofString "isinstance", Str.ofString "range", Str.ofString "bool", Str.ofString "str", Str.ofString "dict", Str.ofString "ValueError", Str.ofString "LookupError", Str.ofString "TypeError"], [(Str.ofString "SIGNS", .str (Str.ofString "01")), (Str.ofString "WHOLE_ROUND", .int (60)), (Str.ofString "ALL", .tup [(.str (Str.ofString "1")), (.int (0)), (.str (Str.ofString "")), (.str (Str.ofString "1"))])], [(Str.ofString "NoShape", 4)], [Str.ofString "_law_pot"], [Str.ofString "_law_pot_here"], [Str.ofString "by_signs"], true, [((8, 2, [Str.ofString "fitting"]), [0, 1, 2])]⟩
theorem tr_is_whole : (defBody s_is_whole).mapM (trS prI.T 60 ⟨d_is_whole.N, defScope s_is_whole, fun _ => true⟩) = some fd_is_whole.body := by kernel_rfl
theorem tr_sign_by : (defBody s_sign_by).mapM (trS prI.T 60 ⟨d_sign_by.N, defScope s_sign_by, fun _ => true⟩) = some fd_sign_by.body := by kernel_rfl
theorem tr_shortest : (defBody s_shortest).mapM (trS prI.T 60 ⟨d_shortest.N, defScope s_shortest, fun _ => true⟩) = some fd_shortest.body := by kernel_rfl
theorem tr_in_form : (defBody s_in_form).mapM (trS prI.T 60 ⟨d_in_form.N, defScope s_in_form, fun _ => true⟩) = some fd_in_form.body := by kernel_rfl
theorem tr_sign_of : (defBody s_sign_of).mapM (trS prI.T 60 ⟨d_sign_of.N, defScope s_sign_of, fun _ => true⟩) = some fd_sign_of.body := by kernel_rfl
theorem tr_has_in : (defBody s_has_in).mapM (trS prI.T 60 ⟨d_has_in.N, defScope s_has_in, fun _ => true⟩) = some fd_has_in.body := by kernel_rfl
theorem tr_end_of : (defBody s_end_of).mapM (trS prI.T 60 ⟨d_end_of.N, defScope s_end_of, fun _ => true⟩) = some fd_end_of.body := by kernel_rfl
theorem tr_round_of : (defBody s_round_of).mapM (trS prI.T 60 ⟨d_round_of.N, defScope s_round_of, fun _ => true⟩) = some fd_round_of.body := by kernel_rfl
theorem tr_by_signs : (defBody s_by_signs).mapM (trS prI.T 60 ⟨d_by_signs.N, defScope s_by_signs, fun _ => true⟩) = some fd_by_signs.body := by kernel_rfl
theorem tr_mark : (defBody s_mark).mapM (trS prI.T 60 ⟨d_mark.N, defScope s_mark, fun _ => true⟩) = some fd_mark.body := by kernel_rfl
theorem tr_less_in : (defBody s_less_in).mapM (trS prI.T 60 ⟨d_less_in.N, defScope s_less_in, fun _ => true⟩) = some fd_less_in.body := by kernel_rfl
theorem tr_others_in : (defBody s_others_in).mapM (trS prI.T 60 ⟨d_others_in.N, defScope s_others_in, fun _ => true⟩) = some fd_others_in.body := by kernel_rfl
theorem tr_is_side : (defBody s_is_side).mapM (trS prI.T 60 ⟨d_is_side.N, defScope s_is_side, fun _ => true⟩) = some fd_is_side.body := by kernel_rfl
theorem tr_is_shape : (defBody s_is_shape).mapM (trS prI.T 60 ⟨d_is_shape.N, defScope s_is_shape, fun _ => true⟩) = some fd_is_shape.body := by kernel_rfl
theorem tr_need_shapes : (defBody s_need_shapes).mapM (trS prI.T 60 ⟨d_need_shapes.N, defScope s_need_shapes, fun _ => true⟩) = some fd_need_shapes.body := by kernel_rfl
theorem tr_all_others : (defBody s_all_others).mapM (trS prI.T 60 ⟨d_all_others.N, defScope s_all_others, fun _ => true⟩) = some fd_all_others.body := by kernel_rfl
theorem tr_least_in : (defBody s_least_in).mapM (trS prI.T 60 ⟨d_least_in.N, defScope s_least_in, fun _ => true⟩) = some fd_least_in.body := by kernel_rfl
theorem tr_least_letter : (defBody s_least_letter).mapM (trS prI.T 60 ⟨d_least_letter.N, defScope s_least_letter, fun _ => true⟩) = some fd_least_letter.body := by kernel_rfl
theorem tr__law_cell_at : (defBody s__law_cell_at).mapM (trS prI.T 60 ⟨d__law_cell_at.N, defScope s__law_cell_at, fun _ => true⟩) = some fd__law_cell_at.body := by kernel_rfl
theorem tr__law_pot : (defBody s__law_pot).mapM (trS prI.T 60 ⟨d__law_pot.N, defScope s__law_pot, fun _ => true⟩) = some fd__law_pot.body := by kernel_rfl
theorem tr__law_take : (defBody s__law_take).mapM (trS prI.T 60 ⟨d__law_take.N, defScope s__law_take, fun _ => true⟩) = some fd__law_take.body := by kernel_rfl
theorem tr__law_whole : (defBody s__law_whole).mapM (trS prI.T 60 ⟨d__law_whole.N, defScope s__law_whole, fun _ => true⟩) = some fd__law_whole.body := by kernel_rfl
theorem tr__law_odd : (defBody s__law_odd).mapM (trS prI.T 60 ⟨d__law_odd.N, defScope s__law_odd, fun _ => true⟩) = some fd__law_odd.body := by kernel_rfl
theorem tr__law_bound : (defBody s__law_bound).mapM (trS prI.T 60 ⟨d__law_bound.N, defScope s__law_bound, fun _ => true⟩) = some fd__law_bound.body := by kernel_rfl
theorem tr__law_rest : (defBody s__law_rest).mapM (trS prI.T 60 ⟨d__law_rest.N, defScope s__law_rest, fun _ => true⟩) = some fd__law_rest.body := by kernel_rfl
theorem tr__law_saying : (defBody s__law_saying).mapM (trS prI.T 60 ⟨d__law_saying.N, defScope s__law_saying, fun _ => true⟩) = some fd__law_saying.body := by kernel_rfl
theorem tr__law_fits : (defBody s__law_fits).mapM (trS prI.T 60 ⟨d__law_fits.N, defScope s__law_fits, fun _ => true⟩) = some fd__law_fits.body := by kernel_rfl
theorem tr__law_many_tuples : (defBody s__law_many_tuples).mapM (trS prI.T 60 ⟨d__law_many_tuples.N, defScope s__law_many_tuples, fun _ => true⟩) = some fd__law_many_tuples.body := by kernel_rfl
theorem tr__law_bent : (defBody s__law_bent).mapM (trS prI.T 60 ⟨d__law_bent.N, defScope s__law_bent, fun _ => true⟩) = some fd__law_bent.body := by kernel_rfl
theorem tr__law_signs : (defBody s__law_signs).mapM (trS prI.T 60 ⟨d__law_signs.N, defScope s__law_signs, fun _ => true⟩) = some fd__law_signs.body := by kernel_rfl
theorem tr__law_side : (defBody s__law_side).mapM (trS prI.T 60 ⟨d__law_side.N, defScope s__law_side, fun _ => true⟩) = some fd__law_side.body := by kernel_rfl
theorem tr__law_shape : (defBody s__law_shape).mapM (trS prI.T 60 ⟨d__law_shape.N, defScope s__law_shape, fun _ => true⟩) = some fd__law_shape.body := by kernel_rfl
theorem tr__law_drawn : (defBody s__law_drawn).mapM (trS prI.T 60 ⟨d__law_drawn.N, defScope s__law_drawn, fun _ => true⟩) = some fd__law_drawn.body := by kernel_rfl
theorem tr__law_met : (defBody s__law_met).mapM (trS prI.T 60 ⟨d__law_met.N, defScope s__law_met, fun _ => true⟩) = some fd__law_met.body := by kernel_rfl
theorem tr__law_are_signs : (defBody s__law_are_signs).mapM (trS prI.T 60 ⟨d__law_are_signs.N, defScope s__law_are_signs, fun _ => true⟩) = some fd__law_are_signs.body := by kernel_rfl
theorem tr__law_is_shape : (defBody s__law_is_shape).mapM (trS prI.T 60 ⟨d__law_is_shape.N, defScope s__law_is_shape, fun _ => true⟩) = some fd__law_is_shape.body := by kernel_rfl
theorem tr__law_near : (defBody s__law_near).mapM (trS prI.T 60 ⟨d__law_near.N, defScope s__law_near, fun _ => true⟩) = some fd__law_near.body := by kernel_rfl
theorem tr_law : (defBody s_law).mapM (trS prI.T 60 ⟨d_law.N, defScope s_law, fun _ => true⟩) = some fd_law.body := by kernel_rfl
theorem bnd_is_whole : BndP prI.npos d_is_whole := .inr fun _ _ _ _ _ _ us hl => match us, hl with | [_], _ => rfl
theorem bnd_sign_by : BndP prI.npos d_sign_by := .inr fun _ _ _ _ _ _ us hl => match us, hl with | [_, _], _ => rfl
theorem bnd_shortest : BndP prI.npos d_shortest := .inr fun _ _ _ _ _ _ us hl => match us, hl with | [_], _ => rfl
theorem bnd_in_form : BndP prI.npos d_in_form := .inr fun _ _ _ _ _ _ us hl => match us, hl with | [_, _, _, _], _ => rfl
theorem bnd_sign_of : BndP prI.npos d_sign_of := .inr fun _ _ _ _ _ _ us hl => match us, hl with | [_, _], _ => rfl
theorem bnd_has_in : BndP prI.npos d_has_in := .inr fun _ _ _ _ _ _ us hl => match us, hl with | [_, _], _ => rfl
theorem bnd_end_of : BndP prI.npos d_end_of := .inr fun _ _ _ _ _ _ us hl => match us, hl with | [_], _ => rfl
theorem bnd_round_of : BndP prI.npos d_round_of := .inr fun _ _ _ _ _ _ us hl => match us, hl with | [_, _], _ => rfl
theorem bnd_by_signs : BndP prI.npos d_by_signs := .inl (by kernel_rfl)
theorem bnd_mark : BndP prI.npos d_mark := .inr fun _ _ _ _ _ _ us hl => match us, hl with | [_, _], _ => rfl
theorem bnd_less_in : BndP prI.npos d_less_in := .inr fun _ _ _ _ _ _ us hl => match us, hl with | [_, _], _ => rfl
theorem bnd_others_in : BndP prI.npos d_others_in := .inr fun _ _ _ _ _ _ us hl => match us, hl with | [_], _ => rfl
theorem bnd_is_side : BndP prI.npos d_is_side := .inr fun _ _ _ _ _ _ us hl => match us, hl with | [_], _ => rfl
theorem bnd_is_shape : BndP prI.npos d_is_shape := .inr fun _ _ _ _ _ _ us hl => match us, hl with | [_], _ => rfl
theorem bnd_need_shapes : BndP prI.npos d_need_shapes := .inr fun _ _ _ _ _ _ us hl => match us, hl with | [_], _ => rfl
theorem bnd_all_others : BndP prI.npos d_all_others := .inr fun _ _ _ _ _ _ us hl => match us, hl with | [_], _ => rfl
theorem bnd_least_in : BndP prI.npos d_least_in := .inr fun _ _ _ _ _ _ us hl => match us, hl with | [_], _ => rfl
theorem bnd_least_letter : BndP prI.npos d_least_letter := .inr fun _ _ _ _ _ _ us hl => match us, hl with | [_], _ => rfl
theorem bnd__law_cell_at : BndP prI.npos d__law_cell_at := .inr fun _ _ _ _ _ _ us hl => match us, hl with | [_, _], _ => rfl
theorem bnd__law_pot : BndP prI.npos d__law_pot := .inr fun _ _ _ _ _ _ us hl => match us, hl with | [_], _ => rfl
theorem bnd__law_take : BndP prI.npos d__law_take := .inr fun _ _ _ _ _ _ us hl => match us, hl with | [_, _], _ => rfl
theorem bnd__law_whole : BndP prI.npos d__law_whole := .inr fun _ _ _ _ _ _ us hl => match us, hl with | [_], _ => rfl
theorem bnd__law_odd : BndP prI.npos d__law_odd := .inr fun _ _ _ _ _ _ us hl => match us, hl with | [_], _ => rfl
theorem bnd__law_bound : BndP prI.npos d__law_bound := .inr fun _ _ _ _ _ _ us hl => match us, hl with | [_], _ => rfl
theorem bnd__law_rest : BndP prI.npos d__law_rest := .inr fun _ _ _ _ _ _ us hl => match us, hl with | [_], _ => rfl
theorem bnd__law_saying : BndP prI.npos d__law_saying := .inr fun _ _ _ _ _ _ us hl => match us, hl with | [_, _], _ => rfl
theorem bnd__law_fits : BndP prI.npos d__law_fits := .inr fun _ _ _ _ _ _ us hl => match us, hl with | [_, _], _ => rfl
theorem bnd__law_many_tuples : BndP prI.npos d__law_many_tuples := .inr fun _ _ _ _ _ _ us hl => match us, hl with | [_], _ => rfl
theorem bnd__law_bent : BndP prI.npos d__law_bent := .inr fun _ _ _ _ _ _ us hl => match us, hl with | [_, _, _], _ => rfl
theorem bnd__law_signs : BndP prI.npos d__law_signs := .inr fun _ _ _ _ _ _ us hl => match us, hl with | [_], _ => rfl
theorem bnd__law_side : BndP prI.npos d__law_side := .inr fun _ _ _ _ _ _ us hl => match us, hl with | [_, _], _ => rfl
theorem bnd__law_shape : BndP prI.npos d__law_shape := .inr fun _ _ _ _ _ _ us hl => match us, hl with | [_], _ => rfl
theorem bnd__law_drawn : BndP prI.npos d__law_drawn := .inr fun _ _ _ _ _ _ us hl => match us, hl with | [_], _ => rfl
theorem bnd__law_met : BndP prI.npos d__law_met := .inr fun _ _ _ _ _ _ us hl => match us, hl with | [_, _], _ => rfl
theorem bnd__law_are_signs : BndP prI.npos d__law_are_signs := .inr fun _ _ _ _ _ _ us hl => match us, hl with | [_, _], _ => rfl
theorem bnd__law_is_shape : BndP prI.npos d__law_is_shape := .inr fun _ _ _ _ _ _ us hl => match us, hl with | [_], _ => rfl
theorem bnd__law_near : BndP prI.npos d__law_near := .inr fun _ _ _ _ _ _ us hl => match us, hl with | [_, _], _ => rfl
theorem bndI_law : BndI d_law := fun _ _ _ _ _ _ us hl => match us, hl with | [_], _ => rfl
theorem bnd_law : BndP prI.npos d_law := .inr bndI_law
theorem kb_0 : KbI prI ((8, 2, [Str.ofString "fitting"]), [0, 1, 2]) := fun d h => by
  cases h
  exact fun _ _ _ _ _ _ us ws hl hw => match us, hl, ws, hw with | [_, _], _, [_], _ => rfl
theorem kbL : ∀ q ∈ prI.fks, KbI prI q := (al_c kb_0 al_n)
theorem bnd__law_refusal : BndI d__law_refusal := fun _ _ _ _ _ _ us hl => match us, hl with | [_], _ => rfl
theorem okL : prI.defs.all DefI.okB = true := by kernel_rfl
theorem bndL : ∀ d ∈ prI.defs, BndP prI.npos d :=
  (al_a (al_c bnd_is_whole (al_c bnd_sign_by (al_c bnd_shortest (al_c bnd_in_form (al_c bnd_sign_of (al_c bnd_has_in (al_c bnd_end_of (al_c bnd_round_of (al_c bnd_by_signs (al_c bnd_mark (al_c bnd_less_in (al_c bnd_others_in (al_c bnd_is_side (al_c bnd_is_shape (al_c bnd_need_shapes (al_c bnd_all_others (al_c bnd_least_in (al_c bnd_least_letter (al_c bnd__law_cell_at (al_c bnd__law_pot al_n))))))))))))))))))))
    (al_c bnd__law_take (al_c bnd__law_whole (al_c bnd__law_odd (al_c bnd__law_bound (al_c bnd__law_rest (al_c bnd__law_saying (al_c bnd__law_fits (al_c bnd__law_many_tuples (al_c bnd__law_bent (al_c bnd__law_signs (al_c bnd__law_side (al_c bnd__law_shape (al_c bnd__law_drawn (al_c bnd__law_met (al_c bnd__law_are_signs (al_c bnd__law_is_shape (al_c bnd__law_near (al_c bnd_law al_n)))))))))))))))))))
theorem trL : ∀ d ∈ prI.defs, (defBody d.st).mapM (trS prI.T 60 ⟨d.N, defScope d.st, fun _ => true⟩) = some d.fm.body :=
  (al_a (al_c tr_is_whole (al_c tr_sign_by (al_c tr_shortest (al_c tr_in_form (al_c tr_sign_of (al_c tr_has_in (al_c tr_end_of (al_c tr_round_of (al_c tr_by_signs (al_c tr_mark (al_c tr_less_in (al_c tr_others_in (al_c tr_is_side (al_c tr_is_shape (al_c tr_need_shapes (al_c tr_all_others (al_c tr_least_in (al_c tr_least_letter (al_c tr__law_cell_at (al_c tr__law_pot al_n))))))))))))))))))))
    (al_c tr__law_take (al_c tr__law_whole (al_c tr__law_odd (al_c tr__law_bound (al_c tr__law_rest (al_c tr__law_saying (al_c tr__law_fits (al_c tr__law_many_tuples (al_c tr__law_bent (al_c tr__law_signs (al_c tr__law_side (al_c tr__law_shape (al_c tr__law_drawn (al_c tr__law_met (al_c tr__law_are_signs (al_c tr__law_is_shape (al_c tr__law_near (al_c tr_law al_n)))))))))))))))))))

end K12
set_option maxHeartbeats 0
namespace K12
open PySem PySem.Spec L2 PL
def looseL0 : List PySem.Str := [Str.ofString "SayError", Str.ofString "NoSaying", Str.ofString "NoLetter", Str.ofString "NoWord", Str.ofString "NoGuard", Str.ofString "NoShape", Str.ofString "NoGuards", Str.ofString "NoMachine", Str.ofString "NoTurner", Str.ofString "NoPlain", Str.ofString "NoHead", Str.ofString "NoWhole", Str.ofString "NoName", Str.ofString "NoDeed", Str.ofString "NoLine", Str.ofString "BadMachine", Str.ofString "BadTurner", Str.ofString "NoText", Str.ofString "TooMany", Str.ofString "is_whole"]
def looseL1 : List PySem.Str := [Str.ofString "SIGNS", Str.ofString "WHOLE_ROUND", Str.ofString "ALL", Str.ofString "sign_by", Str.ofString "shortest", Str.ofString "in_form", Str.ofString "sign_of", Str.ofString "has_in", Str.ofString "end_of", Str.ofString "round_of", Str.ofString "by_signs", Str.ofString "mark", Str.ofString "less_in", Str.ofString "others_in", Str.ofString "is_side", Str.ofString "is_shape", Str.ofString "need_shapes", Str.ofString "all_others", Str.ofString "least_in", Str.ofString "least_letter"]
def looseL2 : List PySem.Str := [Str.ofString "_law_cell_at", Str.ofString "_law_pot", Str.ofString "_law_take", Str.ofString "_law_whole", Str.ofString "_law_odd", Str.ofString "_law_bound", Str.ofString "_law_rest", Str.ofString "_law_saying", Str.ofString "_law_fits", Str.ofString "_law_many_tuples", Str.ofString "_law_bent", Str.ofString "_law_refusal", Str.ofString "_law_signs", Str.ofString "_law_side", Str.ofString "_law_shape", Str.ofString "_law_drawn", Str.ofString "_law_met", Str.ofString "_law_are_signs", Str.ofString "_law_is_shape", Str.ofString "_law_near"]
def looseL : List PySem.Str := looseL0 ++ looseL1 ++ looseL2
def faL : List He.Fa := prI.fa ++ (.glo "_law_refusal" :: refCls.map .glo)
def fnL : List He.DefD := prI.fn ++ [d__law_refusal.dd]
def exL (K : PySem.W.Frag) : Bool := (prI.xcs.all fun c => refB K c.1 c.2) && (prI.csts.all (cstT K) && (K.lookup sysModules).isSome)
abbrev rowL : PySem.W.OpenRow := PySem.W.OpenLaw.row PySem.Challenge.rw_sayarrows_k12_shapes_known
abbrev hkL : PySem.W.Hook := hookY 5 faL fnL exL
def obL (s : PySem.W.SharedT) : He.AlX := obsY 5 faL fnL exL (HandSHeadRun.getT s)
theorem ob_eq (s : PySem.W.SharedT) : obL s = hkL.obs s.abs := obsY_eq (HandSHeadRun.getT_eq s)
theorem runL (w : World) : HandSHeadRun.RunEq rowL (PySem.W.view rowL.prog [64]) hkL obL 30000 looseL w := by
  intro os
  kernel_rfl
theorem glB : (refCls ++ [Str.ofString "isinstance", Str.ofString "ValueError", Str.ofString "LookupError", Str.ofString "TypeError"]).all (fun c => globB (defScope s__law_refusal) c) = true := by kernel_rfl
theorem scR : scOk d__law_refusal.N d__law_refusal.ps (defScope s__law_refusal) = true := by kernel_rfl
theorem loR : d__law_refusal.N.all (fun x => (defScope s__law_refusal).names.lookup x == some .local) = true := by kernel_rfl
section
variable {P : Program} {w : World} {K : PySem.W.Frag} {mg : Str → Option Value} {base : Heap} {h : Heap}
theorem ref_body {X : Cx} {a C : Addr} {oe : Obj} {M : Gh} {H0 : Hp} {j : Nat} (R : RX X a C oe) (S : Sees X C j) (g : Good M H0) : PSs X (defBody s__law_refusal) (fun D s H => A0 M H0 a s H ∧ ∀ v H' M', Ext M M' H0 H' → Rep X.K M' v (.tup [.str (refWords.getD j Str.empty)]) → D.rt v H') :=
  ref_all S.r.jl (r_s1 R g (Nat.le_of_ble_eq_true rfl) (is_c R S 0 (is_c R S 1 (is_c R S 2 (is_c R S 3 is_nil))))) (r_s2 R g (Nat.le_of_ble_eq_true rfl) (is_c R S 4 (is_c R S 5 (is_c R S 6 (is_c R S 7 is_nil))))) (r_s2 R g (Nat.le_of_ble_eq_true rfl) (is_c R S 8 (is_c R S 9 (is_c R S 10 (is_c R S 11 is_nil)))))
    (r_s2 R g (Nat.le_of_ble_eq_true rfl) (is_c R S 12 (is_c R S 13 (is_c R S 14 (is_c R S 15 is_nil))))) (r_s2 R g (Nat.le_of_ble_eq_true rfl) (is_c R S 16 (is_c R S 17 is_nil))) (r_if R g (bs_1 j S.r.jl) S.r.ve S.r.lt S.g1 S.m1 S.g2 S.m2 S.g3 S.m3 rfl) (r_at R (bs_2 j S.r.jl) (bs_3 j S.r.jl) rfl)
    (r_w1 R g (Nat.le_of_ble_eq_true rfl) (w_cons (w_cons (w_cons (w_cons (w_cons (w_cons (w_cons (w_cons (w_cons (w_cons (w_cons w_nil)))))))))))) (r_w2 R g (Nat.le_of_ble_eq_true rfl) (w_cons (w_cons (w_cons w_nil)))) (r_end R g S.r.jl) g
theorem refL (KX : K.In h) (G : h.Ns mainGlobals mg) (ex : (prI.xcs.all fun c => refB K c.1 c.2) = true) (c : He.SaysD faL fnL K) : ∀ X : Cx, X.prog = P → X.w = w → X.K = K → X.mg = mg → L2H.RoomH 2 X.A → RefOk X prI.P := by
  intro X hP hw hK hmg room
  subst hK hmg
  have F : ∀ f ∈ faL, f.ok X.K = true := fun f hf => c.facts hf
  obtain ⟨fd, Fu⟩ : ∃ fd, FunI X.K d__law_refusal fd := c.defs (d := d__law_refusal.dd) (by simp [fnL])
  have gl : ∀ x ∈ (Str.ofString "_law_refusal" :: refCls), X.mg x = some (.ref (He.ga X.K x)) := fun x hx => He.glo_ok KX G (F _ (by
    unfold faL
    rw [List.mem_append]
    exact .inr (by rw [List.mem_cons] at hx; rcases hx with rfl | hx
                   · exact List.mem_cons_self
                   · exact List.mem_cons_of_mem _ (List.mem_map.mpr ⟨x, hx, rfl⟩))))
  have fr : ∀ x ∈ prI.blts, X.mg x = none := fun x hx => He.free_ok KX G (F _ (by
    unfold faL
    rw [List.mem_append]
    refine .inl ?_
    simp only [PrI.fa, List.mem_cons, List.mem_append, List.mem_map]
    exact .inr (.inl (.inl (.inl (.inl (.inr ⟨x, hx, rfl⟩)))))))
  refine ref_ok (k := 1) (gl _ List.mem_cons_self) Fu.kp (FunD.bindsN Fu bnd__law_refusal) (room.mono (by decide)) fun x dd C a oe hrf hC hz hf => ?_
  obtain ⟨j, ej, rfl⟩ := map_some (if_some (show (if prI.ref = true then (prI.xcs.lookup x.c).map (fun j => .tup [.str (refWords.getD j Str.empty)]) else none) = some dd from hrf)).2
  have rB := List.all_eq_true.mp ex _ (lookup_in ej)
  have eC : X.mg x.c = some (.ref (He.ga X.K x.c)) := He.glo_ok KX G (F _ (by
    unfold faL
    rw [List.mem_append]
    refine .inl ?_
    simp only [PrI.fa, List.mem_cons, List.mem_append, List.mem_map]
    exact .inr (.inl (.inl (.inr ⟨_, lookup_in ej, rfl⟩)))))
  rw [eC] at hC
  cases hC
  have ri : RefI X.K (He.ga X.K x.c) j := refB_ok rB
  have gg := List.all_eq_true.mp glB
  have cm : ∀ i < 18, refCls.getD i Str.empty ∈ refCls := by decide +kernel
  refine fnX_of Fu (scOk_ok scR) rfl fun cd A out s H Q hot rm hsp => ?_
  obtain ⟨M, gM, post⟩ := hsp
  have R : RX (L2H.cxH CX0 X.prog X.w X.K X.mg X.base d__law_refusal.N d__law_refusal.x (defScope d__law_refusal.st) (He.ga X.K d__law_refusal.x) cd A out s H E0 (a, oe)) a (He.ga X.K x.c) oe :=
    ⟨⟨ri.c, List.mem_singleton_self _, hz.zc, hf⟩, rfl, fun y hy => eq_of_beq (List.all_eq_true.mp loR y hy), globB_ok (gg _ (by simp)), fr _ (by decide +kernel)⟩
  refine ⟨_, ref_body R ⟨ri, fun i hi => globB_ok (gg _ (List.mem_append_left _ (cm i hi))), fun i hi => gl _ (List.mem_cons_of_mem _ (cm i hi)), globB_ok (gg _ (by simp)), fr _ (by decide +kernel), globB_ok (gg _ (by simp)), fr _ (by decide +kernel), globB_ok (gg _ (by simp)), fr _ (by decide +kernel)⟩ gM, ?_⟩
  exact ⟨⟨rfl, rfl, .refl gM⟩, post⟩
end

theorem csL : prI.csts.all (fun q => cstB q.2) = true := by kernel_rfl
theorem endL {P : Program} {w : World} {K : PySem.W.Frag} {mg : Str → Option Value} {h : Heap} {k m : Nat} (KX : K.In h) (G : h.Ns mainGlobals mg) (c : He.SaysX faL fnL [] [] exL w h K)
    (pu : ∀ ns : List Int, ns.length ≤ m → fnP prI.P (tabOf prI.ds) k i_law [.scr ns] (fun z => z = .val (.bl true)) fun _ => False) :
    ∃ (fd : FuncData) (sp : Sp), (∀ (s : Shared) (u : Value), BindsTo s fd ⟨[u], []⟩ [(Str.ofString "_law_script", u)]) ∧
      (∀ (H : Hp) (a : Addr) (ns : List Int), ns.length ≤ m → Only H → SqL K H a (ns.map V.int) → sp [.ref a] H (fun v _ => v = .bl true) fun _ _ _ => False) ∧ ∀ base : Heap, K.In base → base.Ns mainGlobals mg → FnG P w K mg base (3 * k + 3) (He.ga K (Str.ofString "law")) fd [Str.ofString "_law_script"] sp := by
  have L : Left K mg prI.T prI.P prI.ds (He.ga K "SayError") := left_of KX G c.t.d (fun f hf => by unfold faL; first | exact hf | exact List.mem_append_left _ hf) (fun d hd => by unfold fnL; first | exact hd | exact List.mem_append_left _ hd) bndL kbL okL csL (Bool.and_eq_true_iff.mp (Bool.and_eq_true_iff.mp c.more).2).1 (Bool.and_eq_true_iff.mp (Bool.and_eq_true_iff.mp c.more).2).2 trL
  exact law_G (d := d_law) L rfl rfl bndI_law (refL KX G (Bool.and_eq_true_iff.mp c.more).1 c.t.d) pu
theorem lawIn : He.Fa.glo (Str.ofString "law") ∈ faL := by
  have e : He.Fa.glo (Str.ofString "law") ∈ prI.fa := by
    simp only [PrI.fa, List.mem_cons, List.mem_append, List.mem_map]
    exact .inr (.inl (.inl (.inl (.inl (.inl ⟨d_law, List.mem_of_getElem? (i := i_law) rfl, rfl⟩)))))
  unfold faL
  first | exact e | exact List.mem_append_left _ e


end K12
set_option maxHeartbeats 3900000
namespace K12
open PySem PL
abbrev Fk (k : Nat) : Fn := fnP prI.P (tabOf prI.ds) k
theorem mk {k : Nat} : FMono (Fk k) := fnP_mono _ _ k
theorem Fk_at {k n : Nat} {fd : Fd} {ds : List D} {Q : R → Prop} {E : Xc → Prop} (hf : tabOf prI.ds n = some fd) (hl : ds.length = fd.np)
    (h : wSs prI.P (Fk k) fd.body (bind0 fd ds) { nx := fun _ => Q (.val .non), rt := Q, bk := fun _ => False, ct := fun _ => False, ex := fun x _ => E x }) : Fk (k + 1) n ds Q E := by
  show (match tabOf prI.ds n with
    | some fd => ds.length = fd.np ∧ wSs prI.P (fnP prI.P (tabOf prI.ds) k) fd.body (bind0 fd ds) { nx := fun _ => Q (.val .non), rt := Q, bk := fun _ => False, ct := fun _ => False, ex := fun x _ => E x }
    | none => False)
  rw [hf]
  exact ⟨hl, h⟩
section
variable {k : Nat} {Q : R → Prop} {E : Xc → Prop}
theorem c_take {far : Int} (h0 : 0 < far) (h1 : far < 2 ^ 64) (h : ∀ x, 0 ≤ x → x < far → Q (.val (.int x))) : Fk (k + 1) i__law_take [.pot, .int far] Q E := by
  refine Fk_at (fd := fd__law_take) rfl rfl ?_
  simp only [fd__law_take, wSs, wS, wE, wEs, wT, wTs, wG, wGs, wI, wO, rdV, bind0, R.d, truD, List.map_cons, List.map_nil, List.cons_append, List.nil_append, List.length_cons, List.length_nil, List.replicate, List.append_nil, List.set_cons_zero, List.set_cons_succ, List.getElem?_cons_zero, List.getElem?_cons_succ, Option.some.injEq, exists_eq_left', true_and, and_true, if_true, if_false, Bool.false_eq_true, R.val.injEq, D.int.injEq, Nat.zero_add, Nat.reduceAdd, Nat.reduceSub, Nat.reduceLT, Nat.reduceLeDiff, Nat.reduceEqDiff, Bool.not_true, Bool.not_false, Bool.and_true, Bool.true_and, Bool.and_false, Bool.false_and, opD, h0]
  intro n hn
  refine fun m hm => ?_
  rw [if_pos h1]
  exact ⟨_, rfl, _, rfl, Int.ediv_nonneg hm (Int.le_of_lt h0), h _ (Int.emod_nonneg _ (by omega)) (Int.emod_lt_of_pos _ h0)⟩
theorem c_cell {ns : List Int} {j : Int} (hj : 0 ≤ j) (h : ∀ n : Int, Q (.val (.int n))) : Fk (k + 1) i__law_cell_at [.scr ns, .int j] Q E := by
  refine Fk_at (fd := fd__law_cell_at) rfl rfl ?_
  by_cases hl : j < (ns.length : Int)
  · refine p_ift (r' := [some (.val (.scr ns)), some (.val (.int j))]) mk ?_ (p_ret mk (fun x _ => ∃ n : Int, x = .val (.int n)) ?_ fun x r1 ⟨m, e⟩ => by rw [e]; exact h m)
    · simp only [fd__law_cell_at, wSs, wS, wE, wEs, wT, wTs, wG, wGs, wI, wO, rdV, bind0, d_val, d_own, tru_bl, tru_non, tru_int, tru_lst, tru_tup, ix_l, ix_t, at_0, at_1, at_2, op_add, op_sub, op_mod, op_div, cm_lt, cm_le, cm_gt, cm_ge, List.map_cons, List.map_nil, List.cons_append, List.nil_append, List.length_cons, List.length_nil, List.replicate, List.append_nil, List.set_cons_zero, List.set_cons_succ, List.getElem?_cons_zero, List.getElem?_cons_succ, Option.some.injEq, exists_eq_left', true_and, and_true, if_true, if_false, Bool.false_eq_true, R.val.injEq, D.int.injEq, Nat.zero_add, Nat.reduceAdd, Nat.reduceSub, Nat.reduceLT, Nat.reduceLeDiff, Nat.reduceEqDiff, Bool.not_true, Bool.not_false, Bool.and_true, Bool.true_and, Bool.and_false, Bool.false_and, Int.reduceLT, Int.reduceLE, Int.reduceNeg, Int.reducePow, Int.reduceToNat, Int.reduceMul, Int.reduceSub, Int.reduceAdd, lnV, len_l, len_t, len_sc, bi_ln, bi_abs, bi_max, bi_min, bi_listl, bi_listt, bi_tupl, bi_tupt, bi_intb, bi_inti, bi_all, sl_l, sl_t, cm_is, cm_isnot, is_non, is_bl, cm_eqi, cm_nei, cm_eqs, cm_nes, isTy, Option.map_some, p9, p10, p11, p18, wipeR, backR, List.getD_cons_zero, List.getD_cons_succ]
      simp [hl]
    · simp only [wSs, wS, wE, wEs, wT, wTs, wG, wGs, wI, wO, rdV, bind0, d_val, d_own, tru_bl, tru_non, tru_int, tru_lst, tru_tup, ix_l, ix_t, at_0, at_1, at_2, op_add, op_sub, op_mod, op_div, cm_lt, cm_le, cm_gt, cm_ge, List.map_cons, List.map_nil, List.cons_append, List.nil_append, List.length_cons, List.length_nil, List.replicate, List.append_nil, List.set_cons_zero, List.set_cons_succ, List.getElem?_cons_zero, List.getElem?_cons_succ, Option.some.injEq, exists_eq_left', true_and, and_true, if_true, if_false, Bool.false_eq_true, R.val.injEq, D.int.injEq, Nat.zero_add, Nat.reduceAdd, Nat.reduceSub, Nat.reduceLT, Nat.reduceLeDiff, Nat.reduceEqDiff, Bool.not_true, Bool.not_false, Bool.and_true, Bool.true_and, Bool.and_false, Bool.false_and, Int.reduceLT, Int.reduceLE, Int.reduceNeg, Int.reducePow, Int.reduceToNat, Int.reduceMul, Int.reduceSub, Int.reduceAdd, lnV, len_l, len_t, len_sc, bi_ln, bi_abs, bi_max, bi_min, bi_listl, bi_listt, bi_tupl, bi_tupt, bi_intb, bi_inti, bi_all, sl_l, sl_t, cm_is, cm_isnot, is_non, is_bl, cm_eqi, cm_nei, cm_eqs, cm_nes, isTy, Option.map_some, p9, p10, p11, p18, wipeR, backR, List.getD_cons_zero, List.getD_cons_succ]
      obtain ⟨x, _, e⟩ := at_lt hj hl
      exact ⟨.int x, by show (L2.atI ns j).map D.int = _; rw [e]; rfl, x, rfl⟩
  · refine p_skip (r' := [some (.val (.scr ns)), some (.val (.int j))]) mk ?_ (p_retb mk ?_ (h 0))
    · simp only [fd__law_cell_at, wSs, wS, wE, wEs, wT, wTs, wG, wGs, wI, wO, rdV, bind0, d_val, d_own, tru_bl, tru_non, tru_int, tru_lst, tru_tup, ix_l, ix_t, at_0, at_1, at_2, op_add, op_sub, op_mod, op_div, cm_lt, cm_le, cm_gt, cm_ge, List.map_cons, List.map_nil, List.cons_append, List.nil_append, List.length_cons, List.length_nil, List.replicate, List.append_nil, List.set_cons_zero, List.set_cons_succ, List.getElem?_cons_zero, List.getElem?_cons_succ, Option.some.injEq, exists_eq_left', true_and, and_true, if_true, if_false, Bool.false_eq_true, R.val.injEq, D.int.injEq, Nat.zero_add, Nat.reduceAdd, Nat.reduceSub, Nat.reduceLT, Nat.reduceLeDiff, Nat.reduceEqDiff, Bool.not_true, Bool.not_false, Bool.and_true, Bool.true_and, Bool.and_false, Bool.false_and, Int.reduceLT, Int.reduceLE, Int.reduceNeg, Int.reducePow, Int.reduceToNat, Int.reduceMul, Int.reduceSub, Int.reduceAdd, lnV, len_l, len_t, len_sc, bi_ln, bi_abs, bi_max, bi_min, bi_listl, bi_listt, bi_tupl, bi_tupt, bi_intb, bi_inti, bi_all, sl_l, sl_t, cm_is, cm_isnot, is_non, is_bl, cm_eqi, cm_nei, cm_eqs, cm_nes, isTy, Option.map_some, p9, p10, p11, p18, wipeR, backR, List.getD_cons_zero, List.getD_cons_succ]
      simp [hl]
    · simp only [wSs, wS, wE, wEs, wT, wTs, wG, wGs, wI, wO, rdV, bind0, d_val, d_own, tru_bl, tru_non, tru_int, tru_lst, tru_tup, ix_l, ix_t, at_0, at_1, at_2, op_add, op_sub, op_mod, op_div, cm_lt, cm_le, cm_gt, cm_ge, List.map_cons, List.map_nil, List.cons_append, List.nil_append, List.length_cons, List.length_nil, List.replicate, List.append_nil, List.set_cons_zero, List.set_cons_succ, List.getElem?_cons_zero, List.getElem?_cons_succ, Option.some.injEq, exists_eq_left', true_and, and_true, if_true, if_false, Bool.false_eq_true, R.val.injEq, D.int.injEq, Nat.zero_add, Nat.reduceAdd, Nat.reduceSub, Nat.reduceLT, Nat.reduceLeDiff, Nat.reduceEqDiff, Bool.not_true, Bool.not_false, Bool.and_true, Bool.true_and, Bool.and_false, Bool.false_and, Int.reduceLT, Int.reduceLE, Int.reduceNeg, Int.reducePow, Int.reduceToNat, Int.reduceMul, Int.reduceSub, Int.reduceAdd, lnV, len_l, len_t, len_sc, bi_ln, bi_abs, bi_max, bi_min, bi_listl, bi_listt, bi_tupl, bi_tupt, bi_intb, bi_inti, bi_all, sl_l, sl_t, cm_is, cm_isnot, is_non, is_bl, cm_eqi, cm_nei, cm_eqs, cm_nes, isTy, Option.map_some, p9, p10, p11, p18, wipeR, backR, List.getD_cons_zero, List.getD_cons_succ]
theorem c_pot {c : Int} (h : ∀ n : Int, 0 ≤ n → Q (.own [.int n])) : Fk (k + 1) i__law_pot [.int c] Q E := by
  refine Fk_at (fd := fd__law_pot) rfl rfl ?_
  by_cases hc : 1000000000000000000 ≤ c
  · refine p_ift (r' := [some (.val (.int c)), none, none, none]) mk ?_ (p_retb (x := .own [.int (c - 1000000000000000000)]) mk ?_ (h _ (by omega)))
    · simp only [fd__law_pot, wSs, wS, wE, wEs, wT, wTs, wG, wGs, wI, wO, rdV, bind0, d_val, d_own, tru_bl, tru_non, tru_int, tru_lst, tru_tup, ix_l, ix_t, at_0, at_1, at_2, op_add, op_sub, op_mod, op_div, cm_lt, cm_le, cm_gt, cm_ge, List.map_cons, List.map_nil, List.cons_append, List.nil_append, List.length_cons, List.length_nil, List.replicate, List.append_nil, List.set_cons_zero, List.set_cons_succ, List.getElem?_cons_zero, List.getElem?_cons_succ, Option.some.injEq, exists_eq_left', true_and, and_true, if_true, if_false, Bool.false_eq_true, R.val.injEq, D.int.injEq, Nat.zero_add, Nat.reduceAdd, Nat.reduceSub, Nat.reduceLT, Nat.reduceLeDiff, Nat.reduceEqDiff, Bool.not_true, Bool.not_false, Bool.and_true, Bool.true_and, Bool.and_false, Bool.false_and, Int.reduceLT, Int.reduceLE, Int.reduceNeg, Int.reducePow, Int.reduceToNat, Int.reduceMul, Int.reduceSub, Int.reduceAdd, p18]
      simp [hc]
    · simp only [wSs, wS, wE, wEs, wT, wTs, wG, wGs, wI, wO, rdV, bind0, d_val, d_own, tru_bl, tru_non, tru_int, tru_lst, tru_tup, ix_l, ix_t, at_0, at_1, at_2, op_add, op_sub, op_mod, op_div, cm_lt, cm_le, cm_gt, cm_ge, List.map_cons, List.map_nil, List.cons_append, List.nil_append, List.length_cons, List.length_nil, List.replicate, List.append_nil, List.set_cons_zero, List.set_cons_succ, List.getElem?_cons_zero, List.getElem?_cons_succ, Option.some.injEq, exists_eq_left', true_and, and_true, if_true, if_false, Bool.false_eq_true, R.val.injEq, D.int.injEq, Nat.zero_add, Nat.reduceAdd, Nat.reduceSub, Nat.reduceLT, Nat.reduceLeDiff, Nat.reduceEqDiff, Bool.not_true, Bool.not_false, Bool.and_true, Bool.true_and, Bool.and_false, Bool.false_and, Int.reduceLT, Int.reduceLE, Int.reduceNeg, Int.reducePow, Int.reduceToNat, Int.reduceMul, Int.reduceSub, Int.reduceAdd, p18]
      decide
  · refine p_skip (r' := [some (.val (.int c)), none, none, none]) mk ?_ (p_asg mk (fun x r1 => x = .val (.int 0) ∧ r1 = [some (.val (.int c)), none, none, none]) ?_ ?_)
    · simp only [fd__law_pot, wSs, wS, wE, wEs, wT, wTs, wG, wGs, wI, wO, rdV, bind0, d_val, d_own, tru_bl, tru_non, tru_int, tru_lst, tru_tup, ix_l, ix_t, at_0, at_1, at_2, op_add, op_sub, op_mod, op_div, cm_lt, cm_le, cm_gt, cm_ge, List.map_cons, List.map_nil, List.cons_append, List.nil_append, List.length_cons, List.length_nil, List.replicate, List.append_nil, List.set_cons_zero, List.set_cons_succ, List.getElem?_cons_zero, List.getElem?_cons_succ, Option.some.injEq, exists_eq_left', true_and, and_true, if_true, if_false, Bool.false_eq_true, R.val.injEq, D.int.injEq, Nat.zero_add, Nat.reduceAdd, Nat.reduceSub, Nat.reduceLT, Nat.reduceLeDiff, Nat.reduceEqDiff, Bool.not_true, Bool.not_false, Bool.and_true, Bool.true_and, Bool.and_false, Bool.false_and, Int.reduceLT, Int.reduceLE, Int.reduceNeg, Int.reducePow, Int.reduceToNat, Int.reduceMul, Int.reduceSub, Int.reduceAdd, p18]
      simp [hc]
    · simp only [wSs, wS, wE, wEs, wT, wTs, wG, wGs, wI, wO, rdV, bind0, d_val, d_own, tru_bl, tru_non, tru_int, tru_lst, tru_tup, ix_l, ix_t, at_0, at_1, at_2, op_add, op_sub, op_mod, op_div, cm_lt, cm_le, cm_gt, cm_ge, List.map_cons, List.map_nil, List.cons_append, List.nil_append, List.length_cons, List.length_nil, List.replicate, List.append_nil, List.set_cons_zero, List.set_cons_succ, List.getElem?_cons_zero, List.getElem?_cons_succ, Option.some.injEq, exists_eq_left', true_and, and_true, if_true, if_false, Bool.false_eq_true, R.val.injEq, D.int.injEq, Nat.zero_add, Nat.reduceAdd, Nat.reduceSub, Nat.reduceLT, Nat.reduceLeDiff, Nat.reduceEqDiff, Bool.not_true, Bool.not_false, Bool.and_true, Bool.true_and, Bool.and_false, Bool.false_and, Int.reduceLT, Int.reduceLE, Int.reduceNeg, Int.reducePow, Int.reduceToNat, Int.reduceMul, Int.reduceSub, Int.reduceAdd]
    · rintro x r1 ⟨rfl, rfl⟩
      refine ⟨Nat.le_of_ble_eq_true rfl, p_for mk (fun ds r1 => (∀ d ∈ ds, ∃ j : Int, 0 ≤ j ∧ j < 64 ∧ d = .int j) ∧ r1 = [some (.val (.int c)), some (.val (.int 0)), none, none]) (fun r1 => ∃ (n : Int) (a b : Option R), 0 ≤ n ∧ r1 = [some (.val (.int c)), some (.val (.int n)), a, b]) ?_ ?_ ?_ ?_⟩
      · simp only [wSs, wS, wE, wEs, wT, wTs, wG, wGs, wI, wO, rdV, bind0, d_val, d_own, tru_bl, tru_non, tru_int, tru_lst, tru_tup, ix_l, ix_t, at_0, at_1, at_2, op_add, op_sub, op_mod, op_div, cm_lt, cm_le, cm_gt, cm_ge, List.map_cons, List.map_nil, List.cons_append, List.nil_append, List.length_cons, List.length_nil, List.replicate, List.append_nil, List.set_cons_zero, List.set_cons_succ, List.getElem?_cons_zero, List.getElem?_cons_succ, Option.some.injEq, exists_eq_left', true_and, and_true, if_true, if_false, Bool.false_eq_true, R.val.injEq, D.int.injEq, Nat.zero_add, Nat.reduceAdd, Nat.reduceSub, Nat.reduceLT, Nat.reduceLeDiff, Nat.reduceEqDiff, Bool.not_true, Bool.not_false, Bool.and_true, Bool.true_and, Bool.and_false, Bool.false_and, Int.reduceLT, Int.reduceLE, Int.reduceNeg, Int.reducePow, Int.reduceToNat, Int.reduceMul, Int.reduceSub, Int.reduceAdd]
        intro d hd
        obtain ⟨j, h1, h2, rfl⟩ := rng_mem hd
        exact ⟨j, h1, by omega, rfl⟩
      · rintro ds r1 ⟨_, rfl⟩
        exact ⟨0, none, none, by decide, rfl⟩
      · rintro ds r0 ⟨hd, _⟩ x hx r1 ⟨n, a, b, hn, rfl⟩ k' hk'
        obtain ⟨j, hj0, hj1, rfl⟩ := hd x hx
        refine ⟨Nat.le_of_ble_eq_true rfl, ?_⟩
        simp only [wSs, wS, wE, wEs, wT, wTs, wG, wGs, wI, wO, rdV, bind0, d_val, d_own, tru_bl, tru_non, tru_int, tru_lst, tru_tup, ix_l, ix_t, at_0, at_1, at_2, op_add, op_sub, op_mod, op_div, cm_lt, cm_le, cm_gt, cm_ge, List.map_cons, List.map_nil, List.cons_append, List.nil_append, List.length_cons, List.length_nil, List.replicate, List.append_nil, List.set_cons_zero, List.set_cons_succ, List.getElem?_cons_zero, List.getElem?_cons_succ, Option.some.injEq, exists_eq_left', true_and, and_true, if_true, if_false, Bool.false_eq_true, R.val.injEq, D.int.injEq, Nat.zero_add, Nat.reduceAdd, Nat.reduceSub, Nat.reduceLT, Nat.reduceLeDiff, Nat.reduceEqDiff, Bool.not_true, Bool.not_false, Bool.and_true, Bool.true_and, Bool.and_false, Bool.false_and, Int.reduceLT, Int.reduceLE, Int.reduceNeg, Int.reducePow, Int.reduceToNat, Int.reduceMul, Int.reduceSub, Int.reduceAdd]
        rw [op_mull (by decide)]
        simp only [wSs, wS, wE, wEs, wT, wTs, wG, wGs, wI, wO, rdV, bind0, d_val, d_own, tru_bl, tru_non, tru_int, tru_lst, tru_tup, ix_l, ix_t, at_0, at_1, at_2, op_add, op_sub, op_mod, op_div, cm_lt, cm_le, cm_gt, cm_ge, List.map_cons, List.map_nil, List.cons_append, List.nil_append, List.length_cons, List.length_nil, List.replicate, List.append_nil, List.set_cons_zero, List.set_cons_succ, List.getElem?_cons_zero, List.getElem?_cons_succ, Option.some.injEq, exists_eq_left', true_and, and_true, if_true, if_false, Bool.false_eq_true, R.val.injEq, D.int.injEq, Nat.zero_add, Nat.reduceAdd, Nat.reduceSub, Nat.reduceLT, Nat.reduceLeDiff, Nat.reduceEqDiff, Bool.not_true, Bool.not_false, Bool.and_true, Bool.true_and, Bool.and_false, Bool.false_and, Int.reduceLT, Int.reduceLE, Int.reduceNeg, Int.reducePow, Int.reduceToNat, Int.reduceMul, Int.reduceSub, Int.reduceAdd]
        rw [op_mulr (by decide)]
        simp only [wSs, wS, wE, wEs, wT, wTs, wG, wGs, wI, wO, rdV, bind0, d_val, d_own, tru_bl, tru_non, tru_int, tru_lst, tru_tup, ix_l, ix_t, at_0, at_1, at_2, op_add, op_sub, op_mod, op_div, cm_lt, cm_le, cm_gt, cm_ge, List.map_cons, List.map_nil, List.cons_append, List.nil_append, List.length_cons, List.length_nil, List.replicate, List.append_nil, List.set_cons_zero, List.set_cons_succ, List.getElem?_cons_zero, List.getElem?_cons_succ, Option.some.injEq, exists_eq_left', true_and, and_true, if_true, if_false, Bool.false_eq_true, R.val.injEq, D.int.injEq, Nat.zero_add, Nat.reduceAdd, Nat.reduceSub, Nat.reduceLT, Nat.reduceLeDiff, Nat.reduceEqDiff, Bool.not_true, Bool.not_false, Bool.and_true, Bool.true_and, Bool.and_false, Bool.false_and, Int.reduceLT, Int.reduceLE, Int.reduceNeg, Int.reducePow, Int.reduceToNat, Int.reduceMul, Int.reduceSub, Int.reduceAdd]
        have m1 := Int.emod_nonneg ((c % 2147483629 + 7919 * j + 1) * 48271) (show (2147483647 : Int) ≠ 0 by decide)
        have m2 := Int.emod_lt_of_pos ((c % 2147483629 + 7919 * j + 1) * 48271) (show (0 : Int) < 2147483647 by decide)
        rw [op_mull (by omega)]
        simp only [wSs, wS, wE, wEs, wT, wTs, wG, wGs, wI, wO, rdV, bind0, d_val, d_own, tru_bl, tru_non, tru_int, tru_lst, tru_tup, ix_l, ix_t, at_0, at_1, at_2, op_add, op_sub, op_mod, op_div, cm_lt, cm_le, cm_gt, cm_ge, List.map_cons, List.map_nil, List.cons_append, List.nil_append, List.length_cons, List.length_nil, List.replicate, List.append_nil, List.set_cons_zero, List.set_cons_succ, List.getElem?_cons_zero, List.getElem?_cons_succ, Option.some.injEq, exists_eq_left', true_and, and_true, if_true, if_false, Bool.false_eq_true, R.val.injEq, D.int.injEq, Nat.zero_add, Nat.reduceAdd, Nat.reduceSub, Nat.reduceLT, Nat.reduceLeDiff, Nat.reduceEqDiff, Bool.not_true, Bool.not_false, Bool.and_true, Bool.true_and, Bool.and_false, Bool.false_and, Int.reduceLT, Int.reduceLE, Int.reduceNeg, Int.reducePow, Int.reduceToNat, Int.reduceMul, Int.reduceSub, Int.reduceAdd]
        rw [op_mull (by decide)]
        simp only [wSs, wS, wE, wEs, wT, wTs, wG, wGs, wI, wO, rdV, bind0, d_val, d_own, tru_bl, tru_non, tru_int, tru_lst, tru_tup, ix_l, ix_t, at_0, at_1, at_2, op_add, op_sub, op_mod, op_div, cm_lt, cm_le, cm_gt, cm_ge, List.map_cons, List.map_nil, List.cons_append, List.nil_append, List.length_cons, List.length_nil, List.replicate, List.append_nil, List.set_cons_zero, List.set_cons_succ, List.getElem?_cons_zero, List.getElem?_cons_succ, Option.some.injEq, exists_eq_left', true_and, and_true, if_true, if_false, Bool.false_eq_true, R.val.injEq, D.int.injEq, Nat.zero_add, Nat.reduceAdd, Nat.reduceSub, Nat.reduceLT, Nat.reduceLeDiff, Nat.reduceEqDiff, Bool.not_true, Bool.not_false, Bool.and_true, Bool.true_and, Bool.and_false, Bool.false_and, Int.reduceLT, Int.reduceLE, Int.reduceNeg, Int.reducePow, Int.reduceToNat, Int.reduceMul, Int.reduceSub, Int.reduceAdd]
        rw [op_mulr (by decide)]
        simp only [wSs, wS, wE, wEs, wT, wTs, wG, wGs, wI, wO, rdV, bind0, d_val, d_own, tru_bl, tru_non, tru_int, tru_lst, tru_tup, ix_l, ix_t, at_0, at_1, at_2, op_add, op_sub, op_mod, op_div, cm_lt, cm_le, cm_gt, cm_ge, List.map_cons, List.map_nil, List.cons_append, List.nil_append, List.length_cons, List.length_nil, List.replicate, List.append_nil, List.set_cons_zero, List.set_cons_succ, List.getElem?_cons_zero, List.getElem?_cons_succ, Option.some.injEq, exists_eq_left', true_and, and_true, if_true, if_false, Bool.false_eq_true, R.val.injEq, D.int.injEq, Nat.zero_add, Nat.reduceAdd, Nat.reduceSub, Nat.reduceLT, Nat.reduceLeDiff, Nat.reduceEqDiff, Bool.not_true, Bool.not_false, Bool.and_true, Bool.true_and, Bool.and_false, Bool.false_and, Int.reduceLT, Int.reduceLE, Int.reduceNeg, Int.reducePow, Int.reduceToNat, Int.reduceMul, Int.reduceSub, Int.reduceAdd]
        refine hk' _ ⟨_, _, _, ?_, rfl⟩
        have m3 := Int.emod_nonneg ((c % 2147483629 + 7919 * j + 1) * 48271 % 2147483647 * ((c % 2147483629 + 7919 * j + 1) * 48271 % 2147483647) + 69621 * j + 7) (show (2147483587 : Int) ≠ 0 by decide)
        omega
      · rintro r1 ⟨n, a, b, hn, rfl⟩
        refine p_retb (x := .own [.int n]) mk ?_ (h n hn)
        simp only [wSs, wS, wE, wEs, wT, wTs, wG, wGs, wI, wO, rdV, bind0, d_val, d_own, tru_bl, tru_non, tru_int, tru_lst, tru_tup, ix_l, ix_t, at_0, at_1, at_2, op_add, op_sub, op_mod, op_div, cm_lt, cm_le, cm_gt, cm_ge, List.map_cons, List.map_nil, List.cons_append, List.nil_append, List.length_cons, List.length_nil, List.replicate, List.append_nil, List.set_cons_zero, List.set_cons_succ, List.getElem?_cons_zero, List.getElem?_cons_succ, Option.some.injEq, exists_eq_left', true_and, and_true, if_true, if_false, Bool.false_eq_true, R.val.injEq, D.int.injEq, Nat.zero_add, Nat.reduceAdd, Nat.reduceSub, Nat.reduceLT, Nat.reduceLeDiff, Nat.reduceEqDiff, Bool.not_true, Bool.not_false, Bool.and_true, Bool.true_and, Bool.and_false, Bool.false_and, Int.reduceLT, Int.reduceLE, Int.reduceNeg, Int.reducePow, Int.reduceToNat, Int.reduceMul, Int.reduceSub, Int.reduceAdd]
        decide
/-- how the law's turns are counted -/
theorem c_turns {ns : List Int} {c : Int} {r : PL.Env} {Q : List D → PL.Env → Prop} {E : Xc → PL.Env → Prop} (hc : 1 ≤ c ∧ c < 100) (h0 : r[0]? = some (some (.val (.scr ns)))) (h : ∀ ds, (∀ d ∈ ds, ∃ j : Int, 0 ≤ j ∧ d = .int j) → Q ds r) :
    wI prI.P (Fk k) (.rng1 (.bi .max [(.cst (.int 1)), (.bi .min [(.lenv 0), (.cst (.int c))])])) r Q E := by
  simp only [wI, wE, wEs, lnV, h0, d_val, len_sc, bi_min, bi_max, Option.some.injEq, exists_eq_left', D.int.injEq]
  refine ⟨by split <;> split <;> omega, by split <;> split <;> omega, h _ fun d hd => ?_⟩
  obtain ⟨j, h1, _, h2⟩ := rng_mem hd
  exact ⟨j, h1, h2⟩
end
end K12
set_option maxHeartbeats 3900000
namespace K12
open PySem PL
section
variable {k : Nat} {Q : R → Prop} {E : Xc → Prop}
theorem c_sign_by {t : List Bool} {n : Int} (h0 : t ≠ []) (hl : t.length ≤ 60) (h : Q (.val (.str (tx [atT t n])))) : Fk (k + 1) i_sign_by [.str (tx t), .int n] Q E := by
  have hp : 0 < t.length := List.length_pos_iff.mpr h0
  refine Fk_at (fd := fd_sign_by) rfl rfl ?_
  simp only [fd_sign_by, wSs, wS, wE, wEs, wT, wTs, wG, wGs, wI, wO, rdV, bind0, d_val, d_own, tru_bl, tru_non, tru_int, tru_lst, tru_tup, ix_l, ix_t, at_0, at_1, at_2, op_add, op_sub, op_mod, op_div, cm_lt, cm_le, cm_gt, cm_ge, List.map_cons, List.map_nil, List.cons_append, List.nil_append, List.length_cons, List.length_nil, List.replicate, List.append_nil, List.set_cons_zero, List.set_cons_succ, List.getElem?_cons_zero, List.getElem?_cons_succ, Option.some.injEq, exists_eq_left', true_and, and_true, if_true, if_false, Bool.false_eq_true, R.val.injEq, D.int.injEq, Nat.zero_add, Nat.reduceAdd, Nat.reduceSub, Nat.reduceLT, Nat.reduceLeDiff, Nat.reduceEqDiff, Bool.not_true, Bool.not_false, Bool.and_true, Bool.true_and, Bool.and_false, Bool.false_and, Int.reduceLT, Int.reduceLE, Int.reduceNeg, Int.reducePow, Int.reduceToNat, Int.reduceMul, Int.reduceSub, Int.reduceAdd, lnV, len_l, len_t, len_sc, bi_ln, bi_abs, bi_max, bi_min, bi_listl, bi_listt, bi_tupl, bi_tupt, bi_intb, bi_inti, bi_all, sl_l, sl_t, cm_is, cm_isnot, is_non, is_bl, cm_eqi, cm_nei, cm_eqs, cm_nes, isTy, Option.map_some, p9, p10, p11, p18, wipeR, backR, List.getD_cons_zero, List.getD_cons_succ, len_tx (show t.length ≤ 16777216 by omega)]
  rw [op_mod (by omega)]
  simp only [wSs, wS, wE, wEs, wT, wTs, wG, wGs, wI, wO, rdV, bind0, d_val, d_own, tru_bl, tru_non, tru_int, tru_lst, tru_tup, ix_l, ix_t, at_0, at_1, at_2, op_add, op_sub, op_mod, op_div, cm_lt, cm_le, cm_gt, cm_ge, List.map_cons, List.map_nil, List.cons_append, List.nil_append, List.length_cons, List.length_nil, List.replicate, List.append_nil, List.set_cons_zero, List.set_cons_succ, List.getElem?_cons_zero, List.getElem?_cons_succ, Option.some.injEq, exists_eq_left', true_and, and_true, if_true, if_false, Bool.false_eq_true, R.val.injEq, D.int.injEq, Nat.zero_add, Nat.reduceAdd, Nat.reduceSub, Nat.reduceLT, Nat.reduceLeDiff, Nat.reduceEqDiff, Bool.not_true, Bool.not_false, Bool.and_true, Bool.true_and, Bool.and_false, Bool.false_and, Int.reduceLT, Int.reduceLE, Int.reduceNeg, Int.reducePow, Int.reduceToNat, Int.reduceMul, Int.reduceSub, Int.reduceAdd, lnV, len_l, len_t, len_sc, bi_ln, bi_abs, bi_max, bi_min, bi_listl, bi_listt, bi_tupl, bi_tupt, bi_intb, bi_inti, bi_all, sl_l, sl_t, cm_is, cm_isnot, is_non, is_bl, cm_eqi, cm_nei, cm_eqs, cm_nes, isTy, Option.map_some, p9, p10, p11, p18, wipeR, backR, List.getD_cons_zero, List.getD_cons_succ]
  have b1 := Int.emod_nonneg n (show (t.length : Int) ≠ 0 by omega)
  have b2 := Int.emod_lt_of_pos n (show (0 : Int) < t.length by omega)
  have hi : (n % (t.length : Int)).toNat < t.length := by omega
  have e := ix_tx (a := t) hi (by omega)
  rw [Int.toNat_of_nonneg b1] at e
  refine ⟨_, e, ?_⟩
  have e2 : atT t n = t[(n % (t.length : Int)).toNat] := by
    unfold atT
    rw [List.getD_eq_getElem?_getD, List.getElem?_eq_getElem hi]
    rfl
  rw [← e2]
  exact h
theorem c_shortest {t : List Bool} (h0 : t ≠ []) (hl : t.length ≤ 60) (h : ∀ u, Prim u → u.length ∣ t.length → (∀ n, atT u n = atT t n) → Q (.val (.str (tx u)))) : Fk (k + 1) i_shortest [.str (tx t)] Q E := by
  have hlim : lim = 16777216 := rfl
  have hp : 0 < t.length := List.length_pos_iff.mpr h0
  have ht : t.length ≤ 16777216 := by omega
  refine Fk_at (fd := fd_shortest) rfl rfl (p_asg mk (fun x r1 => x = .own (((upto t.length).filter fun d => decide (t.length % d = 0)).map fun d : Nat => D.int (d : Int)) ∧ r1 = [some (.val (.str (tx t))), none, none]) ?_ ?_)
  · simp only [fd_shortest, wSs, wS, wE, wEs, wT, wTs, wG, wGs, wI, wO, rdV, bind0, d_val, d_own, tru_bl, tru_non, tru_int, tru_lst, tru_tup, ix_l, ix_t, at_0, at_1, at_2, op_add, op_sub, op_mod, op_div, cm_lt, cm_le, cm_gt, cm_ge, List.map_cons, List.map_nil, List.cons_append, List.nil_append, List.length_cons, List.length_nil, List.replicate, List.append_nil, List.set_cons_zero, List.set_cons_succ, List.getElem?_cons_zero, List.getElem?_cons_succ, Option.some.injEq, exists_eq_left', true_and, and_true, if_true, if_false, Bool.false_eq_true, R.val.injEq, D.int.injEq, Nat.zero_add, Nat.reduceAdd, Nat.reduceSub, Nat.reduceLT, Nat.reduceLeDiff, Nat.reduceEqDiff, Bool.not_true, Bool.not_false, Bool.and_true, Bool.true_and, Bool.and_false, Bool.false_and, Int.reduceLT, Int.reduceLE, Int.reduceNeg, Int.reducePow, Int.reduceToNat, Int.reduceMul, Int.reduceSub, Int.reduceAdd, lnV, len_l, len_t, len_sc, bi_ln, bi_abs, bi_max, bi_min, bi_listl, bi_listt, bi_tupl, bi_tupt, bi_intb, bi_inti, bi_all, sl_l, sl_t, cm_is, cm_isnot, is_non, is_bl, cm_eqi, cm_nei, cm_eqs, cm_nes, isTy, Option.map_some, p9, p10, p11, p18, wipeR, backR, List.getD_cons_zero, List.getD_cons_succ, len_tx ht]
    refine ⟨1, (t.length : Int) + 1, rfl, rfl, by omega, by omega, by omega, by omega, fun v hv ds => by simp at hv; subst hv; simp, ?_⟩
    have en : ((t.length : Int) + 1 - 1).toNat = t.length := by omega
    rw [en, rng_upto]
    refine lc_fm (fun d => match d with | .int j => if decide ((t.length : Int) % j = 0) = true then some (.int j) else none | _ => none) (by unfold upto; simp; omega) (fun x hx kk hk => ?_) ?_
    · obtain ⟨d, hd, rfl⟩ := List.mem_map.mp hx
      have hd' := upto_mem.mp hd
      simp only [wSs, wS, wE, wEs, wT, wTs, wG, wGs, wI, wO, rdV, bind0, d_val, d_own, tru_bl, tru_non, tru_int, tru_lst, tru_tup, ix_l, ix_t, at_0, at_1, at_2, op_add, op_sub, op_mod, op_div, cm_lt, cm_le, cm_gt, cm_ge, List.map_cons, List.map_nil, List.cons_append, List.nil_append, List.length_cons, List.length_nil, List.replicate, List.append_nil, List.set_cons_zero, List.set_cons_succ, List.getElem?_cons_zero, List.getElem?_cons_succ, Option.some.injEq, exists_eq_left', true_and, and_true, if_true, if_false, Bool.false_eq_true, R.val.injEq, D.int.injEq, Nat.zero_add, Nat.reduceAdd, Nat.reduceSub, Nat.reduceLT, Nat.reduceLeDiff, Nat.reduceEqDiff, Bool.not_true, Bool.not_false, Bool.and_true, Bool.true_and, Bool.and_false, Bool.false_and, Int.reduceLT, Int.reduceLE, Int.reduceNeg, Int.reducePow, Int.reduceToNat, Int.reduceMul, Int.reduceSub, Int.reduceAdd, lnV, len_l, len_t, len_sc, bi_ln, bi_abs, bi_max, bi_min, bi_listl, bi_listt, bi_tupl, bi_tupt, bi_intb, bi_inti, bi_all, sl_l, sl_t, cm_is, cm_isnot, is_non, is_bl, cm_eqi, cm_nei, cm_eqs, cm_nes, isTy, Option.map_some, p9, p10, p11, p18, wipeR, backR, List.getD_cons_zero, List.getD_cons_succ, len_tx ht]
      rw [op_mod (by omega)]
      simp only [wSs, wS, wE, wEs, wT, wTs, wG, wGs, wI, wO, rdV, bind0, d_val, d_own, tru_bl, tru_non, tru_int, tru_lst, tru_tup, ix_l, ix_t, at_0, at_1, at_2, op_add, op_sub, op_mod, op_div, cm_lt, cm_le, cm_gt, cm_ge, List.map_cons, List.map_nil, List.cons_append, List.nil_append, List.length_cons, List.length_nil, List.replicate, List.append_nil, List.set_cons_zero, List.set_cons_succ, List.getElem?_cons_zero, List.getElem?_cons_succ, Option.some.injEq, exists_eq_left', true_and, and_true, if_true, if_false, Bool.false_eq_true, R.val.injEq, D.int.injEq, Nat.zero_add, Nat.reduceAdd, Nat.reduceSub, Nat.reduceLT, Nat.reduceLeDiff, Nat.reduceEqDiff, Bool.not_true, Bool.not_false, Bool.and_true, Bool.true_and, Bool.and_false, Bool.false_and, Int.reduceLT, Int.reduceLE, Int.reduceNeg, Int.reducePow, Int.reduceToNat, Int.reduceMul, Int.reduceSub, Int.reduceAdd, lnV, len_l, len_t, len_sc, bi_ln, bi_abs, bi_max, bi_min, bi_listl, bi_listt, bi_tupl, bi_tupt, bi_intb, bi_inti, bi_all, sl_l, sl_t, cm_is, cm_isnot, is_non, is_bl, cm_eqi, cm_nei, cm_eqs, cm_nes, isTy, Option.map_some, p9, p10, p11, p18, wipeR, backR, List.getD_cons_zero, List.getD_cons_succ]
      simp only at hk
      by_cases q : (t.length : Int) % (d : Int) = 0
      · simp only [q, decide_true, if_true] at hk ⊢
        exact hk
      · simp only [q, decide_false, Bool.false_eq_true, if_false] at hk ⊢
        exact hk
    · rw [List.nil_append, fm_filter (fun d : Nat => D.int (d : Int)) (fun d => decide (t.length % d = 0)) (fun d : Nat => D.int (d : Int)) _ fun d => ?_]
      · simp
      · have e : decide ((t.length : Int) % (d : Int) = 0) = decide (t.length % d = 0) := by
          rw [decide_eq_decide, ← Int.natCast_emod]; omega
        simp only [e]
  · rintro _ _ ⟨rfl, rfl⟩
    refine ⟨Nat.le_of_ble_eq_true rfl, p_ret mk (fun x _ => ∃ u, Prim u ∧ u.length ∣ t.length ∧ (∀ n, atT u n = atT t n) ∧ x = .val (.str (tx u))) ?_ fun x r1 ⟨u, h1, h2, h3, e⟩ => by rw [e]; exact h u h1 h2 h3⟩
    simp only [wSs, wS, wE, wEs, wT, wTs, wG, wGs, wI, wO, rdV, bind0, d_val, d_own, tru_bl, tru_non, tru_int, tru_lst, tru_tup, ix_l, ix_t, at_0, at_1, at_2, op_add, op_sub, op_mod, op_div, cm_lt, cm_le, cm_gt, cm_ge, List.map_cons, List.map_nil, List.cons_append, List.nil_append, List.length_cons, List.length_nil, List.replicate, List.append_nil, List.set_cons_zero, List.set_cons_succ, List.getElem?_cons_zero, List.getElem?_cons_succ, Option.some.injEq, exists_eq_left', true_and, and_true, if_true, if_false, Bool.false_eq_true, R.val.injEq, D.int.injEq, Nat.zero_add, Nat.reduceAdd, Nat.reduceSub, Nat.reduceLT, Nat.reduceLeDiff, Nat.reduceEqDiff, Bool.not_true, Bool.not_false, Bool.and_true, Bool.true_and, Bool.and_false, Bool.false_and, Int.reduceLT, Int.reduceLE, Int.reduceNeg, Int.reducePow, Int.reduceToNat, Int.reduceMul, Int.reduceSub, Int.reduceAdd, lnV, len_l, len_t, len_sc, bi_ln, bi_abs, bi_max, bi_min, bi_listl, bi_listt, bi_tupl, bi_tupt, bi_intb, bi_inti, bi_all, sl_l, sl_t, cm_is, cm_isnot, is_non, is_bl, cm_eqi, cm_nei, cm_eqs, cm_nes, isTy, Option.map_some, p9, p10, p11, p18, wipeR, backR, List.getD_cons_zero, List.getD_cons_succ]
    refine ⟨fun v hv ds => by simp at hv; subst hv; simp, ?_⟩
    have sub : ∀ d, d ∈ (upto t.length).filter (fun d => decide (t.length % d = 0)) ↔ 1 ≤ d ∧ d ∣ t.length := fun d => by
      rw [List.mem_filter, upto_mem, decide_eq_true_eq, Nat.dvd_iff_mod_eq_zero]
      constructor
      · rintro ⟨⟨h1, _⟩, h2⟩; exact ⟨h1, h2⟩
      · rintro ⟨h1, h2⟩; exact ⟨⟨h1, Nat.le_of_dvd hp (Nat.dvd_of_mod_eq_zero h2)⟩, h2⟩
    refine lc_fm (fun d => match d with | .int j => if decide (rep (t.length / j.toNat) (t.take j.toNat) = t) = true then some (.str (tx (t.take j.toNat))) else none | _ => none) ?_ (fun x hx kk hk => ?_) ?_
    · rw [List.length_map]
      have : ((upto t.length).filter fun d => decide (t.length % d = 0)).length ≤ (upto t.length).length := List.length_filter_le _ _
      have lu : (upto t.length).length = t.length := by unfold upto; simp
      simp
      omega
    · obtain ⟨d, hd, rfl⟩ := List.mem_map.mp hx
      obtain ⟨d1, d2⟩ := (sub d).mp hd
      have dl := Nat.le_of_dvd hp d2
      have q1 : 1 ≤ t.length / d := (Nat.one_le_div_iff (by omega)).mpr dl
      have q2 : t.length / d ≤ 60 := Nat.le_trans (Nat.div_le_self _ _) hl
      simp only [wSs, wS, wE, wEs, wT, wTs, wG, wGs, wI, wO, rdV, bind0, d_val, d_own, tru_bl, tru_non, tru_int, tru_lst, tru_tup, ix_l, ix_t, at_0, at_1, at_2, op_add, op_sub, op_mod, op_div, cm_lt, cm_le, cm_gt, cm_ge, List.map_cons, List.map_nil, List.cons_append, List.nil_append, List.length_cons, List.length_nil, List.replicate, List.append_nil, List.set_cons_zero, List.set_cons_succ, List.getElem?_cons_zero, List.getElem?_cons_succ, Option.some.injEq, exists_eq_left', true_and, and_true, if_true, if_false, Bool.false_eq_true, R.val.injEq, D.int.injEq, Nat.zero_add, Nat.reduceAdd, Nat.reduceSub, Nat.reduceLT, Nat.reduceLeDiff, Nat.reduceEqDiff, Bool.not_true, Bool.not_false, Bool.and_true, Bool.true_and, Bool.and_false, Bool.false_and, Int.reduceLT, Int.reduceLE, Int.reduceNeg, Int.reducePow, Int.reduceToNat, Int.reduceMul, Int.reduceSub, Int.reduceAdd, lnV, len_l, len_t, len_sc, bi_ln, bi_abs, bi_max, bi_min, bi_listl, bi_listt, bi_tupl, bi_tupt, bi_intb, bi_inti, bi_all, sl_l, sl_t, cm_is, cm_isnot, is_non, is_bl, cm_eqi, cm_nei, cm_eqs, cm_nes, isTy, Option.map_some, p9, p10, p11, p18, wipeR, backR, List.getD_cons_zero, List.getD_cons_succ, len_tx ht, sl_tx ht, cut_txto]
      rw [op_div (by omega) (by omega)]
      simp only [wSs, wS, wE, wEs, wT, wTs, wG, wGs, wI, wO, rdV, bind0, d_val, d_own, tru_bl, tru_non, tru_int, tru_lst, tru_tup, ix_l, ix_t, at_0, at_1, at_2, op_add, op_sub, op_mod, op_div, cm_lt, cm_le, cm_gt, cm_ge, List.map_cons, List.map_nil, List.cons_append, List.nil_append, List.length_cons, List.length_nil, List.replicate, List.append_nil, List.set_cons_zero, List.set_cons_succ, List.getElem?_cons_zero, List.getElem?_cons_succ, Option.some.injEq, exists_eq_left', true_and, and_true, if_true, if_false, Bool.false_eq_true, R.val.injEq, D.int.injEq, Nat.zero_add, Nat.reduceAdd, Nat.reduceSub, Nat.reduceLT, Nat.reduceLeDiff, Nat.reduceEqDiff, Bool.not_true, Bool.not_false, Bool.and_true, Bool.true_and, Bool.and_false, Bool.false_and, Int.reduceLT, Int.reduceLE, Int.reduceNeg, Int.reducePow, Int.reduceToNat, Int.reduceMul, Int.reduceSub, Int.reduceAdd, lnV, len_l, len_t, len_sc, bi_ln, bi_abs, bi_max, bi_min, bi_listl, bi_listt, bi_tupl, bi_tupt, bi_intb, bi_inti, bi_all, sl_l, sl_t, cm_is, cm_isnot, is_non, is_bl, cm_eqi, cm_nei, cm_eqs, cm_nes, isTy, Option.map_some, p9, p10, p11, p18, wipeR, backR, List.getD_cons_zero, List.getD_cons_succ]
      have em : opD .mul (.str (tx (t.take d))) (.int ((t.length : Int) / (d : Int))) = some (.val (.str (tx (rep (t.length / d) (t.take d))))) := by
        rw [← Int.natCast_ediv]
        show (if (tx (t.take d)).length ≤ 4096 ∧ (0 : Int) ≤ ((t.length / d : Nat) : Int) ∧ ((t.length / d : Nat) : Int) ≤ 4096 then some (R.val (.str (Txt.mul (tx (t.take d)) ((t.length / d : Nat) : Int)))) else none) = _
        rw [if_pos ⟨by rw [tx_len, List.length_take]; omega, by omega, by omega⟩, mul_tx _ _ q1]
      rw [em]
      simp only [wSs, wS, wE, wEs, wT, wTs, wG, wGs, wI, wO, rdV, bind0, d_val, d_own, tru_bl, tru_non, tru_int, tru_lst, tru_tup, ix_l, ix_t, at_0, at_1, at_2, op_add, op_sub, op_mod, op_div, cm_lt, cm_le, cm_gt, cm_ge, List.map_cons, List.map_nil, List.cons_append, List.nil_append, List.length_cons, List.length_nil, List.replicate, List.append_nil, List.set_cons_zero, List.set_cons_succ, List.getElem?_cons_zero, List.getElem?_cons_succ, Option.some.injEq, exists_eq_left', true_and, and_true, if_true, if_false, Bool.false_eq_true, R.val.injEq, D.int.injEq, Nat.zero_add, Nat.reduceAdd, Nat.reduceSub, Nat.reduceLT, Nat.reduceLeDiff, Nat.reduceEqDiff, Bool.not_true, Bool.not_false, Bool.and_true, Bool.true_and, Bool.and_false, Bool.false_and, Int.reduceLT, Int.reduceLE, Int.reduceNeg, Int.reducePow, Int.reduceToNat, Int.reduceMul, Int.reduceSub, Int.reduceAdd, lnV, len_l, len_t, len_sc, bi_ln, bi_abs, bi_max, bi_min, bi_listl, bi_listt, bi_tupl, bi_tupt, bi_intb, bi_inti, bi_all, sl_l, sl_t, cm_is, cm_isnot, is_non, is_bl, cm_eqi, cm_nei, cm_eqs, cm_nes, isTy, Option.map_some, p9, p10, p11, p18, wipeR, backR, List.getD_cons_zero, List.getD_cons_succ, tx_eq]
      simp only [Int.toNat_natCast] at hk
      by_cases q : rep (t.length / d) (t.take d) = t
      · simp only [q, decide_true, if_true] at hk ⊢
        exact hk
      · simp only [q, decide_false, Bool.false_eq_true, if_false] at hk ⊢
        exact hk
    · rw [List.nil_append, fm_filter (fun d : Nat => D.int (d : Int)) (fun d => decide (rep (t.length / d) (t.take d) = t)) (fun d : Nat => D.str (tx (t.take d))) _ fun d => ?_]
      · have hs : ((upto t.length).filter fun d => decide (t.length % d = 0)).Pairwise (· < ·) := (upto_pw _).filter _
        obtain ⟨a, rest, e, pa, ma, hmin⟩ := first_of (p := fun d => decide (rep (t.length / d) (t.take d) = t)) hs (d := t.length) ((sub _).mpr ⟨hp, Nat.dvd_refl _⟩) (by
          rw [decide_eq_true_eq, Nat.div_self hp, List.take_length]
          simp [rep])
        obtain ⟨a1, a2⟩ := (sub a).mp ma
        rw [decide_eq_true_eq] at pa
        obtain ⟨s1, s2, s3⟩ := shortest_of h0 a1 a2 pa fun b b1 b2 b3 => hmin b ((sub b).mpr ⟨b1, b2⟩) (decide_eq_true b3)
        rw [e, List.map_cons]
        exact ⟨_, at_0, _, s1, s2, s3, rfl⟩
      · rfl
abbrev Ef (l r : List Bool) (low : Int) (m : List Bool) (a e : Int) : PL.Env := [some (.val (.str (tx l))), some (.val (.int low)), some (.val (.str (tx m))), some (.val (.str (tx r))), some (.val (.int a)), some (.val (.int e))]
abbrev Eq (Q : R → Prop) : Ed := { nx := fun _ => False, rt := Q, bk := fun _ => False, ct := fun _ => False, ex := fun _ _ => False }
/-- the last while, and the end -/
theorem c_in_form3 {B : Nat} {T : Sh} {l r : List Bool} {A : Nat} (sl : Side l) (sr : Side r) (er : ∀ n, atT r n = atT T.r n) (hlo : -(B : Int) ≤ T.low) (hhi : T.e ≤ B) (hB : T.m.length ≤ 2000000) (hA : A ≤ T.m.length + 60)
    (h1 : ∀ n : Int, n < T.low + A → T.sg n = atT l n) (h3 : T.sg (T.low + A) ≠ atT l (T.low + A)) (h : ∀ x : Sh, Canon x → (∀ n, x.sg n = T.sg n) → -(B : Int) ≤ x.low → x.e ≤ B + 60 → Q (.val (encS x))) :
    wSs prI.P (Fk (k + 1)) (fd_in_form.body.drop 5) (Ef l r T.low T.m A T.m.length) (Eq Q) := by
  have hlim : lim = 16777216 := rfl
  have he : T.e = T.low + T.m.length := rfl
  have hm : T.m.length ≤ 16777216 := by omega
  refine p_while (n := T.m.length) mk (fun n r1 => ∃ en : Nat, en = n ∧ en ≤ T.m.length ∧ (∀ i : Nat, en ≤ i → i < T.m.length → A ≤ i → T.sg (T.low + i) = atT r (T.low + i)) ∧ r1 = Ef l r T.low T.m A en) ⟨_, rfl, Nat.le_refl _, fun i h1 h2 => by omega, rfl⟩ ?_
  rintro n _ ⟨en, rfl, hen, hsuf, rfl⟩
  have fin : (A < en → T.sg (T.low + en - 1) ≠ atT r (T.low + en - 1)) → wSs prI.P (Fk (k + 1)) (fd_in_form.body.drop 6) (Ef l r T.low T.m A en) (Eq Q) := fun h4 => by
    obtain ⟨c1, c2, c3⟩ := form_ok (T := T) (A := A) (En := en) sl sr h1 (fun n hn => by
      by_cases q : n < T.e
      · have hi : (n - T.low).toNat < T.m.length := by omega
        have e1 : T.low + ((n - T.low).toNat : Int) = n := by omega
        have := hsuf (n - T.low).toNat (by omega) hi (by omega)
        rw [e1] at this
        exact this
      · rw [Sh.sg_r (by omega), er]) h3 h4 hen
    have fn := h _ c1 c2 (by simp only; omega) (by simp only [Sh.e, c3]; omega)
    refine p_retb (x := .val (encS ⟨l, T.low + A, (T.m.drop A).take (max A en - A), r⟩)) mk ?_ fn
    simp only [Ef, wSs, wS, wE, wEs, wT, wTs, wG, wGs, wI, wO, rdV, bind0, d_val, d_own, tru_bl, tru_non, tru_int, tru_lst, tru_tup, ix_l, ix_t, at_0, at_1, at_2, op_add, op_sub, op_mod, op_div, cm_lt, cm_le, cm_gt, cm_ge, List.map_cons, List.map_nil, List.cons_append, List.nil_append, List.length_cons, List.length_nil, List.replicate, List.append_nil, List.set_cons_zero, List.set_cons_succ, List.getElem?_cons_zero, List.getElem?_cons_succ, Option.some.injEq, exists_eq_left', true_and, and_true, if_true, if_false, Bool.false_eq_true, R.val.injEq, D.int.injEq, Nat.zero_add, Nat.reduceAdd, Nat.reduceSub, Nat.reduceLT, Nat.reduceLeDiff, Nat.reduceEqDiff, Bool.not_true, Bool.not_false, Bool.and_true, Bool.true_and, Bool.and_false, Bool.false_and, Int.reduceLT, Int.reduceLE, Int.reduceNeg, Int.reducePow, Int.reduceToNat, Int.reduceMul, Int.reduceSub, Int.reduceAdd, lnV, len_l, len_t, len_sc, bi_ln, bi_abs, bi_max, bi_min, bi_listl, bi_listt, bi_tupl, bi_tupt, bi_intb, bi_inti, bi_all, sl_l, sl_t, cm_is, cm_isnot, is_non, is_bl, cm_eqi, cm_nei, cm_eqs, cm_nes, isTy, Option.map_some, p9, p10, p11, p18, wipeR, backR, List.getD_cons_zero, List.getD_cons_succ, sl_tx hm]
    refine ⟨by decide, ?_⟩
    have emx : (if (en : Int) > (A : Int) then (en : Int) else (A : Int)) = ((max A en : Nat) : Int) := by split <;> omega
    simp only [emx, cut_tx, encS]
  simp only [Ef, wT, wE, wEs, rdV, List.getElem?_cons_zero, List.getElem?_cons_succ, d_val, cm_gt, tru_bl, Option.some.injEq, exists_eq_left']
  by_cases hlt : A < en
  · have e1 : decide ((A : Int) < (en : Int)) = true := decide_eq_true (by omega)
    rw [e1]
    have e0 : ((en : Int) - 1) = ((en - 1 : Nat) : Int) := by omega
    simp only [if_true, op_sub, op_add, Option.some.injEq, exists_eq_left', d_val, e0]
    have hi : en - 1 < T.m.length := by omega
    refine ⟨_, ix_tx hi hm, c_sign_by sr.ne sr.le ?_⟩
    simp only [d_val, d_own, cm_eqs, cm_eqi, tru_bl, Option.some.injEq, exists_eq_left', op_add, op_sub, tx_eq]
    have ep : T.low + (en : Int) - 1 = T.low + ((en - 1 : Nat) : Int) := by omega
    have es := Sh.sg_m (x := T) hi
    by_cases q : T.m[en - 1] = atT r (T.low + (en : Int) - 1)
    · have e2 : decide ([T.m[en - 1]] = [atT r (T.low + (en : Int) - 1)]) = true := decide_eq_true (by rw [q])
      simp only [e2, if_true]
      refine ⟨by omega, ?_⟩
      simp only [wSs, wS, wE, rdV, augD, List.getElem?_cons_zero, List.getElem?_cons_succ, d_val, Option.some.injEq, exists_eq_left', List.set_cons_zero, List.set_cons_succ]
      refine ⟨en - 1, rfl, by omega, fun i h1 h2 h3 => ?_, by rw [e0]⟩
      by_cases hie : en ≤ i
      · exact hsuf i hie h2 h3
      · have : i = en - 1 := by omega
        subst this
        rw [es, q, ep]
    · have e2 : decide ([T.m[en - 1]] = [atT r (T.low + (en : Int) - 1)]) = false := decide_eq_false (by simpa using q)
      simp only [e2, Bool.false_eq_true, if_false]
      refine fin fun _ => ?_
      rw [ep, es, ← ep]
      exact q
  · have e1 : decide ((A : Int) < (en : Int)) = false := decide_eq_false (by omega)
    rw [e1]
    simp only [Bool.false_eq_true, if_false]
    exact fin fun z => absurd z hlt
theorem c_in_form2 {B : Nat} {T : Sh} {l r : List Bool} {a : Nat} (sl : Side l) (sr : Side r) (el : ∀ n, atT l n = atT T.l n) (er : ∀ n, atT r n = atT T.r n) (hlo : -(B : Int) ≤ T.low) (hhi : T.e ≤ B) (hB : T.m.length ≤ 2000000)
    (hpre : ∀ i : Nat, i < a → T.sg (T.low + i) = atT l (T.low + i)) (ha : a ≤ T.m.length) (hstop : a = T.m.length ∨ ∃ hi : a < T.m.length, T.m[a] ≠ atT l (T.low + a)) (h : ∀ x : Sh, Canon x → (∀ n, x.sg n = T.sg n) → -(B : Int) ≤ x.low → x.e ≤ B + 60 → Q (.val (encS x))) :
    wSs prI.P (Fk (k + 1)) (fd_in_form.body.drop 3) (Ef l r T.low T.m a T.m.length) (Eq Q) := by
  have hlim : lim = 16777216 := rfl
  have he : T.e = T.low + T.m.length := rfl
  have left : ∀ n : Int, n < T.low + a → T.sg n = atT l n := fun n hn => by
    by_cases q : n < T.low
    · rw [Sh.sg_l q, el]
    · have := hpre (n - T.low).toNat (by omega)
      rw [show T.low + ((n - T.low).toNat : Int) = n by omega] at this
      exact this
  by_cases hf : a = T.m.length ∧ l = r
  · obtain ⟨rfl, rfl⟩ := hf
    obtain ⟨c1, c2⟩ := form_flat (T := T) sl fun n => by
      by_cases q : n < T.low + (T.m.length : Int)
      · exact left n q
      · rw [Sh.sg_r (by omega), er]
    refine p_ift (r' := Ef l l T.low T.m T.m.length T.m.length) mk ?_ (p_retb (x := .val (encS ⟨l, 0, [], l⟩)) mk ?_ (h _ c1 c2 (by simp only; omega) (by simp only [Sh.e]; simp; omega)))
    · simp only [Ef, wSs, wS, wE, wEs, wT, wTs, wG, wGs, wI, wO, rdV, bind0, d_val, d_own, tru_bl, tru_non, tru_int, tru_lst, tru_tup, ix_l, ix_t, at_0, at_1, at_2, op_add, op_sub, op_mod, op_div, cm_lt, cm_le, cm_gt, cm_ge, List.map_cons, List.map_nil, List.cons_append, List.nil_append, List.length_cons, List.length_nil, List.replicate, List.append_nil, List.set_cons_zero, List.set_cons_succ, List.getElem?_cons_zero, List.getElem?_cons_succ, Option.some.injEq, exists_eq_left', true_and, and_true, if_true, if_false, Bool.false_eq_true, R.val.injEq, D.int.injEq, Nat.zero_add, Nat.reduceAdd, Nat.reduceSub, Nat.reduceLT, Nat.reduceLeDiff, Nat.reduceEqDiff, Bool.not_true, Bool.not_false, Bool.and_true, Bool.true_and, Bool.and_false, Bool.false_and, Int.reduceLT, Int.reduceLE, Int.reduceNeg, Int.reducePow, Int.reduceToNat, Int.reduceMul, Int.reduceSub, Int.reduceAdd, lnV, len_l, len_t, len_sc, bi_ln, bi_abs, bi_max, bi_min, bi_listl, bi_listt, bi_tupl, bi_tupt, bi_intb, bi_inti, bi_all, sl_l, sl_t, cm_is, cm_isnot, is_non, is_bl, cm_eqi, cm_nei, cm_eqs, cm_nes, isTy, Option.map_some, p9, p10, p11, p18, wipeR, backR, List.getD_cons_zero, List.getD_cons_succ, decide_true]
    · simp only [Ef, wSs, wS, wE, wEs, wT, wTs, wG, wGs, wI, wO, rdV, bind0, d_val, d_own, tru_bl, tru_non, tru_int, tru_lst, tru_tup, ix_l, ix_t, at_0, at_1, at_2, op_add, op_sub, op_mod, op_div, cm_lt, cm_le, cm_gt, cm_ge, List.map_cons, List.map_nil, List.cons_append, List.nil_append, List.length_cons, List.length_nil, List.replicate, List.append_nil, List.set_cons_zero, List.set_cons_succ, List.getElem?_cons_zero, List.getElem?_cons_succ, Option.some.injEq, exists_eq_left', true_and, and_true, if_true, if_false, Bool.false_eq_true, R.val.injEq, D.int.injEq, Nat.zero_add, Nat.reduceAdd, Nat.reduceSub, Nat.reduceLT, Nat.reduceLeDiff, Nat.reduceEqDiff, Bool.not_true, Bool.not_false, Bool.and_true, Bool.true_and, Bool.and_false, Bool.false_and, Int.reduceLT, Int.reduceLE, Int.reduceNeg, Int.reducePow, Int.reduceToNat, Int.reduceMul, Int.reduceSub, Int.reduceAdd, lnV, len_l, len_t, len_sc, bi_ln, bi_abs, bi_max, bi_min, bi_listl, bi_listt, bi_tupl, bi_tupt, bi_intb, bi_inti, bi_all, sl_l, sl_t, cm_is, cm_isnot, is_non, is_bl, cm_eqi, cm_nei, cm_eqs, cm_nes, isTy, Option.map_some, p9, p10, p11, p18, wipeR, backR, List.getD_cons_zero, List.getD_cons_succ, encS, tx_nil]
      decide
  · refine p_skip (r' := Ef l r T.low T.m a T.m.length) mk ?_ ?_
    · simp only [Ef, wSs, wS, wE, wEs, wT, wTs, wG, wGs, wI, wO, rdV, bind0, d_val, d_own, tru_bl, tru_non, tru_int, tru_lst, tru_tup, ix_l, ix_t, at_0, at_1, at_2, op_add, op_sub, op_mod, op_div, cm_lt, cm_le, cm_gt, cm_ge, List.map_cons, List.map_nil, List.cons_append, List.nil_append, List.length_cons, List.length_nil, List.replicate, List.append_nil, List.set_cons_zero, List.set_cons_succ, List.getElem?_cons_zero, List.getElem?_cons_succ, Option.some.injEq, exists_eq_left', true_and, and_true, if_true, if_false, Bool.false_eq_true, R.val.injEq, D.int.injEq, Nat.zero_add, Nat.reduceAdd, Nat.reduceSub, Nat.reduceLT, Nat.reduceLeDiff, Nat.reduceEqDiff, Bool.not_true, Bool.not_false, Bool.and_true, Bool.true_and, Bool.and_false, Bool.false_and, Int.reduceLT, Int.reduceLE, Int.reduceNeg, Int.reducePow, Int.reduceToNat, Int.reduceMul, Int.reduceSub, Int.reduceAdd, lnV, len_l, len_t, len_sc, bi_ln, bi_abs, bi_max, bi_min, bi_listl, bi_listt, bi_tupl, bi_tupt, bi_intb, bi_inti, bi_all, sl_l, sl_t, cm_is, cm_isnot, is_non, is_bl, cm_eqi, cm_nei, cm_eqs, cm_nes, isTy, Option.map_some, p9, p10, p11, p18, wipeR, backR, List.getD_cons_zero, List.getD_cons_succ, tx_eq]
      by_cases q : a = T.m.length
      · have nl : l ≠ r := fun z => hf ⟨q, z⟩
        simp [q, nl]
      · have : ¬ ((a : Int) = (T.m.length : Int)) := by omega
        simp [this]
    rcases hstop with q | ⟨hi, hne⟩
    · subst q
      have nl : l ≠ r := fun z => hf ⟨rfl, z⟩
      refine p_while (n := 60) mk (fun n r1 => ∃ A : Nat, T.m.length ≤ A ∧ A + n = T.m.length + 60 ∧ (∀ i : Nat, T.m.length ≤ i → i < A → atT l (T.low + i) = atT r (T.low + i)) ∧ r1 = Ef l r T.low T.m A T.m.length) ⟨T.m.length, Nat.le_refl _, rfl, fun i h1 h2 => by omega, rfl⟩ ?_
      rintro n _ ⟨A, hA1, hA2, hag, rfl⟩
      simp only [Ef, wT, wE, wEs, rdV, List.getElem?_cons_zero, List.getElem?_cons_succ, d_val, cm_ge, tru_bl, Option.some.injEq, exists_eq_left']
      have e1 : decide ((T.m.length : Int) ≤ (A : Int)) = true := decide_eq_true (by omega)
      rw [e1]
      simp only [if_true, op_add, Option.some.injEq, exists_eq_left', d_val]
      refine c_sign_by sl.ne sl.le ?_
      simp only [op_add, Option.some.injEq, exists_eq_left', d_val]
      refine c_sign_by sr.ne sr.le ?_
      simp only [d_val, d_own, cm_eqs, cm_eqi, tru_bl, Option.some.injEq, exists_eq_left', op_add, op_sub, tx_eq]
      by_cases q : atT l (T.low + A) = atT r (T.low + A)
      · have e2 : decide ([atT l (T.low + (A : Int))] = [atT r (T.low + (A : Int))]) = true := decide_eq_true (by rw [q])
        simp only [e2, if_true]
        refine ⟨?_, ?_⟩
        · rcases Nat.eq_zero_or_pos n with z | z
          · refine absurd (window sl sr (T.low + T.m.length) fun i h1 h2 => ?_) nl
            have := hag (i - T.low).toNat (by omega) (by omega)
            rw [show T.low + ((i - T.low).toNat : Int) = i by omega] at this
            exact this
          · exact z
        · simp only [wSs, wS, wE, rdV, augD, List.getElem?_cons_zero, List.getElem?_cons_succ, d_val, Option.some.injEq, exists_eq_left', List.set_cons_zero, List.set_cons_succ]
          refine ⟨A + 1, by omega, ?_, fun i h1 h2 => ?_, by simp⟩
          · rcases Nat.eq_zero_or_pos n with z | z
            · refine absurd (window sl sr (T.low + T.m.length) fun i h1 h2 => ?_) nl
              have := hag (i - T.low).toNat (by omega) (by omega)
              rw [show T.low + ((i - T.low).toNat : Int) = i by omega] at this
              exact this
            · omega
          · by_cases hia : i < A
            · exact hag i h1 hia
            · have : i = A := by omega
              subst this
              exact q
      · have e2 : decide ([atT l (T.low + (A : Int))] = [atT r (T.low + (A : Int))]) = false := decide_eq_false (by simpa using q)
        simp only [e2, Bool.false_eq_true, if_false]
        refine c_in_form3 (T := T) sl sr er hlo hhi hB (by omega) (fun n hn => ?_) ?_ h
        · by_cases z : n < T.low + (T.m.length : Int)
          · exact left n z
          · rw [Sh.sg_r (by omega), ← er]
            have := hag (n - T.low).toNat (by omega) (by omega)
            rw [show T.low + ((n - T.low).toNat : Int) = n by omega] at this
            exact this.symm
        · rw [Sh.sg_r (by omega), ← er]
          exact fun z => q z.symm
    · refine p_while (n := 0) mk (fun n r1 => r1 = Ef l r T.low T.m a T.m.length) rfl ?_
      rintro n _ rfl
      simp only [Ef, wT, wE, wEs, rdV, List.getElem?_cons_zero, List.getElem?_cons_succ, d_val, cm_ge, tru_bl, Option.some.injEq, exists_eq_left']
      have e1 : decide ((T.m.length : Int) ≤ (a : Int)) = false := decide_eq_false (by omega)
      rw [e1]
      simp only [Bool.false_eq_true, if_false]
      refine c_in_form3 (T := T) sl sr er hlo hhi hB (by omega) left ?_ h
      rw [Sh.sg_m hi]
      exact hne
/-- told in any way -/
structure Told (B : Nat) (T : Sh) : Prop where
  l0 : T.l ≠ []
  ld : T.l.length ∣ 60
  r0 : T.r ≠ []
  rd : T.r.length ∣ 60
  lo : -(B : Int) ≤ T.low
  hi : T.e ≤ B
  b : T.m.length ≤ 2000000
theorem dvd60 {a : Nat} (h : a ∣ 60) : a ≤ 60 := Nat.le_of_dvd (by decide) h
theorem c_in_form {B : Nat} {T : Sh} (hT : Told B T) (h : ∀ x : Sh, Canon x → (∀ n, x.sg n = T.sg n) → -(B : Int) ≤ x.low → x.e ≤ B + 60 → Q (.val (encS x))) : Fk (k + 2) i_in_form [.str (tx T.l), .int T.low, .str (tx T.m), .str (tx T.r)] Q E := by
  have hlim : lim = 16777216 := rfl
  obtain ⟨l0, ld, r0, rd, hlo, hhi, hB⟩ := hT
  have hll := dvd60 ld
  have hrl := dvd60 rd
  have he : T.e = T.low + T.m.length := rfl
  have hm : T.m.length ≤ 16777216 := by omega
  refine Fk_at (fd := fd_in_form) rfl rfl ?_
  have two : wEs prI.P (Fk (k + 1)) [(.call i_shortest [(.var 0)]), (.call i_shortest [(.var 3)])] (bind0 fd_in_form [.str (tx T.l), .int T.low, .str (tx T.m), .str (tx T.r)]) (fun ds r1 => ∃ l r, Side l ∧ Side r ∧ (∀ n, atT l n = atT T.l n) ∧ (∀ n, atT r n = atT T.r n) ∧ ds = [.str (tx l), .str (tx r)] ∧ r1 = [some (.val (.str (tx T.l))), some (.val (.int T.low)), some (.val (.str (tx T.m))), some (.val (.str (tx T.r))), none, none]) fun _ _ => False := by
    simp only [fd_in_form, wSs, wS, wE, wEs, wT, wTs, wG, wGs, wI, wO, rdV, bind0, d_val, d_own, tru_bl, tru_non, tru_int, tru_lst, tru_tup, ix_l, ix_t, at_0, at_1, at_2, op_add, op_sub, op_mod, op_div, cm_lt, cm_le, cm_gt, cm_ge, List.map_cons, List.map_nil, List.cons_append, List.nil_append, List.length_cons, List.length_nil, List.replicate, List.append_nil, List.set_cons_zero, List.set_cons_succ, List.getElem?_cons_zero, List.getElem?_cons_succ, Option.some.injEq, exists_eq_left', true_and, and_true, if_true, if_false, Bool.false_eq_true, R.val.injEq, D.int.injEq, Nat.zero_add, Nat.reduceAdd, Nat.reduceSub, Nat.reduceLT, Nat.reduceLeDiff, Nat.reduceEqDiff, Bool.not_true, Bool.not_false, Bool.and_true, Bool.true_and, Bool.and_false, Bool.false_and, Int.reduceLT, Int.reduceLE, Int.reduceNeg, Int.reducePow, Int.reduceToNat, Int.reduceMul, Int.reduceSub, Int.reduceAdd, lnV, len_l, len_t, len_sc, bi_ln, bi_abs, bi_max, bi_min, bi_listl, bi_listt, bi_tupl, bi_tupt, bi_intb, bi_inti, bi_all, sl_l, sl_t, cm_is, cm_isnot, is_non, is_bl, cm_eqi, cm_nei, cm_eqs, cm_nes, isTy, Option.map_some, p9, p10, p11, p18, wipeR, backR, List.getD_cons_zero, List.getD_cons_succ]
    refine c_shortest l0 hll fun l p1 p2 p3 => ?_
    simp only [wSs, wS, wE, wEs, wT, wTs, wG, wGs, wI, wO, rdV, bind0, d_val, d_own, tru_bl, tru_non, tru_int, tru_lst, tru_tup, ix_l, ix_t, at_0, at_1, at_2, op_add, op_sub, op_mod, op_div, cm_lt, cm_le, cm_gt, cm_ge, List.map_cons, List.map_nil, List.cons_append, List.nil_append, List.length_cons, List.length_nil, List.replicate, List.append_nil, List.set_cons_zero, List.set_cons_succ, List.getElem?_cons_zero, List.getElem?_cons_succ, Option.some.injEq, exists_eq_left', true_and, and_true, if_true, if_false, Bool.false_eq_true, R.val.injEq, D.int.injEq, Nat.zero_add, Nat.reduceAdd, Nat.reduceSub, Nat.reduceLT, Nat.reduceLeDiff, Nat.reduceEqDiff, Bool.not_true, Bool.not_false, Bool.and_true, Bool.true_and, Bool.and_false, Bool.false_and, Int.reduceLT, Int.reduceLE, Int.reduceNeg, Int.reducePow, Int.reduceToNat, Int.reduceMul, Int.reduceSub, Int.reduceAdd, lnV, len_l, len_t, len_sc, bi_ln, bi_abs, bi_max, bi_min, bi_listl, bi_listt, bi_tupl, bi_tupt, bi_intb, bi_inti, bi_all, sl_l, sl_t, cm_is, cm_isnot, is_non, is_bl, cm_eqi, cm_nei, cm_eqs, cm_nes, isTy, Option.map_some, p9, p10, p11, p18, wipeR, backR, List.getD_cons_zero, List.getD_cons_succ]
    refine c_shortest r0 hrl fun r q1 q2 q3 => ?_
    exact ⟨l, r, ⟨p1, Nat.dvd_trans p2 ld⟩, ⟨q1, Nat.dvd_trans q2 rd⟩, p3, q3, rfl⟩
  refine p_par2 mk two ?_
  rintro _ _ ⟨l, r, sl, sr, el, er, rfl, rfl⟩
  refine ⟨_, _, rfl, ?_⟩
  have three : wEs prI.P (Fk (k + 1)) [(.cst (.int 0)), (.lenv 2)] [some (.val (.str (tx l))), some (.val (.int T.low)), some (.val (.str (tx T.m))), some (.val (.str (tx r))), none, none] (fun ds r1 => ds = [.int 0, .int (T.m.length : Int)] ∧ r1 = [some (.val (.str (tx l))), some (.val (.int T.low)), some (.val (.str (tx T.m))), some (.val (.str (tx r))), none, none]) fun _ _ => False := by
    simp only [wSs, wS, wE, wEs, wT, wTs, wG, wGs, wI, wO, rdV, bind0, d_val, d_own, tru_bl, tru_non, tru_int, tru_lst, tru_tup, ix_l, ix_t, at_0, at_1, at_2, op_add, op_sub, op_mod, op_div, cm_lt, cm_le, cm_gt, cm_ge, List.map_cons, List.map_nil, List.cons_append, List.nil_append, List.length_cons, List.length_nil, List.replicate, List.append_nil, List.set_cons_zero, List.set_cons_succ, List.getElem?_cons_zero, List.getElem?_cons_succ, Option.some.injEq, exists_eq_left', true_and, and_true, if_true, if_false, Bool.false_eq_true, R.val.injEq, D.int.injEq, Nat.zero_add, Nat.reduceAdd, Nat.reduceSub, Nat.reduceLT, Nat.reduceLeDiff, Nat.reduceEqDiff, Bool.not_true, Bool.not_false, Bool.and_true, Bool.true_and, Bool.and_false, Bool.false_and, Int.reduceLT, Int.reduceLE, Int.reduceNeg, Int.reducePow, Int.reduceToNat, Int.reduceMul, Int.reduceSub, Int.reduceAdd, lnV, len_l, len_t, len_sc, bi_ln, bi_abs, bi_max, bi_min, bi_listl, bi_listt, bi_tupl, bi_tupt, bi_intb, bi_inti, bi_all, sl_l, sl_t, cm_is, cm_isnot, is_non, is_bl, cm_eqi, cm_nei, cm_eqs, cm_nes, isTy, Option.map_some, p9, p10, p11, p18, wipeR, backR, List.getD_cons_zero, List.getD_cons_succ, len_tx hm]
  refine p_par2 mk three ?_
  rintro _ _ ⟨rfl, rfl⟩
  refine ⟨_, _, rfl, ?_⟩
  have tsg : ∀ i : Nat, (hi : i < T.m.length) → T.sg (T.low + i) = T.m[i] := fun i hi => Sh.sg_m hi
  -- the first while
  refine p_while (n := T.m.length) mk (fun n r1 => ∃ a : Nat, a + n = T.m.length ∧ (∀ i, i < a → T.sg (T.low + i) = atT l (T.low + i)) ∧ r1 = [some (.val (.str (tx l))), some (.val (.int T.low)), some (.val (.str (tx T.m))), some (.val (.str (tx r))), some (.val (.int (a : Int))), some (.val (.int (T.m.length : Int)))]) ⟨0, by omega, fun i hi => by omega, rfl⟩ ?_
  rintro n r1 ⟨a, han, hpre, rfl⟩
  have same : ∀ (x y : Str), decide (x = y) = decide (x = y) := fun _ _ => rfl
  have rest : (a = T.m.length ∨ ∃ hi : a < T.m.length, T.m[a] ≠ atT l (T.low + a)) → wSs prI.P (Fk (k + 1)) (fd_in_form.body.drop 3) (Ef l r T.low T.m a T.m.length) (Eq Q) := fun hstop => c_in_form2 (k := k) sl sr el er hlo hhi hB hpre (by omega) hstop h
  · have up : EdLe { nx := fun _ => False, rt := Q, bk := fun _ => False, ct := fun _ => False, ex := fun _ _ => False } { nx := fun _ => Q (.val .non), rt := Q, bk := fun _ => False, ct := fun _ => False, ex := fun x _ => E x } := ⟨fun _ z => z.elim, fun _ z => z, fun _ z => z, fun _ z => z, fun _ _ z => z.elim⟩
    simp only [wT, wE, wEs, rdV, List.getElem?_cons_zero, List.getElem?_cons_succ, d_val, cm_lt, tru_bl, Option.some.injEq, exists_eq_left']
    by_cases hlt : a < T.m.length
    · have e1 : decide ((a : Int) < (T.m.length : Int)) = true := decide_eq_true (by omega)
      rw [e1]
      simp only [if_true]
      refine ⟨_, ix_tx hlt hm, ?_⟩
      simp only [d_val, d_own, cm_eqs, cm_eqi, tru_bl, Option.some.injEq, exists_eq_left', op_add, op_sub, tx_eq]
      refine c_sign_by sl.ne sl.le ?_
      simp only [d_val, d_own, cm_eqs, cm_eqi, tru_bl, Option.some.injEq, exists_eq_left', op_add, op_sub, tx_eq]
      by_cases q : T.m[a] = atT l (T.low + a)
      · have e2 : decide ([T.m[a]] = [atT l (T.low + a)]) = true := decide_eq_true (by rw [q])
        simp only [e2, if_true]
        refine ⟨by omega, ?_⟩
        simp only [wSs, wS, wE, rdV, augD, List.getElem?_cons_zero, List.getElem?_cons_succ, d_val, Option.some.injEq, exists_eq_left', List.set_cons_zero, List.set_cons_succ]
        refine ⟨a + 1, by omega, fun i hi => ?_, by simp⟩
        by_cases hia : i < a
        · exact hpre i hia
        · have : i = a := by omega
          subst this
          rw [tsg i hlt, q]
      · have e2 : decide ([T.m[a]] = [atT l (T.low + a)]) = false := decide_eq_false (by simpa using q)
        simp only [e2, Bool.false_eq_true, if_false]
        exact monoSs mk _ up (rest (.inr ⟨hlt, q⟩))
    · have e1 : decide ((a : Int) < (T.m.length : Int)) = false := decide_eq_false (by omega)
      rw [e1]
      simp only [Bool.false_eq_true, if_false]
      exact monoSs mk _ up (rest (.inl (by omega)))
end
end K12
set_option maxHeartbeats 3900000
namespace K12
open PySem PL
/-- a shape within bounds -/
structure Shp (B : Nat) (x : Sh) : Prop where
  c : Canon x
  lo : -(B : Int) ≤ x.low
  hi : x.e ≤ B
theorem Shp.mono {B C : Nat} {x : Sh} (h : Shp B x) (l : B ≤ C) : Shp C x := ⟨h.c, by have := h.lo; omega, by have := h.hi; omega⟩
theorem Shp.ml {B : Nat} {x : Sh} (h : Shp B x) : x.m.length ≤ 2 * B := by
  have h1 := h.lo
  have h2 := h.hi
  unfold Sh.e at h2
  omega
section
variable {k : Nat} {Q : R → Prop} {E : Xc → Prop}
theorem c_sign_of {B : Nat} {x : Sh} {n : Int} (hx : Shp B x) (hB : B ≤ 1000000) (h : Q (.val (.str (tx [x.sg n])))) : Fk (k + 2) i_sign_of [encS x, .int n] Q E := by
  have hlim : lim = 16777216 := rfl
  have hml := hx.ml
  have hm : x.m.length ≤ 16777216 := by omega
  have sl := hx.c.hl
  have sr := hx.c.hr
  refine Fk_at (fd := fd_sign_of) rfl rfl ?_
  refine p_asg mk (fun y r1 => y = .val (encS x) ∧ r1 = [some (.val (encS x)), some (.val (.int n)), none, none, none, none]) ?_ ?_
  · simp only [fd_sign_of, wSs, wS, wE, wEs, wT, wTs, wG, wGs, wI, wO, rdV, bind0, d_val, d_own, tru_bl, tru_non, tru_int, tru_lst, tru_tup, ix_l, ix_t, at_0, at_1, at_2, op_add, op_sub, op_mod, op_div, cm_lt, cm_le, cm_gt, cm_ge, List.map_cons, List.map_nil, List.cons_append, List.nil_append, List.length_cons, List.length_nil, List.replicate, List.append_nil, List.set_cons_zero, List.set_cons_succ, List.getElem?_cons_zero, List.getElem?_cons_succ, Option.some.injEq, exists_eq_left', true_and, and_true, if_true, if_false, Bool.false_eq_true, R.val.injEq, D.int.injEq, Nat.zero_add, Nat.reduceAdd, Nat.reduceSub, Nat.reduceLT, Nat.reduceLeDiff, Nat.reduceEqDiff, Bool.not_true, Bool.not_false, Bool.and_true, Bool.true_and, Bool.and_false, Bool.false_and, Int.reduceLT, Int.reduceLE, Int.reduceNeg, Int.reducePow, Int.reduceToNat, Int.reduceMul, Int.reduceSub, Int.reduceAdd, lnV, len_l, len_t, len_sc, bi_ln, bi_abs, bi_max, bi_min, bi_listl, bi_listt, bi_tupl, bi_tupt, bi_intb, bi_inti, bi_all, sl_l, sl_t, cm_is, cm_isnot, is_non, is_bl, cm_eqi, cm_nei, cm_eqs, cm_nes, isTy, Option.map_some, p9, p10, p11, p18, wipeR, backR, List.getD_cons_zero, List.getD_cons_succ]
  rintro _ _ ⟨rfl, rfl⟩
  simp only [encS, wG, wGs, d_val, List.length_cons, List.length_nil, List.set_cons_zero, List.set_cons_succ, true_and, Nat.zero_add, Nat.reduceAdd, Nat.reduceLT]
  by_cases q1 : n < x.low
  · refine p_ift (r' := [some (.val (encS x)), some (.val (.int n)), some (.val (.str (tx x.l))), some (.val (.int x.low)), some (.val (.str (tx x.m))), some (.val (.str (tx x.r)))]) mk ?_ ?_
    · simp only [encS, wSs, wS, wE, wEs, wT, wTs, wG, wGs, wI, wO, rdV, bind0, d_val, d_own, tru_bl, tru_non, tru_int, tru_lst, tru_tup, ix_l, ix_t, at_0, at_1, at_2, op_add, op_sub, op_mod, op_div, cm_lt, cm_le, cm_gt, cm_ge, List.map_cons, List.map_nil, List.cons_append, List.nil_append, List.length_cons, List.length_nil, List.replicate, List.append_nil, List.set_cons_zero, List.set_cons_succ, List.getElem?_cons_zero, List.getElem?_cons_succ, Option.some.injEq, exists_eq_left', true_and, and_true, if_true, if_false, Bool.false_eq_true, R.val.injEq, D.int.injEq, Nat.zero_add, Nat.reduceAdd, Nat.reduceSub, Nat.reduceLT, Nat.reduceLeDiff, Nat.reduceEqDiff, Bool.not_true, Bool.not_false, Bool.and_true, Bool.true_and, Bool.and_false, Bool.false_and, Int.reduceLT, Int.reduceLE, Int.reduceNeg, Int.reducePow, Int.reduceToNat, Int.reduceMul, Int.reduceSub, Int.reduceAdd, lnV, len_l, len_t, len_sc, bi_ln, bi_abs, bi_max, bi_min, bi_listl, bi_listt, bi_tupl, bi_tupt, bi_intb, bi_inti, bi_all, sl_l, sl_t, cm_is, cm_isnot, is_non, is_bl, cm_eqi, cm_nei, cm_eqs, cm_nes, isTy, Option.map_some, p9, p10, p11, p18, wipeR, backR, List.getD_cons_zero, List.getD_cons_succ, q1, decide_true]
    · simp only [encS, wSs, wS, wE, wEs, rdV, List.getElem?_cons_zero, List.getElem?_cons_succ, d_val]
      refine c_sign_by sl.ne sl.le ?_
      rw [← Sh.sg_l q1]
      exact h
  · refine p_skip (r' := [some (.val (encS x)), some (.val (.int n)), some (.val (.str (tx x.l))), some (.val (.int x.low)), some (.val (.str (tx x.m))), some (.val (.str (tx x.r)))]) mk ?_ ?_
    · simp only [encS, wSs, wS, wE, wEs, wT, wTs, wG, wGs, wI, wO, rdV, bind0, d_val, d_own, tru_bl, tru_non, tru_int, tru_lst, tru_tup, ix_l, ix_t, at_0, at_1, at_2, op_add, op_sub, op_mod, op_div, cm_lt, cm_le, cm_gt, cm_ge, List.map_cons, List.map_nil, List.cons_append, List.nil_append, List.length_cons, List.length_nil, List.replicate, List.append_nil, List.set_cons_zero, List.set_cons_succ, List.getElem?_cons_zero, List.getElem?_cons_succ, Option.some.injEq, exists_eq_left', true_and, and_true, if_true, if_false, Bool.false_eq_true, R.val.injEq, D.int.injEq, Nat.zero_add, Nat.reduceAdd, Nat.reduceSub, Nat.reduceLT, Nat.reduceLeDiff, Nat.reduceEqDiff, Bool.not_true, Bool.not_false, Bool.and_true, Bool.true_and, Bool.and_false, Bool.false_and, Int.reduceLT, Int.reduceLE, Int.reduceNeg, Int.reducePow, Int.reduceToNat, Int.reduceMul, Int.reduceSub, Int.reduceAdd, lnV, len_l, len_t, len_sc, bi_ln, bi_abs, bi_max, bi_min, bi_listl, bi_listt, bi_tupl, bi_tupt, bi_intb, bi_inti, bi_all, sl_l, sl_t, cm_is, cm_isnot, is_non, is_bl, cm_eqi, cm_nei, cm_eqs, cm_nes, isTy, Option.map_some, p9, p10, p11, p18, wipeR, backR, List.getD_cons_zero, List.getD_cons_succ, q1, decide_false]
    · by_cases q2 : n < x.e
      · have e2 : decide (n < x.low + (x.m.length : Int)) = true := decide_eq_true q2
        simp only [encS, wSs, wS, wE, wEs, wT, wTs, wG, wGs, wI, wO, rdV, bind0, d_val, d_own, tru_bl, tru_non, tru_int, tru_lst, tru_tup, ix_l, ix_t, at_0, at_1, at_2, op_add, op_sub, op_mod, op_div, cm_lt, cm_le, cm_gt, cm_ge, List.map_cons, List.map_nil, List.cons_append, List.nil_append, List.length_cons, List.length_nil, List.replicate, List.append_nil, List.set_cons_zero, List.set_cons_succ, List.getElem?_cons_zero, List.getElem?_cons_succ, Option.some.injEq, exists_eq_left', true_and, and_true, if_true, if_false, Bool.false_eq_true, R.val.injEq, D.int.injEq, Nat.zero_add, Nat.reduceAdd, Nat.reduceSub, Nat.reduceLT, Nat.reduceLeDiff, Nat.reduceEqDiff, Bool.not_true, Bool.not_false, Bool.and_true, Bool.true_and, Bool.and_false, Bool.false_and, Int.reduceLT, Int.reduceLE, Int.reduceNeg, Int.reducePow, Int.reduceToNat, Int.reduceMul, Int.reduceSub, Int.reduceAdd, lnV, len_l, len_t, len_sc, bi_ln, bi_abs, bi_max, bi_min, bi_listl, bi_listt, bi_tupl, bi_tupt, bi_intb, bi_inti, bi_all, sl_l, sl_t, cm_is, cm_isnot, is_non, is_bl, cm_eqi, cm_nei, cm_eqs, cm_nes, isTy, Option.map_some, p9, p10, p11, p18, wipeR, backR, List.getD_cons_zero, List.getD_cons_succ, len_tx hm, e2]
        unfold Sh.e at q2
        have hi : (n - x.low).toNat < x.m.length := by omega
        have e := ix_tx (a := x.m) hi hm
        rw [Int.toNat_of_nonneg (by omega)] at e
        refine ⟨_, e, ?_⟩
        have := Sh.sg_m (x := x) hi
        rw [show x.low + ((n - x.low).toNat : Int) = n by omega] at this
        rw [← this]
        exact h
      · have e2 : decide (n < x.low + (x.m.length : Int)) = false := decide_eq_false q2
        simp only [encS, wSs, wS, wE, wEs, wT, wTs, wG, wGs, wI, wO, rdV, bind0, d_val, d_own, tru_bl, tru_non, tru_int, tru_lst, tru_tup, ix_l, ix_t, at_0, at_1, at_2, op_add, op_sub, op_mod, op_div, cm_lt, cm_le, cm_gt, cm_ge, List.map_cons, List.map_nil, List.cons_append, List.nil_append, List.length_cons, List.length_nil, List.replicate, List.append_nil, List.set_cons_zero, List.set_cons_succ, List.getElem?_cons_zero, List.getElem?_cons_succ, Option.some.injEq, exists_eq_left', true_and, and_true, if_true, if_false, Bool.false_eq_true, R.val.injEq, D.int.injEq, Nat.zero_add, Nat.reduceAdd, Nat.reduceSub, Nat.reduceLT, Nat.reduceLeDiff, Nat.reduceEqDiff, Bool.not_true, Bool.not_false, Bool.and_true, Bool.true_and, Bool.and_false, Bool.false_and, Int.reduceLT, Int.reduceLE, Int.reduceNeg, Int.reducePow, Int.reduceToNat, Int.reduceMul, Int.reduceSub, Int.reduceAdd, lnV, len_l, len_t, len_sc, bi_ln, bi_abs, bi_max, bi_min, bi_listl, bi_listt, bi_tupl, bi_tupt, bi_intb, bi_inti, bi_all, sl_l, sl_t, cm_is, cm_isnot, is_non, is_bl, cm_eqi, cm_nei, cm_eqs, cm_nes, isTy, Option.map_some, p9, p10, p11, p18, wipeR, backR, List.getD_cons_zero, List.getD_cons_succ, len_tx hm, e2]
        refine c_sign_by sr.ne sr.le ?_
        rw [← Sh.sg_r (by omega)]
        exact h
theorem c_end_of {B : Nat} {x : Sh} (hx : Shp B x) (hB : B ≤ 1000000) (h : Q (.val (.int x.e))) : Fk (k + 1) i_end_of [encS x] Q E := by
  have hml := hx.ml
  have hm : x.m.length ≤ 16777216 := by omega
  refine Fk_at (fd := fd_end_of) rfl rfl ?_
  simp only [fd_end_of, encS, wSs, wS, wE, wEs, wT, wTs, wG, wGs, wI, wO, rdV, bind0, d_val, d_own, tru_bl, tru_non, tru_int, tru_lst, tru_tup, ix_l, ix_t, at_0, at_1, at_2, op_add, op_sub, op_mod, op_div, cm_lt, cm_le, cm_gt, cm_ge, List.map_cons, List.map_nil, List.cons_append, List.nil_append, List.length_cons, List.length_nil, List.replicate, List.append_nil, List.set_cons_zero, List.set_cons_succ, List.getElem?_cons_zero, List.getElem?_cons_succ, Option.some.injEq, exists_eq_left', true_and, and_true, if_true, if_false, Bool.false_eq_true, R.val.injEq, D.int.injEq, Nat.zero_add, Nat.reduceAdd, Nat.reduceSub, Nat.reduceLT, Nat.reduceLeDiff, Nat.reduceEqDiff, Bool.not_true, Bool.not_false, Bool.and_true, Bool.true_and, Bool.and_false, Bool.false_and, Int.reduceLT, Int.reduceLE, Int.reduceNeg, Int.reducePow, Int.reduceToNat, Int.reduceMul, Int.reduceSub, Int.reduceAdd, lnV, len_l, len_t, len_sc, bi_ln, bi_abs, bi_max, bi_min, bi_listl, bi_listt, bi_tupl, bi_tupt, bi_intb, bi_inti, bi_all, sl_l, sl_t, cm_is, cm_isnot, is_non, is_bl, cm_eqi, cm_nei, cm_eqs, cm_nes, isTy, Option.map_some, p9, p10, p11, p18, wipeR, backR, List.getD_cons_zero, List.getD_cons_succ, len_tx hm]
  exact h
theorem c_round_of {a b : Nat} (ha : 0 < a) (hb : 0 < b) (ha60 : a ∣ 60) (hb60 : b ∣ 60) (h : ∀ c : Nat, 0 < c → c ∣ 60 → a ∣ c → b ∣ c → Q (.val (.int (c : Int)))) : Fk (k + 1) i_round_of [.int (a : Int), .int (b : Int)] Q E := by
  refine Fk_at (fd := fd_round_of) rfl rfl (p_asg mk (fun y r1 => y = .val (.int (a : Int)) ∧ r1 = [some (.val (.int (a : Int))), some (.val (.int (b : Int))), none]) ?_ ?_)
  · simp only [fd_round_of, wSs, wS, wE, wEs, wT, wTs, wG, wGs, wI, wO, rdV, bind0, d_val, d_own, tru_bl, tru_non, tru_int, tru_lst, tru_tup, ix_l, ix_t, at_0, at_1, at_2, op_add, op_sub, op_mod, op_div, cm_lt, cm_le, cm_gt, cm_ge, List.map_cons, List.map_nil, List.cons_append, List.nil_append, List.length_cons, List.length_nil, List.replicate, List.append_nil, List.set_cons_zero, List.set_cons_succ, List.getElem?_cons_zero, List.getElem?_cons_succ, Option.some.injEq, exists_eq_left', true_and, and_true, if_true, if_false, Bool.false_eq_true, R.val.injEq, D.int.injEq, Nat.zero_add, Nat.reduceAdd, Nat.reduceSub, Nat.reduceLT, Nat.reduceLeDiff, Nat.reduceEqDiff, Bool.not_true, Bool.not_false, Bool.and_true, Bool.true_and, Bool.and_false, Bool.false_and, Int.reduceLT, Int.reduceLE, Int.reduceNeg, Int.reducePow, Int.reduceToNat, Int.reduceMul, Int.reduceSub, Int.reduceAdd, lnV, len_l, len_t, len_sc, bi_ln, bi_abs, bi_max, bi_min, bi_listl, bi_listt, bi_tupl, bi_tupt, bi_intb, bi_inti, bi_all, sl_l, sl_t, cm_is, cm_isnot, is_non, is_bl, cm_eqi, cm_nei, cm_eqs, cm_nes, isTy, Option.map_some, p9, p10, p11, p18, wipeR, backR, List.getD_cons_zero, List.getD_cons_succ]
  rintro _ _ ⟨rfl, rfl⟩
  obtain ⟨w, hw⟩ := ha60
  have wp : 0 < w := by
    rcases Nat.eq_zero_or_pos w with z | z
    · subst z; simp at hw
    · exact z
  refine ⟨Nat.le_of_ble_eq_true rfl, p_while (n := w - 1) mk (fun n r1 => ∃ j : Nat, 1 ≤ j ∧ j + n = w ∧ (∀ i, 1 ≤ i → i < j → ¬ b ∣ a * i) ∧ r1 = [some (.val (.int (a : Int))), some (.val (.int (b : Int))), some (.val (.int ((a * j : Nat) : Int)))]) ⟨1, by omega, by omega, fun i h1 h2 => by omega, by simp⟩ ?_⟩
  rintro n _ ⟨j, hj, hjn, hno, rfl⟩
  simp only [wT, wE, wEs, rdV, List.getElem?_cons_zero, List.getElem?_cons_succ, d_val]
  rw [op_mod (by omega)]
  simp only [cm_nei, tru_bl, d_val, Option.some.injEq, exists_eq_left']
  have em : (((a * j : Nat) : Int) % (b : Int) = 0) ↔ b ∣ a * j := by
    rw [← Int.natCast_emod, Nat.dvd_iff_mod_eq_zero]; omega
  by_cases q : b ∣ a * j
  · have e2 : decide (((a * j : Nat) : Int) % (b : Int) = 0) = true := decide_eq_true (em.mpr q)
    simp only [e2, Bool.not_true, Bool.false_eq_true, if_false]
    refine p_retb mk (x := .val (.int ((a * j : Nat) : Int))) ?_ (h _ (Nat.mul_pos ha hj) ?_ (Nat.dvd_mul_right a j) q)
    · simp only [wSs, wS, wE, wEs, wT, wTs, wG, wGs, wI, wO, rdV, bind0, d_val, d_own, tru_bl, tru_non, tru_int, tru_lst, tru_tup, ix_l, ix_t, at_0, at_1, at_2, op_add, op_sub, op_mod, op_div, cm_lt, cm_le, cm_gt, cm_ge, List.map_cons, List.map_nil, List.cons_append, List.nil_append, List.length_cons, List.length_nil, List.replicate, List.append_nil, List.set_cons_zero, List.set_cons_succ, List.getElem?_cons_zero, List.getElem?_cons_succ, Option.some.injEq, exists_eq_left', true_and, and_true, if_true, if_false, Bool.false_eq_true, R.val.injEq, D.int.injEq, Nat.zero_add, Nat.reduceAdd, Nat.reduceSub, Nat.reduceLT, Nat.reduceLeDiff, Nat.reduceEqDiff, Bool.not_true, Bool.not_false, Bool.and_true, Bool.true_and, Bool.and_false, Bool.false_and, Int.reduceLT, Int.reduceLE, Int.reduceNeg, Int.reducePow, Int.reduceToNat, Int.reduceMul, Int.reduceSub, Int.reduceAdd, lnV, len_l, len_t, len_sc, bi_ln, bi_abs, bi_max, bi_min, bi_listl, bi_listt, bi_tupl, bi_tupt, bi_intb, bi_inti, bi_all, sl_l, sl_t, cm_is, cm_isnot, is_non, is_bl, cm_eqi, cm_nei, cm_eqs, cm_nes, isTy, Option.map_some, p9, p10, p11, p18, wipeR, backR, List.getD_cons_zero, List.getD_cons_succ]
    · -- the least common one goes into sixty
      have hl : b ∣ a * w := by rw [← hw]; exact hb60
      have key : j ∣ w := by
        -- j is the least with b ∣ a * j
        have hm : b ∣ a * (w % j) := by
          have e : a * w = a * (w % j) + a * j * (w / j) := by
            have := Nat.mod_add_div w j
            rw [Nat.mul_assoc, ← Nat.mul_add, this]
          rw [e] at hl
          exact (Nat.dvd_add_iff_left (Nat.dvd_trans q (Nat.dvd_mul_right _ _))).mpr hl
        rcases Nat.eq_zero_or_pos (w % j) with z | z
        · exact Nat.dvd_of_mod_eq_zero z
        · exact absurd hm (hno _ z (Nat.mod_lt _ hj))
      rw [hw]
      exact Nat.mul_dvd_mul_left a key
  · have e2 : decide (((a * j : Nat) : Int) % (b : Int) = 0) = false := decide_eq_false fun z => q (em.mp z)
    simp only [e2, Bool.not_false, if_true]
    have hn : 0 < n := by
      rcases Nat.eq_zero_or_pos n with z | z
      · refine absurd ?_ q
        have : j = w := by omega
        rw [this, ← hw]
        exact hb60
      · exact z
    refine ⟨hn, ?_⟩
    simp only [wSs, wS, wE, rdV, augD, List.getElem?_cons_zero, List.getElem?_cons_succ, d_val, Option.some.injEq, exists_eq_left', List.set_cons_zero, List.set_cons_succ]
    refine ⟨j + 1, by omega, by omega, fun i h1 h2 => ?_, ?_⟩
    · by_cases hij : i < j
      · exact hno i h1 hij
      · have : i = j := by omega
        subst this
        exact q
    · have : ((a * j : Nat) : Int) + (a : Int) = ((a * (j + 1) : Nat) : Int) := by rw [Nat.mul_add, Nat.mul_one]; omega
      rw [this]
/-- which two signs fit -/
def Ft (ft : D) (f : Bool → Bool → Bool) : Prop := ∀ a b, cmD .isin (.str (tx [a, b])) ft = some (f a b)
theorem c_mark {a b : Bool} {ft : D} {f : Bool → Bool → Bool} (hf : Ft ft f) (h : Q (.val (.str (tx [f a b])))) : Fk (k + 1) i_mark [.str (tx [a, b]), ft] Q E := by
  refine Fk_at (fd := fd_mark) rfl rfl ?_
  simp only [fd_mark, wSs, wS, wE, wEs, rdV, bind0, d_val, List.map_cons, List.map_nil, List.cons_append, List.nil_append, List.length_cons, List.length_nil, List.getElem?_cons_zero, List.getElem?_cons_succ, hf a b, Option.some.injEq, exists_eq_left', bi_intb]
  refine ⟨.str (tx [false, true]), by rw [tx_01]; kernel_rfl, ?_⟩
  revert h
  cases f a b <;> intro h
  · exact ⟨_, ix_tx (a := [false, true]) (i := 0) (by decide) (by decide), h⟩
  · exact ⟨_, ix_tx (a := [false, true]) (i := 1) (by decide) (by decide), h⟩
theorem op_tx2 (a b : Bool) : opD .add (.str (tx [a])) (.str (tx [b])) = some (.val (.str (tx [a, b]))) := by
  rw [op_adds (by rw [tx_len, tx_len]; show 2 ≤ lim; decide), tx_app]
  rfl
theorem c_by_signs {B : Nat} {x y : Sh} {ft : D} {f : Bool → Bool → Bool} (hx : Shp B x) (hy : Shp B y) (hB : B ≤ 100000) (hf : Ft ft f) (h : ∀ z : Sh, Shp (B + 60) z → (∀ n, z.sg n = f (x.sg n) (y.sg n)) → Q (.val (encS z))) : Fk (k + 4) i_by_signs [encS x, encS y, ft] Q E := by
  have hlim : lim = 16777216 := rfl
  have hxl := hx.lo
  have hxh := hx.hi
  have hyl := hy.lo
  have hyh := hy.hi
  have sxl := hx.c.hl
  have sxr := hx.c.hr
  have syl := hy.c.hl
  have syr := hy.c.hr
  have hex : x.e = x.low + x.m.length := rfl
  have hey : y.e = y.low + y.m.length := rfl
  have t16 : ∀ {t : List Bool}, Side t → t.length ≤ 16777216 := fun hs => by have := hs.le; omega
  refine Fk_at (fd := fd_by_signs) rfl rfl ?_
  have one : wEs prI.P (Fk (k + 3)) [(.bi .min [(.ix (.var 0) (.cst (.int 1))), (.ix (.var 1) (.cst (.int 1)))]), (.bi .max [(.call i_end_of [(.var 0)]), (.call i_end_of [(.var 1)])])] (bind0 fd_by_signs [encS x, encS y, ft]) (fun ds r1 => ds = [.int (min x.low y.low), .int (max x.e y.e)] ∧ r1 = [some (.val (encS x)), some (.val (encS y)), some (.val ft), none, none, none, none, none, none, none, none, none]) fun _ _ => False := by
    have e0 : ∀ z : Sh, ixD (encS z) (.int 1) = some (.int z.low) := fun z => by unfold encS; rw [ix_t]; exact at_1
    simp only [fd_by_signs, bind0, wEs, wE, rdV, List.map_cons, List.map_nil, List.cons_append, List.nil_append, List.length_cons, List.length_nil, List.getElem?_cons_zero, List.getElem?_cons_succ, d_val, e0, Option.some.injEq, exists_eq_left', bi_min]
    refine c_end_of hx (by omega) ?_
    refine c_end_of hy (by omega) ?_
    simp only [d_val, bi_max, Option.some.injEq, exists_eq_left']
    have m1 : (if y.low < x.low then y.low else x.low) = min x.low y.low := by split <;> omega
    have m2 : (if y.e > x.e then y.e else x.e) = max x.e y.e := by split <;> omega
    rw [m1, m2]
    exact ⟨rfl, rfl⟩
  refine p_par2 mk one ?_
  rintro _ _ ⟨rfl, rfl⟩
  refine ⟨_, _, rfl, ?_⟩
  have gx : ∀ (g : Int → Bool) (lo : Int) (c : Nat), (tabB lo c g).length = c := fun g lo c => tab_len lo c g
  refine p_asg mk (fun v r1 => v = .val (.str (tx (tabB (min x.low y.low) (max x.e y.e - min x.low y.low).toNat fun n => f (x.sg n) (y.sg n)))) ∧ r1 = [some (.val (encS x)), some (.val (encS y)), some (.val ft), some (.val (.int (min x.low y.low))), some (.val (.int (max x.e y.e))), none, none, none, none, none, none, none]) ?_ ?_
  · have mj : ∀ a, mtTy .join (.str a) = true := fun _ => rfl
    simp only [wE, wEs, wI, rdV, List.getElem?_cons_zero, List.getElem?_cons_succ, List.set_cons_zero, List.set_cons_succ, d_val, mj, true_and]
    refine ⟨_, _, rfl, rfl, by omega, by omega, by omega, by omega, fun v hv ds => by simp at hv; subst hv; simp, ?_⟩
    refine lc_map (mapS fun n => f (x.sg n) (y.sg n)) (by rw [rng_len]; omega) (fun d hd kk hk => ?_) ?_
    · obtain ⟨j, _, _, rfl⟩ := rng_mem hd
      simp only [wipeR, wG, wTs, wE, wEs, rdV, List.getElem?_cons_zero, List.getElem?_cons_succ, List.set_cons_zero, List.set_cons_succ, d_val, if_true, List.length_cons, List.length_nil]
      refine ⟨by decide, ?_⟩
      refine c_sign_of hx (by omega) ?_
      refine c_sign_of hy (by omega) ?_
      simp only [d_val, op_tx2, Option.some.injEq, exists_eq_left']
      exact c_mark hf hk
    · rw [rng_tab (fun n => f (x.sg n) (y.sg n))]
      simp only [d_own, join_ok (show (tabB (min x.low y.low) (max x.e y.e - min x.low y.low).toNat fun n => f (x.sg n) (y.sg n)).length ≤ 16777216 by rw [tab_len]; omega), Option.some.injEq, exists_eq_left', wipeR, backR, List.set_cons_zero, List.set_cons_succ, List.getD_cons_zero, List.getD_cons_succ]
      exact ⟨trivial, trivial⟩
  rintro _ _ ⟨rfl, rfl⟩
  refine ⟨Nat.le_of_ble_eq_true rfl, p_asg mk (fun v r1 => v = .own [] ∧ r1 = [some (.val (encS x)), some (.val (encS y)), some (.val ft), some (.val (.int (min x.low y.low))), some (.val (.int (max x.e y.e))), some (.val (.str (tx (tabB (min x.low y.low) (max x.e y.e - min x.low y.low).toNat fun n => f (x.sg n) (y.sg n))))), none, none, none, none, none, none]) ?_ ?_⟩
  · simp only [wSs, wS, wE, wEs, wT, wTs, wG, wGs, wI, wO, rdV, bind0, d_val, d_own, tru_bl, tru_non, tru_int, tru_lst, tru_tup, ix_l, ix_t, at_0, at_1, at_2, op_add, op_sub, op_mod, op_div, cm_lt, cm_le, cm_gt, cm_ge, List.map_cons, List.map_nil, List.cons_append, List.nil_append, List.length_cons, List.length_nil, List.replicate, List.append_nil, List.set_cons_zero, List.set_cons_succ, List.getElem?_cons_zero, List.getElem?_cons_succ, Option.some.injEq, exists_eq_left', true_and, and_true, if_true, if_false, Bool.false_eq_true, R.val.injEq, D.int.injEq, Nat.zero_add, Nat.reduceAdd, Nat.reduceSub, Nat.reduceLT, Nat.reduceLeDiff, Nat.reduceEqDiff, Bool.not_true, Bool.not_false, Bool.and_true, Bool.true_and, Bool.and_false, Bool.false_and, Int.reduceLT, Int.reduceLE, Int.reduceNeg, Int.reducePow, Int.reduceToNat, Int.reduceMul, Int.reduceSub, Int.reduceAdd, lnV, len_l, len_t, len_sc, bi_ln, bi_abs, bi_max, bi_min, bi_listl, bi_listt, bi_tupl, bi_tupt, bi_intb, bi_inti, bi_all, sl_l, sl_t, cm_is, cm_isnot, is_non, is_bl, cm_eqi, cm_nei, cm_eqs, cm_nes, isTy, Option.map_some, p9, p10, p11, p18, wipeR, backR, List.getD_cons_zero, List.getD_cons_succ]
    decide
  rintro _ _ ⟨rfl, rfl⟩
  -- one side
  have side : ∀ {a b : List Bool} {sides : List D} {r8 r9 r10 : Option R} {kk : PL.Env → Prop}, Side a → Side b → sides.length ≤ 1 → (∀ c : Nat, 0 < c → c ∣ 60 → a.length ∣ c → b.length ∣ c → ∀ r8 r9 r10, kk [some (.val (encS x)), some (.val (encS y)), some (.val ft), some (.val (.int (min x.low y.low))), some (.val (.int (max x.e y.e))), some (.val (.str (tx (tabB (min x.low y.low) (max x.e y.e - min x.low y.low).toNat fun n => f (x.sg n) (y.sg n))))), none, some (.own (sides ++ [.str (tx (tabB 0 c fun n => f (atT a n) (atT b n)))])), r8, r9, r10, none]) →
      wG (.tp [(.nm 8), (.nm 9)]) (.val (.tup [.str (tx a), .str (tx b)])) [some (.val (encS x)), some (.val (encS y)), some (.val ft), some (.val (.int (min x.low y.low))), some (.val (.int (max x.e y.e))), some (.val (.str (tx (tabB (min x.low y.low) (max x.e y.e - min x.low y.low).toNat fun n => f (x.sg n) (y.sg n))))), none, some (.own sides), r8, r9, r10, none] fun r2 => wSs prI.P (Fk (k + 3)) [(.asg (.nm 10) (.call i_round_of [(.lenv 8), (.lenv 9)])), (.ex (.mu .append 7 [(.mt .join (.cst (.str "")) [(.lc (.nm 11) (.rng1 (.var 10)) [] (.call i_mark [(.bin .add (.call i_sign_by [(.var 8), (.var 11)]) (.call i_sign_by [(.var 9), (.var 11)])), (.var 2)]) [11])])]))] r2 { nx := kk, rt := fun _ => False, bk := fun _ => False, ct := fun _ => False, ex := fun _ _ => False } := fun {a b sides r8 r9 r10 kk} sa sb hs hk => by
    simp only [wG, wGs, d_val, List.length_cons, List.length_nil, List.set_cons_zero, List.set_cons_succ, true_and, Nat.zero_add, Nat.reduceAdd, Nat.reduceLT]
    refine p_asg mk (fun v r1 => ∃ c : Nat, 0 < c ∧ c ∣ 60 ∧ a.length ∣ c ∧ b.length ∣ c ∧ v = .val (.int (c : Int)) ∧ r1 = [some (.val (encS x)), some (.val (encS y)), some (.val ft), some (.val (.int (min x.low y.low))), some (.val (.int (max x.e y.e))), some (.val (.str (tx (tabB (min x.low y.low) (max x.e y.e - min x.low y.low).toNat fun n => f (x.sg n) (y.sg n))))), none, some (.own sides), some (.val (.str (tx a))), some (.val (.str (tx b))), r10, none]) ?_ ?_
    · simp only [wE, wEs, lnV, List.getElem?_cons_zero, List.getElem?_cons_succ, d_val, len_tx (t16 sa), len_tx (t16 sb), Option.some.injEq, exists_eq_left']
      exact c_round_of sa.pos sb.pos sa.d sb.d fun c c1 c2 c3 c4 => ⟨c, c1, c2, c3, c4, by simp⟩
    rintro _ _ ⟨c, c1, c2, c3, c4, rfl, rfl⟩
    have c60 := Nat.le_of_dvd (by decide) c2
    refine ⟨Nat.le_of_ble_eq_true rfl, ?_⟩
    have mj : ∀ a, mtTy .join (.str a) = true := fun _ => rfl
    simp only [wSs, wS, wE, wEs, wI, rdV, List.getElem?_cons_zero, List.getElem?_cons_succ, List.set_cons_zero, List.set_cons_succ, d_val, mj, true_and, D.int.injEq, exists_eq_left']
    refine ⟨⟨_, rfl⟩, by omega, by omega, fun v hv ds => by simp at hv; subst hv; simp, ?_⟩
    rw [Int.toNat_natCast]
    refine lc_map (mapS fun n => f (atT a n) (atT b n)) (by rw [rng_len]; omega) (fun d hd k2 hk2 => ?_) ?_
    · obtain ⟨j, _, _, rfl⟩ := rng_mem hd
      simp only [wipeR, wG, wTs, wE, wEs, rdV, List.getElem?_cons_zero, List.getElem?_cons_succ, List.set_cons_zero, List.set_cons_succ, d_val, if_true, List.length_cons, List.length_nil]
      refine ⟨by decide, ?_⟩
      refine c_sign_by sa.ne sa.le ?_
      refine c_sign_by sb.ne sb.le ?_
      simp only [d_val, op_tx2, Option.some.injEq, exists_eq_left']
      exact c_mark hf hk2
    · rw [rng_tab (fun n => f (atT a n) (atT b n))]
      simp only [d_own, d_val, join_ok (show (tabB 0 c fun n => f (atT a n) (atT b n)).length ≤ 16777216 by rw [tab_len]; omega), Option.some.injEq, exists_eq_left', wipeR, backR, List.set_cons_zero, List.set_cons_succ, List.getD_cons_zero, List.getD_cons_succ, List.getElem?_cons_zero, List.getElem?_cons_succ, muD, R.own.injEq]
      exact ⟨_, _, _, rfl, if_pos (by omega), hk c c1 c2 c3 c4 _ _ _⟩
  have e3 : ∀ z : Sh, ixD (encS z) (.int 0) = some (.str (tx z.l)) ∧ ixD (encS z) (.int 3) = some (.str (tx z.r)) := fun z => by
    unfold encS
    exact ⟨by rw [ix_t]; exact at_0, by rw [ix_t]; exact L2.atI_nat (j := 3) rfl⟩
  have up : ∀ {kk : PL.Env → Prop} {D' : Ed}, (∀ r, kk r → D'.nx r) → EdLe { nx := kk, rt := fun _ => False, bk := fun _ => False, ct := fun _ => False, ex := fun _ _ => False } D' := fun hn => ⟨hn, fun _ z => z.elim, fun _ z => z.elim, fun _ z => z.elim, fun _ _ z => z.elim⟩
  refine ⟨Nat.le_of_ble_eq_true rfl, ?_⟩
  refine p_fo mk (fun ds r1 => ds = [.tup [.str (tx x.l), .str (tx y.l)], .tup [.str (tx x.r), .str (tx y.r)]] ∧ r1 = [some (.val (encS x)), some (.val (encS y)), some (.val ft), some (.val (.int (min x.low y.low))), some (.val (.int (max x.e y.e))), some (.val (.str (tx (tabB (min x.low y.low) (max x.e y.e - min x.low y.low).toNat fun n => f (x.sg n) (y.sg n))))), none, some (.own []), none, none, none, none]) ?_ ?_
  · simp only [wI, wE, wEs, rdV, List.getElem?_cons_zero, List.getElem?_cons_succ, List.set_cons_zero, List.set_cons_succ, d_val, e3, Option.some.injEq, exists_eq_left']
    and_intros <;> first | rfl | trivial | (show 2 ≤ lim; decide)
  rintro _ _ ⟨rfl, rfl⟩
  simp only [loopP]
  refine wG_mono (fun r2 h2 => monoSs mk _ (up fun r3 h3 => h3) h2) (side (kk := _) sxl syl (by simp) fun c c1 c2 c3 c4 r8 r9 r10 => ?_)
  refine wG_mono (fun r2 h2 => monoSs mk _ (up fun r3 h3 => h3) h2) (side (kk := _) sxr syr (by simp) fun d d1 d2 d3 d4 r8 r9 r10 => ?_)
  simp only [wSs, wS, wE, wEs, rdV, List.getElem?_cons_zero, List.getElem?_cons_succ, List.set_cons_zero, List.set_cons_succ, d_val, d_own, ix_l, List.nil_append, List.cons_append, at_0, at_1, Option.some.injEq, exists_eq_left']
  refine c_in_form (B := B) (T := ⟨tabB 0 c fun n => f (atT x.l n) (atT y.l n), min x.low y.low, tabB (min x.low y.low) (max x.e y.e - min x.low y.low).toNat fun n => f (x.sg n) (y.sg n), tabB 0 d fun n => f (atT x.r n) (atT y.r n)⟩) ⟨?_, by rw [tab_len]; exact c2, ?_, by rw [tab_len]; exact d2, by simp only; omega, by simp only [Sh.e, tab_len]; omega, by simp only [tab_len]; omega⟩ fun z z1 z2 z3 z4 => ?_
  · exact tab_ne (lo := 0) (g := fun n => f (atT x.l n) (atT y.l n)) c1
  · exact tab_ne (lo := 0) (g := fun n => f (atT x.r n) (atT y.r n)) d1
  · refine h z ⟨z1, by omega, by omega⟩ fun n => ?_
    rw [z2]
    exact comb_ok f c1 d1 c3 c4 d3 d4 (by omega) (by omega) (by omega) (by omega) n
theorem ft_both : Ft (.tup [.str "11"]) (fun a b => a && b) := fun a b => by cases a <;> cases b <;> decide +kernel
theorem ft_either : Ft (.tup [.str "01", .str "10", .str "11"]) (fun a b => a || b) := fun a b => by cases a <;> cases b <;> decide +kernel
theorem ft_less : Ft (.tup [.str "10"]) (fun a b => a && !b) := fun a b => by cases a <;> cases b <;> decide +kernel
theorem c_less_in {B : Nat} {x y : Sh} (hx : Shp B x) (hy : Shp B y) (hB : B ≤ 100000) (h : ∀ z : Sh, Shp (B + 60) z → (∀ n, z.sg n = (x.sg n && !y.sg n)) → Q (.val (encS z))) : Fk (k + 5) i_less_in [encS x, encS y] Q E := by
  refine Fk_at (fd := fd_less_in) rfl rfl ?_
  simp only [fd_less_in, wSs, wS, wE, wEs, wT, wTs, wG, wGs, wI, wO, rdV, bind0, d_val, d_own, tru_bl, tru_non, tru_int, tru_lst, tru_tup, ix_l, ix_t, at_0, at_1, at_2, op_add, op_sub, op_mod, op_div, cm_lt, cm_le, cm_gt, cm_ge, List.map_cons, List.map_nil, List.cons_append, List.nil_append, List.length_cons, List.length_nil, List.replicate, List.append_nil, List.set_cons_zero, List.set_cons_succ, List.getElem?_cons_zero, List.getElem?_cons_succ, Option.some.injEq, exists_eq_left', true_and, and_true, if_true, if_false, Bool.false_eq_true, R.val.injEq, D.int.injEq, Nat.zero_add, Nat.reduceAdd, Nat.reduceSub, Nat.reduceLT, Nat.reduceLeDiff, Nat.reduceEqDiff, Bool.not_true, Bool.not_false, Bool.and_true, Bool.true_and, Bool.and_false, Bool.false_and, Int.reduceLT, Int.reduceLE, Int.reduceNeg, Int.reducePow, Int.reduceToNat, Int.reduceMul, Int.reduceSub, Int.reduceAdd, lnV, len_l, len_t, len_sc, bi_ln, bi_abs, bi_max, bi_min, bi_listl, bi_listt, bi_tupl, bi_tupt, bi_intb, bi_inti, bi_all, sl_l, sl_t, cm_is, cm_isnot, is_non, is_bl, cm_eqi, cm_nei, cm_eqs, cm_nes, isTy, Option.map_some, p9, p10, p11, p18, wipeR, backR, List.getD_cons_zero, List.getD_cons_succ, pick]
  exact ⟨by decide, c_by_signs hx hy hB ft_less h⟩
end
theorem side1 (b : Bool) : Side [b] := by
  refine ⟨⟨by simp, fun d d0 dd _ => ?_⟩, by simp⟩
  simp at dd ⊢
  exact dd
def AllS : Sh := ⟨[true], 0, [], [true]⟩
def NoS : Sh := ⟨[false], 0, [], [false]⟩
theorem at1 (b : Bool) (n : Int) : atT [b] n = b := by
  unfold atT
  have : (n % (([b].length : Nat) : Int)).toNat = 0 := by simp [Int.emod_one]
  rw [this]
  rfl
theorem all_sg (n : Int) : AllS.sg n = true := by
  unfold AllS Sh.sg
  simp only [at1, Sh.e]
  split <;> simp
  omega
theorem no_sg (n : Int) : NoS.sg n = false := by
  unfold NoS Sh.sg
  simp only [at1, Sh.e]
  split <;> simp
theorem all_shp (B : Nat) : Shp B AllS := ⟨⟨side1 _, side1 _, .inl ⟨rfl, rfl, rfl⟩⟩, by unfold AllS; simp only; omega, by unfold AllS Sh.e; simp⟩
theorem no_shp (B : Nat) : Shp B NoS := ⟨⟨side1 _, side1 _, .inl ⟨rfl, rfl, rfl⟩⟩, by unfold NoS; simp only; omega, by unfold NoS Sh.e; simp⟩
theorem enc_all : encS AllS = .tup [.str "1", .int 0, .str "", .str "1"] := by unfold encS AllS; simp only [tx_1, tx_nil]
theorem enc_no : encS NoS = .tup [.str "0", .int 0, .str "", .str "0"] := by unfold encS NoS; simp only [tx_0, tx_nil]
section
variable {k : Nat} {Q : R → Prop} {E : Xc → Prop}
theorem c_others_in {B : Nat} {x : Sh} (hx : Shp B x) (hB : B ≤ 100000) (h : ∀ z : Sh, Shp (B + 60) z → (∀ n, z.sg n = !x.sg n) → Q (.val (encS z))) : Fk (k + 6) i_others_in [encS x] Q E := by
  refine Fk_at (fd := fd_others_in) rfl rfl ?_
  simp only [fd_others_in, wSs, wS, wE, wEs, wT, wTs, wG, wGs, wI, wO, rdV, bind0, d_val, d_own, tru_bl, tru_non, tru_int, tru_lst, tru_tup, ix_l, ix_t, at_0, at_1, at_2, op_add, op_sub, op_mod, op_div, cm_lt, cm_le, cm_gt, cm_ge, List.map_cons, List.map_nil, List.cons_append, List.nil_append, List.length_cons, List.length_nil, List.replicate, List.append_nil, List.set_cons_zero, List.set_cons_succ, List.getElem?_cons_zero, List.getElem?_cons_succ, Option.some.injEq, exists_eq_left', true_and, and_true, if_true, if_false, Bool.false_eq_true, R.val.injEq, D.int.injEq, Nat.zero_add, Nat.reduceAdd, Nat.reduceSub, Nat.reduceLT, Nat.reduceLeDiff, Nat.reduceEqDiff, Bool.not_true, Bool.not_false, Bool.and_true, Bool.true_and, Bool.and_false, Bool.false_and, Int.reduceLT, Int.reduceLE, Int.reduceNeg, Int.reducePow, Int.reduceToNat, Int.reduceMul, Int.reduceSub, Int.reduceAdd, lnV, len_l, len_t, len_sc, bi_ln, bi_abs, bi_max, bi_min, bi_listl, bi_listt, bi_tupl, bi_tupt, bi_intb, bi_inti, bi_all, sl_l, sl_t, cm_is, cm_isnot, is_non, is_bl, cm_eqi, cm_nei, cm_eqs, cm_nes, isTy, Option.map_some, p9, p10, p11, p18, wipeR, backR, List.getD_cons_zero, List.getD_cons_succ]
  refine ⟨encS AllS, by rw [enc_all]; kernel_rfl, ?_⟩
  refine c_less_in (all_shp B) hx hB fun z z1 z2 => h z z1 fun n => ?_
  rw [z2, all_sg, Bool.true_and]
end
end K12
set_option maxHeartbeats 3900000
namespace K12
open PySem PL
section
variable {k : Nat} {Q : R → Prop} {E : Xc → Prop}
theorem c_is_whole {d : D} (h : Q (.val (.bl (isTy d .int && !isTy d .bool)))) : Fk (k + 1) i_is_whole [d] Q E := by
  refine Fk_at (fd := fd_is_whole) rfl rfl ?_
  simp only [fd_is_whole, wSs, wS, wE, wEs, wT, wTs, wG, wGs, wI, wO, rdV, bind0, R.d, truD, List.map_cons, List.map_nil, List.cons_append, List.nil_append, List.length_cons, List.length_nil, List.replicate, List.append_nil, List.set_cons_zero, List.set_cons_succ, List.getElem?_cons_zero, List.getElem?_cons_succ, Option.some.injEq, exists_eq_left', true_and, and_true, if_true, if_false, Bool.false_eq_true, R.val.injEq, D.int.injEq, Nat.zero_add, Nat.reduceAdd, Nat.reduceSub, Nat.reduceLT, Nat.reduceLeDiff, Nat.reduceEqDiff, Bool.not_true, Bool.not_false, Bool.and_true, Bool.true_and, Bool.and_false, Bool.false_and, lnV, len_l, len_t, len_sc]
  cases hb : isTy d .int <;> simpa [hb] using h
theorem c_law_fits : ∀ {s : Sg} {k : Nat} {n : Int} {Q : R → Prop} {E : Xc → Prop}, s.ok → s.dp < k → Q (.val (.bl (s.mean n))) → Fk k i__law_fits [s.enc, .int n] Q E
  | s, 0, n, Q, E, _, hk, _ => by omega
  | .fr b, k + 1, n, Q, E, ok, hk, h => by
    refine Fk_at (fd := fd__law_fits) rfl rfl (p_ix0 rfl (Nat.le_of_ble_eq_true rfl) ?_)
    refine p_skip mk (q_in2 rfl (by decide +kernel)) (p_skip mk (q_cmp rfl (by decide +kernel)) (p_skip mk (q_cmp rfl (by decide +kernel)) (p_skip mk (q_cmp rfl (by decide +kernel)) (p_skip mk (q_cmp rfl (by decide +kernel)) (p_retb mk ?_ h)))))
    simp only [fd__law_fits, Sg.enc, wSs, wS, wE, wEs, wT, wTs, wG, wGs, wI, wO, rdV, bind0, R.d, truD, List.map_cons, List.map_nil, List.cons_append, List.nil_append, List.length_cons, List.length_nil, List.replicate, List.append_nil, List.set_cons_zero, List.set_cons_succ, List.getElem?_cons_zero, List.getElem?_cons_succ, Option.some.injEq, exists_eq_left', true_and, and_true, if_true, if_false, Bool.false_eq_true, R.val.injEq, D.int.injEq, Nat.zero_add, Nat.reduceAdd, Nat.reduceSub, Nat.reduceLT, Nat.reduceLeDiff, Nat.reduceEqDiff, Bool.not_true, Bool.not_false, Bool.and_true, Bool.true_and, Bool.and_false, Bool.false_and, lnV, len_l, len_t, len_sc, ixD, at_1, at_2, cmD, Sg.mean]
    exact ⟨true, by decide +kernel, by simp⟩
  | .to b, k + 1, n, Q, E, ok, hk, h => by
    refine Fk_at (fd := fd__law_fits) rfl rfl (p_ix0 rfl (Nat.le_of_ble_eq_true rfl) ?_)
    refine p_skip mk (q_in2 rfl (by decide +kernel)) (p_skip mk (q_cmp rfl (by decide +kernel)) (p_skip mk (q_cmp rfl (by decide +kernel)) (p_skip mk (q_cmp rfl (by decide +kernel)) (p_skip mk (q_cmp rfl (by decide +kernel)) (p_retb mk ?_ h)))))
    simp only [fd__law_fits, Sg.enc, wSs, wS, wE, wEs, wT, wTs, wG, wGs, wI, wO, rdV, bind0, R.d, truD, List.map_cons, List.map_nil, List.cons_append, List.nil_append, List.length_cons, List.length_nil, List.replicate, List.append_nil, List.set_cons_zero, List.set_cons_succ, List.getElem?_cons_zero, List.getElem?_cons_succ, Option.some.injEq, exists_eq_left', true_and, and_true, if_true, if_false, Bool.false_eq_true, R.val.injEq, D.int.injEq, Nat.zero_add, Nat.reduceAdd, Nat.reduceSub, Nat.reduceLT, Nat.reduceLeDiff, Nat.reduceEqDiff, Bool.not_true, Bool.not_false, Bool.and_true, Bool.true_and, Bool.and_false, Bool.false_and, lnV, len_l, len_t, len_sc, ixD, at_1, at_2, cmD, Sg.mean]
    exact ⟨false, by decide +kernel, by simp⟩
  | .rs m q, k + 1, n, Q, E, ok, hk, h => by
    have hm : 0 < m := by have := ok.1; omega
    refine Fk_at (fd := fd__law_fits) rfl rfl (p_ix0 rfl (Nat.le_of_ble_eq_true rfl) ?_)
    refine p_skip mk (q_in2 rfl (by decide +kernel)) (p_skip mk (q_cmp rfl (by decide +kernel)) (p_skip mk (q_cmp rfl (by decide +kernel)) (p_skip mk (q_cmp rfl (by decide +kernel)) (p_ift mk (q_cmp rfl (by decide +kernel)) (p_retb mk ?_ h)))))
    simp only [fd__law_fits, Sg.enc, wSs, wS, wE, wEs, wT, wTs, wG, wGs, wI, wO, rdV, bind0, R.d, truD, List.map_cons, List.map_nil, List.cons_append, List.nil_append, List.length_cons, List.length_nil, List.replicate, List.append_nil, List.set_cons_zero, List.set_cons_succ, List.getElem?_cons_zero, List.getElem?_cons_succ, Option.some.injEq, exists_eq_left', true_and, and_true, if_true, if_false, Bool.false_eq_true, R.val.injEq, D.int.injEq, Nat.zero_add, Nat.reduceAdd, Nat.reduceSub, Nat.reduceLT, Nat.reduceLeDiff, Nat.reduceEqDiff, Bool.not_true, Bool.not_false, Bool.and_true, Bool.true_and, Bool.and_false, Bool.false_and, lnV, len_l, len_t, len_sc, ixD, at_1, at_2, cmD, Sg.mean, opD, hm, eqD_int]
  | .al, k + 1, n, Q, E, ok, hk, h => by
    refine Fk_at (fd := fd__law_fits) rfl rfl (p_ix0 rfl (Nat.le_of_ble_eq_true rfl) ?_)
    refine p_ift mk (q_in2 rfl (by decide +kernel)) (p_retb mk ?_ h)
    simp only [fd__law_fits, Sg.enc, wSs, wS, wE, wEs, wT, wTs, wG, wGs, wI, wO, rdV, bind0, R.d, truD, List.map_cons, List.map_nil, List.cons_append, List.nil_append, List.length_cons, List.length_nil, List.replicate, List.append_nil, List.set_cons_zero, List.set_cons_succ, List.getElem?_cons_zero, List.getElem?_cons_succ, Option.some.injEq, exists_eq_left', true_and, and_true, if_true, if_false, Bool.false_eq_true, R.val.injEq, D.int.injEq, Nat.zero_add, Nat.reduceAdd, Nat.reduceSub, Nat.reduceLT, Nat.reduceLeDiff, Nat.reduceEqDiff, Bool.not_true, Bool.not_false, Bool.and_true, Bool.true_and, Bool.and_false, Bool.false_and, lnV, len_l, len_t, len_sc, Sg.mean]
    exact ⟨true, by decide +kernel, rfl⟩
  | .no, k + 1, n, Q, E, ok, hk, h => by
    refine Fk_at (fd := fd__law_fits) rfl rfl (p_ix0 rfl (Nat.le_of_ble_eq_true rfl) ?_)
    refine p_ift mk (q_in2 rfl (by decide +kernel)) (p_retb mk ?_ h)
    simp only [fd__law_fits, Sg.enc, wSs, wS, wE, wEs, wT, wTs, wG, wGs, wI, wO, rdV, bind0, R.d, truD, List.map_cons, List.map_nil, List.cons_append, List.nil_append, List.length_cons, List.length_nil, List.replicate, List.append_nil, List.set_cons_zero, List.set_cons_succ, List.getElem?_cons_zero, List.getElem?_cons_succ, Option.some.injEq, exists_eq_left', true_and, and_true, if_true, if_false, Bool.false_eq_true, R.val.injEq, D.int.injEq, Nat.zero_add, Nat.reduceAdd, Nat.reduceSub, Nat.reduceLT, Nat.reduceLeDiff, Nat.reduceEqDiff, Bool.not_true, Bool.not_false, Bool.and_true, Bool.true_and, Bool.and_false, Bool.false_and, lnV, len_l, len_t, len_sc, Sg.mean]
    exact ⟨false, by decide +kernel, rfl⟩
  | .nt s, k + 1, n, Q, E, ok, hk, h => by
    refine Fk_at (fd := fd__law_fits) rfl rfl (p_ix0 rfl (Nat.le_of_ble_eq_true rfl) ?_)
    refine p_skip mk (q_in2 rfl (by decide +kernel)) (p_ift mk (q_cmp rfl (by decide +kernel)) (p_retb mk ?_ h))
    simp only [fd__law_fits, Sg.enc, wSs, wS, wE, wEs, wT, wTs, wG, wGs, wI, wO, rdV, bind0, R.d, truD, List.map_cons, List.map_nil, List.cons_append, List.nil_append, List.length_cons, List.length_nil, List.replicate, List.append_nil, List.set_cons_zero, List.set_cons_succ, List.getElem?_cons_zero, List.getElem?_cons_succ, Option.some.injEq, exists_eq_left', true_and, and_true, if_true, if_false, Bool.false_eq_true, R.val.injEq, D.int.injEq, Nat.zero_add, Nat.reduceAdd, Nat.reduceSub, Nat.reduceLT, Nat.reduceLeDiff, Nat.reduceEqDiff, Bool.not_true, Bool.not_false, Bool.and_true, Bool.true_and, Bool.and_false, Bool.false_and, lnV, len_l, len_t, len_sc, ixD, at_1, at_2, cmD, Sg.mean]
    exact c_law_fits (s := s) (k := k) ok (by simp only [Sg.dp] at hk; omega) ⟨_, rfl, rfl⟩
  | .bo s t, k + 1, n, Q, E, ok, hk, h => by
    refine Fk_at (fd := fd__law_fits) rfl rfl (p_ix0 rfl (Nat.le_of_ble_eq_true rfl) ?_)
    refine p_skip mk (q_in2 rfl (by decide +kernel)) (p_skip mk (q_cmp rfl (by decide +kernel)) (p_ift mk (q_cmp rfl (by decide +kernel)) (p_retb mk ?_ h)))
    simp only [fd__law_fits, Sg.enc, wSs, wS, wE, wEs, wT, wTs, wG, wGs, wI, wO, rdV, bind0, R.d, truD, List.map_cons, List.map_nil, List.cons_append, List.nil_append, List.length_cons, List.length_nil, List.replicate, List.append_nil, List.set_cons_zero, List.set_cons_succ, List.getElem?_cons_zero, List.getElem?_cons_succ, Option.some.injEq, exists_eq_left', true_and, and_true, if_true, if_false, Bool.false_eq_true, R.val.injEq, D.int.injEq, Nat.zero_add, Nat.reduceAdd, Nat.reduceSub, Nat.reduceLT, Nat.reduceLeDiff, Nat.reduceEqDiff, Bool.not_true, Bool.not_false, Bool.and_true, Bool.true_and, Bool.and_false, Bool.false_and, lnV, len_l, len_t, len_sc, ixD, at_1, at_2, cmD, Sg.mean]
    simp only [Sg.dp] at hk
    refine c_law_fits (s := s) (k := k) ok.1 (by omega) ?_
    simp only [wSs, wS, wE, wEs, wT, wTs, wG, wGs, wI, wO, rdV, bind0, R.d, truD, List.map_cons, List.map_nil, List.cons_append, List.nil_append, List.length_cons, List.length_nil, List.replicate, List.append_nil, List.set_cons_zero, List.set_cons_succ, List.getElem?_cons_zero, List.getElem?_cons_succ, Option.some.injEq, exists_eq_left', true_and, and_true, if_true, if_false, Bool.false_eq_true, R.val.injEq, D.int.injEq, Nat.zero_add, Nat.reduceAdd, Nat.reduceSub, Nat.reduceLT, Nat.reduceLeDiff, Nat.reduceEqDiff, Bool.not_true, Bool.not_false, Bool.and_true, Bool.true_and, Bool.and_false, Bool.false_and, lnV, len_l, len_t, len_sc]
    cases s.mean n
    · simp
    · simp only [wSs, wS, wE, wEs, wT, wTs, wG, wGs, wI, wO, rdV, bind0, R.d, truD, List.map_cons, List.map_nil, List.cons_append, List.nil_append, List.length_cons, List.length_nil, List.replicate, List.append_nil, List.set_cons_zero, List.set_cons_succ, List.getElem?_cons_zero, List.getElem?_cons_succ, Option.some.injEq, exists_eq_left', true_and, and_true, if_true, if_false, Bool.false_eq_true, R.val.injEq, D.int.injEq, Nat.zero_add, Nat.reduceAdd, Nat.reduceSub, Nat.reduceLT, Nat.reduceLeDiff, Nat.reduceEqDiff, Bool.not_true, Bool.not_false, Bool.and_true, Bool.true_and, Bool.and_false, Bool.false_and, lnV, len_l, len_t, len_sc]
      exact c_law_fits (s := t) (k := k) ok.2 (by omega) rfl
  | .ei s t, k + 1, n, Q, E, ok, hk, h => by
    refine Fk_at (fd := fd__law_fits) rfl rfl (p_ix0 rfl (Nat.le_of_ble_eq_true rfl) ?_)
    refine p_skip mk (q_in2 rfl (by decide +kernel)) (p_skip mk (q_cmp rfl (by decide +kernel)) (p_skip mk (q_cmp rfl (by decide +kernel)) (p_ift mk (q_cmp rfl (by decide +kernel)) (p_retb mk ?_ h))))
    simp only [fd__law_fits, Sg.enc, wSs, wS, wE, wEs, wT, wTs, wG, wGs, wI, wO, rdV, bind0, R.d, truD, List.map_cons, List.map_nil, List.cons_append, List.nil_append, List.length_cons, List.length_nil, List.replicate, List.append_nil, List.set_cons_zero, List.set_cons_succ, List.getElem?_cons_zero, List.getElem?_cons_succ, Option.some.injEq, exists_eq_left', true_and, and_true, if_true, if_false, Bool.false_eq_true, R.val.injEq, D.int.injEq, Nat.zero_add, Nat.reduceAdd, Nat.reduceSub, Nat.reduceLT, Nat.reduceLeDiff, Nat.reduceEqDiff, Bool.not_true, Bool.not_false, Bool.and_true, Bool.true_and, Bool.and_false, Bool.false_and, lnV, len_l, len_t, len_sc, ixD, at_1, at_2, cmD, Sg.mean]
    simp only [Sg.dp] at hk
    refine c_law_fits (s := s) (k := k) ok.1 (by omega) ?_
    simp only [wSs, wS, wE, wEs, wT, wTs, wG, wGs, wI, wO, rdV, bind0, R.d, truD, List.map_cons, List.map_nil, List.cons_append, List.nil_append, List.length_cons, List.length_nil, List.replicate, List.append_nil, List.set_cons_zero, List.set_cons_succ, List.getElem?_cons_zero, List.getElem?_cons_succ, Option.some.injEq, exists_eq_left', true_and, and_true, if_true, if_false, Bool.false_eq_true, R.val.injEq, D.int.injEq, Nat.zero_add, Nat.reduceAdd, Nat.reduceSub, Nat.reduceLT, Nat.reduceLeDiff, Nat.reduceEqDiff, Bool.not_true, Bool.not_false, Bool.and_true, Bool.true_and, Bool.and_false, Bool.false_and, lnV, len_l, len_t, len_sc]
    cases s.mean n
    · simp only [wSs, wS, wE, wEs, wT, wTs, wG, wGs, wI, wO, rdV, bind0, R.d, truD, List.map_cons, List.map_nil, List.cons_append, List.nil_append, List.length_cons, List.length_nil, List.replicate, List.append_nil, List.set_cons_zero, List.set_cons_succ, List.getElem?_cons_zero, List.getElem?_cons_succ, Option.some.injEq, exists_eq_left', true_and, and_true, if_true, if_false, Bool.false_eq_true, R.val.injEq, D.int.injEq, Nat.zero_add, Nat.reduceAdd, Nat.reduceSub, Nat.reduceLT, Nat.reduceLeDiff, Nat.reduceEqDiff, Bool.not_true, Bool.not_false, Bool.and_true, Bool.true_and, Bool.and_false, Bool.false_and, lnV, len_l, len_t, len_sc]
      exact c_law_fits (s := t) (k := k) ok.2 (by omega) rfl
    · simp
theorem c_bound (h : ∀ b, -99 ≤ b → b ≤ 99 → Q (.val (.int b))) : Fk (k + 2) i__law_bound [.pot] Q E := by
  refine Fk_at (fd := fd__law_bound) rfl rfl ?_
  simp only [fd__law_bound, wSs, wS, wE, wEs, wT, wTs, wG, wGs, wI, wO, rdV, bind0, R.d, truD, List.map_cons, List.map_nil, List.cons_append, List.nil_append, List.length_cons, List.length_nil, List.replicate, List.append_nil, List.set_cons_zero, List.set_cons_succ, List.getElem?_cons_zero, List.getElem?_cons_succ, Option.some.injEq, exists_eq_left', true_and, and_true, if_true, if_false, Bool.false_eq_true, R.val.injEq, D.int.injEq, Nat.zero_add, Nat.reduceAdd, Nat.reduceSub, Nat.reduceLT, Nat.reduceLeDiff, Nat.reduceEqDiff, Bool.not_true, Bool.not_false, Bool.and_true, Bool.true_and, Bool.and_false, Bool.false_and, lnV, len_l, len_t, len_sc, opD, addD]
  refine c_take (by decide) (by decide) fun x hx1 hx2 => ?_
  simp only [wSs, wS, wE, wEs, wT, wTs, wG, wGs, wI, wO, rdV, bind0, R.d, truD, List.map_cons, List.map_nil, List.cons_append, List.nil_append, List.length_cons, List.length_nil, List.replicate, List.append_nil, List.set_cons_zero, List.set_cons_succ, List.getElem?_cons_zero, List.getElem?_cons_succ, Option.some.injEq, exists_eq_left', true_and, and_true, if_true, if_false, Bool.false_eq_true, R.val.injEq, D.int.injEq, Nat.zero_add, Nat.reduceAdd, Nat.reduceSub, Nat.reduceLT, Nat.reduceLeDiff, Nat.reduceEqDiff, Bool.not_true, Bool.not_false, Bool.and_true, Bool.true_and, Bool.and_false, Bool.false_and, lnV, len_l, len_t, len_sc, ixD]
  refine ⟨by decide, c_take (by decide) (by decide) fun y hy1 hy2 => ?_⟩
  simp only [wSs, wS, wE, wEs, wT, wTs, wG, wGs, wI, wO, rdV, bind0, R.d, truD, List.map_cons, List.map_nil, List.cons_append, List.nil_append, List.length_cons, List.length_nil, List.replicate, List.append_nil, List.set_cons_zero, List.set_cons_succ, List.getElem?_cons_zero, List.getElem?_cons_succ, Option.some.injEq, exists_eq_left', true_and, and_true, if_true, if_false, Bool.false_eq_true, R.val.injEq, D.int.injEq, Nat.zero_add, Nat.reduceAdd, Nat.reduceSub, Nat.reduceLT, Nat.reduceLeDiff, Nat.reduceEqDiff, Bool.not_true, Bool.not_false, Bool.and_true, Bool.true_and, Bool.and_false, Bool.false_and, lnV, len_l, len_t, len_sc, ixD]
  refine mem_at hy1 hy2 fun z hz => c_take (by decide) (by decide) fun u hu1 hu2 => ?_
  simp only [wSs, wS, wE, wEs, wT, wTs, wG, wGs, wI, wO, rdV, bind0, R.d, truD, List.map_cons, List.map_nil, List.cons_append, List.nil_append, List.length_cons, List.length_nil, List.replicate, List.append_nil, List.set_cons_zero, List.set_cons_succ, List.getElem?_cons_zero, List.getElem?_cons_succ, Option.some.injEq, exists_eq_left', true_and, and_true, if_true, if_false, Bool.false_eq_true, R.val.injEq, D.int.injEq, Nat.zero_add, Nat.reduceAdd, Nat.reduceSub, Nat.reduceLT, Nat.reduceLeDiff, Nat.reduceEqDiff, Bool.not_true, Bool.not_false, Bool.and_true, Bool.true_and, Bool.and_false, Bool.false_and, lnV, len_l, len_t, len_sc, ixD]
  refine ⟨by show 3 ≤ lim; decide, c_take (by decide) (by decide) fun v hv1 hv2 => ?_⟩
  simp only [wSs, wS, wE, wEs, wT, wTs, wG, wGs, wI, wO, rdV, bind0, R.d, truD, List.map_cons, List.map_nil, List.cons_append, List.nil_append, List.length_cons, List.length_nil, List.replicate, List.append_nil, List.set_cons_zero, List.set_cons_succ, List.getElem?_cons_zero, List.getElem?_cons_succ, Option.some.injEq, exists_eq_left', true_and, and_true, if_true, if_false, Bool.false_eq_true, R.val.injEq, D.int.injEq, Nat.zero_add, Nat.reduceAdd, Nat.reduceSub, Nat.reduceLT, Nat.reduceLeDiff, Nat.reduceEqDiff, Bool.not_true, Bool.not_false, Bool.and_true, Bool.true_and, Bool.and_false, Bool.false_and, lnV, len_l, len_t, len_sc, ixD]
  refine mem_at hv1 hv2 fun w hw => ?_
  simp only [List.mem_cons, List.not_mem_nil, or_false] at hw hz
  rcases hw with rfl | rfl | rfl
  · exact h _ (by omega) (by omega)
  · rcases hz with rfl | rfl | rfl | rfl | rfl <;> exact h _ (by omega) (by omega)
  · exact h _ (by omega) (by omega)
theorem c_rest (h : ∀ m r, (Sg.rs m r).ok → Q (.val (Sg.rs m r).enc)) : Fk (k + 2) i__law_rest [.pot] Q E := by
  refine Fk_at (fd := fd__law_rest) rfl rfl ?_
  simp only [fd__law_rest, wSs, wS, wE, wEs, wT, wTs, wG, wGs, wI, wO, rdV, bind0, R.d, truD, List.map_cons, List.map_nil, List.cons_append, List.nil_append, List.length_cons, List.length_nil, List.replicate, List.append_nil, List.set_cons_zero, List.set_cons_succ, List.getElem?_cons_zero, List.getElem?_cons_succ, Option.some.injEq, exists_eq_left', true_and, and_true, if_true, if_false, Bool.false_eq_true, R.val.injEq, D.int.injEq, Nat.zero_add, Nat.reduceAdd, Nat.reduceSub, Nat.reduceLT, Nat.reduceLeDiff, Nat.reduceEqDiff, Bool.not_true, Bool.not_false, Bool.and_true, Bool.true_and, Bool.and_false, Bool.false_and, lnV, len_l, len_t, len_sc, opD, addD]
  refine c_take (by decide) (by decide) fun x hx1 hx2 => ?_
  simp only [wSs, wS, wE, wEs, wT, wTs, wG, wGs, wI, wO, rdV, bind0, R.d, truD, List.map_cons, List.map_nil, List.cons_append, List.nil_append, List.length_cons, List.length_nil, List.replicate, List.append_nil, List.set_cons_zero, List.set_cons_succ, List.getElem?_cons_zero, List.getElem?_cons_succ, Option.some.injEq, exists_eq_left', true_and, and_true, if_true, if_false, Bool.false_eq_true, R.val.injEq, D.int.injEq, Nat.zero_add, Nat.reduceAdd, Nat.reduceSub, Nat.reduceLT, Nat.reduceLeDiff, Nat.reduceEqDiff, Bool.not_true, Bool.not_false, Bool.and_true, Bool.true_and, Bool.and_false, Bool.false_and, lnV, len_l, len_t, len_sc]
  refine c_take (by omega) (by omega) fun y hy1 hy2 => ?_
  simp only [wSs, wS, wE, wEs, wT, wTs, wG, wGs, wI, wO, rdV, bind0, R.d, truD, List.map_cons, List.map_nil, List.cons_append, List.nil_append, List.length_cons, List.length_nil, List.replicate, List.append_nil, List.set_cons_zero, List.set_cons_succ, List.getElem?_cons_zero, List.getElem?_cons_succ, Option.some.injEq, exists_eq_left', true_and, and_true, if_true, if_false, Bool.false_eq_true, R.val.injEq, D.int.injEq, Nat.zero_add, Nat.reduceAdd, Nat.reduceSub, Nat.reduceLT, Nat.reduceLeDiff, Nat.reduceEqDiff, Bool.not_true, Bool.not_false, Bool.and_true, Bool.true_and, Bool.and_false, Bool.false_and, lnV, len_l, len_t, len_sc]
  exact ⟨by show 3 ≤ lim; decide, h _ _ ⟨by omega, by omega, hy1, hy2⟩⟩
theorem c_saying : ∀ {n k : Nat} {Q : R → Prop} {E : Xc → Prop}, n + 3 ≤ k → (∀ s : Sg, s.ok → s.dp ≤ n → Q (.val s.enc)) → Fk k i__law_saying [.pot, .int (n : Int)] Q E
  | n, 0, Q, E, hk, h => by omega
  | n, 1, Q, E, hk, h => by omega
  | n, 2, Q, E, hk, h => by omega
  | n, k + 3, Q, E, hk, h => by
    refine Fk_at (fd := fd__law_saying) rfl rfl ?_
    refine p_asg mk (fun x r1 => ∃ w : Int, 0 ≤ w ∧ w < 12 ∧ x = .val (.int w) ∧ r1 = _) (by
      simp only [fd__law_saying, wSs, wS, wE, wEs, wT, wTs, wG, wGs, wI, wO, rdV, bind0, d_val, d_own, tru_bl, tru_non, tru_int, tru_lst, tru_tup, ix_l, ix_t, at_0, at_1, at_2, op_add, op_sub, op_mod, op_div, cm_lt, cm_le, cm_gt, cm_ge, List.map_cons, List.map_nil, List.cons_append, List.nil_append, List.length_cons, List.length_nil, List.replicate, List.append_nil, List.set_cons_zero, List.set_cons_succ, List.getElem?_cons_zero, List.getElem?_cons_succ, Option.some.injEq, exists_eq_left', true_and, and_true, if_true, if_false, Bool.false_eq_true, R.val.injEq, D.int.injEq, Nat.zero_add, Nat.reduceAdd, Nat.reduceSub, Nat.reduceLT, Nat.reduceLeDiff, Nat.reduceEqDiff, Bool.not_true, Bool.not_false, Bool.and_true, Bool.true_and, Bool.and_false, Bool.false_and, Int.reduceLT, Int.reduceLE, Int.reduceNeg, Int.reducePow, Int.reduceToNat, Int.reduceMul, Int.reduceSub, Int.reduceAdd, lnV, len_l, len_t, len_sc]
      exact c_take (by decide) (by decide) fun x h1 h2 => ⟨x, h1, h2, rfl, rfl⟩) ?_
    rintro _ _ ⟨w, hw0, hw1, rfl, rfl⟩
    refine ⟨Nat.le_of_ble_eq_true rfl, ?_⟩
    show wSs _ _ _ [some (.val .pot), some (.val (.int (n : Int))), some (.val (.int w)), none] _
    have leaf : wSs prI.P (Fk (k + 2)) [(.asg (.nm 3) (.lst [(.tup [(.cst (.str "from")), (.call i__law_bound [(.var 0)])]), (.tup [(.cst (.str "to")), (.call i__law_bound [(.var 0)])]), (.call i__law_rest [(.var 0)]), (.tup [(.cst (.str "all"))]), (.tup [(.cst (.str "none"))]), (.call i__law_rest [(.var 0)])])),
      (.ret (.ix (.var 3) (.bin .mod (.var 2) (.cst (.int 6)))))] [some (.val .pot), some (.val (.int (n : Int))), some (.val (.int w)), none] { nx := fun _ => False, rt := Q, bk := fun _ => False, ct := fun _ => False, ex := fun x _ => False } := by
      simp only [wSs, wS, wE, wEs, wT, wTs, wG, wGs, wI, wO, rdV, bind0, d_val, d_own, tru_bl, tru_non, tru_int, tru_lst, tru_tup, ix_l, ix_t, at_0, at_1, at_2, op_add, op_sub, op_mod, op_div, cm_lt, cm_le, cm_gt, cm_ge, List.map_cons, List.map_nil, List.cons_append, List.nil_append, List.length_cons, List.length_nil, List.replicate, List.append_nil, List.set_cons_zero, List.set_cons_succ, List.getElem?_cons_zero, List.getElem?_cons_succ, Option.some.injEq, exists_eq_left', true_and, and_true, if_true, if_false, Bool.false_eq_true, R.val.injEq, D.int.injEq, Nat.zero_add, Nat.reduceAdd, Nat.reduceSub, Nat.reduceLT, Nat.reduceLeDiff, Nat.reduceEqDiff, Bool.not_true, Bool.not_false, Bool.and_true, Bool.true_and, Bool.and_false, Bool.false_and, Int.reduceLT, Int.reduceLE, Int.reduceNeg, Int.reducePow, Int.reduceToNat, Int.reduceMul, Int.reduceSub, Int.reduceAdd, lnV, len_l, len_t, len_sc]
      refine c_bound fun b1 h1 h2 => ?_
      simp only [wSs, wS, wE, wEs, wT, wTs, wG, wGs, wI, wO, rdV, bind0, d_val, d_own, tru_bl, tru_non, tru_int, tru_lst, tru_tup, ix_l, ix_t, at_0, at_1, at_2, op_add, op_sub, op_mod, op_div, cm_lt, cm_le, cm_gt, cm_ge, List.map_cons, List.map_nil, List.cons_append, List.nil_append, List.length_cons, List.length_nil, List.replicate, List.append_nil, List.set_cons_zero, List.set_cons_succ, List.getElem?_cons_zero, List.getElem?_cons_succ, Option.some.injEq, exists_eq_left', true_and, and_true, if_true, if_false, Bool.false_eq_true, R.val.injEq, D.int.injEq, Nat.zero_add, Nat.reduceAdd, Nat.reduceSub, Nat.reduceLT, Nat.reduceLeDiff, Nat.reduceEqDiff, Bool.not_true, Bool.not_false, Bool.and_true, Bool.true_and, Bool.and_false, Bool.false_and, Int.reduceLT, Int.reduceLE, Int.reduceNeg, Int.reducePow, Int.reduceToNat, Int.reduceMul, Int.reduceSub, Int.reduceAdd, lnV, len_l, len_t, len_sc]
      refine ⟨by decide, c_bound fun b2 h3 h4 => ?_⟩
      simp only [wSs, wS, wE, wEs, wT, wTs, wG, wGs, wI, wO, rdV, bind0, d_val, d_own, tru_bl, tru_non, tru_int, tru_lst, tru_tup, ix_l, ix_t, at_0, at_1, at_2, op_add, op_sub, op_mod, op_div, cm_lt, cm_le, cm_gt, cm_ge, List.map_cons, List.map_nil, List.cons_append, List.nil_append, List.length_cons, List.length_nil, List.replicate, List.append_nil, List.set_cons_zero, List.set_cons_succ, List.getElem?_cons_zero, List.getElem?_cons_succ, Option.some.injEq, exists_eq_left', true_and, and_true, if_true, if_false, Bool.false_eq_true, R.val.injEq, D.int.injEq, Nat.zero_add, Nat.reduceAdd, Nat.reduceSub, Nat.reduceLT, Nat.reduceLeDiff, Nat.reduceEqDiff, Bool.not_true, Bool.not_false, Bool.and_true, Bool.true_and, Bool.and_false, Bool.false_and, Int.reduceLT, Int.reduceLE, Int.reduceNeg, Int.reducePow, Int.reduceToNat, Int.reduceMul, Int.reduceSub, Int.reduceAdd, lnV, len_l, len_t, len_sc]
      refine ⟨by decide, c_rest fun m1 r1 h5 => ?_⟩
      simp only [wSs, wS, wE, wEs, wT, wTs, wG, wGs, wI, wO, rdV, bind0, d_val, d_own, tru_bl, tru_non, tru_int, tru_lst, tru_tup, ix_l, ix_t, at_0, at_1, at_2, op_add, op_sub, op_mod, op_div, cm_lt, cm_le, cm_gt, cm_ge, List.map_cons, List.map_nil, List.cons_append, List.nil_append, List.length_cons, List.length_nil, List.replicate, List.append_nil, List.set_cons_zero, List.set_cons_succ, List.getElem?_cons_zero, List.getElem?_cons_succ, Option.some.injEq, exists_eq_left', true_and, and_true, if_true, if_false, Bool.false_eq_true, R.val.injEq, D.int.injEq, Nat.zero_add, Nat.reduceAdd, Nat.reduceSub, Nat.reduceLT, Nat.reduceLeDiff, Nat.reduceEqDiff, Bool.not_true, Bool.not_false, Bool.and_true, Bool.true_and, Bool.and_false, Bool.false_and, Int.reduceLT, Int.reduceLE, Int.reduceNeg, Int.reducePow, Int.reduceToNat, Int.reduceMul, Int.reduceSub, Int.reduceAdd, lnV, len_l, len_t, len_sc]
      refine ⟨by decide, by decide, c_rest fun m2 r2 h6 => ?_⟩
      simp only [wSs, wS, wE, wEs, wT, wTs, wG, wGs, wI, wO, rdV, bind0, d_val, d_own, tru_bl, tru_non, tru_int, tru_lst, tru_tup, ix_l, ix_t, at_0, at_1, at_2, op_add, op_sub, op_mod, op_div, cm_lt, cm_le, cm_gt, cm_ge, List.map_cons, List.map_nil, List.cons_append, List.nil_append, List.length_cons, List.length_nil, List.replicate, List.append_nil, List.set_cons_zero, List.set_cons_succ, List.getElem?_cons_zero, List.getElem?_cons_succ, Option.some.injEq, exists_eq_left', true_and, and_true, if_true, if_false, Bool.false_eq_true, R.val.injEq, D.int.injEq, Nat.zero_add, Nat.reduceAdd, Nat.reduceSub, Nat.reduceLT, Nat.reduceLeDiff, Nat.reduceEqDiff, Bool.not_true, Bool.not_false, Bool.and_true, Bool.true_and, Bool.and_false, Bool.false_and, Int.reduceLT, Int.reduceLE, Int.reduceNeg, Int.reducePow, Int.reduceToNat, Int.reduceMul, Int.reduceSub, Int.reduceAdd, lnV, len_l, len_t, len_sc]
      refine ⟨by show 6 ≤ lim; decide, mem_at (Int.emod_nonneg _ (by decide)) (Int.emod_lt_of_pos _ (by decide)) fun x hx => ?_⟩
      simp only [List.mem_cons, List.not_mem_nil, or_false] at hx
      rcases hx with rfl | rfl | rfl | rfl | rfl | rfl
      · exact h (.fr b1) ⟨h1, h2⟩ (Nat.zero_le _)
      · exact h (.to b2) ⟨h3, h4⟩ (Nat.zero_le _)
      · exact h _ h5 (Nat.zero_le _)
      · exact h .al True.intro (Nat.zero_le _)
      · exact h .no True.intro (Nat.zero_le _)
      · exact h _ h6 (Nat.zero_le _)
    have up : EdLe { nx := fun _ => False, rt := Q, bk := fun _ => False, ct := fun _ => False, ex := fun x _ => False } { nx := fun r1 => wSs prI.P (Fk (k + 2)) (fd__law_saying.body.drop 2) r1 { nx := fun _ => Q (.val .non), rt := Q, bk := fun _ => False, ct := fun _ => False, ex := fun x _ => E x }, rt := Q, bk := fun _ => False, ct := fun _ => False, ex := fun x _ => E x } :=
      ⟨fun _ z => z.elim, fun _ z => z, fun _ z => z, fun _ z => z, fun _ _ z => z.elim⟩
    by_cases h0 : n = 0
    · exact p_ift mk (q_ort mk (q_cmp rfl (eq_t (by omega)))) (monoSs mk _ up leaf)
    by_cases h6 : w < 6
    · exact p_ift mk (q_or mk (q_cmp rfl (eq_f (by omega))) (q_cmp rfl (lt_t h6))) (monoSs mk _ up leaf)
    refine p_skip mk (q_or mk (q_cmp rfl (eq_f (by omega))) (q_cmp rfl (lt_f h6))) ?_
    obtain ⟨m, rfl⟩ : ∃ m, n = m + 1 := ⟨n - 1, by omega⟩
    have em : (((m + 1 : Nat) : Int) - 1) = (m : Int) := by omega
    have sub : ∀ {Q' : R → Prop}, (∀ s : Sg, s.ok → s.dp ≤ m → Q' (.val s.enc)) → Fk (k + 2) i__law_saying [.pot, .int (((m + 1 : Nat) : Int) - 1)] Q' fun _ => False := fun {Q'} hq => by
      rw [em]
      exact c_saying (by omega) hq
    by_cases h7 : w = 6 ∨ w = 7
    · have e7 : wT prI.P (Fk (k + 2)) (.or (.cmp .eq (.var 2) (.cst (.int 6))) (.cmp .eq (.var 2) (.cst (.int 7)))) [some (.val .pot), some (.val (.int ((m + 1 : Nat) : Int))), some (.val (.int w)), none] (fun k' r1 => k' = true ∧ r1 = [some (.val .pot), some (.val (.int ((m + 1 : Nat) : Int))), some (.val (.int w)), none]) fun _ _ => False := by
        rcases h7 with h7 | h7
        · exact q_ort mk (q_cmp rfl (eq_t h7))
        · exact q_or mk (q_cmp rfl (eq_f (by omega))) (q_cmp rfl (eq_t h7))
      refine p_ift mk e7 (p_ret mk (fun x _ => ∃ s : Sg, s.ok ∧ s.dp ≤ m ∧ x = .val (Sg.nt s).enc) ?_ ?_)
      · simp only [wSs, wS, wE, wEs, wT, wTs, wG, wGs, wI, wO, rdV, bind0, d_val, d_own, tru_bl, tru_non, tru_int, tru_lst, tru_tup, ix_l, ix_t, at_0, at_1, at_2, op_add, op_sub, op_mod, op_div, cm_lt, cm_le, cm_gt, cm_ge, List.map_cons, List.map_nil, List.cons_append, List.nil_append, List.length_cons, List.length_nil, List.replicate, List.append_nil, List.set_cons_zero, List.set_cons_succ, List.getElem?_cons_zero, List.getElem?_cons_succ, Option.some.injEq, exists_eq_left', true_and, and_true, if_true, if_false, Bool.false_eq_true, R.val.injEq, D.int.injEq, Nat.zero_add, Nat.reduceAdd, Nat.reduceSub, Nat.reduceLT, Nat.reduceLeDiff, Nat.reduceEqDiff, Bool.not_true, Bool.not_false, Bool.and_true, Bool.true_and, Bool.and_false, Bool.false_and, Int.reduceLT, Int.reduceLE, Int.reduceNeg, Int.reducePow, Int.reduceToNat, Int.reduceMul, Int.reduceSub, Int.reduceAdd, lnV, len_l, len_t, len_sc]
        refine sub fun s h1 h2 => ?_
        simp only [wSs, wS, wE, wEs, wT, wTs, wG, wGs, wI, wO, rdV, bind0, d_val, d_own, tru_bl, tru_non, tru_int, tru_lst, tru_tup, ix_l, ix_t, at_0, at_1, at_2, op_add, op_sub, op_mod, op_div, cm_lt, cm_le, cm_gt, cm_ge, List.map_cons, List.map_nil, List.cons_append, List.nil_append, List.length_cons, List.length_nil, List.replicate, List.append_nil, List.set_cons_zero, List.set_cons_succ, List.getElem?_cons_zero, List.getElem?_cons_succ, Option.some.injEq, exists_eq_left', true_and, and_true, if_true, if_false, Bool.false_eq_true, R.val.injEq, D.int.injEq, Nat.zero_add, Nat.reduceAdd, Nat.reduceSub, Nat.reduceLT, Nat.reduceLeDiff, Nat.reduceEqDiff, Bool.not_true, Bool.not_false, Bool.and_true, Bool.true_and, Bool.and_false, Bool.false_and, Int.reduceLT, Int.reduceLE, Int.reduceNeg, Int.reducePow, Int.reduceToNat, Int.reduceMul, Int.reduceSub, Int.reduceAdd, lnV, len_l, len_t, len_sc]
        exact ⟨by decide, s, h1, h2, rfl⟩
      · rintro x r1 ⟨s, h1, h2, rfl⟩
        exact h (.nt s) h1 (by simp only [Sg.dp]; omega)
    · refine p_skip mk (q_or mk (q_cmp rfl (eq_f (by omega))) (q_cmp rfl (eq_f (by omega)))) (p_ret mk (fun x _ => ∃ s t : Sg, s.ok ∧ t.ok ∧ s.dp ≤ m ∧ t.dp ≤ m ∧ (x = .val (Sg.bo s t).enc ∨ x = .val (Sg.ei s t).enc)) ?_ ?_)
      · simp only [wSs, wS, wE, wEs, wT, wTs, wG, wGs, wI, wO, rdV, bind0, d_val, d_own, tru_bl, tru_non, tru_int, tru_lst, tru_tup, ix_l, ix_t, at_0, at_1, at_2, op_add, op_sub, op_mod, op_div, cm_lt, cm_le, cm_gt, cm_ge, List.map_cons, List.map_nil, List.cons_append, List.nil_append, List.length_cons, List.length_nil, List.replicate, List.append_nil, List.set_cons_zero, List.set_cons_succ, List.getElem?_cons_zero, List.getElem?_cons_succ, Option.some.injEq, exists_eq_left', true_and, and_true, if_true, if_false, Bool.false_eq_true, R.val.injEq, D.int.injEq, Nat.zero_add, Nat.reduceAdd, Nat.reduceSub, Nat.reduceLT, Nat.reduceLeDiff, Nat.reduceEqDiff, Bool.not_true, Bool.not_false, Bool.and_true, Bool.true_and, Bool.and_false, Bool.false_and, Int.reduceLT, Int.reduceLE, Int.reduceNeg, Int.reducePow, Int.reduceToNat, Int.reduceMul, Int.reduceSub, Int.reduceAdd, lnV, len_l, len_t, len_sc]
        refine ⟨by decide, mem_at (Int.emod_nonneg _ (by decide)) (Int.emod_lt_of_pos _ (by decide)) fun z hz => sub fun s h1 h2 => ?_⟩
        simp only [wSs, wS, wE, wEs, wT, wTs, wG, wGs, wI, wO, rdV, bind0, d_val, d_own, tru_bl, tru_non, tru_int, tru_lst, tru_tup, ix_l, ix_t, at_0, at_1, at_2, op_add, op_sub, op_mod, op_div, cm_lt, cm_le, cm_gt, cm_ge, List.map_cons, List.map_nil, List.cons_append, List.nil_append, List.length_cons, List.length_nil, List.replicate, List.append_nil, List.set_cons_zero, List.set_cons_succ, List.getElem?_cons_zero, List.getElem?_cons_succ, Option.some.injEq, exists_eq_left', true_and, and_true, if_true, if_false, Bool.false_eq_true, R.val.injEq, D.int.injEq, Nat.zero_add, Nat.reduceAdd, Nat.reduceSub, Nat.reduceLT, Nat.reduceLeDiff, Nat.reduceEqDiff, Bool.not_true, Bool.not_false, Bool.and_true, Bool.true_and, Bool.and_false, Bool.false_and, Int.reduceLT, Int.reduceLE, Int.reduceNeg, Int.reducePow, Int.reduceToNat, Int.reduceMul, Int.reduceSub, Int.reduceAdd, lnV, len_l, len_t, len_sc]
        refine sub fun t h3 h4 => ?_
        simp only [wSs, wS, wE, wEs, wT, wTs, wG, wGs, wI, wO, rdV, bind0, d_val, d_own, tru_bl, tru_non, tru_int, tru_lst, tru_tup, ix_l, ix_t, at_0, at_1, at_2, op_add, op_sub, op_mod, op_div, cm_lt, cm_le, cm_gt, cm_ge, List.map_cons, List.map_nil, List.cons_append, List.nil_append, List.length_cons, List.length_nil, List.replicate, List.append_nil, List.set_cons_zero, List.set_cons_succ, List.getElem?_cons_zero, List.getElem?_cons_succ, Option.some.injEq, exists_eq_left', true_and, and_true, if_true, if_false, Bool.false_eq_true, R.val.injEq, D.int.injEq, Nat.zero_add, Nat.reduceAdd, Nat.reduceSub, Nat.reduceLT, Nat.reduceLeDiff, Nat.reduceEqDiff, Bool.not_true, Bool.not_false, Bool.and_true, Bool.true_and, Bool.and_false, Bool.false_and, Int.reduceLT, Int.reduceLE, Int.reduceNeg, Int.reducePow, Int.reduceToNat, Int.reduceMul, Int.reduceSub, Int.reduceAdd, lnV, len_l, len_t, len_sc]
        refine ⟨by show 3 ≤ lim; decide, s, t, h1, h3, h2, h4, ?_⟩
        simp only [List.mem_cons, List.not_mem_nil, or_false] at hz
        rcases hz with rfl | rfl
        · exact .inl rfl
        · exact .inr rfl
      · rintro x r1 ⟨s, t, h1, h2, h3, h4, h5⟩
        rcases h5 with rfl | rfl
        · exact h (.bo s t) ⟨h1, h2⟩ (by simp only [Sg.dp]; omega)
        · exact h (.ei s t) ⟨h1, h2⟩ (by simp only [Sg.dp]; omega)
theorem no_own {r : PL.Env} {v : Nat} (h : ∀ ds, r[v]? ≠ some (some (.own ds))) : noOwn r [v] := fun u hu ds => by
  have e : u = v := by simpa using hu
  rw [e]
  exact h ds
theorem sl_1 {x : D} {xs : List D} : slD (.tup (x :: xs)) (some 1) none = some (.val (.tup xs)) := by
  show some (R.val (.tup (cutD (x :: xs) (some 1) none))) = _
  rw [cut_1]
theorem enc_tup (s : Sg) : isTy s.enc .tuple = true := by cases s <;> rfl
theorem c_many : ∀ {s : Sg} {k : Nat} {Q : R → Prop} {E : Xc → Prop}, s.dp < k → Q (.val (.int (s.sz : Int))) → Fk k i__law_many_tuples [s.enc] Q E
  | s, 0, Q, E, hk, _ => by omega
  | .fr b, k + 1, Q, E, hk, h => by
    refine Fk_at (fd := fd__law_many_tuples) rfl rfl (p_retb mk ?_ h)
    simp only [fd__law_many_tuples, Sg.enc, wSs, wS, wE, wEs, wT, wTs, wG, wGs, wI, wO, rdV, bind0, d_val, d_own, tru_bl, tru_non, tru_int, tru_lst, tru_tup, ix_l, ix_t, at_0, at_1, at_2, op_add, op_sub, op_mod, op_div, cm_lt, cm_le, cm_gt, cm_ge, List.map_cons, List.map_nil, List.cons_append, List.nil_append, List.length_cons, List.length_nil, List.replicate, List.append_nil, List.set_cons_zero, List.set_cons_succ, List.getElem?_cons_zero, List.getElem?_cons_succ, Option.some.injEq, exists_eq_left', true_and, and_true, if_true, if_false, Bool.false_eq_true, R.val.injEq, D.int.injEq, Nat.zero_add, Nat.reduceAdd, Nat.reduceSub, Nat.reduceLT, Nat.reduceLeDiff, Nat.reduceEqDiff, Bool.not_true, Bool.not_false, Bool.and_true, Bool.true_and, Bool.and_false, Bool.false_and, Int.reduceLT, Int.reduceLE, Int.reduceNeg, Int.reducePow, Int.reduceToNat, Int.reduceMul, Int.reduceSub, Int.reduceAdd, lnV, len_l, len_t, len_sc, sl_1]
    refine ⟨no_own (fun ds z => by cases z), ?_⟩
    simp only [lcP, wipeR, backR, wSs, wS, wE, wEs, wT, wTs, wG, wGs, wI, wO, rdV, bind0, d_val, d_own, tru_bl, tru_non, tru_int, tru_lst, tru_tup, ix_l, ix_t, at_0, at_1, at_2, op_add, op_sub, op_mod, op_div, cm_lt, cm_le, cm_gt, cm_ge, List.map_cons, List.map_nil, List.cons_append, List.nil_append, List.length_cons, List.length_nil, List.replicate, List.append_nil, List.set_cons_zero, List.set_cons_succ, List.getElem?_cons_zero, List.getElem?_cons_succ, Option.some.injEq, exists_eq_left', true_and, and_true, if_true, if_false, Bool.false_eq_true, R.val.injEq, D.int.injEq, Nat.zero_add, Nat.reduceAdd, Nat.reduceSub, Nat.reduceLT, Nat.reduceLeDiff, Nat.reduceEqDiff, Bool.not_true, Bool.not_false, Bool.and_true, Bool.true_and, Bool.and_false, Bool.false_and, Int.reduceLT, Int.reduceLE, Int.reduceNeg, Int.reducePow, Int.reduceToNat, Int.reduceMul, Int.reduceSub, Int.reduceAdd, lnV, len_l, len_t, len_sc, isTy, biD, biSum, intsD, Option.map_some, List.sum_nil, Sg.sz]
    rfl
  | .to b, k + 1, Q, E, hk, h => by
    refine Fk_at (fd := fd__law_many_tuples) rfl rfl (p_retb mk ?_ h)
    simp only [fd__law_many_tuples, Sg.enc, wSs, wS, wE, wEs, wT, wTs, wG, wGs, wI, wO, rdV, bind0, d_val, d_own, tru_bl, tru_non, tru_int, tru_lst, tru_tup, ix_l, ix_t, at_0, at_1, at_2, op_add, op_sub, op_mod, op_div, cm_lt, cm_le, cm_gt, cm_ge, List.map_cons, List.map_nil, List.cons_append, List.nil_append, List.length_cons, List.length_nil, List.replicate, List.append_nil, List.set_cons_zero, List.set_cons_succ, List.getElem?_cons_zero, List.getElem?_cons_succ, Option.some.injEq, exists_eq_left', true_and, and_true, if_true, if_false, Bool.false_eq_true, R.val.injEq, D.int.injEq, Nat.zero_add, Nat.reduceAdd, Nat.reduceSub, Nat.reduceLT, Nat.reduceLeDiff, Nat.reduceEqDiff, Bool.not_true, Bool.not_false, Bool.and_true, Bool.true_and, Bool.and_false, Bool.false_and, Int.reduceLT, Int.reduceLE, Int.reduceNeg, Int.reducePow, Int.reduceToNat, Int.reduceMul, Int.reduceSub, Int.reduceAdd, lnV, len_l, len_t, len_sc, sl_1]
    refine ⟨no_own (fun ds z => by cases z), ?_⟩
    simp only [lcP, wipeR, backR, wSs, wS, wE, wEs, wT, wTs, wG, wGs, wI, wO, rdV, bind0, d_val, d_own, tru_bl, tru_non, tru_int, tru_lst, tru_tup, ix_l, ix_t, at_0, at_1, at_2, op_add, op_sub, op_mod, op_div, cm_lt, cm_le, cm_gt, cm_ge, List.map_cons, List.map_nil, List.cons_append, List.nil_append, List.length_cons, List.length_nil, List.replicate, List.append_nil, List.set_cons_zero, List.set_cons_succ, List.getElem?_cons_zero, List.getElem?_cons_succ, Option.some.injEq, exists_eq_left', true_and, and_true, if_true, if_false, Bool.false_eq_true, R.val.injEq, D.int.injEq, Nat.zero_add, Nat.reduceAdd, Nat.reduceSub, Nat.reduceLT, Nat.reduceLeDiff, Nat.reduceEqDiff, Bool.not_true, Bool.not_false, Bool.and_true, Bool.true_and, Bool.and_false, Bool.false_and, Int.reduceLT, Int.reduceLE, Int.reduceNeg, Int.reducePow, Int.reduceToNat, Int.reduceMul, Int.reduceSub, Int.reduceAdd, lnV, len_l, len_t, len_sc, isTy, biD, biSum, intsD, Option.map_some, List.sum_nil, Sg.sz]
    rfl
  | .rs m q, k + 1, Q, E, hk, h => by
    refine Fk_at (fd := fd__law_many_tuples) rfl rfl (p_retb mk ?_ h)
    simp only [fd__law_many_tuples, Sg.enc, wSs, wS, wE, wEs, wT, wTs, wG, wGs, wI, wO, rdV, bind0, d_val, d_own, tru_bl, tru_non, tru_int, tru_lst, tru_tup, ix_l, ix_t, at_0, at_1, at_2, op_add, op_sub, op_mod, op_div, cm_lt, cm_le, cm_gt, cm_ge, List.map_cons, List.map_nil, List.cons_append, List.nil_append, List.length_cons, List.length_nil, List.replicate, List.append_nil, List.set_cons_zero, List.set_cons_succ, List.getElem?_cons_zero, List.getElem?_cons_succ, Option.some.injEq, exists_eq_left', true_and, and_true, if_true, if_false, Bool.false_eq_true, R.val.injEq, D.int.injEq, Nat.zero_add, Nat.reduceAdd, Nat.reduceSub, Nat.reduceLT, Nat.reduceLeDiff, Nat.reduceEqDiff, Bool.not_true, Bool.not_false, Bool.and_true, Bool.true_and, Bool.and_false, Bool.false_and, Int.reduceLT, Int.reduceLE, Int.reduceNeg, Int.reducePow, Int.reduceToNat, Int.reduceMul, Int.reduceSub, Int.reduceAdd, lnV, len_l, len_t, len_sc, sl_1]
    refine ⟨no_own (fun ds z => by cases z), ?_⟩
    simp only [lcP, wipeR, backR, wSs, wS, wE, wEs, wT, wTs, wG, wGs, wI, wO, rdV, bind0, d_val, d_own, tru_bl, tru_non, tru_int, tru_lst, tru_tup, ix_l, ix_t, at_0, at_1, at_2, op_add, op_sub, op_mod, op_div, cm_lt, cm_le, cm_gt, cm_ge, List.map_cons, List.map_nil, List.cons_append, List.nil_append, List.length_cons, List.length_nil, List.replicate, List.append_nil, List.set_cons_zero, List.set_cons_succ, List.getElem?_cons_zero, List.getElem?_cons_succ, Option.some.injEq, exists_eq_left', true_and, and_true, if_true, if_false, Bool.false_eq_true, R.val.injEq, D.int.injEq, Nat.zero_add, Nat.reduceAdd, Nat.reduceSub, Nat.reduceLT, Nat.reduceLeDiff, Nat.reduceEqDiff, Bool.not_true, Bool.not_false, Bool.and_true, Bool.true_and, Bool.and_false, Bool.false_and, Int.reduceLT, Int.reduceLE, Int.reduceNeg, Int.reducePow, Int.reduceToNat, Int.reduceMul, Int.reduceSub, Int.reduceAdd, lnV, len_l, len_t, len_sc, isTy, biD, biSum, intsD, Option.map_some, List.sum_nil, Sg.sz]
    rfl
  | .al, k + 1, Q, E, hk, h => by
    refine Fk_at (fd := fd__law_many_tuples) rfl rfl (p_retb mk ?_ h)
    simp only [fd__law_many_tuples, Sg.enc, wSs, wS, wE, wEs, wT, wTs, wG, wGs, wI, wO, rdV, bind0, d_val, d_own, tru_bl, tru_non, tru_int, tru_lst, tru_tup, ix_l, ix_t, at_0, at_1, at_2, op_add, op_sub, op_mod, op_div, cm_lt, cm_le, cm_gt, cm_ge, List.map_cons, List.map_nil, List.cons_append, List.nil_append, List.length_cons, List.length_nil, List.replicate, List.append_nil, List.set_cons_zero, List.set_cons_succ, List.getElem?_cons_zero, List.getElem?_cons_succ, Option.some.injEq, exists_eq_left', true_and, and_true, if_true, if_false, Bool.false_eq_true, R.val.injEq, D.int.injEq, Nat.zero_add, Nat.reduceAdd, Nat.reduceSub, Nat.reduceLT, Nat.reduceLeDiff, Nat.reduceEqDiff, Bool.not_true, Bool.not_false, Bool.and_true, Bool.true_and, Bool.and_false, Bool.false_and, Int.reduceLT, Int.reduceLE, Int.reduceNeg, Int.reducePow, Int.reduceToNat, Int.reduceMul, Int.reduceSub, Int.reduceAdd, lnV, len_l, len_t, len_sc, sl_1]
    refine ⟨no_own (fun ds z => by cases z), ?_⟩
    simp only [lcP, wipeR, backR, wSs, wS, wE, wEs, wT, wTs, wG, wGs, wI, wO, rdV, bind0, d_val, d_own, tru_bl, tru_non, tru_int, tru_lst, tru_tup, ix_l, ix_t, at_0, at_1, at_2, op_add, op_sub, op_mod, op_div, cm_lt, cm_le, cm_gt, cm_ge, List.map_cons, List.map_nil, List.cons_append, List.nil_append, List.length_cons, List.length_nil, List.replicate, List.append_nil, List.set_cons_zero, List.set_cons_succ, List.getElem?_cons_zero, List.getElem?_cons_succ, Option.some.injEq, exists_eq_left', true_and, and_true, if_true, if_false, Bool.false_eq_true, R.val.injEq, D.int.injEq, Nat.zero_add, Nat.reduceAdd, Nat.reduceSub, Nat.reduceLT, Nat.reduceLeDiff, Nat.reduceEqDiff, Bool.not_true, Bool.not_false, Bool.and_true, Bool.true_and, Bool.and_false, Bool.false_and, Int.reduceLT, Int.reduceLE, Int.reduceNeg, Int.reducePow, Int.reduceToNat, Int.reduceMul, Int.reduceSub, Int.reduceAdd, lnV, len_l, len_t, len_sc, isTy, biD, biSum, intsD, Option.map_some, List.sum_nil, Sg.sz]
    rfl
  | .no, k + 1, Q, E, hk, h => by
    refine Fk_at (fd := fd__law_many_tuples) rfl rfl (p_retb mk ?_ h)
    simp only [fd__law_many_tuples, Sg.enc, wSs, wS, wE, wEs, wT, wTs, wG, wGs, wI, wO, rdV, bind0, d_val, d_own, tru_bl, tru_non, tru_int, tru_lst, tru_tup, ix_l, ix_t, at_0, at_1, at_2, op_add, op_sub, op_mod, op_div, cm_lt, cm_le, cm_gt, cm_ge, List.map_cons, List.map_nil, List.cons_append, List.nil_append, List.length_cons, List.length_nil, List.replicate, List.append_nil, List.set_cons_zero, List.set_cons_succ, List.getElem?_cons_zero, List.getElem?_cons_succ, Option.some.injEq, exists_eq_left', true_and, and_true, if_true, if_false, Bool.false_eq_true, R.val.injEq, D.int.injEq, Nat.zero_add, Nat.reduceAdd, Nat.reduceSub, Nat.reduceLT, Nat.reduceLeDiff, Nat.reduceEqDiff, Bool.not_true, Bool.not_false, Bool.and_true, Bool.true_and, Bool.and_false, Bool.false_and, Int.reduceLT, Int.reduceLE, Int.reduceNeg, Int.reducePow, Int.reduceToNat, Int.reduceMul, Int.reduceSub, Int.reduceAdd, lnV, len_l, len_t, len_sc, sl_1]
    refine ⟨no_own (fun ds z => by cases z), ?_⟩
    simp only [lcP, wipeR, backR, wSs, wS, wE, wEs, wT, wTs, wG, wGs, wI, wO, rdV, bind0, d_val, d_own, tru_bl, tru_non, tru_int, tru_lst, tru_tup, ix_l, ix_t, at_0, at_1, at_2, op_add, op_sub, op_mod, op_div, cm_lt, cm_le, cm_gt, cm_ge, List.map_cons, List.map_nil, List.cons_append, List.nil_append, List.length_cons, List.length_nil, List.replicate, List.append_nil, List.set_cons_zero, List.set_cons_succ, List.getElem?_cons_zero, List.getElem?_cons_succ, Option.some.injEq, exists_eq_left', true_and, and_true, if_true, if_false, Bool.false_eq_true, R.val.injEq, D.int.injEq, Nat.zero_add, Nat.reduceAdd, Nat.reduceSub, Nat.reduceLT, Nat.reduceLeDiff, Nat.reduceEqDiff, Bool.not_true, Bool.not_false, Bool.and_true, Bool.true_and, Bool.and_false, Bool.false_and, Int.reduceLT, Int.reduceLE, Int.reduceNeg, Int.reducePow, Int.reduceToNat, Int.reduceMul, Int.reduceSub, Int.reduceAdd, lnV, len_l, len_t, len_sc, isTy, biD, biSum, intsD, Option.map_some, List.sum_nil, Sg.sz]
    rfl
  | .nt s, k + 1, Q, E, hk, h => by
    simp only [Sg.dp] at hk
    refine Fk_at (fd := fd__law_many_tuples) rfl rfl (p_retb mk ?_ h)
    simp only [fd__law_many_tuples, Sg.enc, wSs, wS, wE, wEs, wT, wTs, wG, wGs, wI, wO, rdV, bind0, d_val, d_own, tru_bl, tru_non, tru_int, tru_lst, tru_tup, ix_l, ix_t, at_0, at_1, at_2, op_add, op_sub, op_mod, op_div, cm_lt, cm_le, cm_gt, cm_ge, List.map_cons, List.map_nil, List.cons_append, List.nil_append, List.length_cons, List.length_nil, List.replicate, List.append_nil, List.set_cons_zero, List.set_cons_succ, List.getElem?_cons_zero, List.getElem?_cons_succ, Option.some.injEq, exists_eq_left', true_and, and_true, if_true, if_false, Bool.false_eq_true, R.val.injEq, D.int.injEq, Nat.zero_add, Nat.reduceAdd, Nat.reduceSub, Nat.reduceLT, Nat.reduceLeDiff, Nat.reduceEqDiff, Bool.not_true, Bool.not_false, Bool.and_true, Bool.true_and, Bool.and_false, Bool.false_and, Int.reduceLT, Int.reduceLE, Int.reduceNeg, Int.reducePow, Int.reduceToNat, Int.reduceMul, Int.reduceSub, Int.reduceAdd, lnV, len_l, len_t, len_sc, sl_1]
    refine ⟨no_own (fun ds z => by cases z), ?_⟩
    simp only [lcP, wipeR, backR, wSs, wS, wE, wEs, wT, wTs, wG, wGs, wI, wO, rdV, bind0, d_val, d_own, tru_bl, tru_non, tru_int, tru_lst, tru_tup, ix_l, ix_t, at_0, at_1, at_2, op_add, op_sub, op_mod, op_div, cm_lt, cm_le, cm_gt, cm_ge, List.map_cons, List.map_nil, List.cons_append, List.nil_append, List.length_cons, List.length_nil, List.replicate, List.append_nil, List.set_cons_zero, List.set_cons_succ, List.getElem?_cons_zero, List.getElem?_cons_succ, Option.some.injEq, exists_eq_left', true_and, and_true, if_true, if_false, Bool.false_eq_true, R.val.injEq, D.int.injEq, Nat.zero_add, Nat.reduceAdd, Nat.reduceSub, Nat.reduceLT, Nat.reduceLeDiff, Nat.reduceEqDiff, Bool.not_true, Bool.not_false, Bool.and_true, Bool.true_and, Bool.and_false, Bool.false_and, Int.reduceLT, Int.reduceLE, Int.reduceNeg, Int.reducePow, Int.reduceToNat, Int.reduceMul, Int.reduceSub, Int.reduceAdd, lnV, len_l, len_t, len_sc, enc_tup]
    refine c_many (s := s) (k := k) (by omega) ⟨by decide, ?_⟩
    simp only [lcP, wipeR, backR, wSs, wS, wE, wEs, wT, wTs, wG, wGs, wI, wO, rdV, bind0, d_val, d_own, tru_bl, tru_non, tru_int, tru_lst, tru_tup, ix_l, ix_t, at_0, at_1, at_2, op_add, op_sub, op_mod, op_div, cm_lt, cm_le, cm_gt, cm_ge, List.map_cons, List.map_nil, List.cons_append, List.nil_append, List.length_cons, List.length_nil, List.replicate, List.append_nil, List.set_cons_zero, List.set_cons_succ, List.getElem?_cons_zero, List.getElem?_cons_succ, Option.some.injEq, exists_eq_left', true_and, and_true, if_true, if_false, Bool.false_eq_true, R.val.injEq, D.int.injEq, Nat.zero_add, Nat.reduceAdd, Nat.reduceSub, Nat.reduceLT, Nat.reduceLeDiff, Nat.reduceEqDiff, Bool.not_true, Bool.not_false, Bool.and_true, Bool.true_and, Bool.and_false, Bool.false_and, Int.reduceLT, Int.reduceLE, Int.reduceNeg, Int.reducePow, Int.reduceToNat, Int.reduceMul, Int.reduceSub, Int.reduceAdd, lnV, len_l, len_t, len_sc, biD, biSum, intsD, Option.map_some, List.sum_cons, List.sum_nil, Sg.sz]
    omega
  | .bo s t, k + 1, Q, E, hk, h => by
    simp only [Sg.dp] at hk
    refine Fk_at (fd := fd__law_many_tuples) rfl rfl (p_retb mk ?_ h)
    simp only [fd__law_many_tuples, Sg.enc, wSs, wS, wE, wEs, wT, wTs, wG, wGs, wI, wO, rdV, bind0, d_val, d_own, tru_bl, tru_non, tru_int, tru_lst, tru_tup, ix_l, ix_t, at_0, at_1, at_2, op_add, op_sub, op_mod, op_div, cm_lt, cm_le, cm_gt, cm_ge, List.map_cons, List.map_nil, List.cons_append, List.nil_append, List.length_cons, List.length_nil, List.replicate, List.append_nil, List.set_cons_zero, List.set_cons_succ, List.getElem?_cons_zero, List.getElem?_cons_succ, Option.some.injEq, exists_eq_left', true_and, and_true, if_true, if_false, Bool.false_eq_true, R.val.injEq, D.int.injEq, Nat.zero_add, Nat.reduceAdd, Nat.reduceSub, Nat.reduceLT, Nat.reduceLeDiff, Nat.reduceEqDiff, Bool.not_true, Bool.not_false, Bool.and_true, Bool.true_and, Bool.and_false, Bool.false_and, Int.reduceLT, Int.reduceLE, Int.reduceNeg, Int.reducePow, Int.reduceToNat, Int.reduceMul, Int.reduceSub, Int.reduceAdd, lnV, len_l, len_t, len_sc, sl_1]
    refine ⟨no_own (fun ds z => by cases z), ?_⟩
    simp only [lcP, wipeR, backR, wSs, wS, wE, wEs, wT, wTs, wG, wGs, wI, wO, rdV, bind0, d_val, d_own, tru_bl, tru_non, tru_int, tru_lst, tru_tup, ix_l, ix_t, at_0, at_1, at_2, op_add, op_sub, op_mod, op_div, cm_lt, cm_le, cm_gt, cm_ge, List.map_cons, List.map_nil, List.cons_append, List.nil_append, List.length_cons, List.length_nil, List.replicate, List.append_nil, List.set_cons_zero, List.set_cons_succ, List.getElem?_cons_zero, List.getElem?_cons_succ, Option.some.injEq, exists_eq_left', true_and, and_true, if_true, if_false, Bool.false_eq_true, R.val.injEq, D.int.injEq, Nat.zero_add, Nat.reduceAdd, Nat.reduceSub, Nat.reduceLT, Nat.reduceLeDiff, Nat.reduceEqDiff, Bool.not_true, Bool.not_false, Bool.and_true, Bool.true_and, Bool.and_false, Bool.false_and, Int.reduceLT, Int.reduceLE, Int.reduceNeg, Int.reducePow, Int.reduceToNat, Int.reduceMul, Int.reduceSub, Int.reduceAdd, lnV, len_l, len_t, len_sc, enc_tup]
    refine c_many (s := s) (k := k) (by omega) ⟨by decide, ?_⟩
    simp only [lcP, wipeR, backR, wSs, wS, wE, wEs, wT, wTs, wG, wGs, wI, wO, rdV, bind0, d_val, d_own, tru_bl, tru_non, tru_int, tru_lst, tru_tup, ix_l, ix_t, at_0, at_1, at_2, op_add, op_sub, op_mod, op_div, cm_lt, cm_le, cm_gt, cm_ge, List.map_cons, List.map_nil, List.cons_append, List.nil_append, List.length_cons, List.length_nil, List.replicate, List.append_nil, List.set_cons_zero, List.set_cons_succ, List.getElem?_cons_zero, List.getElem?_cons_succ, Option.some.injEq, exists_eq_left', true_and, and_true, if_true, if_false, Bool.false_eq_true, R.val.injEq, D.int.injEq, Nat.zero_add, Nat.reduceAdd, Nat.reduceSub, Nat.reduceLT, Nat.reduceLeDiff, Nat.reduceEqDiff, Bool.not_true, Bool.not_false, Bool.and_true, Bool.true_and, Bool.and_false, Bool.false_and, Int.reduceLT, Int.reduceLE, Int.reduceNeg, Int.reducePow, Int.reduceToNat, Int.reduceMul, Int.reduceSub, Int.reduceAdd, lnV, len_l, len_t, len_sc, enc_tup]
    refine c_many (s := t) (k := k) (by omega) ⟨by show 1 < lim; decide, ?_⟩
    simp only [lcP, wipeR, backR, wSs, wS, wE, wEs, wT, wTs, wG, wGs, wI, wO, rdV, bind0, d_val, d_own, tru_bl, tru_non, tru_int, tru_lst, tru_tup, ix_l, ix_t, at_0, at_1, at_2, op_add, op_sub, op_mod, op_div, cm_lt, cm_le, cm_gt, cm_ge, List.map_cons, List.map_nil, List.cons_append, List.nil_append, List.length_cons, List.length_nil, List.replicate, List.append_nil, List.set_cons_zero, List.set_cons_succ, List.getElem?_cons_zero, List.getElem?_cons_succ, Option.some.injEq, exists_eq_left', true_and, and_true, if_true, if_false, Bool.false_eq_true, R.val.injEq, D.int.injEq, Nat.zero_add, Nat.reduceAdd, Nat.reduceSub, Nat.reduceLT, Nat.reduceLeDiff, Nat.reduceEqDiff, Bool.not_true, Bool.not_false, Bool.and_true, Bool.true_and, Bool.and_false, Bool.false_and, Int.reduceLT, Int.reduceLE, Int.reduceNeg, Int.reducePow, Int.reduceToNat, Int.reduceMul, Int.reduceSub, Int.reduceAdd, lnV, len_l, len_t, len_sc, biD, biSum, intsD, Option.map_some, List.sum_cons, List.sum_nil, Sg.sz]
    omega
  | .ei s t, k + 1, Q, E, hk, h => by
    simp only [Sg.dp] at hk
    refine Fk_at (fd := fd__law_many_tuples) rfl rfl (p_retb mk ?_ h)
    simp only [fd__law_many_tuples, Sg.enc, wSs, wS, wE, wEs, wT, wTs, wG, wGs, wI, wO, rdV, bind0, d_val, d_own, tru_bl, tru_non, tru_int, tru_lst, tru_tup, ix_l, ix_t, at_0, at_1, at_2, op_add, op_sub, op_mod, op_div, cm_lt, cm_le, cm_gt, cm_ge, List.map_cons, List.map_nil, List.cons_append, List.nil_append, List.length_cons, List.length_nil, List.replicate, List.append_nil, List.set_cons_zero, List.set_cons_succ, List.getElem?_cons_zero, List.getElem?_cons_succ, Option.some.injEq, exists_eq_left', true_and, and_true, if_true, if_false, Bool.false_eq_true, R.val.injEq, D.int.injEq, Nat.zero_add, Nat.reduceAdd, Nat.reduceSub, Nat.reduceLT, Nat.reduceLeDiff, Nat.reduceEqDiff, Bool.not_true, Bool.not_false, Bool.and_true, Bool.true_and, Bool.and_false, Bool.false_and, Int.reduceLT, Int.reduceLE, Int.reduceNeg, Int.reducePow, Int.reduceToNat, Int.reduceMul, Int.reduceSub, Int.reduceAdd, lnV, len_l, len_t, len_sc, sl_1]
    refine ⟨no_own (fun ds z => by cases z), ?_⟩
    simp only [lcP, wipeR, backR, wSs, wS, wE, wEs, wT, wTs, wG, wGs, wI, wO, rdV, bind0, d_val, d_own, tru_bl, tru_non, tru_int, tru_lst, tru_tup, ix_l, ix_t, at_0, at_1, at_2, op_add, op_sub, op_mod, op_div, cm_lt, cm_le, cm_gt, cm_ge, List.map_cons, List.map_nil, List.cons_append, List.nil_append, List.length_cons, List.length_nil, List.replicate, List.append_nil, List.set_cons_zero, List.set_cons_succ, List.getElem?_cons_zero, List.getElem?_cons_succ, Option.some.injEq, exists_eq_left', true_and, and_true, if_true, if_false, Bool.false_eq_true, R.val.injEq, D.int.injEq, Nat.zero_add, Nat.reduceAdd, Nat.reduceSub, Nat.reduceLT, Nat.reduceLeDiff, Nat.reduceEqDiff, Bool.not_true, Bool.not_false, Bool.and_true, Bool.true_and, Bool.and_false, Bool.false_and, Int.reduceLT, Int.reduceLE, Int.reduceNeg, Int.reducePow, Int.reduceToNat, Int.reduceMul, Int.reduceSub, Int.reduceAdd, lnV, len_l, len_t, len_sc, enc_tup]
    refine c_many (s := s) (k := k) (by omega) ⟨by decide, ?_⟩
    simp only [lcP, wipeR, backR, wSs, wS, wE, wEs, wT, wTs, wG, wGs, wI, wO, rdV, bind0, d_val, d_own, tru_bl, tru_non, tru_int, tru_lst, tru_tup, ix_l, ix_t, at_0, at_1, at_2, op_add, op_sub, op_mod, op_div, cm_lt, cm_le, cm_gt, cm_ge, List.map_cons, List.map_nil, List.cons_append, List.nil_append, List.length_cons, List.length_nil, List.replicate, List.append_nil, List.set_cons_zero, List.set_cons_succ, List.getElem?_cons_zero, List.getElem?_cons_succ, Option.some.injEq, exists_eq_left', true_and, and_true, if_true, if_false, Bool.false_eq_true, R.val.injEq, D.int.injEq, Nat.zero_add, Nat.reduceAdd, Nat.reduceSub, Nat.reduceLT, Nat.reduceLeDiff, Nat.reduceEqDiff, Bool.not_true, Bool.not_false, Bool.and_true, Bool.true_and, Bool.and_false, Bool.false_and, Int.reduceLT, Int.reduceLE, Int.reduceNeg, Int.reducePow, Int.reduceToNat, Int.reduceMul, Int.reduceSub, Int.reduceAdd, lnV, len_l, len_t, len_sc, enc_tup]
    refine c_many (s := t) (k := k) (by omega) ⟨by show 1 < lim; decide, ?_⟩
    simp only [lcP, wipeR, backR, wSs, wS, wE, wEs, wT, wTs, wG, wGs, wI, wO, rdV, bind0, d_val, d_own, tru_bl, tru_non, tru_int, tru_lst, tru_tup, ix_l, ix_t, at_0, at_1, at_2, op_add, op_sub, op_mod, op_div, cm_lt, cm_le, cm_gt, cm_ge, List.map_cons, List.map_nil, List.cons_append, List.nil_append, List.length_cons, List.length_nil, List.replicate, List.append_nil, List.set_cons_zero, List.set_cons_succ, List.getElem?_cons_zero, List.getElem?_cons_succ, Option.some.injEq, exists_eq_left', true_and, and_true, if_true, if_false, Bool.false_eq_true, R.val.injEq, D.int.injEq, Nat.zero_add, Nat.reduceAdd, Nat.reduceSub, Nat.reduceLT, Nat.reduceLeDiff, Nat.reduceEqDiff, Bool.not_true, Bool.not_false, Bool.and_true, Bool.true_and, Bool.and_false, Bool.false_and, Int.reduceLT, Int.reduceLE, Int.reduceNeg, Int.reducePow, Int.reduceToNat, Int.reduceMul, Int.reduceSub, Int.reduceAdd, lnV, len_l, len_t, len_sc, biD, biSum, intsD, Option.map_some, List.sum_cons, List.sum_nil, Sg.sz]
    omega
/-! ### a saying is known -/
theorem q_c1 {F : Fn} {P : Pg} {a b : Option R} {w : D} {ds : List D} {f : Nat} {t : Bool} {E : Xc → PL.Env → Prop} (mF : FMono F) (h : F f [w, .lst ds] (fun x => x = .val (.bl t)) fun _ => False) :
    wT P F (.call f [.var 2, .var 3]) [a, b, some (.val w), some (.own ds)] (fun k r1 => k = t ∧ r1 = [a, b, some (.val w), some (.val (.lst ds))]) E := by
  simp only [wSs, wS, wE, wEs, wT, wTs, wG, wGs, wI, wO, rdV, bind0, d_val, d_own, tru_bl, tru_non, tru_int, tru_lst, tru_tup, ix_l, ix_t, at_0, at_1, at_2, op_add, op_sub, op_mod, op_div, cm_lt, cm_le, cm_gt, cm_ge, List.map_cons, List.map_nil, List.cons_append, List.nil_append, List.length_cons, List.length_nil, List.replicate, List.append_nil, List.set_cons_zero, List.set_cons_succ, List.getElem?_cons_zero, List.getElem?_cons_succ, Option.some.injEq, exists_eq_left', true_and, and_true, if_true, if_false, Bool.false_eq_true, R.val.injEq, D.int.injEq, Nat.zero_add, Nat.reduceAdd, Nat.reduceSub, Nat.reduceLT, Nat.reduceLeDiff, Nat.reduceEqDiff, Bool.not_true, Bool.not_false, Bool.and_true, Bool.true_and, Bool.and_false, Bool.false_and, Int.reduceLT, Int.reduceLE, Int.reduceNeg, Int.reducePow, Int.reduceToNat, Int.reduceMul, Int.reduceSub, Int.reduceAdd, lnV, len_l, len_t, len_sc]
  refine mF _ _ _ _ _ _ (fun z hz => ?_) (fun _ z => z.elim) h
  subst hz
  exact ⟨t, rfl, rfl⟩
theorem q_c2 {F : Fn} {P : Pg} {a b : Option R} {w : D} {ds : List D} {f : Nat} {t : Bool} {E : Xc → PL.Env → Prop} (mF : FMono F) (h : F f [w, .lst ds] (fun x => x = .val (.bl t)) fun _ => False) :
    wT P F (.call f [.var 2, .var 3]) [a, b, some (.val w), some (.val (.lst ds))] (fun k r1 => k = t ∧ r1 = [a, b, some (.val w), some (.val (.lst ds))]) E := by
  simp only [wSs, wS, wE, wEs, wT, wTs, wG, wGs, wI, wO, rdV, bind0, d_val, d_own, tru_bl, tru_non, tru_int, tru_lst, tru_tup, ix_l, ix_t, at_0, at_1, at_2, op_add, op_sub, op_mod, op_div, cm_lt, cm_le, cm_gt, cm_ge, List.map_cons, List.map_nil, List.cons_append, List.nil_append, List.length_cons, List.length_nil, List.replicate, List.append_nil, List.set_cons_zero, List.set_cons_succ, List.getElem?_cons_zero, List.getElem?_cons_succ, Option.some.injEq, exists_eq_left', true_and, and_true, if_true, if_false, Bool.false_eq_true, R.val.injEq, D.int.injEq, Nat.zero_add, Nat.reduceAdd, Nat.reduceSub, Nat.reduceLT, Nat.reduceLeDiff, Nat.reduceEqDiff, Bool.not_true, Bool.not_false, Bool.and_true, Bool.true_and, Bool.and_false, Bool.false_and, Int.reduceLT, Int.reduceLE, Int.reduceNeg, Int.reducePow, Int.reduceToNat, Int.reduceMul, Int.reduceSub, Int.reduceAdd, lnV, len_l, len_t, len_sc]
  refine mF _ _ _ _ _ _ (fun z hz => ?_) (fun _ z => z.elim) h
  subst hz
  exact ⟨t, rfl, rfl⟩
theorem g_left {F : Fn} {P : Pg} {w : Str} {ws : List D} {left : Int} {E : Xc → PL.Env → Prop} (hl : 0 < left) :
    wT P F (.or (.cmp .le (.var 1) (.cst (.int 0))) (.or (.not (.isi (.var 0) .tuple)) (.or (.cmp .eq (.lenv 0) (.cst (.int 0))) (.not (.isi (.ix (.var 0) (.cst (.int 0))) .str))))) [some (.val (.tup (.str w :: ws))), some (.val (.int left)), none, none]
      (fun k r1 => k = false ∧ r1 = [some (.val (.tup (.str w :: ws))), some (.val (.int left)), none, none]) E := by
  have e1 : decide (left ≤ 0) = false := decide_eq_false (by omega)
  simp only [wSs, wS, wE, wEs, wT, wTs, wG, wGs, wI, wO, rdV, bind0, d_val, d_own, tru_bl, tru_non, tru_int, tru_lst, tru_tup, ix_l, ix_t, at_0, at_1, at_2, op_add, op_sub, op_mod, op_div, cm_lt, cm_le, cm_gt, cm_ge, List.map_cons, List.map_nil, List.cons_append, List.nil_append, List.length_cons, List.length_nil, List.replicate, List.append_nil, List.set_cons_zero, List.set_cons_succ, List.getElem?_cons_zero, List.getElem?_cons_succ, Option.some.injEq, exists_eq_left', true_and, and_true, if_true, if_false, Bool.false_eq_true, R.val.injEq, D.int.injEq, Nat.zero_add, Nat.reduceAdd, Nat.reduceSub, Nat.reduceLT, Nat.reduceLeDiff, Nat.reduceEqDiff, Bool.not_true, Bool.not_false, Bool.and_true, Bool.true_and, Bool.and_false, Bool.false_and, Int.reduceLT, Int.reduceLE, Int.reduceNeg, Int.reducePow, Int.reduceToNat, Int.reduceMul, Int.reduceSub, Int.reduceAdd, lnV, len_l, len_t, len_sc, e1, isTy, biD, biLen, lenD, Option.map_some]
  refine ⟨false, eq_f (by omega), ?_⟩
  simp only [wSs, wS, wE, wEs, wT, wTs, wG, wGs, wI, wO, rdV, bind0, d_val, d_own, tru_bl, tru_non, tru_int, tru_lst, tru_tup, ix_l, ix_t, at_0, at_1, at_2, op_add, op_sub, op_mod, op_div, cm_lt, cm_le, cm_gt, cm_ge, List.map_cons, List.map_nil, List.cons_append, List.nil_append, List.length_cons, List.length_nil, List.replicate, List.append_nil, List.set_cons_zero, List.set_cons_succ, List.getElem?_cons_zero, List.getElem?_cons_succ, Option.some.injEq, exists_eq_left', true_and, and_true, if_true, if_false, Bool.false_eq_true, R.val.injEq, D.int.injEq, Nat.zero_add, Nat.reduceAdd, Nat.reduceSub, Nat.reduceLT, Nat.reduceLeDiff, Nat.reduceEqDiff, Bool.not_true, Bool.not_false, Bool.and_true, Bool.true_and, Bool.and_false, Bool.false_and, Int.reduceLT, Int.reduceLE, Int.reduceNeg, Int.reducePow, Int.reduceToNat, Int.reduceMul, Int.reduceSub, Int.reduceAdd, lnV, len_l, len_t, len_sc]
theorem l_sub {r : PL.Env} {left : Int} {ss : List Sm} {Dn : Ed} (h1 : r[1]? = some (some (.val (.int left)))) (h : Dn.rt (.val (.int (left - 1)))) : wSs prI.P (Fk k) (.ret (.bin .sub (.var 1) (.cst (.int 1))) :: ss) r Dn := by
  refine p_retb mk ?_ h
  simp only [wE, rdV, h1, wSs, wS, wE, wEs, wT, wTs, wG, wGs, wI, wO, rdV, bind0, d_val, d_own, tru_bl, tru_non, tru_int, tru_lst, tru_tup, ix_l, ix_t, at_0, at_1, at_2, op_add, op_sub, op_mod, op_div, cm_lt, cm_le, cm_gt, cm_ge, List.map_cons, List.map_nil, List.cons_append, List.nil_append, List.length_cons, List.length_nil, List.replicate, List.append_nil, List.set_cons_zero, List.set_cons_succ, List.getElem?_cons_zero, List.getElem?_cons_succ, Option.some.injEq, exists_eq_left', true_and, and_true, if_true, if_false, Bool.false_eq_true, R.val.injEq, D.int.injEq, Nat.zero_add, Nat.reduceAdd, Nat.reduceSub, Nat.reduceLT, Nat.reduceLeDiff, Nat.reduceEqDiff, Bool.not_true, Bool.not_false, Bool.and_true, Bool.true_and, Bool.and_false, Bool.false_and, Int.reduceLT, Int.reduceLE, Int.reduceNeg, Int.reducePow, Int.reduceToNat, Int.reduceMul, Int.reduceSub, Int.reduceAdd, lnV, len_l, len_t, len_sc]
end
end K12
set_option maxHeartbeats 3900000
namespace K12
open PySem PL
section
variable {k : Nat} {Q : R → Prop} {E : Xc → Prop}
theorem at_b2 (a b : Bool) (n low : Int) : (Sh.mk [a] low [] [b]).sg n = if n < low then a else b := by
  unfold Sh.sg Sh.e
  simp only [at1]
  split
  · rfl
  · rw [if_neg (by simp; omega)]
theorem two_shp {a b : Bool} {low : Int} (h : a ≠ b) (h1 : -100 ≤ low) (h2 : low ≤ 100) : Shp 100 ⟨[a], low, [], [b]⟩ := by
  refine ⟨⟨side1 a, side1 b, .inr ⟨?_, fun z => absurd rfl z⟩⟩, by simp only; omega, by simp only [Sh.e]; simp; omega⟩
  rw [at_b2, if_neg (by simp), at1]
  exact fun z => h z.symm
end
end K12
set_option maxHeartbeats 3900000
namespace K12
open PySem PL
theorem str_ok (t : List Bool) : (PyData.str (tx t)).canLay0 = true := by
  show ((tx t).cps.all (· < 0x110000)) = true
  rw [← Array.all_toList, tx_cps, List.all_map, List.all_eq_true]
  intro b _
  cases b <;> rfl
theorem fit_sh (x : Sh) : fitE 1 (encS x) = true := by
  unfold encS
  simp only [fitE, fitEs, str_ok, Bool.and_self]
theorem ok_sh (x : Sh) : okE (encS x) := okE_fit (n := 1) (fit_sh x) (by decide)
theorem all_true : ∀ t : List Bool, (t.map fun b => D.str (tx [b])).map (fun _ => D.bl true) = (t.map fun _ => true).map D.bl
  | [] => rfl
  | b :: t => by rw [List.map_cons, List.map_cons, all_true t]; rfl
section
variable {k : Nat} {Q : R → Prop} {E : Xc → Prop}
theorem c_is_side {t : List Bool} (h0 : t ≠ []) (hd : t.length ∣ 60) (h : Q (.val (.bl true))) : Fk (k + 1) i_is_side [.str (tx t)] Q E := by
  have hlim : lim = 16777216 := rfl
  have hp : 0 < t.length := List.length_pos_iff.mpr h0
  have hl : t.length ≤ 60 := dvd60 hd
  have ht : t.length ≤ 16777216 := by omega
  refine Fk_at (fd := fd_is_side) rfl rfl (p_skip (r' := [some (.val (.str (tx t))), none]) mk ?_ (p_retb mk ?_ h))
  · simp only [fd_is_side, wSs, wS, wE, wEs, wT, wTs, wG, wGs, wI, wO, rdV, bind0, d_val, d_own, tru_bl, tru_non, tru_int, tru_lst, tru_tup, ix_l, ix_t, at_0, at_1, at_2, op_add, op_sub, op_mod, op_div, cm_lt, cm_le, cm_gt, cm_ge, List.map_cons, List.map_nil, List.cons_append, List.nil_append, List.length_cons, List.length_nil, List.replicate, List.append_nil, List.set_cons_zero, List.set_cons_succ, List.getElem?_cons_zero, List.getElem?_cons_succ, Option.some.injEq, exists_eq_left', true_and, and_true, if_true, if_false, Bool.false_eq_true, R.val.injEq, D.int.injEq, Nat.zero_add, Nat.reduceAdd, Nat.reduceSub, Nat.reduceLT, Nat.reduceLeDiff, Nat.reduceEqDiff, Bool.not_true, Bool.not_false, Bool.and_true, Bool.true_and, Bool.and_false, Bool.false_and, Int.reduceLT, Int.reduceLE, Int.reduceNeg, Int.reducePow, Int.reduceToNat, Int.reduceMul, Int.reduceSub, Int.reduceAdd, lnV, len_l, len_t, len_sc, bi_ln, bi_abs, bi_max, bi_min, bi_listl, bi_listt, bi_tupl, bi_tupt, bi_intb, bi_inti, bi_all, sl_l, sl_t, cm_is, cm_isnot, is_non, is_bl, cm_eqi, cm_nei, cm_eqs, cm_nes, isTy, Option.map_some, p9, p10, p11, p18, wipeR, backR, List.getD_cons_zero, List.getD_cons_succ, len_tx ht]
    have e1 : decide ((t.length : Int) = 0) = false := decide_eq_false (by omega)
    simp only [e1, wSs, wS, wE, wEs, wT, wTs, wG, wGs, wI, wO, rdV, bind0, d_val, d_own, tru_bl, tru_non, tru_int, tru_lst, tru_tup, ix_l, ix_t, at_0, at_1, at_2, op_add, op_sub, op_mod, op_div, cm_lt, cm_le, cm_gt, cm_ge, List.map_cons, List.map_nil, List.cons_append, List.nil_append, List.length_cons, List.length_nil, List.replicate, List.append_nil, List.set_cons_zero, List.set_cons_succ, List.getElem?_cons_zero, List.getElem?_cons_succ, Option.some.injEq, exists_eq_left', true_and, and_true, if_true, if_false, Bool.false_eq_true, R.val.injEq, D.int.injEq, Nat.zero_add, Nat.reduceAdd, Nat.reduceSub, Nat.reduceLT, Nat.reduceLeDiff, Nat.reduceEqDiff, Bool.not_true, Bool.not_false, Bool.and_true, Bool.true_and, Bool.and_false, Bool.false_and, Int.reduceLT, Int.reduceLE, Int.reduceNeg, Int.reducePow, Int.reduceToNat, Int.reduceMul, Int.reduceSub, Int.reduceAdd, lnV, len_l, len_t, len_sc, bi_ln, bi_abs, bi_max, bi_min, bi_listl, bi_listt, bi_tupl, bi_tupt, bi_intb, bi_inti, bi_all, sl_l, sl_t, cm_is, cm_isnot, is_non, is_bl, cm_eqi, cm_nei, cm_eqs, cm_nes, isTy, Option.map_some, p9, p10, p11, p18, wipeR, backR, List.getD_cons_zero, List.getD_cons_succ]
    refine ⟨.int 60, by kernel_rfl, ?_⟩
    rw [op_mod (by omega)]
    have e2 : (60 : Int) % (t.length : Int) = 0 := Int.emod_eq_zero_of_dvd (by exact Int.natCast_dvd_natCast.mpr hd)
    simp only [wSs, wS, wE, wEs, wT, wTs, wG, wGs, wI, wO, rdV, bind0, d_val, d_own, tru_bl, tru_non, tru_int, tru_lst, tru_tup, ix_l, ix_t, at_0, at_1, at_2, op_add, op_sub, op_mod, op_div, cm_lt, cm_le, cm_gt, cm_ge, List.map_cons, List.map_nil, List.cons_append, List.nil_append, List.length_cons, List.length_nil, List.replicate, List.append_nil, List.set_cons_zero, List.set_cons_succ, List.getElem?_cons_zero, List.getElem?_cons_succ, Option.some.injEq, exists_eq_left', true_and, and_true, if_true, if_false, Bool.false_eq_true, R.val.injEq, D.int.injEq, Nat.zero_add, Nat.reduceAdd, Nat.reduceSub, Nat.reduceLT, Nat.reduceLeDiff, Nat.reduceEqDiff, Bool.not_true, Bool.not_false, Bool.and_true, Bool.true_and, Bool.and_false, Bool.false_and, Int.reduceLT, Int.reduceLE, Int.reduceNeg, Int.reducePow, Int.reduceToNat, Int.reduceMul, Int.reduceSub, Int.reduceAdd, lnV, len_l, len_t, len_sc, bi_ln, bi_abs, bi_max, bi_min, bi_listl, bi_listt, bi_tupl, bi_tupt, bi_intb, bi_inti, bi_all, sl_l, sl_t, cm_is, cm_isnot, is_non, is_bl, cm_eqi, cm_nei, cm_eqs, cm_nes, isTy, Option.map_some, p9, p10, p11, p18, wipeR, backR, List.getD_cons_zero, List.getD_cons_succ, e2, decide_true]
  · simp only [wSs, wS, wE, wEs, wT, wTs, wG, wGs, wI, wO, rdV, bind0, d_val, d_own, tru_bl, tru_non, tru_int, tru_lst, tru_tup, ix_l, ix_t, at_0, at_1, at_2, op_add, op_sub, op_mod, op_div, cm_lt, cm_le, cm_gt, cm_ge, List.map_cons, List.map_nil, List.cons_append, List.nil_append, List.length_cons, List.length_nil, List.replicate, List.append_nil, List.set_cons_zero, List.set_cons_succ, List.getElem?_cons_zero, List.getElem?_cons_succ, Option.some.injEq, exists_eq_left', true_and, and_true, if_true, if_false, Bool.false_eq_true, R.val.injEq, D.int.injEq, Nat.zero_add, Nat.reduceAdd, Nat.reduceSub, Nat.reduceLT, Nat.reduceLeDiff, Nat.reduceEqDiff, Bool.not_true, Bool.not_false, Bool.and_true, Bool.true_and, Bool.and_false, Bool.false_and, Int.reduceLT, Int.reduceLE, Int.reduceNeg, Int.reducePow, Int.reduceToNat, Int.reduceMul, Int.reduceSub, Int.reduceAdd, lnV, len_l, len_t, len_sc, bi_ln, bi_abs, bi_max, bi_min, bi_listl, bi_listt, bi_tupl, bi_tupt, bi_intb, bi_inti, bi_all, sl_l, sl_t, cm_is, cm_isnot, is_non, is_bl, cm_eqi, cm_nei, cm_eqs, cm_nes, isTy, Option.map_some, p9, p10, p11, p18, wipeR, backR, List.getD_cons_zero, List.getD_cons_succ, sgn_tx]
    refine ⟨fun v hv ds => by simp at hv; subst hv; simp, ?_⟩
    refine lc_map (fun _ => D.bl true) (by simp; omega) (fun d hd' kk hk' => ?_) ?_
    · obtain ⟨b, _, rfl⟩ := List.mem_map.mp hd'
      simp only [wSs, wS, wE, wEs, wT, wTs, wG, wGs, wI, wO, rdV, bind0, d_val, d_own, tru_bl, tru_non, tru_int, tru_lst, tru_tup, ix_l, ix_t, at_0, at_1, at_2, op_add, op_sub, op_mod, op_div, cm_lt, cm_le, cm_gt, cm_ge, List.map_cons, List.map_nil, List.cons_append, List.nil_append, List.length_cons, List.length_nil, List.replicate, List.append_nil, List.set_cons_zero, List.set_cons_succ, List.getElem?_cons_zero, List.getElem?_cons_succ, Option.some.injEq, exists_eq_left', true_and, and_true, if_true, if_false, Bool.false_eq_true, R.val.injEq, D.int.injEq, Nat.zero_add, Nat.reduceAdd, Nat.reduceSub, Nat.reduceLT, Nat.reduceLeDiff, Nat.reduceEqDiff, Bool.not_true, Bool.not_false, Bool.and_true, Bool.true_and, Bool.and_false, Bool.false_and, Int.reduceLT, Int.reduceLE, Int.reduceNeg, Int.reducePow, Int.reduceToNat, Int.reduceMul, Int.reduceSub, Int.reduceAdd, lnV, len_l, len_t, len_sc, bi_ln, bi_abs, bi_max, bi_min, bi_listl, bi_listt, bi_tupl, bi_tupt, bi_intb, bi_inti, bi_all, sl_l, sl_t, cm_is, cm_isnot, is_non, is_bl, cm_eqi, cm_nei, cm_eqs, cm_nes, isTy, Option.map_some, p9, p10, p11, p18, wipeR, backR, List.getD_cons_zero, List.getD_cons_succ]
      refine ⟨.str "01", by kernel_rfl, true, in_01 b, hk'⟩
    · rw [all_true]
      simp only [wSs, wS, wE, wEs, wT, wTs, wG, wGs, wI, wO, rdV, bind0, d_val, d_own, tru_bl, tru_non, tru_int, tru_lst, tru_tup, ix_l, ix_t, at_0, at_1, at_2, op_add, op_sub, op_mod, op_div, cm_lt, cm_le, cm_gt, cm_ge, List.map_cons, List.map_nil, List.cons_append, List.nil_append, List.length_cons, List.length_nil, List.replicate, List.append_nil, List.set_cons_zero, List.set_cons_succ, List.getElem?_cons_zero, List.getElem?_cons_succ, Option.some.injEq, exists_eq_left', true_and, and_true, if_true, if_false, Bool.false_eq_true, R.val.injEq, D.int.injEq, Nat.zero_add, Nat.reduceAdd, Nat.reduceSub, Nat.reduceLT, Nat.reduceLeDiff, Nat.reduceEqDiff, Bool.not_true, Bool.not_false, Bool.and_true, Bool.true_and, Bool.and_false, Bool.false_and, Int.reduceLT, Int.reduceLE, Int.reduceNeg, Int.reducePow, Int.reduceToNat, Int.reduceMul, Int.reduceSub, Int.reduceAdd, lnV, len_l, len_t, len_sc, bi_ln, bi_abs, bi_max, bi_min, bi_listl, bi_listt, bi_tupl, bi_tupt, bi_intb, bi_inti, bi_all, sl_l, sl_t, cm_is, cm_isnot, is_non, is_bl, cm_eqi, cm_nei, cm_eqs, cm_nes, isTy, Option.map_some, p9, p10, p11, p18, wipeR, backR, List.getD_cons_zero, List.getD_cons_succ]
      simp
theorem c_is_whole_int {n : Int} (h : Q (.val (.bl true))) : Fk (k + 1) i_is_whole [.int n] Q E := c_is_whole h
/-- a shape is known -/
theorem c_is_shape {B : Nat} {x : Sh} (hx : Shp B x) (hB : B ≤ 100000) (h : Q (.val (.bl true))) : Fk (k + 3) i_is_shape [encS x] Q E := by
  have hlim : lim = 16777216 := rfl
  have hml := hx.ml
  have hm : x.m.length ≤ 16777216 := by omega
  have sl := hx.c.hl
  have sr := hx.c.hr
  refine Fk_at (fd := fd_is_shape) rfl rfl (p_skip (r' := [some (.val (encS x)), none, none, none, none, none]) mk ?_ ?_)
  · simp only [fd_is_shape, encS, wSs, wS, wE, wEs, wT, wTs, wG, wGs, wI, wO, rdV, bind0, d_val, d_own, tru_bl, tru_non, tru_int, tru_lst, tru_tup, ix_l, ix_t, at_0, at_1, at_2, op_add, op_sub, op_mod, op_div, cm_lt, cm_le, cm_gt, cm_ge, List.map_cons, List.map_nil, List.cons_append, List.nil_append, List.length_cons, List.length_nil, List.replicate, List.append_nil, List.set_cons_zero, List.set_cons_succ, List.getElem?_cons_zero, List.getElem?_cons_succ, Option.some.injEq, exists_eq_left', true_and, and_true, if_true, if_false, Bool.false_eq_true, R.val.injEq, D.int.injEq, Nat.zero_add, Nat.reduceAdd, Nat.reduceSub, Nat.reduceLT, Nat.reduceLeDiff, Nat.reduceEqDiff, Bool.not_true, Bool.not_false, Bool.and_true, Bool.true_and, Bool.and_false, Bool.false_and, Int.reduceLT, Int.reduceLE, Int.reduceNeg, Int.reducePow, Int.reduceToNat, Int.reduceMul, Int.reduceSub, Int.reduceAdd, lnV, len_l, len_t, len_sc, bi_ln, bi_abs, bi_max, bi_min, bi_listl, bi_listt, bi_tupl, bi_tupt, bi_intb, bi_inti, bi_all, sl_l, sl_t, cm_is, cm_isnot, is_non, is_bl, cm_eqi, cm_nei, cm_eqs, cm_nes, isTy, Option.map_some, p9, p10, p11, p18, wipeR, backR, List.getD_cons_zero, List.getD_cons_succ]
    refine c_is_side (k := k + 1) sl.ne sl.d ?_
    have e3 : ∀ (a b c d : D), L2.atI [a, b, c, d] 3 = some d := fun a b c d => L2.atI_nat (j := 3) rfl
    simp only [wSs, wS, wE, wEs, wT, wTs, wG, wGs, wI, wO, rdV, bind0, d_val, d_own, tru_bl, tru_non, tru_int, tru_lst, tru_tup, ix_l, ix_t, at_0, at_1, at_2, op_add, op_sub, op_mod, op_div, cm_lt, cm_le, cm_gt, cm_ge, List.map_cons, List.map_nil, List.cons_append, List.nil_append, List.length_cons, List.length_nil, List.replicate, List.append_nil, List.set_cons_zero, List.set_cons_succ, List.getElem?_cons_zero, List.getElem?_cons_succ, Option.some.injEq, exists_eq_left', true_and, and_true, if_true, if_false, Bool.false_eq_true, R.val.injEq, D.int.injEq, Nat.zero_add, Nat.reduceAdd, Nat.reduceSub, Nat.reduceLT, Nat.reduceLeDiff, Nat.reduceEqDiff, Bool.not_true, Bool.not_false, Bool.and_true, Bool.true_and, Bool.and_false, Bool.false_and, Int.reduceLT, Int.reduceLE, Int.reduceNeg, Int.reducePow, Int.reduceToNat, Int.reduceMul, Int.reduceSub, Int.reduceAdd, lnV, len_l, len_t, len_sc, bi_ln, bi_abs, bi_max, bi_min, bi_listl, bi_listt, bi_tupl, bi_tupt, bi_intb, bi_inti, bi_all, sl_l, sl_t, cm_is, cm_isnot, is_non, is_bl, cm_eqi, cm_nei, cm_eqs, cm_nes, isTy, Option.map_some, p9, p10, p11, p18, wipeR, backR, List.getD_cons_zero, List.getD_cons_succ, e3]
    refine c_is_side (k := k + 1) sr.ne sr.d ?_
    simp only [wSs, wS, wE, wEs, wT, wTs, wG, wGs, wI, wO, rdV, bind0, d_val, d_own, tru_bl, tru_non, tru_int, tru_lst, tru_tup, ix_l, ix_t, at_0, at_1, at_2, op_add, op_sub, op_mod, op_div, cm_lt, cm_le, cm_gt, cm_ge, List.map_cons, List.map_nil, List.cons_append, List.nil_append, List.length_cons, List.length_nil, List.replicate, List.append_nil, List.set_cons_zero, List.set_cons_succ, List.getElem?_cons_zero, List.getElem?_cons_succ, Option.some.injEq, exists_eq_left', true_and, and_true, if_true, if_false, Bool.false_eq_true, R.val.injEq, D.int.injEq, Nat.zero_add, Nat.reduceAdd, Nat.reduceSub, Nat.reduceLT, Nat.reduceLeDiff, Nat.reduceEqDiff, Bool.not_true, Bool.not_false, Bool.and_true, Bool.true_and, Bool.and_false, Bool.false_and, Int.reduceLT, Int.reduceLE, Int.reduceNeg, Int.reducePow, Int.reduceToNat, Int.reduceMul, Int.reduceSub, Int.reduceAdd, lnV, len_l, len_t, len_sc, bi_ln, bi_abs, bi_max, bi_min, bi_listl, bi_listt, bi_tupl, bi_tupt, bi_intb, bi_inti, bi_all, sl_l, sl_t, cm_is, cm_isnot, is_non, is_bl, cm_eqi, cm_nei, cm_eqs, cm_nes, isTy, Option.map_some, p9, p10, p11, p18, wipeR, backR, List.getD_cons_zero, List.getD_cons_succ]
  · refine p_asg mk (fun v r1 => v = .val (encS x) ∧ r1 = [some (.val (encS x)), none, none, none, none, none]) ?_ ?_
    · simp only [wSs, wS, wE, wEs, wT, wTs, wG, wGs, wI, wO, rdV, bind0, d_val, d_own, tru_bl, tru_non, tru_int, tru_lst, tru_tup, ix_l, ix_t, at_0, at_1, at_2, op_add, op_sub, op_mod, op_div, cm_lt, cm_le, cm_gt, cm_ge, List.map_cons, List.map_nil, List.cons_append, List.nil_append, List.length_cons, List.length_nil, List.replicate, List.append_nil, List.set_cons_zero, List.set_cons_succ, List.getElem?_cons_zero, List.getElem?_cons_succ, Option.some.injEq, exists_eq_left', true_and, and_true, if_true, if_false, Bool.false_eq_true, R.val.injEq, D.int.injEq, Nat.zero_add, Nat.reduceAdd, Nat.reduceSub, Nat.reduceLT, Nat.reduceLeDiff, Nat.reduceEqDiff, Bool.not_true, Bool.not_false, Bool.and_true, Bool.true_and, Bool.and_false, Bool.false_and, Int.reduceLT, Int.reduceLE, Int.reduceNeg, Int.reducePow, Int.reduceToNat, Int.reduceMul, Int.reduceSub, Int.reduceAdd, lnV, len_l, len_t, len_sc, bi_ln, bi_abs, bi_max, bi_min, bi_listl, bi_listt, bi_tupl, bi_tupt, bi_intb, bi_inti, bi_all, sl_l, sl_t, cm_is, cm_isnot, is_non, is_bl, cm_eqi, cm_nei, cm_eqs, cm_nes, isTy, Option.map_some, p9, p10, p11, p18, wipeR, backR, List.getD_cons_zero, List.getD_cons_succ]
    rintro _ _ ⟨rfl, rfl⟩
    simp only [encS, wG, wGs, d_val, List.length_cons, List.length_nil, List.set_cons_zero, List.set_cons_succ, true_and, Nat.zero_add, Nat.reduceAdd, Nat.reduceLT]
    refine p_skip (r' := [some (.val (encS x)), some (.val (.str (tx x.l))), some (.val (.int x.low)), some (.val (.str (tx x.m))), some (.val (.str (tx x.r))), none]) mk ?_ (p_retb mk ?_ h)
    · simp only [encS, wT, wE, wEs, rdV, List.getElem?_cons_zero, List.getElem?_cons_succ, d_val]
      refine c_is_whole_int ?_
      simp only [wSs, wS, wE, wEs, wT, wTs, wG, wGs, wI, wO, rdV, bind0, d_val, d_own, tru_bl, tru_non, tru_int, tru_lst, tru_tup, ix_l, ix_t, at_0, at_1, at_2, op_add, op_sub, op_mod, op_div, cm_lt, cm_le, cm_gt, cm_ge, List.map_cons, List.map_nil, List.cons_append, List.nil_append, List.length_cons, List.length_nil, List.replicate, List.append_nil, List.set_cons_zero, List.set_cons_succ, List.getElem?_cons_zero, List.getElem?_cons_succ, Option.some.injEq, exists_eq_left', true_and, and_true, if_true, if_false, Bool.false_eq_true, R.val.injEq, D.int.injEq, Nat.zero_add, Nat.reduceAdd, Nat.reduceSub, Nat.reduceLT, Nat.reduceLeDiff, Nat.reduceEqDiff, Bool.not_true, Bool.not_false, Bool.and_true, Bool.true_and, Bool.and_false, Bool.false_and, Int.reduceLT, Int.reduceLE, Int.reduceNeg, Int.reducePow, Int.reduceToNat, Int.reduceMul, Int.reduceSub, Int.reduceAdd, lnV, len_l, len_t, len_sc, bi_ln, bi_abs, bi_max, bi_min, bi_listl, bi_listt, bi_tupl, bi_tupt, bi_intb, bi_inti, bi_all, sl_l, sl_t, cm_is, cm_isnot, is_non, is_bl, cm_eqi, cm_nei, cm_eqs, cm_nes, isTy, Option.map_some, p9, p10, p11, p18, wipeR, backR, List.getD_cons_zero, List.getD_cons_succ]
    · simp only [encS, wSs, wS, wE, wEs, wT, wTs, wG, wGs, wI, wO, rdV, bind0, d_val, d_own, tru_bl, tru_non, tru_int, tru_lst, tru_tup, ix_l, ix_t, at_0, at_1, at_2, op_add, op_sub, op_mod, op_div, cm_lt, cm_le, cm_gt, cm_ge, List.map_cons, List.map_nil, List.cons_append, List.nil_append, List.length_cons, List.length_nil, List.replicate, List.append_nil, List.set_cons_zero, List.set_cons_succ, List.getElem?_cons_zero, List.getElem?_cons_succ, Option.some.injEq, exists_eq_left', true_and, and_true, if_true, if_false, Bool.false_eq_true, R.val.injEq, D.int.injEq, Nat.zero_add, Nat.reduceAdd, Nat.reduceSub, Nat.reduceLT, Nat.reduceLeDiff, Nat.reduceEqDiff, Bool.not_true, Bool.not_false, Bool.and_true, Bool.true_and, Bool.and_false, Bool.false_and, Int.reduceLT, Int.reduceLE, Int.reduceNeg, Int.reducePow, Int.reduceToNat, Int.reduceMul, Int.reduceSub, Int.reduceAdd, lnV, len_l, len_t, len_sc, bi_ln, bi_abs, bi_max, bi_min, bi_listl, bi_listt, bi_tupl, bi_tupt, bi_intb, bi_inti, bi_all, sl_l, sl_t, cm_is, cm_isnot, is_non, is_bl, cm_eqi, cm_nei, cm_eqs, cm_nes, isTy, Option.map_some, p9, p10, p11, p18, wipeR, backR, List.getD_cons_zero, List.getD_cons_succ, sgn_tx]
      refine ⟨fun v hv ds => by simp at hv; subst hv; simp, ?_⟩
      refine lc_map (fun _ => D.bl true) (by simp; omega) (fun d hd' kk hk' => ?_) ?_
      · obtain ⟨b, _, rfl⟩ := List.mem_map.mp hd'
        simp only [wSs, wS, wE, wEs, wT, wTs, wG, wGs, wI, wO, rdV, bind0, d_val, d_own, tru_bl, tru_non, tru_int, tru_lst, tru_tup, ix_l, ix_t, at_0, at_1, at_2, op_add, op_sub, op_mod, op_div, cm_lt, cm_le, cm_gt, cm_ge, List.map_cons, List.map_nil, List.cons_append, List.nil_append, List.length_cons, List.length_nil, List.replicate, List.append_nil, List.set_cons_zero, List.set_cons_succ, List.getElem?_cons_zero, List.getElem?_cons_succ, Option.some.injEq, exists_eq_left', true_and, and_true, if_true, if_false, Bool.false_eq_true, R.val.injEq, D.int.injEq, Nat.zero_add, Nat.reduceAdd, Nat.reduceSub, Nat.reduceLT, Nat.reduceLeDiff, Nat.reduceEqDiff, Bool.not_true, Bool.not_false, Bool.and_true, Bool.true_and, Bool.and_false, Bool.false_and, Int.reduceLT, Int.reduceLE, Int.reduceNeg, Int.reducePow, Int.reduceToNat, Int.reduceMul, Int.reduceSub, Int.reduceAdd, lnV, len_l, len_t, len_sc, bi_ln, bi_abs, bi_max, bi_min, bi_listl, bi_listt, bi_tupl, bi_tupt, bi_intb, bi_inti, bi_all, sl_l, sl_t, cm_is, cm_isnot, is_non, is_bl, cm_eqi, cm_nei, cm_eqs, cm_nes, isTy, Option.map_some, p9, p10, p11, p18, wipeR, backR, List.getD_cons_zero, List.getD_cons_succ]
        refine ⟨.str "01", by kernel_rfl, true, in_01 b, hk'⟩
      · rw [all_true]
        have ea : ((x.m.map fun _ => true).all id) = true := by simp
        simp only [wSs, wS, wE, wEs, wT, wTs, wG, wGs, wI, wO, rdV, bind0, d_val, d_own, tru_bl, tru_non, tru_int, tru_lst, tru_tup, ix_l, ix_t, at_0, at_1, at_2, op_add, op_sub, op_mod, op_div, cm_lt, cm_le, cm_gt, cm_ge, List.map_cons, List.map_nil, List.cons_append, List.nil_append, List.length_cons, List.length_nil, List.replicate, List.append_nil, List.set_cons_zero, List.set_cons_succ, List.getElem?_cons_zero, List.getElem?_cons_succ, Option.some.injEq, exists_eq_left', true_and, and_true, if_true, if_false, Bool.false_eq_true, R.val.injEq, D.int.injEq, Nat.zero_add, Nat.reduceAdd, Nat.reduceSub, Nat.reduceLT, Nat.reduceLeDiff, Nat.reduceEqDiff, Bool.not_true, Bool.not_false, Bool.and_true, Bool.true_and, Bool.and_false, Bool.false_and, Int.reduceLT, Int.reduceLE, Int.reduceNeg, Int.reducePow, Int.reduceToNat, Int.reduceMul, Int.reduceSub, Int.reduceAdd, lnV, len_l, len_t, len_sc, bi_ln, bi_abs, bi_max, bi_min, bi_listl, bi_listt, bi_tupl, bi_tupt, bi_intb, bi_inti, bi_all, sl_l, sl_t, cm_is, cm_isnot, is_non, is_bl, cm_eqi, cm_nei, cm_eqs, cm_nes, isTy, Option.map_some, p9, p10, p11, p18, wipeR, backR, List.getD_cons_zero, List.getD_cons_succ, ea]
        refine c_in_form (B := B) (T := x) ⟨sl.ne, sl.d, sr.ne, sr.d, hx.lo, hx.hi, by omega⟩ fun z z1 z2 _ _ => ?_
        have ez := canon_eq z1 hx.c z2
        subst ez
        exact ⟨true, cm_eqS (ok_sh z), rfl⟩
/-- what has not four parts is no shape -/
theorem c_is_shape_no {xs : List D} (hl : xs.length ≠ 4) (h : Q (.val (.bl false))) : Fk (k + 1) i_is_shape [.tup xs] Q E := by
  refine Fk_at (fd := fd_is_shape) rfl rfl (p_ift (r' := [some (.val (.tup xs)), none, none, none, none, none]) mk ?_ (p_retb mk ?_ h))
  · have e1 : decide ((xs.length : Int) = 4) = false := decide_eq_false (by omega)
    simp only [fd_is_shape, wSs, wS, wE, wEs, wT, wTs, wG, wGs, wI, wO, rdV, bind0, d_val, d_own, tru_bl, tru_non, tru_int, tru_lst, tru_tup, ix_l, ix_t, at_0, at_1, at_2, op_add, op_sub, op_mod, op_div, cm_lt, cm_le, cm_gt, cm_ge, List.map_cons, List.map_nil, List.cons_append, List.nil_append, List.length_cons, List.length_nil, List.replicate, List.append_nil, List.set_cons_zero, List.set_cons_succ, List.getElem?_cons_zero, List.getElem?_cons_succ, Option.some.injEq, exists_eq_left', true_and, and_true, if_true, if_false, Bool.false_eq_true, R.val.injEq, D.int.injEq, Nat.zero_add, Nat.reduceAdd, Nat.reduceSub, Nat.reduceLT, Nat.reduceLeDiff, Nat.reduceEqDiff, Bool.not_true, Bool.not_false, Bool.and_true, Bool.true_and, Bool.and_false, Bool.false_and, Int.reduceLT, Int.reduceLE, Int.reduceNeg, Int.reducePow, Int.reduceToNat, Int.reduceMul, Int.reduceSub, Int.reduceAdd, lnV, len_l, len_t, len_sc, bi_ln, bi_abs, bi_max, bi_min, bi_listl, bi_listt, bi_tupl, bi_tupt, bi_intb, bi_inti, bi_all, sl_l, sl_t, cm_is, cm_isnot, is_non, is_bl, cm_eqi, cm_nei, cm_eqs, cm_nes, isTy, Option.map_some, p9, p10, p11, p18, wipeR, backR, List.getD_cons_zero, List.getD_cons_succ, e1]
  · simp only [wSs, wS, wE, wEs, wT, wTs, wG, wGs, wI, wO, rdV, bind0, d_val, d_own, tru_bl, tru_non, tru_int, tru_lst, tru_tup, ix_l, ix_t, at_0, at_1, at_2, op_add, op_sub, op_mod, op_div, cm_lt, cm_le, cm_gt, cm_ge, List.map_cons, List.map_nil, List.cons_append, List.nil_append, List.length_cons, List.length_nil, List.replicate, List.append_nil, List.set_cons_zero, List.set_cons_succ, List.getElem?_cons_zero, List.getElem?_cons_succ, Option.some.injEq, exists_eq_left', true_and, and_true, if_true, if_false, Bool.false_eq_true, R.val.injEq, D.int.injEq, Nat.zero_add, Nat.reduceAdd, Nat.reduceSub, Nat.reduceLT, Nat.reduceLeDiff, Nat.reduceEqDiff, Bool.not_true, Bool.not_false, Bool.and_true, Bool.true_and, Bool.and_false, Bool.false_and, Int.reduceLT, Int.reduceLE, Int.reduceNeg, Int.reducePow, Int.reduceToNat, Int.reduceMul, Int.reduceSub, Int.reduceAdd, lnV, len_l, len_t, len_sc, bi_ln, bi_abs, bi_max, bi_min, bi_listl, bi_listt, bi_tupl, bi_tupt, bi_intb, bi_inti, bi_all, sl_l, sl_t, cm_is, cm_isnot, is_non, is_bl, cm_eqi, cm_nei, cm_eqs, cm_nes, isTy, Option.map_some, p9, p10, p11, p18, wipeR, backR, List.getD_cons_zero, List.getD_cons_succ]
theorem enc_len (s : Sg) : ∃ xs, s.enc = .tup xs ∧ xs.length ≠ 4 := by
  cases s <;> exact ⟨_, rfl, by simp⟩
theorem tx_no {t : List Bool} {w : Str} (h : (w.cps.toList.all fun c => c == 48 || c == 49) = false) : tx t ≠ w := fun z => by
  subst z
  rw [tx_cps, List.all_map] at h
  have : (t.all ((fun c => c == 48 || c == 49) ∘ sgc)) = true := List.all_eq_true.mpr fun b _ => by cases b <;> rfl
  rw [this] at h
  cases h
theorem in2_no {t : List Bool} {w u : Str} (h1 : (w.cps.toList.all fun c => c == 48 || c == 49) = false) (h2 : (u.cps.toList.all fun c => c == 48 || c == 49) = false) : cmD .isin (.str (tx t)) (.tup [.str w, .str u]) = some false := by
  have e1 : (w == tx t) = false := beq_eq_false_iff_ne.mpr fun z => tx_no h1 z.symm
  have e2 : (u == tx t) = false := beq_eq_false_iff_ne.mpr fun z => tx_no h2 z.symm
  show (if flatD (.str (tx t)) = true ∧ [D.str w, D.str u].all flatD = true then some ([D.str w, D.str u].any fun y => eqF y (.str (tx t))) else none) = _
  rw [if_pos ⟨rfl, rfl⟩]
  simp only [List.any_cons, List.any_nil, eqF, e1, e2, Bool.or_self]
end
end K12
set_option maxHeartbeats 3900000
namespace K12
open PySem PL
def rowP (g : Int → Bool) (lo : Int) : D → D
  | .int j => .tup [.int ((lo + j) % 60), .str (tx [g (lo + j)])]
  | _ => .non
section
variable {k : Nat} {Q : R → Prop} {E : Xc → Prop}
theorem c_law_signs {s : Sg} (ok : s.ok) (hk : s.dp < k) (h : Q (.val (.str (tx (tabB (-500) 1001 fun n => s.mean n))))) : Fk (k + 1) i__law_signs [s.enc] Q E := by
  have hlim : lim = 16777216 := rfl
  refine Fk_at (fd := fd__law_signs) rfl rfl ?_
  have mj : ∀ a, mtTy .join (.str a) = true := fun _ => rfl
  simp only [fd__law_signs, wSs, wS, bind0, wE, wEs, wI, rdV, List.getElem?_cons_zero, List.getElem?_cons_succ, List.set_cons_zero, List.set_cons_succ, d_val, mj, true_and, List.map_cons, List.map_nil, List.cons_append, List.nil_append, List.length_cons, List.length_nil, List.replicate, D.int.injEq, exists_eq_left']
  refine ⟨-500, 501, by simp, rfl, by decide, by decide, by decide, by decide, fun v hv ds => by simp at hv; subst hv; simp, ?_⟩
  rw [show ((501 : Int) - -500).toNat = 1001 from rfl]
  refine lc_map (mapS fun n => s.mean n) (by rw [rng_len]; omega) (fun d hd kk hk' => ?_) ?_
  · obtain ⟨j, j1, j2, rfl⟩ := rng_mem hd
    simp only [wipeR, wG, wTs, wE, wEs, rdV, List.getElem?_cons_zero, List.getElem?_cons_succ, List.set_cons_zero, List.set_cons_succ, d_val, if_true, List.length_cons, List.length_nil]
    refine ⟨by decide, c_law_fits ok hk ?_⟩
    simp only [d_val, bi_intb, Option.some.injEq, exists_eq_left']
    rw [← tx_01]
    simp only [mapS] at hk'
    revert hk'
    cases s.mean j <;> intro hk'
    · exact ⟨_, ix_tx (a := [false, true]) (i := 0) (by decide) (by decide), hk'⟩
    · exact ⟨_, ix_tx (a := [false, true]) (i := 1) (by decide) (by decide), hk'⟩
  · rw [rng_tab (fun n => s.mean n)]
    simp only [d_own, join_ok (show (tabB (-500) 1001 fun n => s.mean n).length ≤ 16777216 by rw [tab_len]; decide), Option.some.injEq, exists_eq_left']
    exact h
theorem ix_row {g : Int → Bool} {n : Int} (h1 : -500 ≤ n) (h2 : n ≤ 500) : ixD (.str (tx (tabB (-500) 1001 g))) (.int (n + 500)) = some (.str (tx [g n])) := by
  have hi : (n + 500).toNat < (tabB (-500) 1001 g).length := by rw [tab_len]; omega
  have e := ix_tx (a := tabB (-500) 1001 g) hi (by rw [tab_len]; decide)
  rw [tab_get, Int.toNat_of_nonneg (by omega)] at e
  rw [e, show (-500 : Int) + (n + 500) = n by omega]
theorem c_law_side {g : Int → Bool} {lo : Int} (hlo : lo = -500 ∨ lo = 300) (hg : ∀ n : Int, lo ≤ n → n < lo + 60 → g (n + 60) = g n) (h : ∀ u, Side u → (∀ n, atT u n = atT (resT g lo) n) → Q (.val (.str (tx u)))) : Fk (k + 1) i__law_side [.str (tx (tabB (-500) 1001 g)), .int lo] Q E := by
  have hlim : lim = 16777216 := rfl
  have hr : (resT g lo).length = 60 := resT_len g lo
  have h0 : resT g lo ≠ [] := fun z => by rw [z] at hr; simp at hr
  have ht : (resT g lo).length ≤ 16777216 := by omega
  have row0 : ∀ i : Int, 0 ≤ i → i < 120 → g (lo + i) = g (lo + (((lo + i) % 60) - lo) % 60) := fun i h1 h2 => by
    by_cases q : i < 60
    · congr 1
      rcases hlo with rfl | rfl <;> omega
    · have := hg (lo + i - 60) (by omega) (by omega)
      rw [show lo + i - 60 + 60 = lo + i by omega] at this
      rw [this]
      congr 1
      rcases hlo with rfl | rfl <;> omega
  refine Fk_at (fd := fd__law_side) rfl rfl (p_asg mk (fun v r1 => ∃ kvs, (∀ i : Int, 0 ≤ i → i < 60 → valD kvs (.inl i) = some (.str (tx [g (lo + (i - lo) % 60)]))) ∧ v = .val (.dic kvs) ∧ r1 = [some (.val (.str (tx (tabB (-500) 1001 g)))), some (.val (.int lo)), none, none, none, none]) ?_ ?_)
  · simp only [fd__law_side, wE, wEs, wI, bind0, rdV, List.map_cons, List.map_nil, List.cons_append, List.nil_append, List.length_cons, List.length_nil, List.replicate, d_val, D.int.injEq, exists_eq_left']
    refine ⟨by decide, by decide, fun v hv ds => by simp at hv; subst hv; simp, ?_⟩
    refine lc_map (rowP g lo) (by rw [rng_len]; decide) (fun d hd kk hk' => ?_) ?_
    · obtain ⟨j, j1, j2, rfl⟩ := rng_mem hd
      have j3 : j < 120 := by simpa using j2
      simp only [wipeR, wG, wTs, wE, wEs, rdV, List.getElem?_cons_zero, List.getElem?_cons_succ, List.set_cons_zero, List.set_cons_succ, d_val, if_true, List.length_cons, List.length_nil, op_add, Option.some.injEq, exists_eq_left']
      rw [op_mod (by decide)]
      simp only [d_val, Option.some.injEq, exists_eq_left']
      rw [ix_row (by rcases hlo with rfl | rfl <;> omega) (by rcases hlo with rfl | rfl <;> omega)]
      simp only [d_val, Option.some.injEq, exists_eq_left']
      exact ⟨by decide, by decide, hk'⟩
    · have e : (rngD 0 (120 : Int).toNat).map (rowP g lo) = (List.range 120).map fun i : Nat => .tup [.int ((lo + ((0 : Int) + i)) % 60), .str (tx [g (lo + ((0 : Int) + i))])] := by
        unfold rngD
        rw [List.map_map]
        rfl
      rw [e]
      have eb : biD .dict [.lst ((List.range 120).map fun i : Nat => .tup [.int ((lo + ((0 : Int) + i)) % 60), .str (tx [g (lo + ((0 : Int) + i))])])] = some (.val (.dic (mergeD [] ((List.range 120).map fun i : Nat => (.inl ((lo + ((0 : Int) + i)) % 60), .str (tx [g (lo + ((0 : Int) + i))])))))) := by
        rw [bi_dict, pairs_map]
        rfl
      simp only [d_own, eb, Option.some.injEq, exists_eq_left', wipeR, backR, List.set_cons_zero, List.set_cons_succ, List.getD_cons_zero, List.getD_cons_succ]
      refine ⟨_, fun i i0 i1 => ?_, rfl, trivial⟩
      refine val_merge (fun kx => match kx with | .inl i => .str (tx [g (lo + (i - lo) % 60)]) | .inr _ => .non) _ [] (fun p hp => ?_) (.inl i) (.inr ?_)
      · obtain ⟨j, hj, rfl⟩ := List.mem_map.mp hp
        have := List.mem_range.mp hj
        have := row0 ((0 : Int) + j) (by omega) (by omega)
        simp only [this]
      · have hj : ((i - lo) % 60).toNat < 120 := by omega
        refine ⟨_, List.mem_map.mpr ⟨((i - lo) % 60).toNat, List.mem_range.mpr hj, rfl⟩, ?_⟩
        simp only
        congr 1
        rcases hlo with rfl | rfl <;> omega
  rintro _ _ ⟨kvs, hkv, rfl, rfl⟩
  refine ⟨Nat.le_of_ble_eq_true rfl, p_asg mk (fun v r1 => v = .val (.str (tx (resT g lo))) ∧ r1 = [some (.val (.str (tx (tabB (-500) 1001 g)))), some (.val (.int lo)), some (.val (.dic kvs)), none, none, none]) ?_ ?_⟩
  · have mj : ∀ a, mtTy .join (.str a) = true := fun _ => rfl
    simp only [wE, wEs, wI, rdV, List.getElem?_cons_zero, List.getElem?_cons_succ, List.set_cons_zero, List.set_cons_succ, d_val, mj, true_and, D.int.injEq, exists_eq_left']
    refine ⟨by decide, by decide, fun v hv ds => by simp at hv; subst hv; simp, ?_⟩
    refine lc_map (mapS fun i => g (lo + (i - lo) % 60)) (by rw [rng_len]; decide) (fun d hd kk hk' => ?_) ?_
    · obtain ⟨j, j1, j2, rfl⟩ := rng_mem hd
      have j3 : j < 60 := by simpa using j2
      simp only [wipeR, wG, wTs, wE, wEs, rdV, List.getElem?_cons_zero, List.getElem?_cons_succ, List.set_cons_zero, List.set_cons_succ, d_val, if_true, List.length_cons, List.length_nil, ixD, keyD, Option.bind_some, hkv j j1 j3, Option.some.injEq, exists_eq_left']
      exact ⟨by decide, hk'⟩
    · rw [rng_tab (fun i => g (lo + (i - lo) % 60))]
      have ej := join_ok (bs := tabB 0 (60 : Int).toNat fun i => g (lo + (i - lo) % 60)) (by rw [tab_len]; decide)
      simp only [d_own, ej, Option.some.injEq, exists_eq_left', wipeR, backR, List.set_cons_zero, List.set_cons_succ, List.getD_cons_zero, List.getD_cons_succ]
      exact ⟨rfl, trivial⟩
  rintro _ _ ⟨rfl, rfl⟩
  refine ⟨Nat.le_of_ble_eq_true rfl, p_ret mk (fun v _ => ∃ u, Side u ∧ (∀ n, atT u n = atT (resT g lo) n) ∧ v = .val (.str (tx u))) ?_ fun v r1 ⟨u, u1, u2, e⟩ => by rw [e]; exact h u u1 u2⟩
  simp only [wE, wEs, wI, rdV, List.getElem?_cons_zero, List.getElem?_cons_succ, List.set_cons_zero, List.set_cons_succ, d_val, D.int.injEq, exists_eq_left']
  refine ⟨1, 61, rfl, rfl, by decide, by decide, by decide, by decide, fun v hv ds => by simp at hv; subst hv; simp, ?_⟩
  rw [show ((61 : Int) - 1).toNat = 60 from rfl, rng_upto]
  refine lc_fm (fun d => match d with | .int j => if (decide (60 % j.toNat = 0) && decide (rep (60 / j.toNat) ((resT g lo).take j.toNat) = resT g lo)) = true then some (.str (tx ((resT g lo).take j.toNat))) else none | _ => none) (by unfold upto; simp; omega) (fun x hx kk hk => ?_) ?_
  · obtain ⟨d, hd, rfl⟩ := List.mem_map.mp hx
    obtain ⟨d1, d2⟩ := upto_mem.mp hd
    simp only [wipeR, wG, wTs, wT, wE, wEs, wO, rdV, List.getElem?_cons_zero, List.getElem?_cons_succ, List.set_cons_zero, List.set_cons_succ, d_val, List.length_cons, List.length_nil]
    rw [op_mod (by omega)]
    have em0 : decide ((60 : Int) % (d : Int) = 0) = decide (60 % d = 0) := by
      rw [decide_eq_decide, show (60 : Int) = ((60 : Nat) : Int) from rfl, ← Int.natCast_emod]; omega
    simp only [cm_eqi, em0, tru_bl, d_val, Option.some.injEq, exists_eq_left', D.int.injEq]
    simp only [Int.toNat_natCast] at hk
    refine ⟨by decide, ?_⟩
    by_cases q : 60 % d = 0
    · have dd : d ∣ 60 := Nat.dvd_of_mod_eq_zero q
      have q1 : 1 ≤ 60 / d := (Nat.one_le_div_iff (by omega)).mpr d2
      have q2 : 60 / d ≤ 60 := Nat.div_le_self _ _
      simp only [q, decide_true, if_true, Bool.true_and, sl_tx ht, cut_txto, Option.some.injEq, exists_eq_left', d_val] at hk ⊢
      rw [op_div (by omega) (by omega)]
      simp only [d_val, Option.some.injEq, exists_eq_left']
      have em : opD .mul (.str (tx ((resT g lo).take d))) (.int ((60 : Int) / (d : Int))) = some (.val (.str (tx (rep (60 / d) ((resT g lo).take d))))) := by
        have e6 : ((60 : Int) / (d : Int)) = ((60 / d : Nat) : Int) := by rw [Int.natCast_ediv]; rfl
        rw [e6]
        show (if (tx ((resT g lo).take d)).length ≤ 4096 ∧ (0 : Int) ≤ ((60 / d : Nat) : Int) ∧ ((60 / d : Nat) : Int) ≤ 4096 then some (R.val (.str (Txt.mul (tx ((resT g lo).take d)) ((60 / d : Nat) : Int)))) else none) = _
        rw [if_pos ⟨by rw [tx_len, List.length_take]; omega, by omega, by omega⟩, mul_tx _ _ q1]
      rw [em]
      simp only [cm_eqs, tx_eq, tru_bl, d_val, Option.some.injEq, exists_eq_left']
      by_cases z : rep (60 / d) ((resT g lo).take d) = resT g lo
      · simp only [z, decide_true, if_true] at hk ⊢
        exact hk
      · simp only [z, decide_false, Bool.false_eq_true, if_false] at hk ⊢
        exact hk
    · simp only [q, decide_false, Bool.false_and, Bool.false_eq_true, if_false] at hk ⊢
      exact hk
  · rw [List.nil_append, fm_filter (fun d : Nat => D.int (d : Int)) (fun d => decide (60 % d = 0) && decide (rep (60 / d) ((resT g lo).take d) = resT g lo)) (fun d : Nat => D.str (tx ((resT g lo).take d))) _ fun d => ?_]
    · obtain ⟨a, rest, e, pa, ma, hmin⟩ := first_of (p := fun d => decide (60 % d = 0) && decide (rep (60 / d) ((resT g lo).take d) = resT g lo)) (upto_pw 60) (d := 60) (upto_mem.mpr (by decide)) (by
        have : (resT g lo).take 60 = resT g lo := List.take_of_length_le (by omega)
        simp [this, rep])
      rw [Bool.and_eq_true, decide_eq_true_eq, decide_eq_true_eq] at pa
      obtain ⟨a1, a2⟩ := upto_mem.mp ma
      have ad : a ∣ (resT g lo).length := by rw [hr]; exact Nat.dvd_of_mod_eq_zero pa.1
      obtain ⟨s1, s2, s3⟩ := shortest_of h0 a1 ad (by rw [hr]; exact pa.2) fun b b1 b2 b3 => by
        rw [hr] at b2 b3
        refine hmin b (upto_mem.mpr ⟨b1, Nat.le_of_dvd (by decide) b2⟩) ?_
        rw [Bool.and_eq_true, decide_eq_true_eq, decide_eq_true_eq]
        exact ⟨Nat.mod_eq_zero_of_dvd b2, b3⟩
      rw [e, List.map_cons]
      simp only [d_own, ix_l, at_0, Option.some.injEq, exists_eq_left']
      exact ⟨_, ⟨s1, by rw [hr] at s2; exact s2⟩, s3, rfl⟩
    · rfl
abbrev El (g : Int → Bool) (l r : List Bool) (a b : Option R) : PL.Env := [some (.val (.str (tx (tabB (-500) 1001 g)))), some (.val (.str (tx l))), some (.val (.str (tx r))), a, b]
theorem ix_side {t : List Bool} {n : Int} (s : Side t) : ∃ j, opD .mod (.int n) (.int (t.length : Int)) = some (.val (.int j)) ∧ ixD (.str (tx t)) (.int j) = some (.str (tx [atT t n])) := by
  have hp := s.pos
  have hl := s.le
  refine ⟨n % (t.length : Int), op_mod (by omega), ?_⟩
  have b1 := Int.emod_nonneg n (show (t.length : Int) ≠ 0 by omega)
  have b2 := Int.emod_lt_of_pos n (show (0 : Int) < t.length by omega)
  have hi : (n % (t.length : Int)).toNat < t.length := by omega
  have e := ix_tx (a := t) hi (by omega)
  rw [Int.toNat_of_nonneg b1] at e
  have e2 : atT t n = t[(n % (t.length : Int)).toNat] := by
    unfold atT
    rw [List.getD_eq_getElem?_getD, List.getElem?_eq_getElem hi]
    rfl
  rw [e, e2]
/-- the law's own form -/
theorem c_law_shape {g : Int → Bool} (hg : Reg g) (h : ∀ x : Sh, Canon x → (∀ n, x.sg n = g n) → -300 ≤ x.low → x.e ≤ 300 → Q (.val (encS x))) : Fk (k + 2) i__law_shape [.str (tx (tabB (-500) 1001 g))] Q E := by
  have hlim : lim = 16777216 := rfl
  refine Fk_at (fd := fd__law_shape) rfl rfl ?_
  have two : wEs prI.P (Fk (k + 1)) [(.call i__law_side [(.var 0), (.neg (.cst (.int 500)))]), (.call i__law_side [(.var 0), (.cst (.int 300))])] (bind0 fd__law_shape [.str (tx (tabB (-500) 1001 g))]) (fun ds r1 => ∃ l r, Side l ∧ Side r ∧ (∀ n : Int, n < -100 → atT l n = g n) ∧ (∀ n : Int, 100 ≤ n → atT r n = g n) ∧ ds = [.str (tx l), .str (tx r)] ∧ r1 = [some (.val (.str (tx (tabB (-500) 1001 g)))), none, none, none, none]) fun _ _ => False := by
    simp only [fd__law_shape, wSs, wS, wE, wEs, wT, wTs, wG, wGs, wI, wO, rdV, bind0, d_val, d_own, tru_bl, tru_non, tru_int, tru_lst, tru_tup, ix_l, ix_t, at_0, at_1, at_2, op_add, op_sub, op_mod, op_div, cm_lt, cm_le, cm_gt, cm_ge, List.map_cons, List.map_nil, List.cons_append, List.nil_append, List.length_cons, List.length_nil, List.replicate, List.append_nil, List.set_cons_zero, List.set_cons_succ, List.getElem?_cons_zero, List.getElem?_cons_succ, Option.some.injEq, exists_eq_left', true_and, and_true, if_true, if_false, Bool.false_eq_true, R.val.injEq, D.int.injEq, Nat.zero_add, Nat.reduceAdd, Nat.reduceSub, Nat.reduceLT, Nat.reduceLeDiff, Nat.reduceEqDiff, Bool.not_true, Bool.not_false, Bool.and_true, Bool.true_and, Bool.and_false, Bool.false_and, Int.reduceLT, Int.reduceLE, Int.reduceNeg, Int.reducePow, Int.reduceToNat, Int.reduceMul, Int.reduceSub, Int.reduceAdd, lnV, len_l, len_t, len_sc, bi_ln, bi_abs, bi_max, bi_min, bi_listl, bi_listt, bi_tupl, bi_tupt, bi_intb, bi_inti, bi_all, sl_l, sl_t, cm_is, cm_isnot, is_non, is_bl, cm_eqi, cm_nei, cm_eqs, cm_nes, isTy, Option.map_some, p9, p10, p11, p18, wipeR, backR, List.getD_cons_zero, List.getD_cons_succ]
    refine c_law_side (.inl rfl) (fun n h1 h2 => ?_) fun l l1 l2 => ?_
    · have := hg.lo (n + 60) (by omega)
      rw [show n + 60 - 60 = n by omega] at this
      exact this.symm
    · simp only [wSs, wS, wE, wEs, wT, wTs, wG, wGs, wI, wO, rdV, bind0, d_val, d_own, tru_bl, tru_non, tru_int, tru_lst, tru_tup, ix_l, ix_t, at_0, at_1, at_2, op_add, op_sub, op_mod, op_div, cm_lt, cm_le, cm_gt, cm_ge, List.map_cons, List.map_nil, List.cons_append, List.nil_append, List.length_cons, List.length_nil, List.replicate, List.append_nil, List.set_cons_zero, List.set_cons_succ, List.getElem?_cons_zero, List.getElem?_cons_succ, Option.some.injEq, exists_eq_left', true_and, and_true, if_true, if_false, Bool.false_eq_true, R.val.injEq, D.int.injEq, Nat.zero_add, Nat.reduceAdd, Nat.reduceSub, Nat.reduceLT, Nat.reduceLeDiff, Nat.reduceEqDiff, Bool.not_true, Bool.not_false, Bool.and_true, Bool.true_and, Bool.and_false, Bool.false_and, Int.reduceLT, Int.reduceLE, Int.reduceNeg, Int.reducePow, Int.reduceToNat, Int.reduceMul, Int.reduceSub, Int.reduceAdd, lnV, len_l, len_t, len_sc, bi_ln, bi_abs, bi_max, bi_min, bi_listl, bi_listt, bi_tupl, bi_tupt, bi_intb, bi_inti, bi_all, sl_l, sl_t, cm_is, cm_isnot, is_non, is_bl, cm_eqi, cm_nei, cm_eqs, cm_nes, isTy, Option.map_some, p9, p10, p11, p18, wipeR, backR, List.getD_cons_zero, List.getD_cons_succ]
      refine c_law_side (.inr rfl) (fun n h1 h2 => hg.hi n (by omega)) fun r r1 r2 => ?_
      exact ⟨l, r, l1, r1, fun n hn => by rw [l2]; exact res_left hg n hn, fun n hn => by rw [r2]; exact res_right hg n hn, rfl⟩
  refine p_par2 mk two ?_
  rintro _ _ ⟨l, r, sl, sr, hl, hr, rfl, rfl⟩
  refine ⟨_, _, rfl, p_asg mk (fun v r1 => v = .val (.int (-300)) ∧ r1 = El g l r none none) ?_ ?_⟩
  · simp only [El, wSs, wS, wE, wEs, wT, wTs, wG, wGs, wI, wO, rdV, bind0, d_val, d_own, tru_bl, tru_non, tru_int, tru_lst, tru_tup, ix_l, ix_t, at_0, at_1, at_2, op_add, op_sub, op_mod, op_div, cm_lt, cm_le, cm_gt, cm_ge, List.map_cons, List.map_nil, List.cons_append, List.nil_append, List.length_cons, List.length_nil, List.replicate, List.append_nil, List.set_cons_zero, List.set_cons_succ, List.getElem?_cons_zero, List.getElem?_cons_succ, Option.some.injEq, exists_eq_left', true_and, and_true, if_true, if_false, Bool.false_eq_true, R.val.injEq, D.int.injEq, Nat.zero_add, Nat.reduceAdd, Nat.reduceSub, Nat.reduceLT, Nat.reduceLeDiff, Nat.reduceEqDiff, Bool.not_true, Bool.not_false, Bool.and_true, Bool.true_and, Bool.and_false, Bool.false_and, Int.reduceLT, Int.reduceLE, Int.reduceNeg, Int.reducePow, Int.reduceToNat, Int.reduceMul, Int.reduceSub, Int.reduceAdd, lnV, len_l, len_t, len_sc, bi_ln, bi_abs, bi_max, bi_min, bi_listl, bi_listt, bi_tupl, bi_tupt, bi_intb, bi_inti, bi_all, sl_l, sl_t, cm_is, cm_isnot, is_non, is_bl, cm_eqi, cm_nei, cm_eqs, cm_nes, isTy, Option.map_some, p9, p10, p11, p18, wipeR, backR, List.getD_cons_zero, List.getD_cons_succ]
  rintro _ _ ⟨rfl, rfl⟩
  have l16 : l.length ≤ 16777216 := by have := sl.le; omega
  have r16 : r.length ≤ 16777216 := by have := sr.le; omega
  have up : EdLe (Eq Q) { nx := fun _ => Q (.val .non), rt := Q, bk := fun _ => False, ct := fun _ => False, ex := fun x _ => E x } := ⟨fun _ z => z.elim, fun _ z => z, fun _ z => z, fun _ z => z, fun _ _ z => z.elim⟩
  refine ⟨Nat.le_of_ble_eq_true rfl, p_while (n := 601) mk (fun n r1 => ∃ L : Int, -300 ≤ L ∧ L + n = 301 ∧ (∀ m : Int, -300 ≤ m → m < L → g m = atT l m) ∧ r1 = El g l r (some (.val (.int L))) none) ⟨-300, by omega, by omega, fun m h1 h2 => by omega, rfl⟩ ?_⟩
  rintro n _ ⟨L, hL1, hL2, hpre, rfl⟩
  simp only [El, wT, wE, wEs, lnV, rdV, List.getElem?_cons_zero, List.getElem?_cons_succ, d_val, cm_le, tru_bl, Option.some.injEq, exists_eq_left']
  by_cases q1 : L ≤ 300
  · have e1 : decide (L ≤ 300) = true := decide_eq_true q1
    obtain ⟨j, j1, j2⟩ := ix_side (n := L) sl
    simp only [e1, if_true, op_add, d_val, Option.some.injEq, exists_eq_left', ix_row (g := g) (show -500 ≤ L by omega) (show L ≤ 500 by omega), len_tx l16, j1, j2, cm_eqs, tx_eq, tru_bl]
    by_cases q2 : g L = atT l L
    · have e2 : decide ([g L] = [atT l L]) = true := decide_eq_true (by rw [q2])
      simp only [e2, if_true]
      refine ⟨by omega, ?_⟩
      simp only [wSs, wS, wE, wG, rdV, List.getElem?_cons_zero, List.getElem?_cons_succ, d_val, op_add, Option.some.injEq, exists_eq_left', List.set_cons_zero, List.set_cons_succ, List.length_cons, List.length_nil]
      refine ⟨by decide, L + 1, by omega, by omega, fun m h1 h2 => ?_, rfl⟩
      by_cases z : m < L
      · exact hpre m h1 z
      · have : m = L := by omega
        rw [this]; exact q2
    · have e2 : decide ([g L] = [atT l L]) = false := decide_eq_false (by simpa using q2)
      simp only [e2, Bool.false_eq_true, if_false]
      refine monoSs mk _ up ?_
      refine p_skip (r' := El g l r (some (.val (.int L))) none) mk ?_ (p_asg mk (fun v r1 => v = .val (.int 300) ∧ r1 = El g l r (some (.val (.int L))) none) ?_ ?_)
      · have : ¬ (300 < L) := by omega
        simp only [El, wSs, wS, wE, wEs, wT, wTs, wG, wGs, wI, wO, rdV, bind0, d_val, d_own, tru_bl, tru_non, tru_int, tru_lst, tru_tup, ix_l, ix_t, at_0, at_1, at_2, op_add, op_sub, op_mod, op_div, cm_lt, cm_le, cm_gt, cm_ge, List.map_cons, List.map_nil, List.cons_append, List.nil_append, List.length_cons, List.length_nil, List.replicate, List.append_nil, List.set_cons_zero, List.set_cons_succ, List.getElem?_cons_zero, List.getElem?_cons_succ, Option.some.injEq, exists_eq_left', true_and, and_true, if_true, if_false, Bool.false_eq_true, R.val.injEq, D.int.injEq, Nat.zero_add, Nat.reduceAdd, Nat.reduceSub, Nat.reduceLT, Nat.reduceLeDiff, Nat.reduceEqDiff, Bool.not_true, Bool.not_false, Bool.and_true, Bool.true_and, Bool.and_false, Bool.false_and, Int.reduceLT, Int.reduceLE, Int.reduceNeg, Int.reducePow, Int.reduceToNat, Int.reduceMul, Int.reduceSub, Int.reduceAdd, lnV, len_l, len_t, len_sc, bi_ln, bi_abs, bi_max, bi_min, bi_listl, bi_listt, bi_tupl, bi_tupt, bi_intb, bi_inti, bi_all, sl_l, sl_t, cm_is, cm_isnot, is_non, is_bl, cm_eqi, cm_nei, cm_eqs, cm_nes, isTy, Option.map_some, p9, p10, p11, p18, wipeR, backR, List.getD_cons_zero, List.getD_cons_succ, this, decide_false]
      · simp only [El, wSs, wS, wE, wEs, wT, wTs, wG, wGs, wI, wO, rdV, bind0, d_val, d_own, tru_bl, tru_non, tru_int, tru_lst, tru_tup, ix_l, ix_t, at_0, at_1, at_2, op_add, op_sub, op_mod, op_div, cm_lt, cm_le, cm_gt, cm_ge, List.map_cons, List.map_nil, List.cons_append, List.nil_append, List.length_cons, List.length_nil, List.replicate, List.append_nil, List.set_cons_zero, List.set_cons_succ, List.getElem?_cons_zero, List.getElem?_cons_succ, Option.some.injEq, exists_eq_left', true_and, and_true, if_true, if_false, Bool.false_eq_true, R.val.injEq, D.int.injEq, Nat.zero_add, Nat.reduceAdd, Nat.reduceSub, Nat.reduceLT, Nat.reduceLeDiff, Nat.reduceEqDiff, Bool.not_true, Bool.not_false, Bool.and_true, Bool.true_and, Bool.and_false, Bool.false_and, Int.reduceLT, Int.reduceLE, Int.reduceNeg, Int.reducePow, Int.reduceToNat, Int.reduceMul, Int.reduceSub, Int.reduceAdd, lnV, len_l, len_t, len_sc, bi_ln, bi_abs, bi_max, bi_min, bi_listl, bi_listt, bi_tupl, bi_tupt, bi_intb, bi_inti, bi_all, sl_l, sl_t, cm_is, cm_isnot, is_non, is_bl, cm_eqi, cm_nei, cm_eqs, cm_nes, isTy, Option.map_some, p9, p10, p11, p18, wipeR, backR, List.getD_cons_zero, List.getD_cons_succ]
      rintro _ _ ⟨rfl, rfl⟩
      refine ⟨Nat.le_of_ble_eq_true rfl, p_while (n := (300 - L).toNat) mk (fun n r1 => ∃ c : Nat, c = n ∧ L + c ≤ 300 ∧ (∀ m : Int, L + c ≤ m → m < 300 → g m = atT r m) ∧ r1 = El g l r (some (.val (.int L))) (some (.val (.int (L + c))))) ⟨(300 - L).toNat, rfl, by omega, fun m h1 h2 => by omega, by rw [show L + ((300 - L).toNat : Int) = 300 by omega]; rfl⟩ ?_⟩
      rintro n' _ ⟨c, rfl, hc, hsuf, rfl⟩
      have fin : (0 < c → g (L + c - 1) ≠ atT r (L + c - 1)) → wSs prI.P (Fk (k + 1)) (fd__law_shape.body.drop 6) (El g l r (some (.val (.int L))) (some (.val (.int (L + c))))) (Eq Q) := fun hend => by
        obtain ⟨c1, c2⟩ := law_form sl sr hl hr hL1 hc hpre q2 hsuf hend
        refine p_retb (x := .val (encS ⟨l, L, tabB L c g, r⟩)) mk ?_ (h _ c1 c2 hL1 (by simp only [Sh.e, tab_len]; omega))
        simp only [El, wSs, wS, wE, wEs, wT, wTs, wG, wGs, wI, wO, rdV, bind0, d_val, d_own, tru_bl, tru_non, tru_int, tru_lst, tru_tup, ix_l, ix_t, at_0, at_1, at_2, op_add, op_sub, op_mod, op_div, cm_lt, cm_le, cm_gt, cm_ge, List.map_cons, List.map_nil, List.cons_append, List.nil_append, List.length_cons, List.length_nil, List.replicate, List.append_nil, List.set_cons_zero, List.set_cons_succ, List.getElem?_cons_zero, List.getElem?_cons_succ, Option.some.injEq, exists_eq_left', true_and, and_true, if_true, if_false, Bool.false_eq_true, R.val.injEq, D.int.injEq, Nat.zero_add, Nat.reduceAdd, Nat.reduceSub, Nat.reduceLT, Nat.reduceLeDiff, Nat.reduceEqDiff, Bool.not_true, Bool.not_false, Bool.and_true, Bool.true_and, Bool.and_false, Bool.false_and, Int.reduceLT, Int.reduceLE, Int.reduceNeg, Int.reducePow, Int.reduceToNat, Int.reduceMul, Int.reduceSub, Int.reduceAdd, lnV, len_l, len_t, len_sc, bi_ln, bi_abs, bi_max, bi_min, bi_listl, bi_listt, bi_tupl, bi_tupt, bi_intb, bi_inti, bi_all, sl_l, sl_t, cm_is, cm_isnot, is_non, is_bl, cm_eqi, cm_nei, cm_eqs, cm_nes, isTy, Option.map_some, p9, p10, p11, p18, wipeR, backR, List.getD_cons_zero, List.getD_cons_succ, sl_tx (show (tabB (-500) 1001 g).length ≤ 16777216 by rw [tab_len]; decide), encS]
        refine ⟨by decide, ?_⟩
        have ea : L + 500 = ((L + 500).toNat : Int) := by omega
        have eb : L + (c : Int) + 500 = ((L + 500).toNat + c : Nat) := by omega
        rw [eb, ea, cut_tx, Int.toNat_natCast, show (L + 500).toNat + c - (L + 500).toNat = c by omega, cut_tab (by omega), show -500 + ((L + 500).toNat : Int) = L by omega]
      simp only [El, wT, wE, wEs, lnV, rdV, List.getElem?_cons_zero, List.getElem?_cons_succ, d_val, cm_gt, tru_bl, Option.some.injEq, exists_eq_left']
      by_cases q3 : 0 < c
      · have e3 : decide (L < L + (c : Int)) = true := decide_eq_true (by omega)
        obtain ⟨j, j1, j2⟩ := ix_side (n := L + c - 1) sr
        simp only [e3, if_true, op_add, op_sub, d_val, Option.some.injEq, exists_eq_left', ix_row (g := g) (show -500 ≤ L + (c : Int) - 1 by omega) (show L + (c : Int) - 1 ≤ 500 by omega), len_tx r16, j1, j2, cm_eqs, tx_eq, tru_bl]
        by_cases q4 : g (L + c - 1) = atT r (L + c - 1)
        · have e4 : decide ([g (L + (c : Int) - 1)] = [atT r (L + (c : Int) - 1)]) = true := decide_eq_true (by rw [q4])
          simp only [e4, if_true]
          refine ⟨q3, ?_⟩
          simp only [wSs, wS, wE, wG, rdV, List.getElem?_cons_zero, List.getElem?_cons_succ, d_val, op_sub, Option.some.injEq, exists_eq_left', List.set_cons_zero, List.set_cons_succ, List.length_cons, List.length_nil]
          refine ⟨by decide, c - 1, rfl, by omega, fun m h1 h2 => ?_, by rw [show L + ((c - 1 : Nat) : Int) = L + c - 1 by omega]⟩
          by_cases z : L + (c : Int) ≤ m
          · exact hsuf m z h2
          · have : m = L + c - 1 := by omega
            rw [this]; exact q4
        · have e4 : decide ([g (L + (c : Int) - 1)] = [atT r (L + (c : Int) - 1)]) = false := decide_eq_false (by simpa using q4)
          simp only [e4, Bool.false_eq_true, if_false]
          exact fin fun _ => q4
      · have e3 : decide (L < L + (c : Int)) = false := decide_eq_false (by omega)
        simp only [e3, Bool.false_eq_true, if_false]
        exact fin fun z => absurd z q3
  · have e1 : decide (L ≤ 300) = false := decide_eq_false q1
    simp only [e1, Bool.false_eq_true, if_false]
    refine monoSs mk _ up ?_
    obtain ⟨c1, c2⟩ := law_flat sl sr hl hr fun m h1 h2 => hpre m h1 (by omega)
    refine p_ift (r' := El g l r (some (.val (.int L))) none) mk ?_ (p_retb (x := .val (encS ⟨l, 0, [], l⟩)) mk ?_ (h _ c1 c2 (by simp only; omega) (by simp only [Sh.e]; simp)))
    · have : 300 < L := by omega
      simp only [El, wSs, wS, wE, wEs, wT, wTs, wG, wGs, wI, wO, rdV, bind0, d_val, d_own, tru_bl, tru_non, tru_int, tru_lst, tru_tup, ix_l, ix_t, at_0, at_1, at_2, op_add, op_sub, op_mod, op_div, cm_lt, cm_le, cm_gt, cm_ge, List.map_cons, List.map_nil, List.cons_append, List.nil_append, List.length_cons, List.length_nil, List.replicate, List.append_nil, List.set_cons_zero, List.set_cons_succ, List.getElem?_cons_zero, List.getElem?_cons_succ, Option.some.injEq, exists_eq_left', true_and, and_true, if_true, if_false, Bool.false_eq_true, R.val.injEq, D.int.injEq, Nat.zero_add, Nat.reduceAdd, Nat.reduceSub, Nat.reduceLT, Nat.reduceLeDiff, Nat.reduceEqDiff, Bool.not_true, Bool.not_false, Bool.and_true, Bool.true_and, Bool.and_false, Bool.false_and, Int.reduceLT, Int.reduceLE, Int.reduceNeg, Int.reducePow, Int.reduceToNat, Int.reduceMul, Int.reduceSub, Int.reduceAdd, lnV, len_l, len_t, len_sc, bi_ln, bi_abs, bi_max, bi_min, bi_listl, bi_listt, bi_tupl, bi_tupt, bi_intb, bi_inti, bi_all, sl_l, sl_t, cm_is, cm_isnot, is_non, is_bl, cm_eqi, cm_nei, cm_eqs, cm_nes, isTy, Option.map_some, p9, p10, p11, p18, wipeR, backR, List.getD_cons_zero, List.getD_cons_succ, this, decide_true]
    · simp only [El, wSs, wS, wE, wEs, wT, wTs, wG, wGs, wI, wO, rdV, bind0, d_val, d_own, tru_bl, tru_non, tru_int, tru_lst, tru_tup, ix_l, ix_t, at_0, at_1, at_2, op_add, op_sub, op_mod, op_div, cm_lt, cm_le, cm_gt, cm_ge, List.map_cons, List.map_nil, List.cons_append, List.nil_append, List.length_cons, List.length_nil, List.replicate, List.append_nil, List.set_cons_zero, List.set_cons_succ, List.getElem?_cons_zero, List.getElem?_cons_succ, Option.some.injEq, exists_eq_left', true_and, and_true, if_true, if_false, Bool.false_eq_true, R.val.injEq, D.int.injEq, Nat.zero_add, Nat.reduceAdd, Nat.reduceSub, Nat.reduceLT, Nat.reduceLeDiff, Nat.reduceEqDiff, Bool.not_true, Bool.not_false, Bool.and_true, Bool.true_and, Bool.and_false, Bool.false_and, Int.reduceLT, Int.reduceLE, Int.reduceNeg, Int.reducePow, Int.reduceToNat, Int.reduceMul, Int.reduceSub, Int.reduceAdd, lnV, len_l, len_t, len_sc, bi_ln, bi_abs, bi_max, bi_min, bi_listl, bi_listt, bi_tupl, bi_tupt, bi_intb, bi_inti, bi_all, sl_l, sl_t, cm_is, cm_isnot, is_non, is_bl, cm_eqi, cm_nei, cm_eqs, cm_nes, isTy, Option.map_some, p9, p10, p11, p18, wipeR, backR, List.getD_cons_zero, List.getD_cons_succ, encS, tx_nil]
      decide
end
end K12
set_option maxHeartbeats 3900000
namespace K12
open PySem PL
section
variable {k : Nat} {Q : R → Prop} {E : Xc → Prop}
theorem c_has_in {B : Nat} {x : Sh} {n : Int} (hx : Shp B x) (hB : B ≤ 1000000) (h : Q (.val (.bl (x.sg n)))) : Fk (k + 3) i_has_in [encS x, .int n] Q E := by
  refine Fk_at (fd := fd_has_in) rfl rfl ?_
  simp only [fd_has_in, wSs, wS, wE, wEs, wT, wTs, wG, wGs, wI, wO, rdV, bind0, d_val, d_own, tru_bl, tru_non, tru_int, tru_lst, tru_tup, ix_l, ix_t, at_0, at_1, at_2, op_add, op_sub, op_mod, op_div, cm_lt, cm_le, cm_gt, cm_ge, List.map_cons, List.map_nil, List.cons_append, List.nil_append, List.length_cons, List.length_nil, List.replicate, List.append_nil, List.set_cons_zero, List.set_cons_succ, List.getElem?_cons_zero, List.getElem?_cons_succ, Option.some.injEq, exists_eq_left', true_and, and_true, if_true, if_false, Bool.false_eq_true, R.val.injEq, D.int.injEq, Nat.zero_add, Nat.reduceAdd, Nat.reduceSub, Nat.reduceLT, Nat.reduceLeDiff, Nat.reduceEqDiff, Bool.not_true, Bool.not_false, Bool.and_true, Bool.true_and, Bool.and_false, Bool.false_and, Int.reduceLT, Int.reduceLE, Int.reduceNeg, Int.reducePow, Int.reduceToNat, Int.reduceMul, Int.reduceSub, Int.reduceAdd, lnV, len_l, len_t, len_sc, bi_ln, bi_abs, bi_max, bi_min, bi_listl, bi_listt, bi_tupl, bi_tupt, bi_intb, bi_inti, bi_all, sl_l, sl_t, cm_is, cm_isnot, is_non, is_bl, cm_eqi, cm_nei, cm_eqs, cm_nes, isTy, Option.map_some, p9, p10, p11, p18, wipeR, backR, List.getD_cons_zero, List.getD_cons_succ]
  refine c_sign_of (k := k) hx hB ?_
  rw [← tx_1]
  simp only [d_val, d_own, cm_eqs, cm_eqi, tru_bl, Option.some.injEq, exists_eq_left', op_add, op_sub, tx_eq]
  have e : decide ([x.sg n] = [true]) = x.sg n := by cases x.sg n <;> rfl
  rw [e]
  exact h
theorem c_need_shapes {B : Nat} {xs : List Sh} (hx : ∀ x ∈ xs, Shp B x) (hB : B ≤ 100000) (h : Q (.val .non)) : Fk (k + 4) i_need_shapes [.lst (xs.map encS)] Q E := by
  refine Fk_at (fd := fd_need_shapes) rfl rfl (p_for mk (fun ds r1 => ds = xs.map encS ∧ ∃ b, r1 = [some (.val (.lst (xs.map encS))), b]) (fun r1 => ∃ b, r1 = [some (.val (.lst (xs.map encS))), b]) ?_ (fun ds r1 h => h.2) (fun ds r0 hds x hx' r1 hr1 k1 hk1 => ?_) fun r1 hr1 => p_nil h)
  · simp only [fd_need_shapes, wSs, wS, wE, wEs, wT, wTs, wG, wGs, wI, wO, rdV, bind0, d_val, d_own, tru_bl, tru_non, tru_int, tru_lst, tru_tup, ix_l, ix_t, at_0, at_1, at_2, op_add, op_sub, op_mod, op_div, cm_lt, cm_le, cm_gt, cm_ge, List.map_cons, List.map_nil, List.cons_append, List.nil_append, List.length_cons, List.length_nil, List.replicate, List.append_nil, List.set_cons_zero, List.set_cons_succ, List.getElem?_cons_zero, List.getElem?_cons_succ, Option.some.injEq, exists_eq_left', true_and, and_true, if_true, if_false, Bool.false_eq_true, R.val.injEq, D.int.injEq, Nat.zero_add, Nat.reduceAdd, Nat.reduceSub, Nat.reduceLT, Nat.reduceLeDiff, Nat.reduceEqDiff, Bool.not_true, Bool.not_false, Bool.and_true, Bool.true_and, Bool.and_false, Bool.false_and, Int.reduceLT, Int.reduceLE, Int.reduceNeg, Int.reducePow, Int.reduceToNat, Int.reduceMul, Int.reduceSub, Int.reduceAdd, lnV, len_l, len_t, len_sc, bi_ln, bi_abs, bi_max, bi_min, bi_listl, bi_listt, bi_tupl, bi_tupt, bi_intb, bi_inti, bi_all, sl_l, sl_t, cm_is, cm_isnot, is_non, is_bl, cm_eqi, cm_nei, cm_eqs, cm_nes, isTy, Option.map_some, p9, p10, p11, p18, wipeR, backR, List.getD_cons_zero, List.getD_cons_succ]
    exact ⟨_, rfl⟩
  · obtain ⟨rfl, _⟩ := hds
    obtain ⟨b, rfl⟩ := hr1
    obtain ⟨y, hy, rfl⟩ := List.mem_map.mp hx'
    refine ⟨Nat.le_of_ble_eq_true rfl, p_skip (r' := [some (.val (.lst (xs.map encS))), some (.val (encS y))]) mk ?_ (p_nil (hk1 _ ⟨_, rfl⟩))⟩
    simp only [wSs, wS, wE, wEs, wT, wTs, wG, wGs, wI, wO, rdV, bind0, d_val, d_own, tru_bl, tru_non, tru_int, tru_lst, tru_tup, ix_l, ix_t, at_0, at_1, at_2, op_add, op_sub, op_mod, op_div, cm_lt, cm_le, cm_gt, cm_ge, List.map_cons, List.map_nil, List.cons_append, List.nil_append, List.length_cons, List.length_nil, List.replicate, List.append_nil, List.set_cons_zero, List.set_cons_succ, List.getElem?_cons_zero, List.getElem?_cons_succ, Option.some.injEq, exists_eq_left', true_and, and_true, if_true, if_false, Bool.false_eq_true, R.val.injEq, D.int.injEq, Nat.zero_add, Nat.reduceAdd, Nat.reduceSub, Nat.reduceLT, Nat.reduceLeDiff, Nat.reduceEqDiff, Bool.not_true, Bool.not_false, Bool.and_true, Bool.true_and, Bool.and_false, Bool.false_and, Int.reduceLT, Int.reduceLE, Int.reduceNeg, Int.reducePow, Int.reduceToNat, Int.reduceMul, Int.reduceSub, Int.reduceAdd, lnV, len_l, len_t, len_sc, bi_ln, bi_abs, bi_max, bi_min, bi_listl, bi_listt, bi_tupl, bi_tupt, bi_intb, bi_inti, bi_all, sl_l, sl_t, cm_is, cm_isnot, is_non, is_bl, cm_eqi, cm_nei, cm_eqs, cm_nes, isTy, Option.map_some, p9, p10, p11, p18, wipeR, backR, List.getD_cons_zero, List.getD_cons_succ]
    refine c_is_shape (k := k) (hx y hy) hB ?_
    simp only [wSs, wS, wE, wEs, wT, wTs, wG, wGs, wI, wO, rdV, bind0, d_val, d_own, tru_bl, tru_non, tru_int, tru_lst, tru_tup, ix_l, ix_t, at_0, at_1, at_2, op_add, op_sub, op_mod, op_div, cm_lt, cm_le, cm_gt, cm_ge, List.map_cons, List.map_nil, List.cons_append, List.nil_append, List.length_cons, List.length_nil, List.replicate, List.append_nil, List.set_cons_zero, List.set_cons_succ, List.getElem?_cons_zero, List.getElem?_cons_succ, Option.some.injEq, exists_eq_left', true_and, and_true, if_true, if_false, Bool.false_eq_true, R.val.injEq, D.int.injEq, Nat.zero_add, Nat.reduceAdd, Nat.reduceSub, Nat.reduceLT, Nat.reduceLeDiff, Nat.reduceEqDiff, Bool.not_true, Bool.not_false, Bool.and_true, Bool.true_and, Bool.and_false, Bool.false_and, Int.reduceLT, Int.reduceLE, Int.reduceNeg, Int.reducePow, Int.reduceToNat, Int.reduceMul, Int.reduceSub, Int.reduceAdd, lnV, len_l, len_t, len_sc, bi_ln, bi_abs, bi_max, bi_min, bi_listl, bi_listt, bi_tupl, bi_tupt, bi_intb, bi_inti, bi_all, sl_l, sl_t, cm_is, cm_isnot, is_non, is_bl, cm_eqi, cm_nei, cm_eqs, cm_nes, isTy, Option.map_some, p9, p10, p11, p18, wipeR, backR, List.getD_cons_zero, List.getD_cons_succ]
theorem c_need_1 {B : Nat} {x : Sh} (hx : Shp B x) (hB : B ≤ 100000) (h : Q (.val .non)) : Fk (k + 4) i_need_shapes [.lst [encS x]] Q E :=
  c_need_shapes (xs := [x]) (by simpa using hx) hB h
abbrev Em (x : Sh) (f : Int) (a b : Option R) : PL.Env := [some (.val (encS x)), some (.val (.str (tx x.l))), some (.val (.int x.low)), some (.val (.str (tx x.m))), some (.val (.str (tx x.r))), some (.val (.int f)), a, b]
theorem c_least_in {B : Nat} {x : Sh} (hx : Shp B x) (hB : B ≤ 100000) (h : ∀ d, Least x.sg d → lowD d → Q (.val d)) : Fk (k + 4) i_least_in [encS x] Q E := by
  have hlim : lim = 16777216 := rfl
  have hml := hx.ml
  have sl := hx.c.hl
  have sr := hx.c.hr
  have l1 := sl.le
  have l2 := sr.le
  have ml : x.l.length ≤ 16777216 := by omega
  have mr : x.r.length ≤ 16777216 := by omega
  have b1 := hx.lo
  have b2 := hx.hi
  have he : x.e = x.low + x.m.length := rfl
  refine Fk_at (fd := fd_least_in) rfl rfl (p_asg mk (fun y r1 => y = .val (encS x) ∧ r1 = [some (.val (encS x)), none, none, none, none, none, none, none]) ?_ ?_)
  · simp only [fd_least_in, wSs, wS, wE, wEs, wT, wTs, wG, wGs, wI, wO, rdV, bind0, d_val, d_own, tru_bl, tru_non, tru_int, tru_lst, tru_tup, ix_l, ix_t, at_0, at_1, at_2, op_add, op_sub, op_mod, op_div, cm_lt, cm_le, cm_gt, cm_ge, List.map_cons, List.map_nil, List.cons_append, List.nil_append, List.length_cons, List.length_nil, List.replicate, List.append_nil, List.set_cons_zero, List.set_cons_succ, List.getElem?_cons_zero, List.getElem?_cons_succ, Option.some.injEq, exists_eq_left', true_and, and_true, if_true, if_false, Bool.false_eq_true, R.val.injEq, D.int.injEq, Nat.zero_add, Nat.reduceAdd, Nat.reduceSub, Nat.reduceLT, Nat.reduceLeDiff, Nat.reduceEqDiff, Bool.not_true, Bool.not_false, Bool.and_true, Bool.true_and, Bool.and_false, Bool.false_and, Int.reduceLT, Int.reduceLE, Int.reduceNeg, Int.reducePow, Int.reduceToNat, Int.reduceMul, Int.reduceSub, Int.reduceAdd, lnV, len_l, len_t, len_sc, bi_ln, bi_abs, bi_max, bi_min, bi_listl, bi_listt, bi_tupl, bi_tupt, bi_intb, bi_inti, bi_all, sl_l, sl_t, cm_is, cm_isnot, is_non, is_bl, cm_eqi, cm_nei, cm_eqs, cm_nes, isTy, Option.map_some, p9, p10, p11, p18, wipeR, backR, List.getD_cons_zero, List.getD_cons_succ]
  rintro _ _ ⟨rfl, rfl⟩
  simp only [encS, wG, wGs, d_val, List.length_cons, List.length_nil, List.set_cons_zero, List.set_cons_succ, true_and, Nat.zero_add, Nat.reduceAdd, Nat.reduceLT]
  refine p_asg mk (fun y r1 => ∃ f : Nat, x.low.natAbs + x.l.length ≤ f ∧ x.e.natAbs + x.r.length ≤ f ∧ f ≤ 1000000 ∧ y = .val (.int (f : Int)) ∧ r1 = [some (.val (encS x)), some (.val (.str (tx x.l))), some (.val (.int x.low)), some (.val (.str (tx x.m))), some (.val (.str (tx x.r))), none, none, none]) ?_ ?_
  · simp only [wE, wEs, rdV, List.getElem?_cons_zero, List.getElem?_cons_succ, d_val, bi_abs, Option.some.injEq, exists_eq_left']
    refine c_end_of (k := k + 2) hx (by omega) ?_
    simp only [d_val, bi_abs, bi_max, lnV, List.getElem?_cons_zero, List.getElem?_cons_succ, len_tx ml, len_tx mr, Option.map_some, op_add, Option.some.injEq, exists_eq_left']
    refine ⟨max x.low.natAbs x.e.natAbs + max x.l.length x.r.length, by omega, by omega, by omega, ?_, by first | rfl | trivial⟩
    congr 2
    (repeat' split) <;> omega
  rintro _ _ ⟨f, f1, f2, f3, rfl, rfl⟩
  refine ⟨Nat.le_of_ble_eq_true rfl, p_fo mk (fun ds r1 => ds = rngD 0 (f + 1) ∧ r1 = Em x f none none) ?_ ?_⟩
  · simp only [Em, wI, wE, wEs, rdV, List.set_cons_zero, List.set_cons_succ, List.getElem?_cons_zero, List.getElem?_cons_succ, d_val, op_add, Option.some.injEq, exists_eq_left', D.int.injEq]
    rw [show ((f : Int) + 1).toNat = f + 1 by omega]
    and_intros <;> first | omega | rfl | trivial
  rintro _ _ ⟨rfl, rfl⟩
  refine loop_rng (fun j r => (∀ b : Int, (b.natAbs : Int) < j → x.sg b = false) ∧ ∃ a b, r = Em x f a b) ⟨fun b hb => by omega, _, _, rfl⟩ ?_ ?_
  · rintro j r k1 j1 j2 ⟨hj, a, b, rfl⟩ hk1
    refine ⟨Nat.le_of_ble_eq_true rfl, p_fo mk (fun ds r1 => ds = [.int j, .int (-j)] ∧ r1 = Em x f (some (.val (.int j))) b) ?_ ?_⟩
    · simp only [Em, wI, wE, wEs, wO, rdV, List.set_cons_zero, List.set_cons_succ, List.getElem?_cons_zero, List.getElem?_cons_succ, d_val, Option.some.injEq, exists_eq_left', D.int.injEq, List.length_cons, List.length_nil]
      and_intros <;> first | rfl | trivial | (show _ ≤ lim; decide)
    rintro _ _ ⟨rfl, rfl⟩
    simp only [loopP]
    refine ⟨Nat.le_of_ble_eq_true rfl, ?_⟩
    cases q1 : x.sg j with
    | true =>
      refine p_ift (r' := Em x f (some (.val (.int j))) (some (.val (.int j)))) mk ?_ ?_
      · simp only [Em, wT, wE, wEs, rdV, List.set_cons_zero, List.set_cons_succ, List.getElem?_cons_zero, List.getElem?_cons_succ, d_val]
        refine c_has_in (k := k) hx (by omega) ?_
        simp only [q1, d_val, tru_bl, Option.some.injEq, exists_eq_left']
        all_goals first | exact ⟨rfl, rfl⟩ | exact ⟨trivial, trivial⟩
      · refine p_retb mk (x := .val (.int j)) ?_ (h _ (.inr ⟨j, rfl, q1, fun b hb => ?_⟩) (.inr ⟨j, rfl, by omega⟩))
        · simp only [Em, wE, rdV, List.set_cons_zero, List.set_cons_succ, List.getElem?_cons_zero, List.getElem?_cons_succ]
        · by_cases q : (b.natAbs : Int) < j
          · rw [hj b q] at hb; cases hb
          · unfold rk; split <;> split <;> omega
    | false =>
      refine p_skip (r' := Em x f (some (.val (.int j))) (some (.val (.int j)))) mk ?_ (p_nil ⟨Nat.le_of_ble_eq_true rfl, ?_⟩)
      · simp only [Em, wT, wE, wEs, rdV, List.set_cons_zero, List.set_cons_succ, List.getElem?_cons_zero, List.getElem?_cons_succ, d_val]
        refine c_has_in (k := k) hx (by omega) ?_
        simp only [q1, d_val, tru_bl, Option.some.injEq, exists_eq_left']
        all_goals first | exact ⟨rfl, rfl⟩ | exact ⟨trivial, trivial⟩
      cases q2 : x.sg (-j) with
      | true =>
        refine p_ift (r' := Em x f (some (.val (.int j))) (some (.val (.int (-j))))) mk ?_ ?_
        · simp only [Em, wT, wE, wEs, rdV, List.set_cons_zero, List.set_cons_succ, List.getElem?_cons_zero, List.getElem?_cons_succ, d_val]
          refine c_has_in (k := k) hx (by omega) ?_
          simp only [q2, d_val, tru_bl, Option.some.injEq, exists_eq_left']
          all_goals first | exact ⟨rfl, rfl⟩ | exact ⟨trivial, trivial⟩
        · refine p_retb mk (x := .val (.int (-j))) ?_ (h _ (.inr ⟨-j, rfl, q2, fun b hb => ?_⟩) (.inr ⟨-j, rfl, by omega⟩))
          · simp only [Em, wE, rdV, List.set_cons_zero, List.set_cons_succ, List.getElem?_cons_zero, List.getElem?_cons_succ]
          · by_cases q : (b.natAbs : Int) < j
            · rw [hj b q] at hb; cases hb
            · by_cases q3 : b = j
              · rw [q3, q1] at hb; cases hb
              · unfold rk; split <;> split <;> omega
      | false =>
        refine p_skip (r' := Em x f (some (.val (.int j))) (some (.val (.int (-j))))) mk ?_ (p_nil (p_nil (P := prI.P) (F := Fk (k + 3)) (hk1 _ ⟨fun b hb => ?_, _, _, rfl⟩)))
        · simp only [Em, wT, wE, wEs, rdV, List.set_cons_zero, List.set_cons_succ, List.getElem?_cons_zero, List.getElem?_cons_succ, d_val]
          refine c_has_in (k := k) hx (by omega) ?_
          simp only [q2, d_val, tru_bl, Option.some.injEq, exists_eq_left']
          all_goals first | exact ⟨rfl, rfl⟩ | exact ⟨trivial, trivial⟩
        · by_cases q : (b.natAbs : Int) < j
          · exact hj b q
          · by_cases q3 : b = j
            · rw [q3]; exact q1
            · rw [show b = -j by omega]; exact q2
  · rintro r ⟨hj, a, b, rfl⟩
    refine p_retb mk (x := .val .non) ?_ (h _ (.inl ⟨rfl, sh_none hx.c f1 f2 fun b hb => hj b (by omega)⟩) (.inl rfl))
    simp only [wE]
theorem c_least_letter {B : Nat} {x : Sh} (hx : Shp B x) (hB : B ≤ 100000) (h : ∀ d, Least x.sg d → lowD d → Q (.val d)) : Fk (k + 5) i_least_letter [encS x] Q E := by
  refine Fk_at (fd := fd_least_letter) rfl rfl (p_ex mk (fun _ r1 => r1 = [some (.val (encS x))]) ?_ ?_)
  · simp only [fd_least_letter, wSs, wS, wE, wEs, wT, wTs, wG, wGs, wI, wO, rdV, bind0, d_val, d_own, tru_bl, tru_non, tru_int, tru_lst, tru_tup, ix_l, ix_t, at_0, at_1, at_2, op_add, op_sub, op_mod, op_div, cm_lt, cm_le, cm_gt, cm_ge, List.map_cons, List.map_nil, List.cons_append, List.nil_append, List.length_cons, List.length_nil, List.replicate, List.append_nil, List.set_cons_zero, List.set_cons_succ, List.getElem?_cons_zero, List.getElem?_cons_succ, Option.some.injEq, exists_eq_left', true_and, and_true, if_true, if_false, Bool.false_eq_true, R.val.injEq, D.int.injEq, Nat.zero_add, Nat.reduceAdd, Nat.reduceSub, Nat.reduceLT, Nat.reduceLeDiff, Nat.reduceEqDiff, Bool.not_true, Bool.not_false, Bool.and_true, Bool.true_and, Bool.and_false, Bool.false_and, Int.reduceLT, Int.reduceLE, Int.reduceNeg, Int.reducePow, Int.reduceToNat, Int.reduceMul, Int.reduceSub, Int.reduceAdd, lnV, len_l, len_t, len_sc, bi_ln, bi_abs, bi_max, bi_min, bi_listl, bi_listt, bi_tupl, bi_tupt, bi_intb, bi_inti, bi_all, sl_l, sl_t, cm_is, cm_isnot, is_non, is_bl, cm_eqi, cm_nei, cm_eqs, cm_nes, isTy, Option.map_some, p9, p10, p11, p18, wipeR, backR, List.getD_cons_zero, List.getD_cons_succ]
    exact ⟨by show 1 ≤ lim; decide, c_need_1 (k := k) hx hB (by first | rfl | trivial)⟩
  rintro _ _ rfl
  simp only [wSs, wS, wE, wEs, rdV, List.getElem?_cons_zero, d_val]
  exact c_least_in (k := k) hx hB h
end
end K12
set_option maxHeartbeats 3900000
namespace K12
open PySem PL
section
variable {k : Nat} {Q : R → Prop} {E : Xc → Prop}
theorem c_need_2 {B : Nat} {x y : Sh} (hx : Shp B x) (hy : Shp B y) (hB : B ≤ 100000) (h : Q (.val .non)) : Fk (k + 4) i_need_shapes [.lst [encS x, encS y]] Q E :=
  c_need_shapes (xs := [x, y]) (by simpa using ⟨hx, hy⟩) hB h
theorem c_all_others {B : Nat} {x : Sh} (hx : Shp B x) (hB : B ≤ 100000) (h : ∀ z : Sh, Shp (B + 60) z → (∀ n, z.sg n = !x.sg n) → Q (.val (encS z))) : Fk (k + 7) i_all_others [encS x] Q E := by
  refine Fk_at (fd := fd_all_others) rfl rfl (p_ex mk (fun _ r1 => r1 = [some (.val (encS x))]) ?_ ?_)
  · simp only [fd_all_others, wSs, wS, wE, wEs, wT, wTs, wG, wGs, wI, wO, rdV, bind0, d_val, d_own, tru_bl, tru_non, tru_int, tru_lst, tru_tup, ix_l, ix_t, at_0, at_1, at_2, op_add, op_sub, op_mod, op_div, cm_lt, cm_le, cm_gt, cm_ge, List.map_cons, List.map_nil, List.cons_append, List.nil_append, List.length_cons, List.length_nil, List.replicate, List.append_nil, List.set_cons_zero, List.set_cons_succ, List.getElem?_cons_zero, List.getElem?_cons_succ, Option.some.injEq, exists_eq_left', true_and, and_true, if_true, if_false, Bool.false_eq_true, R.val.injEq, D.int.injEq, Nat.zero_add, Nat.reduceAdd, Nat.reduceSub, Nat.reduceLT, Nat.reduceLeDiff, Nat.reduceEqDiff, Bool.not_true, Bool.not_false, Bool.and_true, Bool.true_and, Bool.and_false, Bool.false_and, Int.reduceLT, Int.reduceLE, Int.reduceNeg, Int.reducePow, Int.reduceToNat, Int.reduceMul, Int.reduceSub, Int.reduceAdd, lnV, len_l, len_t, len_sc, bi_ln, bi_abs, bi_max, bi_min, bi_listl, bi_listt, bi_tupl, bi_tupt, bi_intb, bi_inti, bi_all, sl_l, sl_t, cm_is, cm_isnot, is_non, is_bl, cm_eqi, cm_nei, cm_eqs, cm_nes, isTy, Option.map_some, p9, p10, p11, p18, wipeR, backR, List.getD_cons_zero, List.getD_cons_succ]
    exact ⟨by show 1 ≤ lim; decide, c_need_1 (k := k + 2) hx hB (by first | rfl | trivial)⟩
  rintro _ _ rfl
  simp only [wSs, wS, wE, wEs, rdV, List.getElem?_cons_zero, List.getElem?_cons_succ, d_val]
  exact c_others_in (k := k) hx hB h
end
/-! ### expressions that come to shapes -/
/-- a shape of a set, nothing else changed -/
def IsS (C : Nat) (f : Int → Bool) (r : PL.Env) (v : R) (r1 : PL.Env) : Prop := ∃ z : Sh, Shp C z ∧ (∀ n, z.sg n = f n) ∧ v = .val (encS z) ∧ r1 = r
section
variable {k C C' : Nat} {f g : Int → Bool} {r : PL.Env} {a b : Ex}

theorem eS_var {i : Nat} {x : Sh} (h : r[i]? = some (some (.val (encS x)))) (hx : Shp C x) : wE prI.P (Fk k) (.var i) r (IsS C x.sg r) (fun (_ : Xc) (_ : PL.Env) => False) := by
  simp only [wE, rdV, h]
  exact ⟨x, hx, fun _ => rfl, rfl, rfl⟩
theorem eS_others (ha : wE prI.P (Fk (k + 7)) a r (IsS C f r) (fun (_ : Xc) (_ : PL.Env) => False)) (hC : C ≤ 100000) : wE prI.P (Fk (k + 7)) (.call i_all_others [a]) r (IsS (C + 60) (fun n => !f n) r) (fun (_ : Xc) (_ : PL.Env) => False) := by
  simp only [wE, wEs]
  refine wE_mono mk ha (fun v r1 ⟨x, hx, fx, e, e1⟩ => ?_) fun _ _ z => z
  subst e e1
  exact c_all_others (k := k) hx hC fun z z1 z2 => ⟨z, z1, fun n => by rw [z2, fx], rfl, rfl⟩
theorem eI_var {i : Nat} {m : Int} (h : r[i]? = some (some (.val (.int m)))) : wE prI.P (Fk k) (.var i) r (fun v r1 => v = .val (.int m) ∧ r1 = r) (fun (_ : Xc) (_ : PL.Env) => False) := by
  simp only [wE, rdV, h]
  and_intros <;> first | rfl | trivial
/-- two ways to one set -/
theorem tS_ne (ha : wE prI.P (Fk k) a r (IsS C f r) (fun (_ : Xc) (_ : PL.Env) => False)) (hb : wE prI.P (Fk k) b r (IsS C' g r) (fun (_ : Xc) (_ : PL.Env) => False)) (h : ∀ n, f n = g n) : wT prI.P (Fk k) (.cmp .ne a b) r (fun q r1 => q = false ∧ r1 = r) (fun (_ : Xc) (_ : PL.Env) => False) := by
  simp only [wT, wE]
  refine wE_mono mk ha (fun v r1 ⟨x, hx, fx, e, e1⟩ => ?_) fun _ _ z => z
  subst e e1
  refine wE_mono mk hb (fun v r1 ⟨y, hy, gy, e, e1⟩ => ?_) fun _ _ z => z
  subst e e1
  simp only [d_val]
  exact ⟨false, ne_sh hx.c hy.c fun n => (by rw [fx, gy, h]), false, rfl, rfl, by first | rfl | trivial⟩
end
end K12
set_option maxHeartbeats 3900000
namespace K12
open PySem PL
section
variable {k : Nat} {Q : R → Prop} {E : Xc → Prop}
theorem c_drawn (hk : 8 ≤ k) (h : ∀ s : Sg, s.ok → s.dp ≤ 4 → s.sz ≤ 30 → Q (.val s.enc)) : Fk (k + 1) i__law_drawn [.pot] Q E := by
  obtain ⟨j, rfl⟩ : ∃ j, k = j + 3 := ⟨k - 3, by omega⟩
  refine Fk_at (fd := fd__law_drawn) rfl rfl (p_asg mk (fun y r1 => ∃ s : Sg, s.ok ∧ s.dp ≤ 4 ∧ y = .val s.enc ∧ r1 = [some (.val .pot), none]) ?_ ?_)
  · simp only [fd__law_drawn, wSs, wS, wE, wEs, wT, wTs, wG, wGs, wI, wO, rdV, bind0, d_val, d_own, tru_bl, tru_non, tru_int, tru_lst, tru_tup, ix_l, ix_t, at_0, at_1, at_2, op_add, op_sub, op_mod, op_div, cm_lt, cm_le, cm_gt, cm_ge, List.map_cons, List.map_nil, List.cons_append, List.nil_append, List.length_cons, List.length_nil, List.replicate, List.append_nil, List.set_cons_zero, List.set_cons_succ, List.getElem?_cons_zero, List.getElem?_cons_succ, Option.some.injEq, exists_eq_left', true_and, and_true, if_true, if_false, Bool.false_eq_true, R.val.injEq, D.int.injEq, Nat.zero_add, Nat.reduceAdd, Nat.reduceSub, Nat.reduceLT, Nat.reduceLeDiff, Nat.reduceEqDiff, Bool.not_true, Bool.not_false, Bool.and_true, Bool.true_and, Bool.and_false, Bool.false_and, Int.reduceLT, Int.reduceLE, Int.reduceNeg, Int.reducePow, Int.reduceToNat, Int.reduceMul, Int.reduceSub, Int.reduceAdd, lnV, len_l, len_t, len_sc, bi_ln, bi_abs, bi_max, bi_min, bi_listl, bi_listt, bi_tupl, bi_tupt, bi_intb, bi_inti, bi_all, sl_l, sl_t, cm_is, cm_isnot, is_non, is_bl, cm_eqi, cm_nei, cm_eqs, cm_nes, isTy, Option.map_some, p9, p10, p11, p18, wipeR, backR, List.getD_cons_zero, List.getD_cons_succ]
    refine c_take (by decide) (by decide) fun y hy1 hy2 => ?_
    simp only [wSs, wS, wE, wEs, wT, wTs, wG, wGs, wI, wO, rdV, bind0, d_val, d_own, tru_bl, tru_non, tru_int, tru_lst, tru_tup, ix_l, ix_t, at_0, at_1, at_2, op_add, op_sub, op_mod, op_div, cm_lt, cm_le, cm_gt, cm_ge, List.map_cons, List.map_nil, List.cons_append, List.nil_append, List.length_cons, List.length_nil, List.replicate, List.append_nil, List.set_cons_zero, List.set_cons_succ, List.getElem?_cons_zero, List.getElem?_cons_succ, Option.some.injEq, exists_eq_left', true_and, and_true, if_true, if_false, Bool.false_eq_true, R.val.injEq, D.int.injEq, Nat.zero_add, Nat.reduceAdd, Nat.reduceSub, Nat.reduceLT, Nat.reduceLeDiff, Nat.reduceEqDiff, Bool.not_true, Bool.not_false, Bool.and_true, Bool.true_and, Bool.and_false, Bool.false_and, Int.reduceLT, Int.reduceLE, Int.reduceNeg, Int.reducePow, Int.reduceToNat, Int.reduceMul, Int.reduceSub, Int.reduceAdd, lnV, len_l, len_t, len_sc, bi_ln, bi_abs, bi_max, bi_min, bi_listl, bi_listt, bi_tupl, bi_tupt, bi_intb, bi_inti, bi_all, sl_l, sl_t, cm_is, cm_isnot, is_non, is_bl, cm_eqi, cm_nei, cm_eqs, cm_nes, isTy, Option.map_some, p9, p10, p11, p18, wipeR, backR, List.getD_cons_zero, List.getD_cons_succ]
    obtain ⟨n, rfl⟩ := Int.eq_ofNat_of_zero_le hy1
    exact c_saying (n := n) (by omega) fun s h1 h2 => ⟨s, h1, by omega, rfl⟩
  rintro _ _ ⟨s, ok, dp, rfl, rfl⟩
  refine ⟨Nat.le_of_ble_eq_true rfl, p_ret mk (fun v _ => ∃ s : Sg, s.ok ∧ s.dp ≤ 4 ∧ s.sz ≤ 30 ∧ v = .val s.enc) ?_ fun v r1 ⟨u, u1, u2, u3, e⟩ => by rw [e]; exact h u u1 u2 u3⟩
  simp only [wE, wEs, wT, rdV, List.getElem?_cons_zero, List.getElem?_cons_succ, List.set_cons_zero, List.set_cons_succ, d_val]
  refine c_many (by omega) ?_
  simp only [cm_le, tru_bl, d_val, Option.some.injEq, exists_eq_left']
  by_cases hz : s.sz ≤ 30
  · have e : decide ((s.sz : Int) ≤ 30) = true := decide_eq_true (by omega)
    simp only [e, if_true]
    exact ⟨s, ok, dp, hz, rfl⟩
  · have e : decide ((s.sz : Int) ≤ 30) = false := decide_eq_false (by omega)
    simp only [e, Bool.false_eq_true, if_false]
    exact c_rest (k := j + 1) fun m r ok' => ⟨.rs m r, ok', by simp [Sg.dp], by simp [Sg.sz], rfl⟩
end
end K12
set_option maxHeartbeats 3900000
namespace K12
open PySem PL
section
variable {k : Nat} {Q : R → Prop} {E : Xc → Prop}
/-- all signs of a text -/
theorem e_signs {F : Fn} {i j g : Nat} {r : PL.Env} {x : Str} {Ep : Xc → PL.Env → Prop} {Qp : R → PL.Env → Prop} (hg : prI.P.G g = some (.str "01")) (hi : r[i]? = some (some (.val (.str x)))) (hj : r[j]? = some none) (hs : x.cps.size ≤ 16777216) (h : Qp (.val (.bl (sgT x))) r) :
    wE prI.P F (.bi .all [(.lc (.nm j) (.seq (.var i)) [] (.cmp .isin (.var j) (.glo g)) [j])]) r Qp Ep := by
  have hlim : lim = 16777216 := rfl
  have hjl : j < r.length := (List.getElem?_eq_some_iff.mp hj).1
  simp only [wE, wEs, wI, rdV, hi, d_val]
  refine ⟨fun v hv ds => by simp at hv; subst hv; rw [hj]; simp, ?_⟩
  have er : wipeR r [j] = r := by
    simp only [wipeR]
    refine List.ext_getElem? fun n => ?_
    by_cases q : j = n
    · subst q; rw [List.getElem?_set_self hjl, hj]
    · rw [List.getElem?_set_ne q]
  have eb : backR r r [j] = r := by
    simp only [backR, List.getD_eq_getElem?_getD, hj, Option.getD_some]
    exact er
  rw [er]
  refine lc_mapA (fun c : Nat => D.str ⟨#[c]⟩) (fun c : Nat => D.bl (decide (c ∈ (Str.ofString "01").cps.toList))) (l := x.cps.toList) (by simp; omega) (fun c hc kk hk' => ?_) ?_
  · simp only [wG, wTs, wE, rdV, if_true, d_val]
    refine ⟨hjl, ?_⟩
    rw [List.getElem?_set_self hjl]
    refine ⟨.str "01", hg, decide (c ∈ (Str.ofString "01").cps.toList), rfl, ?_⟩
    have e2 : wipeR (r.set j (some (.val (.str ⟨#[c]⟩)))) [j] = r := by
      simp only [wipeR, List.set_set]
      exact er
    rw [e2]
    exact hk'
  · rw [eb]
    have e : (x.cps.toList.map fun c : Nat => D.bl (decide (c ∈ (Str.ofString "01").cps.toList))) = (x.cps.toList.map fun c => decide (c ∈ (Str.ofString "01").cps.toList)).map D.bl := by rw [List.map_map]; rfl
    rw [List.nil_append, e]
    simp only [d_own, bi_all, Option.some.injEq, exists_eq_left']
    have e2 : (x.cps.toList.map fun c => decide (c ∈ (Str.ofString "01").cps.toList)).all id = sgT x := by rw [List.all_map]; rfl
    rw [e2]
    exact h
theorem c_is_side_any {d : D} (hs : ∀ x, d = .str x → x.cps.size ≤ 16777216) (h : Q (.val (.bl (prB (IsSd d))))) : Fk (k + 1) i_is_side [d] Q E := by
  have nostr : (∀ x, d ≠ .str x) → isTy d .str = false → Fk (k + 1) i_is_side [d] Q E := fun hn ht => by
    rw [prB_f (fun ⟨t, _, _, e⟩ => hn _ e)] at h
    refine Fk_at (fd := fd_is_side) rfl rfl (p_ift mk (q_ort (r' := [some (.val d), none]) mk ?_) (p_retb mk ?_ h))
    · simp only [fd_is_side, wT, wE, rdV, bind0, List.map_cons, List.map_nil, List.cons_append, List.nil_append, List.length_cons, List.length_nil, List.replicate, List.getElem?_cons_zero, d_val, ht, Option.some.injEq, exists_eq_left', tru_bl, Bool.not_false, true_and]
    · simp only [wSs, wS, wE, wEs, wT, wTs, wG, wGs, wI, wO, rdV, bind0, d_val, d_own, tru_bl, tru_non, tru_int, tru_lst, tru_tup, ix_l, ix_t, at_0, at_1, at_2, op_add, op_sub, op_mod, op_div, cm_lt, cm_le, cm_gt, cm_ge, List.map_cons, List.map_nil, List.cons_append, List.nil_append, List.length_cons, List.length_nil, List.replicate, List.append_nil, List.set_cons_zero, List.set_cons_succ, List.getElem?_cons_zero, List.getElem?_cons_succ, Option.some.injEq, exists_eq_left', true_and, and_true, if_true, if_false, Bool.false_eq_true, R.val.injEq, D.int.injEq, Nat.zero_add, Nat.reduceAdd, Nat.reduceSub, Nat.reduceLT, Nat.reduceLeDiff, Nat.reduceEqDiff, Bool.not_true, Bool.not_false, Bool.and_true, Bool.true_and, Bool.and_false, Bool.false_and, Int.reduceLT, Int.reduceLE, Int.reduceNeg, Int.reducePow, Int.reduceToNat, Int.reduceMul, Int.reduceSub, Int.reduceAdd, lnV, len_l, len_t, len_sc, bi_ln, bi_abs, bi_max, bi_min, bi_listl, bi_listt, bi_tupl, bi_tupt, bi_intb, bi_inti, bi_all, sl_l, sl_t, cm_is, cm_isnot, is_non, is_bl, cm_eqi, cm_nei, cm_eqs, cm_nes, isTy, Option.map_some, p9, p10, p11, p18, wipeR, backR, List.getD_cons_zero, List.getD_cons_succ]
  cases d with
  | str x =>
    have hx := hs x rfl
    by_cases h0 : x.cps.size = 0
    · rw [prB_f (fun ⟨t, t1, t2, e⟩ => t1 (by
        rw [D.str.injEq] at e
        rw [e, tx_size] at h0
        exact List.length_eq_zero_iff.mp h0))] at h
      refine Fk_at (fd := fd_is_side) rfl rfl (p_ift (r' := [some (.val (.str x)), none]) mk ?_ (p_retb mk ?_ h))
      · simp only [fd_is_side, wSs, wS, wE, wEs, wT, wTs, wG, wGs, wI, wO, rdV, bind0, d_val, d_own, tru_bl, tru_non, tru_int, tru_lst, tru_tup, ix_l, ix_t, at_0, at_1, at_2, op_add, op_sub, op_mod, op_div, cm_lt, cm_le, cm_gt, cm_ge, List.map_cons, List.map_nil, List.cons_append, List.nil_append, List.length_cons, List.length_nil, List.replicate, List.append_nil, List.set_cons_zero, List.set_cons_succ, List.getElem?_cons_zero, List.getElem?_cons_succ, Option.some.injEq, exists_eq_left', true_and, and_true, if_true, if_false, Bool.false_eq_true, R.val.injEq, D.int.injEq, Nat.zero_add, Nat.reduceAdd, Nat.reduceSub, Nat.reduceLT, Nat.reduceLeDiff, Nat.reduceEqDiff, Bool.not_true, Bool.not_false, Bool.and_true, Bool.true_and, Bool.and_false, Bool.false_and, Int.reduceLT, Int.reduceLE, Int.reduceNeg, Int.reducePow, Int.reduceToNat, Int.reduceMul, Int.reduceSub, Int.reduceAdd, lnV, len_l, len_t, len_sc, bi_ln, bi_abs, bi_max, bi_min, bi_listl, bi_listt, bi_tupl, bi_tupt, bi_intb, bi_inti, bi_all, sl_l, sl_t, cm_is, cm_isnot, is_non, is_bl, cm_eqi, cm_nei, cm_eqs, cm_nes, isTy, Option.map_some, p9, p10, p11, p18, wipeR, backR, List.getD_cons_zero, List.getD_cons_succ, len_str hx]
        have e1 : decide ((x.cps.size : Int) = 0) = true := decide_eq_true (by omega)
        simp only [e1, wSs, wS, wE, wEs, wT, wTs, wG, wGs, wI, wO, rdV, bind0, d_val, d_own, tru_bl, tru_non, tru_int, tru_lst, tru_tup, ix_l, ix_t, at_0, at_1, at_2, op_add, op_sub, op_mod, op_div, cm_lt, cm_le, cm_gt, cm_ge, List.map_cons, List.map_nil, List.cons_append, List.nil_append, List.length_cons, List.length_nil, List.replicate, List.append_nil, List.set_cons_zero, List.set_cons_succ, List.getElem?_cons_zero, List.getElem?_cons_succ, Option.some.injEq, exists_eq_left', true_and, and_true, if_true, if_false, Bool.false_eq_true, R.val.injEq, D.int.injEq, Nat.zero_add, Nat.reduceAdd, Nat.reduceSub, Nat.reduceLT, Nat.reduceLeDiff, Nat.reduceEqDiff, Bool.not_true, Bool.not_false, Bool.and_true, Bool.true_and, Bool.and_false, Bool.false_and, Int.reduceLT, Int.reduceLE, Int.reduceNeg, Int.reducePow, Int.reduceToNat, Int.reduceMul, Int.reduceSub, Int.reduceAdd, lnV, len_l, len_t, len_sc, bi_ln, bi_abs, bi_max, bi_min, bi_listl, bi_listt, bi_tupl, bi_tupt, bi_intb, bi_inti, bi_all, sl_l, sl_t, cm_is, cm_isnot, is_non, is_bl, cm_eqi, cm_nei, cm_eqs, cm_nes, isTy, Option.map_some, p9, p10, p11, p18, wipeR, backR, List.getD_cons_zero, List.getD_cons_succ]
      · simp only [wSs, wS, wE, wEs, wT, wTs, wG, wGs, wI, wO, rdV, bind0, d_val, d_own, tru_bl, tru_non, tru_int, tru_lst, tru_tup, ix_l, ix_t, at_0, at_1, at_2, op_add, op_sub, op_mod, op_div, cm_lt, cm_le, cm_gt, cm_ge, List.map_cons, List.map_nil, List.cons_append, List.nil_append, List.length_cons, List.length_nil, List.replicate, List.append_nil, List.set_cons_zero, List.set_cons_succ, List.getElem?_cons_zero, List.getElem?_cons_succ, Option.some.injEq, exists_eq_left', true_and, and_true, if_true, if_false, Bool.false_eq_true, R.val.injEq, D.int.injEq, Nat.zero_add, Nat.reduceAdd, Nat.reduceSub, Nat.reduceLT, Nat.reduceLeDiff, Nat.reduceEqDiff, Bool.not_true, Bool.not_false, Bool.and_true, Bool.true_and, Bool.and_false, Bool.false_and, Int.reduceLT, Int.reduceLE, Int.reduceNeg, Int.reducePow, Int.reduceToNat, Int.reduceMul, Int.reduceSub, Int.reduceAdd, lnV, len_l, len_t, len_sc, bi_ln, bi_abs, bi_max, bi_min, bi_listl, bi_listt, bi_tupl, bi_tupt, bi_intb, bi_inti, bi_all, sl_l, sl_t, cm_is, cm_isnot, is_non, is_bl, cm_eqi, cm_nei, cm_eqs, cm_nes, isTy, Option.map_some, p9, p10, p11, p18, wipeR, backR, List.getD_cons_zero, List.getD_cons_succ]
    by_cases h6 : x.cps.size ∣ 60
    · refine Fk_at (fd := fd_is_side) rfl rfl (p_skip (r' := [some (.val (.str x)), none]) mk ?_ (p_ret mk (fun v _ => v = .val (.bl (sgT x))) (e_signs (by kernel_rfl) rfl rfl hx rfl) fun v r1 e => ?_))
      · simp only [fd_is_side, wSs, wS, wE, wEs, wT, wTs, wG, wGs, wI, wO, rdV, bind0, d_val, d_own, tru_bl, tru_non, tru_int, tru_lst, tru_tup, ix_l, ix_t, at_0, at_1, at_2, op_add, op_sub, op_mod, op_div, cm_lt, cm_le, cm_gt, cm_ge, List.map_cons, List.map_nil, List.cons_append, List.nil_append, List.length_cons, List.length_nil, List.replicate, List.append_nil, List.set_cons_zero, List.set_cons_succ, List.getElem?_cons_zero, List.getElem?_cons_succ, Option.some.injEq, exists_eq_left', true_and, and_true, if_true, if_false, Bool.false_eq_true, R.val.injEq, D.int.injEq, Nat.zero_add, Nat.reduceAdd, Nat.reduceSub, Nat.reduceLT, Nat.reduceLeDiff, Nat.reduceEqDiff, Bool.not_true, Bool.not_false, Bool.and_true, Bool.true_and, Bool.and_false, Bool.false_and, Int.reduceLT, Int.reduceLE, Int.reduceNeg, Int.reducePow, Int.reduceToNat, Int.reduceMul, Int.reduceSub, Int.reduceAdd, lnV, len_l, len_t, len_sc, bi_ln, bi_abs, bi_max, bi_min, bi_listl, bi_listt, bi_tupl, bi_tupt, bi_intb, bi_inti, bi_all, sl_l, sl_t, cm_is, cm_isnot, is_non, is_bl, cm_eqi, cm_nei, cm_eqs, cm_nes, isTy, Option.map_some, p9, p10, p11, p18, wipeR, backR, List.getD_cons_zero, List.getD_cons_succ, len_str hx]
        have e1 : decide ((x.cps.size : Int) = 0) = false := decide_eq_false (by omega)
        simp only [e1, wSs, wS, wE, wEs, wT, wTs, wG, wGs, wI, wO, rdV, bind0, d_val, d_own, tru_bl, tru_non, tru_int, tru_lst, tru_tup, ix_l, ix_t, at_0, at_1, at_2, op_add, op_sub, op_mod, op_div, cm_lt, cm_le, cm_gt, cm_ge, List.map_cons, List.map_nil, List.cons_append, List.nil_append, List.length_cons, List.length_nil, List.replicate, List.append_nil, List.set_cons_zero, List.set_cons_succ, List.getElem?_cons_zero, List.getElem?_cons_succ, Option.some.injEq, exists_eq_left', true_and, and_true, if_true, if_false, Bool.false_eq_true, R.val.injEq, D.int.injEq, Nat.zero_add, Nat.reduceAdd, Nat.reduceSub, Nat.reduceLT, Nat.reduceLeDiff, Nat.reduceEqDiff, Bool.not_true, Bool.not_false, Bool.and_true, Bool.true_and, Bool.and_false, Bool.false_and, Int.reduceLT, Int.reduceLE, Int.reduceNeg, Int.reducePow, Int.reduceToNat, Int.reduceMul, Int.reduceSub, Int.reduceAdd, lnV, len_l, len_t, len_sc, bi_ln, bi_abs, bi_max, bi_min, bi_listl, bi_listt, bi_tupl, bi_tupt, bi_intb, bi_inti, bi_all, sl_l, sl_t, cm_is, cm_isnot, is_non, is_bl, cm_eqi, cm_nei, cm_eqs, cm_nes, isTy, Option.map_some, p9, p10, p11, p18, wipeR, backR, List.getD_cons_zero, List.getD_cons_succ]
        refine ⟨.int 60, by kernel_rfl, ?_⟩
        rw [op_mod (by omega)]
        have e2 : (60 : Int) % (x.cps.size : Int) = 0 := Int.emod_eq_zero_of_dvd (by exact Int.natCast_dvd_natCast.mpr h6)
        simp only [wSs, wS, wE, wEs, wT, wTs, wG, wGs, wI, wO, rdV, bind0, d_val, d_own, tru_bl, tru_non, tru_int, tru_lst, tru_tup, ix_l, ix_t, at_0, at_1, at_2, op_add, op_sub, op_mod, op_div, cm_lt, cm_le, cm_gt, cm_ge, List.map_cons, List.map_nil, List.cons_append, List.nil_append, List.length_cons, List.length_nil, List.replicate, List.append_nil, List.set_cons_zero, List.set_cons_succ, List.getElem?_cons_zero, List.getElem?_cons_succ, Option.some.injEq, exists_eq_left', true_and, and_true, if_true, if_false, Bool.false_eq_true, R.val.injEq, D.int.injEq, Nat.zero_add, Nat.reduceAdd, Nat.reduceSub, Nat.reduceLT, Nat.reduceLeDiff, Nat.reduceEqDiff, Bool.not_true, Bool.not_false, Bool.and_true, Bool.true_and, Bool.and_false, Bool.false_and, Int.reduceLT, Int.reduceLE, Int.reduceNeg, Int.reducePow, Int.reduceToNat, Int.reduceMul, Int.reduceSub, Int.reduceAdd, lnV, len_l, len_t, len_sc, bi_ln, bi_abs, bi_max, bi_min, bi_listl, bi_listt, bi_tupl, bi_tupt, bi_intb, bi_inti, bi_all, sl_l, sl_t, cm_is, cm_isnot, is_non, is_bl, cm_eqi, cm_nei, cm_eqs, cm_nes, isTy, Option.map_some, p9, p10, p11, p18, wipeR, backR, List.getD_cons_zero, List.getD_cons_succ, e2, decide_true]
      · rw [e]
        have e3 : prB (IsSd (.str x)) = sgT x := prB_iff ⟨fun z => by
          obtain ⟨t, rfl⟩ := sgT_tx z
          rw [tx_size] at h0 h6
          exact isSd_tx.mpr ⟨fun y => h0 (by rw [y]; rfl), h6⟩, fun ⟨t, _, _, e⟩ => by rw [D.str.injEq] at e; rw [e]; exact tx_sgT t⟩
        rw [e3] at h
        exact h
    · rw [prB_f (fun ⟨t, t1, t2, e⟩ => h6 (by
        rw [D.str.injEq] at e
        rw [e, tx_size]
        exact t2))] at h
      refine Fk_at (fd := fd_is_side) rfl rfl (p_ift (r' := [some (.val (.str x)), none]) mk ?_ (p_retb mk ?_ h))
      · simp only [fd_is_side, wSs, wS, wE, wEs, wT, wTs, wG, wGs, wI, wO, rdV, bind0, d_val, d_own, tru_bl, tru_non, tru_int, tru_lst, tru_tup, ix_l, ix_t, at_0, at_1, at_2, op_add, op_sub, op_mod, op_div, cm_lt, cm_le, cm_gt, cm_ge, List.map_cons, List.map_nil, List.cons_append, List.nil_append, List.length_cons, List.length_nil, List.replicate, List.append_nil, List.set_cons_zero, List.set_cons_succ, List.getElem?_cons_zero, List.getElem?_cons_succ, Option.some.injEq, exists_eq_left', true_and, and_true, if_true, if_false, Bool.false_eq_true, R.val.injEq, D.int.injEq, Nat.zero_add, Nat.reduceAdd, Nat.reduceSub, Nat.reduceLT, Nat.reduceLeDiff, Nat.reduceEqDiff, Bool.not_true, Bool.not_false, Bool.and_true, Bool.true_and, Bool.and_false, Bool.false_and, Int.reduceLT, Int.reduceLE, Int.reduceNeg, Int.reducePow, Int.reduceToNat, Int.reduceMul, Int.reduceSub, Int.reduceAdd, lnV, len_l, len_t, len_sc, bi_ln, bi_abs, bi_max, bi_min, bi_listl, bi_listt, bi_tupl, bi_tupt, bi_intb, bi_inti, bi_all, sl_l, sl_t, cm_is, cm_isnot, is_non, is_bl, cm_eqi, cm_nei, cm_eqs, cm_nes, isTy, Option.map_some, p9, p10, p11, p18, wipeR, backR, List.getD_cons_zero, List.getD_cons_succ, len_str hx]
        have e1 : decide ((x.cps.size : Int) = 0) = false := decide_eq_false (by omega)
        simp only [e1, wSs, wS, wE, wEs, wT, wTs, wG, wGs, wI, wO, rdV, bind0, d_val, d_own, tru_bl, tru_non, tru_int, tru_lst, tru_tup, ix_l, ix_t, at_0, at_1, at_2, op_add, op_sub, op_mod, op_div, cm_lt, cm_le, cm_gt, cm_ge, List.map_cons, List.map_nil, List.cons_append, List.nil_append, List.length_cons, List.length_nil, List.replicate, List.append_nil, List.set_cons_zero, List.set_cons_succ, List.getElem?_cons_zero, List.getElem?_cons_succ, Option.some.injEq, exists_eq_left', true_and, and_true, if_true, if_false, Bool.false_eq_true, R.val.injEq, D.int.injEq, Nat.zero_add, Nat.reduceAdd, Nat.reduceSub, Nat.reduceLT, Nat.reduceLeDiff, Nat.reduceEqDiff, Bool.not_true, Bool.not_false, Bool.and_true, Bool.true_and, Bool.and_false, Bool.false_and, Int.reduceLT, Int.reduceLE, Int.reduceNeg, Int.reducePow, Int.reduceToNat, Int.reduceMul, Int.reduceSub, Int.reduceAdd, lnV, len_l, len_t, len_sc, bi_ln, bi_abs, bi_max, bi_min, bi_listl, bi_listt, bi_tupl, bi_tupt, bi_intb, bi_inti, bi_all, sl_l, sl_t, cm_is, cm_isnot, is_non, is_bl, cm_eqi, cm_nei, cm_eqs, cm_nes, isTy, Option.map_some, p9, p10, p11, p18, wipeR, backR, List.getD_cons_zero, List.getD_cons_succ]
        refine ⟨.int 60, by kernel_rfl, ?_⟩
        rw [op_mod (by omega)]
        have e2 : decide ((60 : Int) % (x.cps.size : Int) = 0) = false := decide_eq_false fun z => h6 (Int.natCast_dvd_natCast.mp (Int.dvd_of_emod_eq_zero z))
        simp only [wSs, wS, wE, wEs, wT, wTs, wG, wGs, wI, wO, rdV, bind0, d_val, d_own, tru_bl, tru_non, tru_int, tru_lst, tru_tup, ix_l, ix_t, at_0, at_1, at_2, op_add, op_sub, op_mod, op_div, cm_lt, cm_le, cm_gt, cm_ge, List.map_cons, List.map_nil, List.cons_append, List.nil_append, List.length_cons, List.length_nil, List.replicate, List.append_nil, List.set_cons_zero, List.set_cons_succ, List.getElem?_cons_zero, List.getElem?_cons_succ, Option.some.injEq, exists_eq_left', true_and, and_true, if_true, if_false, Bool.false_eq_true, R.val.injEq, D.int.injEq, Nat.zero_add, Nat.reduceAdd, Nat.reduceSub, Nat.reduceLT, Nat.reduceLeDiff, Nat.reduceEqDiff, Bool.not_true, Bool.not_false, Bool.and_true, Bool.true_and, Bool.and_false, Bool.false_and, Int.reduceLT, Int.reduceLE, Int.reduceNeg, Int.reducePow, Int.reduceToNat, Int.reduceMul, Int.reduceSub, Int.reduceAdd, lnV, len_l, len_t, len_sc, bi_ln, bi_abs, bi_max, bi_min, bi_listl, bi_listt, bi_tupl, bi_tupt, bi_intb, bi_inti, bi_all, sl_l, sl_t, cm_is, cm_isnot, is_non, is_bl, cm_eqi, cm_nei, cm_eqs, cm_nes, isTy, Option.map_some, p9, p10, p11, p18, wipeR, backR, List.getD_cons_zero, List.getD_cons_succ, e2]
      · simp only [wSs, wS, wE, wEs, wT, wTs, wG, wGs, wI, wO, rdV, bind0, d_val, d_own, tru_bl, tru_non, tru_int, tru_lst, tru_tup, ix_l, ix_t, at_0, at_1, at_2, op_add, op_sub, op_mod, op_div, cm_lt, cm_le, cm_gt, cm_ge, List.map_cons, List.map_nil, List.cons_append, List.nil_append, List.length_cons, List.length_nil, List.replicate, List.append_nil, List.set_cons_zero, List.set_cons_succ, List.getElem?_cons_zero, List.getElem?_cons_succ, Option.some.injEq, exists_eq_left', true_and, and_true, if_true, if_false, Bool.false_eq_true, R.val.injEq, D.int.injEq, Nat.zero_add, Nat.reduceAdd, Nat.reduceSub, Nat.reduceLT, Nat.reduceLeDiff, Nat.reduceEqDiff, Bool.not_true, Bool.not_false, Bool.and_true, Bool.true_and, Bool.and_false, Bool.false_and, Int.reduceLT, Int.reduceLE, Int.reduceNeg, Int.reducePow, Int.reduceToNat, Int.reduceMul, Int.reduceSub, Int.reduceAdd, lnV, len_l, len_t, len_sc, bi_ln, bi_abs, bi_max, bi_min, bi_listl, bi_listt, bi_tupl, bi_tupt, bi_intb, bi_inti, bi_all, sl_l, sl_t, cm_is, cm_isnot, is_non, is_bl, cm_eqi, cm_nei, cm_eqs, cm_nes, isTy, Option.map_some, p9, p10, p11, p18, wipeR, backR, List.getD_cons_zero, List.getD_cons_succ]
  | non => exact nostr (fun _ z => by cases z) rfl
  | bl b => exact nostr (fun _ z => by cases z) rfl
  | int i => exact nostr (fun _ z => by cases z) rfl
  | tup xs => exact nostr (fun _ z => by cases z) rfl
  | lst xs => exact nostr (fun _ z => by cases z) rfl
  | dic kvs => exact nostr (fun _ z => by cases z) rfl
  | pot => exact nostr (fun _ z => by cases z) rfl
  | scr ns => exact nostr (fun _ z => by cases z) rfl
theorem c_whole_any {d : D} (h : Q (.val (.bl (isTy d .int && !isTy d .bool)))) : Fk (k + 1) i_is_whole [d] Q E := c_is_whole h
theorem whole_int {d : D} (h : (isTy d .int && !isTy d .bool) = true) : ∃ i : Int, d = .int i := by
  cases d <;> first | exact ⟨_, rfl⟩ | cases h
theorem str_of {d : D} (h : isTy d .str = true) : ∃ x, d = .str x := by
  cases d <;> first | exact ⟨_, rfl⟩ | cases h
/-- whether anything is a shape -/
theorem c_is_shape_any {d : D} (hw : wgtR d ≤ 1000000) (h : Q (.val (.bl (prB (IsShp d))))) : Fk (k + 3) i_is_shape [d] Q E := by
  have hlim : lim = 16777216 := rfl
  have notup : (∀ xs, d ≠ .tup xs) → isTy d .tuple = false → Fk (k + 3) i_is_shape [d] Q E := fun hn ht => by
    rw [prB_f (fun ⟨x, _, e⟩ => hn _ e)] at h
    refine Fk_at (fd := fd_is_shape) rfl rfl (p_ift mk (q_ort (r' := [some (.val d), none, none, none, none, none]) mk ?_) (p_retb mk ?_ h))
    · simp only [fd_is_shape, wT, wE, rdV, bind0, List.map_cons, List.map_nil, List.cons_append, List.nil_append, List.length_cons, List.length_nil, List.replicate, List.getElem?_cons_zero, d_val, ht, Option.some.injEq, exists_eq_left', tru_bl, Bool.not_false, true_and]
    · simp only [wSs, wS, wE, wEs, wT, wTs, wG, wGs, wI, wO, rdV, bind0, d_val, d_own, tru_bl, tru_non, tru_int, tru_lst, tru_tup, ix_l, ix_t, at_0, at_1, at_2, op_add, op_sub, op_mod, op_div, cm_lt, cm_le, cm_gt, cm_ge, List.map_cons, List.map_nil, List.cons_append, List.nil_append, List.length_cons, List.length_nil, List.replicate, List.append_nil, List.set_cons_zero, List.set_cons_succ, List.getElem?_cons_zero, List.getElem?_cons_succ, Option.some.injEq, exists_eq_left', true_and, and_true, if_true, if_false, Bool.false_eq_true, R.val.injEq, D.int.injEq, Nat.zero_add, Nat.reduceAdd, Nat.reduceSub, Nat.reduceLT, Nat.reduceLeDiff, Nat.reduceEqDiff, Bool.not_true, Bool.not_false, Bool.and_true, Bool.true_and, Bool.and_false, Bool.false_and, Int.reduceLT, Int.reduceLE, Int.reduceNeg, Int.reducePow, Int.reduceToNat, Int.reduceMul, Int.reduceSub, Int.reduceAdd, lnV, len_l, len_t, len_sc, bi_ln, bi_abs, bi_max, bi_min, bi_listl, bi_listt, bi_tupl, bi_tupt, bi_intb, bi_inti, bi_all, sl_l, sl_t, cm_is, cm_isnot, is_non, is_bl, cm_eqi, cm_nei, cm_eqs, cm_nes, isTy, Option.map_some, p9, p10, p11, p18, wipeR, backR, List.getD_cons_zero, List.getD_cons_succ]
  cases d with
  | tup xs =>
    by_cases hl : xs.length = 4
    · match xs, hl with
      | [a, b, c, e], _ =>
        rw [wgt_tup, wgts_cons, wgts_cons, wgts_cons, wgts_cons, wgts_nil] at hw
        have sa : ∀ x, a = .str x → x.cps.size ≤ 16777216 := fun x z => by rw [z, wgt_str] at hw; omega
        have se : ∀ x, e = .str x → x.cps.size ≤ 16777216 := fun x z => by rw [z, wgt_str] at hw; omega
        have e3 : ∀ (a b c d : D), L2.atI [a, b, c, d] 3 = some d := fun a b c d => at_3
        have isS : ∀ {z : D}, IsShp (.tup [a, b, c, z]) → IsSd a ∧ IsSd z ∧ (isTy b .int && !isTy b .bool) = true ∧ isTy c .str = true := fun {z} ⟨x, cx, ex⟩ => by
          unfold encS at ex
          simp only [D.tup.injEq, List.cons.injEq, and_true] at ex
          obtain ⟨rfl, rfl, rfl, rfl⟩ := ex
          exact ⟨isSd_tx.mpr ⟨cx.hl.ne, cx.hl.d⟩, isSd_tx.mpr ⟨cx.hr.ne, cx.hr.d⟩, rfl, rfl⟩
        by_cases qa : IsSd a
        · by_cases qe : IsSd e
          · refine Fk_at (fd := fd_is_shape) rfl rfl (p_skip (r' := [some (.val (.tup [a, b, c, e])), none, none, none, none, none]) mk ?_ ?_)
            · simp only [fd_is_shape, wSs, wS, wE, wEs, wT, wTs, wG, wGs, wI, wO, rdV, bind0, d_val, d_own, tru_bl, tru_non, tru_int, tru_lst, tru_tup, ix_l, ix_t, at_0, at_1, at_2, op_add, op_sub, op_mod, op_div, cm_lt, cm_le, cm_gt, cm_ge, List.map_cons, List.map_nil, List.cons_append, List.nil_append, List.length_cons, List.length_nil, List.replicate, List.append_nil, List.set_cons_zero, List.set_cons_succ, List.getElem?_cons_zero, List.getElem?_cons_succ, Option.some.injEq, exists_eq_left', true_and, and_true, if_true, if_false, Bool.false_eq_true, R.val.injEq, D.int.injEq, Nat.zero_add, Nat.reduceAdd, Nat.reduceSub, Nat.reduceLT, Nat.reduceLeDiff, Nat.reduceEqDiff, Bool.not_true, Bool.not_false, Bool.and_true, Bool.true_and, Bool.and_false, Bool.false_and, Int.reduceLT, Int.reduceLE, Int.reduceNeg, Int.reducePow, Int.reduceToNat, Int.reduceMul, Int.reduceSub, Int.reduceAdd, lnV, len_l, len_t, len_sc, bi_ln, bi_abs, bi_max, bi_min, bi_listl, bi_listt, bi_tupl, bi_tupt, bi_intb, bi_inti, bi_all, sl_l, sl_t, cm_is, cm_isnot, is_non, is_bl, cm_eqi, cm_nei, cm_eqs, cm_nes, isTy, Option.map_some, p9, p10, p11, p18, wipeR, backR, List.getD_cons_zero, List.getD_cons_succ]
              refine c_is_side_any (k := k + 1) sa ?_
              rw [prB_t qa]
              simp only [wSs, wS, wE, wEs, wT, wTs, wG, wGs, wI, wO, rdV, bind0, d_val, d_own, tru_bl, tru_non, tru_int, tru_lst, tru_tup, ix_l, ix_t, at_0, at_1, at_2, op_add, op_sub, op_mod, op_div, cm_lt, cm_le, cm_gt, cm_ge, List.map_cons, List.map_nil, List.cons_append, List.nil_append, List.length_cons, List.length_nil, List.replicate, List.append_nil, List.set_cons_zero, List.set_cons_succ, List.getElem?_cons_zero, List.getElem?_cons_succ, Option.some.injEq, exists_eq_left', true_and, and_true, if_true, if_false, Bool.false_eq_true, R.val.injEq, D.int.injEq, Nat.zero_add, Nat.reduceAdd, Nat.reduceSub, Nat.reduceLT, Nat.reduceLeDiff, Nat.reduceEqDiff, Bool.not_true, Bool.not_false, Bool.and_true, Bool.true_and, Bool.and_false, Bool.false_and, Int.reduceLT, Int.reduceLE, Int.reduceNeg, Int.reducePow, Int.reduceToNat, Int.reduceMul, Int.reduceSub, Int.reduceAdd, lnV, len_l, len_t, len_sc, bi_ln, bi_abs, bi_max, bi_min, bi_listl, bi_listt, bi_tupl, bi_tupt, bi_intb, bi_inti, bi_all, sl_l, sl_t, cm_is, cm_isnot, is_non, is_bl, cm_eqi, cm_nei, cm_eqs, cm_nes, isTy, Option.map_some, p9, p10, p11, p18, wipeR, backR, List.getD_cons_zero, List.getD_cons_succ, e3]
              refine c_is_side_any (k := k + 1) se ?_
              rw [prB_t qe]
              simp only [wSs, wS, wE, wEs, wT, wTs, wG, wGs, wI, wO, rdV, bind0, d_val, d_own, tru_bl, tru_non, tru_int, tru_lst, tru_tup, ix_l, ix_t, at_0, at_1, at_2, op_add, op_sub, op_mod, op_div, cm_lt, cm_le, cm_gt, cm_ge, List.map_cons, List.map_nil, List.cons_append, List.nil_append, List.length_cons, List.length_nil, List.replicate, List.append_nil, List.set_cons_zero, List.set_cons_succ, List.getElem?_cons_zero, List.getElem?_cons_succ, Option.some.injEq, exists_eq_left', true_and, and_true, if_true, if_false, Bool.false_eq_true, R.val.injEq, D.int.injEq, Nat.zero_add, Nat.reduceAdd, Nat.reduceSub, Nat.reduceLT, Nat.reduceLeDiff, Nat.reduceEqDiff, Bool.not_true, Bool.not_false, Bool.and_true, Bool.true_and, Bool.and_false, Bool.false_and, Int.reduceLT, Int.reduceLE, Int.reduceNeg, Int.reducePow, Int.reduceToNat, Int.reduceMul, Int.reduceSub, Int.reduceAdd, lnV, len_l, len_t, len_sc, bi_ln, bi_abs, bi_max, bi_min, bi_listl, bi_listt, bi_tupl, bi_tupt, bi_intb, bi_inti, bi_all, sl_l, sl_t, cm_is, cm_isnot, is_non, is_bl, cm_eqi, cm_nei, cm_eqs, cm_nes, isTy, Option.map_some, p9, p10, p11, p18, wipeR, backR, List.getD_cons_zero, List.getD_cons_succ]
            refine p_asg mk (fun v r1 => v = .val (.tup [a, b, c, e]) ∧ r1 = [some (.val (.tup [a, b, c, e])), none, none, none, none, none]) ?_ ?_
            · simp only [wSs, wS, wE, wEs, wT, wTs, wG, wGs, wI, wO, rdV, bind0, d_val, d_own, tru_bl, tru_non, tru_int, tru_lst, tru_tup, ix_l, ix_t, at_0, at_1, at_2, op_add, op_sub, op_mod, op_div, cm_lt, cm_le, cm_gt, cm_ge, List.map_cons, List.map_nil, List.cons_append, List.nil_append, List.length_cons, List.length_nil, List.replicate, List.append_nil, List.set_cons_zero, List.set_cons_succ, List.getElem?_cons_zero, List.getElem?_cons_succ, Option.some.injEq, exists_eq_left', true_and, and_true, if_true, if_false, Bool.false_eq_true, R.val.injEq, D.int.injEq, Nat.zero_add, Nat.reduceAdd, Nat.reduceSub, Nat.reduceLT, Nat.reduceLeDiff, Nat.reduceEqDiff, Bool.not_true, Bool.not_false, Bool.and_true, Bool.true_and, Bool.and_false, Bool.false_and, Int.reduceLT, Int.reduceLE, Int.reduceNeg, Int.reducePow, Int.reduceToNat, Int.reduceMul, Int.reduceSub, Int.reduceAdd, lnV, len_l, len_t, len_sc, bi_ln, bi_abs, bi_max, bi_min, bi_listl, bi_listt, bi_tupl, bi_tupt, bi_intb, bi_inti, bi_all, sl_l, sl_t, cm_is, cm_isnot, is_non, is_bl, cm_eqi, cm_nei, cm_eqs, cm_nes, isTy, Option.map_some, p9, p10, p11, p18, wipeR, backR, List.getD_cons_zero, List.getD_cons_succ]
            rintro _ _ ⟨rfl, rfl⟩
            simp only [wG, wGs, d_val, List.length_cons, List.length_nil, List.set_cons_zero, List.set_cons_succ, true_and, Nat.zero_add, Nat.reduceAdd, Nat.reduceLT]
            cases qb : (isTy b .int && !isTy b .bool) with
            | false =>
              rw [prB_f (fun z => by have := (isS z).2.2.1; rw [qb] at this; cases this)] at h
              refine p_ift (r' := [some (.val (.tup [a, b, c, e])), some (.val a), some (.val b), some (.val c), some (.val e), none]) mk (q_ort mk ?_) (p_retb mk ?_ h)
              · simp only [wT, wE, wEs, rdV, List.getElem?_cons_zero, List.getElem?_cons_succ, d_val]
                refine c_whole_any (k := k + 1) ?_
                rw [qb]
                simp only [wSs, wS, wE, wEs, wT, wTs, wG, wGs, wI, wO, rdV, bind0, d_val, d_own, tru_bl, tru_non, tru_int, tru_lst, tru_tup, ix_l, ix_t, at_0, at_1, at_2, op_add, op_sub, op_mod, op_div, cm_lt, cm_le, cm_gt, cm_ge, List.map_cons, List.map_nil, List.cons_append, List.nil_append, List.length_cons, List.length_nil, List.replicate, List.append_nil, List.set_cons_zero, List.set_cons_succ, List.getElem?_cons_zero, List.getElem?_cons_succ, Option.some.injEq, exists_eq_left', true_and, and_true, if_true, if_false, Bool.false_eq_true, R.val.injEq, D.int.injEq, Nat.zero_add, Nat.reduceAdd, Nat.reduceSub, Nat.reduceLT, Nat.reduceLeDiff, Nat.reduceEqDiff, Bool.not_true, Bool.not_false, Bool.and_true, Bool.true_and, Bool.and_false, Bool.false_and, Int.reduceLT, Int.reduceLE, Int.reduceNeg, Int.reducePow, Int.reduceToNat, Int.reduceMul, Int.reduceSub, Int.reduceAdd, lnV, len_l, len_t, len_sc, bi_ln, bi_abs, bi_max, bi_min, bi_listl, bi_listt, bi_tupl, bi_tupt, bi_intb, bi_inti, bi_all, sl_l, sl_t, cm_is, cm_isnot, is_non, is_bl, cm_eqi, cm_nei, cm_eqs, cm_nes, isTy, Option.map_some, p9, p10, p11, p18, wipeR, backR, List.getD_cons_zero, List.getD_cons_succ]
              · simp only [wSs, wS, wE, wEs, wT, wTs, wG, wGs, wI, wO, rdV, bind0, d_val, d_own, tru_bl, tru_non, tru_int, tru_lst, tru_tup, ix_l, ix_t, at_0, at_1, at_2, op_add, op_sub, op_mod, op_div, cm_lt, cm_le, cm_gt, cm_ge, List.map_cons, List.map_nil, List.cons_append, List.nil_append, List.length_cons, List.length_nil, List.replicate, List.append_nil, List.set_cons_zero, List.set_cons_succ, List.getElem?_cons_zero, List.getElem?_cons_succ, Option.some.injEq, exists_eq_left', true_and, and_true, if_true, if_false, Bool.false_eq_true, R.val.injEq, D.int.injEq, Nat.zero_add, Nat.reduceAdd, Nat.reduceSub, Nat.reduceLT, Nat.reduceLeDiff, Nat.reduceEqDiff, Bool.not_true, Bool.not_false, Bool.and_true, Bool.true_and, Bool.and_false, Bool.false_and, Int.reduceLT, Int.reduceLE, Int.reduceNeg, Int.reducePow, Int.reduceToNat, Int.reduceMul, Int.reduceSub, Int.reduceAdd, lnV, len_l, len_t, len_sc, bi_ln, bi_abs, bi_max, bi_min, bi_listl, bi_listt, bi_tupl, bi_tupt, bi_intb, bi_inti, bi_all, sl_l, sl_t, cm_is, cm_isnot, is_non, is_bl, cm_eqi, cm_nei, cm_eqs, cm_nes, isTy, Option.map_some, p9, p10, p11, p18, wipeR, backR, List.getD_cons_zero, List.getD_cons_succ]
            | true =>
              cases qc : isTy c .str with
              | false =>
                rw [prB_f (fun z => by have := (isS z).2.2.2; rw [qc] at this; cases this)] at h
                refine p_ift (r' := [some (.val (.tup [a, b, c, e])), some (.val a), some (.val b), some (.val c), some (.val e), none]) mk (q_or (r' := [some (.val (.tup [a, b, c, e])), some (.val a), some (.val b), some (.val c), some (.val e), none]) mk ?_ ?_) (p_retb mk ?_ h)
                · simp only [wT, wE, wEs, rdV, List.getElem?_cons_zero, List.getElem?_cons_succ, d_val]
                  refine c_whole_any (k := k + 1) ?_
                  rw [qb]
                  simp only [wSs, wS, wE, wEs, wT, wTs, wG, wGs, wI, wO, rdV, bind0, d_val, d_own, tru_bl, tru_non, tru_int, tru_lst, tru_tup, ix_l, ix_t, at_0, at_1, at_2, op_add, op_sub, op_mod, op_div, cm_lt, cm_le, cm_gt, cm_ge, List.map_cons, List.map_nil, List.cons_append, List.nil_append, List.length_cons, List.length_nil, List.replicate, List.append_nil, List.set_cons_zero, List.set_cons_succ, List.getElem?_cons_zero, List.getElem?_cons_succ, Option.some.injEq, exists_eq_left', true_and, and_true, if_true, if_false, Bool.false_eq_true, R.val.injEq, D.int.injEq, Nat.zero_add, Nat.reduceAdd, Nat.reduceSub, Nat.reduceLT, Nat.reduceLeDiff, Nat.reduceEqDiff, Bool.not_true, Bool.not_false, Bool.and_true, Bool.true_and, Bool.and_false, Bool.false_and, Int.reduceLT, Int.reduceLE, Int.reduceNeg, Int.reducePow, Int.reduceToNat, Int.reduceMul, Int.reduceSub, Int.reduceAdd, lnV, len_l, len_t, len_sc, bi_ln, bi_abs, bi_max, bi_min, bi_listl, bi_listt, bi_tupl, bi_tupt, bi_intb, bi_inti, bi_all, sl_l, sl_t, cm_is, cm_isnot, is_non, is_bl, cm_eqi, cm_nei, cm_eqs, cm_nes, isTy, Option.map_some, p9, p10, p11, p18, wipeR, backR, List.getD_cons_zero, List.getD_cons_succ]
                · simp only [wT, wE, rdV, List.getElem?_cons_zero, List.getElem?_cons_succ, d_val, qc, tru_bl, Option.some.injEq, exists_eq_left', Bool.not_false]
                  and_intros <;> first | rfl | trivial
                · simp only [wSs, wS, wE, wEs, wT, wTs, wG, wGs, wI, wO, rdV, bind0, d_val, d_own, tru_bl, tru_non, tru_int, tru_lst, tru_tup, ix_l, ix_t, at_0, at_1, at_2, op_add, op_sub, op_mod, op_div, cm_lt, cm_le, cm_gt, cm_ge, List.map_cons, List.map_nil, List.cons_append, List.nil_append, List.length_cons, List.length_nil, List.replicate, List.append_nil, List.set_cons_zero, List.set_cons_succ, List.getElem?_cons_zero, List.getElem?_cons_succ, Option.some.injEq, exists_eq_left', true_and, and_true, if_true, if_false, Bool.false_eq_true, R.val.injEq, D.int.injEq, Nat.zero_add, Nat.reduceAdd, Nat.reduceSub, Nat.reduceLT, Nat.reduceLeDiff, Nat.reduceEqDiff, Bool.not_true, Bool.not_false, Bool.and_true, Bool.true_and, Bool.and_false, Bool.false_and, Int.reduceLT, Int.reduceLE, Int.reduceNeg, Int.reducePow, Int.reduceToNat, Int.reduceMul, Int.reduceSub, Int.reduceAdd, lnV, len_l, len_t, len_sc, bi_ln, bi_abs, bi_max, bi_min, bi_listl, bi_listt, bi_tupl, bi_tupt, bi_intb, bi_inti, bi_all, sl_l, sl_t, cm_is, cm_isnot, is_non, is_bl, cm_eqi, cm_nei, cm_eqs, cm_nes, isTy, Option.map_some, p9, p10, p11, p18, wipeR, backR, List.getD_cons_zero, List.getD_cons_succ]
              | true =>
                obtain ⟨lo, rfl⟩ := whole_int qb
                obtain ⟨x, rfl⟩ := str_of qc
                obtain ⟨l, l0, ld, rfl⟩ := qa
                obtain ⟨r, r0, rd, rfl⟩ := qe
                have hx : x.cps.size ≤ 1000000 := by rw [wgt_str x] at hw; omega
                refine p_skip (r' := [some (.val (.tup [.str (tx l), .int lo, .str x, .str (tx r)])), some (.val (.str (tx l))), some (.val (.int lo)), some (.val (.str x)), some (.val (.str (tx r))), none]) mk (q_or (r' := [some (.val (.tup [.str (tx l), .int lo, .str x, .str (tx r)])), some (.val (.str (tx l))), some (.val (.int lo)), some (.val (.str x)), some (.val (.str (tx r))), none]) mk ?_ ?_) ?_
                · simp only [wT, wE, wEs, rdV, List.getElem?_cons_zero, List.getElem?_cons_succ, d_val]
                  refine c_whole_any (k := k + 1) ?_
                  rw [qb]
                  simp only [wSs, wS, wE, wEs, wT, wTs, wG, wGs, wI, wO, rdV, bind0, d_val, d_own, tru_bl, tru_non, tru_int, tru_lst, tru_tup, ix_l, ix_t, at_0, at_1, at_2, op_add, op_sub, op_mod, op_div, cm_lt, cm_le, cm_gt, cm_ge, List.map_cons, List.map_nil, List.cons_append, List.nil_append, List.length_cons, List.length_nil, List.replicate, List.append_nil, List.set_cons_zero, List.set_cons_succ, List.getElem?_cons_zero, List.getElem?_cons_succ, Option.some.injEq, exists_eq_left', true_and, and_true, if_true, if_false, Bool.false_eq_true, R.val.injEq, D.int.injEq, Nat.zero_add, Nat.reduceAdd, Nat.reduceSub, Nat.reduceLT, Nat.reduceLeDiff, Nat.reduceEqDiff, Bool.not_true, Bool.not_false, Bool.and_true, Bool.true_and, Bool.and_false, Bool.false_and, Int.reduceLT, Int.reduceLE, Int.reduceNeg, Int.reducePow, Int.reduceToNat, Int.reduceMul, Int.reduceSub, Int.reduceAdd, lnV, len_l, len_t, len_sc, bi_ln, bi_abs, bi_max, bi_min, bi_listl, bi_listt, bi_tupl, bi_tupt, bi_intb, bi_inti, bi_all, sl_l, sl_t, cm_is, cm_isnot, is_non, is_bl, cm_eqi, cm_nei, cm_eqs, cm_nes, isTy, Option.map_some, p9, p10, p11, p18, wipeR, backR, List.getD_cons_zero, List.getD_cons_succ]
                · simp only [wT, wE, rdV, List.getElem?_cons_zero, List.getElem?_cons_succ, d_val, qc, tru_bl, Option.some.injEq, exists_eq_left', Bool.not_true]
                  and_intros <;> first | rfl | trivial
                refine p_ret mk (fun v _ => v = .val (.bl (prB (IsShp (.tup [.str (tx l), .int lo, .str x, .str (tx r)]))))) ?_ fun v _ ev => by rw [ev]; exact h
                refine w_and mk (e_signs (Qp := fun v r1 => v = .val (.bl (sgT x)) ∧ r1 = [some (.val (.tup [.str (tx l), .int lo, .str x, .str (tx r)])), some (.val (.str (tx l))), some (.val (.int lo)), some (.val (.str x)), some (.val (.str (tx r))), none]) (by kernel_rfl) rfl rfl (by omega) ⟨rfl, rfl⟩) ?_ ?_
                · intro z
                  rw [prB_f (fun ⟨y, cy, ey⟩ => by
                    unfold encS at ey
                    simp only [D.tup.injEq, List.cons.injEq, and_true, D.str.injEq] at ey
                    rw [ey.2.2.1, tx_sgT] at z
                    cases z)]
                · intro z
                  obtain ⟨m, rfl⟩ := sgT_tx z
                  rw [tx_size] at hx
                  simp only [wE, wEs, rdV, List.getElem?_cons_zero, List.getElem?_cons_succ, d_val]
                  refine c_in_form (k := k) (B := lo.natAbs + m.length) (T := ⟨l, lo, m, r⟩) ⟨l0, ld, r0, rd, by simp only; omega, by simp only [Sh.e]; omega, by simp only; omega⟩ fun z1 z2 z3 _ _ => ?_
                  simp only [d_val]
                  have e9 := eq_sh z1 ⟨l, lo, m, r⟩
                  refine ⟨_, e9, ?_⟩
                  have e8 : prB (IsShp (encS ⟨l, lo, m, r⟩)) = decide (z1 = ⟨l, lo, m, r⟩) := prB_iff ⟨fun y => by
                    have := of_decide_eq_true y
                    exact ⟨_, this ▸ z2, rfl⟩, fun ⟨y, cy, ey⟩ => by
                    have e7 := encS_inj ey
                    subst e7
                    exact decide_eq_true (canon_eq z2 cy z3)⟩
                  exact congrArg (fun b => R.val (D.bl b)) e8.symm
          · rw [prB_f (fun z => qe (isS z).2.1)] at h
            refine Fk_at (fd := fd_is_shape) rfl rfl (p_ift (r' := [some (.val (.tup [a, b, c, e])), none, none, none, none, none]) mk ?_ (p_retb mk ?_ h))
            · simp only [fd_is_shape, wSs, wS, wE, wEs, wT, wTs, wG, wGs, wI, wO, rdV, bind0, d_val, d_own, tru_bl, tru_non, tru_int, tru_lst, tru_tup, ix_l, ix_t, at_0, at_1, at_2, op_add, op_sub, op_mod, op_div, cm_lt, cm_le, cm_gt, cm_ge, List.map_cons, List.map_nil, List.cons_append, List.nil_append, List.length_cons, List.length_nil, List.replicate, List.append_nil, List.set_cons_zero, List.set_cons_succ, List.getElem?_cons_zero, List.getElem?_cons_succ, Option.some.injEq, exists_eq_left', true_and, and_true, if_true, if_false, Bool.false_eq_true, R.val.injEq, D.int.injEq, Nat.zero_add, Nat.reduceAdd, Nat.reduceSub, Nat.reduceLT, Nat.reduceLeDiff, Nat.reduceEqDiff, Bool.not_true, Bool.not_false, Bool.and_true, Bool.true_and, Bool.and_false, Bool.false_and, Int.reduceLT, Int.reduceLE, Int.reduceNeg, Int.reducePow, Int.reduceToNat, Int.reduceMul, Int.reduceSub, Int.reduceAdd, lnV, len_l, len_t, len_sc, bi_ln, bi_abs, bi_max, bi_min, bi_listl, bi_listt, bi_tupl, bi_tupt, bi_intb, bi_inti, bi_all, sl_l, sl_t, cm_is, cm_isnot, is_non, is_bl, cm_eqi, cm_nei, cm_eqs, cm_nes, isTy, Option.map_some, p9, p10, p11, p18, wipeR, backR, List.getD_cons_zero, List.getD_cons_succ]
              refine c_is_side_any (k := k + 1) sa ?_
              rw [prB_t qa]
              simp only [wSs, wS, wE, wEs, wT, wTs, wG, wGs, wI, wO, rdV, bind0, d_val, d_own, tru_bl, tru_non, tru_int, tru_lst, tru_tup, ix_l, ix_t, at_0, at_1, at_2, op_add, op_sub, op_mod, op_div, cm_lt, cm_le, cm_gt, cm_ge, List.map_cons, List.map_nil, List.cons_append, List.nil_append, List.length_cons, List.length_nil, List.replicate, List.append_nil, List.set_cons_zero, List.set_cons_succ, List.getElem?_cons_zero, List.getElem?_cons_succ, Option.some.injEq, exists_eq_left', true_and, and_true, if_true, if_false, Bool.false_eq_true, R.val.injEq, D.int.injEq, Nat.zero_add, Nat.reduceAdd, Nat.reduceSub, Nat.reduceLT, Nat.reduceLeDiff, Nat.reduceEqDiff, Bool.not_true, Bool.not_false, Bool.and_true, Bool.true_and, Bool.and_false, Bool.false_and, Int.reduceLT, Int.reduceLE, Int.reduceNeg, Int.reducePow, Int.reduceToNat, Int.reduceMul, Int.reduceSub, Int.reduceAdd, lnV, len_l, len_t, len_sc, bi_ln, bi_abs, bi_max, bi_min, bi_listl, bi_listt, bi_tupl, bi_tupt, bi_intb, bi_inti, bi_all, sl_l, sl_t, cm_is, cm_isnot, is_non, is_bl, cm_eqi, cm_nei, cm_eqs, cm_nes, isTy, Option.map_some, p9, p10, p11, p18, wipeR, backR, List.getD_cons_zero, List.getD_cons_succ, e3]
              refine c_is_side_any (k := k + 1) se ?_
              rw [prB_f qe]
              simp only [wSs, wS, wE, wEs, wT, wTs, wG, wGs, wI, wO, rdV, bind0, d_val, d_own, tru_bl, tru_non, tru_int, tru_lst, tru_tup, ix_l, ix_t, at_0, at_1, at_2, op_add, op_sub, op_mod, op_div, cm_lt, cm_le, cm_gt, cm_ge, List.map_cons, List.map_nil, List.cons_append, List.nil_append, List.length_cons, List.length_nil, List.replicate, List.append_nil, List.set_cons_zero, List.set_cons_succ, List.getElem?_cons_zero, List.getElem?_cons_succ, Option.some.injEq, exists_eq_left', true_and, and_true, if_true, if_false, Bool.false_eq_true, R.val.injEq, D.int.injEq, Nat.zero_add, Nat.reduceAdd, Nat.reduceSub, Nat.reduceLT, Nat.reduceLeDiff, Nat.reduceEqDiff, Bool.not_true, Bool.not_false, Bool.and_true, Bool.true_and, Bool.and_false, Bool.false_and, Int.reduceLT, Int.reduceLE, Int.reduceNeg, Int.reducePow, Int.reduceToNat, Int.reduceMul, Int.reduceSub, Int.reduceAdd, lnV, len_l, len_t, len_sc, bi_ln, bi_abs, bi_max, bi_min, bi_listl, bi_listt, bi_tupl, bi_tupt, bi_intb, bi_inti, bi_all, sl_l, sl_t, cm_is, cm_isnot, is_non, is_bl, cm_eqi, cm_nei, cm_eqs, cm_nes, isTy, Option.map_some, p9, p10, p11, p18, wipeR, backR, List.getD_cons_zero, List.getD_cons_succ]
            · simp only [wSs, wS, wE, wEs, wT, wTs, wG, wGs, wI, wO, rdV, bind0, d_val, d_own, tru_bl, tru_non, tru_int, tru_lst, tru_tup, ix_l, ix_t, at_0, at_1, at_2, op_add, op_sub, op_mod, op_div, cm_lt, cm_le, cm_gt, cm_ge, List.map_cons, List.map_nil, List.cons_append, List.nil_append, List.length_cons, List.length_nil, List.replicate, List.append_nil, List.set_cons_zero, List.set_cons_succ, List.getElem?_cons_zero, List.getElem?_cons_succ, Option.some.injEq, exists_eq_left', true_and, and_true, if_true, if_false, Bool.false_eq_true, R.val.injEq, D.int.injEq, Nat.zero_add, Nat.reduceAdd, Nat.reduceSub, Nat.reduceLT, Nat.reduceLeDiff, Nat.reduceEqDiff, Bool.not_true, Bool.not_false, Bool.and_true, Bool.true_and, Bool.and_false, Bool.false_and, Int.reduceLT, Int.reduceLE, Int.reduceNeg, Int.reducePow, Int.reduceToNat, Int.reduceMul, Int.reduceSub, Int.reduceAdd, lnV, len_l, len_t, len_sc, bi_ln, bi_abs, bi_max, bi_min, bi_listl, bi_listt, bi_tupl, bi_tupt, bi_intb, bi_inti, bi_all, sl_l, sl_t, cm_is, cm_isnot, is_non, is_bl, cm_eqi, cm_nei, cm_eqs, cm_nes, isTy, Option.map_some, p9, p10, p11, p18, wipeR, backR, List.getD_cons_zero, List.getD_cons_succ]
        · rw [prB_f (fun z => qa (isS z).1)] at h
          refine Fk_at (fd := fd_is_shape) rfl rfl (p_ift (r' := [some (.val (.tup [a, b, c, e])), none, none, none, none, none]) mk ?_ (p_retb mk ?_ h))
          · simp only [fd_is_shape, wSs, wS, wE, wEs, wT, wTs, wG, wGs, wI, wO, rdV, bind0, d_val, d_own, tru_bl, tru_non, tru_int, tru_lst, tru_tup, ix_l, ix_t, at_0, at_1, at_2, op_add, op_sub, op_mod, op_div, cm_lt, cm_le, cm_gt, cm_ge, List.map_cons, List.map_nil, List.cons_append, List.nil_append, List.length_cons, List.length_nil, List.replicate, List.append_nil, List.set_cons_zero, List.set_cons_succ, List.getElem?_cons_zero, List.getElem?_cons_succ, Option.some.injEq, exists_eq_left', true_and, and_true, if_true, if_false, Bool.false_eq_true, R.val.injEq, D.int.injEq, Nat.zero_add, Nat.reduceAdd, Nat.reduceSub, Nat.reduceLT, Nat.reduceLeDiff, Nat.reduceEqDiff, Bool.not_true, Bool.not_false, Bool.and_true, Bool.true_and, Bool.and_false, Bool.false_and, Int.reduceLT, Int.reduceLE, Int.reduceNeg, Int.reducePow, Int.reduceToNat, Int.reduceMul, Int.reduceSub, Int.reduceAdd, lnV, len_l, len_t, len_sc, bi_ln, bi_abs, bi_max, bi_min, bi_listl, bi_listt, bi_tupl, bi_tupt, bi_intb, bi_inti, bi_all, sl_l, sl_t, cm_is, cm_isnot, is_non, is_bl, cm_eqi, cm_nei, cm_eqs, cm_nes, isTy, Option.map_some, p9, p10, p11, p18, wipeR, backR, List.getD_cons_zero, List.getD_cons_succ]
            refine c_is_side_any (k := k + 1) sa ?_
            rw [prB_f qa]
            simp only [wSs, wS, wE, wEs, wT, wTs, wG, wGs, wI, wO, rdV, bind0, d_val, d_own, tru_bl, tru_non, tru_int, tru_lst, tru_tup, ix_l, ix_t, at_0, at_1, at_2, op_add, op_sub, op_mod, op_div, cm_lt, cm_le, cm_gt, cm_ge, List.map_cons, List.map_nil, List.cons_append, List.nil_append, List.length_cons, List.length_nil, List.replicate, List.append_nil, List.set_cons_zero, List.set_cons_succ, List.getElem?_cons_zero, List.getElem?_cons_succ, Option.some.injEq, exists_eq_left', true_and, and_true, if_true, if_false, Bool.false_eq_true, R.val.injEq, D.int.injEq, Nat.zero_add, Nat.reduceAdd, Nat.reduceSub, Nat.reduceLT, Nat.reduceLeDiff, Nat.reduceEqDiff, Bool.not_true, Bool.not_false, Bool.and_true, Bool.true_and, Bool.and_false, Bool.false_and, Int.reduceLT, Int.reduceLE, Int.reduceNeg, Int.reducePow, Int.reduceToNat, Int.reduceMul, Int.reduceSub, Int.reduceAdd, lnV, len_l, len_t, len_sc, bi_ln, bi_abs, bi_max, bi_min, bi_listl, bi_listt, bi_tupl, bi_tupt, bi_intb, bi_inti, bi_all, sl_l, sl_t, cm_is, cm_isnot, is_non, is_bl, cm_eqi, cm_nei, cm_eqs, cm_nes, isTy, Option.map_some, p9, p10, p11, p18, wipeR, backR, List.getD_cons_zero, List.getD_cons_succ]
          · simp only [wSs, wS, wE, wEs, wT, wTs, wG, wGs, wI, wO, rdV, bind0, d_val, d_own, tru_bl, tru_non, tru_int, tru_lst, tru_tup, ix_l, ix_t, at_0, at_1, at_2, op_add, op_sub, op_mod, op_div, cm_lt, cm_le, cm_gt, cm_ge, List.map_cons, List.map_nil, List.cons_append, List.nil_append, List.length_cons, List.length_nil, List.replicate, List.append_nil, List.set_cons_zero, List.set_cons_succ, List.getElem?_cons_zero, List.getElem?_cons_succ, Option.some.injEq, exists_eq_left', true_and, and_true, if_true, if_false, Bool.false_eq_true, R.val.injEq, D.int.injEq, Nat.zero_add, Nat.reduceAdd, Nat.reduceSub, Nat.reduceLT, Nat.reduceLeDiff, Nat.reduceEqDiff, Bool.not_true, Bool.not_false, Bool.and_true, Bool.true_and, Bool.and_false, Bool.false_and, Int.reduceLT, Int.reduceLE, Int.reduceNeg, Int.reducePow, Int.reduceToNat, Int.reduceMul, Int.reduceSub, Int.reduceAdd, lnV, len_l, len_t, len_sc, bi_ln, bi_abs, bi_max, bi_min, bi_listl, bi_listt, bi_tupl, bi_tupt, bi_intb, bi_inti, bi_all, sl_l, sl_t, cm_is, cm_isnot, is_non, is_bl, cm_eqi, cm_nei, cm_eqs, cm_nes, isTy, Option.map_some, p9, p10, p11, p18, wipeR, backR, List.getD_cons_zero, List.getD_cons_succ]
    · rw [prB_f (fun ⟨x, _, e⟩ => hl (by unfold encS at e; rw [D.tup.injEq] at e; rw [e]; rfl))] at h
      exact c_is_shape_no (k := k + 2) hl h
  | non => exact notup (fun _ z => by cases z) rfl
  | bl b => exact notup (fun _ z => by cases z) rfl
  | int i => exact notup (fun _ z => by cases z) rfl
  | str x => exact notup (fun _ z => by cases z) rfl
  | lst xs => exact notup (fun _ z => by cases z) rfl
  | dic kvs => exact notup (fun _ z => by cases z) rfl
  | pot => exact notup (fun _ z => by cases z) rfl
  | scr ns => exact notup (fun _ z => by cases z) rfl
/-- what is no shape is refused -/
theorem c_need_bad {d : D} (hw : wgtR d ≤ 1000000) (hn : ¬ IsShp d) (h : E ⟨"NoShape", []⟩) : Fk (k + 4) i_need_shapes [.lst [d]] Q E := by
  refine Fk_at (fd := fd_need_shapes) rfl rfl ?_
  simp only [fd_need_shapes, wSs, wS, wI, wE, rdV, bind0, List.map_cons, List.map_nil, List.cons_append, List.nil_append, List.length_cons, List.length_nil, List.replicate, List.getElem?_cons_zero, d_val, loopP, wG, List.set_cons_zero, List.set_cons_succ]
  refine ⟨by decide, ?_⟩
  simp only [wT, wE, wEs, rdV, List.getElem?_cons_zero, List.getElem?_cons_succ, d_val]
  refine c_is_shape_any (k := k) hw ?_
  rw [prB_f hn]
  simp only [d_val, tru_bl, Option.some.injEq, exists_eq_left', Bool.not_false, if_true]
  exact h
end
end K12
set_option maxHeartbeats 3900000
namespace K12
open PySem PL
def arS : D → Int → Bool
  | .str x, n => decide (n ≤ x.cps.size) && sgT x
  | _, _ => false
def keepN (c : Nat) : Bool := !decide (c ∈ (Str.ofString "01").cps.toList)
def fmN : D → Option D
  | .str ⟨⟨[c]⟩⟩ => if keepN c = true then some (.str ⟨#[c]⟩) else none
  | _ => none
theorem emp_sg (x : Str) : ((x.cps.toList.filter keepN).map fun c : Nat => D.str ⟨#[c]⟩).isEmpty = sgT x := by
  rw [Bool.eq_iff_iff, List.isEmpty_iff, List.map_eq_nil_iff, List.filter_eq_nil_iff]
  unfold sgT keepN
  rw [List.all_eq_true]
  constructor
  · intro h c hc
    have := h c hc
    simpa using this
  · intro h c hc
    have := h c hc
    simpa using this
section
variable {k : Nat} {Q : R → Prop} {E : Xc → Prop}
theorem c_law_whole {d : D} (h : Q (.val (.bl (isTy d .int && !isTy d .bool)))) : Fk (k + 1) i__law_whole [d] Q E := by
  refine Fk_at (fd := fd__law_whole) rfl rfl ?_
  simp only [fd__law_whole, wSs, wS, wE, wEs, wT, wTs, wG, wGs, wI, wO, rdV, bind0, R.d, truD, List.map_cons, List.map_nil, List.cons_append, List.nil_append, List.length_cons, List.length_nil, List.replicate, List.append_nil, List.set_cons_zero, List.set_cons_succ, List.getElem?_cons_zero, List.getElem?_cons_succ, Option.some.injEq, exists_eq_left', true_and, and_true, if_true, if_false, Bool.false_eq_true, R.val.injEq, D.int.injEq, Nat.zero_add, Nat.reduceAdd, Nat.reduceSub, Nat.reduceLT, Nat.reduceLeDiff, Nat.reduceEqDiff, Bool.not_true, Bool.not_false, Bool.and_true, Bool.true_and, Bool.and_false, Bool.false_and, lnV, len_l, len_t, len_sc]
  cases hb : isTy d .int <;> simpa [hb] using h
theorem c_are_signs {d : D} {n : Int} (hs : ∀ x, d = .str x → x.cps.size ≤ 16777216) (h : Q (.val (.bl (arS d n)))) : Fk (k + 1) i__law_are_signs [d, .int n] Q E := by
  have hlim : lim = 16777216 := rfl
  have nostr : isTy d .str = false → arS d n = false → Fk (k + 1) i__law_are_signs [d, .int n] Q E := fun ht ha => by
    rw [ha] at h
    refine Fk_at (fd := fd__law_are_signs) rfl rfl (p_retb mk ?_ h)
    refine w_and (r' := [some (.val d), some (.val (.int n)), none]) (t := false) mk ?_ (fun _ => rfl) (fun z => by cases z)
    simp only [fd__law_are_signs, wE, rdV, bind0, List.map_cons, List.map_nil, List.cons_append, List.nil_append, List.length_cons, List.length_nil, List.replicate, List.getElem?_cons_zero, d_val, ht]
    and_intros <;> first | rfl | trivial
  cases d with
  | str x =>
    have hx := hs x rfl
    simp only [arS] at h
    refine Fk_at (fd := fd__law_are_signs) rfl rfl (p_retb mk ?_ h)
    refine w_and (r' := [some (.val (.str x)), some (.val (.int n)), none]) (t := true) mk ?_ (fun z => by cases z) fun _ => ?_
    · simp only [fd__law_are_signs, wE, rdV, bind0, List.map_cons, List.map_nil, List.cons_append, List.nil_append, List.length_cons, List.length_nil, List.replicate, List.getElem?_cons_zero, d_val, isTy]
      and_intros <;> first | rfl | trivial
    refine w_and (r' := [some (.val (.str x)), some (.val (.int n)), none]) (t := decide (n ≤ x.cps.size)) mk ?_ (fun z => by rw [z]; rfl) fun z => ?_
    · simp only [wE, rdV, lnV, List.getElem?_cons_zero, List.getElem?_cons_succ, d_val, len_str hx, Option.some.injEq, exists_eq_left', cm_ge]
      and_intros <;> first | rfl | trivial
    · rw [z]
      simp only [wE, wEs, wI, rdV, List.getElem?_cons_zero, List.getElem?_cons_succ, d_val, Bool.true_and]
      refine ⟨fun v hv ds => by simp at hv; subst hv; simp, ?_⟩
      refine lc_fm fmN (by unfold sgnD; simp; omega) (fun e he kk hk' => ?_) ?_
      · unfold sgnD at he
        obtain ⟨c, _, rfl⟩ := List.mem_map.mp he
        simp only [wipeR, wG, wTs, wT, wE, rdV, List.getElem?_cons_zero, List.getElem?_cons_succ, List.set_cons_zero, List.set_cons_succ, d_val, List.length_cons, List.length_nil]
        refine ⟨by decide, keepN c, rfl, keepN c, rfl, ?_⟩
        have e1 : fmN (.str ⟨#[c]⟩) = if keepN c = true then some (.str ⟨#[c]⟩) else none := rfl
        rw [e1] at hk'
        by_cases q : keepN c = true
        · rw [if_pos q] at hk' ⊢; exact hk'
        · rw [if_neg q] at hk' ⊢; exact hk'
      · have e1 : (sgnD x).filterMap fmN = (x.cps.toList.filter keepN).map fun c : Nat => D.str ⟨#[c]⟩ := by
          unfold sgnD
          exact fm_filter (fun c : Nat => D.str ⟨#[c]⟩) keepN (fun c : Nat => D.str ⟨#[c]⟩) fmN (fun c => rfl) _
        rw [List.nil_append, e1]
        simp only [d_own, List.length_nil]
        refine ⟨by decide, _, show cmD .eq (.lst _) (.lst []) = some _ from rfl, ?_⟩
        rw [emp_sg]
  | non => exact nostr rfl rfl
  | bl b => exact nostr rfl rfl
  | int i => exact nostr rfl rfl
  | tup xs => exact nostr rfl rfl
  | lst xs => exact nostr rfl rfl
  | dic kvs => exact nostr rfl rfl
  | pot => exact nostr rfl rfl
  | scr ns => exact nostr rfl rfl
abbrev Eh (d a b c e : D) (s z : Option R) : PL.Env := [some (.val d), some (.val a), some (.val b), some (.val c), some (.val e), s, z, none, none]
def sideSt : List Sm := [(.ife (.cmp .ne (.bin .mod (.cst (.int 60)) (.lenv 5)) (.cst (.int 0)))
        [(.ret (.cst (.bl false)))]
        []),
      (.asg (.nm 6) (.lc (.nm 7) (.rng2 (.cst (.int 1)) (.lenv 5)) [(.cmp .eq (.bin .mod (.lenv 5) (.var 7)) (.cst (.int 0)))] (.var 7) [7])),
      (.ife (.cmp .ne (.lc (.nm 7) (.seq (.var 6)) [(.cmp .eq (.bin .mul (.sl (.var 5) none (some (.var 7))) (.bin .fdiv (.lenv 5) (.var 7))) (.var 5))] (.var 7) [7]) (.lst []))
        [(.ret (.cst (.bl false)))]
        [])]
theorem side_step {t : List Bool} {d a b c e : D} {z : Option R} {Dn : Ed} (h0 : t ≠ []) (ht : t.length ≤ 16777216) (hy : Side t → ∀ z, Dn.nx (Eh d a b c e (some (.val (.str (tx t)))) z)) (hn : ¬ Side t → Dn.rt (.val (.bl false))) :
    wSs prI.P (Fk k) sideSt (Eh d a b c e (some (.val (.str (tx t)))) z) Dn := by
  have hlim : lim = 16777216 := rfl
  have hp : 0 < t.length := List.length_pos_iff.mpr h0
  by_cases h6 : t.length ∣ 60
  · have hl : t.length ≤ 60 := dvd60 h6
    refine p_skip (r' := Eh d a b c e (some (.val (.str (tx t)))) z) mk ?_ ?_
    · simp only [Eh, wT, wE, rdV, lnV, List.getElem?_cons_zero, List.getElem?_cons_succ, d_val, len_tx ht, Option.some.injEq, exists_eq_left']
      rw [op_mod (by omega)]
      have e2 : (60 : Int) % (t.length : Int) = 0 := Int.emod_eq_zero_of_dvd (by exact Int.natCast_dvd_natCast.mpr h6)
      simp only [d_val, Option.some.injEq, exists_eq_left', cm_nei, tru_bl, e2, decide_true, Bool.not_true]
      and_intros <;> first | rfl | trivial
    refine p_asg mk (fun v r1 => v = .own (((upto (t.length - 1)).filter fun d => decide (t.length % d = 0)).map fun d : Nat => D.int (d : Int)) ∧ r1 = Eh d a b c e (some (.val (.str (tx t)))) z) ?_ ?_
    · simp only [Eh, wE, wI, rdV, lnV, List.getElem?_cons_zero, List.getElem?_cons_succ, d_val, len_tx ht, Option.some.injEq, exists_eq_left', D.int.injEq]
      refine ⟨1, (t.length : Int), rfl, rfl, by omega, by omega, by omega, by omega, fun v hv ds => by simp at hv; subst hv; simp, ?_⟩
      have en : ((t.length : Int) - 1).toNat = t.length - 1 := by omega
      rw [en, rng_upto]
      refine lc_fm (fun d => match d with | .int j => if decide ((t.length : Int) % j = 0) = true then some (.int j) else none | _ => none) (by unfold upto; simp; omega) (fun x hx kk hk => ?_) ?_
      · obtain ⟨d, hd, rfl⟩ := List.mem_map.mp hx
        have hd' := upto_mem.mp hd
        simp only [wipeR, wG, wTs, wT, wE, rdV, lnV, List.getElem?_cons_zero, List.getElem?_cons_succ, List.set_cons_zero, List.set_cons_succ, d_val, List.length_cons, List.length_nil, len_tx ht, Option.some.injEq, exists_eq_left']
        refine ⟨by decide, ?_⟩
        rw [op_mod (by omega)]
        simp only [d_val, Option.some.injEq, exists_eq_left', cm_eqi, tru_bl]
        simp only at hk
        by_cases q : (t.length : Int) % (d : Int) = 0
        · simp only [q, decide_true, if_true] at hk ⊢
          exact hk
        · simp only [q, decide_false, Bool.false_eq_true, if_false] at hk ⊢
          exact hk
      · rw [List.nil_append, fm_filter (fun d : Nat => D.int (d : Int)) (fun d => decide (t.length % d = 0)) (fun d : Nat => D.int (d : Int)) _ fun d => ?_]
        · exact ⟨rfl, rfl⟩
        · have e : decide ((t.length : Int) % (d : Int) = 0) = decide (t.length % d = 0) := by
            rw [decide_eq_decide, ← Int.natCast_emod]; omega
          simp only [e]
    rintro _ _ ⟨rfl, rfl⟩
    have sub : ∀ d, d ∈ (upto (t.length - 1)).filter (fun d => decide (t.length % d = 0)) ↔ 1 ≤ d ∧ d ∣ t.length ∧ d ≠ t.length := fun d => by
      rw [List.mem_filter, upto_mem, decide_eq_true_eq, Nat.dvd_iff_mod_eq_zero]
      constructor
      · rintro ⟨⟨h1, h3⟩, h2⟩; exact ⟨h1, h2, by omega⟩
      · rintro ⟨h1, h2, h3⟩
        have := Nat.le_of_dvd hp (Nat.dvd_of_mod_eq_zero h2)
        exact ⟨⟨h1, by omega⟩, h2⟩
    have tst : wT prI.P (Fk k) (.cmp .ne (.lc (.nm 7) (.seq (.var 6)) [(.cmp .eq (.bin .mul (.sl (.var 5) none (some (.var 7))) (.bin .fdiv (.lenv 5) (.var 7))) (.var 5))] (.var 7) [7]) (.lst [])) ((Eh d a b c e (some (.val (.str (tx t)))) z).set 6 (some (.own (((upto (t.length - 1)).filter fun d => decide (t.length % d = 0)).map fun d : Nat => D.int (d : Int)))))
        (fun q r1 => q = (!((((upto (t.length - 1)).filter fun d => decide (t.length % d = 0)).filter fun d => decide (rep (t.length / d) (t.take d) = t)).map fun d : Nat => D.int (d : Int)).isEmpty) ∧ r1 = Eh d a b c e (some (.val (.str (tx t)))) (some (.val (.lst (((upto (t.length - 1)).filter fun d => decide (t.length % d = 0)).map fun d : Nat => D.int (d : Int)))))) fun _ _ => False := by
      simp only [Eh, wT, wE, wEs, wI, rdV, List.getElem?_cons_zero, List.getElem?_cons_succ, List.set_cons_zero, List.set_cons_succ, d_val]
      refine ⟨fun v hv ds => by simp at hv; subst hv; simp, ?_⟩
      refine lc_fm (fun d => match d with | .int j => if decide (rep (t.length / j.toNat) (t.take j.toNat) = t) = true then some (.int j) else none | _ => none) ?_ (fun x hx kk hk => ?_) ?_
      · rw [List.length_map]
        have : ((upto (t.length - 1)).filter fun d => decide (t.length % d = 0)).length ≤ (upto (t.length - 1)).length := List.length_filter_le _ _
        have lu : (upto (t.length - 1)).length = t.length - 1 := by unfold upto; simp
        simp
        omega
      · obtain ⟨d, hd, rfl⟩ := List.mem_map.mp hx
        obtain ⟨d1, d2, _⟩ := (sub d).mp hd
        have dl := Nat.le_of_dvd hp d2
        have q1 : 1 ≤ t.length / d := (Nat.one_le_div_iff (by omega)).mpr dl
        have q2 : t.length / d ≤ 60 := Nat.le_trans (Nat.div_le_self _ _) hl
        simp only [wipeR, wG, wTs, wT, wE, wO, rdV, lnV, List.getElem?_cons_zero, List.getElem?_cons_succ, List.set_cons_zero, List.set_cons_succ, d_val, List.length_cons, List.length_nil, D.int.injEq, Option.some.injEq, exists_eq_left', len_tx ht, sl_tx ht, cut_txto]
        refine ⟨by decide, ?_⟩
        rw [op_div (by omega) (by omega)]
        simp only [d_val, Option.some.injEq, exists_eq_left']
        have em : opD .mul (.str (tx (t.take d))) (.int ((t.length : Int) / (d : Int))) = some (.val (.str (tx (rep (t.length / d) (t.take d))))) := by
          rw [← Int.natCast_ediv]
          show (if (tx (t.take d)).length ≤ 4096 ∧ (0 : Int) ≤ ((t.length / d : Nat) : Int) ∧ ((t.length / d : Nat) : Int) ≤ 4096 then some (R.val (.str (Txt.mul (tx (t.take d)) ((t.length / d : Nat) : Int)))) else none) = _
          rw [if_pos ⟨by rw [tx_len, List.length_take]; omega, by omega, by omega⟩, mul_tx _ _ q1]
        rw [em]
        simp only [d_val, Option.some.injEq, exists_eq_left', cm_eqs, tru_bl, tx_eq]
        simp only [Int.toNat_natCast] at hk
        by_cases q : rep (t.length / d) (t.take d) = t
        · simp only [q, decide_true, if_true] at hk ⊢
          exact hk
        · simp only [q, decide_false, Bool.false_eq_true, if_false] at hk ⊢
          exact hk
      · rw [List.nil_append, fm_filter (fun d : Nat => D.int (d : Int)) (fun d => decide (rep (t.length / d) (t.take d) = t)) (fun d : Nat => D.int (d : Int)) _ fun d => rfl]
        simp only [d_own, List.length_nil]
        refine ⟨by decide, _, show cmD .ne (.lst _) (.lst []) = some _ from rfl, ?_⟩
        simp only [tru_bl, Option.some.injEq, exists_eq_left']
        and_intros <;> first | rfl | trivial
    refine ⟨Nat.le_of_ble_eq_true rfl, ?_⟩
    by_cases hS : Side t
    · have em : ((upto (t.length - 1)).filter fun d => decide (t.length % d = 0)).filter (fun d => decide (rep (t.length / d) (t.take d) = t)) = [] := by
        rw [List.filter_eq_nil_iff]
        intro d hd hr
        obtain ⟨d1, d2, d3⟩ := (sub d).mp hd
        exact d3 (hS.p.2 d d1 d2 ((per_iff d1 d2 h0).mp (of_decide_eq_true hr)))
      rw [em] at tst
      exact p_skip mk tst (p_nil (hy hS _))
    · have em : ((((upto (t.length - 1)).filter fun d => decide (t.length % d = 0)).filter fun d => decide (rep (t.length / d) (t.take d) = t)).map fun d : Nat => D.int (d : Int)).isEmpty = false := by
        rw [Bool.eq_false_iff]
        intro hz
        rw [List.isEmpty_iff, List.map_eq_nil_iff, List.filter_eq_nil_iff] at hz
        refine hS ⟨⟨h0, fun d d0 dd dp => ?_⟩, h6⟩
        by_cases q : d = t.length
        · exact q
        · exact absurd (decide_eq_true ((per_iff d0 dd h0).mpr dp)) (hz d ((sub d).mpr ⟨d0, dd, q⟩))
      rw [em] at tst
      refine p_ift mk tst (p_retb mk ?_ (hn hS))
      simp only [wSs, wS, wE, wEs, wT, wTs, wG, wGs, wI, wO, rdV, bind0, d_val, d_own, tru_bl, tru_non, tru_int, tru_lst, tru_tup, ix_l, ix_t, at_0, at_1, at_2, op_add, op_sub, op_mod, op_div, cm_lt, cm_le, cm_gt, cm_ge, List.map_cons, List.map_nil, List.cons_append, List.nil_append, List.length_cons, List.length_nil, List.replicate, List.append_nil, List.set_cons_zero, List.set_cons_succ, List.getElem?_cons_zero, List.getElem?_cons_succ, Option.some.injEq, exists_eq_left', true_and, and_true, if_true, if_false, Bool.false_eq_true, R.val.injEq, D.int.injEq, Nat.zero_add, Nat.reduceAdd, Nat.reduceSub, Nat.reduceLT, Nat.reduceLeDiff, Nat.reduceEqDiff, Bool.not_true, Bool.not_false, Bool.and_true, Bool.true_and, Bool.and_false, Bool.false_and, Int.reduceLT, Int.reduceLE, Int.reduceNeg, Int.reducePow, Int.reduceToNat, Int.reduceMul, Int.reduceSub, Int.reduceAdd, lnV, len_l, len_t, len_sc, bi_ln, bi_abs, bi_max, bi_min, bi_listl, bi_listt, bi_tupl, bi_tupt, bi_intb, bi_inti, bi_all, sl_l, sl_t, cm_is, cm_isnot, is_non, is_bl, cm_eqi, cm_nei, cm_eqs, cm_nes, isTy, Option.map_some, p9, p10, p11, p18, wipeR, backR, List.getD_cons_zero, List.getD_cons_succ]
  · refine p_ift (r' := Eh d a b c e (some (.val (.str (tx t)))) z) mk ?_ (p_retb mk ?_ (hn fun s => h6 s.d))
    · simp only [Eh, wT, wE, rdV, lnV, List.getElem?_cons_zero, List.getElem?_cons_succ, d_val, len_tx ht, Option.some.injEq, exists_eq_left']
      rw [op_mod (by omega)]
      have e2 : decide ((60 : Int) % (t.length : Int) = 0) = false := decide_eq_false fun z => h6 (Int.natCast_dvd_natCast.mp (Int.dvd_of_emod_eq_zero z))
      simp only [d_val, Option.some.injEq, exists_eq_left', cm_nei, tru_bl, e2, Bool.not_false]
      and_intros <;> first | rfl | trivial
    · simp only [wSs, wS, wE, wEs, wT, wTs, wG, wGs, wI, wO, rdV, bind0, d_val, d_own, tru_bl, tru_non, tru_int, tru_lst, tru_tup, ix_l, ix_t, at_0, at_1, at_2, op_add, op_sub, op_mod, op_div, cm_lt, cm_le, cm_gt, cm_ge, List.map_cons, List.map_nil, List.cons_append, List.nil_append, List.length_cons, List.length_nil, List.replicate, List.append_nil, List.set_cons_zero, List.set_cons_succ, List.getElem?_cons_zero, List.getElem?_cons_succ, Option.some.injEq, exists_eq_left', true_and, and_true, if_true, if_false, Bool.false_eq_true, R.val.injEq, D.int.injEq, Nat.zero_add, Nat.reduceAdd, Nat.reduceSub, Nat.reduceLT, Nat.reduceLeDiff, Nat.reduceEqDiff, Bool.not_true, Bool.not_false, Bool.and_true, Bool.true_and, Bool.and_false, Bool.false_and, Int.reduceLT, Int.reduceLE, Int.reduceNeg, Int.reducePow, Int.reduceToNat, Int.reduceMul, Int.reduceSub, Int.reduceAdd, lnV, len_l, len_t, len_sc, bi_ln, bi_abs, bi_max, bi_min, bi_listl, bi_listt, bi_tupl, bi_tupt, bi_intb, bi_inti, bi_all, sl_l, sl_t, cm_is, cm_isnot, is_non, is_bl, cm_eqi, cm_nei, cm_eqs, cm_nes, isTy, Option.map_some, p9, p10, p11, p18, wipeR, backR, List.getD_cons_zero, List.getD_cons_succ]
end
end K12
set_option maxHeartbeats 3900000
namespace K12
open PySem PL
theorem canon_nil_eq {l : List Bool} {lo : Int} (sl : Side l) : Canon ⟨l, lo, [], l⟩ ↔ lo = 0 := by
  constructor
  · intro c
    rcases c.fm with ⟨_, h, _⟩ | ⟨h, _⟩
    · exact h
    · exact absurd (Sh.sg_r (x := ⟨l, lo, [], l⟩) (by simp [Sh.e])) h
  · intro h
    exact ⟨sl, sl, .inl ⟨rfl, h, rfl⟩⟩
theorem canon_nil_ne {l r : List Bool} {lo : Int} (sl : Side l) (sr : Side r) (hne : l ≠ r) : Canon ⟨l, lo, [], r⟩ ↔ atT l lo ≠ atT r lo := by
  have e : (Sh.mk l lo [] r).sg lo = atT r lo := Sh.sg_r (by simp [Sh.e])
  constructor
  · intro c
    rcases c.fm with ⟨h, _, _⟩ | ⟨h, _⟩
    · exact absurd h hne
    · rw [e] at h
      exact fun z => h z.symm
  · intro h
    exact ⟨sl, sr, .inr ⟨by rw [e]; exact fun z => h z.symm, fun z => absurd rfl z⟩⟩
theorem canon_cons {l r m : List Bool} {lo : Int} (sl : Side l) (sr : Side r) (hm : m ≠ []) (h0 : 0 < m.length) : Canon ⟨l, lo, m, r⟩ ↔ m[0] ≠ atT l lo ∧ m[m.length - 1] ≠ atT r (lo + m.length - 1) := by
  have e1 := Sh.sg_m (x := ⟨l, lo, m, r⟩) (i := 0) h0
  have e2 := Sh.sg_m (x := ⟨l, lo, m, r⟩) (i := m.length - 1) (by simp only; omega)
  simp only at e1 e2
  rw [show lo + ((0 : Nat) : Int) = lo by simp] at e1
  rw [show lo + ((m.length - 1 : Nat) : Int) = lo + m.length - 1 by omega] at e2
  constructor
  · intro c
    rcases c.fm with ⟨_, _, h⟩ | ⟨h1, h2⟩
    · exact absurd h hm
    · rw [e1] at h1
      have := h2 hm
      simp only [Sh.e] at this
      rw [e2] at this
      exact ⟨h1, this⟩
  · rintro ⟨h1, h2⟩
    refine ⟨sl, sr, .inr ⟨by rw [e1]; exact h1, fun _ => ?_⟩⟩
    simp only [Sh.e]
    rw [e2]
    exact h2
theorem shp_enc {x : Sh} : IsShp (encS x) ↔ Canon x := ⟨fun ⟨y, cy, e⟩ => by rw [encS_inj e]; exact cy, fun c => ⟨x, c, rfl⟩⟩
theorem arS_of {d : D} {n : Int} (h : arS d n = true) : ∃ t, d = .str (tx t) ∧ n ≤ t.length := by
  cases d with
  | str x =>
    simp only [arS, Bool.and_eq_true, decide_eq_true_eq] at h
    obtain ⟨t, rfl⟩ := sgT_tx h.2
    rw [tx_size] at h
    exact ⟨t, rfl, h.1⟩
  | _ => cases h
theorem arS_tx {t : List Bool} {n : Int} (h : n ≤ t.length) : arS (.str (tx t)) n = true := by
  simp only [arS, tx_size, tx_sgT, Bool.and_true]
  exact decide_eq_true h
section
variable {k : Nat} {Q : R → Prop} {E : Xc → Prop}
theorem ne_tx (a b : Bool) : cmD .ne (.str (tx [a])) (.str (tx [b])) = some (a != b) := by
  rw [cm_nes, tx_eq]
  cases a <;> cases b <;> rfl
theorem c_law_is_shape {d : D} (hw : wgtR d ≤ 1000000) (h : Q (.val (.bl (prB (IsShp d))))) : Fk (k + 2) i__law_is_shape [d] Q E := by
  have hlim : lim = 16777216 := rfl
  have notup : (∀ xs, d ≠ .tup xs) → isTy d .tuple = false → Fk (k + 2) i__law_is_shape [d] Q E := fun hn ht => by
    rw [prB_f (fun ⟨x, _, e⟩ => hn _ e)] at h
    refine Fk_at (fd := fd__law_is_shape) rfl rfl (p_ift mk (q_ort (r' := [some (.val d), none, none, none, none, none, none, none, none]) mk ?_) (p_retb mk ?_ h))
    · simp only [fd__law_is_shape, wT, wE, rdV, bind0, List.map_cons, List.map_nil, List.cons_append, List.nil_append, List.length_cons, List.length_nil, List.replicate, List.getElem?_cons_zero, d_val, ht, Option.some.injEq, exists_eq_left', tru_bl, Bool.not_false, true_and]
    · simp only [wSs, wS, wE, wEs, wT, wTs, wG, wGs, wI, wO, rdV, bind0, d_val, d_own, tru_bl, tru_non, tru_int, tru_lst, tru_tup, ix_l, ix_t, at_0, at_1, at_2, op_add, op_sub, op_mod, op_div, cm_lt, cm_le, cm_gt, cm_ge, List.map_cons, List.map_nil, List.cons_append, List.nil_append, List.length_cons, List.length_nil, List.replicate, List.append_nil, List.set_cons_zero, List.set_cons_succ, List.getElem?_cons_zero, List.getElem?_cons_succ, Option.some.injEq, exists_eq_left', true_and, and_true, if_true, if_false, Bool.false_eq_true, R.val.injEq, D.int.injEq, Nat.zero_add, Nat.reduceAdd, Nat.reduceSub, Nat.reduceLT, Nat.reduceLeDiff, Nat.reduceEqDiff, Bool.not_true, Bool.not_false, Bool.and_true, Bool.true_and, Bool.and_false, Bool.false_and, Int.reduceLT, Int.reduceLE, Int.reduceNeg, Int.reducePow, Int.reduceToNat, Int.reduceMul, Int.reduceSub, Int.reduceAdd, lnV, len_l, len_t, len_sc, bi_ln, bi_abs, bi_max, bi_min, bi_listl, bi_listt, bi_tupl, bi_tupt, bi_intb, bi_inti, bi_all, sl_l, sl_t, cm_is, cm_isnot, is_non, is_bl, cm_eqi, cm_nei, cm_eqs, cm_nes, isTy, Option.map_some, p9, p10, p11, p18, wipeR, backR, List.getD_cons_zero, List.getD_cons_succ]
  cases d with
  | non => exact notup (fun _ z => by cases z) rfl
  | bl b => exact notup (fun _ z => by cases z) rfl
  | int i => exact notup (fun _ z => by cases z) rfl
  | str x => exact notup (fun _ z => by cases z) rfl
  | lst xs => exact notup (fun _ z => by cases z) rfl
  | dic kvs => exact notup (fun _ z => by cases z) rfl
  | pot => exact notup (fun _ z => by cases z) rfl
  | scr ns => exact notup (fun _ z => by cases z) rfl
  | tup xs =>
    by_cases hl : xs.length = 4
    case neg =>
      rw [prB_f (fun ⟨x, _, e⟩ => hl (by unfold encS at e; rw [D.tup.injEq] at e; rw [e]; rfl))] at h
      have e1 : decide ((xs.length : Int) = 4) = false := decide_eq_false (by omega)
      refine Fk_at (fd := fd__law_is_shape) rfl rfl (p_ift (r' := [some (.val (.tup xs)), none, none, none, none, none, none, none, none]) mk ?_ (p_retb mk ?_ h))
      · simp only [fd__law_is_shape, wSs, wS, wE, wEs, wT, wTs, wG, wGs, wI, wO, rdV, bind0, d_val, d_own, tru_bl, tru_non, tru_int, tru_lst, tru_tup, ix_l, ix_t, at_0, at_1, at_2, op_add, op_sub, op_mod, op_div, cm_lt, cm_le, cm_gt, cm_ge, List.map_cons, List.map_nil, List.cons_append, List.nil_append, List.length_cons, List.length_nil, List.replicate, List.append_nil, List.set_cons_zero, List.set_cons_succ, List.getElem?_cons_zero, List.getElem?_cons_succ, Option.some.injEq, exists_eq_left', true_and, and_true, if_true, if_false, Bool.false_eq_true, R.val.injEq, D.int.injEq, Nat.zero_add, Nat.reduceAdd, Nat.reduceSub, Nat.reduceLT, Nat.reduceLeDiff, Nat.reduceEqDiff, Bool.not_true, Bool.not_false, Bool.and_true, Bool.true_and, Bool.and_false, Bool.false_and, Int.reduceLT, Int.reduceLE, Int.reduceNeg, Int.reducePow, Int.reduceToNat, Int.reduceMul, Int.reduceSub, Int.reduceAdd, lnV, len_l, len_t, len_sc, bi_ln, bi_abs, bi_max, bi_min, bi_listl, bi_listt, bi_tupl, bi_tupt, bi_intb, bi_inti, bi_all, sl_l, sl_t, cm_is, cm_isnot, is_non, is_bl, cm_eqi, cm_nei, cm_eqs, cm_nes, isTy, Option.map_some, p9, p10, p11, p18, wipeR, backR, List.getD_cons_zero, List.getD_cons_succ, e1]
      · simp only [wSs, wS, wE, wEs, wT, wTs, wG, wGs, wI, wO, rdV, bind0, d_val, d_own, tru_bl, tru_non, tru_int, tru_lst, tru_tup, ix_l, ix_t, at_0, at_1, at_2, op_add, op_sub, op_mod, op_div, cm_lt, cm_le, cm_gt, cm_ge, List.map_cons, List.map_nil, List.cons_append, List.nil_append, List.length_cons, List.length_nil, List.replicate, List.append_nil, List.set_cons_zero, List.set_cons_succ, List.getElem?_cons_zero, List.getElem?_cons_succ, Option.some.injEq, exists_eq_left', true_and, and_true, if_true, if_false, Bool.false_eq_true, R.val.injEq, D.int.injEq, Nat.zero_add, Nat.reduceAdd, Nat.reduceSub, Nat.reduceLT, Nat.reduceLeDiff, Nat.reduceEqDiff, Bool.not_true, Bool.not_false, Bool.and_true, Bool.true_and, Bool.and_false, Bool.false_and, Int.reduceLT, Int.reduceLE, Int.reduceNeg, Int.reducePow, Int.reduceToNat, Int.reduceMul, Int.reduceSub, Int.reduceAdd, lnV, len_l, len_t, len_sc, bi_ln, bi_abs, bi_max, bi_min, bi_listl, bi_listt, bi_tupl, bi_tupt, bi_intb, bi_inti, bi_all, sl_l, sl_t, cm_is, cm_isnot, is_non, is_bl, cm_eqi, cm_nei, cm_eqs, cm_nes, isTy, Option.map_some, p9, p10, p11, p18, wipeR, backR, List.getD_cons_zero, List.getD_cons_succ]
    match xs, hl with
    | [a, b, c, e], _ =>
      rw [wgt_tup, wgts_cons, wgts_cons, wgts_cons, wgts_cons, wgts_nil] at hw
      have sa : ∀ x, a = .str x → x.cps.size ≤ 16777216 := fun x z => by rw [z, wgt_str] at hw; omega
      have sc : ∀ x, c = .str x → x.cps.size ≤ 16777216 := fun x z => by rw [z, wgt_str] at hw; omega
      have se : ∀ x, e = .str x → x.cps.size ≤ 16777216 := fun x z => by rw [z, wgt_str] at hw; omega
      have isS : IsShp (.tup [a, b, c, e]) → ∃ x : Sh, Canon x ∧ a = .str (tx x.l) ∧ b = .int x.low ∧ c = .str (tx x.m) ∧ e = .str (tx x.r) := fun ⟨x, cx, ex⟩ => by
        unfold encS at ex
        simp only [D.tup.injEq, List.cons.injEq, and_true] at ex
        exact ⟨x, cx, ex⟩
      cases qb : (isTy b .int && !isTy b .bool) with
      | false =>
        rw [prB_f (fun z => by obtain ⟨x, _, _, hb, _⟩ := isS z; rw [hb] at qb; cases qb)] at h
        refine Fk_at (fd := fd__law_is_shape) rfl rfl (p_ift (r' := [some (.val (.tup [a, b, c, e])), none, none, none, none, none, none, none, none]) mk ?_ (p_retb mk ?_ h))
        · simp only [fd__law_is_shape, wSs, wS, wE, wEs, wT, wTs, wG, wGs, wI, wO, rdV, bind0, d_val, d_own, tru_bl, tru_non, tru_int, tru_lst, tru_tup, ix_l, ix_t, at_0, at_1, at_2, op_add, op_sub, op_mod, op_div, cm_lt, cm_le, cm_gt, cm_ge, List.map_cons, List.map_nil, List.cons_append, List.nil_append, List.length_cons, List.length_nil, List.replicate, List.append_nil, List.set_cons_zero, List.set_cons_succ, List.getElem?_cons_zero, List.getElem?_cons_succ, Option.some.injEq, exists_eq_left', true_and, and_true, if_true, if_false, Bool.false_eq_true, R.val.injEq, D.int.injEq, Nat.zero_add, Nat.reduceAdd, Nat.reduceSub, Nat.reduceLT, Nat.reduceLeDiff, Nat.reduceEqDiff, Bool.not_true, Bool.not_false, Bool.and_true, Bool.true_and, Bool.and_false, Bool.false_and, Int.reduceLT, Int.reduceLE, Int.reduceNeg, Int.reducePow, Int.reduceToNat, Int.reduceMul, Int.reduceSub, Int.reduceAdd, lnV, len_l, len_t, len_sc, bi_ln, bi_abs, bi_max, bi_min, bi_listl, bi_listt, bi_tupl, bi_tupt, bi_intb, bi_inti, bi_all, sl_l, sl_t, cm_is, cm_isnot, is_non, is_bl, cm_eqi, cm_nei, cm_eqs, cm_nes, isTy, Option.map_some, p9, p10, p11, p18, wipeR, backR, List.getD_cons_zero, List.getD_cons_succ]
          refine c_law_whole (k := k) ?_
          rw [qb]
          simp only [wSs, wS, wE, wEs, wT, wTs, wG, wGs, wI, wO, rdV, bind0, d_val, d_own, tru_bl, tru_non, tru_int, tru_lst, tru_tup, ix_l, ix_t, at_0, at_1, at_2, op_add, op_sub, op_mod, op_div, cm_lt, cm_le, cm_gt, cm_ge, List.map_cons, List.map_nil, List.cons_append, List.nil_append, List.length_cons, List.length_nil, List.replicate, List.append_nil, List.set_cons_zero, List.set_cons_succ, List.getElem?_cons_zero, List.getElem?_cons_succ, Option.some.injEq, exists_eq_left', true_and, and_true, if_true, if_false, Bool.false_eq_true, R.val.injEq, D.int.injEq, Nat.zero_add, Nat.reduceAdd, Nat.reduceSub, Nat.reduceLT, Nat.reduceLeDiff, Nat.reduceEqDiff, Bool.not_true, Bool.not_false, Bool.and_true, Bool.true_and, Bool.and_false, Bool.false_and, Int.reduceLT, Int.reduceLE, Int.reduceNeg, Int.reducePow, Int.reduceToNat, Int.reduceMul, Int.reduceSub, Int.reduceAdd, lnV, len_l, len_t, len_sc, bi_ln, bi_abs, bi_max, bi_min, bi_listl, bi_listt, bi_tupl, bi_tupt, bi_intb, bi_inti, bi_all, sl_l, sl_t, cm_is, cm_isnot, is_non, is_bl, cm_eqi, cm_nei, cm_eqs, cm_nes, isTy, Option.map_some, p9, p10, p11, p18, wipeR, backR, List.getD_cons_zero, List.getD_cons_succ]
        · simp only [wSs, wS, wE, wEs, wT, wTs, wG, wGs, wI, wO, rdV, bind0, d_val, d_own, tru_bl, tru_non, tru_int, tru_lst, tru_tup, ix_l, ix_t, at_0, at_1, at_2, op_add, op_sub, op_mod, op_div, cm_lt, cm_le, cm_gt, cm_ge, List.map_cons, List.map_nil, List.cons_append, List.nil_append, List.length_cons, List.length_nil, List.replicate, List.append_nil, List.set_cons_zero, List.set_cons_succ, List.getElem?_cons_zero, List.getElem?_cons_succ, Option.some.injEq, exists_eq_left', true_and, and_true, if_true, if_false, Bool.false_eq_true, R.val.injEq, D.int.injEq, Nat.zero_add, Nat.reduceAdd, Nat.reduceSub, Nat.reduceLT, Nat.reduceLeDiff, Nat.reduceEqDiff, Bool.not_true, Bool.not_false, Bool.and_true, Bool.true_and, Bool.and_false, Bool.false_and, Int.reduceLT, Int.reduceLE, Int.reduceNeg, Int.reducePow, Int.reduceToNat, Int.reduceMul, Int.reduceSub, Int.reduceAdd, lnV, len_l, len_t, len_sc, bi_ln, bi_abs, bi_max, bi_min, bi_listl, bi_listt, bi_tupl, bi_tupt, bi_intb, bi_inti, bi_all, sl_l, sl_t, cm_is, cm_isnot, is_non, is_bl, cm_eqi, cm_nei, cm_eqs, cm_nes, isTy, Option.map_some, p9, p10, p11, p18, wipeR, backR, List.getD_cons_zero, List.getD_cons_succ]
      | true =>
        obtain ⟨lo, rfl⟩ := whole_int qb
        refine Fk_at (fd := fd__law_is_shape) rfl rfl (p_skip (r' := [some (.val (.tup [a, .int lo, c, e])), none, none, none, none, none, none, none, none]) mk ?_ ?_)
        · simp only [fd__law_is_shape, wSs, wS, wE, wEs, wT, wTs, wG, wGs, wI, wO, rdV, bind0, d_val, d_own, tru_bl, tru_non, tru_int, tru_lst, tru_tup, ix_l, ix_t, at_0, at_1, at_2, op_add, op_sub, op_mod, op_div, cm_lt, cm_le, cm_gt, cm_ge, List.map_cons, List.map_nil, List.cons_append, List.nil_append, List.length_cons, List.length_nil, List.replicate, List.append_nil, List.set_cons_zero, List.set_cons_succ, List.getElem?_cons_zero, List.getElem?_cons_succ, Option.some.injEq, exists_eq_left', true_and, and_true, if_true, if_false, Bool.false_eq_true, R.val.injEq, D.int.injEq, Nat.zero_add, Nat.reduceAdd, Nat.reduceSub, Nat.reduceLT, Nat.reduceLeDiff, Nat.reduceEqDiff, Bool.not_true, Bool.not_false, Bool.and_true, Bool.true_and, Bool.and_false, Bool.false_and, Int.reduceLT, Int.reduceLE, Int.reduceNeg, Int.reducePow, Int.reduceToNat, Int.reduceMul, Int.reduceSub, Int.reduceAdd, lnV, len_l, len_t, len_sc, bi_ln, bi_abs, bi_max, bi_min, bi_listl, bi_listt, bi_tupl, bi_tupt, bi_intb, bi_inti, bi_all, sl_l, sl_t, cm_is, cm_isnot, is_non, is_bl, cm_eqi, cm_nei, cm_eqs, cm_nes, isTy, Option.map_some, p9, p10, p11, p18, wipeR, backR, List.getD_cons_zero, List.getD_cons_succ]
          refine c_law_whole (k := k) ?_
          rw [qb]
          simp only [wSs, wS, wE, wEs, wT, wTs, wG, wGs, wI, wO, rdV, bind0, d_val, d_own, tru_bl, tru_non, tru_int, tru_lst, tru_tup, ix_l, ix_t, at_0, at_1, at_2, op_add, op_sub, op_mod, op_div, cm_lt, cm_le, cm_gt, cm_ge, List.map_cons, List.map_nil, List.cons_append, List.nil_append, List.length_cons, List.length_nil, List.replicate, List.append_nil, List.set_cons_zero, List.set_cons_succ, List.getElem?_cons_zero, List.getElem?_cons_succ, Option.some.injEq, exists_eq_left', true_and, and_true, if_true, if_false, Bool.false_eq_true, R.val.injEq, D.int.injEq, Nat.zero_add, Nat.reduceAdd, Nat.reduceSub, Nat.reduceLT, Nat.reduceLeDiff, Nat.reduceEqDiff, Bool.not_true, Bool.not_false, Bool.and_true, Bool.true_and, Bool.and_false, Bool.false_and, Int.reduceLT, Int.reduceLE, Int.reduceNeg, Int.reducePow, Int.reduceToNat, Int.reduceMul, Int.reduceSub, Int.reduceAdd, lnV, len_l, len_t, len_sc, bi_ln, bi_abs, bi_max, bi_min, bi_listl, bi_listt, bi_tupl, bi_tupt, bi_intb, bi_inti, bi_all, sl_l, sl_t, cm_is, cm_isnot, is_non, is_bl, cm_eqi, cm_nei, cm_eqs, cm_nes, isTy, Option.map_some, p9, p10, p11, p18, wipeR, backR, List.getD_cons_zero, List.getD_cons_succ]
        refine p_asg mk (fun v r1 => v = .val (.tup [a, .int lo, c, e]) ∧ r1 = [some (.val (.tup [a, .int lo, c, e])), none, none, none, none, none, none, none, none]) ?_ ?_
        · simp only [wE, rdV, List.getElem?_cons_zero]
          and_intros <;> first | rfl | trivial
        rintro _ _ ⟨rfl, rfl⟩
        simp only [wG, wGs, d_val, List.length_cons, List.length_nil, List.set_cons_zero, List.set_cons_succ, true_and, Nat.zero_add, Nat.reduceAdd, Nat.reduceLT]
        have t2 : wT prI.P (Fk (k + 1)) (.or (.not (.call i__law_are_signs [(.var 1), (.cst (.int 1))])) (.or (.not (.call i__law_are_signs [(.var 3), (.cst (.int 0))])) (.not (.call i__law_are_signs [(.var 4), (.cst (.int 1))])))) (Eh (.tup [a, .int lo, c, e]) a (.int lo) c e none none) (fun q r1 => q = !(arS a 1 && (arS c 0 && arS e 1)) ∧ r1 = Eh (.tup [a, .int lo, c, e]) a (.int lo) c e none none) fun _ _ => False := by
          simp only [Eh, wT, wE, wEs, rdV, List.getElem?_cons_zero, List.getElem?_cons_succ, d_val]
          refine c_are_signs (k := k) sa ?_
          simp only [d_val, tru_bl, Option.some.injEq, exists_eq_left']
          cases arS a 1 with
          | false => simp
          | true =>
            simp only [Bool.not_true, Bool.false_eq_true, if_false, Bool.true_and]
            refine c_are_signs (k := k) sc ?_
            simp only [d_val, tru_bl, Option.some.injEq, exists_eq_left']
            cases arS c 0 with
            | false => simp
            | true =>
              simp only [Bool.not_true, Bool.false_eq_true, if_false, Bool.true_and]
              refine c_are_signs (k := k) se ?_
              simp only [d_val, tru_bl, Option.some.injEq, exists_eq_left']
              and_intros <;> first | rfl | trivial
        cases qs : (arS a 1 && (arS c 0 && arS e 1)) with
        | false =>
          rw [prB_f (fun z => by
            obtain ⟨x, cx, rfl, _, rfl, rfl⟩ := isS z
            have p1 := cx.hl.pos
            have p2 := cx.hr.pos
            rw [arS_tx (by omega), arS_tx (by omega), arS_tx (by omega)] at qs
            cases qs)] at h
          rw [qs] at t2
          refine p_ift mk t2 (p_retb mk ?_ h)
          simp only [wSs, wS, wE, wEs, wT, wTs, wG, wGs, wI, wO, rdV, bind0, d_val, d_own, tru_bl, tru_non, tru_int, tru_lst, tru_tup, ix_l, ix_t, at_0, at_1, at_2, op_add, op_sub, op_mod, op_div, cm_lt, cm_le, cm_gt, cm_ge, List.map_cons, List.map_nil, List.cons_append, List.nil_append, List.length_cons, List.length_nil, List.replicate, List.append_nil, List.set_cons_zero, List.set_cons_succ, List.getElem?_cons_zero, List.getElem?_cons_succ, Option.some.injEq, exists_eq_left', true_and, and_true, if_true, if_false, Bool.false_eq_true, R.val.injEq, D.int.injEq, Nat.zero_add, Nat.reduceAdd, Nat.reduceSub, Nat.reduceLT, Nat.reduceLeDiff, Nat.reduceEqDiff, Bool.not_true, Bool.not_false, Bool.and_true, Bool.true_and, Bool.and_false, Bool.false_and, Int.reduceLT, Int.reduceLE, Int.reduceNeg, Int.reducePow, Int.reduceToNat, Int.reduceMul, Int.reduceSub, Int.reduceAdd, lnV, len_l, len_t, len_sc, bi_ln, bi_abs, bi_max, bi_min, bi_listl, bi_listt, bi_tupl, bi_tupt, bi_intb, bi_inti, bi_all, sl_l, sl_t, cm_is, cm_isnot, is_non, is_bl, cm_eqi, cm_nei, cm_eqs, cm_nes, isTy, Option.map_some, p9, p10, p11, p18, wipeR, backR, List.getD_cons_zero, List.getD_cons_succ]
        | true =>
          rw [qs] at t2
          rw [Bool.and_eq_true, Bool.and_eq_true] at qs
          obtain ⟨l, rfl, hl1⟩ := arS_of qs.1
          obtain ⟨m, rfl, _⟩ := arS_of qs.2.1
          obtain ⟨r, rfl, hr1⟩ := arS_of qs.2.2
          have l0 : l ≠ [] := fun z => by rw [z] at hl1; simp at hl1
          have r0 : r ≠ [] := fun z => by rw [z] at hr1; simp at hr1
          have l16 := sa _ rfl
          have m16 := sc _ rfl
          have r16 := se _ rfl
          rw [tx_size] at l16 m16 r16
          have eE : (D.tup [.str (tx l), .int lo, .str (tx m), .str (tx r)]) = encS ⟨l, lo, m, r⟩ := rfl
          rw [eE] at h
          have no : ¬ (Side l ∧ Side r) → Q (.val (.bl false)) := fun z => by
            rw [prB_f (fun y => z ⟨(shp_enc.mp y).hl, (shp_enc.mp y).hr⟩)] at h
            exact h
          refine p_skip mk t2 (p_fo mk (fun ds r1 => ds = [.str (tx l), .str (tx r)] ∧ r1 = Eh (.tup [.str (tx l), .int lo, .str (tx m), .str (tx r)]) (.str (tx l)) (.int lo) (.str (tx m)) (.str (tx r)) none none) ?_ ?_)
          · simp only [Eh, wI, wE, wEs, rdV, List.getElem?_cons_zero, List.getElem?_cons_succ, d_val, List.length_cons, List.length_nil]
            and_intros <;> first | rfl | trivial | (show 2 ≤ lim; decide)
          rintro _ _ ⟨rfl, rfl⟩
          simp only [loopP]
          refine ⟨Nat.le_of_ble_eq_true rfl, ?_⟩
          refine side_step (k := k + 1) (t := l) (z := none) l0 l16 (fun sl z1 => ⟨Nat.le_of_ble_eq_true rfl, ?_⟩) fun z => no fun y => z y.1
          refine side_step (k := k + 1) (t := r) (z := z1) r0 r16 (fun sr z2 => ?_) fun z => no fun y => z y.2
          have lm : lenD (.str (tx m)) = some m.length := len_tx m16
          obtain ⟨j1, j2, j3⟩ := ix_side (n := lo) sl
          have l16' : l.length ≤ 16777216 := l16
          by_cases hm : m = []
          · subst hm
            have em : cmD .eq (.str (tx [])) (.str "") = some true := by decide +kernel
            by_cases hlr : l = r
            · subst hlr
              have eB : prB (IsShp (encS ⟨l, lo, [], l⟩)) = decide (lo = 0) := prB_iff ⟨fun z => shp_enc.mpr ((canon_nil_eq sl).mpr (of_decide_eq_true z)), fun z => decide_eq_true ((canon_nil_eq sl).mp (shp_enc.mp z))⟩
              rw [eB] at h
              refine p_ift (r' := Eh (.tup [.str (tx l), .int lo, .str (tx []), .str (tx l)]) (.str (tx l)) (.int lo) (.str (tx [])) (.str (tx l)) (some (.val (.str (tx l)))) z2) mk (q_and mk (q_cmp rfl em) ?_) (p_retb mk ?_ h)
              · simp only [Eh, wT, wE, rdV, List.getElem?_cons_zero, List.getElem?_cons_succ, d_val, cm_eqs, decide_true, tru_bl, Option.some.injEq, exists_eq_left']
                and_intros <;> first | rfl | trivial
              · simp only [Eh, wE, rdV, List.getElem?_cons_zero, List.getElem?_cons_succ, d_val, cm_eqi, Option.some.injEq, exists_eq_left']
            · have eB : prB (IsShp (encS ⟨l, lo, [], r⟩)) = (atT l lo != atT r lo) := prB_iff ⟨fun z => shp_enc.mpr ((canon_nil_ne sl sr hlr).mpr (by simpa using z)), fun z => by simpa using (canon_nil_ne sl sr hlr).mp (shp_enc.mp z)⟩
              rw [eB] at h
              obtain ⟨i1, i2, i3⟩ := ix_side (n := lo) sr
              refine p_skip (r' := Eh (.tup [.str (tx l), .int lo, .str (tx []), .str (tx r)]) (.str (tx l)) (.int lo) (.str (tx [])) (.str (tx r)) (some (.val (.str (tx r)))) z2) mk (q_and mk (q_cmp rfl em) ?_) (p_ift mk (q_cmp rfl em) (p_retb mk ?_ h))
              · simp only [Eh, wT, wE, rdV, List.getElem?_cons_zero, List.getElem?_cons_succ, d_val, cm_eqs, tx_eq, hlr, decide_false, tru_bl, Option.some.injEq, exists_eq_left']
                and_intros <;> first | rfl | trivial
              · simp only [Eh, wE, rdV, lnV, List.getElem?_cons_zero, List.getElem?_cons_succ, d_val, len_tx l16, len_tx r16, Option.some.injEq, exists_eq_left', j2, j3, i2, i3, ne_tx]
          · have h0 : 0 < m.length := List.length_pos_iff.mpr hm
            have em : cmD .eq (.str (tx m)) (.str "") = some false := by
              rw [cm_eqs, ← tx_nil, tx_eq, decide_eq_false hm]
            have eB : prB (IsShp (encS ⟨l, lo, m, r⟩)) = ((m[0] != atT l lo) && (m[m.length - 1] != atT r (lo + m.length - 1))) := prB_iff ⟨fun z => shp_enc.mpr ((canon_cons sl sr hm h0).mpr (by simpa using z)), fun z => by simpa using (canon_cons sl sr hm h0).mp (shp_enc.mp z)⟩
            rw [eB] at h
            obtain ⟨i1, i2, i3⟩ := ix_side (n := lo + m.length - 1) sr
            refine p_skip mk (q_andf mk (q_cmp rfl em)) (p_skip mk (q_cmp rfl em) (p_asg mk (fun v r1 => v = .val (.int (lo + m.length - 1)) ∧ r1 = Eh (.tup [.str (tx l), .int lo, .str (tx m), .str (tx r)]) (.str (tx l)) (.int lo) (.str (tx m)) (.str (tx r)) (some (.val (.str (tx r)))) z2) ?_ ?_))
            · simp only [Eh, wE, rdV, lnV, List.getElem?_cons_zero, List.getElem?_cons_succ, d_val, lm, Option.some.injEq, exists_eq_left', op_add, op_sub]
              and_intros <;> first | rfl | trivial
            rintro _ _ ⟨rfl, rfl⟩
            have x0 : ixD (.str (tx m)) (.int 0) = some (.str (tx [m[0]])) := ix_tx (a := m) (i := 0) h0 m16
            have x1 : ixD (.str (tx m)) (.int (-1)) = some (.str (tx [m[m.length - 1]])) := by
              have := ix_tx (a := m) (i := m.length - 1) (by omega) m16
              rw [← this]
              show (if (tx m).length ≤ lim then (L2.atI (tx m).cps.toList (-1)).map _ else none) = (if (tx m).length ≤ lim then (L2.atI (tx m).cps.toList ((m.length - 1 : Nat) : Int)).map _ else none)
              have e5 : L2.atI (tx m).cps.toList (-1) = L2.atI (tx m).cps.toList ((m.length - 1 : Nat) : Int) := by
                unfold L2.atI L2.ixN
                have e6 : (tx m).cps.toList.length = m.length := by rw [tx_cps, List.length_map]
                rw [e6, if_neg (by omega), if_pos (by omega)]
                rw [if_pos (by omega), if_pos (by omega)]
                congr 2
                omega
              rw [e5]
            refine ⟨Nat.le_of_ble_eq_true rfl, p_ret mk (fun v _ => v = .val (.bl ((m[0] != atT l lo) && (m[m.length - 1] != atT r (lo + m.length - 1))))) ?_ fun v _ ev => by rw [ev]; exact h⟩
            refine w_and (t := (m[0] != atT l lo)) (r' := [some (.val (.tup [.str (tx l), .int lo, .str (tx m), .str (tx r)])), some (.val (.str (tx l))), some (.val (.int lo)), some (.val (.str (tx m))), some (.val (.str (tx r))), some (.val (.str (tx r))), z2, none, some (.val (.int (lo + m.length - 1)))]) mk ?_ (fun z => by rw [z]; rfl) fun z => ?_
            · simp only [Eh, wE, rdV, lnV, List.getElem?_cons_zero, List.getElem?_cons_succ, List.set_cons_zero, List.set_cons_succ, d_val, len_tx l16, Option.some.injEq, exists_eq_left', x0, j2, j3, ne_tx]
              and_intros <;> first | rfl | trivial
            · rw [z]
              simp only [wE, rdV, lnV, List.getElem?_cons_zero, List.getElem?_cons_succ, d_val, D.int.injEq, len_tx r16, Option.some.injEq, exists_eq_left', x1, i2, i3, ne_tx, Bool.true_and]
end
end K12
set_option maxHeartbeats 3900000
namespace K12
open PySem PL
section
variable {k : Nat} {Q : R → Prop} {E : Xc → Prop}
theorem c_odd (h : ∀ d, tameE oddB 2 d = true → wgtR d ≤ 100 → Q (.val d)) : Fk (k + 2) i__law_odd [.pot] Q E := by
  have hlim : lim = 16777216 := rfl
  refine Fk_at (fd := fd__law_odd) rfl rfl (p_asg mk (fun v r1 => v = .own odds ∧ r1 = [some (.val .pot), none]) ?_ ?_)
  · simp only [fd__law_odd, wE, wEs, rdV, bind0, List.map_cons, List.map_nil, List.cons_append, List.nil_append, List.length_cons, List.length_nil, List.replicate, List.getElem?_cons_zero, d_val, d_own, p11, Option.some.injEq, exists_eq_left', D.int.injEq]
    and_intros <;> first | rfl | trivial | (show _ ≤ lim; decide) | decide
  rintro _ _ ⟨rfl, rfl⟩
  refine ⟨Nat.le_of_ble_eq_true rfl, ?_⟩
  simp only [wSs, wS, wE, wEs, rdV, lnV, List.set_cons_zero, List.set_cons_succ, List.getElem?_cons_zero, List.getElem?_cons_succ, d_val, len_l, Option.some.injEq, exists_eq_left']
  refine c_take (by show (0 : Int) < 17; decide) (by show (17 : Int) < _; decide) fun x x1 x2 => ?_
  simp only [d_val, ix_l]
  refine mem_at x1 x2 fun z hz => ?_
  obtain ⟨z1, z2⟩ := odds_ok z hz
  exact h z z1 z2
theorem c_lwhole {d : D} (h : Q (.val (.bl (isTy d .int && !isTy d .bool)))) : Fk (k + 1) i__law_whole [d] Q E := by
  refine Fk_at (fd := fd__law_whole) rfl rfl ?_
  simp only [fd__law_whole, wSs, wS, wE, wEs, wT, wTs, wG, wGs, wI, wO, rdV, bind0, R.d, truD, List.map_cons, List.map_nil, List.cons_append, List.nil_append, List.length_cons, List.length_nil, List.replicate, List.append_nil, List.set_cons_zero, List.set_cons_succ, List.getElem?_cons_zero, List.getElem?_cons_succ, Option.some.injEq, exists_eq_left', true_and, and_true, if_true, if_false, Bool.false_eq_true, R.val.injEq, D.int.injEq, Nat.zero_add, Nat.reduceAdd, Nat.reduceSub, Nat.reduceLT, Nat.reduceLeDiff, Nat.reduceEqDiff, Bool.not_true, Bool.not_false, Bool.and_true, Bool.true_and, Bool.and_false, Bool.false_and, lnV, len_l, len_t, len_sc]
  cases hb : isTy d .int <;> simpa [hb] using h
theorem w_int {d : D} (h : (isTy d .int && !isTy d .bool) = true) : ∃ i : Int, d = .int i := by
  cases d <;> first | exact ⟨_, rfl⟩ | cases h
abbrev Eb (d : D) (m : Int) (a b : Option R) : PL.Env := [some (.val .pot), some (.val d), some (.val (.int m)), a, b]
theorem asc_0 : asc (Str.ofString "0") = true := by decide +kernel
theorem asc_1 : asc (Str.ofString "1") = true := by decide +kernel
theorem asc_not : asc (Str.ofString "not") = true := by decide +kernel
theorem size_app (x y : Str) : (x ++ y).cps.size = x.cps.size + y.cps.size := by
  show (x.cps ++ y.cps).size = _
  simp
theorem sz_0 : (Str.ofString "0").cps.size = 1 := by decide +kernel
theorem sz_1 : (Str.ofString "1").cps.size = 1 := by decide +kernel
theorem sz_not : (Str.ofString "not").cps.size = 3 := by decide +kernel
/-- a thing with one part otherwise -/
theorem c_bent : ∀ {m k N W B : Nat} {d : D} {Q : R → Prop} {E : Xc → Prop}, m + 3 ≤ k → tameE B N d = true → wgtR d ≤ W → W ≤ 200000 → (∀ e, tameE (max (B + 100) oddB) (N + 3) e = true → wgtR e ≤ 2 * W + 200 → Q (.val e)) → Fk k i__law_bent [.pot, d, .int (m : Int)] Q E
  | m, 0, N, W, B, d, Q, E, hk, ht, hw, hW, h => by omega
  | m, 1, N, W, B, d, Q, E, hk, ht, hw, hW, h => by omega
  | m, 2, N, W, B, d, Q, E, hk, ht, hw, hW, h => by omega
  | m, k + 3, N, W, B, d, Q, E, hk, ht, hw, hW, h => by
    have hlim : lim = 16777216 := rfl
    have hob : oddB = 100000000001 := rfl
    have hodd : ∀ e, tameE oddB 2 e = true → wgtR e ≤ 100 → Q (.val e) := fun e e1 e2 => h e (tame_up (Nat.le_max_right _ _) (by omega) e1) (by omega)
    refine Fk_at (fd := fd__law_bent) rfl rfl ?_
    -- a whole number
    have t1 : wT prI.P (Fk (k + 2)) (.and (.call i__law_whole [(.var 1)]) (.cmp .gt (.call i__law_take [(.var 0), (.cst (.int 3))]) (.cst (.int 0)))) (Eb d m none none) (fun q r1 => (q = true → ∃ i : Int, d = .int i) ∧ r1 = Eb d m none none) fun _ _ => False := by
      simp only [Eb, wT, wE, wEs, rdV, List.getElem?_cons_zero, List.getElem?_cons_succ, d_val]
      refine c_lwhole (k := k + 1) ?_
      simp only [d_val, tru_bl, Option.some.injEq, exists_eq_left']
      cases e : (isTy d .int && !isTy d .bool) with
      | false => simp
      | true =>
        simp only [if_true]
        refine c_take (by decide) (by decide) fun x x1 x2 => ?_
        simp only [d_val, cm_gt, tru_bl, Option.some.injEq, exists_eq_left']
        exact ⟨fun _ => w_int e, by first | rfl | trivial⟩
    refine p_ife mk _ t1 (fun r1 ⟨hq, e1⟩ => ?_) fun r1 ⟨_, e1⟩ => ?_
    · subst e1
      obtain ⟨i, rfl⟩ := hq rfl
      have hi := tame_int.mp ht
      rw [wgt_int] at hw
      simp only [Eb, wSs, wS, wE, wEs, rdV, List.getElem?_cons_zero, List.getElem?_cons_succ, d_val, d_own, op_add, op_sub, p11, Option.some.injEq, exists_eq_left', List.length_cons, List.length_nil]
      refine ⟨by show 6 ≤ lim; decide, c_take (by decide) (by decide) fun x x1 x2 => ?_⟩
      simp only [d_val, ix_l]
      refine mem_at x1 x2 fun z hz => ?_
      simp only [List.mem_cons, List.not_mem_nil, or_false] at hz
      rcases hz with rfl | rfl | rfl | rfl | rfl | rfl
      · exact h _ (tame_int.mpr (by omega)) (by rw [wgt_int]; omega)
      · exact h _ (tame_int.mpr (by omega)) (by rw [wgt_int]; omega)
      · exact h _ (tame_int.mpr (by omega)) (by rw [wgt_int]; omega)
      · exact h _ (tame_int.mpr (by omega)) (by rw [wgt_int]; omega)
      · exact h _ (tame_int.mpr (by omega)) (by rw [wgt_int]; omega)
      · exact h _ tame_bl (by rw [wgt_bl]; omega)
    subst e1
    -- a text
    have t2 : wT prI.P (Fk (k + 2)) (.and (.isi (.var 1) .str) (.cmp .gt (.call i__law_take [(.var 0), (.cst (.int 3))]) (.cst (.int 0)))) (Eb d m none none) (fun q r1 => (q = true → ∃ x, d = .str x) ∧ r1 = Eb d m none none) fun _ _ => False := by
      simp only [Eb, wT, wE, wEs, rdV, List.getElem?_cons_zero, List.getElem?_cons_succ, d_val, tru_bl, Option.some.injEq, exists_eq_left']
      cases e : isTy d .str with
      | false => simp
      | true =>
        simp only [if_true]
        refine c_take (by decide) (by decide) fun x x1 x2 => ?_
        simp only [d_val, cm_gt, tru_bl, Option.some.injEq, exists_eq_left']
        refine ⟨fun _ => ?_, by first | rfl | trivial⟩
        cases d <;> first | exact ⟨_, rfl⟩ | cases e
    refine p_ife mk _ t2 (fun r1 ⟨hq, e1⟩ => ?_) fun r1 ⟨_, e1⟩ => ?_
    · subst e1
      obtain ⟨x, rfl⟩ := hq rfl
      have hx := tame_str.mp ht
      rw [wgt_str] at hw
      have xl : x.length = x.cps.size := rfl
      have a0 : opD .add (.str x) (.str (Str.ofString "0")) = some (.val (.str (x ++ Str.ofString "0"))) := op_adds (by show x.cps.size + (Str.ofString "0").cps.size ≤ lim; rw [sz_0]; omega)
      have a1 : opD .add (.str x) (.str (Str.ofString "1")) = some (.val (.str (x ++ Str.ofString "1"))) := op_adds (by show x.cps.size + (Str.ofString "1").cps.size ≤ lim; rw [sz_1]; omega)
      have au : mtD .upper (.str x) [] = some (.val (.str (Txt.upper x))) := if_pos (by omega)
      have mu : mtTy .upper (.str x) = true := rfl
      simp only [Eb, wSs, wS, wE, wEs, wO, rdV, List.getElem?_cons_zero, List.getElem?_cons_succ, d_val, d_own, a0, a1, au, mu, true_and, sl_s (show x.cps.size ≤ 16777216 by omega), Option.some.injEq, exists_eq_left', D.int.injEq, List.length_cons, List.length_nil]
      refine ⟨by show 6 ≤ lim; decide, c_take (by decide) (by decide) fun y y1 y2 => ?_⟩
      simp only [d_val, ix_l]
      refine mem_at y1 y2 fun z hz => ?_
      simp only [List.mem_cons, List.not_mem_nil, or_false] at hz
      rcases hz with rfl | rfl | rfl | rfl | rfl | rfl
      · exact h _ (tame_str.mpr (asc_app hx asc_0)) (by rw [wgt_str, size_app, sz_0]; omega)
      · obtain ⟨c1, c2⟩ := cutS_asc none (some (-1)) hx
        exact h _ (tame_str.mpr c1) (by rw [wgt_str]; omega)
      · obtain ⟨c1, c2⟩ := cutS_asc (some 1) none hx
        exact h _ (tame_str.mpr c1) (by rw [wgt_str]; omega)
      · obtain ⟨c1, c2⟩ := upper_asc hx
        exact h _ (tame_str.mpr c1) (by rw [wgt_str]; omega)
      · exact h _ (tame_str.mpr (asc_app hx asc_1)) (by rw [wgt_str, size_app, sz_1]; omega)
      · exact h _ (tame_str.mpr asc_not) (by rw [wgt_str, sz_not]; omega)
    subst e1
    -- no tuple, an empty one, deep enough
    have t3 : wT prI.P (Fk (k + 2)) (.or (.not (.isi (.var 1) .tuple)) (.or (.cmp .eq (.var 1) (.tup [])) (.cmp .eq (.var 2) (.cst (.int 0))))) (Eb d m none none) (fun q r1 => (q = false → ∃ xs, d = .tup xs ∧ xs ≠ [] ∧ m ≠ 0) ∧ r1 = Eb d m none none) fun _ _ => False := by
      simp only [Eb, wT, wE, wEs, rdV, List.getElem?_cons_zero, List.getElem?_cons_succ, d_val, tru_bl, Option.some.injEq, exists_eq_left', List.length_nil]
      cases e : isTy d .tuple with
      | false => simp
      | true =>
        obtain ⟨xs, rfl⟩ : ∃ xs, d = .tup xs := by cases d <;> first | exact ⟨_, rfl⟩ | cases e
        simp only [Bool.not_true, Bool.false_eq_true, if_false]
        refine ⟨by decide, xs.isEmpty, rfl, ?_⟩
        cases e2 : xs.isEmpty with
        | true => simp
        | false =>
          simp only [Bool.false_eq_true, if_false, cm_eqi, tru_bl, Option.some.injEq, exists_eq_left']
          refine ⟨fun z => ⟨xs, rfl, (fun y => by rw [y] at e2; cases e2), fun y => ?_⟩, by first | rfl | trivial⟩
          rw [y] at z
          exact absurd z (by decide)
    refine p_ife mk _ t3 (fun r1 ⟨_, e1⟩ => ?_) fun r1 ⟨hq, e1⟩ => ?_
    · subst e1
      simp only [Eb, wSs, wS, wE, wEs, rdV, List.getElem?_cons_zero, d_val]
      exact c_odd (k := k) hodd
    subst e1
    obtain ⟨xs, rfl, hne, hm0⟩ := hq rfl
    obtain ⟨N', rfl, hts⟩ := tame_tup0 ht
    rw [wgt_tup] at hw
    have hlen := wgts_len xs
    have hpos : 0 < xs.length := List.length_pos_iff.mpr hne
    obtain ⟨m', rfl⟩ : ∃ m', m = m' + 1 := ⟨m - 1, by omega⟩
    have up : ∀ e, tameE B N' e = true → tameE (max (B + 100) oddB) (N' + 3) e = true := fun e he => tame_up (by omega) (by omega) he
    have upT : ∀ {ys : List D}, (∀ e ∈ ys, tameE (max (B + 100) oddB) (N' + 3) e = true) → wgtRs ys ≤ 2 * W + 200 → Q (.val (.tup ys)) := fun {ys} h1 h2 => h _ (tame_tup.mpr h1) (by rw [wgt_tup]; exact h2)
    have cutT : ∀ {lo hi : Option Int} {e : D}, e ∈ cutD xs lo hi → tameE (max (B + 100) oddB) (N' + 3) e = true := fun {lo hi e} he => up e (hts e (cutD_mem he))
    have cl : ∀ lo hi, (cutD xs lo hi).length ≤ 200000 := fun lo hi => by
      have h1 := wgts_len (cutD xs lo hi)
      have h2 := cutD_wgt xs lo hi
      omega
    refine p_par2 mk (Q := fun ds r1 => ∃ a v : Int, (0 ≤ a ∧ a < xs.length) ∧ (0 ≤ v ∧ v < 10) ∧ ds = [.int a, .int v] ∧ r1 = Eb (.tup xs) ((m' + 1 : Nat) : Int) none none) ?_ ?_
    · simp only [Eb, wE, wEs, rdV, lnV, List.getElem?_cons_zero, List.getElem?_cons_succ, d_val, len_t, Option.some.injEq, exists_eq_left']
      refine c_take (by omega) (by omega) fun a a1 a2 => ?_
      simp only [d_val]
      exact c_take (by decide) (by decide) fun v v1 v2 => ⟨a, v, ⟨a1, a2⟩, ⟨v1, v2⟩, rfl, by first | rfl | trivial⟩
    rintro _ _ ⟨a, v, ⟨a1, a2⟩, ⟨v1, v2⟩, rfl, rfl⟩
    refine ⟨_, _, rfl, ?_⟩
    show wSs prI.P (Fk (k + 2)) (fd__law_bent.body.drop 4) (Eb (.tup xs) ((m' + 1 : Nat) : Int) (some (.val (.int a))) (some (.val (.int v)))) _
    obtain ⟨j, rfl⟩ := Int.eq_ofNat_of_zero_le a1
    have hj : j < xs.length := by omega
    have ej1 : (j : Int) + 1 = ((j + 1 : Nat) : Int) := by omega
    have parts : xs = xs.take j ++ xs[j] :: xs.drop (j + 1) := by
      conv => lhs; rw [← List.take_append_drop j xs]
      rw [List.drop_eq_getElem_cons hj]
    have wparts : wgtRs xs = wgtRs (xs.take j) + (wgtR xs[j] + 1 + wgtRs (xs.drop (j + 1))) := by
      conv => lhs; rw [parts]
      rw [wgts_sum, wgts_cons]
    by_cases h0 : v = 0
    · refine p_ift mk (q_cmp rfl (eq_t h0)) (p_ret mk (fun z _ => ∃ ys, (∀ e ∈ ys, tameE (max (B + 100) oddB) (N' + 3) e = true) ∧ wgtRs ys ≤ 2 * W + 200 ∧ z = .val (.tup ys)) ?_ fun z _ ⟨ys, y1, y2, e⟩ => by rw [e]; exact upT y1 y2)
      simp only [Eb, wE, wEs, wO, rdV, List.getElem?_cons_zero, List.getElem?_cons_succ, d_val, sl_t, Option.some.injEq, exists_eq_left', D.int.injEq]
      refine c_odd (k := k) fun o o1 o2 => ?_
      have c1 := cl none (some (j : Int))
      have c2 := cl (some (j : Int)) none
      simp only [d_val, List.length_cons, List.length_nil]
      refine ⟨by show 1 ≤ lim; decide, _, op_addt (by simp only [List.length_cons, List.length_nil]; omega), _, op_addt (by simp only [List.length_append, List.length_cons, List.length_nil]; omega), _, ?_, ?_, rfl⟩
      · intro e he
        rw [List.mem_append, List.mem_append] at he
        rcases he with (he | he) | he
        · exact cutT he
        · have : e = o := by simpa using he
          rw [this]; exact tame_up (Nat.le_max_right _ _) (by omega) o1
        · exact cutT he
      · rw [wgts_sum, wgts_sum, wgts_cons, wgts_nil, cut_to, cut_from]
        have := wgts_sum (xs.take j) (xs.drop j)
        rw [List.take_append_drop] at this
        omega
    refine p_skip mk (q_cmp rfl (eq_f h0)) ?_
    by_cases h1 : v = 1
    · refine p_ift mk (q_cmp rfl (eq_t h1)) (p_ret mk (fun z _ => ∃ ys, (∀ e ∈ ys, tameE (max (B + 100) oddB) (N' + 3) e = true) ∧ wgtRs ys ≤ 2 * W + 200 ∧ z = .val (.tup ys)) ?_ fun z _ ⟨ys, y1, y2, e⟩ => by rw [e]; exact upT y1 y2)
      simp only [Eb, wE, wEs, wO, rdV, List.getElem?_cons_zero, List.getElem?_cons_succ, d_val, sl_t, op_add, Option.some.injEq, exists_eq_left', D.int.injEq]
      have c1 := cl none (some (j : Int))
      have c2 := cl (some ((j : Int) + 1)) none
      refine ⟨_, op_addt (by omega), _, ?_, ?_, rfl⟩
      · intro e he
        rw [List.mem_append] at he
        rcases he with he | he <;> exact cutT he
      · have w1 := cutD_wgt xs none (some (j : Int))
        rw [wgts_sum, cut_to, ej1, cut_from]
        omega
    refine p_skip mk (q_cmp rfl (eq_f h1)) ?_
    by_cases h2 : v = 2
    · refine p_ift mk (q_cmp rfl (eq_t h2)) (p_ret mk (fun z _ => ∃ ys, (∀ e ∈ ys, tameE (max (B + 100) oddB) (N' + 3) e = true) ∧ wgtRs ys ≤ 2 * W + 200 ∧ z = .val (.tup ys)) ?_ fun z _ ⟨ys, y1, y2, e⟩ => by rw [e]; exact upT y1 y2)
      simp only [Eb, wE, wEs, wO, rdV, List.getElem?_cons_zero, List.getElem?_cons_succ, d_val, sl_t, op_add, Option.some.injEq, exists_eq_left', D.int.injEq]
      have c1 := cl none (some (j : Int))
      have c2 := cl (some (j : Int)) (some ((j : Int) + 1))
      have c3 := cl (some (j : Int)) none
      refine ⟨_, op_addt (by omega), _, op_addt (by simp only [List.length_append]; omega), _, ?_, ?_, rfl⟩
      · intro e he
        rw [List.mem_append, List.mem_append] at he
        rcases he with (he | he) | he <;> exact cutT he
      · have w2 := cutD_wgt xs (some (j : Int)) (some ((j : Int) + 1))
        rw [wgts_sum, wgts_sum, cut_to, cut_from]
        have := wgts_sum (xs.take j) (xs.drop j)
        rw [List.take_append_drop] at this
        omega
    refine p_skip mk (q_cmp rfl (eq_f h2)) ?_
    by_cases h3 : v = 3
    · refine p_ift mk (q_cmp rfl (eq_t h3)) (p_ret mk (fun z _ => z = .val (.lst xs) ∨ z = .val (.tup xs.reverse)) ?_ fun z _ e => ?_)
      · have er : revD (.tup xs) = some (.val (.tup xs.reverse)) := rfl
        simp only [Eb, wE, wEs, rdV, List.getElem?_cons_zero, List.getElem?_cons_succ, d_val, d_own, bi_listt, er, Option.some.injEq, exists_eq_left', List.length_cons, List.length_nil]
        refine ⟨by show 2 ≤ lim; decide, c_take (by decide) (by decide) fun u u1 u2 => ?_⟩
        simp only [d_val, ix_l]
        refine mem_at u1 u2 fun z hz => ?_
        simp only [List.mem_cons, List.not_mem_nil, or_false] at hz
        rcases hz with rfl | rfl
        · exact .inl rfl
        · exact .inr rfl
      · rcases e with rfl | rfl
        · exact h _ (tame_lst.mpr fun e he => up e (hts e he)) (by rw [wgt_lst]; omega)
        · exact upT (fun e he => up e (hts e (List.mem_reverse.mp he))) (by rw [wgts_rev]; omega)
    refine p_skip mk (q_cmp rfl (eq_f h3)) ?_
    refine p_ret mk (fun z _ => ∃ ys, (∀ e ∈ ys, tameE (max (B + 100) oddB) (N' + 3) e = true) ∧ wgtRs ys ≤ 2 * W + 200 ∧ z = .val (.tup ys)) ?_ fun z _ ⟨ys, y1, y2, e⟩ => by rw [e]; exact upT y1 y2
    have ej : L2.atI xs (j : Int) = some xs[j] := L2.atI_nat (List.getElem?_eq_getElem hj)
    have em : (((m' + 1 : Nat) : Int) - 1) = (m' : Int) := by omega
    have wj : wgtR xs[j] ≤ W - wgtRs (xs.take j) - wgtRs (xs.drop (j + 1)) - 1 := by omega
    have c1 := cl none (some (j : Int))
    have c2 := cl (some ((j : Int) + 1)) none
    have s1 : wE prI.P (Fk (k + 2)) (.sl (.var 1) none (some (.var 3))) (Eb (.tup xs) ((m' + 1 : Nat) : Int) (some (.val (.int (j : Int)))) (some (.val (.int v)))) (fun x r1 => x = .val (.tup (cutD xs none (some (j : Int)))) ∧ r1 = Eb (.tup xs) ((m' + 1 : Nat) : Int) (some (.val (.int (j : Int)))) (some (.val (.int v)))) fun _ _ => False := by
      simp only [Eb, wE, wO, rdV, List.getElem?_cons_zero, List.getElem?_cons_succ, d_val, sl_t, Option.some.injEq, exists_eq_left', D.int.injEq]
      and_intros <;> first | rfl | trivial
    have s3 : wE prI.P (Fk (k + 2)) (.sl (.var 1) (some (.bin .add (.var 3) (.cst (.int 1)))) none) (Eb (.tup xs) ((m' + 1 : Nat) : Int) (some (.val (.int (j : Int)))) (some (.val (.int v)))) (fun x r1 => x = .val (.tup (cutD xs (some ((j : Int) + 1)) none)) ∧ r1 = Eb (.tup xs) ((m' + 1 : Nat) : Int) (some (.val (.int (j : Int)))) (some (.val (.int v)))) fun _ _ => False := by
      simp only [Eb, wE, wO, rdV, List.getElem?_cons_zero, List.getElem?_cons_succ, d_val, sl_t, op_add, Option.some.injEq, exists_eq_left', D.int.injEq]
      and_intros <;> first | rfl | trivial
    have s2 : wE prI.P (Fk (k + 2)) (.tup [(.call i__law_bent [(.var 0), (.ix (.var 1) (.var 3)), (.bin .sub (.var 2) (.cst (.int 1)))])]) (Eb (.tup xs) ((m' + 1 : Nat) : Int) (some (.val (.int (j : Int)))) (some (.val (.int v)))) (fun x r1 => (∃ o, tameE (max (B + 100) oddB) (N' + 3) o = true ∧ wgtR o ≤ 2 * (W - wgtRs (xs.take j) - wgtRs (xs.drop (j + 1)) - 1) + 200 ∧ x = .val (.tup [o])) ∧ r1 = Eb (.tup xs) ((m' + 1 : Nat) : Int) (some (.val (.int (j : Int)))) (some (.val (.int v)))) fun _ _ => False := by
      simp only [Eb, wE, wEs, rdV, List.getElem?_cons_zero, List.getElem?_cons_succ, d_val, ix_t, ej, op_sub, Option.some.injEq, exists_eq_left']
      rw [em]
      refine c_bent (m := m') (k := k + 2) (by omega) (hts _ (List.getElem_mem hj)) wj (by omega) fun o o1 o2 => ?_
      exact ⟨by show 1 ≤ lim; decide, ⟨o, o1, o2, rfl⟩, by first | rfl | trivial⟩
    have s12 : wE prI.P (Fk (k + 2)) (.bin .add (.sl (.var 1) none (some (.var 3))) (.tup [(.call i__law_bent [(.var 0), (.ix (.var 1) (.var 3)), (.bin .sub (.var 2) (.cst (.int 1)))])])) (Eb (.tup xs) ((m' + 1 : Nat) : Int) (some (.val (.int (j : Int)))) (some (.val (.int v)))) (fun x r1 => (∃ o, tameE (max (B + 100) oddB) (N' + 3) o = true ∧ wgtR o ≤ 2 * (W - wgtRs (xs.take j) - wgtRs (xs.drop (j + 1)) - 1) + 200 ∧ x = .val (.tup (cutD xs none (some (j : Int)) ++ [o]))) ∧ r1 = Eb (.tup xs) ((m' + 1 : Nat) : Int) (some (.val (.int (j : Int)))) (some (.val (.int v)))) fun _ _ => False := by
      refine w_bin mk s1 s2 fun x y hx ⟨o, o1, o2, hy⟩ => ?_
      subst hx hy
      exact ⟨_, op_addt (by simp only [List.length_cons, List.length_nil]; omega), ⟨o, o1, o2, rfl⟩, rfl⟩
    refine w_bin mk s12 s3 fun x y ⟨o, o1, o2, hx⟩ hy => ?_
    subst hx hy
    refine ⟨_, op_addt (by simp only [List.length_append, List.length_cons, List.length_nil]; omega), _, ?_, ?_, rfl⟩
    · intro e he
      rw [List.mem_append, List.mem_append] at he
      rcases he with (he | he) | he
      · exact cutT he
      · have : e = o := by simpa using he
        rw [this]; exact o1
      · exact cutT he
    · rw [wgts_sum, wgts_sum, wgts_cons, wgts_nil, cut_to, ej1, cut_from]
      omega
end
end K12
set_option maxHeartbeats 3900000
namespace K12
open PySem PL
/-- a thing that is asked of -/
def Gd (d : D) : Prop := tameE 100000001000 12 d = true ∧ wgtR d ≤ 100000
theorem asc_tx (t : List Bool) : asc (tx t) = true := by
  unfold asc
  rw [tx_cps, List.all_map, List.all_eq_true]
  intro b _
  cases b <;> rfl
theorem small_text : ((List.range 1201).all fun n => asc (Str.ofString (toString ((n : Int) - 600))) && decide ((Str.ofString (toString ((n : Int) - 600))).cps.size ≤ 10)) = true := by decide +kernel
theorem text_of {i : Int} (h1 : -600 ≤ i) (h2 : i ≤ 600) : asc (Str.ofString (toString i)) = true ∧ (Str.ofString (toString i)).cps.size ≤ 10 := by
  have := List.all_eq_true.mp small_text (i + 600).toNat (List.mem_range.mpr (by omega))
  rw [show (((i + 600).toNat : Nat) : Int) - 600 = i by omega, Bool.and_eq_true, decide_eq_true_eq] at this
  exact this
theorem gd4 {a b c e : D} (ha : tameE 100000001000 11 a = true) (hb : tameE 100000001000 11 b = true) (hc : tameE 100000001000 11 c = true) (he : tameE 100000001000 11 e = true) (hw : wgtR a + wgtR b + wgtR c + wgtR e ≤ 99000) : Gd (.tup [a, b, c, e]) := by
  refine ⟨tame_tup.mpr (by simp only [List.forall_mem_cons]; exact ⟨ha, hb, hc, he, by simp⟩), ?_⟩
  rw [wgt_tup, wgts_cons, wgts_cons, wgts_cons, wgts_cons, wgts_nil]
  omega
theorem op_multx {t : List Bool} {j : Nat} (h1 : 1 ≤ j) (h2 : j ≤ 4096) (ht : t.length ≤ 4096) : opD .mul (.str (tx t)) (.int (j : Int)) = some (.val (.str (tx (rep j t)))) := by
  show (if (tx t).length ≤ 4096 ∧ (0 : Int) ≤ (j : Int) ∧ (j : Int) ≤ 4096 then some (R.val (.str (Txt.mul (tx t) (j : Int)))) else none) = _
  rw [if_pos ⟨by rw [tx_len]; exact ht, by omega, by omega⟩, mul_tx _ _ h1]
theorem op_addtx {a b : List Bool} (h : a.length + b.length ≤ 16777216) : opD .add (.str (tx a)) (.str (tx b)) = some (.val (.str (tx (a ++ b)))) := by
  rw [op_adds (by rw [tx_len, tx_len]; exact h), tx_app]
theorem tt {t : List Bool} {n B : Nat} : tameE B n (.str (tx t)) = true := tame_str.mpr (asc_tx t)
theorem ti {i : Int} {n : Nat} (h : i.natAbs ≤ 1000) : tameE 100000001000 n (.int i) = true := tame_int.mpr (by omega)
theorem wtx (t : List Bool) : wgtR (.str (tx t)) = t.length := by rw [wgt_str, tx_size]
section
variable {k : Nat} {Q : R → Prop} {E : Xc → Prop}
abbrev En (x : Sh) (a b c : Option R) : PL.Env := [some (.val .pot), some (.val (encS x)), some (.val (.str (tx x.l))), some (.val (.int x.low)), some (.val (.str (tx x.m))), some (.val (.str (tx x.r))), a, b, c]
theorem c_near {x : Sh} (c : Canon x) (h1 : -300 ≤ x.low) (h2 : x.e ≤ 300) (h : ∀ ds : List D, ds.length ≤ 40 → (∀ d ∈ ds, Gd d) → Q (.own ds)) : Fk (k + 1) i__law_near [.pot, encS x] Q E := by
  have hlim : lim = 16777216 := rfl
  have he : x.e = x.low + x.m.length := rfl
  have sl := c.hl
  have sr := c.hr
  have l1 := sl.le
  have r1 := sr.le
  have lp := sl.pos
  have rp := sr.pos
  have l16 : x.l.length ≤ 16777216 := by omega
  have m16 : x.m.length ≤ 16777216 := by omega
  have r16 : x.r.length ≤ 16777216 := by omega
  obtain ⟨i1, i2, i3⟩ := ix_side (n := x.low - 1) sl
  obtain ⟨j1, j2, j3⟩ := ix_side (n := x.low + x.m.length) sr
  refine Fk_at (fd := fd__law_near) rfl rfl (p_asg mk (fun v r1 => v = .val (encS x) ∧ r1 = [some (.val .pot), some (.val (encS x)), none, none, none, none, none, none, none]) ?_ ?_)
  · simp only [fd__law_near, wSs, wS, wE, wEs, wT, wTs, wG, wGs, wI, wO, rdV, bind0, d_val, d_own, tru_bl, tru_non, tru_int, tru_lst, tru_tup, ix_l, ix_t, at_0, at_1, at_2, op_add, op_sub, op_mod, op_div, cm_lt, cm_le, cm_gt, cm_ge, List.map_cons, List.map_nil, List.cons_append, List.nil_append, List.length_cons, List.length_nil, List.replicate, List.append_nil, List.set_cons_zero, List.set_cons_succ, List.getElem?_cons_zero, List.getElem?_cons_succ, Option.some.injEq, exists_eq_left', true_and, and_true, if_true, if_false, Bool.false_eq_true, R.val.injEq, D.int.injEq, Nat.zero_add, Nat.reduceAdd, Nat.reduceSub, Nat.reduceLT, Nat.reduceLeDiff, Nat.reduceEqDiff, Bool.not_true, Bool.not_false, Bool.and_true, Bool.true_and, Bool.and_false, Bool.false_and, Int.reduceLT, Int.reduceLE, Int.reduceNeg, Int.reducePow, Int.reduceToNat, Int.reduceMul, Int.reduceSub, Int.reduceAdd, lnV, len_l, len_t, len_sc, bi_ln, bi_abs, bi_max, bi_min, bi_listl, bi_listt, bi_tupl, bi_tupt, bi_intb, bi_inti, bi_all, sl_l, sl_t, cm_is, cm_isnot, is_non, is_bl, cm_eqi, cm_nei, cm_eqs, cm_nes, isTy, Option.map_some, p9, p10, p11, p18, wipeR, backR, List.getD_cons_zero, List.getD_cons_succ]
  rintro _ _ ⟨rfl, rfl⟩
  simp only [encS, wG, wGs, d_val, List.length_cons, List.length_nil, List.set_cons_zero, List.set_cons_succ, true_and, Nat.zero_add, Nat.reduceAdd, Nat.reduceLT]
  refine p_asg mk (fun v r1 => v = .val (.str (tx [atT x.l (x.low - 1)])) ∧ r1 = En x none none none) ?_ ?_
  · simp only [En, wE, rdV, lnV, List.getElem?_cons_zero, List.getElem?_cons_succ, d_val, op_sub, len_tx l16, Option.some.injEq, exists_eq_left', i2, i3]
    and_intros <;> first | rfl | trivial
  rintro _ _ ⟨rfl, rfl⟩
  refine ⟨Nat.le_of_ble_eq_true rfl, p_asg mk (fun v r1 => v = .val (.str (tx [atT x.r (x.low + x.m.length)])) ∧ r1 = En x (some (.val (.str (tx [atT x.l (x.low - 1)])))) none none) ?_ ?_⟩
  · simp only [En, wE, rdV, lnV, List.getElem?_cons_zero, List.getElem?_cons_succ, List.set_cons_zero, List.set_cons_succ, d_val, op_add, len_tx m16, len_tx r16, Option.some.injEq, exists_eq_left', j2, j3]
    and_intros <;> first | rfl | trivial
  rintro _ _ ⟨rfl, rfl⟩
  have eml : opD .mul (.str (tx x.l)) (.int 2) = some (.val (.str (tx (rep 2 x.l)))) := op_multx (j := 2) (by decide) (by decide) (by omega)
  have emr : opD .mul (.str (tx x.r)) (.int 3) = some (.val (.str (tx (rep 3 x.r)))) := op_multx (j := 3) (by decide) (by decide) (by omega)
  have eaf : opD .add (.str (tx [atT x.l (x.low - 1)])) (.str (tx x.m)) = some (.val (.str (tx ([atT x.l (x.low - 1)] ++ x.m)))) := op_addtx (by simp; omega)
  have eal : opD .add (.str (tx x.m)) (.str (tx [atT x.r (x.low + x.m.length)])) = some (.val (.str (tx (x.m ++ [atT x.r (x.low + x.m.length)])))) := op_addtx (by simp; omega)
  have rl2 := rep_len x.l 2
  have rl3 := rep_len x.r 3
  generalize hf : some (R.val (.str (tx [atT x.l (x.low - 1)]))) = sf
  generalize hl : some (R.val (.str (tx [atT x.r (x.low + x.m.length)]))) = sla
  refine ⟨Nat.le_of_ble_eq_true rfl, p_asg mk (fun v r1 => ∃ ds : List D, ds.length ≤ 3 ∧ (∀ d ∈ ds, Gd d) ∧ v = .own ds ∧ r1 = En x sf sla none) ?_ ?_⟩
  · rw [← hf, ← hl]
    simp only [En, wE, wEs, rv0, ro0, lv0, lo0, rv1, ro1, lv1, lo1, rv2, ro2, lv2, lo2, rv3, ro3, lv3, lo3, rv4, ro4, lv4, lo4, rv5, ro5, lv5, lo5, rv6, ro6, lv6, lo6, rv7, ro7, lv7, lo7, rv8, ro8, lv8, lo8, rv9, ro9, lv9, lo9, rv10, ro10, lv10, lo10, rv11, ro11, lv11, lo11, rv12, ro12, lv12, lo12, rv13, ro13, lv13, lo13, rv14, ro14, lv14, lo14, rv15, ro15, lv15, lo15, List.set_cons_zero, List.set_cons_succ, d_val, eml, emr, eaf, op_sub, Option.some.injEq, exists_eq_left', List.length_cons, List.length_nil]
    refine ⟨by show 4 ≤ lim; decide, by show 4 ≤ lim; decide, by show 4 ≤ lim; decide, by show 3 ≤ lim; decide, _, ?_, ?_, by first | rfl | trivial, by first | rfl | trivial⟩
    · simp
    · simp only [List.forall_mem_cons]
      refine ⟨gd4 tt (ti (by omega)) tt tt ?_, gd4 tt (ti (by omega)) tt tt ?_, gd4 tt (ti (by omega)) tt tt ?_, by simp⟩ <;> simp only [wtx, wgt_int, rl2, rl3, List.length_append, List.length_cons, List.length_nil] <;> omega
  rintro _ _ ⟨d1, b1, g1, rfl, rfl⟩
  refine ⟨Nat.le_of_ble_eq_true rfl, p_asg mk (fun v r1 => ∃ ds : List D, ds.length ≤ 6 ∧ (∀ d ∈ ds, Gd d) ∧ v = .own ds ∧ ∃ z, r1 = En x sf sla z) ?_ ?_⟩
  · rw [← hf, ← hl]
    simp only [En, wE, wEs, rv0, ro0, lv0, lo0, rv1, ro1, lv1, lo1, rv2, ro2, lv2, lo2, rv3, ro3, lv3, lo3, rv4, ro4, lv4, lo4, rv5, ro5, lv5, lo5, rv6, ro6, lv6, lo6, rv7, ro7, lv7, lo7, rv8, ro8, lv8, lo8, rv9, ro9, lv9, lo9, rv10, ro10, lv10, lo10, rv11, ro11, lv11, lo11, rv12, ro12, lv12, lo12, rv13, ro13, lv13, lo13, rv14, ro14, lv14, lo14, rv15, ro15, lv15, lo15, List.set_cons_zero, List.set_cons_succ, d_val, d_own, eal, op_sub, op_add, Option.some.injEq, exists_eq_left', List.length_cons, List.length_nil]
    refine ⟨by show 4 ≤ lim; decide, by show 4 ≤ lim; decide, by show 4 ≤ lim; decide, by show 3 ≤ lim; decide, _, op_addl (by simp only [List.length_cons, List.length_nil]; omega), _, ?_, ?_, rfl, _, rfl⟩
    · simp only [List.length_append, List.length_cons, List.length_nil]; omega
    · intro d hd
      rcases List.mem_append.mp hd with qd | qd
      · exact g1 d qd
      · clear hd; revert d
        simp only [List.forall_mem_cons]
        refine ⟨gd4 tt (ti (by omega)) tt tt ?_, gd4 tt (ti (by omega)) tt tt ?_, gd4 tt (ti (by omega)) tt tt ?_, by simp⟩ <;> simp only [wtx, wgt_int, List.length_append, List.length_cons, List.length_nil] <;> omega
  rintro _ _ ⟨d2, b2, g2, rfl, z2, rfl⟩
  have a5 : asc (Str.ofString "01010") = true ∧ (Str.ofString "01010").cps.size = 5 := by decide +kernel
  have a7 : asc (Str.ofString "0000001") = true ∧ (Str.ofString "0000001").cps.size = 7 := by decide +kernel
  have a2 : asc (Str.ofString "01") = true ∧ (Str.ofString "01").cps.size = 2 := by decide +kernel
  have a0 : asc (Str.ofString "") = true ∧ (Str.ofString "").cps.size = 0 := by decide +kernel
  have az : asc (Str.ofString "0") = true ∧ (Str.ofString "0").cps.size = 1 := by decide +kernel
  have ao : asc (Str.ofString "1") = true ∧ (Str.ofString "1").cps.size = 1 := by decide +kernel
  have at' : asc (Str.ofString "2") = true ∧ (Str.ofString "2").cps.size = 1 := by decide +kernel
  refine ⟨Nat.le_of_ble_eq_true rfl, p_asg mk (fun v r1 => ∃ ds : List D, ds.length ≤ 9 ∧ (∀ d ∈ ds, Gd d) ∧ v = .own ds ∧ ∃ z, r1 = En x sf sla z) ?_ ?_⟩
  · simp only [En, wE, wEs, rv0, ro0, lv0, lo0, rv1, ro1, lv1, lo1, rv2, ro2, lv2, lo2, rv3, ro3, lv3, lo3, rv4, ro4, lv4, lo4, rv5, ro5, lv5, lo5, rv6, ro6, lv6, lo6, rv7, ro7, lv7, lo7, rv8, ro8, lv8, lo8, rv9, ro9, lv9, lo9, rv10, ro10, lv10, lo10, rv11, ro11, lv11, lo11, rv12, ro12, lv12, lo12, rv13, ro13, lv13, lo13, rv14, ro14, lv14, lo14, rv15, ro15, lv15, lo15, List.set_cons_zero, List.set_cons_succ, d_val, d_own, List.length_cons, List.length_nil]
    refine ⟨by show 4 ≤ lim; decide, by show 4 ≤ lim; decide, by show 4 ≤ lim; decide, by show 3 ≤ lim; decide, _, op_addl (by simp only [List.length_cons, List.length_nil]; omega), _, ?_, ?_, rfl, _, rfl⟩
    · simp only [List.length_append, List.length_cons, List.length_nil]; omega
    · intro d hd
      rcases List.mem_append.mp hd with qd | qd
      · exact g2 d qd
      · clear hd; revert d
        simp only [List.forall_mem_cons]
        refine ⟨gd4 (tame_str.mpr a0.1) (ti (by omega)) tt tt ?_, gd4 tt (ti (by omega)) tt (tame_str.mpr a5.1) ?_, gd4 (tame_str.mpr a7.1) (ti (by omega)) tt tt ?_, by simp⟩ <;> simp only [wtx, wgt_int, wgt_str, tx_size, a0.2, a5.2, a7.2] <;> omega
  rintro _ _ ⟨d3, b3, g3, rfl, z3, rfl⟩
  refine ⟨Nat.le_of_ble_eq_true rfl, p_asg mk (fun v r1 => ∃ ds : List D, ds.length ≤ 13 ∧ (∀ d ∈ ds, Gd d) ∧ v = .own ds ∧ ∃ z, r1 = En x sf sla z) ?_ ?_⟩
  · simp only [En, wE, wEs, rv0, ro0, lv0, lo0, rv1, ro1, lv1, lo1, rv2, ro2, lv2, lo2, rv3, ro3, lv3, lo3, rv4, ro4, lv4, lo4, rv5, ro5, lv5, lo5, rv6, ro6, lv6, lo6, rv7, ro7, lv7, lo7, rv8, ro8, lv8, lo8, rv9, ro9, lv9, lo9, rv10, ro10, lv10, lo10, rv11, ro11, lv11, lo11, rv12, ro12, lv12, lo12, rv13, ro13, lv13, lo13, rv14, ro14, lv14, lo14, rv15, ro15, lv15, lo15, List.set_cons_zero, List.set_cons_succ, d_val, d_own, List.length_cons, List.length_nil]
    refine ⟨by show 4 ≤ lim; decide, by show 4 ≤ lim; decide, by show 4 ≤ lim; decide, by show 4 ≤ lim; decide, by show 4 ≤ lim; decide, _, op_addl (by simp only [List.length_cons, List.length_nil]; omega), _, ?_, ?_, rfl, _, rfl⟩
    · simp only [List.length_append, List.length_cons, List.length_nil]; omega
    · intro d hd
      rcases List.mem_append.mp hd with qd | qd
      · exact g3 d qd
      · clear hd; revert d
        simp only [List.forall_mem_cons]
        refine ⟨gd4 (tame_str.mpr a2.1) (ti (by omega)) tt (tame_str.mpr a2.1) ?_, gd4 (tame_str.mpr a2.1) (ti (by omega)) (tame_str.mpr a0.1) (tame_str.mpr a2.1) ?_, gd4 (tame_str.mpr az.1) (ti (by omega)) (tame_str.mpr a0.1) (tame_str.mpr az.1) ?_, gd4 (tame_str.mpr ao.1) (ti (by decide)) (tame_str.mpr az.1) (tame_str.mpr ao.1) ?_, by simp⟩ <;> simp only [wtx, wgt_int, wgt_str, tx_size, a0.2, a2.2, az.2, ao.2] <;> omega
  rintro _ _ ⟨d4, b4, g4, rfl, z4, rfl⟩
  have gx : Gd (.lst [.str (tx x.l), .int x.low, .str (tx x.m), .str (tx x.r)]) := by
    refine ⟨tame_lst.mpr (by simp only [List.forall_mem_cons]; exact ⟨tt, ti (by omega), tt, tt, by simp⟩), ?_⟩
    rw [wgt_lst, wgts_cons, wgts_cons, wgts_cons, wgts_cons, wgts_nil, wtx, wtx, wtx, wgt_int]
    omega
  have gc : Gd (.tup (cutD [.str (tx x.l), .int x.low, .str (tx x.m), .str (tx x.r)] none (some 3))) := by
    have e3 : cutD [.str (tx x.l), .int x.low, .str (tx x.m), .str (tx x.r)] none (some 3) = [.str (tx x.l), .int x.low, .str (tx x.m)] := cut_to 3
    rw [e3]
    refine ⟨tame_tup.mpr (by simp only [List.forall_mem_cons]; exact ⟨tt, ti (by omega), tt, by simp⟩), ?_⟩
    rw [wgt_tup, wgts_cons, wgts_cons, wgts_cons, wgts_nil, wtx, wtx, wgt_int]
    omega
  have g5 : Gd (.tup ([.str (tx x.l), .int x.low, .str (tx x.m), .str (tx x.r)] ++ [.str (Str.ofString "0")])) := by
    refine ⟨tame_tup.mpr (by simp only [List.cons_append, List.nil_append, List.forall_mem_cons]; exact ⟨tt, ti (by omega), tt, tt, tame_str.mpr az.1, by simp⟩), ?_⟩
    rw [wgt_tup, wgts_sum, wgts_cons, wgts_cons, wgts_cons, wgts_cons, wgts_cons, wgts_nil, wtx, wtx, wtx, wgt_int, wgt_str, az.2]
    omega
  refine ⟨Nat.le_of_ble_eq_true rfl, p_asg mk (fun v r1 => ∃ ds : List D, ds.length ≤ 18 ∧ (∀ d ∈ ds, Gd d) ∧ v = .own ds ∧ ∃ z, r1 = En x sf sla z) ?_ ?_⟩
  · simp only [En, encS, wE, wEs, wO, rv0, ro0, lv0, lo0, rv1, ro1, lv1, lo1, rv2, ro2, lv2, lo2, rv3, ro3, lv3, lo3, rv4, ro4, lv4, lo4, rv5, ro5, lv5, lo5, rv6, ro6, lv6, lo6, rv7, ro7, lv7, lo7, rv8, ro8, lv8, lo8, rv9, ro9, lv9, lo9, rv10, ro10, lv10, lo10, rv11, ro11, lv11, lo11, rv12, ro12, lv12, lo12, rv13, ro13, lv13, lo13, rv14, ro14, lv14, lo14, rv15, ro15, lv15, lo15, List.set_cons_zero, List.set_cons_succ, d_val, d_own, bi_listt, sl_t, D.int.injEq, Option.some.injEq, exists_eq_left', List.length_cons, List.length_nil]
    refine ⟨by show 4 ≤ lim; decide, by show 4 ≤ lim; decide, by show 1 ≤ lim; decide, _, op_addt (by simp only [List.length_cons, List.length_nil]; omega), by show 5 ≤ lim; decide, _, op_addl (by simp only [List.length_cons, List.length_nil]; omega), _, ?_, ?_, rfl, _, rfl⟩
    · simp only [List.length_append, List.length_cons, List.length_nil]; omega
    · intro d hd
      rcases List.mem_append.mp hd with qd | qd
      · exact g4 d qd
      · clear hd; revert d
        simp only [List.forall_mem_cons]
        refine ⟨gd4 (tame_str.mpr az.1) (ti (by omega)) (tame_str.mpr ao.1) (tame_str.mpr az.1) ?_, gd4 (tame_str.mpr at'.1) (ti (by decide)) (tame_str.mpr a0.1) (tame_str.mpr at'.1) ?_, gx, gc, g5, by simp⟩ <;> simp only [wgt_int, wgt_str, tx_size, a0.2, az.2, ao.2, at'.2] <;> omega
  rintro _ _ ⟨d5, b5, g5', rfl, z5, rfl⟩
  obtain ⟨tx1, tx2⟩ := text_of (i := x.low) (by omega) (by omega)
  have bs : biD .str [.int x.low] = some (.val (.str (Str.ofString (toString x.low)))) := if_pos (by
    have : x.low.natAbs < 2 ^ 20 := by omega
    by_cases h0 : x.low.natAbs = 0
    · rw [h0]; decide
    · have := (Nat.log2_lt h0).mpr this
      omega)
  refine ⟨Nat.le_of_ble_eq_true rfl, p_ex mk (fun _ r1 => ∃ ds : List D, ds.length ≤ 19 ∧ (∀ d ∈ ds, Gd d) ∧ r1 = En x sf sla (some (.own ds))) ?_ ?_⟩
  · simp only [En, wE, wEs, rv0, ro0, lv0, lo0, rv1, ro1, lv1, lo1, rv2, ro2, lv2, lo2, rv3, ro3, lv3, lo3, rv4, ro4, lv4, lo4, rv5, ro5, lv5, lo5, rv6, ro6, lv6, lo6, rv7, ro7, lv7, lo7, rv8, ro8, lv8, lo8, rv9, ro9, lv9, lo9, rv10, ro10, lv10, lo10, rv11, ro11, lv11, lo11, rv12, ro12, lv12, lo12, rv13, ro13, lv13, lo13, rv14, ro14, lv14, lo14, rv15, ro15, lv15, lo15, List.set_cons_zero, List.set_cons_succ, d_val, bs, Option.some.injEq, exists_eq_left', List.length_cons, List.length_nil]
    refine ⟨⟨_, rfl⟩, by show 4 ≤ lim; decide, d5, _, _, rfl, if_pos (by omega), _, ?_, ?_, rfl⟩
    · simp only [List.length_append, List.length_cons, List.length_nil]; omega
    · intro d hd
      rcases List.mem_append.mp hd with qd | qd
      · exact g5' d qd
      · rw [List.mem_singleton.mp qd]
        refine gd4 tt (tame_str.mpr tx1) tt tt ?_
        simp only [wtx, wgt_str, tx_size]
        omega
  rintro _ _ ⟨d6, b6, g6, rfl⟩
  have e40 : opD .mul (.str (Str.ofString "1")) (.int 40) = some (.val (.str (tx (rep 40 [true])))) := by
    rw [← tx_1]
    exact op_multx (j := 40) (by decide) (by decide) (by simp)
  have l40 := rep_len [true] 40
  refine p_ret mk (fun v _ => ∃ ds : List D, ds.length ≤ 40 ∧ (∀ d ∈ ds, Gd d) ∧ v = .own ds) ?_ fun v _ ⟨ds, q1, q2, e⟩ => by rw [e]; exact h ds q1 q2
  simp only [En, wE, wEs, rv0, ro0, lv0, lo0, rv1, ro1, lv1, lo1, rv2, ro2, lv2, lo2, rv3, ro3, lv3, lo3, rv4, ro4, lv4, lo4, rv5, ro5, lv5, lo5, rv6, ro6, lv6, lo6, rv7, ro7, lv7, lo7, rv8, ro8, lv8, lo8, rv9, ro9, lv9, lo9, rv10, ro10, lv10, lo10, rv11, ro11, lv11, lo11, rv12, ro12, lv12, lo12, rv13, ro13, lv13, lo13, rv14, ro14, lv14, lo14, rv15, ro15, lv15, lo15, List.set_cons_zero, List.set_cons_succ, d_val, d_own, e40, Option.some.injEq, exists_eq_left', List.length_cons, List.length_nil]
  refine ⟨by show 4 ≤ lim; decide, by show 4 ≤ lim; decide, by show 4 ≤ lim; decide, by show 3 ≤ lim; decide, _, op_addl (by simp only [List.length_cons, List.length_nil]; omega), _, ?_, ?_, rfl⟩
  · simp only [List.length_append, List.length_cons, List.length_nil]; omega
  · intro d hd
    rcases List.mem_append.mp hd with qd | qd
    · exact g6 d qd
    · clear hd; revert d
      simp only [List.forall_mem_cons]
      refine ⟨gd4 tt tame_bl tt tt ?_, gd4 tt (ti (by omega)) tame_non tt ?_, gd4 tt (ti (by omega)) tt tt ?_, by simp⟩ <;> simp only [wtx, wgt_int, wgt_bl, wgt_non, l40, List.length_cons, List.length_nil] <;> omega
theorem c_others_bad {d : D} (hw : wgtR d ≤ 1000000) (hn : ¬ IsShp d) (h : E ⟨"NoShape", []⟩) : Fk (k + 5) i_all_others [d] Q E := by
  refine Fk_at (fd := fd_all_others) rfl rfl ?_
  simp only [fd_all_others, wSs, wS, wE, wEs, rdV, bind0, List.map_cons, List.map_nil, List.cons_append, List.nil_append, List.length_cons, List.length_nil, List.replicate, List.getElem?_cons_zero, d_val, d_own]
  exact ⟨by show 1 ≤ lim; decide, c_need_bad (k := k) hw hn h⟩
theorem c_least_bad {d : D} (hw : wgtR d ≤ 1000000) (hn : ¬ IsShp d) (h : E ⟨"NoShape", []⟩) : Fk (k + 5) i_least_letter [d] Q E := by
  refine Fk_at (fd := fd_least_letter) rfl rfl ?_
  simp only [fd_least_letter, wSs, wS, wE, wEs, rdV, bind0, List.map_cons, List.map_nil, List.cons_append, List.nil_append, List.length_cons, List.length_nil, List.replicate, List.getElem?_cons_zero, d_val, d_own]
  exact ⟨by show 1 ≤ lim; decide, c_need_bad (k := k) hw hn h⟩
theorem c_met0 {d : D} (hw : wgtR d ≤ 1000000) (hn : ¬ IsShp d) (h : Q (.val (.tup [.str "shape"]))) : Fk (k + 6) i__law_met [.int 0, d] Q E := by
  refine Fk_at (fd := fd__law_met) rfl rfl ?_
  have e0 : cmD .eq (.int 0) (.int 0) = some true := by decide +kernel
  simp only [fd__law_met, wSs, wS, wT, wE, wEs, rdV, bind0, List.map_cons, List.map_nil, List.cons_append, List.nil_append, List.length_cons, List.length_nil, List.replicate, List.getElem?_cons_zero, List.getElem?_cons_succ, d_val, e0, tru_bl, Option.some.injEq, exists_eq_left', if_true]
  exact c_others_bad (k := k) hw hn ⟨by decide, _, rfl, h⟩
theorem c_met1 {d : D} (hw : wgtR d ≤ 1000000) (hn : ¬ IsShp d) (h : Q (.val (.tup [.str "shape"]))) : Fk (k + 6) i__law_met [.int 1, d] Q E := by
  refine Fk_at (fd := fd__law_met) rfl rfl ?_
  have e0 : cmD .eq (.int 1) (.int 0) = some false := by decide +kernel
  simp only [fd__law_met, wSs, wS, wT, wE, wEs, rdV, bind0, List.map_cons, List.map_nil, List.cons_append, List.nil_append, List.length_cons, List.length_nil, List.replicate, List.getElem?_cons_zero, List.getElem?_cons_succ, d_val, e0, tru_bl, Option.some.injEq, exists_eq_left', Bool.false_eq_true, if_false]
  exact c_least_bad (k := k) hw hn ⟨by decide, _, rfl, h⟩
end
end K12
set_option maxHeartbeats 3900000
namespace K12
open PySem PL
abbrev Ev (ns : List Int) (k p s t u a d e : Option R) : PL.Env := [some (.val (.scr ns)), k, p, s, t, u, a, d, e]
abbrev pot0 : Option R := some (.val .pot)
def J3 (ns : List Int) (r : PL.Env) : Prop := ∃ k p s t u a d e : Option R, r = Ev ns k p s t u a d e
theorem repr_gd {d : D} (h : Gd d) : biRepr [d] = some (.val (.str (shw d))) := repr_tame (B := 100000001000) (by decide) h.1 (by decide) (Nat.le_trans h.2 (by decide))
theorem repr_b (b : Bool) : biRepr [.bl b] = some (.val (.str (shw (.bl b)))) := (repr_ok (n := 1) rfl (by decide) rfl (by cases b <;> decide)).1
theorem bi_rep {x : D} : biD .repr [x] = biRepr [x] := rfl
theorem rp_at {i : Nat} {r : PL.Env} {Q : R → PL.Env → Prop} {d : D} (h : r[i]? = some (some (.val d))) : rpV i r Q = ∃ x, biRepr [d] = some x ∧ Q x r := by unfold rpV; rw [h]; rfl
theorem two_shapes : opD .mul (.lst [.tup [.str (Str.ofString "shape")]]) (.int 2) = some (.own [.tup [.str (Str.ofString "shape")], .tup [.str (Str.ofString "shape")]]) := by
  show (if [D.tup [.str (Str.ofString "shape")]].length ≤ 4096 ∧ (0 : Int) ≤ 2 ∧ (2 : Int) ≤ 1000 then some (R.own (List.replicate (2 : Int).toNat [D.tup [.str (Str.ofString "shape")]]).flatten) else none) = _
  rw [if_pos ⟨by simp, by decide, by decide⟩]
  rfl
theorem gd_sh {x : Sh} (c : Canon x) (h1 : -300 ≤ x.low) (h2 : x.e ≤ 300) : tameE 1000 1 (encS x) = true ∧ wgtR (encS x) ≤ 1000 := by
  have he : x.e = x.low + x.m.length := rfl
  have l1 := c.hl.le
  have r1 := c.hr.le
  unfold encS
  refine ⟨tame_tup.mpr (by simp only [List.forall_mem_cons]; exact ⟨tt, tame_int.mpr (by omega), tt, tt, by simp⟩), ?_⟩
  rw [wgt_tup, wgts_cons, wgts_cons, wgts_cons, wgts_cons, wgts_nil, wtx, wtx, wtx, wgt_int]
  omega
theorem c_law {ns : List Int} : Fk 20 i_law [.scr ns] (fun z => z = .val (.bl true)) fun _ => False := by
  have hlim : lim = 16777216 := rfl
  have hob : oddB = 100000000001 := rfl
  refine Fk_at (fd := fd_law) rfl rfl (p_for mk (fun ds r1 => (∀ d ∈ ds, ∃ j : Int, 0 ≤ j ∧ d = .int j) ∧ J3 ns r1) (J3 ns) ?_ (fun ds r1 h => h.2) (fun ds r0 hds x hx r1 hr1 k1 hk1 => ?_) fun r1 hr1 => ?_)
  · exact c_turns (by decide) rfl fun ds hd => ⟨hd, _, _, _, _, _, _, _, _, rfl⟩
  · obtain ⟨q, hq, rfl⟩ := hds.1 x hx
    obtain ⟨k, p, s, t, u, a, d, e, rfl⟩ := hr1
    refine ⟨Nat.le_of_ble_eq_true rfl, p_asg mk (fun v r1 => v = .val .pot ∧ r1 = Ev ns (some (.val (.int q))) p s t u a d e) ?_ ?_⟩
    · simp only [Ev, wSs, wS, wE, wEs, wT, wTs, wG, wGs, wI, wO, rdV, bind0, d_val, d_own, tru_bl, tru_non, tru_int, tru_lst, tru_tup, ix_l, ix_t, at_0, at_1, at_2, op_add, op_sub, op_mod, op_div, cm_lt, cm_le, cm_gt, cm_ge, List.map_cons, List.map_nil, List.cons_append, List.nil_append, List.length_cons, List.length_nil, List.replicate, List.append_nil, List.set_cons_zero, List.set_cons_succ, List.getElem?_cons_zero, List.getElem?_cons_succ, Option.some.injEq, exists_eq_left', true_and, and_true, if_true, if_false, Bool.false_eq_true, R.val.injEq, D.int.injEq, Nat.zero_add, Nat.reduceAdd, Nat.reduceSub, Nat.reduceLT, Nat.reduceLeDiff, Nat.reduceEqDiff, Bool.not_true, Bool.not_false, Bool.and_true, Bool.true_and, Bool.and_false, Bool.false_and, Int.reduceLT, Int.reduceLE, Int.reduceNeg, Int.reducePow, Int.reduceToNat, Int.reduceMul, Int.reduceSub, Int.reduceAdd, lnV, len_l, len_t, len_sc, bi_ln, bi_abs, bi_max, bi_min, bi_listl, bi_listt, bi_tupl, bi_tupt, bi_intb, bi_inti, bi_all, sl_l, sl_t, cm_is, cm_isnot, is_non, is_bl, cm_eqi, cm_nei, cm_eqs, cm_nes, isTy, Option.map_some, p9, p10, p11, p18, wipeR, backR, List.getD_cons_zero, List.getD_cons_succ]
      refine c_cell hq fun n => ?_
      simp only [wSs, wS, wE, wEs, wT, wTs, wG, wGs, wI, wO, rdV, bind0, d_val, d_own, tru_bl, tru_non, tru_int, tru_lst, tru_tup, ix_l, ix_t, at_0, at_1, at_2, op_add, op_sub, op_mod, op_div, cm_lt, cm_le, cm_gt, cm_ge, List.map_cons, List.map_nil, List.cons_append, List.nil_append, List.length_cons, List.length_nil, List.replicate, List.append_nil, List.set_cons_zero, List.set_cons_succ, List.getElem?_cons_zero, List.getElem?_cons_succ, Option.some.injEq, exists_eq_left', true_and, and_true, if_true, if_false, Bool.false_eq_true, R.val.injEq, D.int.injEq, Nat.zero_add, Nat.reduceAdd, Nat.reduceSub, Nat.reduceLT, Nat.reduceLeDiff, Nat.reduceEqDiff, Bool.not_true, Bool.not_false, Bool.and_true, Bool.true_and, Bool.and_false, Bool.false_and, Int.reduceLT, Int.reduceLE, Int.reduceNeg, Int.reducePow, Int.reduceToNat, Int.reduceMul, Int.reduceSub, Int.reduceAdd, lnV, len_l, len_t, len_sc, bi_ln, bi_abs, bi_max, bi_min, bi_listl, bi_listt, bi_tupl, bi_tupt, bi_intb, bi_inti, bi_all, sl_l, sl_t, cm_is, cm_isnot, is_non, is_bl, cm_eqi, cm_nei, cm_eqs, cm_nes, isTy, Option.map_some, p9, p10, p11, p18, wipeR, backR, List.getD_cons_zero, List.getD_cons_succ]
      exact c_pot fun m hm => ⟨m, rfl, hm⟩
    rintro _ _ ⟨rfl, rfl⟩
    refine ⟨Nat.le_of_ble_eq_true rfl, p_asg mk (fun v r1 => ∃ x : Sh, Canon x ∧ -300 ≤ x.low ∧ x.e ≤ 300 ∧ v = .val (encS x) ∧ r1 = Ev ns (some (.val (.int q))) pot0 s t u a d e) ?_ ?_⟩
    · simp only [Ev, wE, wEs, rv0, ro0, lv0, lo0, rv1, ro1, lv1, lo1, rv2, ro2, lv2, lo2, rv3, ro3, lv3, lo3, rv4, ro4, lv4, lo4, rv5, ro5, lv5, lo5, rv6, ro6, lv6, lo6, rv7, ro7, lv7, lo7, rv8, ro8, lv8, lo8, rv9, ro9, lv9, lo9, rv10, ro10, lv10, lo10, rv11, ro11, lv11, lo11, rv12, ro12, lv12, lo12, rv13, ro13, lv13, lo13, rv14, ro14, lv14, lo14, rv15, ro15, lv15, lo15, List.set_cons_zero, List.set_cons_succ, d_val]
      refine c_drawn (k := 18) (by decide) fun s1 a1 a2 a3 => ?_
      simp only [d_val]
      refine c_law_signs (k := 18) a1 (by omega) ?_
      simp only [d_val]
      exact c_law_shape (k := 17) (reg_mean a1) fun x x1 x2 x3 x4 => ⟨x, x1, x3, x4, rfl, by first | rfl | trivial⟩
    rintro _ _ ⟨x, xc, x1, x2, rfl, rfl⟩
    obtain ⟨xt, xw⟩ := gd_sh xc x1 x2
    refine ⟨Nat.le_of_ble_eq_true rfl, p_asg mk (fun v r1 => ∃ ds : List D, ds.length ≤ 44 ∧ (∀ d ∈ ds, Gd d) ∧ v = .own ds ∧ r1 = Ev ns (some (.val (.int q))) pot0 (some (.val (encS x))) t u a d e) ?_ ?_⟩
    · simp only [Ev, wE, wEs, rv0, ro0, lv0, lo0, rv1, ro1, lv1, lo1, rv2, ro2, lv2, lo2, rv3, ro3, lv3, lo3, rv4, ro4, lv4, lo4, rv5, ro5, lv5, lo5, rv6, ro6, lv6, lo6, rv7, ro7, lv7, lo7, rv8, ro8, lv8, lo8, rv9, ro9, lv9, lo9, rv10, ro10, lv10, lo10, rv11, ro11, lv11, lo11, rv12, ro12, lv12, lo12, rv13, ro13, lv13, lo13, rv14, ro14, lv14, lo14, rv15, ro15, lv15, lo15, List.set_cons_zero, List.set_cons_succ, d_val]
      refine c_odd (k := 17) fun o o1 o2 => ?_
      simp only [d_val, d_own]
      refine ⟨by show 4 ≤ lim; decide, c_near (k := 18) xc x1 x2 fun ns' n1 n2 => ?_⟩
      simp only [d_own]
      refine ⟨_, op_addl (by simp only [List.length_cons, List.length_nil]; omega), _, ?_, ?_, by first | rfl | trivial, by first | rfl | trivial⟩
      · simp only [List.length_append, List.length_cons, List.length_nil]; omega
      · intro dd hd
        rcases List.mem_append.mp hd with qd | qd
        · simp only [List.mem_cons, List.not_mem_nil, or_false] at qd
          rcases qd with rfl | rfl | rfl | rfl
          · exact ⟨tame_up (by decide) (by decide) xt, by omega⟩
          · exact ⟨tame_up (by rw [hob]; decide) (by decide) o1, by omega⟩
          · exact ⟨tame_non, by rw [wgt_non]; decide⟩
          · exact ⟨tame_str.mpr (by decide +kernel), by decide +kernel⟩
        · exact n2 dd qd
    rintro _ _ ⟨ds0, b0, g0, rfl, rfl⟩
    refine ⟨Nat.le_of_ble_eq_true rfl, p_fo mk (fun ds r1 => ds = rngD 0 14 ∧ r1 = Ev ns (some (.val (.int q))) pot0 (some (.val (encS x))) (some (.own ds0)) u a d e) ?_ ?_⟩
    · simp only [Ev, wI, wE, d_val, D.int.injEq, exists_eq_left', List.set_cons_zero, List.set_cons_succ]
      and_intros <;> first | rfl | trivial | decide
    rintro _ _ ⟨rfl, rfl⟩
    refine loop_rng (fun j r => ∃ (ds : List D) (u : Option R), (ds.length : Int) ≤ 44 + 2 * j ∧ (∀ d ∈ ds, Gd d) ∧ r = Ev ns (some (.val (.int q))) pot0 (some (.val (encS x))) (some (.own ds)) u a d e) ⟨ds0, u, by omega, g0, rfl⟩ ?_ ?_
    · rintro j r kk j1 j2 ⟨ds, u, b1, g1, rfl⟩ hkk
      refine ⟨Nat.le_of_ble_eq_true rfl, p_asg mk (fun v r1 => ∃ ds' : List D, (ds'.length : Int) ≤ 44 + 2 * (j + 1) ∧ (∀ d ∈ ds', Gd d) ∧ v = .own ds' ∧ ∃ z, r1 = Ev ns (some (.val (.int q))) pot0 (some (.val (encS x))) z (some (.val (.int j))) a d e) ?_ ?_⟩
      · simp only [Ev, wE, wEs, rv0, ro0, lv0, lo0, rv1, ro1, lv1, lo1, rv2, ro2, lv2, lo2, rv3, ro3, lv3, lo3, rv4, ro4, lv4, lo4, rv5, ro5, lv5, lo5, rv6, ro6, lv6, lo6, rv7, ro7, lv7, lo7, rv8, ro8, lv8, lo8, rv9, ro9, lv9, lo9, rv10, ro10, lv10, lo10, rv11, ro11, lv11, lo11, rv12, ro12, lv12, lo12, rv13, ro13, lv13, lo13, rv14, ro14, lv14, lo14, rv15, ro15, lv15, lo15, List.set_cons_zero, List.set_cons_succ, d_val, d_own]
        refine c_bent (m := 1) (k := 19) (B := 1000) (N := 1) (W := 1000) (by decide) xt xw (by decide) fun e1 t1 w1 => ?_
        simp only [d_val]
        refine c_bent (m := 1) (k := 19) (B := 1000) (N := 1) (W := 1000) (by decide) xt xw (by decide) fun e2 t2 w2 => ?_
        simp only [d_val]
        refine c_bent (m := 1) (k := 19) (by decide) t2 w2 (by decide) fun e3 t3 w3 => ?_
        simp only [d_val, d_own, List.length_cons, List.length_nil]
        refine ⟨by show 2 ≤ lim; decide, _, op_addl (by simp only [List.length_cons, List.length_nil]; omega), _, ?_, ?_, by first | rfl | trivial, _, by first | rfl | trivial⟩
        · simp only [List.length_append, List.length_cons, List.length_nil]; omega
        · intro dd hd
          rcases List.mem_append.mp hd with qd | qd
          · exact g1 dd qd
          · simp only [List.mem_cons, List.not_mem_nil, or_false] at qd
            rcases qd with rfl | rfl
            · exact ⟨tame_up (by rw [hob]; decide) (by decide) t1, by omega⟩
            · exact ⟨tame_up (by rw [hob]; decide) (by decide) t3, by omega⟩
      rintro _ _ ⟨ds', b2, g2, rfl, z, rfl⟩
      exact ⟨Nat.le_of_ble_eq_true rfl, p_nil (hkk _ ⟨ds', _, b2, g2, rfl⟩)⟩
    · rintro r ⟨ds, u, b1, g1, rfl⟩
      refine p_for mk (fun dd r1 => dd = ds ∧ ∃ a d e, r1 = Ev ns (some (.val (.int q))) pot0 (some (.val (encS x))) (some (.val (.lst ds))) u a d e) (fun r1 => ∃ a d e, r1 = Ev ns (some (.val (.int q))) pot0 (some (.val (encS x))) (some (.val (.lst ds))) u a d e) ?_ (fun dd r1 h => h.2) (fun dd r0 hdd y hy r1 hr1 k3 hk3 => ?_) fun r1 hr1 => ?_
      · simp only [Ev, wI, wE, rv0, ro0, lv0, lo0, rv1, ro1, lv1, lo1, rv2, ro2, lv2, lo2, rv3, ro3, lv3, lo3, rv4, ro4, lv4, lo4, rv5, ro5, lv5, lo5, rv6, ro6, lv6, lo6, rv7, ro7, lv7, lo7, rv8, ro8, lv8, lo8, rv9, ro9, lv9, lo9, rv10, ro10, lv10, lo10, rv11, ro11, lv11, lo11, rv12, ro12, lv12, lo12, rv13, ro13, lv13, lo13, rv14, ro14, lv14, lo14, rv15, ro15, lv15, lo15, d_val]
        exact ⟨by first | rfl | trivial, _, _, _, rfl⟩
      · obtain ⟨rfl, _⟩ := hdd
        obtain ⟨a, d, e, rfl⟩ := hr1
        have gy := g1 y hy
        have wy : wgtR y ≤ 1000000 := Nat.le_trans gy.2 (by decide)
        have ry := repr_gd gy
        refine ⟨Nat.le_of_ble_eq_true rfl, p_par2 mk (Q := fun zs r1 => zs = [.bl (prB (IsShp y)), .str (shw y)] ∧ r1 = Ev ns (some (.val (.int q))) pot0 (some (.val (encS x))) (some (.val (.lst dd))) u (some (.val y)) d e) ?_ ?_⟩
        · simp only [Ev, wE, wEs, rv0, ro0, lv0, lo0, rv1, ro1, lv1, lo1, rv2, ro2, lv2, lo2, rv3, ro3, lv3, lo3, rv4, ro4, lv4, lo4, rv5, ro5, lv5, lo5, rv6, ro6, lv6, lo6, rv7, ro7, lv7, lo7, rv8, ro8, lv8, lo8, rv9, ro9, lv9, lo9, rv10, ro10, lv10, lo10, rv11, ro11, lv11, lo11, rv12, ro12, lv12, lo12, rv13, ro13, lv13, lo13, rv14, ro14, lv14, lo14, rv15, ro15, lv15, lo15, List.set_cons_zero, List.set_cons_succ, d_val]
          refine c_law_is_shape (k := 17) wy ?_
          rw [rp_at rfl]
          exact ⟨_, ry, rfl, by first | rfl | trivial⟩
        rintro _ _ ⟨rfl, rfl⟩
        refine ⟨_, _, rfl, ?_⟩
        show wSs prI.P (Fk 19) _ (Ev ns (some (.val (.int q))) pot0 (some (.val (encS x))) (some (.val (.lst dd))) u (some (.val y)) (some (.val (.bl (prB (IsShp y))))) (some (.val (.str (shw y))))) _
        refine p_skip mk (q_or (r' := Ev ns (some (.val (.int q))) pot0 (some (.val (encS x))) (some (.val (.lst dd))) u (some (.val y)) (some (.val (.bl (prB (IsShp y))))) (some (.val (.str (shw y))))) mk ?_ (k := false) (r'' := Ev ns (some (.val (.int q))) pot0 (some (.val (encS x))) (some (.val (.lst dd))) u (some (.val y)) (some (.val (.bl (prB (IsShp y))))) (some (.val (.str (shw y))))) ?_) ?_
        · simp only [Ev, wT, wE, wEs, rv0, ro0, lv0, lo0, rv1, ro1, lv1, lo1, rv2, ro2, lv2, lo2, rv3, ro3, lv3, lo3, rv4, ro4, lv4, lo4, rv5, ro5, lv5, lo5, rv6, ro6, lv6, lo6, rv7, ro7, lv7, lo7, rv8, ro8, lv8, lo8, rv9, ro9, lv9, lo9, rv10, ro10, lv10, lo10, rv11, ro11, lv11, lo11, rv12, ro12, lv12, lo12, rv13, ro13, lv13, lo13, rv14, ro14, lv14, lo14, rv15, ro15, lv15, lo15, d_val]
          refine c_is_shape_any (k := 16) wy ?_
          simp only [d_val, bi_rep, repr_b, Option.some.injEq, exists_eq_left']
          rw [rp_at rfl]
          simp only [repr_b, d_val, Option.some.injEq, exists_eq_left', cm_nes, decide_true, Bool.not_true, tru_bl]
          and_intros <;> first | rfl | trivial
        · simp only [Ev, wT, wE, rv0, ro0, lv0, lo0, rv1, ro1, lv1, lo1, rv2, ro2, lv2, lo2, rv3, ro3, lv3, lo3, rv4, ro4, lv4, lo4, rv5, ro5, lv5, lo5, rv6, ro6, lv6, lo6, rv7, ro7, lv7, lo7, rv8, ro8, lv8, lo8, rv9, ro9, lv9, lo9, rv10, ro10, lv10, lo10, rv11, ro11, lv11, lo11, rv12, ro12, lv12, lo12, rv13, ro13, lv13, lo13, rv14, ro14, lv14, lo14, rv15, ro15, lv15, lo15, d_val]
          rw [rp_at rfl]
          simp only [ry, rv0, ro0, lv0, lo0, rv1, ro1, lv1, lo1, rv2, ro2, lv2, lo2, rv3, ro3, lv3, lo3, rv4, ro4, lv4, lo4, rv5, ro5, lv5, lo5, rv6, ro6, lv6, lo6, rv7, ro7, lv7, lo7, rv8, ro8, lv8, lo8, rv9, ro9, lv9, lo9, rv10, ro10, lv10, lo10, rv11, ro11, lv11, lo11, rv12, ro12, lv12, lo12, rv13, ro13, lv13, lo13, rv14, ro14, lv14, lo14, rv15, ro15, lv15, lo15, d_val, Option.some.injEq, exists_eq_left', cm_nes, decide_true, Bool.not_true, tru_bl]
          and_intros <;> first | rfl | trivial
        · cases hb : prB (IsShp y) with
          | true =>
            refine p_skip mk (q_andf (r' := Ev ns (some (.val (.int q))) pot0 (some (.val (encS x))) (some (.val (.lst dd))) u (some (.val y)) (some (.val (.bl true))) (some (.val (.str (shw y))))) mk ?_) (p_nil (hk3 _ ⟨_, _, _, rfl⟩))
            simp only [Ev, wT, wE, rv0, ro0, lv0, lo0, rv1, ro1, lv1, lo1, rv2, ro2, lv2, lo2, rv3, ro3, lv3, lo3, rv4, ro4, lv4, lo4, rv5, ro5, lv5, lo5, rv6, ro6, lv6, lo6, rv7, ro7, lv7, lo7, rv8, ro8, lv8, lo8, rv9, ro9, lv9, lo9, rv10, ro10, lv10, lo10, rv11, ro11, lv11, lo11, rv12, ro12, lv12, lo12, rv13, ro13, lv13, lo13, rv14, ro14, lv14, lo14, rv15, ro15, lv15, lo15, d_val, tru_bl, Option.some.injEq, exists_eq_left', Bool.not_true]
            and_intros <;> first | rfl | trivial
          | false =>
            have hn := not_prB hb
            refine p_skip mk (q_and (r' := Ev ns (some (.val (.int q))) pot0 (some (.val (encS x))) (some (.val (.lst dd))) u (some (.val y)) (some (.val (.bl false))) (some (.val (.str (shw y))))) (r'' := Ev ns (some (.val (.int q))) pot0 (some (.val (encS x))) (some (.val (.lst dd))) u (some (.val y)) (some (.val (.bl false))) (some (.val (.str (shw y))))) (k := false) mk ?_ ?_) (p_nil (hk3 _ ⟨_, _, _, rfl⟩))
            · simp only [Ev, wT, wE, rv0, ro0, lv0, lo0, rv1, ro1, lv1, lo1, rv2, ro2, lv2, lo2, rv3, ro3, lv3, lo3, rv4, ro4, lv4, lo4, rv5, ro5, lv5, lo5, rv6, ro6, lv6, lo6, rv7, ro7, lv7, lo7, rv8, ro8, lv8, lo8, rv9, ro9, lv9, lo9, rv10, ro10, lv10, lo10, rv11, ro11, lv11, lo11, rv12, ro12, lv12, lo12, rv13, ro13, lv13, lo13, rv14, ro14, lv14, lo14, rv15, ro15, lv15, lo15, d_val, tru_bl, Option.some.injEq, exists_eq_left', Bool.not_false]
              and_intros <;> first | rfl | trivial
            · simp only [Ev, wT, wE, wEs, rv0, ro0, lv0, lo0, rv1, ro1, lv1, lo1, rv2, ro2, lv2, lo2, rv3, ro3, lv3, lo3, rv4, ro4, lv4, lo4, rv5, ro5, lv5, lo5, rv6, ro6, lv6, lo6, rv7, ro7, lv7, lo7, rv8, ro8, lv8, lo8, rv9, ro9, lv9, lo9, rv10, ro10, lv10, lo10, rv11, ro11, lv11, lo11, rv12, ro12, lv12, lo12, rv13, ro13, lv13, lo13, rv14, ro14, lv14, lo14, rv15, ro15, lv15, lo15, d_val]
              refine c_met0 (k := 13) wy hn ?_
              simp only [d_val]
              refine c_met1 (k := 13) wy hn ?_
              simp only [d_val, d_own, two_shapes, List.length_cons, List.length_nil, Option.some.injEq, exists_eq_left']
              refine ⟨by show 2 ≤ lim; decide, by show 1 ≤ lim; decide, by show 1 ≤ lim; decide, false, cm_neS (okE_fit (n := 2) (by decide +kernel) (by decide)), false, rfl, rfl, by first | rfl | trivial⟩
      · obtain ⟨a, d, e, rfl⟩ := hr1
        exact p_nil (hk1 _ ⟨_, _, _, _, _, _, _, _, rfl⟩)
  · refine p_retb mk ?_ rfl
    simp only [wSs, wS, wE, wEs, wT, wTs, wG, wGs, wI, wO, rdV, bind0, d_val, d_own, tru_bl, tru_non, tru_int, tru_lst, tru_tup, ix_l, ix_t, at_0, at_1, at_2, op_add, op_sub, op_mod, op_div, cm_lt, cm_le, cm_gt, cm_ge, List.map_cons, List.map_nil, List.cons_append, List.nil_append, List.length_cons, List.length_nil, List.replicate, List.append_nil, List.set_cons_zero, List.set_cons_succ, List.getElem?_cons_zero, List.getElem?_cons_succ, Option.some.injEq, exists_eq_left', true_and, and_true, if_true, if_false, Bool.false_eq_true, R.val.injEq, D.int.injEq, Nat.zero_add, Nat.reduceAdd, Nat.reduceSub, Nat.reduceLT, Nat.reduceLeDiff, Nat.reduceEqDiff, Bool.not_true, Bool.not_false, Bool.and_true, Bool.true_and, Bool.and_false, Bool.false_and, Int.reduceLT, Int.reduceLE, Int.reduceNeg, Int.reducePow, Int.reduceToNat, Int.reduceMul, Int.reduceSub, Int.reduceAdd, lnV, len_l, len_t, len_sc, bi_ln, bi_abs, bi_max, bi_min, bi_listl, bi_listt, bi_tupl, bi_tupt, bi_intb, bi_inti, bi_all, sl_l, sl_t, cm_is, cm_isnot, is_non, is_bl, cm_eqi, cm_nei, cm_eqs, cm_nes, isTy, Option.map_some, p9, p10, p11, p18, wipeR, backR, List.getD_cons_zero, List.getD_cons_succ]
end K12
set_option maxHeartbeats 0
open PySem PySem.W PySem.Calls PyProof.Rows
theorem PySem.Challenge.cw_sayarrows_k12_shapes_known_holds : PySem.Challenge.rw_sayarrows_k12_shapes_known.Holds := by
  w_on; o_law
  refine HandSHeadRun.head_any (q := PySem.W.view K12.rowL.prog [64]) (H := K12.hkL) (ob := K12.obL) (M := 30000) (loose := K12.looseL) (d := HandSHeadRun.topDef K12.rowL.prog 64) (kwd := []) K12.ob_eq
    (by kernel_rfl) (fun s => by kernel_rfl) K12.runL (by kernel_rfl) (by kernel_rfl) (by kernel_rfl) (by rfl) (by first | assumption | decide +kernel) (by decide +kernel) ⟨rfl, rfl, rfl, rfl, rfl, by decide +kernel⟩ ?hw ?hc
  case hw => w_witness2
  case hc =>
    refine PL.walk_G (l := PySem.Challenge.rw_sayarrows_k12_shapes_known) (n := 63) (k := 3 * 20 + 3) (x := PySem.Str.ofString "_law_script") rfl (by decide) (by kernel_rfl) ⟨rfl, by decide, by decide⟩ ?_
    intro w mg fa h Y G hmg0
    obtain ⟨K, KX, c⟩ := Y
    have hmg : mg (PySem.Str.ofString "law") = some (.ref fa) := by
      have e : (HandSHeadRun.topDef K12.rowL.prog 64).name = PySem.Str.ofString "law" := by kernel_rfl
      rw [← e]
      exact hmg0
    have hga : mg (PySem.Str.ofString "law") = some (.ref (He.ga K (PySem.Str.ofString "law"))) := He.glo_ok KX G (c.t.d.facts (f := .glo (PySem.Str.ofString "law")) K12.lawIn)
    have e := hmg.symm.trans hga
    cases e
    obtain ⟨fd, sp, h1, h2, h3⟩ := K12.endL (P := (PySem.Challenge.rw_sayarrows_k12_shapes_known).prog) (w := w) (k := 20) (m := 63) KX G c fun ns _ => K12.c_law
    exact ⟨K, fd, sp, KX, h1, h2, h3⟩

