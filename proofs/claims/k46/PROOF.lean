import PyProof.Rows.All
import Wide.All
import OpenK.AllK
import Wide.FinOn
import HandS.ForMost
import HandS.NoneIn
import HandS.TupMul
import HandS.Flow
import HandS.Star
import HandS.Conv
import HandS.TupAny
import HandS.Walk
import HandS.Style
import HandS.Wide
import HandS.Dict
import HandS.Deep
import HandS.SortInts
import HandS.IsInst
import PyProof.WalksMore
import HandS.NamedTupSort
import HandS.DictTup
import KE.KDictCopyH
import HandS.TupLen
import KE.GoesEnum
import KE.GoesZip
import KE.GoesMore
import KE.KDictKeyed
import HandS.DictComp
import HandS.HeadHook1
import HandS.Defaults
import HandS.HeadHook2
import HandS.Words
import HandS.Ends
import PyProof.ReprLen
import HandS.HeadEnd
import HandS.Head0
import HandS.Head1
import HandS.Head2
import HandS.More
import HandS.WordsDict
import PySem.Challenge.RW_signedplanes_k46_whole_broken_rounds
set_option Elab.async false
set_option linter.all false
set_option maxRecDepth 100000
set_option maxHeartbeats 0
/-! Fz: a small language over plain data, and its value. A program's text is laid over it by a look; see the later parts. -/
namespace Fz
open PySem

abbrev D := PyData
abbrev En := List (Option D)

/-- the law's source: what is left of the cells (the next one first), the present one, the number mixed, how often -/
structure Src where
  cells : List Int
  left : Int
  mixed : Int
  turn : Int

inductive O2 where
  | add | sub | mul | fdiv | mod | pow
  deriving DecidableEq
inductive Cm where
  | eq | ne | lt | le | gt | ge | isin | notin | isN | notN
  deriving DecidableEq
inductive Bi where
  | len | abs | tuple | list | int | bool | sum | any | all | max | min | repr | sorted
  deriving DecidableEq
inductive Mt where
  | index | count
  deriving DecidableEq
inductive Ty where
  | int | bool | str | list | tuple | dict
  deriving DecidableEq
inductive Tg where
  | name (i : Nat)
  | tup (ts : List Tg)

inductive E where
  | non
  | bl (b : Bool)
  | int (i : Int)
  | str (s : Str)
  | var (i : Nat)
  | op (o : O2) (a b : E)
  | neg (a : E)
  | not (a : E)
  | and (a b : E)
  | or (a b : E)
  | ite (c a b : E)
  | cmp (o : Cm) (a b : E)
  | chain (o1 o2 : Cm) (a b c : E)
  | tup (es : List E)
  | lst (es : List E)
  | star (a : E)
  | idx (a b : E)
  | slc (a : E) (lo hi : Option E)
  | rev (a : E)
  | call (f : Nat) (args : List E)
  | pick (a b : E)
  | bi (b : Bi) (args : List E)
  | meth (m : Mt) (a b : E)
  | isi (a : E) (tys : List Ty)
  | rng (args : List E)
  | enum (a : E)
  | zip (a b : E) (strict : Bool)
  | comp (t : Tg) (it : E) (ifs : Option E) (elt : E)
  | comp2 (t : Tg) (it : E) (t2 : Tg) (it2 : E) (elt : E)
  | dps (a : E)
  | dzip (a b : E) (strict : Bool)
  | dcp (t : Tg) (it : E) (ifs : Option E) (k w : E)
  | dget (a k x : E)
  | dnew
  | disp (ps : List E)
  | keys (a : E)
  | read (f : Nat) (a b : E)

inductive S where
  | asg (t : Tg) (e : E)
  | new (i : Nat) (e : E)
  | par (is : List Nat) (es : List E)
  | parN (is : List Nat) (ns : List Bool) (es : List E)
  | app (i : Nat) (e : E)
  | ext (i : Nat) (e : E)
  | pop (t : Tg) (j : Nat) (k : Option E)
  | set (i : Nat) (k e : E)
  | newD (i : Nat) (e : E)
  | dset (i : Nat) (k e : E)
  | aug (i : Nat) (o : O2) (e : E)
  | ret (e : E)
  | ite (c : E) (a b : List S)
  | for_ (t : Tg) (it : E) (body : List S)
  | whl (c : E) (body : List S)
  | pass
  | mix (j i lap : Nat)

abbrev M (α : Type) := Src → Option (α × Src)
abbrev Cl := Nat → List D → M D

/-! ### values -/
def small (n : Nat) : Bool := decide (n ≤ 16000000)
def seqOf : D → Option (List D)
  | .list xs => some xs
  | .tuple xs => some xs
  | _ => none
def truth : D → Option Bool
  | .none => some false
  | .bool b => some b
  | .int i => some (i != 0)
  | .str s => if small s.length then some ((s.length : Int) != 0) else none
  | .list xs => some (!xs.isEmpty)
  | .tuple xs => some (!xs.isEmpty)
  | .dict _ => none
def intsOf : List D → Option (List Int)
  | [] => some []
  | .int i :: r => (intsOf r).map (i :: ·)
  | _ :: _ => none
/-- the truth of bools and ints -/
def trsOf : List D → Option (List Bool)
  | [] => some []
  | .bool b :: r => (trsOf r).map (b :: ·)
  | .int i :: r => (trsOf r).map ((i != 0) :: ·)
  | _ :: _ => none
def blsOf : List D → Option (List Bool)
  | [] => some []
  | .bool b :: r => (blsOf r).map (b :: ·)
  | _ :: _ => none
/-- the bits that a product, a divisor may have -/
def mulOk (i j : Int) : Bool := decide (i.natAbs.log2 + j.natAbs.log2 < 900000)
def divOk (j : Int) : Bool := decide (j ≠ 0) && decide (j.natAbs.log2 < 8000)

def op2 : O2 → D → D → Option D
  | .add, .int i, .int j => some (.int (i + j))
  | .add, .list a, .list b => if small (a.length + b.length) then some (.list (a ++ b)) else none
  | .add, .tuple a, .tuple b => if small (a.length + b.length) then some (.tuple (a ++ b)) else none
  | .sub, .int i, .int j => some (.int (i - j))
  | .mul, .int i, .int j => if mulOk i j then some (.int (i * j)) else none
  | .mul, .list a, .int k => if decide (k < 2 ^ 20) && decide (-(2 ^ 20) < k) && small (a.length * k.toNat) then some (.list (List.replicate k.toNat a).flatten) else none
  | .mul, .tuple a, .int k => if decide (1 ≤ k) && decide (k ≤ 1000) && decide (a.length ≤ 1000) && !a.isEmpty then some (.tuple (List.replicate k.toNat a).flatten) else none
  | .fdiv, .int i, .int j => if divOk j then some (.int (i.fdiv j)) else none
  | .mod, .int i, .int j => if decide (j ≠ 0) then some (.int (i.fmod j)) else none
  | .pow, .int i, .int j => if decide (0 ≤ j) && decide (j ≤ 1000000) && decide (i.natAbs < 2 ^ 64) then some (.int (i ^ j.toNat)) else none
  | _, _, _ => none

/-! dicts: keys are ints, or tuples of ints -/
def sameK : D → D → Bool
  | .int i, .int j => decide (i = j)
  | .tuple a, .tuple b => match intsOf a, intsOf b with
    | some x, some y => decide (x = y)
    | _, _ => false
  | _, _ => false
def isIK : D → Bool
  | .int _ => true
  | _ => false
def isTK : D → Bool
  | .tuple a => (intsOf a).isSome
  | _ => false
def atD (kvs : List (D × D)) (k : D) : Option D := (kvs.find? fun p => sameK p.1 k).map (·.2)
def hasD (kvs : List (D × D)) (k : D) : Bool := kvs.any fun p => sameK p.1 k
def putD (kvs : List (D × D)) (k v : D) : List (D × D) := if hasD kvs k then kvs.map fun p => if sameK p.1 k then (p.1, v) else p else kvs ++ [(k, v)]
def mergeD (ps : List (D × D)) : List (D × D) := ps.foldl (fun acc p => putD acc p.1 p.2) []
/-- a key that is like the dict's keys -/
def likeK (kvs : List (D × D)) (k : D) : Bool := match kvs with
  | [] => isIK k || isTK k
  | p :: _ => (isIK p.1 && isIK k) || (isTK p.1 && isTK k)
def dictOf (ps : List (D × D)) : Option D := if (ps.all (fun p => isIK p.1) || ps.all (fun p => isTK p.1)) && small ps.length then some (.dict (mergeD ps)) else none
def dictT (ps : List (D × D)) : Option D := if ps.all (fun p => isTK p.1) && small ps.length then some (.dict (mergeD ps)) else none
/-- keys and values by turns -/
def twosOf : List D → Option (List (D × D))
  | [] => some []
  | k :: v :: r => (twosOf r).map ((k, v) :: ·)
  | [_] => none
/-- all keys are ints, or all are tuples of ints -/
def keysOk (kvs : List (D × D)) : Bool := kvs.all (fun p => isIK p.1) || kvs.all (fun p => isTK p.1)
def pairsOf : List D → Option (List (D × D))
  | [] => some []
  | .tuple [k, v] :: r => (pairsOf r).map ((k, v) :: ·)
  | _ :: _ => none
/-- data whose equality the rules tell -/
def okD (d : D) : Bool := SeqAt.shaped d
def memD (d : D) (xs : List D) : Bool := xs.any fun z => PyData.eqv z d
def isNonD : D → Bool
  | .none => true
  | _ => false
def cmp2 : Cm → D → D → Option Bool
  | .eq, .str a, .str b => some (decide (a = b))
  | .ne, .str a, .str b => some (!decide (a = b))
  | .eq, a, b => if okD a && okD b then some (PyData.eqv a b) else none
  | .ne, a, b => if okD a && okD b then some (!PyData.eqv a b) else none
  | .lt, .int i, .int j => some (decide (i < j))
  | .le, .int i, .int j => some (decide (i ≤ j))
  | .gt, .int i, .int j => some (decide (j < i))
  | .ge, .int i, .int j => some (decide (j ≤ i))
  | .isin, d, .list xs => if okD d && okD (.list xs) then some (memD d xs) else none
  | .notin, d, .list xs => if okD d && okD (.list xs) then some (!memD d xs) else none
  | .isin, d, .tuple xs => if okD d && okD (.tuple xs) then some (memD d xs) else none
  | .notin, d, .tuple xs => if okD d && okD (.tuple xs) then some (!memD d xs) else none
  | .isin, d, .dict kvs => if likeK kvs d then some (hasD kvs d) else none
  | .notin, d, .dict kvs => if likeK kvs d then some (!hasD kvs d) else none
  | .isN, d, .none => some (isNonD d)
  | .notN, d, .none => some (!isNonD d)
  | .isN, .bool a, .bool b => some (decide (a = b))
  | .notN, .bool a, .bool b => some (!decide (a = b))
  | _, _, _ => none

def item (xs : List D) (i : Int) : Option D := L2.atI xs i
def cut (xs : List D) (lo hi : Option Int) : List D := (xs.drop (HT.sIx xs.length 0 lo)).take (HT.sIx xs.length xs.length hi - HT.sIx xs.length 0 lo)
def rngL (lo : Int) (n : Nat) : List D := (List.range n).map fun i => .int (lo + (i : Nat))
def inR (i : Int) : Bool := decide (-(2 ^ 40) ≤ i) && decide (i ≤ 2 ^ 40)
def rngV : List D → Option (List D)
  | [.int j] => if inR j then some (rngL 0 j.toNat) else none
  | [.int i, .int j] => if inR i && inR j then some (rngL i (j - i).toNat) else none
  | _ => none
def enumL : Nat → List D → List D
  | _, [] => []
  | k, x :: r => .tuple [.int (k : Nat), x] :: enumL (k + 1) r
def zipL : List D → List D → List D
  | x :: r, y :: q => .tuple [x, y] :: zipL r q
  | _, _ => []
def maxL : Int → List Int → Int
  | m, [] => m
  | m, x :: r => maxL (if x > m then x else m) r
def minL : Int → List Int → Int
  | m, [] => m
  | m, x :: r => minL (if x < m then x else m) r
def insI (x : Int) : List Int → List Int
  | [] => [x]
  | y :: r => if x < y then x :: y :: r else y :: insI x r
def sortI : List Int → List Int
  | [] => []
  | x :: r => insI x (sortI r)
/-- the order upon lists of ints -/
def lexI : List Int → List Int → Bool
  | [], [] => false
  | [], _ :: _ => true
  | _ :: _, [] => false
  | x :: xs, y :: ys => if x = y then lexI xs ys else decide (x < y)
def insT (x : List Int) : List (List Int) → List (List Int)
  | [] => [x]
  | y :: r => if lexI x y then x :: y :: r else y :: insT x r
def sortT : List (List Int) → List (List Int)
  | [] => []
  | x :: r => insT x (sortT r)
/-- tuples of ints -/
def tupsOf : List D → Option (List (List Int))
  | [] => some []
  | .tuple ds :: r => (intsOf ds).bind fun ns => (tupsOf r).map (ns :: ·)
  | _ :: _ => none
def sortV (xs : List D) : Option D := match intsOf xs with
  | some ns => some (.list ((sortI ns).map .int))
  | none => (tupsOf xs).map fun nss => .list ((sortT nss).map fun ns => .tuple (ns.map .int))
def isTy : D → Ty → Bool
  | .int _, .int => true
  | .bool _, .int => true
  | .bool _, .bool => true
  | .str _, .str => true
  | .list _, .list => true
  | .tuple _, .tuple => true
  | _, _ => false

def biV : Bi → List D → Option D
  | .len, [.list xs] => some (.int xs.length)
  | .len, [.tuple xs] => some (.int xs.length)
  | .len, [.dict kvs] => if keysOk kvs then some (.int kvs.length) else none
  | .len, [.str s] => if small s.length then some (.int s.length) else none
  | .abs, [.int i] => some (.int (if i < 0 then -i else i))
  | .tuple, [.list xs] => some (.tuple xs)
  | .tuple, [.tuple xs] => some (.tuple xs)
  | .list, [.list xs] => some (.list xs)
  | .list, [.tuple xs] => some (.list xs)
  | .int, [.int i] => some (.int i)
  | .int, [.bool b] => some (.int (if b then 1 else 0))
  | .bool, [.int i] => some (.bool (i != 0))
  | .bool, [.bool b] => some (.bool b)
  | .sum, [.list xs] => (intsOf xs).map fun ns => .int ns.sum
  | .sum, [.tuple xs] => (intsOf xs).map fun ns => .int ns.sum
  | .any, [.list xs] => (trsOf xs).map fun bs => .bool (bs.any id)
  | .all, [.list xs] => (trsOf xs).map fun bs => .bool (bs.all id)
  | .any, [.tuple xs] => (trsOf xs).map fun bs => .bool (bs.any id)
  | .all, [.tuple xs] => (trsOf xs).map fun bs => .bool (bs.all id)
  | .max, [.int i, .int j] => some (.int (if j > i then j else i))
  | .min, [.int i, .int j] => some (.int (if j < i then j else i))
  | .max, [.list (.int x :: xs)] => (intsOf xs).map fun ns => .int (maxL x ns)
  | .min, [.list (.int x :: xs)] => (intsOf xs).map fun ns => .int (minL x ns)
  | .max, [.tuple (.int x :: xs)] => (intsOf xs).map fun ns => .int (maxL x ns)
  | .min, [.tuple (.int x :: xs)] => (intsOf xs).map fun ns => .int (minL x ns)
  | .repr, [d] => if okD d && d.showable && small d.shown.length then some (.str d.shown) else none
  | .sorted, [.list xs] => sortV xs
  | .sorted, [.dict kvs] => (match intsOf (kvs.map (·.1)) with
      | some ns => some (.list ((sortI ns).map .int))
      | none => (tupsOf (kvs.map (·.1))).map fun nss => .list ((sortT nss).map fun ns => .tuple (ns.map .int)))
  | .sorted, [.tuple xs] => (intsOf xs).map fun ns => .list ((sortI ns).map .int)
  | _, _ => none

/-! ### the source -/
def drain : List Int → Int → List Int × Int
  | [], l => ([], l)
  | c :: r, l => if l < 2 then drain r c else (c :: r, l)
/-- a pick: v tells which of the two ways the law has it -/
def pickS (v : Bool) (s : Src) (m : Int) : Int × Src :=
  if m < 2 then
    if v then (0, { s with left := s.left / 1 }) else (0, s)
  else
    let (cs, l) := drain s.cells s.left
    if l > 1 then (l % m, { s with cells := cs, left := l / m })
    else
      let t := s.turn + 1
      let x := (s.mixed + t * 104729) % 998244353
      let y := (x * x + t * 17) % 2147483647
      (y / 16 % m, { cells := cs, left := l, mixed := if v then y else s.mixed, turn := t })
def pickM (v : Bool) (m : Int) : M D := fun s => if m < 1073741824 then let r := pickS v s m; some (.int r.1, r.2) else none
/-- what stands for the source -/
def srcD : D := .dict [(.none, .none)]
def isSrc : D → Bool
  | .dict [(.none, .none)] => true
  | _ => false

/-! ### targets -/
mutual
def tgSet : Tg → D → En → Option En
  | .name i, d, en => some (en.set i (some d))
  | .tup ts, .tuple ds, en => tgSets ts ds en
  | .tup ts, .list ds, en => tgSets ts ds en
  | .tup _, _, _ => none
def tgSets : List Tg → List D → En → Option En
  | [], [], en => some en
  | t :: ts, d :: ds, en => (tgSet t d en).bind fun e => tgSets ts ds e
  | _, _, _ => none
end

/-! ### expressions -/
def ret {α : Type} (a : α) : M α := fun s => some (a, s)
def bnd {α β : Type} (x : M α) (f : α → M β) : M β := fun s => match x s with
  | some (a, s1) => f a s1
  | none => none
def lift {α : Type} (x : Option α) : M α := fun s => match x with
  | some a => some (a, s)
  | none => none
def mapL (f : D → M (Option D)) : List D → M (List D)
  | [] => ret []
  | x :: r => bnd (f x) fun y => bnd (mapL f r) fun ys => ret (match y with
    | some d => d :: ys
    | none => ys)
def catL (f : D → M (List D)) : List D → M (List D)
  | [] => ret []
  | x :: r => bnd (f x) fun y => bnd (catL f r) fun ys => ret (y ++ ys)
def intOpt : Option D → Option (Option Int)
  | none => some none
  | some (.int i) => some (some i)
  | some _ => none
def slcV (a : D) (lo hi : Option Int) : Option D := match a with
  | .list xs => some (.list (cut xs lo hi))
  | .tuple xs => some (.tuple (cut xs lo hi))
  | _ => none
def revV : D → Option D
  | .list xs => some (.list xs.reverse)
  | .tuple xs => some (.tuple xs.reverse)
  | _ => none
def idxV : D → D → Option D
  | .list xs, .int i => item xs i
  | .tuple xs, .int i => item xs i
  | .dict kvs, k => atD kvs k
  | _, _ => none
def methV : Mt → D → D → Option D
  | .index, .list xs, d => if okD d && okD (.list xs) then (xs.findIdx? fun z => PyData.eqv z d).map fun j => .int (j : Nat) else none
  | _, _, _ => none
/-- d.get(k, x) -/
def getV : D → D → D → Option D
  | .dict kvs, k, x => if likeK kvs k then some ((atD kvs k).getD x) else none
  | _, _, _ => none
/-- a dict as it is written -/
def dispV (ps : List (D × D)) : Option D := if !ps.isEmpty && decide (ps.length ≤ 15) then dictOf ps else none
def isSeq : D → Bool
  | .list _ => true
  | .tuple _ => true
  | _ => false
/-- the keys, in the order of insertion -/
def keysV : D → Option D
  | .dict kvs => if keysOk kvs then some (.list (kvs.map (·.1))) else none
  | _ => none
def sizeOk (d : List D) : Option (List D) := if small d.length then some d else none

section
variable (v : Bool) (c : Cl)
mutual
def evE : E → En → M D
  | .non, _ => ret .none
  | .bl b, _ => ret (.bool b)
  | .int i, _ => ret (.int i)
  | .str s, _ => ret (.str s)
  | .var i, en => lift (en.getD i none)
  | .op o a b, en => bnd (evE a en) fun x => bnd (evE b en) fun y => lift (op2 o x y)
  | .neg a, en => bnd (evE a en) fun x => lift (match x with | .int i => some (.int (-i)) | _ => none)
  | .not a, en => bnd (evE a en) fun x => lift ((truth x).map fun b => .bool (!b))
  | .and a b, en => bnd (evE a en) fun x => bnd (lift (truth x)) fun t => if t then evE b en else ret x
  | .or a b, en => bnd (evE a en) fun x => bnd (lift (truth x)) fun t => if t then ret x else evE b en
  | .ite q a b, en => bnd (evE q en) fun x => bnd (lift (truth x)) fun t => if t then evE a en else evE b en
  | .cmp o a b, en => bnd (evE a en) fun x => bnd (evE b en) fun y => lift ((cmp2 o x y).map .bool)
  | .chain o1 o2 a b q, en => bnd (evE a en) fun x => bnd (evE b en) fun y => bnd (lift (cmp2 o1 x y)) fun t =>
      if t then bnd (evE q en) fun z => lift ((cmp2 o2 y z).map .bool) else ret (.bool false)
  | .tup es, en => bnd (evL es en) fun ds => lift ((sizeOk ds).map .tuple)
  | .lst es, en => bnd (evL es en) fun ds => lift ((sizeOk ds).map .list)
  | .star _, _ => fun _ => none
  | .idx a b, en => bnd (evE a en) fun x => bnd (evE b en) fun y => lift (idxV x y)
  | .slc a lo hi, en => bnd (evE a en) fun x => bnd (evO lo en) fun y => bnd (evO hi en) fun z => lift ((intOpt y).bind fun i => (intOpt z).bind fun j => slcV x i j)
  | .rev a, en => bnd (evE a en) fun x => lift (revV x)
  | .call f args, en => bnd (evL args en) fun ds => c f ds
  | .pick a b, en => bnd (evE a en) fun x => bnd (evE b en) fun y => match y with
      | .int m => if isSrc x then pickM v m else fun _ => none
      | _ => fun _ => none
  | .bi b args, en => bnd (evL args en) fun ds => lift (biV b ds)
  | .meth m a b, en => bnd (evE a en) fun x => bnd (evE b en) fun y => lift (methV m x y)
  | .isi a tys, en => bnd (evE a en) fun x => ret (.bool (tys.any fun t => isTy x t))
  | .rng args, en => bnd (evL args en) fun ds => lift ((rngV ds).bind fun l => (sizeOk l).map .list)
  | .enum a, en => bnd (evE a en) fun x => lift ((seqOf x).map fun xs => .list (enumL 0 xs))
  | .zip a b st, en => bnd (evE a en) fun x => bnd (evE b en) fun y => lift ((seqOf x).bind fun xs => (seqOf y).bind fun ys =>
      if !st || xs.length == ys.length then some (.list (zipL xs ys)) else none)
  | .comp t it ifs elt, en => bnd (evE it en) fun x => bnd (lift (seqOf x)) fun xs => bnd (mapL (fun d => bnd (lift (tgSet t d en)) fun en2 => bnd (evT ifs en2) fun ok =>
      if ok then bnd (evE elt en2) fun y => ret (some y) else ret none) xs) fun ys => lift ((sizeOk ys).map .list)
  | .comp2 t it t2 it2 elt, en => bnd (evE it en) fun x => bnd (lift (seqOf x)) fun xs => bnd (catL (fun d => bnd (lift (tgSet t d en)) fun en2 =>
      bnd (evE it2 en2) fun x2 => bnd (lift (seqOf x2)) fun xs2 => mapL (fun d2 => bnd (lift (tgSet t2 d2 en2)) fun en3 => bnd (evE elt en3) fun y => ret (some y)) xs2) xs) fun ys => lift ((sizeOk ys).map .list)
  | .dps a, en => bnd (evE a en) fun x => lift (match x with
      | .list xs => (pairsOf xs).bind dictOf
      | _ => none)
  | .dzip a b st, en => bnd (evE a en) fun x => bnd (evE b en) fun y => lift ((seqOf x).bind fun xs => (seqOf y).bind fun ys =>
      if (!st || xs.length == ys.length) && xs.all isTK then dictT (xs.zip ys) else none)
  | .dcp t it ifs k w, en => bnd (evE it en) fun x => bnd (lift (seqOf x)) fun xs => bnd (mapL (fun d => bnd (lift (tgSet t d en)) fun en2 => bnd (evT ifs en2) fun ok =>
      if ok then bnd (evE k en2) fun y => bnd (evE w en2) fun z => ret (some (.tuple [y, z])) else ret none) xs) fun ys => lift ((pairsOf ys).bind dictOf)
  | .dget a k x, en => bnd (evE a en) fun d => bnd (evE k en) fun y => bnd (evE x en) fun z => lift (getV d y z)
  | .dnew, _ => ret (.dict [])
  | .disp ps, en => bnd (evL ps en) fun ds => lift ((twosOf ds).bind dispV)
  | .keys a, en => bnd (evE a en) fun x => lift (keysV x)
  | .read f a b, en => bnd (evE a en) fun x => bnd (evE b en) fun y => if isSeq y then c f [x, y] else fun _ => none
def evL : List E → En → M (List D)
  | [], _ => ret []
  | .star a :: r, en => bnd (evE a en) fun x => bnd (lift (seqOf x)) fun xs => bnd (evL r en) fun ys => ret (xs ++ ys)
  | e :: r, en => bnd (evE e en) fun x => bnd (evL r en) fun ys => ret (x :: ys)
def evO : Option E → En → M (Option D)
  | none, _ => ret none
  | some e, en => bnd (evE e en) fun x => ret (some x)
def evT : Option E → En → M Bool
  | none, _ => ret true
  | some e, en => bnd (evE e en) fun x => lift (truth x)
end

/-! ### statements -/
inductive Rs where
  | next (en : En)
  | ret (d : D)
def aug2 : O2 → D → D → Option D
  | .add, .int i, .int j => some (.int (i + j))
  | .sub, .int i, .int j => some (.int (i - j))
  | _, _, _ => none
def lstAt (en : En) (i : Nat) : Option (List D) := match en.getD i none with
  | some (.list xs) => some xs
  | _ => none
def dctAt (en : En) (i : Nat) : Option (List (D × D)) := match en.getD i none with
  | some (.dict kvs) => some kvs
  | _ => none
def forL (body : D → En → M Rs) : List D → En → M Rs
  | [], en => ret (.next en)
  | x :: r, en => bnd (body x en) fun q => match q with
    | .next en2 => forL body r en2
    | .ret d => ret (.ret d)
def whlL (test : En → M Bool) (body : En → M Rs) : Nat → En → M Rs
  | 0, _ => fun _ => none
  | n + 1, en => bnd (test en) fun t => if t then bnd (body en) fun q => match q with
    | .next en2 => whlL test body n en2
    | .ret d => ret (.ret d)
    else ret (.next en)
def popAt (xs : List D) (k : Option D) : Option (D × List D) := match k with
  | none => (xs.getLast?).map fun d => (d, xs.dropLast)
  | some (.int i) => (L2.ixN xs.length i).bind fun j => (xs[j]?).map fun d => (d, xs.eraseIdx j)
  | some _ => none
/-- the new ones are lists -/
def newsOk : List Bool → List D → Bool
  | [], [] => true
  | true :: bs, .list _ :: ds => newsOk bs ds
  | true :: bs, .dict _ :: ds => newsOk bs ds
  | false :: bs, _ :: ds => newsOk bs ds
  | _, _ => false
/-- the turns that a while may take -/
def wFuel : Nat := 1000000
/-- all are taken from a list, by picks, one after the other -/
def mixL (v : Bool) : Nat → List D → M (List D)
  | 0, _ => ret []
  | n + 1, xs => bnd (pickM v xs.length) fun d => bnd (lift (popAt xs (some d))) fun p => bnd (mixL v n p.2) fun ys => ret (p.1 :: ys)
def setsV : List Nat → List D → En → Option En
  | [], [], en => some en
  | i :: is, d :: ds, en => setsV is ds (en.set i (some d))
  | _, _, _ => none

mutual
def exS : S → En → M Rs
  | .asg t e, en => bnd (evE v c e en) fun d => bnd (lift (tgSet t d en)) fun en2 => ret (.next en2)
  | .new i e, en => bnd (evE v c e en) fun d => match d with
      | .list xs => ret (.next (en.set i (some (.list xs))))
      | _ => fun _ => none
  | .newD i e, en => bnd (evE v c e en) fun d => match d with
      | .dict kvs => if keysOk kvs then ret (.next (en.set i (some (.dict kvs)))) else fun _ => none
      | _ => fun _ => none
  | .dset i k e, en => bnd (evE v c e en) fun d => bnd (evE v c k en) fun kd => bnd (lift (dctAt en i)) fun kvs =>
      if likeK kvs kd && small (kvs.length + 1) then ret (.next (en.set i (some (.dict (putD kvs kd d))))) else fun _ => none
  | .par is es, en => bnd (evL v c es en) fun ds => bnd (lift (setsV is ds en)) fun en2 => ret (.next en2)
  | .parN is ns es, en => bnd (evL v c es en) fun ds => if newsOk ns ds then bnd (lift (setsV is ds en)) fun en2 => ret (.next en2) else fun _ => none
  | .app i e, en => bnd (evE v c e en) fun d => bnd (lift (lstAt en i)) fun xs => if small (xs.length + 1) then ret (.next (en.set i (some (.list (xs ++ [d]))))) else fun _ => none
  | .ext i e, en => bnd (evE v c e en) fun d => bnd (lift (lstAt en i)) fun xs => match d with
      | .list ys => if small (xs.length + ys.length) then ret (.next (en.set i (some (.list (xs ++ ys))))) else fun _ => none
      | _ => fun _ => none
  | .pop t j k, en => bnd (evO v c k en) fun kd => bnd (lift (lstAt en j)) fun xs => bnd (lift (popAt xs kd)) fun p => bnd (lift (tgSet t p.1 (en.set j (some (.list p.2))))) fun en2 => ret (.next en2)
  | .set i k e, en => bnd (evE v c e en) fun d => bnd (evE v c k en) fun kd => bnd (lift (lstAt en i)) fun xs => match kd with
      | .int z => match L2.ixN xs.length z with
        | some j => ret (.next (en.set i (some (.list (xs.set j d)))))
        | none => fun _ => none
      | _ => fun _ => none
  | .aug i o e, en => bnd (lift (en.getD i none)) fun x => bnd (evE v c e en) fun y => bnd (lift (aug2 o x y)) fun z => ret (.next (en.set i (some z)))
  | .ret e, en => bnd (evE v c e en) fun d => ret (.ret d)
  | .ite q a b, en => bnd (evE v c q en) fun x => bnd (lift (truth x)) fun t => if t then exL a en else exL b en
  | .for_ t it body, en => bnd (evE v c it en) fun x => bnd (lift (seqOf x)) fun xs => forL (fun d en2 => bnd (lift (tgSet t d en2)) fun en3 => exL body en3) xs en
  | .whl q body, en => whlL (fun en2 => bnd (evE v c q en2) fun x => lift (truth x)) (fun en2 => exL body en2) wFuel en
  | .pass, en => ret (.next en)
  | .mix j i _, en => bnd (lift (en.getD i none)) fun x => bnd (lift (lstAt en j)) fun xs => if isSrc x && small xs.length then bnd (mixL v xs.length xs) fun ys => ret (.ret (.list ys)) else fun _ => none
def exL : List S → En → M Rs
  | [], en => ret (.next en)
  | s :: r, en => bnd (exS s en) fun q => match q with
    | .next en2 => exL r en2
    | .ret d => ret (.ret d)
end
end

/-! ### programs -/
structure Fn where
  np : Nat
  nl : Nat
  body : List S
def startEn (np nl : Nat) (ds : List D) : En := ds.map some ++ List.replicate (nl - np) none
def callN (v : Bool) (P : List Fn) : Nat → Cl
  | 0, _, _ => fun _ => none
  | n + 1, f, ds => match P[f]? with
    | some fn => if ds.length = fn.np then bnd (exL v (callN v P n) fn.body (startEn fn.np fn.nl ds)) fun q => match q with
        | .next _ => ret .none
        | .ret d => ret d
      else fun _ => none
    | none => fun _ => none
end Fz
/-! FzB: data over the abstract heap; the relation between slots and the little language's environment; readings. -/
namespace Fz
open PySem PySem.Spec PyProof.Rows L2

/-! ### data in what is frozen -/
mutual
inductive Rp (K : PySem.W.Frag) (sp : Addr) (F : Hp) : V → D → Prop
  | non : Rp K sp F .non .none
  | bl (b : Bool) : Rp K sp F (.bl b) (.bool b)
  | int (i : Int) : Rp K sp F (.int i) (.int i)
  | str (x : Str) : Rp K sp F (.str x) (.str x)
  | lst {a : Addr} {vs : List V} {ds : List D} : F a = some (.lst vs) → RpA K sp F vs ds → Rp K sp F (.ref a) (.list ds)
  | tup {a : Addr} {vs : List V} {ds : List D} : F a = some (.tup vs) → RpA K sp F vs ds → Rp K sp F (.ref a) (.tuple ds)
  | src : Rp K sp F (.ref sp) srcD
  | dct {a : Addr} {kws : List (List L2.Key × V)} {kvs : List (D × D)} : Rd F a (.dT kws) → RpK K sp F kws kvs → Rp K sp F (.ref a) (.dict kvs)
  | dck {a : Addr} {kws : List (L2.Key × V)} {kvs : List (D × D)} : Rd F a (.dK kws) → RpI K sp F kws kvs → Rp K sp F (.ref a) (.dict kvs)
inductive RpA (K : PySem.W.Frag) (sp : Addr) (F : Hp) : List V → List D → Prop
  | nil : RpA K sp F [] []
  | cons {v : V} {vs : List V} {d : D} {ds : List D} : Rp K sp F v d → RpA K sp F vs ds → RpA K sp F (v :: vs) (d :: ds)
/-- keys that are tuples of ints -/
inductive RpK (K : PySem.W.Frag) (sp : Addr) (F : Hp) : List (List L2.Key × V) → List (D × D) → Prop
  | nil : RpK K sp F [] []
  | cons {ns : List Int} {v : V} {d : D} {kws : List (List L2.Key × V)} {kvs : List (D × D)} : Rp K sp F v d → RpK K sp F kws kvs → RpK K sp F ((ns.map .inl, v) :: kws) ((.tuple (ns.map .int), d) :: kvs)
/-- keys that are ints -/
inductive RpI (K : PySem.W.Frag) (sp : Addr) (F : Hp) : List (L2.Key × V) → List (D × D) → Prop
  | nil : RpI K sp F [] []
  | cons {n : Int} {v : V} {d : D} {kws : List (L2.Key × V)} {kvs : List (D × D)} : Rp K sp F v d → RpI K sp F kws kvs → RpI K sp F ((.inl n, v) :: kws) ((.int n, d) :: kvs)
end
section
variable {K : PySem.W.Frag} {sp cc : Addr} {F F' H H' : Hp}
theorem sqT_mono {a : Addr} {xs : List V} (e : Same H H') (h : SqT K H a xs) : SqT K H' a xs := by
  rcases h with (h | ⟨o, h⟩) | h
  · exact .inl (.inl (e _ _ h))
  · exact .inl (.inr ⟨o, e _ _ h⟩)
  · exact .inr h
theorem sqT_same {a : Addr} {xs : List V} (e : Same H H') (h : H a = some (.tup xs)) : SqT K H' a xs := SqT.of (e _ _ h)
theorem Rd.mono {a : Addr} {u : HO} (e : Same F F') (h : Rd F a u) : Rd F' a u := h.imp (e _ _) fun ⟨o, z⟩ => ⟨o, e _ _ z⟩
mutual
theorem Rp.mono (e : Same F F') : ∀ {v : V} {d : D}, Rp K sp F v d → Rp K sp F' v d
  | _, _, .non => .non
  | _, _, .bl b => .bl b
  | _, _, .int i => .int i
  | _, _, .str x => .str x
  | _, _, .lst h a => .lst (e _ _ h) (RpA.mono e a)
  | _, _, .tup h a => .tup (e _ _ h) (RpA.mono e a)
  | _, _, .src => .src
  | _, _, .dct h a => .dct (Rd.mono e h) (RpK.mono e a)
  | _, _, .dck h a => .dck (Rd.mono e h) (RpI.mono e a)
theorem RpA.mono (e : Same F F') : ∀ {vs : List V} {ds : List D}, RpA K sp F vs ds → RpA K sp F' vs ds
  | _, _, .nil => .nil
  | _, _, .cons h a => .cons (Rp.mono e h) (RpA.mono e a)
theorem RpK.mono (e : Same F F') : ∀ {kws : List (List L2.Key × V)} {kvs : List (D × D)}, RpK K sp F kws kvs → RpK K sp F' kws kvs
  | _, _, .nil => .nil
  | _, _, .cons h a => .cons (Rp.mono e h) (RpK.mono e a)
theorem RpI.mono (e : Same F F') : ∀ {kws : List (L2.Key × V)} {kvs : List (D × D)}, RpI K sp F kws kvs → RpI K sp F' kws kvs
  | _, _, .nil => .nil
  | _, _, .cons h a => .cons (Rp.mono e h) (RpI.mono e a)
end
/-- an object of one's own: a list, a dict -/
def RpO (K : PySem.W.Frag) (sp : Addr) (F : Hp) : HO → D → Prop
  | .lst vs, .list ds => RpA K sp F vs ds
  | .dT kws, .dict kvs => RpK K sp F kws kvs
  | .dK kws, .dict kvs => RpI K sp F kws kvs
  | _, _ => False
theorem RpO.mono (e : Same F F') {o : HO} {d : D} (h : RpO K sp F o d) : RpO K sp F' o d := by
  cases o <;> cases d <;> first | exact RpA.mono e h | exact RpK.mono e h | exact RpI.mono e h | exact h.elim
theorem RpO.nt {o : HO} {d : D} (h : RpO K sp F o d) (us : List V) : o ≠ .tup us := by
  rintro rfl
  cases d <;> exact h
theorem RpO.list {o : HO} {ds : List D} (h : RpO K sp F o (.list ds)) : ∃ vs, o = .lst vs ∧ RpA K sp F vs ds := by
  cases o <;> first | exact ⟨_, rfl, h⟩ | exact h.elim
theorem RpO.kind {o : HO} {d : D} (h : RpO K sp F o d) : (∃ ds, d = .list ds) ∨ ∃ kvs, d = .dict kvs := by
  cases o <;> cases d <;> first | exact .inl ⟨_, rfl⟩ | exact .inr ⟨_, rfl⟩ | exact h.elim
theorem RpO.mut {o : HO} {d : D} (h : RpO K sp F o d) : Mut (some o) := by
  cases o <;> cases d <;> first | trivial | exact h.elim
theorem RpO.nsrc {o : HO} (h : RpO K sp F o srcD) : False := by
  cases o <;> first | (cases (show RpK K sp F _ [(.none, .none)] from h); done) | (cases (show RpI K sp F _ [(.none, .none)] from h); done) | exact h
/-- what is frozen, as data -/
theorem RpO.froz {a : Addr} {o : HO} {d : D} (h : RpO K sp F o d) (e : F a = some o) : Rp K sp F (.ref a) d := by
  cases o <;> cases d <;> first | exact .lst e h | exact .dct (.inl e) h | exact .dck (.inl e) h | exact h.elim
theorem Rp.isSrc {v : V} (h : Rp K sp F v srcD) : v = .ref sp := by
  unfold srcD at h
  cases h with
  | src => rfl
  | dct _ a => cases a
  | dck _ a => cases a
theorem RpA.length : ∀ {vs : List V} {ds : List D}, RpA K sp F vs ds → vs.length = ds.length
  | _, _, .nil => rfl
  | _, _, .cons _ a => congrArg (· + 1) a.length
theorem RpA.append : ∀ {vs : List V} {ds : List D} {us : List V} {es : List D}, RpA K sp F vs ds → RpA K sp F us es → RpA K sp F (vs ++ us) (ds ++ es)
  | _, _, _, _, .nil, b => b
  | _, _, _, _, .cons h a, b => .cons h (a.append b)
theorem RpA.get : ∀ {vs : List V} {ds : List D} {i : Nat} {d : D}, RpA K sp F vs ds → ds[i]? = some d → ∃ v, vs[i]? = some v ∧ Rp K sp F v d
  | _, _, 0, _, .cons h _, e => ⟨_, rfl, by simp at e; exact e ▸ h⟩
  | _, _, i + 1, d, .cons _ a, e => by
    obtain ⟨v, h1, h2⟩ := RpA.get (i := i) (d := d) a (by simpa using e)
    exact ⟨v, by simpa using h1, h2⟩
  | _, _, i, _, .nil, e => by simp at e
theorem RpA.getV : ∀ {vs : List V} {ds : List D} {i : Nat} {v : V}, RpA K sp F vs ds → vs[i]? = some v → ∃ d, ds[i]? = some d ∧ Rp K sp F v d
  | _, _, 0, _, .cons h _, e => ⟨_, rfl, by simp at e; exact e ▸ h⟩
  | _, _, i + 1, v, .cons _ a, e => by
    obtain ⟨d, h1, h2⟩ := RpA.getV (i := i) (v := v) a (by simpa using e)
    exact ⟨d, by simpa using h1, h2⟩
  | _, _, i, _, .nil, e => by simp at e
theorem RpA.set {v : V} {d : D} (h : Rp K sp F v d) : ∀ {vs : List V} {ds : List D} (i : Nat), RpA K sp F vs ds → RpA K sp F (vs.set i v) (ds.set i d)
  | _, _, _, .nil => .nil
  | _, _, 0, .cons _ a => .cons h a
  | _, _, i + 1, .cons q a => .cons q (RpA.set h i a)
theorem RpA.drop : ∀ {vs : List V} {ds : List D} (n : Nat), RpA K sp F vs ds → RpA K sp F (vs.drop n) (ds.drop n)
  | _, _, 0, a => a
  | _, _, _ + 1, .nil => .nil
  | _, _, n + 1, .cons _ a => RpA.drop n a
theorem RpA.take : ∀ {vs : List V} {ds : List D} (n : Nat), RpA K sp F vs ds → RpA K sp F (vs.take n) (ds.take n)
  | _, _, 0, _ => .nil
  | _, _, _ + 1, .nil => .nil
  | _, _, n + 1, .cons h a => .cons h (RpA.take n a)
theorem RpA.erase : ∀ {vs : List V} {ds : List D} (n : Nat), RpA K sp F vs ds → RpA K sp F (vs.eraseIdx n) (ds.eraseIdx n)
  | _, _, _, .nil => .nil
  | _, _, 0, .cons _ a => a
  | _, _, n + 1, .cons h a => .cons h (RpA.erase n a)
theorem RpA.rev {vs : List V} {ds : List D} (a : RpA K sp F vs ds) : RpA K sp F vs.reverse ds.reverse := by
  induction vs generalizing ds with
  | nil => cases a; exact .nil
  | cons v vs ih =>
    cases a with
    | cons h a =>
      rw [List.reverse_cons, List.reverse_cons]
      exact (ih a).append (.cons h .nil)
theorem RpA.flat {vs : List V} {ds : List D} (a : RpA K sp F vs ds) : ∀ n : Nat, RpA K sp F (List.replicate n vs).flatten (List.replicate n ds).flatten
  | 0 => by simpa using RpA.nil
  | n + 1 => by
    rw [List.replicate_succ, List.replicate_succ, List.flatten_cons, List.flatten_cons]
    exact a.append (RpA.flat a n)
mutual
theorem Rp.dp : ∀ {v : V} {d : D}, Rp K sp F v d → d.canLay0 = true → Dp K F v d
  | _, _, .non, _ => .non
  | _, _, .bl b, _ => .bl b
  | _, _, .int i, _ => .int i
  | _, _, .str x, _ => .str x
  | _, _, .lst h a, c => .lst (SqL.of h) (RpA.dp a (by simpa [PyData.canLay0] using c))
  | _, _, .tup h a, c => .tup (SqT.of h) (RpA.dp a (by simpa [PyData.canLay0] using c))
  | _, _, .src, c => by simp [srcD, PyData.canLay0] at c
  | _, _, .dct _ _, c => by simp [PyData.canLay0] at c
  | _, _, .dck _ _, c => by simp [PyData.canLay0] at c
theorem RpA.dp : ∀ {vs : List V} {ds : List D}, RpA K sp F vs ds → PyData.canLayAll0 ds = true → DpAll K F vs ds
  | _, _, .nil, _ => .nil
  | _, _, .cons h a, c => by
    have c' := Bool.and_eq_true_iff.mp (show (_ && _) = true by simpa [PyData.canLayAll0] using c)
    exact .cons (Rp.dp h c'.1) (RpA.dp a c'.2)
end
mutual
theorem Dp_mono (e : Same F F') : ∀ {v : V} {d : D}, Dp K F v d → Dp K F' v d
  | _, _, .non => .non
  | _, _, .bl b => .bl b
  | _, _, .int i => .int i
  | _, _, .str x => .str x
  | _, _, .lst h a => .lst (e.seq h) (DpA_mono e a)
  | _, _, .tup h a => .tup (sqT_mono e h) (DpA_mono e a)
theorem DpA_mono (e : Same F F') : ∀ {vs : List V} {ds : List D}, DpAll K F vs ds → DpAll K F' vs ds
  | _, _, .nil => .nil
  | _, _, .cons h a => .cons (Dp_mono e h) (DpA_mono e a)
end
theorem RpA.ints : ∀ {vs : List V} {ds : List D} {ns : List Int}, RpA K sp F vs ds → intsOf ds = some ns → vs = ns.map V.int
  | _, _, _, .nil, e => by simp [intsOf] at e; subst e; rfl
  | _, _, ns, .cons (.int i) a, e => by
    obtain ⟨ms, e1, rfl⟩ := Option.map_eq_some_iff.mp (show (intsOf _).map _ = some ns from e)
    rw [RpA.ints a e1]; rfl
  | _, _, ns, .cons .non a, e => nomatch e
  | _, _, ns, .cons (.bl _) a, e => nomatch e
  | _, _, ns, .cons (.str _) a, e => nomatch e
  | _, _, ns, .cons (.lst _ _) a, e => nomatch e
  | _, _, ns, .cons (.tup _ _) a, e => nomatch e
  | _, _, ns, .cons .src a, e => nomatch e
  | _, _, ns, .cons (.dct _ _) a, e => nomatch e
  | _, _, ns, .cons (.dck _ _) a, e => nomatch e
theorem RpA.bls : ∀ {vs : List V} {ds : List D} {ns : List Bool}, RpA K sp F vs ds → blsOf ds = some ns → vs = ns.map V.bl
  | _, _, _, .nil, e => by simp [blsOf] at e; subst e; rfl
  | _, _, ns, .cons (.bl i) a, e => by
    obtain ⟨ms, e1, rfl⟩ := Option.map_eq_some_iff.mp (show (blsOf _).map _ = some ns from e)
    rw [RpA.bls a e1]; rfl
  | _, _, ns, .cons .non a, e => nomatch e
  | _, _, ns, .cons (.int _) a, e => nomatch e
  | _, _, ns, .cons (.str _) a, e => nomatch e
  | _, _, ns, .cons (.lst _ _) a, e => nomatch e
  | _, _, ns, .cons (.tup _ _) a, e => nomatch e
  | _, _, ns, .cons .src a, e => nomatch e
  | _, _, ns, .cons (.dct _ _) a, e => nomatch e
  | _, _, ns, .cons (.dck _ _) a, e => nomatch e
theorem RpA.ofInts : ∀ ns : List Int, RpA K sp F (ns.map V.int) (ns.map .int)
  | [] => .nil
  | n :: r => .cons (.int n) (RpA.ofInts r)
theorem intsOf_map : ∀ ns : List Int, intsOf (ns.map .int) = some ns
  | [] => rfl
  | n :: r => by simp [intsOf, intsOf_map r]

/-! ### the source, steps, the relation -/
/-- what stands for the source in the abstract heap -/
def SrcAt (sp cc : Addr) (H : Hp) (s : Src) : Prop :=
  H sp = some (.dK [(.inr "cells", .ref cc), (.inr "left", .int s.left), (.inr "mixed", .int s.mixed), (.inr "turn", .int s.turn)]) ∧ H cc = some (.lst (s.cells.reverse.map V.int))
/-- something stands there that is no tuple -/
abbrev NT (H : Hp) (b : Addr) : Prop := H b ≠ none ∧ ∀ us : List V, H b ≠ some (.tup us)
theorem nt_of {H : Hp} {b : Addr} {o : HO} (h : H b = some o) (n : ∀ us, o ≠ .tup us) : NT H b := ⟨by rw [h]; simp, fun us z => n us (by rw [h] at z; exact Option.some.inj z)⟩
/-- what evaluation does: more is frozen, new things stand, the source turns -/
structure Fw (sp cc : Addr) (F H F' H' : Hp) (s' : Src) : Prop where
  fr : Same F F'
  sub : Same F' H'
  keep : ∀ b o, H b = some o → b ≠ sp → b ≠ cc → H' b = some o
  src : SrcAt sp cc H' s'
  new : ∀ b, F b = none → NT H b → F' b = none
structure Rl (K : PySem.W.Frag) (sp cc : Addr) (g : List Nat) (en : En) (σ : L2.St) (F H : Hp) (s : Src) : Prop where
  sub : Same F H
  src : SrcAt sp cc H s
  fsp : F sp = none
  fcc : F cc = none
  len : en.length = σ.length
  val : ∀ i d, en.getD i none = some d → i ∉ g → ∃ v, σ[i]? = some (some v) ∧ Rp K sp F v d
  own : ∀ i, i ∈ g → ∀ d, en.getD i none = some d → ∃ a o, σ[i]? = some (some (.ref a)) ∧ H a = some o ∧ F a = none ∧ RpO K sp F o d ∧ a ≠ sp ∧ a ≠ cc
  dis : ∀ i j a, i ∈ g → j ∈ g → en.getD i none ≠ none → en.getD j none ≠ none → σ[i]? = some (some (.ref a)) → σ[j]? = some (some (.ref a)) → i = j
theorem SrcAt.ne {s : Src} (h : SrcAt sp cc H s) : sp ≠ cc := fun e => by
  have h2 := h.2
  rw [← e, h.1] at h2
  cases h2
theorem Fw.refl {s : Src} (h : Same F H) (q : SrcAt sp cc H s) : Fw sp cc F H F H s := ⟨Same.refl _, h, fun _ _ e _ _ => e, q, fun _ e _ => e⟩
theorem Fw.trans {F1 H1 F2 H2 : Hp} {s1 s2 : Src} (a : Fw sp cc F H F1 H1 s1) (b : Fw sp cc F1 H1 F2 H2 s2) : Fw sp cc F H F2 H2 s2 where
  fr := a.fr.trans b.fr
  sub := b.sub
  keep := fun p o e n1 n2 => b.keep p o (a.keep p o e n1 n2) n1 n2
  src := b.src
  new := fun p e n => b.new p (a.new p e n) (by
    cases q : H p with
    | none => exact absurd q n.1
    | some o =>
      by_cases h1 : p = sp
      · subst h1; exact nt_of a.src.1 nofun
      · by_cases h2 : p = cc
        · subst h2; exact nt_of a.src.2 nofun
        · exact nt_of (a.keep p o q h1 h2) fun us z => n.2 us (by rw [q, z]))
theorem Rl.step {g : List Nat} {en : En} {σ : L2.St} {s s' : Src} (R : Rl K sp cc g en σ F H s) (f : Fw sp cc F H F' H' s') : Rl K sp cc g en σ F' H' s' where
  sub := f.sub
  src := f.src
  fsp := f.new sp R.fsp (nt_of R.src.1 nofun)
  fcc := f.new cc R.fcc (nt_of R.src.2 nofun)
  len := R.len
  val := fun i d e n => let ⟨v, h1, h2⟩ := R.val i d e n; ⟨v, h1, h2.mono f.fr⟩
  own := fun i hi d e => by
    obtain ⟨a, o, h2, h3, h4, h5, h6, h7⟩ := R.own i hi d e
    exact ⟨a, o, h2, f.keep a _ h3 h6 h7, f.new a h4 (nt_of h3 h5.nt), h5.mono f.fr, h6, h7⟩
  dis := R.dis

/-- what may be read: a list as it stands now, other data as it is frozen -/
def Rb (K : PySem.W.Frag) (sp cc : Addr) (F H : Hp) (x : V) : D → Prop
  | .list ds => ∃ a vs, x = .ref a ∧ H a = some (.lst vs) ∧ a ≠ sp ∧ a ≠ cc ∧ RpA K sp F vs ds
  | .dict kvs => (PyData.dict kvs = srcD ∧ x = .ref sp) ∨ ∃ a o, x = .ref a ∧ Rd H a o ∧ a ≠ sp ∧ a ≠ cc ∧ RpO K sp F o (.dict kvs)
  | d => Rp K sp F x d
theorem Rb.int {x : V} {i : Int} (h : Rb K sp cc F H x (.int i)) : x = .int i := by
  cases (show Rp K sp F x (.int i) from h) <;> rfl
theorem Rb.bool {x : V} {b : Bool} (h : Rb K sp cc F H x (.bool b)) : x = .bl b := by
  cases (show Rp K sp F x (.bool b) from h) <;> rfl
theorem Rb.str {x : V} {z : Str} (h : Rb K sp cc F H x (.str z)) : x = .str z := by
  cases (show Rp K sp F x (.str z) from h) <;> rfl
theorem Rb.none {x : V} (h : Rb K sp cc F H x .none) : x = .non := by
  cases (show Rp K sp F x .none from h) <;> rfl
theorem Rb.tuple {x : V} {ds : List D} (h : Rb K sp cc F H x (.tuple ds)) : ∃ a vs, x = .ref a ∧ F a = some (.tup vs) ∧ RpA K sp F vs ds := by
  cases (show Rp K sp F x (.tuple ds) from h) with
  | tup h1 a => exact ⟨_, _, rfl, h1, a⟩
theorem Rp.tuple {x : V} {ds : List D} (h : Rp K sp F x (.tuple ds)) : ∃ a vs, x = .ref a ∧ F a = some (.tup vs) ∧ RpA K sp F vs ds := by
  cases h with
  | tup h a => exact ⟨_, _, rfl, h, a⟩
theorem Rp.int' {x : V} {i : Int} (h : Rp K sp F x (.int i)) : x = .int i := by
  cases h <;> rfl
theorem Rp.b {x : V} {d : D} {s : Src} (h : Rp K sp F x d) (e : Same F H) (f1 : F sp = Option.none) (f2 : F cc = Option.none) : Rb K sp cc F H x d := by
  cases h with
  | @lst a0 vs0 ds0 h a => exact ⟨a0, vs0, rfl, e _ _ h, (fun z => by rw [z, f1] at h; cases h), (fun z => by rw [z, f2] at h; cases h), a⟩
  | non => exact Rp.non
  | bl b => exact Rp.bl b
  | int i => exact Rp.int i
  | str z => exact Rp.str z
  | src => exact .inl ⟨rfl, rfl⟩
  | tup h a => exact Rp.tup h a
  | @dct a0 kws kvs h a => exact .inr ⟨a0, _, rfl, Rd.mono e h, (fun z => by rw [z] at h; rcases h with h | ⟨_, h⟩ <;> rw [f1] at h <;> cases h), (fun z => by rw [z] at h; rcases h with h | ⟨_, h⟩ <;> rw [f2] at h <;> cases h), a⟩
  | @dck a0 kws kvs h a => exact .inr ⟨a0, _, rfl, Rd.mono e h, (fun z => by rw [z] at h; rcases h with h | ⟨_, h⟩ <;> rw [f1] at h <;> cases h), (fun z => by rw [z] at h; rcases h with h | ⟨_, h⟩ <;> rw [f2] at h <;> cases h), a⟩
theorem Rb.step {x : V} {d : D} {s' : Src} (h : Rb K sp cc F H x d) (f : Fw sp cc F H F' H' s') : Rb K sp cc F' H' x d := by
  cases d with
  | list ds =>
    obtain ⟨a, vs, e, h1, n1, n2, h2⟩ := h
    exact ⟨a, vs, e, f.keep _ _ h1 n1 n2, n1, n2, h2.mono f.fr⟩
  | dict kvs =>
    rcases h with h | ⟨a, o, e, h1, n1, n2, h2⟩
    · exact .inl h
    · exact .inr ⟨a, o, e, h1.imp (fun z => f.keep _ _ z n1 n2) fun ⟨od, z⟩ => ⟨od, f.keep _ _ z n1 n2⟩, n1, n2, h2.mono f.fr⟩
  | none => exact Rp.mono f.fr h
  | bool => exact Rp.mono f.fr h
  | int => exact Rp.mono f.fr h
  | str => exact Rp.mono f.fr h
  | tuple => exact Rp.mono f.fr h
theorem Rb.dp {x : V} {d : D} (h : Rb K sp cc F H x d) (e : Same F H) (c : d.canLay0 = true) : Dp K H x d := by
  cases d with
  | list ds =>
    obtain ⟨a, vs, rfl, h1, n1, n2, h2⟩ := h
    exact .lst (SqL.of h1) (DpA_mono e (h2.dp (by simpa [PyData.canLay0] using c)))
  | dict kvs => simp [PyData.canLay0] at c
  | none => exact Dp_mono e (Rp.dp h c)
  | bool => exact Dp_mono e (Rp.dp h c)
  | int => exact Dp_mono e (Rp.dp h c)
  | str => exact Dp_mono e (Rp.dp h c)
  | tuple => exact Dp_mono e (Rp.dp h c)
end

/-! ### laws of the monad -/
theorem bnd_some {α β : Type} {x : M α} {f : α → M β} {s : Src} {r : β × Src} (h : bnd x f s = some r) : ∃ a s1, x s = some (a, s1) ∧ f a s1 = some r := by
  unfold bnd at h
  cases e : x s with
  | none => rw [e] at h; cases h
  | some p =>
    obtain ⟨a, s1⟩ := p
    rw [e] at h
    exact ⟨a, s1, rfl, h⟩
theorem lift_some {α : Type} {x : Option α} {s : Src} {a : α} {s1 : Src} (h : lift x s = some (a, s1)) : x = some a ∧ s1 = s := by
  unfold lift at h
  cases x with
  | none => cases h
  | some b => cases h; exact ⟨rfl, rfl⟩
theorem bnd_lift {α β : Type} {x : Option α} {f : α → M β} {s : Src} {r : β × Src} (h : bnd (lift x) f s = some r) : ∃ a, x = some a ∧ f a s = some r := by
  cases x with
  | none => cases h
  | some a => exact ⟨a, rfl, h⟩
theorem ret_some {α : Type} {x a : α} {s s1 : Src} (h : ret x s = some (a, s1)) : x = a ∧ s1 = s := by
  cases h; exact ⟨rfl, rfl⟩

/-! ### what an expression's value keeps hold of: names that are no longer one's own behind it -/
def Tg.slots : Tg → List Nat
  | .name i => [i]
  | .tup ts => slotsL ts
where
  slotsL : List Tg → List Nat
    | [] => []
    | t :: r => t.slots ++ slotsL r
mutual
def lk : E → List Nat
  | .var i => [i]
  | .op _ a b => lkB a ++ lkB b
  | .neg a => lkB a
  | .not a => lkB a
  | .and a b => lk a ++ lk b
  | .or a b => lk a ++ lk b
  | .ite q a b => lkB q ++ (lk a ++ lk b)
  | .cmp _ a b => lkB a ++ lkB b
  | .chain _ _ a b c => lkB a ++ (lkB b ++ lkB c)
  | .tup es => lkL es
  | .lst es => lkL es
  | .star a => lkB a
  | .idx a b => lkB a ++ lkB b
  | .slc a lo hi => lkB a ++ (lkO lo ++ lkO hi)
  | .rev a => lkB a
  | .call _ args => lkL args
  | .pick a b => lk a ++ lk b
  | .bi _ args => lkBL args
  | .meth _ a b => lkB a ++ lkB b
  | .isi a _ => lkB a
  | .rng args => lkBL args
  | .enum a => lk a
  | .zip a b _ => lk a ++ lk b
  | .comp t it ifs elt => lkB it ++ ((lkO ifs ++ lk elt).filter fun i => !t.slots.contains i)
  | .comp2 t it t2 it2 elt => lkB it ++ ((lkB it2 ++ lk elt).filter fun i => !(t.slots ++ t2.slots).contains i)
  | .dps a => lkB a
  | .dzip a b _ => lkB a ++ lkB b
  | .dcp t it ifs k w => lkB it ++ ((lkO ifs ++ (lk k ++ lk w)).filter fun i => !t.slots.contains i)
  | .dget a k x => lkB a ++ (lkB k ++ lk x)
  | .disp ps => lkL ps
  | .keys a => lk a
  | .read _ a b => lk a ++ lkB b
  | _ => []
def lkB : E → List Nat
  | .var _ => []
  | .op _ a b => lkB a ++ lkB b
  | .neg a => lkB a
  | .not a => lkB a
  | .and a b => lk a ++ lk b
  | .or a b => lk a ++ lk b
  | .ite q a b => lkB q ++ (lk a ++ lk b)
  | .cmp _ a b => lkB a ++ lkB b
  | .chain _ _ a b c => lkB a ++ (lkB b ++ lkB c)
  | .tup es => lkL es
  | .lst es => lkL es
  | .star a => lkB a
  | .idx a b => lkB a ++ lkB b
  | .slc a lo hi => lkB a ++ (lkO lo ++ lkO hi)
  | .rev a => lkB a
  | .call _ args => lkL args
  | .pick a b => lk a ++ lk b
  | .bi _ args => lkBL args
  | .meth _ a b => lkB a ++ lkB b
  | .isi a _ => lkB a
  | .rng args => lkBL args
  | .enum a => lkB a
  | .zip a b _ => lkB a ++ lkB b
  | .comp t it ifs elt => lkB it ++ ((lkO ifs ++ lk elt).filter fun i => !t.slots.contains i)
  | .comp2 t it t2 it2 elt => lkB it ++ ((lkB it2 ++ lk elt).filter fun i => !(t.slots ++ t2.slots).contains i)
  | .dps a => lkB a
  | .dzip a b _ => lkB a ++ lkB b
  | .dcp t it ifs k w => lkB it ++ ((lkO ifs ++ (lk k ++ lk w)).filter fun i => !t.slots.contains i)
  | .dget a k x => lkB a ++ (lkB k ++ lk x)
  | .disp ps => lkL ps
  | .keys a => lk a
  | .read _ a b => lk a ++ lkB b
  | _ => []
def lkL : List E → List Nat
  | [] => []
  | .star a :: r => lkB a ++ lkL r
  | e :: r => lk e ++ lkL r
def lkBL : List E → List Nat
  | [] => []
  | e :: r => lkB e ++ lkBL r
def lkO : Option E → List Nat
  | none => []
  | some e => lkB e
end

/-! ### the look's surroundings; readings -/
/-- a block's names and how it stores -/
structure Sx where
  N : List Str
  sc : Scope
  fn : Str → Bool
/-- what stands fixed: the written part, the source's two objects -/
structure Gx where
  K : PySem.W.Frag
  sp : Addr
  cc : Addr
  v : Bool
  c : Cl
section
variable (G : Gx)
def Off (g l : List Nat) : Prop := ∀ i ∈ l, i ∉ g
theorem Off.l {g a b : List Nat} (h : Off g (a ++ b)) : Off g a := fun i hi => h i (List.mem_append_left _ hi)
theorem Off.r {g a b : List Nat} (h : Off g (a ++ b)) : Off g b := fun i hi => h i (List.mem_append_right _ hi)
def RdV (e : E) : TE := fun σ H Q => ∃ g en F s d s', Rl G.K G.sp G.cc g en σ F H s ∧ Off g (lk e) ∧ evE G.v G.c e en s = some (d, s') ∧
  ∀ x F' H', Fw G.sp G.cc F H F' H' s' → Rp G.K G.sp F' x d → Q x H'
def RdB (e : E) : TE := fun σ H Q => ∃ g en F s d s', Rl G.K G.sp G.cc g en σ F H s ∧ Off g (lkB e) ∧ evE G.v G.c e en s = some (d, s') ∧
  ∀ x F' H', Fw G.sp G.cc F H F' H' s' → Rb G.K G.sp G.cc F' H' x d → Q x H'
/-- a value behind an expression that makes it: a list stands new and is not frozen yet -/
def Rn (K : PySem.W.Frag) (sp : Addr) (H F' H' : Hp) (x : V) : D → Prop
  | .list ds => ∃ p vs, x = .ref p ∧ H p = none ∧ F' p = none ∧ H' p = some (.lst vs) ∧ RpA K sp F' vs ds
  | .dict kvs => ∃ p o, x = .ref p ∧ H p = none ∧ F' p = none ∧ H' p = some o ∧ RpO K sp F' o (.dict kvs)
  | d => Rp K sp F' x d
def RdN (e : E) : TE := fun σ H Q => ∃ g en F s d s', Rl G.K G.sp G.cc g en σ F H s ∧ Off g (lk e) ∧ evE G.v G.c e en s = some (d, s') ∧
  ∀ x F' H', Fw G.sp G.cc F H F' H' s' → Rn G.K G.sp H F' H' x d → Q x H'
def RdT (e : E) : TT := fun σ H Q => ∃ g en F s d s' b, Rl G.K G.sp G.cc g en σ F H s ∧ Off g (lkB e) ∧ evE G.v G.c e en s = some (d, s') ∧ truth d = some b ∧
  ∀ F' H', Fw G.sp G.cc F H F' H' s' → Q b H'
def RdL (es : List E) : TA := fun σ H Q => ∃ g en F s ds s', Rl G.K G.sp G.cc g en σ F H s ∧ Off g (lkL es) ∧ evL G.v G.c es en s = some (ds, s') ∧
  ∀ xs F' H', Fw G.sp G.cc F H F' H' s' → RpA G.K G.sp F' xs ds → Q xs H'
def RbA (K : PySem.W.Frag) (sp cc : Addr) (F H : Hp) : List V → List D → Prop
  | [], [] => True
  | x :: xs, d :: ds => Rb K sp cc F H x d ∧ RbA K sp cc F H xs ds
  | _, _ => False
def RdBL (es : List E) : TA := fun σ H Q => ∃ g en F s ds s', Rl G.K G.sp G.cc g en σ F H s ∧ Off g (lkBL es) ∧ evL G.v G.c es en s = some (ds, s') ∧
  ∀ xs F' H', Fw G.sp G.cc F H F' H' s' → RbA G.K G.sp G.cc F' H' xs ds → Q xs H'
end
theorem pe_imp {X : Cx} {e : Expr} {t t' : TE} (h : PE X e t) (i : ∀ σ H Q, t' σ H Q → t σ H Q) : PE X e t' := ⟨fun pins s σ H Q I q => h.run pins s σ H Q I (i _ _ _ q)⟩
theorem pt_imp {X : Cx} {e : Expr} {t t' : TT} (h : PT X e t) (i : ∀ σ H Q, t' σ H Q → t σ H Q) : PT X e t' := ⟨fun pins s σ H Q I q => h.run pins s σ H Q I (i _ _ _ q)⟩
theorem pa_imp {X : Cx} {e : List Expr} {t t' : TA} (h : PA X e t) (i : ∀ σ H Q, t' σ H Q → t σ H Q) : PA X e t' := ⟨fun pos pins s σ H Q I q => h.run pos pins s σ H Q I (i _ _ _ q)⟩
theorem ps_imp {X : Cx} {e : Stmt} {t t' : TS} (h : PS X e t) (i : ∀ D σ H, t' D σ H → t D σ H) : PS X e t' := ⟨fun pins s σ H Q I q => h.run pins s σ H Q I (i _ _ _ q)⟩

section
variable {K : PySem.W.Frag} {sp cc : Addr} {F H F' H' : Hp} {s : Src}
/-- a new thing is laid and frozen -/
theorem Fw.lay {p : Addr} {o : HO} (e : Same F H) (q : SrcAt sp cc H s) (hp : H p = none) : Fw sp cc F H (upd F p o) (upd H p o) s := by
  have fp : F p = none := by
    cases z : F p with
    | none => rfl
    | some u => rw [e _ _ z] at hp; cases hp
  have ne : ∀ b u, F b = some u → b ≠ p := fun b u z y => by rw [y, fp] at z; cases z
  have neH : ∀ b u, H b = some u → b ≠ p := fun b u z y => by rw [y, hp] at z; cases z
  refine ⟨fun b u z => ?_, fun b u z => ?_, fun b u z _ _ => ?_, ⟨?_, ?_⟩, fun b z n => ?_⟩
  · rw [upd_ne (ne b u z)]; exact z
  · by_cases hb : b = p
    · subst hb; rw [upd_same] at z ⊢; exact z
    · rw [upd_ne hb] at z ⊢; exact e b u z
  · rw [upd_ne (neH b u z)]; exact z
  · rw [upd_ne (neH _ _ q.1)]; exact q.1
  · rw [upd_ne (neH _ _ q.2)]; exact q.2
  · have hb : b ≠ p := fun y => by subst y; exact n.1 hp
    rw [upd_ne hb]; exact z
/-- a new thing is laid, not frozen -/
theorem Fw.put {p : Addr} {o : HO} (e : Same F H) (q : SrcAt sp cc H s) (hp : H p = none) : Fw sp cc F H F (upd H p o) s := by
  have neH : ∀ b u, H b = some u → b ≠ p := fun b u z y => by rw [y, hp] at z; cases z
  refine ⟨Same.refl _, fun b u z => ?_, fun b u z _ _ => ?_, ⟨?_, ?_⟩, fun b z n => z⟩
  · rw [upd_ne (neH _ _ (e b u z))]; exact e b u z
  · rw [upd_ne (neH b u z)]; exact z
  · rw [upd_ne (neH _ _ q.1)]; exact q.1
  · rw [upd_ne (neH _ _ q.2)]; exact q.2
/-- a new list is frozen -/
theorem Fw.freeze {p : Addr} {o : HO} (f : Fw sp cc F H F' H' s) (hp : H p = none) (fp : F' p = none) (hl : H' p = some o) : Fw sp cc F H (upd F' p o) H' s := by
  have ne : ∀ b u, F' b = some u → b ≠ p := fun b u z y => by rw [y, fp] at z; cases z
  refine ⟨fun b u z => ?_, fun b u z => ?_, f.keep, f.src, fun b z n => ?_⟩
  · rw [upd_ne (ne b u (f.fr b u z))]; exact f.fr b u z
  · by_cases hb : b = p
    · subst hb; rw [upd_same] at z; rw [← z]; exact hl
    · rw [upd_ne hb] at z; exact f.sub b u z
  · have hb : b ≠ p := fun y => by subst y; exact n.1 hp
    rw [upd_ne hb]; exact f.new b z n
theorem Same.upd' {p : Addr} {o : HO} (fp : F p = none) : Same F (upd F p o) := fun b u z => by
  rw [upd_ne (fun y => by rw [y, fp] at z; cases z)]; exact z
end
section
variable {X : Cx} {G : Gx} {e : E} {ex : Expr}
/-- a new value, frozen -/
theorem Rn.freeze {K : PySem.W.Frag} {sp cc : Addr} {F H F' H' : Hp} {s : Src} {x : V} {d : D} (f : Fw sp cc F H F' H' s) (h : Rn K sp H F' H' x d) : ∃ F2, Fw sp cc F H F2 H' s ∧ Rp K sp F2 x d := by
  cases d with
  | list ds =>
    obtain ⟨p, vs, rfl, hp, fp, hl, ha⟩ := h
    exact ⟨_, f.freeze hp fp hl, .lst upd_same (ha.mono (Same.upd' fp))⟩
  | dict kvs =>
    obtain ⟨p, o, rfl, hp, fp, hl, ha⟩ := h
    exact ⟨_, f.freeze hp fp hl, (ha.mono (Same.upd' fp)).froz upd_same⟩
  | none => exact ⟨_, f, h⟩
  | bool => exact ⟨_, f, h⟩
  | int => exact ⟨_, f, h⟩
  | str => exact ⟨_, f, h⟩
  | tuple => exact ⟨_, f, h⟩
theorem V_of_N (h : PE X ex (RdN G e)) : PE X ex (RdV G e) := by
  refine pe_imp h fun σ H Q ⟨g, en, F, s, d, s', R, o, he, k⟩ => ?_
  refine ⟨g, en, F, s, d, s', R, o, he, fun x F' H' f hn => ?_⟩
  obtain ⟨F2, f2, r⟩ := hn.freeze f
  exact k _ _ _ f2 r
theorem B_of_V (h : PE X ex (RdV G e)) (hl : lkB e = lk e) : PE X ex (RdB G e) := by
  refine pe_imp h fun σ H Q ⟨g, en, F, s, d, s', R, o, he, k⟩ => ?_
  refine ⟨g, en, F, s, d, s', R, hl ▸ o, he, fun x F' H' f hx => k _ _ _ f (hx.b (s := s) f.sub (R.step f).fsp (R.step f).fcc)⟩
end
end Fz
/-! FzCt: tuple * 1. -/
namespace Fz
open PySem PySem.Spec PyProof.Rows L2
open AutoSeq1 (wpAny_loadPart')
theorem tuple_mul1 (l : Addr) (items : Array Value) (n : Nat) (dd : Option Addr) (sl : Array (Option Value)) (u : Tok) :
    Meets (Builtin.«tuple.__mul__» ⟨[.ref l, .int 1 u], []⟩) (fun _ R s => s.heap.get? l = some { cls := .type "tuple", dict := dd, data := .seq items n, slots := sl } ∧
      R (.ok (.ret (Value.ref l))) s) :=
  .of_wp fun prog w A R s h => by
    obtain ⟨hp, g, d, tk, os⟩ := s
    obtain ⟨hl, h⟩ := h
    have f1 := AutoSeq1.idx_int
    have hT : Shared.TypeIs ⟨hp, g, d, tk, os⟩ (.ref l) "tuple" := ⟨_, hl, rfl⟩
    have c0 : (decide ((1 : Int) < -(2 ^ 63)) || decide ((1 : Int) ≥ 2 ^ 63)) = false := by decide
    have c1 : (items.isEmpty || (1 : Int) == 1) = true := by simp
    wp_walk using wpAny_loadPart' hl, wpAny_typeOf hT
    exact ⟨_, rfl, h⟩
section
variable {X : Cx}
theorem op_repT1 : OpR X (binaryOp .Mult) (fun x y H Q => ∃ l xs, x = .ref l ∧ y = .int 1 ∧ SqT X.K H l xs ∧ Q (.ref l) H) := by
  intro pins s σ H x y v u Q I rx ry h
  obtain ⟨l, xs, rfl, rfl, hT, q⟩ := h
  cases rx
  obtain ⟨t, rfl⟩ := ry
  obtain ⟨its, r, ⟨⟨cls, dd, data, sl⟩, ho, hc, n, hd⟩, hs⟩ := I.tuple hT
  simp only at hc hd
  subst hc hd
  exact wpAny_binaryOp_repeat_ref (T := "tuple") (U := "int") (by decide) ⟨_, ho, rfl⟩ (fun s' => typeIs_int s' 1 t) noFill_tuple_mul F.fills_int_mul F.slot_int_rmul repeat_tuple F.slot_int_index.lookup
    (call_meets F.slot_int_rmul (typeIs_int s 1 t) F.entry_int_rmul (F.args_int_rmul_2 _ _) (int_rmul_tuple 1 t l its.toArray n dd sl)
      ⟨ho, rfl, ⟨_, ho, rfl⟩, call_meets F.slot_tuple_mul ⟨_, ho, rfl⟩ F.entry_tuple_mul (F.args_tuple_mul_2 _ _) (tuple_mul1 l its.toArray n dd sl t) ⟨ho, ⟨.ref l, H, I, rfl, q⟩⟩⟩)
end
end Fz
/-! FzC: expressions: each form of the little language over its text. -/
namespace Fz
open PySem PySem.Spec PyProof.Rows L2

/-- the four readings of an expression -/
structure OkE (X : Cx) (G : Gx) (e : E) (ex : Expr) : Prop where
  B : PE X ex (RdB G e)
  V : PE X ex (RdV G e)
  T : PT X ex (RdT G e)
/-- .. of one that makes its value -/
structure OkN (X : Cx) (G : Gx) (e : E) (ex : Expr) : Prop extends OkE X G e ex where
  N : PE X ex (RdN G e)
def plainT (ex : Expr) : Prop := ∀ (env : Env) (whole : Sem Value), isTrue ex env whole = (do let v ← whole; standAt ex.pos; holding [v] (truthy v))

theorem small_le {n : Nat} (h : small n = true) : n ≤ sizeLine := by
  have h1 : n ≤ 16000000 := of_decide_eq_true h
  rw [sizeLine_eq]; omega
theorem small_lt {n : Nat} (h : small n = true) : n < sizeLine := by
  have h1 : n ≤ 16000000 := of_decide_eq_true h
  rw [sizeLine_eq]; omega

section
variable {X : Cx} {G : Gx} (hK : X.K = G.K)
include hK
theorem truV {F H : Hp} {x : V} {d : D} {b : Bool} (h : Rb G.K G.sp G.cc F H x d) (e : Same F H) (t : truth d = some b) : TruV X.K x H b := by
  cases d with
  | none => rw [h.none]; cases t; rfl
  | bool c => rw [h.bool]; cases t; rfl
  | int i => rw [h.int]; cases t; rfl
  | str z =>
    rw [h.str]
    have t' : (if small z.length then some ((z.length : Int) != 0) else Option.none) = some b := t
    by_cases q : small z.length = true
    · rw [if_pos q] at t'
      cases t'
      exact ⟨small_le q, rfl⟩
    · rw [if_neg q] at t'; cases t'
  | list ds =>
    obtain ⟨a, vs, rfl, h1, n1, n2, h2⟩ := h
    cases t
    refine .inl ⟨vs, SqL.of h1, ?_⟩
    have := h2.length
    cases vs <;> cases ds <;> first | rfl | (simp at this)
  | tuple ds =>
    obtain ⟨a, vs, rfl, h1, h2⟩ := h.tuple
    cases t
    refine .inr (.inl ⟨vs, hK ▸ sqT_same e h1, ?_⟩)
    have := h2.length
    cases vs <;> cases ds <;> first | rfl | (simp at this)
  | dict kvs => cases t
theorem T_of_B {e : E} {ex : Expr} (h : PE X ex (RdB G e)) (p : plainT ex) : PT X ex (RdT G e) := by
  refine pt_imp (pt_truth h (p X.env)) fun σ H Q ⟨g, en, F, s, d, s', b, R, o, he, t, k⟩ => ?_
  exact ⟨g, en, F, s, d, s', R, o, he, fun x F' H' f hx => ⟨b, truV hK hx f.sub t, k F' H' f⟩⟩
omit hK
theorem okN {e : E} {ex : Expr} (hK : X.K = G.K) (h : PE X ex (RdN G e)) (hl : lkB e = lk e) (p : plainT ex) : OkN X G e ex :=
  have v := V_of_N h
  have b := B_of_V v hl
  ⟨⟨b, v, T_of_B hK b p⟩, h⟩
theorem okV {e : E} {ex : Expr} (hK : X.K = G.K) (h : PE X ex (RdV G e)) (hl : lkB e = lk e) (p : plainT ex) : OkE X G e ex :=
  have b := B_of_V h hl
  ⟨b, h, T_of_B hK b p⟩

/-! ### constants and names -/
theorem rl_same {g : List Nat} {en : En} {σ : L2.St} {F H : Hp} {s : Src} (R : Rl G.K G.sp G.cc g en σ F H s) : Fw G.sp G.cc F H F H s := Fw.refl R.sub R.src
theorem ok_non {j pos} (hK : X.K = G.K) : OkE X G .non (.Constant .none j pos) :=
  okV hK (pe_imp pe_non fun σ H Q ⟨g, en, F, s, d, s', R, o, he, k⟩ => by cases he; exact k _ _ _ (rl_same R) .non) rfl fun _ _ => rfl
theorem ok_bl {b j pos} (hK : X.K = G.K) : OkE X G (.bl b) (.Constant (.bool b) j pos) :=
  okV hK (pe_imp pe_bl fun σ H Q ⟨g, en, F, s, d, s', R, o, he, k⟩ => by cases he; exact k _ _ _ (rl_same R) (.bl b)) rfl fun _ _ => rfl
theorem ok_int {i j pos} (hK : X.K = G.K) : OkE X G (.int i) (.Constant (.int i) j pos) :=
  okV hK (pe_imp pe_int fun σ H Q ⟨g, en, F, s, d, s', R, o, he, k⟩ => by cases he; exact k _ _ _ (rl_same R) (.int i)) rfl fun _ _ => rfl
theorem ok_str {x j pos} (hK : X.K = G.K) : OkE X G (.str x) (.Constant (.str x) j pos) :=
  okV hK (pe_imp pe_str fun σ H Q ⟨g, en, F, s, d, s', R, o, he, k⟩ => by cases he; exact k _ _ _ (rl_same R) (.str x)) rfl fun _ _ => rfl
theorem ok_var {i : Nat} {x : Str} {pos : Pos} (hK : X.K = G.K) (hN : X.N[i]? = some x) (hv : Vis X.env.scope x) (hd : (x == ("__debug__" : Str)) = false) (hcd : (x == ("__classdict__" : Str)) = false) : OkE X G (.var i) (.Name x pos) := by
  have b : PE X (.Name x pos) (RdB G (.var i)) := by
    refine pe_imp (pe_var hN hv hd hcd) fun σ H Q ⟨g, en, F, s, d, s', R, o, he, k⟩ => ?_
    obtain ⟨h1, rfl⟩ := lift_some (show lift (en.getD i none) s = some (d, s') from he)
    by_cases hi : i ∈ g
    · obtain ⟨a, o, h2, h3, h4, h5, h6, h7⟩ := R.own i hi d h1
      refine ⟨_, h2, k _ _ _ (rl_same R) ?_⟩
      rcases h5.kind with ⟨ds, rfl⟩ | ⟨kvs, rfl⟩
      · obtain ⟨vs, rfl, ra⟩ := h5.list
        exact ⟨a, vs, rfl, h3, h6, h7, ra⟩
      · exact .inr ⟨a, o, rfl, .inl h3, h6, h7, h5⟩
    · obtain ⟨v, h2, h3⟩ := R.val i d h1 hi
      exact ⟨v, h2, k _ _ _ (rl_same R) (h3.b (s := s') R.sub R.fsp R.fcc)⟩
  refine ⟨b, ?_, T_of_B hK b fun _ _ => rfl⟩
  refine pe_imp (pe_var hN hv hd hcd) fun σ H Q ⟨g, en, F, s, d, s', R, o, he, k⟩ => ?_
  obtain ⟨h1, rfl⟩ := lift_some (show lift (en.getD i none) s = some (d, s') from he)
  obtain ⟨v, h2, h3⟩ := R.val i d h1 (o i (List.mem_singleton.mpr rfl))
  exact ⟨v, h2, k _ _ _ (rl_same R) h3⟩

theorem Fw.noneBack {sp cc : Addr} {F H F' H' : Hp} {s : Src} {p : Addr} (f : Fw sp cc F H F' H' s) (e : H' p = none) : H p = none := by
  cases q : H p with
  | none => rfl
  | some u =>
    by_cases n1 : p = sp
    · rw [n1, f.src.1] at e; cases e
    · by_cases n2 : p = cc
      · rw [n2, f.src.2] at e; cases e
      · rw [f.keep p u q n1 n2] at e; cases e
theorem Rn.back {K : PySem.W.Frag} {sp cc : Addr} {F H F' H' F2 H2 : Hp} {s : Src} {x : V} {d : D} (h : Rn K sp H' F2 H2 x d) (f : Fw sp cc F H F' H' s) : Rn K sp H F2 H2 x d := by
  cases d with
  | list ds =>
    obtain ⟨p, vs, e1, e2, e3⟩ := h
    exact ⟨p, vs, e1, f.noneBack e2, e3⟩
  | dict kvs =>
    obtain ⟨p, o, e1, e2, e3⟩ := h
    exact ⟨p, o, e1, f.noneBack e2, e3⟩
  | none => exact h
  | bool => exact h
  | int => exact h
  | str => exact h
  | tuple => exact h
/-! ### two values in a row -/
/-- what two operands have come to -/
theorem two {a b : E} {g : List Nat} {en : En} {σ : L2.St} {F H : Hp} {s s1 s2 : Src} {d1 d2 : D} (R : Rl G.K G.sp G.cc g en σ F H s) (o : Off g (lkB a ++ lkB b)) (h1 : evE G.v G.c a en s = some (d1, s1)) (h2 : evE G.v G.c b en s1 = some (d2, s2))
    {k : V → V → Hp → Prop} (hk : ∀ x y F' H', Fw G.sp G.cc F H F' H' s2 → Rb G.K G.sp G.cc F' H' x d1 → Rb G.K G.sp G.cc F' H' y d2 → k x y H') :
    RdB G a σ H fun x H1 => RdB G b σ H1 fun y H2 => k x y H2 :=
  ⟨g, en, F, s, d1, s1, R, o.l, h1, fun x F1 H1 f1 r1 => ⟨g, en, F1, s1, d2, s2, R.step f1, o.r, h2, fun y F2 H2 f2 r2 => hk x y F2 H2 (f1.trans f2) (r1.step f2) r2⟩⟩

/-- an operation upon data: new F, new H -/
def rOp (o : D → D → Option D) : R2 := fun x y H Q => ∃ F s d1 d2 d, Same F H ∧ SrcAt G.sp G.cc H s ∧ F G.sp = none ∧ F G.cc = none ∧ Rb G.K G.sp G.cc F H x d1 ∧ Rb G.K G.sp G.cc F H y d2 ∧ o d1 d2 = some d ∧
  ∀ z F' H', Fw G.sp G.cc F H F' H' s → Rn G.K G.sp H F' H' z d → Q z H'
theorem rn_of {H F' H' : Hp} {x : V} {d : D} (h : Rp G.K G.sp F' x d) (n : ∀ ds, d ≠ .list ds) (n2 : ∀ kvs, d ≠ .dict kvs) : Rn G.K G.sp H F' H' x d := by
  cases d <;> first | exact h | exact absurd rfl (n _) | exact absurd rfl (n2 _)
theorem wide_ok {i j : Int} (h : mulOk i j = true) : IntMulOk i j := by
  have h2 : i.natAbs.log2 + j.natAbs.log2 < 900000 := of_decide_eq_true h
  exact CMulW.ok (show i.natAbs.log2 + j.natAbs.log2 < 1000000 by omega)
def O2.op : O2 → Operator
  | .add => .Add
  | .sub => .Sub
  | .mul => .Mult
  | .fdiv => .FloorDiv
  | .mod => .Mod
  | .pow => .Pow
theorem if_some {α : Type} {c : Bool} {a b : α} (h : (if c = true then some a else none) = some b) : c = true ∧ a = b := by
  cases c with
  | true => exact ⟨rfl, Option.some.inj h⟩
  | false => cases h
theorem new_list {F H : Hp} {s : Src} {vs : List V} {ds : List D} {Q : VK} (e : Same F H) (q : SrcAt G.sp G.cc H s) (f1 : F G.sp = none) (f2 : F G.cc = none) (ha : RpA G.K G.sp F vs ds)
    (k : ∀ z F' H', Fw G.sp G.cc F H F' H' s → Rn G.K G.sp H F' H' z (.list ds) → Q z H') (p : Addr) (hp : H p = none) : Q (.ref p) (upd H p (.lst vs)) := by
  have fp : F p = none := by
    cases z : F p with
    | none => rfl
    | some u => rw [e _ _ z] at hp; cases hp
  exact k _ F _ (Fw.put e q hp) ⟨p, vs, rfl, hp, fp, upd_same, ha⟩
theorem new_tup {F H : Hp} {s : Src} {vs : List V} {ds : List D} {Q : VK} (e : Same F H) (q : SrcAt G.sp G.cc H s) (ha : RpA G.K G.sp F vs ds)
    (k : ∀ z F' H', Fw G.sp G.cc F H F' H' s → Rn G.K G.sp H F' H' z (.tuple ds) → Q z H') (p : Addr) (hp : H p = none) : Q (.ref p) (upd H p (.tup vs)) := by
  have fp : F p = none := by
    cases z : F p with
    | none => rfl
    | some u => rw [e _ _ z] at hp; cases hp
  exact k _ _ _ (Fw.lay e q hp) (.tup upd_same (ha.mono (Same.upd' fp)))
theorem op_ok (o : O2) (hK : X.K = G.K) : OpR X (binaryOp o.op) (rOp (G := G) (op2 o)) := by
  intro pins s σ H x y v u Q I rx ry ⟨F, sr, d1, d2, d, e, q, f1, f2, hx, hy, ho, k⟩
  have twoI : ∀ {i j : Int}, d1 = .int i → d2 = .int j → x = .int i ∧ y = .int j := fun {i j} e1 e2 => by
    subst e1 e2; exact ⟨hx.int, hy.int⟩
  have fin : ∀ {i : Int}, d = .int i → Q (.int i) H := fun {i} e1 => by subst e1; exact k _ _ _ (Fw.refl e q) (.int i)
  cases o with
  | add =>
    unfold op2 at ho
    split at ho <;> first | (simp only [reduceCtorEq] at *; done) | skip
    · rename_i i j _
      obtain ⟨rfl, rfl⟩ := twoI rfl rfl
      exact op_add pins s σ H _ _ v u Q I rx ry ⟨i, j, rfl, rfl, fin (Option.some.inj ho).symm⟩
    · rename_i a b _
      obtain ⟨hs, rfl⟩ := if_some ho
      obtain ⟨p1, vs, rfl, h1, n1, n2, h2⟩ := hx
      obtain ⟨p2, us, rfl, h3, n3, n4, h4⟩ := hy
      refine op_cat pins s σ H _ _ v u Q I rx ry ⟨p1, p2, vs, us, rfl, rfl, h1, h3, by rw [h2.length, h4.length]; exact small_le hs, fun p hp => new_list e q f1 f2 (h2.append h4) k p hp⟩
    · rename_i a b _
      obtain ⟨hs, rfl⟩ := if_some ho
      obtain ⟨p1, vs, rfl, h1, h2⟩ := hx.tuple
      obtain ⟨p2, us, rfl, h3, h4⟩ := hy.tuple
      refine op_catA pins s σ H _ _ v u Q I rx ry ⟨p1, p2, vs, us, rfl, rfl, hK ▸ sqT_same e h1, hK ▸ sqT_same e h3, by rw [h2.length, h4.length]; exact small_le hs, fun z => ?_, fun _ z => ?_, fun _ _ p hp => new_tup e q (h2.append h4) k p hp⟩
      · subst z
        cases h2
        exact k _ _ _ (Fw.refl e q) (.tup h3 h4)
      · subst z
        cases h4
        refine k _ _ _ (Fw.refl e q) ?_
        rw [List.append_nil]
        exact .tup h1 h2
  | sub =>
    unfold op2 at ho
    split at ho <;> first | (simp only [reduceCtorEq] at *; done) | skip
    rename_i i j _
    obtain ⟨rfl, rfl⟩ := twoI rfl rfl
    exact op_sub pins s σ H _ _ v u Q I rx ry ⟨i, j, rfl, rfl, fin (Option.some.inj ho).symm⟩
  | mul =>
    unfold op2 at ho
    split at ho <;> first | (simp only [reduceCtorEq] at *; done) | skip
    · rename_i i j _
      obtain ⟨hs, rfl⟩ := if_some ho
      obtain ⟨rfl, rfl⟩ := twoI rfl rfl
      have r : OpR X (binaryOp .Mult) (rI (fun i j => mulOk i j = true) fun i j => .int (i * j)) := opI fun _ _ _ _ _ _ _ hc q => mul_int q (wide_ok hc)
      exact r pins s σ H _ _ v u Q I rx ry ⟨i, j, rfl, rfl, hs, fin rfl⟩
    · rename_i a j _
      obtain ⟨hs, rfl⟩ := if_some ho
      obtain ⟨p1, vs, rfl, h1, n1, n2, h2⟩ := hx
      obtain rfl := hy.int
      simp only [Bool.and_eq_true, decide_eq_true_eq] at hs
      refine op_rep pins s σ H _ _ v u Q I rx ry ⟨p1, j, vs, rfl, rfl, h1, by omega, by omega, by rw [h2.length]; exact small_le hs.2, fun p hp => new_list e q f1 f2 (h2.flat j.toNat) k p hp⟩
    · rename_i a j _
      obtain ⟨hs, rfl⟩ := if_some ho
      obtain ⟨p1, vs, rfl, h1, h2⟩ := hx.tuple
      obtain rfl := hy.int
      simp only [Bool.and_eq_true, decide_eq_true_eq] at hs
      obtain ⟨⟨⟨q1, q2⟩, q3⟩, q4⟩ := hs
      by_cases j1 : j = 1
      · subst j1
        refine op_repT1 pins s σ H _ _ v u Q I rx ry ⟨p1, vs, rfl, rfl, hK ▸ sqT_same e h1, k _ _ _ (Fw.refl e q) ?_⟩
        have e1 : (List.replicate (1 : Int).toNat a).flatten = a := by
          show (List.replicate 1 a).flatten = a
          simp
        rw [e1]
        exact .tup h1 h2
      · have hne : vs ≠ [] := fun z => by
          subst z
          cases h2
          cases q4
        refine op_repT pins s σ H _ _ v u Q I rx ry ⟨p1, j, vs, rfl, rfl, hK ▸ sqT_same e h1, hne, by omega, q2, by rw [h2.length]; exact q3, fun p hp => new_tup e q (h2.flat j.toNat) k p hp⟩
  | fdiv =>
    unfold op2 at ho
    split at ho <;> first | (simp only [reduceCtorEq] at *; done) | skip
    rename_i i j _
    obtain ⟨hs, rfl⟩ := if_some ho
    obtain ⟨rfl, rfl⟩ := twoI rfl rfl
    have r : OpR X (binaryOp .FloorDiv) (rI (fun _ j => divOk j = true) fun i j => .int (i.fdiv j)) := opI fun _ j _ _ _ _ _ hc q => by
      obtain ⟨h1, h2⟩ := Bool.and_eq_true_iff.mp hc
      have h3 : j.natAbs.log2 < 8000 := of_decide_eq_true h2
      exact floordiv_int (of_decide_eq_true h1) q (.inl (PyProof.noPylong_of_log2 (by omega)))
    exact r pins s σ H _ _ v u Q I rx ry ⟨i, j, rfl, rfl, hs, fin rfl⟩
  | mod =>
    unfold op2 at ho
    split at ho <;> first | (simp only [reduceCtorEq] at *; done) | skip
    rename_i i j _
    obtain ⟨hs, rfl⟩ := if_some ho
    obtain ⟨rfl, rfl⟩ := twoI rfl rfl
    exact op_modN pins s σ H _ _ v u Q I rx ry ⟨i, j, rfl, rfl, of_decide_eq_true hs, fin rfl⟩
  | pow =>
    unfold op2 at ho
    split at ho <;> first | (simp only [reduceCtorEq] at *; done) | skip
    rename_i i j _
    obtain ⟨hs, rfl⟩ := if_some ho
    obtain ⟨rfl, rfl⟩ := twoI rfl rfl
    simp only [Bool.and_eq_true, decide_eq_true_eq] at hs
    exact op_pow pins s σ H _ _ v u Q I rx ry ⟨i, j, rfl, rfl, ⟨hs.1.1, hs.1.2, hs.2⟩, fin rfl⟩
theorem ok_op {o : O2} {a b : E} {ea eb : Expr} {pos : Pos} (hK : X.K = G.K) (ha : PE X ea (RdB G a)) (hb : PE X eb (RdB G b)) : OkN X G (.op o a b) (.BinOp ea o.op eb pos) := by
  refine okN hK (pe_imp (pe_op (op_ok o hK) ha hb) fun σ H Q ⟨g, en, F, s, d, s', R, off, he, k⟩ => ?_) rfl fun _ _ => rfl
  obtain ⟨d1, s1, h1, h⟩ := bnd_some he
  obtain ⟨d2, s2, h2, h⟩ := bnd_some h
  obtain ⟨h3, rfl⟩ := lift_some h
  exact two R off h1 h2 fun x y F' H' f r1 r2 => ⟨F', s', d1, d2, d, f.sub, f.src, (R.step f).fsp, (R.step f).fcc, r1, r2, h3, fun z F2 H2 f2 hz => k _ _ _ (f.trans f2) (hz.back f)⟩
end
end Fz
/-! FzCd: dicts whose keys are ints or tuples of ints, as data. -/
namespace Fz
open PySem PySem.Spec PyProof.Rows L2
theorem map_inl : ∀ {a b : List Int}, a.map (Sum.inl : Int → L2.Key) = b.map Sum.inl → a = b
  | [], [], _ => rfl
  | [], _ :: _, h => by cases h
  | _ :: _, [], h => by cases h
  | x :: r, y :: q, h => by
    rw [List.map_cons, List.map_cons] at h
    obtain ⟨h1, h2⟩ := List.cons.inj h
    rw [Sum.inl.inj h1, map_inl h2]
theorem atD_cons (p : D × D) (r : List (D × D)) (k : D) : atD (p :: r) k = if sameK p.1 k then some p.2 else atD r k := by
  unfold atD
  rw [List.find?_cons]
  cases sameK p.1 k <;> rfl
theorem hasD_cons (p : D × D) (r : List (D × D)) (k : D) : hasD (p :: r) k = (sameK p.1 k || hasD r k) := rfl
section
variable {K : PySem.W.Frag} {sp cc : Addr} {F H : Hp}
theorem rpK_val : ∀ {kws : List (List L2.Key × V)} {kvs : List (D × D)}, RpK K sp F kws kvs → ∀ (ds : List D) (ns : List Int), intsOf ds = some ns →
    (∀ d, atD kvs (.tuple ds) = some d → ∃ v, valV kws (ns.map (Sum.inl : Int → L2.Key)) = some v ∧ Rp K sp F v d) ∧ (valV kws (ns.map (Sum.inl : Int → L2.Key))).isSome = hasD kvs (.tuple ds)
  | _, _, .nil, ds, ns, e => ⟨fun d h => (by cases h), rfl⟩
  | _, _, .cons (ns := ms) (v := v) (d := d0) (kws := kws) (kvs := kvs) h a, ds, ns, e => by
    obtain ⟨h1, h2⟩ := rpK_val a ds ns e
    have es : sameK (.tuple (ms.map .int)) (.tuple ds) = decide (ms = ns) := by
      show (match intsOf (ms.map .int), intsOf ds with | some x, some y => decide (x = y) | _, _ => false) = _
      rw [intsOf_map, e]
    rw [hasD_cons]
    simp only [atD_cons]
    rw [es]
    by_cases q : ms = ns
    · subst q
      have e1 : valV ((ms.map (Sum.inl : Int → L2.Key), v) :: kws) (ms.map Sum.inl) = some v := valV_pos rfl
      rw [e1, decide_eq_true rfl]
      refine ⟨fun d hd => ⟨v, rfl, ?_⟩, rfl⟩
      rw [if_pos rfl] at hd
      cases hd
      exact h
    · have e1 : valV ((ms.map (Sum.inl : Int → L2.Key), v) :: kws) (ns.map Sum.inl) = valV kws (ns.map Sum.inl) := valV_neg fun z => q (map_inl z)
      rw [e1, decide_eq_false q]
      exact ⟨h1, h2⟩
theorem rpI_val : ∀ {kws : List (L2.Key × V)} {kvs : List (D × D)}, RpI K sp F kws kvs → ∀ (n : Int),
    (∀ d, atD kvs (.int n) = some d → ∃ v, valV kws (Sum.inl n : L2.Key) = some v ∧ Rp K sp F v d) ∧ (valV kws (Sum.inl n : L2.Key)).isSome = hasD kvs (.int n)
  | _, _, .nil, n => ⟨fun d h => (by cases h), rfl⟩
  | _, _, .cons (n := m) (v := v) (d := d0) (kws := kws) (kvs := kvs) h a, n => by
    obtain ⟨h1, h2⟩ := rpI_val a n
    have es : sameK (.int m) (.int n) = decide (m = n) := rfl
    rw [hasD_cons]
    simp only [atD_cons]
    rw [es]
    by_cases q : m = n
    · subst q
      have e1 : valV (((Sum.inl m : L2.Key), v) :: kws) (Sum.inl m) = some v := valV_pos rfl
      rw [e1, decide_eq_true rfl]
      refine ⟨fun d hd => ⟨v, rfl, ?_⟩, rfl⟩
      rw [if_pos rfl] at hd
      cases hd
      exact h
    · have e1 : valV (((Sum.inl m : L2.Key), v) :: kws) (Sum.inl n) = valV kws (Sum.inl n) := valV_neg fun z => q (Sum.inl.inj z)
      rw [e1, decide_eq_false q]
      exact ⟨h1, h2⟩
theorem kV_ints (ns : List Int) : (ns.map (Sum.inl : Int → L2.Key)).map kV = ns.map V.int := by
  rw [List.map_map]; rfl
/-- a key that is a tuple of ints stands in the heap -/
theorem key_tup {y : V} {ds : List D} {ns : List Int} (r : Rb K sp cc F H y (.tuple ds)) (e : Same F H) (hi : intsOf ds = some ns) : ∃ b, y = .ref b ∧ H b = some (.tup ((ns.map (Sum.inl : Int → L2.Key)).map kV)) := by
  obtain ⟨b, vs, rfl, h, a⟩ := r.tuple
  refine ⟨b, rfl, ?_⟩
  rw [kV_ints, ← a.ints hi]
  exact e _ _ h
theorem same_tup {ns : List Int} {k : D} (h : sameK (.tuple (ns.map .int)) k = true) : ∃ ds, k = .tuple ds ∧ intsOf ds = some ns := by
  cases k with
  | tuple ds =>
    refine ⟨ds, rfl, ?_⟩
    have h : (match intsOf (ns.map .int), intsOf ds with | some x, some y => decide (x = y) | _, _ => false) = true := h
    rw [intsOf_map] at h
    cases q : intsOf ds with
    | none => rw [q] at h; cases h
    | some ms => rw [q] at h; rw [of_decide_eq_true h]
  | _ => cases h
theorem atD_mem {kvs : List (D × D)} {k d : D} (h : atD kvs k = some d) : ∃ p ∈ kvs, sameK p.1 k = true := by
  unfold atD at h
  obtain ⟨p, hp, _⟩ := Option.map_eq_some_iff.mp h
  exact ⟨p, List.mem_of_find?_eq_some hp, by simpa using List.find?_some hp⟩
theorem rpK_key : ∀ {kws : List (List L2.Key × V)} {kvs : List (D × D)}, RpK K sp F kws kvs → ∀ p ∈ kvs, ∃ ns : List Int, p.1 = .tuple (ns.map .int)
  | _, _, .nil, p, h => by cases h
  | _, _, .cons (ns := ns) _ a, p, h => by
    rcases List.mem_cons.mp h with rfl | h
    · exact ⟨ns, rfl⟩
    · exact rpK_key a p h
theorem rpI_key : ∀ {kws : List (L2.Key × V)} {kvs : List (D × D)}, RpI K sp F kws kvs → ∀ p ∈ kvs, ∃ n : Int, p.1 = .int n
  | _, _, .nil, p, h => by cases h
  | _, _, .cons (n := n) _ a, p, h => by
    rcases List.mem_cons.mp h with rfl | h
    · exact ⟨n, rfl⟩
    · exact rpI_key a p h
theorem atD_rep {x y : V} {kvs : List (D × D)} {k d : D} (r : Rb K sp cc F H x (.dict kvs)) (ry : Rb K sp cc F H y k) (e : Same F H) (h : atD kvs k = some d) : ∃ a v, x = .ref a ∧ DGet H a y (some v) ∧ Rp K sp F v d := by
  obtain ⟨p, hp, hs⟩ := atD_mem h
  rcases r with ⟨es, rfl⟩ | ⟨a, o, rfl, hH, _, _, ro⟩
  · injection es with es
    subst es
    cases hp with
    | head => cases hs
    | tail _ hp => cases hp
  · cases o with
    | dT kws =>
      have a0 : RpK K sp F kws kvs := ro
      obtain ⟨ns, en⟩ := rpK_key a0 p hp
      rw [en] at hs
      obtain ⟨ds, rfl, hi⟩ := same_tup hs
      obtain ⟨b, rfl, hb⟩ := key_tup ry e hi
      obtain ⟨v, hv, rv⟩ := (rpK_val a0 ds ns hi).1 d h
      exact ⟨a, v, rfl, .inr ⟨kws, _, b, hH, rfl, hb, hv.symm⟩, rv⟩
    | dK kws =>
      have a0 : RpI K sp F kws kvs := ro
      obtain ⟨n, en⟩ := rpI_key a0 p hp
      rw [en] at hs
      cases k with
      | int m =>
        obtain ⟨v, hv, rv⟩ := (rpI_val a0 m).1 d h
        refine ⟨a, v, rfl, ?_, rv⟩
        rw [ry.int, ← hv]
        exact .inl ⟨kws, Sum.inl m, hH, rfl, rfl⟩
      | _ => cases hs
    | _ => exact ro.elim
/-- what a dict tells of a key; an empty one tells of any -/
def DGetE (H : Hp) (a : Addr) (y : V) (r : Option V) : Prop := DGet H a y r ∨ (r = none ∧ ((Rd H a (.dT []) ∧ ∃ n : Int, y = .int n) ∨ (Rd H a (.dK []) ∧ ∃ b, ∃ ns : List Int, y = .ref b ∧ H b = some (.tup ((ns.map (Sum.inl : Int → L2.Key)).map kV)))))
theorem keyE_rep {x y : V} {kvs : List (D × D)} {k : D} (r : Rb K sp cc F H x (.dict kvs)) (ry : Rb K sp cc F H y k) (e : Same F H) (h : likeK kvs k = true) :
    ∃ a o, x = .ref a ∧ IsD H a ∧ DGetE H a y o ∧ o.isSome = hasD kvs k ∧ (∀ d, atD kvs k = some d → ∃ v, o = some v ∧ Rp K sp F v d) ∧ (atD kvs k = none → o = none) := by
  have isS : ∀ (o : Option V) (kvs : List (D × D)) (k : D), o.isSome = hasD kvs k → atD kvs k = none → o = none := fun o kvs k h1 h2 => by
    cases o with
    | none => rfl
    | some v =>
      exfalso
      have h1 : true = hasD kvs k := h1
      unfold hasD at h1
      unfold atD at h2
      obtain ⟨p, hp, hs⟩ := List.any_eq_true.mp h1.symm
      have := List.find?_eq_none.mp (Option.map_eq_none_iff.mp h2) p hp
      exact this hs
  have kindOf : isTK k = true → ∃ ds ns, k = .tuple ds ∧ intsOf ds = some ns := fun h => by
    cases k with
    | tuple ds =>
      obtain ⟨ms, hi⟩ := Option.isSome_iff_exists.mp (show (intsOf ds).isSome = true from h)
      exact ⟨ds, ms, rfl, hi⟩
    | _ => cases h
  have kindI : isIK k = true → ∃ n, k = .int n := fun h => by
    cases k with
    | int n => exact ⟨n, rfl⟩
    | _ => cases h
  rcases r with ⟨es, rfl⟩ | ⟨a, o, rfl, hH, _, _, ro⟩
  · injection es with es
    subst es
    cases k <;> cases h
  · cases o with
    | dT kws =>
      have a0 : RpK K sp F kws kvs := ro
      have isd : IsD H a := .inr ⟨_, hH⟩
      have tup : isTK k = true → ∃ a' o, V.ref a = .ref a' ∧ IsD H a' ∧ DGetE H a' y o ∧ o.isSome = hasD kvs k ∧ (∀ d, atD kvs k = some d → ∃ v, o = some v ∧ Rp K sp F v d) ∧ (atD kvs k = none → o = none) := fun ht => by
        obtain ⟨ds, ns, rfl, hi⟩ := kindOf ht
        obtain ⟨b, rfl, hb⟩ := key_tup ry e hi
        obtain ⟨q1, q2⟩ := rpK_val a0 ds ns hi
        exact ⟨a, _, rfl, isd, .inl (.inr ⟨kws, _, b, hH, rfl, hb, rfl⟩), q2, fun d hd => (q1 d hd), isS _ _ _ q2⟩
      cases a0 with
      | nil =>
        rcases Bool.or_eq_true_iff.mp (show (isIK k || isTK k) = true from h) with h | h
        · obtain ⟨n, rfl⟩ := kindI h
          exact ⟨a, none, rfl, isd, .inr ⟨rfl, .inl ⟨hH, n, ry.int⟩⟩, rfl, nofun, fun _ => rfl⟩
        · exact tup h
      | @cons ns v d kws kvs rv a1 =>
        refine tup ?_
        have h : ((isIK (PyData.tuple (ns.map .int)) && isIK k) || (isTK (PyData.tuple (ns.map .int)) && isTK k)) = true := h
        have t1 : isTK (.tuple (ns.map PyData.int)) = true := by
          show (intsOf (ns.map .int)).isSome = true
          rw [intsOf_map]; rfl
        rw [t1] at h
        simpa [isIK] using h
    | dK kws =>
      have a0 : RpI K sp F kws kvs := ro
      have isd : IsD H a := .inl ⟨_, hH⟩
      have int : isIK k = true → ∃ a' o, V.ref a = .ref a' ∧ IsD H a' ∧ DGetE H a' y o ∧ o.isSome = hasD kvs k ∧ (∀ d, atD kvs k = some d → ∃ v, o = some v ∧ Rp K sp F v d) ∧ (atD kvs k = none → o = none) := fun ht => by
        obtain ⟨n, rfl⟩ := kindI ht
        obtain ⟨q1, q2⟩ := rpI_val a0 n
        refine ⟨a, _, rfl, isd, .inl ?_, q2, fun d hd => (q1 d hd), isS _ _ _ q2⟩
        rw [ry.int]
        exact .inl ⟨kws, Sum.inl n, hH, rfl, rfl⟩
      cases a0 with
      | nil =>
        rcases Bool.or_eq_true_iff.mp (show (isIK k || isTK k) = true from h) with h | h
        · exact int h
        · obtain ⟨ds, ns, rfl, hi⟩ := kindOf h
          obtain ⟨b, rfl, hb⟩ := key_tup ry e hi
          exact ⟨a, none, rfl, isd, .inr ⟨rfl, .inr ⟨hH, b, ns, rfl, hb⟩⟩, rfl, nofun, fun _ => rfl⟩
      | @cons n v d kws kvs rv a1 =>
        refine int ?_
        have h : ((isIK (PyData.int n) && isIK k) || (isTK (PyData.int n) && isTK k)) = true := h
        simpa [isIK, isTK] using h
    | _ => exact ro.elim
end
/-! ### an empty dict may be of either kind -/
section
variable {X : Cx} {pins : List (Addr × Obj)} {σ : L2.St} {H : Hp} {s : Shared} {a : Addr}
theorem emptyK {P : Program} {w : World} {h : Heap} (ok : HOk P w H h) (e : Rd H a (.dT [])) : (a == sysModules) = false ∧ h.DictOf (mixKind P w) a [] := by
  obtain ⟨_, off, xs, rel, o, es, ep, g1, g2, g3, g4, _⟩ := dt_rd ok e
  cases rel
  have e0 : es = #[] := by
    apply Array.toList_inj.mp
    rw [g4]; rfl
  subst e0
  exact ⟨off, o, #[], ep, g1, g2, g3, (by intro i; intros; simp_all), .nil, List.nodup_nil⟩
theorem emptyT {P : Program} {w : World} {h : Heap} (ok : HOk P w H h) (e : Rd H a (.dK [])) : (a == sysModules) = false ∧ h.DictOfH (tupleKind (mixKind P w)) a [] := by
  obtain ⟨_, off, vs, rel, o, es, ep, g1, g2, g3, _, g4, _⟩ := dk_rd ok e
  cases rel
  have e0 : es.toList = [] := by
    generalize es.toList = l at g4
    cases g4; rfl
  exact ⟨off, o, es, ep, g1, g2, g3, e0, (fun x hx => nomatch hx), List.nodup_nil⟩
variable {y v d : V} {u r : Value} {o : Option V} {A : Around} {E : Value → Shared → Prop}
theorem in_any {Q : Value → Shared → Prop} (hu : A.units + 1 < cLine) (I : Inv X pins σ H s) (g : DGetE H a y o) (ry : RelV y u) (h : ∀ s', Inv X pins σ H s' → Q (.bool o.isSome) s') : wpAny (model X.prog X.w) A (compareOp .In u (.ref a)) Q E s := by
  rcases g with g | ⟨rfl, ⟨e, n, rfl⟩ | ⟨e, b, ns, rfl, hb⟩⟩
  · exact d_in hu I g ry h
  · obtain ⟨off, dd⟩ := emptyK I.hok e
    exact wpAny_in_of (kV_is (k := Sum.inl n) ry) off dd.mapOf (h _ (I.tok _))
  · cases (show u = Value.ref b from ry)
    obtain ⟨off, dd⟩ := emptyT I.hok e
    exact wpAny_in_heap (tupleKind_room_in1 hu) (key_of I.hok hb) off dd (h _ (I.tok _))
theorem notIn_any {Q : Value → Shared → Prop} (hu : A.units + 1 < cLine) (I : Inv X pins σ H s) (g : DGetE H a y o) (ry : RelV y u) (h : ∀ s', Inv X pins σ H s' → Q (.bool (!o.isSome)) s') : wpAny (model X.prog X.w) A (compareOp .NotIn u (.ref a)) Q E s := by
  rcases g with g | ⟨rfl, ⟨e, n, rfl⟩ | ⟨e, b, ns, rfl, hb⟩⟩
  · exact d_notIn hu I g ry h
  · obtain ⟨off, dd⟩ := emptyK I.hok e
    exact wpAny_notIn_of (kV_is (k := Sum.inl n) ry) off dd.mapOf (h _ (I.tok _))
  · cases (show u = Value.ref b from ry)
    obtain ⟨off, dd⟩ := emptyT I.hok e
    exact wpAny_notIn_heap (tupleKind_room_in1 hu) (key_of I.hok hb) off dd (h _ (I.tok _))
theorem get2_any {Q : Value → Shared → Prop} (hu : A.units + 1 < cLine) (I : Inv X pins σ H s) (g : DGetE H a y o) (ry : RelV y u) (rd : RelV d r) (h : ∀ w' s', Inv X pins σ H s' → RelV (o.getD d) w' → Q w' s') :
    wpAny (model X.prog X.w) A (call (.builtin "dict.get") [.ref a, u, r]) Q E s := by
  rcases g with g | ⟨rfl, ⟨e, n, rfl⟩ | ⟨e, b, ns, rfl, hb⟩⟩
  · exact d_get2 hu I g ry rd h
  · obtain ⟨off, dd⟩ := emptyK I.hok e
    exact call_meetsIn PySem.F.slot_dict_get dd.typeIs PySem.F.entry_dict_get (PySem.F.args_dict_get_3 _ _ _) (meets_dict_get_default (mixKind X.prog X.w) a (kV_is (k := Sum.inl n) ry) off r) ⟨_, dd.mapOf, h _ _ (I.tok _) rd⟩
  · cases (show u = Value.ref b from ry)
    obtain ⟨off, dd⟩ := emptyT I.hok e
    exact call_meetsIn PySem.F.slot_dict_get dd.typeIs PySem.F.entry_dict_get (PySem.F.args_dict_get_3 _ _ _) (meetsH_dict_get_default (tupleKind (mixKind X.prog X.w)) a b off r) ⟨tupleKind_room_in1 hu, ns.map Sum.inl, [], key_of I.hok hb, dd, h _ _ (I.tok _) rd⟩
/-- the heap behind a[y] = v, an empty dict being of any kind -/
def DPutE (H : Hp) (a : Addr) (y v : V) (H' : Hp) : Prop := DPut H a y v H' ∨ (H a = some (.dT []) ∧ ∃ n : Int, y = .int n ∧ H' = upd H a (.dK [(Sum.inl n, v)])) ∨
  (H a = some (.dK []) ∧ ∃ b, ∃ ns : List Int, y = .ref b ∧ H b = some (.tup ((ns.map (Sum.inl : Int → L2.Key)).map kV)) ∧ H' = upd H a (.dT [(ns.map Sum.inl, v)]))
theorem asK (I : Inv X pins σ H s) (h : H a = some (.dT [])) : Inv X pins σ (upd H a (.dK [])) s := by
  obtain ⟨off, dd⟩ := emptyK I.hok (.inl h)
  have he : ∃ q, s.heap.get? a = some q := let ⟨q, _, _, hq, _⟩ := dd; ⟨q, hq⟩
  exact d_write (h' := s.heap) (t' := s.toks) I (by rw [h]; trivial) ⟨rfl, fun _ _ => rfl⟩ he ⟨Nat.zero_le _, off, [], .nil, dd⟩
theorem asT (I : Inv X pins σ H s) (h : H a = some (.dK [])) : Inv X pins σ (upd H a (.dT [])) s := by
  obtain ⟨off, o, es, ep, g1, g2, g3, g4, _, g5⟩ := emptyT I.hok (.inl h)
  exact d_write (h' := s.heap) (t' := s.toks) I (by rw [h]; trivial) ⟨rfl, fun _ _ => rfl⟩ ⟨o, g1⟩ ⟨Nat.zero_le _, off, [], .nil, o, es, ep, g1, g2, g3, g4, g5⟩
theorem put_any {H' : Hp} {Q : Unit → Shared → Prop} (hu : A.units + 1 < cLine) (I : Inv X pins σ H s) (g : DPutE H a y v H') (ry : RelV y u) (rv : RelV v r) (h : ∀ s', Inv X pins σ H' s' → Q () s') :
    wpAny (model X.prog X.w) A (setItem (.ref a) u r) Q E s := by
  have up : ∀ (o1 o2 : HO), upd (upd H a o1) a o2 = upd H a o2 := fun o1 o2 => by
    funext b
    by_cases e : b = a
    · rw [e, upd_same, upd_same]
    · rw [upd_ne e, upd_ne e, upd_ne e]
  rcases g with g | ⟨e, n, rfl, rfl⟩ | ⟨e, b, ns, rfl, hb, rfl⟩
  · exact d_setItem hu I g ry rv h
  · refine d_setItem hu (asK I e) (.inl ⟨[], Sum.inl n, upd_same, rfl, by rw [sizeLine_eq]; exact Nat.succ_pos _, ?_⟩) ry rv h
    rw [up]; rfl
  · have nb : b ≠ a := fun z => by rw [z, e] at hb; cases hb
    refine d_setItem hu (asT I e) (.inr ⟨[], ns.map Sum.inl, b, upd_same, rfl, by rw [upd_ne nb]; exact hb, by rw [sizeLine_eq]; exact Nat.succ_pos _, ?_⟩) ry rv h
    rw [up]; rfl
def rSetDE : TSet := fun o i v H Q => ∃ a H', o = .ref a ∧ DPutE H a i v H' ∧ Q H'
theorem set_dictE (hu : X.A.units + 1 < cLine) : PSet X rSetDE := by
  intro pins s σ H o i v ov iv u Q I ro ri rv ⟨a, H', eo, g, q⟩
  subst eo
  cases (show ov = Value.ref a from ro)
  exact put_any hu I g ri rv fun s' I' => ⟨H', I', q⟩
def tGetE (td ty tx : TE) : TE := fun σ H Q => td σ H fun x H1 => ∃ a, x = .ref a ∧ IsD H1 a ∧ ty σ H1 fun y H2 => tx σ H2 fun z H3 => ∃ o, DGetE H3 a y o ∧ Q (o.getD z) H3
theorem pe_getE {o e f : Expr} {td ty tx : TE} {apos cpos : Pos} (hu : X.A.units + 1 < cLine) (ho : PE X o td) (he : PE X e ty) (hf : PE X f tx) (m : M2 X o "get" apos e f cpos) : PE X (.Call (.Attribute o "get" apos) [e, f] [] cpos) (tGetE td ty tx) := ⟨fun pins s σ H Q I h => by
  refine wpAny_Call_method m.base m.few m.line PySem.F.plainAttrs_dict PySem.F.slot_dict_get PySem.F.type_dict_get (thn (ho.run pins s σ H _ I h) fun u s1 ⟨x, H1, I1, rx, a, ex, d, q1⟩ => ?_)
  subst ex
  obtain rfl : u = Value.ref a := rx
  obtain ⟨t1, t2, _⟩ := isD_at I1 d
  refine ⟨t1, t2, ?_⟩
  rw [m.trees]
  exact Calls.callWith_builtin rfl (Calls.evalArgs_plain (Calls.spliced_cons (thn (he.run pins s1 σ H1 _ I1 q1) fun iv s2 ⟨y, H2, I2, ry, q2⟩ =>
    Calls.spliced_cons (thn (hf.run pins s2 σ H2 _ I2 q2) fun fv s3 ⟨z, H3, I3, rz, ov, g, q3⟩ => Calls.spliced_nil (get2_any hu I3 g ry rz fun w' s4 I4 rw' => ⟨_, H3, I4, rw', q3⟩)))))⟩
end
end Fz
/-! FzD: expressions, more: signs, not, and, or, comparisons, displays, items, cuts. -/
namespace Fz
open PySem PySem.Spec PyProof.Rows L2
section
variable {X : Cx} {G : Gx}
/-- one operand -/
theorem one {a : E} {g : List Nat} {en : En} {σ : L2.St} {F H : Hp} {s s1 : Src} {d : D} (R : Rl G.K G.sp G.cc g en σ F H s) (o : Off g (lkB a)) (h1 : evE G.v G.c a en s = some (d, s1))
    {k : V → Hp → Prop} (hk : ∀ x F' H', Fw G.sp G.cc F H F' H' s1 → Rb G.K G.sp G.cc F' H' x d → k x H') : RdB G a σ H k := ⟨g, en, F, s, d, s1, R, o, h1, hk⟩
theorem oneT {a : E} {g : List Nat} {en : En} {σ : L2.St} {F H : Hp} {s s1 : Src} {d : D} {b : Bool} (R : Rl G.K G.sp G.cc g en σ F H s) (o : Off g (lkB a)) (h1 : evE G.v G.c a en s = some (d, s1)) (h2 : truth d = some b)
    {k : Bool → Hp → Prop} (hk : ∀ F' H', Fw G.sp G.cc F H F' H' s1 → k b H') : RdT G a σ H k := ⟨g, en, F, s, d, s1, b, R, o, h1, h2, hk⟩
theorem ok_neg {a : E} {ea : Expr} {pos : Pos} (hK : X.K = G.K) (ha : PE X ea (RdB G a)) : OkE X G (.neg a) (.UnaryOp .USub ea pos) := by
  refine okV hK (pe_imp (pe_un un_neg ha) fun σ H Q ⟨g, en, F, s, d, s', R, off, he, k⟩ => ?_) rfl fun _ _ => rfl
  obtain ⟨d1, s1, h1, h⟩ := bnd_some he
  obtain ⟨h2, rfl⟩ := lift_some h
  refine one R off h1 fun x F' H' f r => ?_
  cases d1 with
  | int i => cases h2; exact ⟨i, r.int, k _ _ _ f (.int (-i))⟩
  | _ => cases h2
theorem ok_not {a : E} {ea : Expr} {pos : Pos} (hK : X.K = G.K) (ha : OkE X G a ea) : OkE X G (.not a) (.UnaryOp .Not ea pos) := by
  have v : PE X (.UnaryOp .Not ea pos) (RdV G (.not a)) := by
    refine pe_imp (pe_notT ha.B) fun σ H Q ⟨g, en, F, s, d, s', R, off, he, k⟩ => ?_
    obtain ⟨d1, s1, h1, h⟩ := bnd_some he
    obtain ⟨h2, rfl⟩ := lift_some h
    obtain ⟨b, h3, rfl⟩ := Option.map_eq_some_iff.mp h2
    exact one R off h1 fun x F' H' f r => ⟨b, truV hK r f.sub h3, k _ _ _ f (.bl (!b))⟩
  refine ⟨B_of_V v rfl, v, ?_⟩
  refine pt_imp (pt_not ha.T) fun σ H Q ⟨g, en, F, s, d, s', b, R, off, he, ht, k⟩ => ?_
  obtain ⟨d1, s1, h1, h⟩ := bnd_some he
  obtain ⟨h2, rfl⟩ := lift_some h
  obtain ⟨c, h3, rfl⟩ := Option.map_eq_some_iff.mp h2
  cases ht
  exact oneT (a := a) R off h1 h3 (k := fun c H1 => Q (!c) H1) fun F' H' f => k _ _ f
theorem lkB_sub : ∀ (a : E) (i : Nat), i ∈ lkB a → i ∈ lk a
  | .var _, i, h => by simp [lkB] at h
  | .non, _, h | .bl _, _, h | .int _, _, h | .str _, _, h | .op .., _, h | .neg _, _, h | .not _, _, h | .and .., _, h | .or .., _, h | .ite .., _, h | .cmp .., _, h | .chain .., _, h | .tup _, _, h | .lst _, _, h | .star _, _, h
  | .dcp .., _, h | .dget .., _, h | .dnew, _, h | .disp .., _, h | .keys .., _, h | .read .., _, h
  | .idx .., _, h | .slc .., _, h | .rev _, _, h | .call .., _, h | .pick .., _, h | .bi .., _, h | .meth .., _, h | .isi .., _, h | .rng _, _, h | .comp .., _, h | .comp2 .., _, h | .dps .., _, h | .dzip .., _, h => h
  | .enum a, i, h => lkB_sub a i h
  | .zip a b _, i, h => List.mem_append.mpr ((List.mem_append.mp (show i ∈ lkB a ++ lkB b from h)).imp (lkB_sub a i) (lkB_sub b i))
theorem off_B {g : List Nat} {a : E} (o : Off g (lk a)) : Off g (lkB a) := fun i hi => o i (lkB_sub a i hi)
/-- a row of and's, or's: the rest behind the first -/
structure OkW (X : Cx) (G : Gx) (op : BoolOp) (e : E) (es : List Expr) : Prop where
  V : ∀ pos, PE X (.BoolOp op es pos) (RdV G e)
  W : ∀ pos, PW X (.BoolOp op es pos) (RdT G e)
theorem pw_imp {e : Expr} {t t' : TT} (h : PW X e t) (i : ∀ σ H Q, t' σ H Q → t σ H Q) : PW X e t' := ⟨fun w pins s σ H Q I q => h.run w pins s σ H Q I (i _ _ _ q)⟩
theorem okW_one {op : BoolOp} {e : E} {ex : Expr} (h : OkE X G e ex) : OkW X G op e [ex] :=
  ⟨fun _ => pe_one h.V, fun _ => by
    cases op with
    | And => exact pw_and1 h.T
    | Or => exact pw_or1 h.T⟩
theorem okW_and {a b : E} {ea eb : Expr} {rest : List Expr} (hK : X.K = G.K) (ha : OkE X G a ea) (hb : OkW X G .And b (eb :: rest)) : OkW X G .And (.and a b) (ea :: eb :: rest) := by
  refine ⟨fun pos => ?_, fun pos => ?_⟩
  · refine pe_imp (pe_andT ha.V (hb.V pos)) fun σ H Q ⟨g, en, F, s, d, s', R, off, he, k⟩ => ?_
    obtain ⟨d1, s1, h1, h⟩ := bnd_some he
    obtain ⟨t, s2, h2', h⟩ := bnd_some h
    obtain ⟨h2, rfl⟩ := lift_some h2'
    refine ⟨g, en, F, s, d1, s2, R, off.l, h1, fun x F' H' f r => ⟨t, truV hK (r.b (s := s2) f.sub (R.step f).fsp (R.step f).fcc) f.sub h2, ?_⟩⟩
    cases t with
    | true =>
      rw [if_pos rfl] at h ⊢
      exact ⟨g, en, F', s2, d, s', R.step f, off.r, h, fun y F2 H2 f2 r2 => k _ _ _ (f.trans f2) r2⟩
    | false =>
      rw [if_neg Bool.false_ne_true] at h ⊢
      obtain ⟨rfl, rfl⟩ := ret_some h
      exact k _ _ _ f r
  · refine pw_imp (pw_and ha.T (hb.W pos)) fun σ H Q ⟨g, en, F, s, d, s', c, R, off, he, ht, k⟩ => ?_
    obtain ⟨d1, s1, h1, h⟩ := bnd_some he
    obtain ⟨t, s2, h2', h⟩ := bnd_some h
    obtain ⟨h2, rfl⟩ := lift_some h2'
    refine oneT R (off_B off.l) h1 h2 fun F' H' f => ?_
    cases t with
    | true =>
      rw [if_pos rfl] at h ⊢
      exact oneT (R.step f) (off_B off.r) h ht fun F2 H2 f2 => k _ _ (f.trans f2)
    | false =>
      rw [if_neg Bool.false_ne_true] at h ⊢
      obtain ⟨rfl, rfl⟩ := ret_some h
      rw [h2] at ht
      cases ht
      exact k _ _ f
theorem okW_or {a b : E} {ea eb : Expr} {rest : List Expr} (hK : X.K = G.K) (ha : OkE X G a ea) (hb : OkW X G .Or b (eb :: rest)) : OkW X G .Or (.or a b) (ea :: eb :: rest) := by
  refine ⟨fun pos => ?_, fun pos => ?_⟩
  · refine pe_imp (pe_orT ha.V (hb.V pos)) fun σ H Q ⟨g, en, F, s, d, s', R, off, he, k⟩ => ?_
    obtain ⟨d1, s1, h1, h⟩ := bnd_some he
    obtain ⟨t, s2, h2', h⟩ := bnd_some h
    obtain ⟨h2, rfl⟩ := lift_some h2'
    refine ⟨g, en, F, s, d1, s2, R, off.l, h1, fun x F' H' f r => ⟨t, truV hK (r.b (s := s2) f.sub (R.step f).fsp (R.step f).fcc) f.sub h2, ?_⟩⟩
    cases t with
    | false =>
      rw [if_neg Bool.false_ne_true] at h ⊢
      exact ⟨g, en, F', s2, d, s', R.step f, off.r, h, fun y F2 H2 f2 r2 => k _ _ _ (f.trans f2) r2⟩
    | true =>
      rw [if_pos rfl] at h ⊢
      obtain ⟨rfl, rfl⟩ := ret_some h
      exact k _ _ _ f r
  · refine pw_imp (pw_or ha.T (hb.W pos)) fun σ H Q ⟨g, en, F, s, d, s', c, R, off, he, ht, k⟩ => ?_
    obtain ⟨d1, s1, h1, h⟩ := bnd_some he
    obtain ⟨t, s2, h2', h⟩ := bnd_some h
    obtain ⟨h2, rfl⟩ := lift_some h2'
    refine oneT R (off_B off.l) h1 h2 fun F' H' f => ?_
    cases t with
    | false =>
      rw [if_neg Bool.false_ne_true] at h ⊢
      exact oneT (R.step f) (off_B off.r) h ht fun F2 H2 f2 => k _ _ (f.trans f2)
    | true =>
      rw [if_pos rfl] at h ⊢
      obtain ⟨rfl, rfl⟩ := ret_some h
      rw [h2] at ht
      cases ht
      exact k _ _ f
theorem okE_of_W {op : BoolOp} {e : E} {es : List Expr} {pos : Pos} (h : OkW X G op e es) (hl : lkB e = lk e) : OkE X G e (.BoolOp op es pos) := ⟨B_of_V (h.V pos) hl, h.V pos, (h.W pos).pt⟩

theorem ok_ite {q a b : E} {eq ea eb : Expr} {pos : Pos} (hK : X.K = G.K) (hq : OkE X G q eq) (ha : OkE X G a ea) (hb : OkE X G b eb) : OkE X G (.ite q a b) (.IfExp eq ea eb pos) := by
  have v : PE X (.IfExp eq ea eb pos) (RdV G (.ite q a b)) := by
    refine pe_imp (pe_ifExp hq.T ha.V hb.V) fun σ H Q ⟨g, en, F, s, d, s', R, off, he, k⟩ => ?_
    obtain ⟨d1, s1, h1, h⟩ := bnd_some he
    obtain ⟨t, s2, h2', h⟩ := bnd_some h
    obtain ⟨h2, rfl⟩ := lift_some h2'
    refine oneT R off.l h1 h2 fun F' H' f => ?_
    cases t with
    | true =>
      rw [if_pos rfl] at h ⊢
      exact ⟨g, en, F', s2, d, s', R.step f, off.r.l, h, fun y F2 H2 f2 r2 => k _ _ _ (f.trans f2) r2⟩
    | false =>
      rw [if_neg Bool.false_ne_true] at h ⊢
      exact ⟨g, en, F', s2, d, s', R.step f, off.r.r, h, fun y F2 H2 f2 r2 => k _ _ _ (f.trans f2) r2⟩
  refine ⟨B_of_V v rfl, v, ⟨fun pins st σ H Q I ⟨g, en, F, s, d, s', c, R, off, he, ht, k⟩ => ?_⟩⟩
  obtain ⟨d1, s1, h1, h⟩ := bnd_some he
  obtain ⟨t, s2, h2', h⟩ := bnd_some h
  obtain ⟨h2, rfl⟩ := lift_some h2'
  show wpAny (model X.prog X.w) X.A (isTrue eq X.env (eval eq X.env) >>= fun z => if z then isTrue ea X.env (eval ea X.env) else isTrue eb X.env (eval eb X.env)) _ _ _
  refine wpAny_bind (thn (hq.T.run pins st σ H _ I (oneT R off.l h1 h2 (k := fun z H1 => if z = true then RdT G a σ H1 Q else RdT G b σ H1 Q) fun F' H' f => ?_)) fun z st2 ⟨H2, I2, q2⟩ => ?_)
  · cases t with
    | true =>
      rw [if_pos rfl] at h ⊢
      exact oneT (R.step f) (off_B off.r.l) h ht fun F2 H2 f2 => k _ _ (f.trans f2)
    | false =>
      rw [if_neg Bool.false_ne_true] at h ⊢
      exact oneT (R.step f) (off_B off.r.r) h ht fun F2 H2 f2 => k _ _ (f.trans f2)
  · cases z with
    | true => exact ha.T.run pins st2 σ H2 Q I2 q2
    | false => exact hb.T.run pins st2 σ H2 Q I2 q2

/-! ### comparisons -/
def Cm.op : Cm → CmpOp
  | .eq => .Eq
  | .ne => .NotEq
  | .lt => .Lt
  | .le => .LtE
  | .gt => .Gt
  | .ge => .GtE
  | .isin => .In
  | .notin => .NotIn
  | .isN => .Is
  | .notN => .IsNot
def rCm (o : D → D → Option Bool) : R2 := fun x y H Q => ∃ F d1 d2 b, Same F H ∧ Rb G.K G.sp G.cc F H x d1 ∧ Rb G.K G.sp G.cc F H y d2 ∧ o d1 d2 = some b ∧ Q (.bl b) H
theorem inTup (hu : X.A.units + 65 < cLine) : OpR X (compareOp .In) (fun x y H Q => ∃ d ds, Dp X.K H x d ∧ Dp X.K H y (.tuple ds) ∧ SeqAt.shaped d = true ∧ SeqAt.shaped (.tuple ds) = true ∧ Q (.bl (ds.any fun z => PyData.eqv z d)) H) := by
  intro pins s σ H x y v u Q I rx ry ⟨d, ds, hd, he, sd, se, q⟩
  obtain ⟨as, r1⟩ := Dp.reads I d x v hd rx
  obtain ⟨bs, r2⟩ := Dp.reads I (.tuple ds) y u he ry
  exact SeqAt.in_tuple_reads r2 r1 (SeqAt.canLay_of_shaped se) (SeqAt.canLay_of_shaped sd) (room_in_shaped sd hu) ⟨.bl _, H, I, rfl, q⟩
theorem notInTup (hu : X.A.units + 65 < cLine) : OpR X (compareOp .NotIn) (fun x y H Q => ∃ d ds, Dp X.K H x d ∧ Dp X.K H y (.tuple ds) ∧ SeqAt.shaped d = true ∧ SeqAt.shaped (.tuple ds) = true ∧ Q (.bl (!ds.any fun z => PyData.eqv z d)) H) := by
  intro pins s σ H x y v u Q I rx ry ⟨d, ds, hd, he, sd, se, q⟩
  obtain ⟨as, r1⟩ := Dp.reads I d x v hd rx
  obtain ⟨bs, r2⟩ := Dp.reads I (.tuple ds) y u he ry
  exact SeqAt.notIn_tuple_reads r2 r1 (SeqAt.canLay_of_shaped se) (SeqAt.canLay_of_shaped sd) (room_in_shaped sd hu) ⟨.bl _, H, I, rfl, q⟩
theorem non_iff {F H : Hp} {x : V} {d : D} (h : Rb G.K G.sp G.cc F H x d) : decide (x = .non) = isNonD d := by
  cases d with
  | none => rw [h.none]; rfl
  | bool b => rw [h.bool]; rfl
  | int i => rw [h.int]; rfl
  | str z => rw [h.str]; rfl
  | list ds => obtain ⟨a, vs, rfl, _⟩ := h; rfl
  | tuple ds => obtain ⟨a, vs, rfl, _⟩ := h.tuple; rfl
  | dict kvs =>
    rcases h with ⟨_, rfl⟩ | ⟨a, o, rfl, _⟩ <;> rfl
theorem cm_ok (o : Cm) (hK : X.K = G.K) (hu : X.A.units + 65 < cLine) : OpR X (compareOp o.op) (rCm (G := G) (cmp2 o)) := by
  intro pins s σ H x y v u Q I rx ry ⟨F, d1, d2, b, e, hx, hy, ho, k⟩
  have dx : okD d1 = true → Dp X.K H x d1 := fun h => hK ▸ hx.dp e (SeqAt.canLay_of_shaped h)
  have dy : okD d2 = true → Dp X.K H y d2 := fun h => hK ▸ hy.dp e (SeqAt.canLay_of_shaped h)
  have two' : ∀ {c : Bool}, (if (okD d1 && okD d2) = true then some c else none) = some b → okD d1 = true ∧ okD d2 = true ∧ c = b := fun {c} h => by
    obtain ⟨h1, h2⟩ := if_some h
    exact ⟨(Bool.and_eq_true_iff.mp h1).1, (Bool.and_eq_true_iff.mp h1).2, h2⟩
  cases o with
  | eq =>
    by_cases hs : ∃ z1 z2, d1 = .str z1 ∧ d2 = .str z2
    · obtain ⟨z1, z2, rfl, rfl⟩ := hs
      cases ho
      refine op_eq pins s σ H x y v u Q I rx ry ?_
      rw [hx.str, hy.str]
      exact ⟨rfl, by simpa using k⟩
    have ho : (if (okD d1 && okD d2) = true then some (PyData.eqv d1 d2) else none) = some b := by
      rw [← ho]
      cases d1 <;> cases d2 <;> first | rfl | exact absurd ⟨_, _, rfl, rfl⟩ hs
    obtain ⟨h1, h2, rfl⟩ := two' (show (if (okD d1 && okD d2) = true then some (PyData.eqv d1 d2) else none) = some b from ho)
    exact op_eqD (by omega) pins s σ H x y v u Q I rx ry ⟨d1, d2, dx h1, dy h2, h1, h2, k⟩
  | ne =>
    by_cases hs : ∃ z1 z2, d1 = .str z1 ∧ d2 = .str z2
    · obtain ⟨z1, z2, rfl, rfl⟩ := hs
      cases ho
      refine op_ne pins s σ H x y v u Q I rx ry ?_
      rw [hx.str, hy.str]
      exact ⟨rfl, by simpa using k⟩
    have ho : (if (okD d1 && okD d2) = true then some (!PyData.eqv d1 d2) else none) = some b := by
      rw [← ho]
      cases d1 <;> cases d2 <;> first | rfl | exact absurd ⟨_, _, rfl, rfl⟩ hs
    obtain ⟨h1, h2, rfl⟩ := two' (show (if (okD d1 && okD d2) = true then some (!PyData.eqv d1 d2) else none) = some b from ho)
    exact op_neD (by omega) pins s σ H x y v u Q I rx ry ⟨d1, d2, dx h1, dy h2, h1, h2, k⟩
  | lt =>
    unfold cmp2 at ho
    split at ho <;> first | (simp only [reduceCtorEq] at *; done) | skip
    rename_i i j _
    have z := Option.some.inj ho; subst z
    exact op_lt pins s σ H x y v u Q I rx ry ⟨i, j, hx.int, hy.int, k⟩
  | le =>
    unfold cmp2 at ho
    split at ho <;> first | (simp only [reduceCtorEq] at *; done) | skip
    rename_i i j _
    have z := Option.some.inj ho; subst z
    exact op_le pins s σ H x y v u Q I rx ry ⟨i, j, hx.int, hy.int, k⟩
  | gt =>
    unfold cmp2 at ho
    split at ho <;> first | (simp only [reduceCtorEq] at *; done) | skip
    rename_i i j _
    have z := Option.some.inj ho; subst z
    exact op_gt pins s σ H x y v u Q I rx ry ⟨i, j, hx.int, hy.int, k⟩
  | ge =>
    unfold cmp2 at ho
    split at ho <;> first | (simp only [reduceCtorEq] at *; done) | skip
    rename_i i j _
    have z := Option.some.inj ho; subst z
    exact op_ge pins s σ H x y v u Q I rx ry ⟨i, j, hx.int, hy.int, k⟩
  | isin =>
    unfold cmp2 at ho
    split at ho <;> first | (simp only [reduceCtorEq] at *; done) | skip
    · obtain ⟨h1, h2, rfl⟩ := two' ho
      exact op_inD hu pins s σ H x y v u Q I rx ry ⟨_, _, dx h1, dy h2, h1, h2, k⟩
    · obtain ⟨h1, h2, rfl⟩ := two' ho
      exact inTup hu pins s σ H x y v u Q I rx ry ⟨_, _, dx h1, dy h2, h1, h2, k⟩
    · obtain ⟨h1, h2⟩ := if_some ho
      subst h2
      obtain ⟨a, r, rfl, _, g, er, _⟩ := keyE_rep hy hx e h1
      cases ry
      exact in_any (by omega) I g rx fun s' I' => ⟨.bl _, H, I', rfl, er ▸ k⟩
  | notin =>
    unfold cmp2 at ho
    split at ho <;> first | (simp only [reduceCtorEq] at *; done) | skip
    · obtain ⟨h1, h2, rfl⟩ := two' ho
      exact op_notInD hu pins s σ H x y v u Q I rx ry ⟨_, _, dx h1, dy h2, h1, h2, k⟩
    · obtain ⟨h1, h2, rfl⟩ := two' ho
      exact notInTup hu pins s σ H x y v u Q I rx ry ⟨_, _, dx h1, dy h2, h1, h2, k⟩
    · obtain ⟨h1, h2⟩ := if_some ho
      subst h2
      obtain ⟨a, r, rfl, _, g, er, _⟩ := keyE_rep hy hx e h1
      cases ry
      exact notIn_any (by omega) I g rx fun s' I' => ⟨.bl _, H, I', rfl, er ▸ k⟩
  | isN =>
    unfold cmp2 at ho
    split at ho <;> first | (simp only [reduceCtorEq] at *; done) | skip
    · have e : b = decide (x = .non) := by rw [non_iff hx]; exact (Option.some.inj ho).symm
      exact op_isN pins s σ H x y v u Q I rx ry ⟨hy.none, e ▸ k⟩
    · rw [hx.bool] at rx
      rw [hy.bool] at ry
      exact op_isBl pins s σ H _ _ v u Q I rx ry ⟨_, _, rfl, rfl, (Option.some.inj ho) ▸ k⟩
  | notN =>
    unfold cmp2 at ho
    split at ho <;> first | (simp only [reduceCtorEq] at *; done) | skip
    · have e : b = !decide (x = .non) := by rw [non_iff hx]; exact (Option.some.inj ho).symm
      exact op_notN pins s σ H x y v u Q I rx ry ⟨hy.none, e ▸ k⟩
    · rw [hx.bool] at rx
      rw [hy.bool] at ry
      exact op_notBl pins s σ H _ _ v u Q I rx ry ⟨_, _, rfl, rfl, (Option.some.inj ho) ▸ k⟩
theorem ok_cmp {o : Cm} {a b : E} {ea eb : Expr} {pos : Pos} (hK : X.K = G.K) (hu : X.A.units + 65 < cLine) (hm : behindInMarks o.op eb = false) (ha : PE X ea (RdB G a)) (hb : PE X eb (RdB G b)) : OkE X G (.cmp o a b) (.Compare ea [o.op] [eb] pos) := by
  have v : PE X (.Compare ea [o.op] [eb] pos) (RdV G (.cmp o a b)) := by
    refine pe_imp (pe_cmpR (cm_ok o hK hu) ha hb hm) fun σ H Q ⟨g, en, F, s, d, s', R, off, he, k⟩ => ?_
    obtain ⟨d1, s1, h1, h⟩ := bnd_some he
    obtain ⟨d2, s2, h2, h⟩ := bnd_some h
    obtain ⟨h3, rfl⟩ := lift_some h
    obtain ⟨b', h4, rfl⟩ := Option.map_eq_some_iff.mp h3
    exact two R off h1 h2 fun x y F' H' f r1 r2 => ⟨F', d1, d2, b', f.sub, r1, r2, h4, k _ _ _ f (.bl b')⟩
  refine ⟨B_of_V v rfl, v, ?_⟩
  refine pt_imp (pt_cmpR (cm_ok o hK hu) ha hb hm) fun σ H Q ⟨g, en, F, s, d, s', c, R, off, he, ht, k⟩ => ?_
  obtain ⟨d1, s1, h1, h⟩ := bnd_some he
  obtain ⟨d2, s2, h2, h⟩ := bnd_some h
  obtain ⟨h3, rfl⟩ := lift_some h
  obtain ⟨b', h4, rfl⟩ := Option.map_eq_some_iff.mp h3
  cases ht
  exact two R off h1 h2 fun x y F' H' f r1 r2 => ⟨F', d1, d2, c, f.sub, r1, r2, h4, c, rfl, k _ _ f⟩
theorem ok_chain {o1 o2 : Cm} {a b c : E} {ea eb ec : Expr} {pos : Pos} (hK : X.K = G.K) (hu : X.A.units + 65 < cLine) (hm : lastMarks [o1.op, o2.op] [eb, ec] = false) (ha : PE X ea (RdB G a)) (hb : PE X eb (RdB G b)) (hc : PE X ec (RdB G c)) :
    OkE X G (.chain o1 o2 a b c) (.Compare ea [o1.op, o2.op] [eb, ec] pos) := by
  have core : ∀ {σ : L2.St} {H : Hp} {g : List Nat} {en : En} {F : Hp} {s s' : Src} {d : D} {Q : VK}, Rl G.K G.sp G.cc g en σ F H s → Off g (lkB a ++ (lkB b ++ lkB c)) → evE G.v G.c (.chain o1 o2 a b c) en s = some (d, s') →
      (∀ t F' H', d = .bool t → Fw G.sp G.cc F H F' H' s' → Q (.bl t) H') → tChain (rCm (G := G) (cmp2 o1)) (rCm (G := G) (cmp2 o2)) (RdB G a) (RdB G b) (RdB G c) σ H Q := by
    intro σ H g en F s s' d Q R off he k
    obtain ⟨d1, s1, h1, h⟩ := bnd_some he
    obtain ⟨d2, s2, h2, h⟩ := bnd_some h
    obtain ⟨t, s3, h3', h⟩ := bnd_some h
    obtain ⟨h3, rfl⟩ := lift_some h3'
    have off2 : Off g (lkB a ++ lkB b) := fun i hi => (List.mem_append.mp hi).elim (off.l i) (off.r.l i)
    refine two R off2 h1 h2 fun x y F' H' f r1 r2 => ⟨F', d1, d2, t, f.sub, r1, r2, h3, t, rfl, ?_⟩
    cases t with
    | true =>
      rw [if_pos rfl] at h ⊢
      obtain ⟨d3, s4, h4, h⟩ := bnd_some h
      obtain ⟨h5, rfl⟩ := lift_some h
      obtain ⟨b', h6, rfl⟩ := Option.map_eq_some_iff.mp h5
      exact one (R.step f) off.r.r h4 fun z F2 H2 f2 r3 => ⟨F2, d2, d3, b', f2.sub, r2.step f2, r3, h6, k b' _ _ rfl (f.trans f2)⟩
    | false =>
      rw [if_neg Bool.false_ne_true] at h ⊢
      obtain ⟨rfl, rfl⟩ := ret_some h
      exact k false _ _ rfl f
  have v : PE X (.Compare ea [o1.op, o2.op] [eb, ec] pos) (RdV G (.chain o1 o2 a b c)) := pe_imp (pe_chain (cm_ok o1 hK hu) (cm_ok o2 hK hu) ha hb hc hm) fun σ H Q ⟨g, en, F, s, d, s', R, off, he, k⟩ =>
    core R off he fun t F' H' e f => by subst e; exact k _ _ _ f (.bl t)
  refine ⟨B_of_V v rfl, v, ?_⟩
  refine pt_imp (pt_chain (cm_ok o1 hK hu) (cm_ok o2 hK hu) ha hb hc hm) fun σ H Q ⟨g, en, F, s, d, s', c', R, off, he, ht, k⟩ => ?_
  exact core R off he fun t F' H' e f => by subst e; cases ht; exact ⟨c', rfl, k _ _ f⟩
end
end Fz
/-! FzE: argument lists, displays, items, cuts, built-ins. -/
namespace Fz
open PySem PySem.Spec PyProof.Rows L2
def isStarE : E → Bool
  | .star _ => true
  | _ => false
def isStarX : Expr → Bool
  | .Starred .. => true
  | _ => false
def isSliceX : Expr → Bool
  | .Slice .. => true
  | _ => false
theorem starEach_no {e : Expr} (h : isStarX e = false) (es : List Expr) (env : Env) : starEach (e :: es) env = (false, eval e env) :: starEach es env := by
  cases e <;> first | rfl | cases h
theorem any_no {pos : Pos} {env : Env} : ∀ {es : List Expr}, es.all (fun e => !isStarX e) = true → (backTo pos (starEach es env)).any (·.1) = false
  | [], _ => rfl
  | e :: es, h => by
    have h2 := Bool.and_eq_true_iff.mp (show (!isStarX e && es.all fun e => !isStarX e) = true from h)
    have h3 : isStarX e = false := by simpa using h2.1
    rw [starEach_no h3]
    exact any_no (es := es) h2.2
section
variable {X : Cx} {G : Gx}
theorem evL_cons {v : Bool} {c : Cl} {a : E} (h : isStarE a = false) (r : List E) (en : En) : evL v c (a :: r) en = bnd (evE v c a en) fun x => bnd (evL v c r en) fun ys => ret (x :: ys) := by
  cases a <;> first | rfl | cases h
theorem lkL_cons {a : E} (h : isStarE a = false) (r : List E) : lkL (a :: r) = lk a ++ lkL r := by
  cases a <;> first | rfl | cases h
theorem okA_nil : PA X [] (RdL G []) := pa_imp pa_nil fun σ H Q ⟨g, en, F, s, ds, s', R, off, he, k⟩ => by
  obtain ⟨rfl, rfl⟩ := ret_some he
  exact k _ _ _ (rl_same R) .nil
theorem okA_cons {a : E} {ea : Expr} {es : List E} {exs : List Expr} (h1 : isStarE a = false) (h2 : isStarX ea = false) (ha : PE X ea (RdV G a)) (hr : PA X exs (RdL G es)) : PA X (ea :: exs) (RdL G (a :: es)) := by
  refine pa_imp (pa_cons ha hr (starEach_no h2 _ _)) fun σ H Q ⟨g, en, F, s, ds, s', R, off, he, k⟩ => ?_
  rw [evL_cons h1] at he
  rw [lkL_cons h1] at off
  obtain ⟨d1, s1, q1, h⟩ := bnd_some he
  obtain ⟨ds2, s2, q2, h⟩ := bnd_some h
  obtain ⟨rfl, rfl⟩ := ret_some h
  exact ⟨g, en, F, s, d1, s1, R, off.l, q1, fun x F1 H1 f1 r1 => ⟨g, en, F1, s1, ds2, s', R.step f1, off.r, q2, fun xs F2 H2 f2 r2 => k _ _ _ (f1.trans f2) (.cons (r1.mono f2.fr) r2)⟩⟩
theorem okA_star {a : E} {ea : Expr} {p : Pos} {es : List E} {exs : List Expr} (hK : X.K = G.K) (ha : PE X ea (RdB G a)) (hr : PA X exs (RdL G es)) : PA X (.Starred ea p :: exs) (RdL G (.star a :: es)) := by
  refine pa_imp (StX.pa_star ha hr) fun σ H Q ⟨g, en, F, s, ds, s', R, off, he, k⟩ => ?_
  obtain ⟨d1, s2, q1, h1⟩ := bnd_some he
  obtain ⟨xs1, q2, h2⟩ := bnd_lift h1
  obtain ⟨ds2, s3, q3, h3⟩ := bnd_some h2
  obtain ⟨rfl, rfl⟩ := ret_some h3
  refine one R off.l q1 fun x F1 H1 f1 r1 => ?_
  have fin : ∀ {vs : List V}, RpA G.K G.sp F1 vs xs1 → RdL G es σ H1 fun ys H2 => Q (vs ++ ys) H2 := fun {vs} ra => ⟨g, en, F1, s2, ds2, s', R.step f1, off.r, q3, fun ys F2 H2 f2 r2 => k _ _ _ (f1.trans f2) ((ra.mono f2.fr).append r2)⟩
  cases d1 with
  | list xs =>
    cases q2
    obtain ⟨p', vs, rfl, e1, n1, n2, ra⟩ := r1
    exact ⟨p', vs, rfl, .inr (SqL.of e1), fin ra⟩
  | tuple xs =>
    cases q2
    obtain ⟨p', vs, rfl, e1, ra⟩ := r1.tuple
    exact ⟨p', vs, rfl, .inl (hK ▸ sqT_same f1.sub e1), fin ra⟩
  | _ => cases q2
theorem okBA_nil : PA X [] (RdBL G []) := pa_imp pa_nil fun σ H Q ⟨g, en, F, s, ds, s', R, off, he, k⟩ => by
  obtain ⟨rfl, rfl⟩ := ret_some he
  exact k _ _ _ (rl_same R) trivial
theorem okBA_cons {a : E} {ea : Expr} {es : List E} {exs : List Expr} (h1 : isStarE a = false) (h2 : isStarX ea = false) (ha : PE X ea (RdB G a)) (hr : PA X exs (RdBL G es)) : PA X (ea :: exs) (RdBL G (a :: es)) := by
  refine pa_imp (pa_cons ha hr (starEach_no h2 _ _)) fun σ H Q ⟨g, en, F, s, ds, s', R, off, he, k⟩ => ?_
  rw [evL_cons h1] at he
  obtain ⟨d1, s1, q1, h⟩ := bnd_some he
  obtain ⟨ds2, s2, q2, h⟩ := bnd_some h
  obtain ⟨rfl, rfl⟩ := ret_some h
  exact ⟨g, en, F, s, d1, s1, R, off.l, q1, fun x F1 H1 f1 r1 => ⟨g, en, F1, s1, ds2, s', R.step f1, off.r, q2, fun xs F2 H2 f2 r2 => k _ _ _ (f1.trans f2) ⟨r1.step f2, r2⟩⟩⟩

/-! ### displays -/
theorem ok_lst {es : List E} {exs : List Expr} {pos : Pos} (hK : X.K = G.K) (ha : PA X exs (RdL G es)) : OkN X G (.lst es) (.List exs pos) := by
  refine okN hK (pe_imp (pe_lst ha) fun σ H Q ⟨g, en, F, s, d, s', R, off, he, k⟩ => ?_) rfl fun _ _ => rfl
  obtain ⟨ds, s1, h1, h⟩ := bnd_some he
  obtain ⟨h2, rfl⟩ := lift_some h
  obtain ⟨ds', h3, rfl⟩ := Option.map_eq_some_iff.mp h2
  obtain ⟨hs, rfl⟩ := if_some h3
  refine ⟨g, en, F, s, ds, s', R, off, h1, fun xs F1 H1 f1 r1 => ⟨by rw [r1.length]; exact small_le hs, fun p hp => ?_⟩⟩
  exact new_list f1.sub f1.src (R.step f1).fsp (R.step f1).fcc r1 (fun z F2 H2 f2 hz => k _ _ _ (f1.trans f2) (hz.back f1)) p hp
theorem ok_tup {es : List E} {exs : List Expr} {n : Nat} {pos : Pos} (hK : X.K = G.K) (ha : PA X exs (RdL G es)) : OkN X G (.tup es) (.Tuple exs n pos) := by
  refine okN hK (pe_imp (pe_tup ha) fun σ H Q ⟨g, en, F, s, d, s', R, off, he, k⟩ => ?_) rfl fun _ _ => rfl
  obtain ⟨ds, s1, h1, h⟩ := bnd_some he
  obtain ⟨h2, rfl⟩ := lift_some h
  obtain ⟨ds', h3, rfl⟩ := Option.map_eq_some_iff.mp h2
  obtain ⟨hs, rfl⟩ := if_some h3
  refine ⟨g, en, F, s, ds, s', R, off, h1, fun xs F1 H1 f1 r1 => ⟨by rw [r1.length]; exact small_le hs, fun p hp => ?_⟩⟩
  exact new_tup f1.sub f1.src r1 (fun z F2 H2 f2 hz => k _ _ _ (f1.trans f2) (hz.back f1)) p hp

/-! ### items, cuts -/
theorem atI_rep {K : PySem.W.Frag} {sp : Addr} {F : Hp} {vs : List V} {ds : List D} {i : Int} {d : D} (h : RpA K sp F vs ds) (e : item ds i = some d) : ∃ v, atI vs i = some v ∧ Rp K sp F v d := by
  unfold item atI at *
  rw [h.length]
  obtain ⟨j, e1, e2⟩ := Option.bind_eq_some_iff.mp e
  obtain ⟨v, e3, r⟩ := h.get e2
  exact ⟨v, by rw [e1]; exact e3, r⟩
theorem plainIx_of {b : Expr} (h : isSliceX b = false) : PlainIx b := by
  cases b <;> first | exact fun _ _ => rfl | cases h
theorem ok_idx {a b : E} {ea eb : Expr} {pos : Pos} (hK : X.K = G.K) (hu : X.A.units + 65 < cLine) (hs : isSliceX eb = false) (ha : PE X ea (RdB G a)) (hb : PE X eb (RdB G b)) : OkE X G (.idx a b) (.Subscript ea eb pos) := by
  refine okV hK ⟨fun pins st σ H Q I ⟨g, en, F, s, d, s', R, off, he, k⟩ => ?_⟩ rfl fun _ _ => rfl
  obtain ⟨d1, s1, h1, h⟩ := bnd_some he
  obtain ⟨d2, s2, h2, h⟩ := bnd_some h
  obtain ⟨h3, rfl⟩ := lift_some h
  by_cases hd : ∃ kvs, d1 = .dict kvs
  · obtain ⟨kvs, rfl⟩ := hd
    refine (pe_dget (pos := pos) (by omega) ha hb (plainIx_of hs)).run pins st σ H Q I (two R off h1 h2 fun x y F' H' f r1 r2 => ?_)
    obtain ⟨p, v, rfl, gt, rv⟩ := atD_rep r1 r2 f.sub (show atD kvs d2 = some d from h3)
    exact ⟨p, v, rfl, gt, k _ _ _ f rv⟩
  · refine (pe_ix (pos := pos) ix_seq ha hb (plainIx_of hs)).run pins st σ H Q I (two R off h1 h2 fun x y F' H' f r1 r2 => ?_)
    cases d1 with
    | list xs => cases d2 with
      | int i =>
        obtain ⟨p, vs, rfl, e1, n1, n2, ra⟩ := r1
        obtain ⟨v, e2, rv⟩ := atI_rep ra h3
        exact .inl ⟨p, vs, i, v, rfl, r2.int, SqL.of e1, e2, k _ _ _ f rv⟩
      | _ => cases h3
    | tuple xs => cases d2 with
      | int i =>
        obtain ⟨p, vs, rfl, e1, ra⟩ := r1.tuple
        obtain ⟨v, e2, rv⟩ := atI_rep ra h3
        exact .inr (.inl ⟨p, vs, i, v, rfl, r2.int, hK ▸ sqT_same f.sub e1, e2, k _ _ _ f rv⟩)
      | _ => cases h3
    | dict kvs => exact absurd ⟨_, rfl⟩ hd
    | _ => cases d2 <;> cases h3
theorem cutV_rep {K : PySem.W.Frag} {sp : Addr} {F : Hp} {vs : List V} {ds : List D} (h : RpA K sp F vs ds) (lo hi : Option Int) : RpA K sp F (cutV vs lo hi) (cut ds lo hi) := by
  unfold cutV cut
  rw [h.length]
  exact (h.drop _).take _
/-- a slice's end -/
def RdO (G : Gx) (o : Option E) : TO := fun σ H Q => ∃ g en F s od s' oi, Rl G.K G.sp G.cc g en σ F H s ∧ Off g (lkO o) ∧ evO G.v G.c o en s = some (od, s') ∧ intOpt od = some oi ∧
  ∀ F' H', Fw G.sp G.cc F H F' H' s' → Q oi H'
theorem po_imp {o : Option Expr} {t t' : TO} (h : PO X o t) (i : ∀ σ H Q, t' σ H Q → t σ H Q) : PO X o t' := ⟨fun pins s σ H Q I q => h.run pins s σ H Q I (i _ _ _ q)⟩
theorem okO_none : PO X none (RdO G none) := po_imp po_none fun σ H Q ⟨g, en, F, s, od, s', oi, R, off, he, hi, k⟩ => by
  obtain ⟨rfl, rfl⟩ := ret_some he
  cases hi
  exact k _ _ (rl_same R)
theorem okO_some {e : E} {ex : Expr} (h : PE X ex (RdB G e)) : PO X (some ex) (RdO G (some e)) := po_imp (po_some h) fun σ H Q ⟨g, en, F, s, od, s', oi, R, off, he, hi, k⟩ => by
  obtain ⟨d1, s1, h1, h⟩ := bnd_some he
  obtain ⟨rfl, rfl⟩ := ret_some h
  refine one R off h1 fun x F' H' f r => ?_
  cases d1 with
  | int i => cases hi; exact ⟨i, r.int, k _ _ f⟩
  | _ => cases hi
theorem ok_slc {a : E} {ea : Expr} {lo hi : Option E} {elo ehi : Option Expr} {p2 pos : Pos} (hK : X.K = G.K) (ha : PE X ea (RdB G a)) (hl : PO X elo (RdO G lo)) (hh : PO X ehi (RdO G hi)) : OkN X G (.slc a lo hi) (.Subscript ea (.Slice elo ehi none p2) pos) := by
  refine okN hK (pe_imp (pe_slice (sl_list.or sl_tupA) ha hl hh) fun σ H Q ⟨g, en, F, s, d, s', R, off, he, k⟩ => ?_) rfl fun _ _ => rfl
  obtain ⟨d1, s1, h1, h⟩ := bnd_some he
  obtain ⟨o1, s2, h2, h⟩ := bnd_some h
  obtain ⟨o2, s3, h3, h⟩ := bnd_some h
  obtain ⟨h4, rfl⟩ := lift_some h
  obtain ⟨i, e1, h5⟩ := Option.bind_eq_some_iff.mp h4
  obtain ⟨j, e2, h6⟩ := Option.bind_eq_some_iff.mp h5
  refine one R off.l h1 fun x F1 H1 f1 r1 => ⟨g, en, F1, s1, o1, s2, i, R.step f1, off.r.l, h2, e1, fun F2 H2 f2 => ⟨g, en, F2, s2, o2, s', j, (R.step f1).step f2, off.r.r, h3, e2, fun F3 H3 f3 => ?_⟩⟩
  have f := (f1.trans f2).trans f3
  have r := (r1.step f2).step f3
  have R3 := R.step f
  cases d1 with
  | list xs =>
    cases h6
    obtain ⟨p, vs, rfl, e1, n1, n2, ra⟩ := r
    exact .inl ⟨p, vs, rfl, SqL.of e1, fun q hq => new_list f.sub f.src R3.fsp R3.fcc (cutV_rep ra i j) (fun z F4 H4 f4 hz => k _ _ _ (f.trans f4) (hz.back f)) q hq⟩
  | tuple xs =>
    cases h6
    obtain ⟨p, vs, rfl, e1, ra⟩ := r.tuple
    refine .inr ⟨p, vs, rfl, hK ▸ sqT_same f.sub e1, fun hw => k _ _ _ f ?_, fun _ q hq => new_tup f.sub f.src (cutV_rep ra i j) (fun z F4 H4 f4 hz => k _ _ _ (f.trans f4) (hz.back f)) q hq⟩
    have e3 : cut xs i j = xs := by
      have hl := ra.length
      rw [hl] at hw
      unfold cut
      rw [hw.1, hw.2]
      simp
    show Rp _ _ _ _ (.tuple (cut xs i j))
    rw [e3]
    exact .tup e1 ra
  | _ => cases h6
end
end Fz
/-! FzEt: sum, max, min of a tuple of ints. -/
namespace Fz
open PySem PySem.Spec PyProof.Rows L2
section
variable {prog : Program} {w : World} {A : Around} {E : Value → Shared → Prop} {s : Shared} {l : Addr}
theorem iterT {items : Array Value} {Q : Value → Shared → Prop} (hl : s.heap.IsTuple l items)
    (h : ∀ z : Shared, z = { s with heap := s.heap.push { cls := .type "tuple_iterator", data := .fields #[.ref l, .int 0 0] } } →
      (z.heap.IsTupleIter s.heap.objs.size l 0 ∧ z.heap.IsTuple l items) → (∀ b ∈ [s.heap.objs.size, l], b < z.heap.objs.size) → l ≠ s.heap.objs.size → Q (.ref s.heap.objs.size) z) : wpAny (model prog w) A (pyIter (.ref l)) Q E s := by
  have lt : l < s.heap.objs.size := by obtain ⟨_, e, _⟩ := hl; exact Heap.lt_size e
  refine wpAny_pyIter_tuple hl (h _ rfl ⟨⟨_, Heap.get?_push_size _ rfl, rfl, rfl⟩, hl.at fun o e => Heap.get?_push_of_some _ e⟩ (fun b hb => ?_) (Nat.ne_of_lt lt))
  have sz : (s.heap.push { cls := .type "tuple_iterator", data := .fields #[.ref l, .int 0 0] }).objs.size = s.heap.objs.size + 1 := Heap.size_push ..
  show b < (s.heap.push { cls := .type "tuple_iterator", data := .fields #[.ref l, .int 0 0] }).objs.size
  rw [sz]
  simp only [List.mem_cons, List.not_mem_nil, or_false] at hb
  rcases hb with rfl | rfl
  · exact Nat.lt_succ_self _
  · exact Nat.lt_succ_of_lt lt
theorem keptT {h' : Heap} (hk : ∀ b o, b ∉ [s.heap.objs.size] → (s.heap.push { cls := .type "tuple_iterator", data := .fields #[.ref l, .int 0 0] }).get? b = some o → h'.get? b = some o) :
    ∀ b o, s.heap.get? b = some o → h'.get? b = some o := fun b o e => hk b o (fun hm => by
  have : b = s.heap.objs.size := by simpa using hm
  exact absurd (this ▸ Heap.lt_size e) (Nat.lt_irrefl _)) (Heap.get?_push_of_some _ e)
variable {its : List Value} {ns : List Int} {Q : Value → Shared → Prop}
theorem sumT_raw (hh : A.handled = none) (hl : s.heap.IsTuple l its.toArray) (hi : IntsAre its ns)
    (h : ∀ h' tk t', (∀ b o, s.heap.get? b = some o → h'.get? b = some o) → Q (.int ns.sum t') { s with heap := h', toks := tk }) : wpAny (model prog w) A (call (.builtin "sum") [.ref l]) Q E s := by
  obtain ⟨xs, e⟩ := hi.allInts.items
  have hn : numsOf (intItems xs).toList = ns := by rw [← e]; exact hi.numsOf
  rw [nums_intItems] at hn
  rw [e] at hl
  refine call_sum_walkG (iterT hl fun z ez st hfp hlI => ?_)
  subst ez
  refine ⟨_, _, _, _, _, _, numAt xs, rfl, Walks.tuple (A := A.in1) hh _ l hlI (intItems xs), st, hfp, (fun _ _ => intItems_at), fun h' tk t' hk => ?_⟩
  have q := h h' tk t' (keptT hk)
  have sz : (intItems xs).size = xs.size := by simp [intItems]
  rw [sz, preSum_eq, List.take_of_length_le (by simp), hn]
  exact q
theorem maxT_raw (hh : A.handled = none) (hl : s.heap.IsTuple l its.toArray) (hi : IntsAre its ns) (hne : 0 < ns.length)
    (h : ∀ h' tk M t', (∀ b o, s.heap.get? b = some o → h'.get? b = some o) → M ∈ ns → (∀ a, a ∈ ns → a ≤ M) → Q (.int M t') { s with heap := h', toks := tk }) : wpAny (model prog w) A (call (.builtin "max") [.ref l]) Q E s := by
  obtain ⟨xs, e⟩ := hi.allInts.items
  have hn : numsOf (intItems xs).toList = ns := by rw [← e]; exact hi.numsOf
  rw [nums_intItems] at hn
  subst hn
  rw [e] at hl
  have sz : (intItems xs).size = xs.size := by simp [intItems]
  have hsz : 0 < xs.size := by simpa using hne
  refine call_max_walk (iterT hl fun z ez st hfp hlI => ?_)
  subst ez
  refine ⟨_, _, _, _, _, _, _, rfl, Walks.tuple (A := A.in1) hh _ l hlI (intItems xs), st, hfp, by rw [sz]; exact hsz, CmpOf.ints_gt (numAt xs) (fun _ _ => intItems_at), fun v h' tk hP hk => ?_⟩
  rw [sz] at hP
  obtain ⟨t, rfl⟩ := intItems_at hP
  obtain ⟨h1, h2⟩ := argBest_gt (numAt xs) (xs.size - 1)
  refine h h' tk _ t (keptT hk) ?_ fun a ha => ?_
  · rw [numAt_eq]; exact PySem.getD_mem (by rw [List.length_map, Array.length_toList]; omega)
  · obtain ⟨j, hj, rfl⟩ := mem_getD ha
    rw [List.length_map, Array.length_toList] at hj
    rw [← numAt_eq]; exact h2 j (by omega)
theorem minT_raw (hh : A.handled = none) (hl : s.heap.IsTuple l its.toArray) (hi : IntsAre its ns) (hne : 0 < ns.length)
    (h : ∀ h' tk M t', (∀ b o, s.heap.get? b = some o → h'.get? b = some o) → M ∈ ns → (∀ a, a ∈ ns → M ≤ a) → Q (.int M t') { s with heap := h', toks := tk }) : wpAny (model prog w) A (call (.builtin "min") [.ref l]) Q E s := by
  obtain ⟨xs, e⟩ := hi.allInts.items
  have hn : numsOf (intItems xs).toList = ns := by rw [← e]; exact hi.numsOf
  rw [nums_intItems] at hn
  subst hn
  rw [e] at hl
  have sz : (intItems xs).size = xs.size := by simp [intItems]
  have hsz : 0 < xs.size := by simpa using hne
  refine call_min_walk (iterT hl fun z ez st hfp hlI => ?_)
  subst ez
  refine ⟨_, _, _, _, _, _, _, rfl, Walks.tuple (A := A.in1) hh _ l hlI (intItems xs), st, hfp, by rw [sz]; exact hsz, CmpOf.ints_lt (numAt xs) (fun _ _ => intItems_at), fun v h' tk hP hk => ?_⟩
  rw [sz] at hP
  obtain ⟨t, rfl⟩ := intItems_at hP
  obtain ⟨h1, h2⟩ := argBest_lt (numAt xs) (xs.size - 1)
  refine h h' tk _ t (keptT hk) ?_ fun a ha => ?_
  · rw [numAt_eq]; exact PySem.getD_mem (by rw [List.length_map, Array.length_toList]; omega)
  · obtain ⟨j, hj, rfl⟩ := mem_getD ha
    rw [List.length_map, Array.length_toList] at hj
    rw [← numAt_eq]; exact h2 j (by omega)
end
section
variable {X : Cx}
theorem cr_sumT (hc : X.calm = true) : CallR X (.builtin "sum") (fun vs H Q => ∃ (a : Addr) (ns : List Int), vs = [V.ref a] ∧ SqT X.K H a (ns.map V.int) ∧ Q (.int ns.sum) H) := by
  intro pins s σ H vs us Q I r ⟨a, ns, e, hs, q⟩
  subst e
  obtain ⟨its, rv, hl, _⟩ := I.tuple hs
  rw [Vals.ref1 r]
  exact sumT_raw (I.ok.hd hc) hl rv.ints fun h' tk t' hk => ⟨.int _, H, I.kept hk, ⟨_, rfl⟩, q⟩
theorem cr_maxT (hc : X.calm = true) : CallR X (.builtin "max") (fun vs H Q => ∃ (a : Addr) (ns : List Int), vs = [V.ref a] ∧ SqT X.K H a (ns.map V.int) ∧ 0 < ns.length ∧ ∀ m, m ∈ ns → (∀ y, y ∈ ns → y ≤ m) → Q (.int m) H) := by
  intro pins s σ H vs us Q I r ⟨a, ns, e, hs, hne, q⟩
  subst e
  obtain ⟨its, rv, hl, _⟩ := I.tuple hs
  rw [Vals.ref1 r]
  exact maxT_raw (I.ok.hd hc) hl rv.ints hne fun h' tk m t' hk h1 h2 => ⟨.int _, H, I.kept hk, ⟨_, rfl⟩, q m h1 h2⟩
theorem cr_minT (hc : X.calm = true) : CallR X (.builtin "min") (fun vs H Q => ∃ (a : Addr) (ns : List Int), vs = [V.ref a] ∧ SqT X.K H a (ns.map V.int) ∧ 0 < ns.length ∧ ∀ m, m ∈ ns → (∀ y, y ∈ ns → m ≤ y) → Q (.int m) H) := by
  intro pins s σ H vs us Q I r ⟨a, ns, e, hs, hne, q⟩
  subst e
  obtain ⟨its, rv, hl, _⟩ := I.tuple hs
  rw [Vals.ref1 r]
  exact minT_raw (I.ok.hd hc) hl rv.ints hne fun h' tk m t' hk h1 h2 => ⟨.int _, H, I.kept hk, ⟨_, rfl⟩, q m h1 h2⟩
end
/-- a bool's or an int's truth -/
inductive TrAll : List V → List Bool → Prop
  | nil : TrAll [] []
  | bl (b : Bool) {vs : List V} {bs : List Bool} : TrAll vs bs → TrAll (.bl b :: vs) (b :: bs)
  | int (i : Int) {vs : List V} {bs : List Bool} : TrAll vs bs → TrAll (.int i :: vs) ((i != 0) :: bs)
theorem TrAll.len : ∀ {vs : List V} {bs : List Bool}, TrAll vs bs → vs.length = bs.length
  | _, _, .nil => rfl
  | _, _, .bl _ h => congrArg (· + 1) h.len
  | _, _, .int _ h => congrArg (· + 1) h.len
theorem TrAll.at : ∀ {vs : List V} {bs : List Bool} {i : Nat} {v : V}, TrAll vs bs → vs[i]? = some v → (v = .bl (bs.getD i false)) ∨ ∃ k, v = .int k ∧ bs.getD i false = (k != 0)
  | _, _, 0, v, .bl b _, e => .inl (by cases e; rfl)
  | _, _, 0, v, .int k _, e => .inr ⟨k, by cases e; rfl, rfl⟩
  | _, _, i + 1, v, .bl b h, e => h.at (i := i) (by simpa using e)
  | _, _, i + 1, v, .int k h, e => h.at (i := i) (by simpa using e)
  | _, _, i, v, .nil, e => by simp at e
theorem RpA.trs {K : PySem.W.Frag} {sp : Addr} {F : Hp} : ∀ {vs : List V} {ds : List D} {bs : List Bool}, RpA K sp F vs ds → trsOf ds = some bs → TrAll vs bs
  | _, _, _, .nil, e => by simp [trsOf] at e; subst e; exact .nil
  | _, _, ns, .cons (.bl b) a, e => by
    obtain ⟨ms, e1, rfl⟩ := Option.map_eq_some_iff.mp (show (trsOf _).map _ = some ns from e)
    exact .bl b (RpA.trs a e1)
  | _, _, ns, .cons (.int i) a, e => by
    obtain ⟨ms, e1, rfl⟩ := Option.map_eq_some_iff.mp (show (trsOf _).map _ = some ns from e)
    exact .int i (RpA.trs a e1)
  | _, _, ns, .cons .non a, e => nomatch e
  | _, _, ns, .cons (.str _) a, e => nomatch e
  | _, _, ns, .cons (.lst _ _) a, e => nomatch e
  | _, _, ns, .cons (.tup _ _) a, e => nomatch e
  | _, _, ns, .cons .src a, e => nomatch e
  | _, _, ns, .cons (.dct _ _) a, e => nomatch e
  | _, _, ns, .cons (.dck _ _) a, e => nomatch e
theorem truth_of {prog : Program} {w : World} {A : Around} {vs : List V} {its : List Value} {bs : List Bool} (rv : Vals vs its) (h : TrAll vs bs) : TruthOf prog w A (fun i v => its.toArray[i]? = some v) (fun i => bs.getD i false) := fun i v s Q E hv hq => by
  have hv2 : its[i]? = some v := by simpa using hv
  have hlt : i < vs.length := by rw [rv.length]; exact (List.getElem?_eq_some_iff.mp hv2).1
  obtain ⟨u, hu, ru⟩ := rv.get (show vs[i]? = some vs[i] by simp [hlt])
  have uv : u = v := by rw [hv2] at hu; exact (Option.some.inj hu).symm
  subst uv
  have hq2 : Q (bs.getD i false) s := hq
  rcases h.at (show vs[i]? = some vs[i] by simp [hlt]) with e | ⟨k, e, eb⟩
  · rw [e] at ru
    cases ru
    exact wpAny_truthy_bool hq2
  · rw [e] at ru
    obtain ⟨t, rfl⟩ := ru
    rw [eb] at hq2
    exact truthy_int hq2
section
variable {X : Cx}
def rTr (K : PySem.W.Frag) (f : List Bool → Bool) : List V → Hp → VK → Prop := fun xs H Q => ∃ (a : Addr) (vs : List V) (bs : List Bool), xs = [V.ref a] ∧ (SqL K H a vs ∨ SqT K H a vs) ∧ TrAll vs bs ∧ Q (.bl (f bs)) H
theorem cr_anyG (hc : X.calm = true) : CallR X (.builtin "any") (rTr X.K fun bs => bs.any id) := by
  intro pins s σ H xs us Q I r ⟨a, vs, bs, e, hs, ht, q⟩
  subst e
  rw [Vals.ref1 r]
  rcases hs with hs | hs
  · obtain ⟨its, rv, hl, _⟩ := I.list hs
    refine call_any_walk (iter_any hl.isList fun z ez st hne => ?_)
    subst ez
    refine ⟨_, _, _, _, _, _, _, rfl, Walks.list (A := X.A.in1) (I.ok.hd hc) _ a hne its.toArray, st, truth_of rv ht, fun h' tk hk => ⟨.bl _, H, I.kept fun b o eo => hk b o (fun hm => ?_) (Heap.get?_push_of_some _ eo), ?_, q⟩⟩
    · exact absurd (Heap.lt_size eo) (by rw [List.mem_singleton.mp hm]; exact Nat.lt_irrefl _)
    · show Value.bool _ = Value.bool (bs.any id)
      rw [← L2.any_range, List.size_toArray, ← rv.length, ht.len]
  · obtain ⟨its, rv, hl, _⟩ := I.tuple hs
    refine call_any_walk (iterT hl fun z ez st _ hne => ?_)
    subst ez
    refine ⟨_, _, _, _, _, _, _, rfl, Walks.tuple (A := X.A.in1) (I.ok.hd hc) _ a hne its.toArray, st, truth_of rv ht, fun h' tk hk => ⟨.bl _, H, I.kept (keptT hk), ?_, q⟩⟩
    show Value.bool _ = Value.bool (bs.any id)
    rw [← L2.any_range, List.size_toArray, ← rv.length, ht.len]
theorem cr_allG (hc : X.calm = true) : CallR X (.builtin "all") (rTr X.K fun bs => bs.all id) := by
  intro pins s σ H xs us Q I r ⟨a, vs, bs, e, hs, ht, q⟩
  subst e
  rw [Vals.ref1 r]
  rcases hs with hs | hs
  · obtain ⟨its, rv, hl, _⟩ := I.list hs
    refine call_all_walk (iter_any hl.isList fun z ez st hne => ?_)
    subst ez
    refine ⟨_, _, _, _, _, _, _, rfl, Walks.list (A := X.A.in1) (I.ok.hd hc) _ a hne its.toArray, st, truth_of rv ht, fun h' tk hk => ⟨.bl _, H, I.kept fun b o eo => hk b o (fun hm => ?_) (Heap.get?_push_of_some _ eo), ?_, q⟩⟩
    · exact absurd (Heap.lt_size eo) (by rw [List.mem_singleton.mp hm]; exact Nat.lt_irrefl _)
    · show Value.bool _ = Value.bool (bs.all id)
      rw [← L2.all_range, List.size_toArray, ← rv.length, ht.len]
  · obtain ⟨its, rv, hl, _⟩ := I.tuple hs
    refine call_all_walk (iterT hl fun z ez st _ hne => ?_)
    subst ez
    refine ⟨_, _, _, _, _, _, _, rfl, Walks.tuple (A := X.A.in1) (I.ok.hd hc) _ a hne its.toArray, st, truth_of rv ht, fun h' tk hk => ⟨.bl _, H, I.kept (keptT hk), ?_, q⟩⟩
    show Value.bool _ = Value.bool (bs.all id)
    rw [← L2.all_range, List.size_toArray, ← rv.length, ht.len]
end
end Fz
/-! FzEr: a tuple turned round, sorted ints of a tuple, isinstance, the place of a value. -/
namespace Fz
open PySem PySem.Spec PyProof.Rows L2
section
variable {prog : Program} {w : World} {A : Around} {E : Value → Shared → Prop} {s : Shared}
theorem back_places (n : Nat) : Builtin.Slice.slicePlaces ((n : Int) - 1) (-1) (-1) = n := by
  unfold Builtin.Slice.slicePlaces
  rw [if_neg (by decide)]
  by_cases hn : (n : Int) - 1 > -1
  · rw [if_pos hn, show -(-1 : Int) = 1 from rfl, Int.ediv_one]
    omega
  · rw [if_neg hn]
    omega
theorem back_pick (xs : Array Value) : ((List.range xs.size).filterMap fun (m : Nat) => xs[(((xs.size : Int) - 1) + (m : Int) * (-1)).toNat]?).toArray = xs.toList.reverse.toArray := by
  have e0 := PySem.W.krv_pick xs
  unfold slicePick at e0
  rw [← e0]
  have e1 : sliceBounds none none (some (-1)) xs.size = ((xs.size : Int) - 1, -1, -1) := by
    simp [sliceBounds]
  rw [e1]
  show _ = ((sliceRange ((xs.size : Int) - 1) (-1) (-1)).filterMap fun x => xs[x]?).toArray
  rw [PySem.W.krv_sliceRange, List.filterMap_map]
  congr 1
  have all : ∀ (l : List Nat), (∀ m ∈ l, m < xs.size) → l.filterMap (fun (m : Nat) => xs[(((xs.size : Int) - 1) + (m : Int) * (-1)).toNat]?) = l.filterMap ((fun x => xs[x]?) ∘ fun k => xs.size - 1 - k) := by
    intro l
    induction l with
    | nil => intro _; rfl
    | cons m l ih =>
      intro hl
      have hm := hl m (List.mem_cons_self ..)
      have e : xs[(((xs.size : Int) - 1) + (m : Int) * (-1)).toNat]? = ((fun x => xs[x]?) ∘ fun k => xs.size - 1 - k) m := by
        show _ = xs[xs.size - 1 - m]?
        congr 1
        omega
      rw [List.filterMap_cons, List.filterMap_cons, e, ih fun x hx => hl x (List.mem_cons_of_mem _ hx)]
  exact all _ fun m hm => List.mem_range.mp hm
theorem back_applied {sl : Addr} {vs : Value} {n : Nat} {Q : Int × Int × Nat → Shared → Prop} (hs : s.heap.IsSliceOf sl .none .none vs) (ps : IsPart vs (some (-1))) (h : Q ((n : Int) - 1, -1, n) s) :
    wpAny (model prog w) A (Builtin.Slice.sliceApplied (.ref sl) (pure (n : Int))) Q E s := by
  obtain ⟨o, ho, _, hd⟩ := hs
  unfold Builtin.Slice.sliceApplied Builtin.Slice.sliceFields
  refine wpAny_bind (wpAny_bind (wpAny_field ho hd (x := .none) rfl (wpAny_bind (wpAny_field ho hd (x := .none) rfl (wpAny_bind (wpAny_field ho hd (x := vs) rfl (wpAny_pure ?_)))))))
  refine wpAny_bind (HT.slicePart_ ps ?_)
  show wpAny (model prog w) A (if ((-1 : Int) == 0) = true then _ else _) Q E s
  rw [if_neg (by decide)]
  refine wpAny_bind (PyProof.Rows.slicePart_none (wpAny_bind (PyProof.Rows.slicePart_none (wpAny_bind (wpAny_pure ?_)))))
  show wpAny (model prog w) A (pure ((n : Int) - 1, (-1 : Int), Builtin.Slice.slicePlaces ((n : Int) - 1) (-1) (-1))) Q E s
  rw [back_places]
  exact wpAny_pure h
theorem back_tuple {t sl : Addr} {items : Array Value} {vs : Value} {Q : Value → Shared → Prop} (ht : IsTup s.heap t items) (hs : s.heap.IsSliceOf sl .none .none vs) (ps : IsPart vs (some (-1)))
    (h : Q (.ref s.heap.objs.size) { s with heap := s.heap.push { cls := .type "tuple", data := .seq items.toList.reverse.toArray } }) (hz : items.size ≤ sizeLine) : wpAny (model prog w) A (getItem (.ref t) (.ref sl)) Q E s := by
  have hok : PySem.sizeOk (.seq items.toList.reverse.toArray) := by
    show items.toList.reverse.toArray.size ≤ sizeLine
    rw [List.size_toArray, List.length_reverse, Array.length_toList]
    exact hz
  obtain ⟨o, ho, hc, hd⟩ := id hs
  have ty : s.TypeIs (.ref sl) "slice" := ⟨o, ho, hc⟩
  unfold getItem
  try with_reducible refine wpAny_holding ?_
  first | (refine wpAny_bind (wpAny_pure ?_)) | skip
  refine wpAny_bind (wpAny_sequenceKey ht.typeIs (by decide) (wpAny_bind (wpAny_callSpecial?_slot (name := Str.ofString "__getitem__") ht.typeIs PyProof.Rows.slot_tuple_getitem
    (wpAny_call_entry PyProof.Rows.slot_tuple_getitem ht.typeIs PyProof.Rows.entry_tuple_getitem ?_ (PyProof.Rows.args_tuple_getitem _ _)))))
  show wpAny (model prog w) _ (Builtin.Tuple.tupleItemsOf (.ref t) >>= _) _ _ s
  refine wpAny_bind (tupleItemsOf_ ht (wpAny_bind (wpAny_typeOf ty ?_)))
  rw [if_pos (by decide)]
  refine wpAny_bind (back_applied (n := items.size) hs ps ?_)
  have no : ¬ ((((items.size : Int) - 1) == 0 && (-1 : Int) == 1 && items.size == items.size) = true) := by simp
  show wpAny (model prog w) A.in1 (if ((((items.size : Int) - 1) == 0 && (-1 : Int) == 1 && items.size == items.size) = true) then _ else _) _ _ s
  rw [if_neg no, back_pick]
  first
    | exact wpAny_bind (m := Builtin.Tuple.tupleExact _) (wpAny_newObj_type (wpAny_pure ⟨_, rfl, wpAny_pure h⟩) hok)
    | exact wpAny_bind (m := Builtin.Tuple.tupleExact _) (wpAny_newObj_type (wpAny_bind (wpAny_pure (wpAny_pure ⟨_, rfl, wpAny_pure h⟩))) hok)
    | exact wpAny_bind (wpAny_bind (m := Builtin.Tuple.tupleExact _) (wpAny_newObj_type (wpAny_pure (wpAny_pure ⟨_, rfl, wpAny_pure h⟩)) hok))
    | exact wpAny_bind (wpAny_bind (m := Builtin.Tuple.tupleExact _) (wpAny_newObj_type (wpAny_pure ⟨_, rfl, wpAny_pure h⟩) hok))
theorem collectT {l : Addr} {vs : List Value} {Q : List Value → Shared → Prop} (hl : s.heap.IsTuple l vs.toArray)
    (h : Q vs { s with heap := (s.heap.push (seqObj "list" #[] 0)).update s.heap.objs.size (Obj.mapSeq (· ++ vs.toArray)) }) (hz : vs.length ≤ sizeLine) : wpAny (model prog w) A (collect (.ref l)) Q E s := by
  obtain ⟨o, ho, hc, n, hd⟩ := id hl
  have ho' : (s.heap.push (seqObj "list" #[] 0)).get? l = some o := Heap.get?_push_of_some _ ho
  have own : (s.heap.push (seqObj "list" #[] 0)).get? s.heap.objs.size = some (seqObj "list" #[] 0) := Heap.get?_push_size _ rfl
  unfold collect
  refine wpAny_bind (wpAny_runValue (codeAny_builtin entry_proto_collect' ?_))
  show wpAny (model prog w) _ (do again (.builtin "list.__iadd__" ⟨[← newList [], .ref l], []⟩)) _ _ s
  refine wpAny_bind (wpAny_newList (wpAny_pure ⟨Code.quiet_builtin _ (by decide +kernel), codeAny_builtin entry_list_iadd' ?_⟩))
  show wpAny (model prog w) _ (Builtin.List.listExtendWith (.ref s.heap.objs.size) (.ref l) (.ref s.heap.objs.size)) _ _ { s with heap := s.heap.push (seqObj "list" #[] 0) }
  unfold Builtin.List.listExtendWith
  refine wpAny_bind (wpAny_typeOf (T := "tuple") ⟨o, ho', hc⟩ ?_)
  have tt : (Value.type "tuple" == Value.type "tuple") = true := by rfl
  rw [if_pos (by rw [tt, Bool.or_true])]
  refine wpAny_bind (listItems_at ho' hd (wpAny_bind (listItems_at (xs := #[]) (n := 0) own rfl ?_)))
  rw [if_neg (by simp)]
  have room : (#[] ++ vs.toArray).size ≤ sizeLine + 1 := by
    simp only [Array.size_append, List.size_toArray, List.length_nil]; omega
  refine wpAny_bind (listUpdate_at (xs := #[]) (n := 0) own rfl (wpAny_pure ?_) (Nat.zero_le _) room)
  show wpAny (model prog w) A (do let o ← load s.heap.objs.size
                                  match o.data with | .seq xs _ => pure xs.toList | _ => unsupported "internal:collect") Q E { s with heap := (s.heap.push (seqObj "list" #[] 0)).update s.heap.objs.size (Obj.mapSeq (· ++ vs.toArray)) }
  refine wpAny_bind (wpAny_load (get?_update_seq own _) ?_)
  show wpAny (model prog w) A (pure ((#[] : Array Value) ++ vs.toArray).toList) Q E _
  have e : ((#[] : Array Value) ++ vs.toArray).toList = vs := by simp
  rw [e]
  exact wpAny_pure h
theorem sortedT_ord {l : Addr} {vs : List Value} {ltv : Value → Value → Bool} {Q : Value → Shared → Prop} (O : SrtO.Swo ltv) (hl : s.heap.IsTuple l vs.toArray) (hz : vs.length ≤ sizeLine)
    (hS : 2 ≤ vs.length → ∀ (h₁ : Heap) (a : Addr), h₁.get? a = some (seqObj "list" vs.toArray 0) → SrtO.SortableO prog w A.in1.in1 { s with heap := h₁ } a vs ltv)
    (h : ∀ out : List Value, SrtO.Srtd ltv out → SrtO.Stb ltv out vs → Q (.ref (s.heap.objs.size + 1)) { s with heap := sortedAll s.heap vs out.toArray }) : wpAny (model prog w) A (call (.builtin "sorted") [.ref l]) Q E s := by
  refine Calls.call_function_entry kind_sorted plain_sorted entry_sorted (args_sorted1 _) ?_
  unfold Builtin.«sorted»
  refine wpAny_bind (m := checkCount "sorted" 1 1 _) (wpAny_pure (wpAny_bind (collectT hl (wpAny_bind (wpAny_newList ?_ hz)) hz)))
  have size1 : ((s.heap.push (seqObj "list" #[] 0)).update s.heap.objs.size (Obj.mapSeq (· ++ vs.toArray))).objs.size = s.heap.objs.size + 1 := by rw [Heap.size_update, size_push']
  have newL : (((s.heap.push (seqObj "list" #[] 0)).update s.heap.objs.size (Obj.mapSeq (· ++ vs.toArray))).push (seqObj "list" vs.toArray 0)).get? (s.heap.objs.size + 1) = some (seqObj "list" vs.toArray 0) := by
    rw [← size1]; exact Heap.get?_push_size _ rfl
  show wpAny (model prog w) _ _ _ _ { s with heap := ((s.heap.push (seqObj "list" #[] 0)).update s.heap.objs.size (Obj.mapSeq (· ++ vs.toArray))).push (seqObj "list" vs.toArray 0) }
  rw [size1]
  exact wpAny_bind (wpAny_holding (wpAny_call_entry slot_list_sort ⟨_, newL, rfl⟩ entry_list_sort (SrtO.list_sort_ord O newL hz (fun h2 => hS h2 _ _ newL) fun out hs hb => ⟨_, rfl, wpAny_pure ⟨_, rfl, h out hs hb⟩⟩) (args_list_sort _)))
end
section
variable {X : Cx} {G : Gx}
/-- t[::-1], t a tuple -/
def tRevT (K : PySem.W.Frag) (te : TE) : TE := fun σ H Q => te σ H fun x H1 => ∃ a xs, x = .ref a ∧ SqT K H1 a xs ∧ ∀ p, H1 p = none → Q (.ref p) (upd H1 p (.tup xs.reverse))
theorem pe_revT {e : Expr} {te : TE} {k : Nat} {p1 p2 p3 pos : Pos} (he : PE X e te) : PE X (.Subscript e (.Slice none none (some (.UnaryOp .USub (.Constant (.int 1) k p1) p2)) p3) pos) (tRevT X.K te) := by
  refine ⟨fun pins s σ H Q I h => Subscript_ (thn (he.run pins s σ H _ I h) fun v s1 ⟨x, H1, I1, r1, a, xs, ex, hx, q⟩ => ?_)⟩
  subst ex
  cases r1
  have st : PO X (some (.UnaryOp .USub (.Constant (.int 1) k p1) p2)) (tPart (tUn (rU fun i => .int (-i)) (tC (.int 1)))) := po_some (pe_un un_neg pe_int)
  refine wpAny_Slice (thn (po_none.run pins s1 σ H1 (fun o H2 => o = none ∧ H2 = H1) I1 ⟨rfl, rfl⟩) fun vl s2 ⟨l, H2, I2, pl, el, e2⟩ => ?_)
  subst el e2
  refine thn (po_none.run pins s2 σ H2 (fun o H3 => o = none ∧ H3 = H2) I2 ⟨rfl, rfl⟩) fun vu s3 ⟨u, H3, I3, pu, eu, e3⟩ => ?_
  subst eu e3
  refine thn (st.run pins s3 σ H3 (fun o H4 => o = some (-1) ∧ H4 = H3) I3 ⟨1, rfl, -1, rfl, rfl, rfl⟩) fun vs s4 ⟨o, H4, I4, ps, eo, e4⟩ => ?_
  subst eo e4
  have J : Inv X pins σ H4 { s4 with heap := s4.heap.push { cls := .type "slice", data := .fields #[vl, vu, vs] } } := I4.kept (t' := s4.toks) fun b ob z => Heap.get?_push_of_some _ z
  obtain ⟨its, r, ht, hz⟩ := J.tuple hx
  have len := r.length
  have vn : vl = .none := by cases pl; rfl
  have un : vu = .none := by cases pu; rfl
  subst vn un
  show wpAny (model X.prog X.w) X.A (subscriptTail e (.Slice none none (some (.UnaryOp .USub (.Constant (.int 1) k p1) p2)) p3) (.ref a) (.ref s4.heap.objs.size)) (EP X pins σ Q) X.xe { s4 with heap := s4.heap.push { cls := .type "slice", data := .fields #[.none, .none, vs] } }
  refine tail_any (ops := [.ref a, .ref s4.heap.objs.size]) ht.typeIs (PyProof.Rows.slot_tuple_getitem.lookup) ?_ (by with_unfolding_all rfl)
  refine back_tuple ht (Heap.IsSliceOf.new _ .none .none vs) ps ?_ (by rw [List.size_toArray]; omega)
  refine ⟨.ref _, _, J.laid (t' := s4.toks) (o := .tup xs.reverse) (fun b ob z => Heap.get?_push_of_some _ z) (Nat.le_refl _) ?_, rfl, q _ (J.hok.fresh (Nat.le_refl _))⟩
  exact ⟨by rw [List.length_reverse]; exact hz, _, r.reverse, _, Heap.get?_push_size _ rfl, rfl, _, rfl⟩
theorem ok_revL {a : E} {ea : Expr} {kk : Nat} {p1 p2 p3 pos : Pos} (hK : X.K = G.K) (ha : PE X ea (RdB G a)) :
    OkN X G (.rev a) (.Subscript ea (.Slice none none (some (.UnaryOp .USub (.Constant (.int 1) kk p1) p2)) p3) pos) := by
  refine okN hK ⟨fun pins st σ H Q I ⟨g, en, F, s, d, s', R, off, he, k⟩ => ?_⟩ rfl fun _ _ => rfl
  obtain ⟨d1, s1, h1, h⟩ := bnd_some he
  obtain ⟨h4, rfl⟩ := lift_some h
  cases d1 with
  | list xs =>
    cases h4
    refine (pe_revL ha).run pins st σ H Q I (one R off h1 fun x F1 H1 f r => ?_)
    obtain ⟨p, vs, rfl, e1, n1, n2, ra⟩ := r
    exact ⟨p, vs, rfl, SqL.of e1, fun q hq => new_list f.sub f.src (R.step f).fsp (R.step f).fcc ra.rev (fun z F4 H4 f4 hz => k _ _ _ (f.trans f4) (hz.back f)) q hq⟩
  | tuple xs =>
    cases h4
    refine (pe_revT ha).run pins st σ H Q I (one R off h1 fun x F1 H1 f r => ?_)
    obtain ⟨p, vs, rfl, e1, ra⟩ := r.tuple
    exact ⟨p, vs, rfl, hK ▸ sqT_same f.sub e1, fun q hq => new_tup f.sub f.src ra.rev (fun z F4 H4 f4 hz => k _ _ _ (f.trans f4) (hz.back f)) q hq⟩
  | _ => cases h4
/-- sorted(t), t a tuple of ints -/
def rSortIT (K : PySem.W.Frag) : List V → Hp → VK → Prop := fun vs H Q => ∃ (a : Addr) (ns : List Int), vs = [V.ref a] ∧ SqT K H a (ns.map V.int) ∧
  ∀ (ns' : List Int) (p : Addr), ns'.Perm ns → ns'.Pairwise (· ≤ ·) → H p = none → Q (.ref p) (upd H p (.lst (ns'.map V.int)))
theorem cr_sortIT : CallR X (.builtin "sorted") (rSortIT X.K) := by
  intro pins s σ H vs us Q I r ⟨a, ns, ev, hs, q⟩
  subst ev
  obtain ⟨its, rv, hl, hz⟩ := I.tuple hs
  rw [Vals.ref1 r]
  have hi := rv.ints
  refine sortedT_ord SrtO.swo_int hl (by rw [← rv.length]; exact hz) (fun h2 h₁ a' _ => SrtO.ints_sortable hi h2) fun out h1 h2 => ?_
  obtain ⟨k1, k2, k3⟩ := SrtO.ints_out hi h1 h2
  obtain ⟨ep, at_⟩ := PyProof.Rows.sortedAll_at s.heap its out.toArray
  have len : ((out.map SrtO.iv).map V.int).length ≤ sizeLine := by rw [List.length_map, k2.length_eq]; rw [List.length_map] at hz; exact hz
  exact ⟨.ref _, upd H (s.heap.objs.size + 1) (.lst ((out.map SrtO.iv).map V.int)), I.laid (t' := s.toks) (fun _ _ => PyProof.Rows.sortedAll_old) (Nat.le_succ _) ⟨len, out, ep, vals_of_ints k1, at_⟩, rfl, q _ _ k2 k3 (I.hok.fresh (Nat.le_succ _))⟩
/-! ### isinstance -/
def Ty.name : Ty → String
  | .int => "int"
  | .bool => "bool"
  | .str => "str"
  | .list => "list"
  | .tuple => "tuple"
  | .dict => "dict"
def tyOf : D → String
  | .none => "NoneType"
  | .bool _ => "bool"
  | .int _ => "int"
  | .str _ => "str"
  | .list _ => "list"
  | .tuple _ => "tuple"
  | .dict _ => "dict"
theorem tyOf_kit (d : D) (t : Ty) (h : t ≠ .dict) : kitB (tyOf d) t.name = some (isTy d t) := by
  cases d <;> cases t <;> first | exact absurd rfl h | (simp only [tyOf, Ty.name, isTy]; decide +kernel)
/-- a value's type; a dict may be locked -/
def TyE (K : PySem.W.Frag) (H : Hp) (x : V) (t : Value) : Prop := TyX K H x t ∨ (t = .type "dict" ∧ ∃ a, x = .ref a ∧ ((∃ kws, Rd H a (.dT kws)) ∨ ∃ kws, Rd H a (.dK kws)))
theorem kit_ofE {pins : List (Addr × Obj)} {σ : L2.St} {H : Hp} {s : Shared} {x : V} {u t : Value} (I : Inv X pins σ H s) (rx : RelV x u) (ty : TyE X.K H x t) : ∃ P : Heap → Prop, PySem.W.KitX X.K u t P ∧ P s.heap ∧ u ≠ .builtin "__main__.__loader__#opaque" := by
  rcases ty with ty | ⟨rfl, a, rfl, ⟨kws, e⟩ | ⟨kws, e⟩⟩
  · exact kit_of I rx ty
  · cases (show u = Value.ref a from rx)
    obtain ⟨_, _, xs, _, o, es, ep, h1, h2, _⟩ := dt_rd I.hok e
    exact ⟨_, PySem.W.kitx_dict, ⟨o, h1, h2.1⟩, nofun⟩
  · cases (show u = Value.ref a from rx)
    obtain ⟨_, _, xs, _, o, es, ep, h1, h2, _⟩ := dk_rd I.hok e
    exact ⟨_, PySem.W.kitx_dict, ⟨o, h1, h2.1⟩, nofun⟩
def rIsE (K : PySem.W.Frag) : List V → Hp → VK → Prop := fun xs H Q => ∃ (x c : V) (t u : Value) (b : Bool), xs = [x, c] ∧ ClsV c u ∧ TyE K H x t ∧ PySem.W.kitOne K t u = some b ∧ Q (.bl b) H
theorem call_isiE : CallR X (.builtin "isinstance") (rIsE X.K) := by
  intro pins s σ H xs us Q I r ⟨x, c, t, u, b, ex, k, ty, e, q⟩
  subst ex
  obtain ⟨u1, u2, rfl, r1, r2⟩ := vals2 r
  have e2 := k.eq r2
  subst e2
  obtain ⟨P, Z, p, hx⟩ := kit_ofE I r1 ty
  exact PySem.W.kia_one Z I.kIn p e hx fun tk => ⟨.bl b, H, I.tok tk, rfl, q⟩
theorem tyx_of {F H : Hp} {s : Src} {x : V} {d : D} (hK : X.K = G.K) (r : Rb G.K G.sp G.cc F H x d) (e : Same F H) (q : SrcAt G.sp G.cc H s) : TyE X.K H x (.type (tyOf d)) := by
  cases d with
  | none => rw [r.none]; exact .inl (.base .non)
  | bool b => rw [r.bool]; exact .inl (.base (.bl b))
  | int i => rw [r.int]; exact .inl (.base (.int i))
  | str z => rw [r.str]; exact .inl (.base (.str z))
  | list ds =>
    obtain ⟨a, vs, rfl, h1, _⟩ := r
    exact .inl (.base (.lst h1))
  | tuple ds =>
    obtain ⟨a, vs, rfl, h1, _⟩ := r.tuple
    rcases sqT_same e h1 with (h | ⟨o, h⟩) | ⟨o, its, n, h, hc, _⟩
    · exact .inl (.base (.tup h))
    · exact .inl (.fTuple h)
    · exact .inl (.kTuple (hK ▸ h) hc)
  | dict kvs =>
    rcases r with ⟨_, rfl⟩ | ⟨a, o, rfl, h, _, _, ro⟩
    · exact .inl (.base (.dK q.1))
    · cases o with
      | dT kws => exact .inr ⟨rfl, a, rfl, .inl ⟨_, h⟩⟩
      | dK kws => exact .inr ⟨rfl, a, rfl, .inr ⟨_, h⟩⟩
      | _ => exact ro.elim
theorem ok_isi {a : E} {t : Ty} {ea : Expr} {p p2 pos : Pos} {y : Str} (hK : X.K = G.K) (ht : t ≠ .dict) (hy : y = Str.ofString t.name) (hg : Gl X "isinstance") (hm : X.mg "isinstance" = none) (hg2 : Gl X y) (hm2 : X.mg y = none) (hs : isStarX ea = false) (ha : PE X ea (RdB G a)) :
    OkE X G (.isi a [t]) (.Call (.Name "isinstance" p) [ea, .Name y p2] [] pos) := by
  have pt : PE X (.Name y p2) (tC (.ty t.name)) := pe_bltn hg2 hm2 (u := .type t.name) (by subst hy; cases t <;> decide +kernel) rfl (by subst hy; cases t <;> decide) (by subst hy; cases t <;> decide)
  refine okV hK (pe_imp (pe_callB (id := "isinstance") call_isiE hg hm (by decide +kernel) (pa_cons ha (pa_cons pt pa_nil (by rfl)) (starEach_no hs _ _)) (by decide) (by decide) (starEach_no hs _ _) (by rfl)) fun σ H Q ⟨g, en, F, s, d, s', R, off, he, k⟩ => ?_) rfl fun _ _ => rfl
  obtain ⟨d1, s1, h1, h2⟩ := bnd_some he
  obtain ⟨rfl, rfl⟩ := ret_some h2
  refine one R off h1 fun x F1 H1 f r => ?_
  have e : ([t].any fun t => isTy d1 t) = isTy d1 t := by simp
  rw [e] at k
  exact ⟨x, .ty t.name, .type (tyOf d1), .type t.name, isTy d1 t, rfl, .ty _, tyx_of hK r f.sub f.src, kit_ty (tyOf_kit d1 t ht), k _ F1 H1 f (.bl _)⟩
/-! ### the place of a value in a list -/
theorem if_some2 {α : Type} {c : Bool} {x : Option α} {b : α} (h : (if c = true then x else none) = some b) : c = true ∧ x = some b := by
  cases c with
  | true => exact ⟨rfl, h⟩
  | false => cases h
theorem ok_index {a b : E} {nx : Str} {np : Pos} {eb : Expr} {apos cpos : Pos} (hK : X.K = G.K) (hu : X.A.units + 65 < cLine) (hs : isStarX eb = false) (hline : (apos.endLine == cpos.line) = true) (ha : PE X (.Name nx np) (RdB G a)) (hb : PE X eb (RdB G b)) :
    OkE X G (.meth .index a b) (.Call (.Attribute (.Name nx np) "index" apos) [eb] [] cpos) := by
  have pe := pe_bm (cpos := cpos) (apos := apos) PySem.F.plainAttrs_list PySem.F.slot_list_index PySem.F.type_list_index (mt_indexD (X := X) hu) ha (pa_cons hb pa_nil (starEach_no hs _ _)) (by rfl) (by rw [starEach_no hs]; rfl) hline (starEach_no hs _ _) (by rfl)
  refine okV hK (pe_imp pe fun σ H Q ⟨g, en, F, s, d, s', R, off, he, k⟩ => ?_) rfl fun _ _ => rfl
  obtain ⟨d1, s1, h1, h⟩ := bnd_some he
  obtain ⟨d2, s2, h2, h⟩ := bnd_some h
  obtain ⟨h3, rfl⟩ := lift_some h
  refine one R off.l h1 fun x F1 H1 f1 r1 => ?_
  cases d1 with
  | list xs =>
    have h3 : (if okD d2 && okD (.list xs) then (xs.findIdx? fun z => PyData.eqv z d2).map fun j => PyData.int (j : Nat) else none) = some d := h3
    obtain ⟨ok, h4⟩ := if_some2 h3
    rw [Bool.and_eq_true] at ok
    obtain ⟨j, hj, rfl⟩ := Option.map_eq_some_iff.mp h4
    obtain ⟨p, vs, rfl, e1, n1, n2, ra⟩ := id r1
    refine ⟨.inl ⟨rfl, _, SqL.of e1⟩, g, en, F1, s1, d2, s', R.step f1, off.r, h2, fun y F2 H2 f2 r2 => ?_⟩
    obtain ⟨hlt, hz, hno⟩ := List.findIdx?_eq_some_iff_getElem.mp hj
    have c1 := SeqAt.canLay_of_shaped ok.2
    refine ⟨p, y, d2, xs, j, xs[j], rfl, rfl, hK ▸ (r1.step f2).dp f2.sub c1, hK ▸ r2.dp f2.sub (SeqAt.canLay_of_shaped ok.1), ok.2, ok.1, List.getElem?_eq_getElem hlt, hz, fun m z' hm hz' => ?_, k _ F2 H2 (f1.trans f2) (.int _)⟩
    have hm2 : m < xs.length := Nat.lt_trans hm hlt
    rw [List.getElem?_eq_getElem hm2] at hz'
    cases hz'
    simpa using hno m hm
  | _ => cases h3
end
end Fz
/-! FzEs: sorted lists of tuples of ints, of any length. -/
namespace Fz
open PySem PySem.Spec PyProof.Rows L2
/-! ### the order upon lists of ints -/
theorem lexI_eq : ∀ xs ys : List Int, HT.lexLt xs ys = lexI xs ys
  | [], [] => rfl
  | [], _ :: _ => rfl
  | _ :: _, [] => rfl
  | x :: xs, y :: ys => by
    show (if x = y then HT.lexLt xs ys else decide (x < y)) = (if x = y then lexI xs ys else decide (x < y))
    rw [lexI_eq xs ys]
theorem lexI_anti : ∀ xs ys : List Int, lexI xs ys = false → lexI ys xs = false → xs = ys
  | [], [], _, _ => rfl
  | [], _ :: _, h, _ => by cases h
  | _ :: _, [], _, h => by cases h
  | x :: xs, y :: ys, h1, h2 => by
    have h1 : (if x = y then lexI xs ys else decide (x < y)) = false := h1
    have h2 : (if y = x then lexI ys xs else decide (y < x)) = false := h2
    by_cases e : x = y
    · rw [if_pos e] at h1
      rw [if_pos e.symm] at h2
      rw [e, lexI_anti xs ys h1 h2]
    · rw [if_neg e] at h1
      rw [if_neg (Ne.symm e)] at h2
      have a := of_decide_eq_false h1
      have b := of_decide_eq_false h2
      omega
theorem lexI_irrefl (xs : List Int) : lexI xs xs = false := by
  induction xs with
  | nil => rfl
  | cons x xs ih => show (if x = x then lexI xs xs else _) = false; rw [if_pos rfl, ih]
theorem lexI_tr (xs ys zs : List Int) (h1 : lexI ys xs = false) (h2 : lexI zs ys = false) : lexI zs xs = false := by
  rw [← lexI_eq] at h1 h2 ⊢
  exact NtL.lex_tr xs ys zs h1 h2
theorem lexI_asym (xs ys : List Int) (h : lexI xs ys = true) : lexI ys xs = false := by
  rw [← lexI_eq] at h ⊢
  exact NtL.lex_asym xs ys h
abbrev LeT (a b : List Int) : Prop := lexI b a = false
theorem insT_perm (x : List Int) : ∀ l, (insT x l).Perm (x :: l)
  | [] => List.Perm.refl _
  | y :: r => by
    unfold insT
    by_cases h : lexI x y = true
    · rw [if_pos h]
    · rw [if_neg h]
      exact ((insT_perm x r).cons y).trans (List.Perm.swap x y r)
theorem sortT_perm : ∀ l, (sortT l).Perm l
  | [] => List.Perm.refl _
  | x :: r => (insT_perm x _).trans ((sortT_perm r).cons x)
theorem insT_sorted (x : List Int) : ∀ l, l.Pairwise LeT → (insT x l).Pairwise LeT
  | [], _ => List.pairwise_singleton _ _
  | y :: r, h => by
    obtain ⟨h1, h2⟩ := List.pairwise_cons.mp h
    unfold insT
    by_cases q : lexI x y = true
    · rw [if_pos q]
      refine List.pairwise_cons.mpr ⟨fun z hz => ?_, h⟩
      rcases List.mem_cons.mp hz with rfl | hz
      · exact lexI_asym _ _ q
      · exact lexI_tr _ _ _ (lexI_asym _ _ q) (h1 z hz)
    · rw [if_neg q]
      refine List.pairwise_cons.mpr ⟨fun z hz => ?_, insT_sorted x r h2⟩
      rcases List.mem_cons.mp ((insT_perm x r).mem_iff.mp hz) with rfl | hz
      · simpa using q
      · exact h1 z hz
theorem sortT_sorted : ∀ l, (sortT l).Pairwise LeT
  | [] => List.Pairwise.nil
  | x :: r => insT_sorted x _ (sortT_sorted r)
theorem sortT_uniq : ∀ {l m : List (List Int)}, l.Pairwise LeT → m.Pairwise LeT → l.Perm m → l = m
  | [], m, _, _, p => (List.nil_perm.mp p).symm
  | x :: l, [], _, _, p => (List.perm_nil.mp p)
  | x :: l, y :: m, h1, h2, p => by
    obtain ⟨a1, a2⟩ := List.pairwise_cons.mp h1
    obtain ⟨b1, b2⟩ := List.pairwise_cons.mp h2
    have e : x = y := by
      have hx : x ∈ y :: m := p.mem_iff.mp (List.mem_cons_self ..)
      have hy : y ∈ x :: l := p.mem_iff.mpr (List.mem_cons_self ..)
      rcases List.mem_cons.mp hx with e | hx
      · exact e
      · rcases List.mem_cons.mp hy with e | hy
        · exact e.symm
        · exact lexI_anti _ _ (b1 x hx) (a1 y hy)
    subst e
    rw [sortT_uniq a2 b2 (List.Perm.cons_inv p)]
section
variable {prog : Program} {w : World} {A : Around} {E : Value → Shared → Prop} {s : Shared}
/-- what a comparison of tuples tells, fin where they end -/
def lexZ (fin : Bool) : List Int → List Int → Bool
  | [], _ => fin
  | _ :: _, [] => fin
  | x :: xs, y :: ys => if x = y then lexZ fin xs ys else decide (x < y)
theorem lexZ_eq : ∀ xs ys : List Int, lexZ (decide (xs.length < ys.length)) xs ys = lexI xs ys
  | [], [] => rfl
  | [], _ :: _ => by show decide (0 < _ + 1) = true; exact decide_eq_true (Nat.succ_pos _)
  | _ :: _, [] => by show decide (_ + 1 < 0) = false; exact decide_eq_false (Nat.not_lt_zero _)
  | x :: xs, y :: ys => by
    have e : decide ((x :: xs).length < (y :: ys).length) = decide (xs.length < ys.length) := by
      simp only [List.length_cons, Nat.add_lt_add_iff_right]
    rw [e]
    show (if x = y then lexZ _ xs ys else decide (x < y)) = (if x = y then lexI xs ys else decide (x < y))
    rw [lexZ_eq xs ys]
theorem kat_int {b fin : Bool} {Q : Bool → Shared → Prop} : ∀ {xs ys : List Value} {ns ms : List Int} (i : Nat), IntsAre xs ns → IntsAre ys ms → Q (lexZ fin ns ms) s → PySem.W.KatLex prog w A b fin Q (xs.zip ys) i s
  | [], ys, _, ms, i, .nil, hy, h => PySem.W.kat_nil h
  | _ :: _, [], _, _, i, .cons _ _ _, .nil, h => PySem.W.kat_nil h
  | _ :: xs, _ :: ys, _, _, i, .cons (vs := _) (ns := ns) p t hx, .cons (vs := _) (ns := ms) q u hy, h => by
    show PySem.W.KatLex prog w A b fin Q ((Value.int p t, Value.int q u) :: xs.zip ys) i s
    have h : Q (if p = q then lexZ fin ns ms else decide (p < q)) s := h
    refine PySem.W.kat_cons (wpAny_eqBool_int ?_)
    by_cases e : p = q
    · rw [if_pos e] at h
      rw [show (p == q) = true from beq_iff_eq.mpr e]
      exact PySem.W.kat_yes (kat_int (i + 1) hx hy h)
    · rw [if_neg e] at h
      rw [show (p == q) = false from beq_eq_false_iff_ne.mpr e]
      exact PySem.W.kat_no (TS.oneLt_ints _ h)
/-- a tuple that holds these ints -/
def TupI (h : Heap) (v : Value) (ns : List Int) : Prop := ∃ (a : Addr) (its : Array Value), v = .ref a ∧ IsTup h a its ∧ IntsAre its.toList ns
theorem tupI_cmp {vs : List Value} {k : Value → List Int} (hv : ∀ v ∈ vs, TupI s.heap v (k v)) : SrtO.Cmp prog w A s (tuples' true) (fun p => p.1 ∈ vs) (SrtO.lt2 fun v u => HT.lexLt (k v) (k u)) := by
  intro p q hp hq
  obtain ⟨a, xs, ea, ⟨o, ho, _, n, hd⟩, hi⟩ := hv _ hp
  obtain ⟨b, ys, eb, ⟨o2, ho2, _, n2, hd2⟩, hj⟩ := hv _ hq
  show wpAny (model prog w) A (keyLt' (tuples' true) p.1 q.1) (fun r s' => s' = s ∧ r = HT.lexLt (k p.1) (k q.1)) (fun _ _ => False) s
  rw [lexI_eq]
  generalize k p.1 = ns at hi ⊢
  generalize k q.1 = ms at hj ⊢
  rw [ea, eb]
  refine PySem.W.kat_lt ho hd ho2 hd2 (kat_int 0 hi hj ⟨rfl, ?_⟩)
  have e : decide (xs.size < ys.size) = decide (ns.length < ms.length) := by
    rw [← hi.length, ← hj.length, Array.length_toList, Array.length_toList]
  rw [e, lexZ_eq]
theorem tupI_firsts {h : Heap} {k : Value → List Int} : ∀ vs : List Value, (∀ v ∈ vs, TupI h v (k v) ∧ k v ≠ []) → ∃ fs, PySem.W.KatTups h vs fs ∧ fs.length = vs.length ∧ ∀ f ∈ fs, ∃ n t, f = Value.int n t
  | [], _ => ⟨[], PySem.W.KatTups.nil, rfl, fun f hf => by cases hf⟩
  | v :: vs, x => by
    obtain ⟨fs, q1, q2, q3⟩ := tupI_firsts vs fun u hu => x u (List.mem_cons_of_mem _ hu)
    obtain ⟨⟨a, its, ea, ⟨o, ho, hc, n, hd⟩, hi⟩, hne⟩ := x v (List.mem_cons_self ..)
    subst ea
    generalize k (Value.ref a) = ns at hi hne
    cases hl : its.toList with
    | nil =>
      rw [hl] at hi
      cases hi
      exact absurd rfl hne
    | cons y ys =>
      rw [hl] at hi
      cases hi with
      | cons m t _ =>
        refine ⟨.int m t :: fs, PySem.W.KatTups.cons ho hc hd ?_ q1, by rw [List.length_cons, List.length_cons, q2], fun f hf => ?_⟩
        · have z := congrArg (fun l : List Value => l[0]?) hl
          simpa using z
        · rcases List.mem_cons.mp hf with rfl | hf
          · exact ⟨m, t, rfl⟩
          · exact q3 f hf
theorem tupI_sortable {a : Addr} {vs : List Value} {k : Value → List Int} (h0 : 0 < vs.length) (hp : ∀ v ∈ vs, TupI s.heap v (k v) ∧ k v ≠ []) (ha : ∀ o, s.heap.get? a = some o → o.cls ≠ .type "tuple") : SrtO.SortableO prog w A s a vs fun v u => HT.lexLt (k v) (k u) := by
  intro h' keep
  have hp' : ∀ v ∈ vs, TupI h' v (k v) ∧ k v ≠ [] := fun v hm => by
    obtain ⟨⟨b, its, eb, ⟨o, ho, hc, n, hd⟩, hi⟩, hne⟩ := hp v hm
    exact ⟨⟨b, its, eb, ⟨o, keep b o (fun z => by subst z; exact ha o ho hc) ho, hc, n, hd⟩, hi⟩, hne⟩
  obtain ⟨fs, q1, q2, q3⟩ := tupI_firsts vs hp'
  refine ⟨tuples' true, fun Q E hq => ?_, tupI_cmp fun v hm => (hp' v hm).1⟩
  refine PySem.W.kat_kind (T := .type "int") q1 (by omega) (fun f hm => ?_) (by rfl) ?_
  · obtain ⟨x, t, rfl⟩ := q3 f hm
    exact PySem.W.Looks.now
  · have e : (Value.type "int" != Value.type "tuple") = true := by first | decide +kernel | rfl | decide
    rw [e]
    exact hq
/-- the first of what a tuple holds -/
def firstO (h : Heap) : Value → Option Value
  | .ref a => match h.get? a with
    | some o => (match o.data with
      | .seq its _ => its[0]?
      | _ => none)
    | none => none
  | _ => none
theorem wp_first {v : Value} {ns : List Int} {Q : Option Value → Shared → Prop} (t : TupI s.heap v ns) (q : Q (firstO s.heap v) s) : wpAny (model prog w) A (firstOfTuple' v) Q E s := by
  obtain ⟨a, its, rfl, ⟨o, ho, hc, n, hd⟩, hi⟩ := t
  have e : firstO s.heap (.ref a) = its[0]? := by simp only [firstO, ho, hd]
  rw [e] at q
  rw [PySem.W.kas_first_eq]
  refine wpAny_bind (PySem.W.Looks.here (show PySem.W.Looks (model prog w) s.heap (typeOf (.ref a)) o.cls from (PySem.W.Looks.ld ho).andThen .now) ?_)
  rw [hc, if_neg (by decide)]
  exact wpAny_bind (PyProof.Rows.listItems_at ho hd (wpAny_pure q))
theorem wp_firsts {k : Value → List Int} : ∀ (vs : List Value) {Q : List (Option Value) → Shared → Prop}, (∀ v ∈ vs, TupI s.heap v (k v)) → Q (vs.map (firstO s.heap)) s → wpAny (model prog w) A (vs.mapM firstOfTuple') Q E s
  | [], _, _, q => by rw [List.mapM_nil]; exact wpAny_pure q
  | v :: vs, Q, t, q => by
    rw [List.mapM_cons]
    exact wpAny_bind (wp_first (t v (List.mem_cons_self ..)) (wpAny_bind (wp_firsts vs (Q := fun bs s' => wpAny (model prog w) A (pure (firstO s.heap v :: bs)) Q E s') (fun u hu => t u (List.mem_cons_of_mem _ hu)) (wpAny_pure q))))
theorem firstO_empty {h : Heap} {v : Value} (t : TupI h v []) : firstO h v = none := by
  obtain ⟨a, its, rfl, ⟨o, ho, hc, n, hd⟩, hi⟩ := t
  have e : firstO h (.ref a) = its[0]? := by simp only [firstO, ho, hd]
  rw [e]
  have z : its.toList = [] := by cases hi2 : its.toList with
    | nil => rfl
    | cons x r => rw [hi2] at hi; cases hi
  have : its.size = 0 := by rw [← Array.length_toList, z]; rfl
  exact Array.getElem?_eq_none (by omega)
/-- which kind is found where some are empty -/
theorem emptyKind {vs : List Value} {k : Value → List Int} {Q : SortKind → Shared → Prop} (h2 : 2 ≤ vs.length) (hp : ∀ v ∈ vs, TupI s.heap v (k v)) (some0 : ∃ v ∈ vs, k v = []) (q : Q (if (firstO s.heap (vs.headD .none)).isSome then general' else oneType') s) :
    wpAny (model prog w) A (keyKind' vs.toArray) Q E s := by
  have hT : ∀ v ∈ vs, PySem.W.Looks (model prog w) s.heap (typeOf v) (.type "tuple") := fun v hv => by
    obtain ⟨a, its, rfl, ⟨o, ho, hc, _⟩, _⟩ := hp v hv
    exact hc ▸ (PySem.W.Looks.ld ho).andThen .now
  rw [keyKind'_eq, List.mapM_toArray, map_eq_pure_bind]
  refine wpAny_bind (wpAny_bind (wp_firsts vs hp (wpAny_pure ?_)))
  have na : ¬ ((vs.map (firstO s.heap)).toArray.all fun x => x.isSome) = true := by
    intro z
    obtain ⟨v, hv, e⟩ := some0
    simp only [List.all_toArray, List.all_map, List.all_eq_true] at z
    have := z v hv
    rw [Function.comp_apply, firstO_empty (e ▸ hp v hv)] at this
    cases this
  rw [if_neg na]
  match vs, h2 with
  | v :: r, _ =>
    have e0 : (((v :: r).map (firstO s.heap)).toArray[0]?.bind id) = firstO s.heap v := by simp
    rw [e0]
    have q : Q (if (firstO s.heap v).isSome then general' else oneType') s := q
    by_cases c : (firstO s.heap v).isSome = true
    · rw [if_pos c] at q ⊢
      exact wpAny_pure q
    · rw [if_neg c] at q ⊢
      rw [oneTypeOnly'_eq, List.mapM_toArray, map_eq_pure_bind]
      refine wpAny_bind (wpAny_bind (wpAny_bind (PySem.W.kas_mapM (r := .type "tuple") _ (fun u hu Q' hq => (hT u hu).here hq) (wpAny_pure ?_))))
      have hall : ((List.map (fun _ => Value.type "tuple") (v :: r)).toArray.all fun x => x == Value.type "tuple") = true := by
        simp only [List.all_toArray, List.all_map, List.all_eq_true]
        intro _ _
        rfl
      have h0 : (List.map (fun _ => Value.type "tuple") (v :: r)).toArray[0]? = some (.type "tuple") := by simp
      rw [h0]
      simp only [hall, if_true]
      exact wpAny_pure (wpAny_pure q)
theorem tupI_lt {v u : Value} {ns ms : List Int} {Q : Value → Shared → Prop} (hv : TupI s.heap v ns) (hu : TupI s.heap u ms) (room : A.units < cLine) (q : Q (.bool (HT.lexLt ns ms)) s) : wpAny (model prog w) A (compareOp .Lt v u) Q E s := by
  obtain ⟨a, its, rfl, t1, hi⟩ := hv
  obtain ⟨b, jts, rfl, t2, hj⟩ := hu
  exact HT.lt_tupInts t1 t2 hi hj room q
theorem tupI_ltOne {v u : Value} {ns ms : List Int} {Q : Bool → Shared → Prop} (hv : TupI s.heap v ns) (hu : TupI s.heap u ms) (room : A.units < cLine) (q : Q (HT.lexLt ns ms) s) : wpAny (model prog w) A (keyLt' oneType' v u) Q E s := by
  obtain ⟨a, its, rfl, ⟨⟨c1, d1, e1, sl1⟩, ho, hc, n, hd⟩, hi⟩ := hv
  obtain ⟨b, jts, rfl, ⟨⟨c2, d2, e2, sl2⟩, ho2, hc2, n2, hd2⟩, hj⟩ := hu
  simp only at hc hd hc2 hd2
  subst hc hd hc2 hd2
  rw [keyLt'_oneType, oneLt'_eq]
  simp only [if_true]
  refine wpAny_bind (wpAny_cRoomFor room ?_)
  refine wpAny_bind (wpAny_callSpecialIfBound?_slot (s := s) (self := .ref a) (T := "tuple") ⟨_, ho, rfl⟩ PySem.F.slot_tuple_lt (call_meets PySem.F.slot_tuple_lt ⟨_, ho, rfl⟩ PySem.F.entry_tuple_lt (PySem.F.args_tuple_lt_2 _ _) (HT.tuple_lt_ints a b its jts n n2 d1 d2 sl1 sl2 ns ms hi hj) ⟨ho, ho2, ?_⟩))
  exact wpAny_truthy_bool q
theorem tupI_sortableE {a : Addr} {vs : List Value} {k : Value → List Int} (h2 : 2 ≤ vs.length) (room : A.units < cLine) (hp : ∀ v ∈ vs, TupI s.heap v (k v)) (ha : ∀ o, s.heap.get? a = some o → o.cls ≠ .type "tuple") : SrtO.SortableO prog w A s a vs fun v u => HT.lexLt (k v) (k u) := by
  by_cases ne : ∀ v ∈ vs, k v ≠ []
  · exact tupI_sortable (by omega) (fun v hv => ⟨hp v hv, ne v hv⟩) ha
  intro h' keep
  have hp' : ∀ v ∈ vs, TupI h' v (k v) := fun v hm => by
    obtain ⟨b, its, eb, ⟨o, ho, hc, n, hd⟩, hi⟩ := hp v hm
    exact ⟨b, its, eb, ⟨o, keep b o (fun z => by subst z; exact ha o ho hc) ho, hc, n, hd⟩, hi⟩
  have ex : ∃ v ∈ vs, k v = [] := by
    refine Classical.byContradiction fun z => ne fun v hv e => z ⟨v, hv, e⟩
  refine ⟨_, fun Q E hq => emptyKind (s := { s with heap := h' }) h2 hp' ex hq, ?_⟩
  intro p q hp1 hq1
  have c1 := hp' _ hp1
  have c2 := hp' _ hq1
  show wpAny (model prog w) A (keyLt' _ p.1 q.1) (fun r s' => s' = { s with heap := h' } ∧ r = HT.lexLt (k p.1) (k q.1)) (fun _ _ => False) { s with heap := h' }
  split
  · exact PySem.W.kat_one p.1 q.1 (tupI_lt (Q := PySem.W.BoolBack _) c1 c2 room ⟨rfl, rfl⟩)
  · exact tupI_ltOne c1 c2 room ⟨rfl, rfl⟩
end
/-! ### sorted, by what is held -/
section
variable {X : Cx}
/-- tuples of ints, one by one -/
inductive TupsI (K : PySem.W.Frag) (H : Hp) : List V → List (List Int) → Prop
  | nil : TupsI K H [] []
  | cons {a : Addr} {ns : List Int} {xs : List V} {nss : List (List Int)} : SqT K H a (ns.map V.int) → TupsI K H xs nss → TupsI K H (.ref a :: xs) (ns :: nss)
def rSortTI (K : PySem.W.Frag) : List V → Hp → VK → Prop := fun vs H Q => ∃ (a : Addr) (xs : List V) (nss : List (List Int)), vs = [V.ref a] ∧ SqL K H a xs ∧ TupsI K H xs nss ∧
  ∀ (ys : List V) (p : Addr), (∀ y ∈ ys, y ∈ xs) → TupsI K H ys (sortT nss) → H p = none → Q (.ref p) (upd H p (.lst ys))
def heldI (h : Heap) : Value → List Int
  | .ref a => match h.get? a with
    | some o => (match o.data with
      | .seq its _ => its.toList.map SrtO.iv
      | _ => [])
    | none => []
  | _ => []
theorem heldI_of {h : Heap} {a : Addr} {its : Array Value} {ns : List Int} (t : IsTup h a its) (i : IntsAre its.toList ns) : heldI h (.ref a) = ns := by
  obtain ⟨o, ho, hc, n, hd⟩ := t
  have e : heldI h (.ref a) = its.toList.map SrtO.iv := by
    simp only [heldI, ho, hd]
  rw [e]
  generalize its.toList = l at i
  induction i with
  | nil => rfl
  | cons m t _ ih => rw [List.map_cons, ih]; rfl
theorem tups_real {pins : List (Addr × Obj)} {σ : L2.St} {H : Hp} {s : Shared} (I : Inv X pins σ H s) : ∀ {xs : List V} {nss : List (List Int)} {us : List Value}, TupsI X.K H xs nss → Vals xs us → us.map (heldI s.heap) = nss ∧ (∀ u ∈ us, TupI s.heap u (heldI s.heap u)) ∧ (∀ u ∈ us, ∃ a, u = .ref a ∧ V.ref a ∈ xs ∧ SqT X.K H a ((heldI s.heap u).map V.int))
  | _, _, _, .nil, .nil => ⟨rfl, (fun u hu => nomatch hu), (fun u hu => nomatch hu)⟩
  | _, _, _, .cons (a := a) (ns := ns) h t, .cons r rt => by
    obtain ⟨q1, q2, q3⟩ := tups_real I t rt
    cases r
    obtain ⟨its, rv, tp, _⟩ := I.tuple h
    have hi : IntsAre its.toArray.toList ns := by simpa using rv.ints
    have e := heldI_of tp hi
    refine ⟨by rw [List.map_cons, e, q1], fun u hu => ?_, fun u hu => ?_⟩
    · rcases List.mem_cons.mp hu with rfl | hu
      · exact ⟨a, _, rfl, tp, e ▸ hi⟩
      · exact q2 u hu
    · rcases List.mem_cons.mp hu with rfl | hu
      · exact ⟨a, rfl, List.mem_cons_self .., e ▸ h⟩
      · obtain ⟨b, e1, e2, e3⟩ := q3 u hu
        exact ⟨b, e1, List.mem_cons_of_mem _ e2, e3⟩
theorem tups_back {K : PySem.W.Frag} {H : Hp} {h : Heap} {xs : List V} : ∀ out : List Value, (∀ u ∈ out, ∃ a, u = .ref a ∧ V.ref a ∈ xs ∧ SqT K H a ((heldI h u).map V.int)) → ∃ ys : List V, Vals ys out ∧ (∀ y ∈ ys, y ∈ xs) ∧ TupsI K H ys (out.map (heldI h)) ∧ ys.length = out.length
  | [], _ => ⟨[], .nil, (fun y hy => nomatch hy), .nil, rfl⟩
  | u :: r, hh => by
    obtain ⟨ys, v1, v2, v3, v4⟩ := tups_back r fun z hz => hh z (List.mem_cons_of_mem _ hz)
    obtain ⟨a, rfl, m, t⟩ := hh u (List.mem_cons_self ..)
    refine ⟨.ref a :: ys, .cons rfl v1, fun y hy => ?_, .cons t v3, by rw [List.length_cons, List.length_cons, v4]⟩
    rcases List.mem_cons.mp hy with rfl | hy
    · exact m
    · exact v2 y hy
theorem cr_sortTI (room : X.A.units + 2 < cLine) : CallR X (.builtin "sorted") (rSortTI X.K) := by
  intro pins s σ H vs us Q I r ⟨a, xs, nss, ev, hs, ht, q⟩
  subst ev
  obtain ⟨its, rv, hl, hz⟩ := I.list hs
  rw [Vals.ref1 r]
  obtain ⟨e1, e2, e3⟩ := tups_real I ht rv
  refine SrtO.sorted_ord (NtL.swo_lexL (heldI s.heap)) hl.isList (by rw [← rv.length]; exact hz) (fun h2 h₁ b hb kk => ?_) fun out h1 h2 => ?_
  · refine tupI_sortableE (s := { s with heap := h₁ }) h2 room (fun u hu => ?_) fun o e => ?_
    · obtain ⟨c, jts, ec, ⟨o, ho, hc, n, hd⟩, hi⟩ := e2 u hu
      exact ⟨c, jts, ec, ⟨o, (kk c o ho).2, hc, n, hd⟩, hi⟩
    · have e' : some o = some (seqObj "list" its.toArray 0) := e.symm.trans hb
      cases e'
      intro c
      exact absurd (Value.type.inj c) (by decide)
  · obtain ⟨ep, at_⟩ := PyProof.Rows.sortedAll_at s.heap its out.toArray
    obtain ⟨ys, v1, v2, v3, v4⟩ := tups_back (H := H) (K := X.K) (h := s.heap) (xs := xs) out fun u hu => e3 u (h2.perm.mem_iff.mp hu)
    have es : out.map (heldI s.heap) = sortT nss := by
      refine sortT_uniq ?_ (sortT_sorted nss) ((h2.perm.map _).trans ?_)
      · refine List.pairwise_map.mpr (h1.imp fun {x y} z => ?_)
        show lexI _ _ = false
        rw [← lexI_eq]; exact z
      · rw [e1]; exact (sortT_perm nss).symm
    rw [es] at v3
    have len : ys.length ≤ sizeLine := by
      rw [v4, h2.perm.length_eq, ← rv.length]; exact hz
    exact ⟨.ref _, upd H (s.heap.objs.size + 1) (.lst ys), I.laid (t' := s.toks) (fun _ _ => PyProof.Rows.sortedAll_old) (Nat.le_succ _) ⟨len, out, ep, v1, at_⟩, rfl, q ys _ v2 v3 (I.hok.fresh (Nat.le_succ _))⟩
end
end Fz
/-! FzEd: sorted(d), d a dict whose keys are tuples of ints; its length. -/
namespace Fz
open PySem PySem.Spec PyProof.Rows L2
section
variable {prog : Program} {w : World} {A : Around} {E : Value → Shared → Prop} {s : Shared} {d : Addr} {es : Array DictEntry} {ep : Nat}
theorem collectD {R : List Value → Shared → Prop} (hh : A.handled = none) (lo : (d == sysModules) = false) (hm : s.heap.DictRaw d es ep) (hn : es.size ≤ sizeLine)
    (h : ∀ (h' : Heap) (tk : Nat), (∀ b o, s.heap.get? b = some o → h'.get? b = some o) → s.heap.objs.size < h'.objs.size → R (es.toList.map (·.key)) { s with heap := h', toks := tk }) :
    wpAny (model prog w) A (collect (.ref d)) R E s := by
  have hd : d < s.heap.objs.size := hm.lt_size
  unfold collect
  refine wpAny_bind (wpAny_runValue (codeAny_builtin entry_proto_collect' ?_))
  rw [Around.under_plainId PySem.F.plain_proto_collect _]
  show wpAny _ A.in1 (newList [] >>= fun l => again (.builtin "list.__iadd__" ⟨[l, .ref d], []⟩)) _ _ s
  refine wpAny_bind (wpAny_newObj_type ?_)
  refine wpAny_pure ⟨plainId_quiet PySem.F.plain_list_iadd _, codeAny_builtin entry_list_iadd' ?_⟩
  rw [Around.under_plainId PySem.F.plain_list_iadd _]
  have hS₁ : (s.heap.push { cls := .type "list", data := .seq ([] : List Value).toArray }).get? s.heap.objs.size = some { cls := .type "list", data := .seq #[] } := Heap.get?_push_size _ rfl
  show wpAny _ A.in1 (Builtin.List.listExtendWith (.ref s.heap.objs.size) (.ref d) (.ref s.heap.objs.size)) _ _ _
  have key := PySem.W.kdl_extend (prog := prog) (w := w) (A := A) (s := { s with heap := s.heap.push { cls := .type "list", data := .seq ([] : List Value).toArray } })
    (R := fun (q : Result) (s' : Shared) => ∃ (h' : Heap) (tk : Nat) (acc' : Array Value) (c' : Nat), q = .ok (.ret (.ref s.heap.objs.size)) ∧ s' = { s with heap := h', toks := tk } ∧
      (∀ b o, s.heap.get? b = some o → h'.get? b = some o) ∧ h'.get? s.heap.objs.size = some { cls := .type "list", dict := none, data := .seq acc' c', slots := #[] } ∧ acc'.toList = es.toList.map (·.key))
    (PySem.KdlSrc.rawDict (es := es) (ep := ep) lo) hh (hm.push _) s.heap.objs.size (Nat.ne_of_gt hd) (Nat.ne_of_gt hd) (.ref s.heap.objs.size) 0 hS₁
    (fun h' tk acc' c' hk hS' hacc => ⟨h', tk, acc', c', rfl, rfl, fun b o e => hk b o (Nat.ne_of_lt (Heap.lt_size e)) (Heap.get?_push_of_some _ e), hS', by
      refine List.ext_getElem (by rw [Array.length_toList, List.length_map, Array.length_toList]; exact hacc.1) fun i h1 h2 => ?_
      have hi : i < acc'.size := by simpa using h1
      obtain ⟨hj, e⟩ := hacc.2 i acc'[i] (by simp [hi])
      rw [List.getElem_map, Array.getElem_toList, Array.getElem_toList, e]⟩) hn
  refine wpAny_mono key (fun fin s' x => ?_) fun e s' x => ?_
  · cases fin with
    | done f =>
      obtain ⟨h', tk, acc', c', e, rfl, hk, hS', hacc⟩ := x
      cases e
      show wpAny _ A (load s.heap.objs.size >>= _) _ _ _
      refine wpAny_bind (wpAny_load hS' ?_)
      refine wpAny_pure ?_
      show R acc'.toList _
      rw [hacc]
      exact h h' tk hk (Heap.lt_size hS')
    | again c₁ =>
      refine ⟨x.1, codeAny_mono x.2 fun q s₂ y => ?_⟩
      obtain ⟨h', tk, acc', c', rfl, rfl, hk, hS', hacc⟩ := y
      show wpAny _ A (load s.heap.objs.size >>= _) _ _ _
      refine wpAny_bind (wpAny_load hS' ?_)
      refine wpAny_pure ?_
      show R acc'.toList _
      rw [hacc]
      exact h h' tk hk (Heap.lt_size hS')
  · obtain ⟨_, _, _, _, e', _⟩ := x
    cases e'
theorem sortedD_ord {vs : List Value} {ltv : Value → Value → Bool} {Q : Value → Shared → Prop} (hh : A.handled = none) (O : SrtO.Swo ltv) (lo : (d == sysModules) = false) (hm : s.heap.DictRaw d es ep) (hv : es.toList.map (·.key) = vs) (hz : vs.length ≤ sizeLine)
    (hS : 2 ≤ vs.length → ∀ (s₁ : Shared) (a : Addr), (∀ b o, s.heap.get? b = some o → b ≠ a ∧ s₁.heap.get? b = some o) → s₁.heap.get? a = some (seqObj "list" vs.toArray 0) → SrtO.SortableO prog w A.in1.in1 s₁ a vs ltv)
    (h : ∀ (out : List Value) (L : Addr) (h' : Heap) (tk e : Nat), SrtO.Srtd ltv out → SrtO.Stb ltv out vs → s.heap.objs.size ≤ L → (∀ b o, s.heap.get? b = some o → h'.get? b = some o) → h'.get? L = some (seqObj "list" out.toArray e) → Q (.ref L) { s with heap := h', toks := tk }) :
    wpAny (model prog w) A (call (.builtin "sorted") [.ref d]) Q E s := by
  refine Calls.call_function_entry kind_sorted plain_sorted entry_sorted (args_sorted1 _) ?_
  unfold Builtin.«sorted»
  have hn : es.size ≤ sizeLine := by rw [← hv] at hz; simpa using hz
  refine wpAny_bind (m := checkCount "sorted" 1 1 _) (wpAny_pure (wpAny_bind (collectD hh lo hm hn fun h1 tk hk le => wpAny_bind (wpAny_newList ?_ (by rw [hv]; exact hz)))))
  rw [hv]
  have newL : (h1.push (seqObj "list" vs.toArray 0)).get? h1.objs.size = some (seqObj "list" vs.toArray 0) := Heap.get?_push_size _ rfl
  show wpAny (model prog w) _ _ _ _ { s with heap := h1.push (seqObj "list" vs.toArray 0), toks := tk }
  have nb : ∀ b o, s.heap.get? b = some o → b ≠ h1.objs.size := fun b o e => Nat.ne_of_lt (Heap.lt_size (hk b o e))
  refine wpAny_bind (wpAny_holding (wpAny_call_entry slot_list_sort ⟨_, newL, rfl⟩ entry_list_sort (SrtO.list_sort_ord O newL hz (fun h2 => hS h2 _ _ (fun b o e => ⟨nb b o e, Heap.get?_push_of_some _ (hk b o e)⟩) newL) fun out h2 h3 => ⟨_, rfl, wpAny_pure ⟨_, rfl, ?_⟩⟩) (args_list_sort _)))
  obtain ⟨e, at_⟩ := PyProof.Rows.sortedHeap_at (out := out.toArray) newL
  refine h out h1.objs.size _ tk e h2 h3 (Nat.le_of_lt le) (fun b o q => ?_) at_
  rw [PyProof.Rows.sortedHeap_old (nb b o q) (Heap.lt_size (Heap.get?_push_of_some (seqObj "list" vs.toArray 0) (hk b o q)))]
  exact Heap.get?_push_of_some _ (hk b o q)
end
section
variable {X : Cx}
/-- tuples of ints that stand in the heap, one by one -/
inductive TupsH (H : Hp) : List V → List (List Int) → Prop
  | nil : TupsH H [] []
  | cons {a : Addr} {ns : List Int} {xs : List V} {nss : List (List Int)} : H a = some (.tup (ns.map V.int)) → TupsH H xs nss → TupsH H (.ref a :: xs) (ns :: nss)
theorem TupsH.I {K : PySem.W.Frag} {H : Hp} : ∀ {xs : List V} {nss : List (List Int)}, TupsH H xs nss → TupsI K H xs nss
  | _, _, .nil => .nil
  | _, _, .cons h t => .cons (SqT.of h) t.I
theorem TupsH.mem {H : Hp} : ∀ {xs : List V} {nss : List (List Int)}, TupsH H xs nss → ∀ a, V.ref a ∈ xs → ∃ ns : List Int, H a = some (.tup (ns.map V.int))
  | _, _, .nil, a, h => nomatch h
  | _, _, .cons (ns := ns) h t, a, hm => by
    rcases List.mem_cons.mp hm with e | hm
    · cases e; exact ⟨ns, h⟩
    · exact t.mem a hm
theorem tupsH_of {K : PySem.W.Frag} {pins : List (Addr × Obj)} {σ : L2.St} {H : Hp} {s : Shared} (hK : X.K = K) (I : Inv X pins σ H s) {xs : List V} {nss0 : List (List Int)} (h0 : TupsH H xs nss0) : ∀ (ys : List V) (nss : List (List Int)), (∀ y ∈ ys, y ∈ xs) → TupsI K H ys nss → TupsH H ys nss
  | [], [], _, .nil => .nil
  | .ref a :: _, ns :: _, hm, .cons h t => by
    obtain ⟨ms, e⟩ := h0.mem a (hm _ (List.mem_cons_self ..))
    have e2 := I.tuple_inj (SqT.of e) (hK ▸ h)
    refine .cons ?_ (tupsH_of hK I h0 _ _ (fun y hy => hm y (List.mem_cons_of_mem _ hy)) t)
    rw [e, e2]
def rSortDT : List V → Hp → VK → Prop := fun vs H Q => ∃ (a : Addr) (kws : List (List L2.Key × V)) (nss : List (List Int)), vs = [V.ref a] ∧ Rd H a (.dT kws) ∧ kws.map (·.1) = nss.map (fun ns => ns.map Sum.inl) ∧
  ∀ (ys : List V) (p : Addr), TupsH H ys (sortT nss) → H p = none → Q (.ref p) (upd H p (.lst ys))
theorem keys_tups {H : Hp} : ∀ {kws : List (List L2.Key × V)} {xs : List (List L2.Key × Addr × Value)} {nss : List (List Int)}, KT H kws xs → kws.map (·.1) = nss.map (fun ns => ns.map Sum.inl) →
    TupsH H (xs.map fun x => V.ref x.2.1) nss
  | _, _, [], .nil, _ => .nil
  | _, _, _ :: _, .nil, e => by cases e
  | _, _, [], .cons _ _, e => by cases e
  | _, _, ns :: nss, .cons ⟨h1, h2, _⟩ t, e => by
    rw [List.map_cons, List.map_cons] at e
    obtain ⟨e1, e2⟩ := List.cons.inj e
    refine .cons ?_ (keys_tups t e2)
    rw [h2, e1, kV_ints]
theorem vals_refs : ∀ as : List Addr, Vals (as.map V.ref) (as.map Value.ref)
  | [] => .nil
  | a :: r => .cons rfl (vals_refs r)
theorem cr_sortDT (hh : X.A.handled = none) (room : X.A.units + 2 < cLine) : CallR X (.builtin "sorted") rSortDT := by
  intro pins s σ H vs us Q I r ⟨a, kws, nss, ev, ha, hk, q⟩
  subst ev
  obtain ⟨len, lo, xs, pr, o, es, ep, ho, ex, hdat, hes, nd⟩ := (show ObjOk X.prog X.w H s.heap a (.dT kws) from rd_of I.hok ha)
  have hm : s.heap.DictRaw a es ep := ⟨o, ho, ex, hdat⟩
  have th := keys_tups pr hk
  have rv : Vals (xs.map fun x => V.ref x.2.1) (xs.map fun x => Value.ref x.2.1) := by
    have := vals_refs (xs.map fun x => x.2.1)
    rw [List.map_map, List.map_map] at this
    exact this
  have ek : es.toList.map (·.key) = xs.map fun x => Value.ref x.2.1 := by
    rw [hes, List.map_map]; rfl
  generalize hits : (xs.map fun x => Value.ref x.2.1) = its at rv ek
  generalize hvs : (xs.map fun x => V.ref x.2.1) = vs at rv th
  have hz : its.length ≤ sizeLine := by
    rw [← hits, List.length_map, ← Paired.length pr]; exact len
  rw [Vals.ref1 r]
  obtain ⟨e1, e2, e3⟩ := tups_real I (th.I (K := X.K)) rv
  refine sortedD_ord hh (NtL.swo_lexL (heldI s.heap)) lo hm ek hz (fun h2 s₁ b kk hb => ?_) fun out L h' tk e h1 h2 le keep at_ => ?_
  · refine tupI_sortableE (s := s₁) h2 room (fun u hu => ?_) fun o e => ?_
    · obtain ⟨c, jts, ec, ⟨o, ho, hc, n, hd⟩, hi⟩ := e2 u hu
      exact ⟨c, jts, ec, ⟨o, (kk c o ho).2, hc, n, hd⟩, hi⟩
    · have e' : some o = some (seqObj "list" its.toArray 0) := e.symm.trans hb
      cases e'
      intro c
      exact absurd (Value.type.inj c) (by decide)
  · obtain ⟨ys, v1, v2, v3, v4⟩ := tups_back (H := H) (K := X.K) (h := s.heap) (xs := vs) out fun u hu => e3 u (h2.perm.mem_iff.mp hu)
    have es' : out.map (heldI s.heap) = sortT nss := by
      refine sortT_uniq ?_ (sortT_sorted nss) ((h2.perm.map _).trans ?_)
      · refine List.pairwise_map.mpr (h1.imp fun {x y} z => ?_)
        show lexI _ _ = false
        rw [← lexI_eq]; exact z
      · rw [e1]; exact (sortT_perm nss).symm
    rw [es'] at v3
    have ln : ys.length ≤ sizeLine := by
      rw [v4, h2.perm.length_eq]; exact hz
    exact ⟨.ref _, upd H L (.lst ys), I.laid (t' := tk) keep le ⟨ln, out, e, v1, at_⟩, rfl, q ys _ (tupsH_of rfl I th _ _ v2 v3) (I.hok.fresh le)⟩
/-- sorted(d), the keys ints -/
def rSortDK : List V → Hp → VK → Prop := fun vs H Q => ∃ (a : Addr) (kws : List (L2.Key × V)) (ns : List Int), vs = [V.ref a] ∧ Rd H a (.dK kws) ∧ kws.map (·.1) = ns.map Sum.inl ∧
  ∀ (ns' : List Int) (p : Addr), ns'.Perm ns → ns'.Pairwise (fun x y => x ≤ y) → H p = none → Q (.ref p) (upd H p (.lst (ns'.map V.int)))
theorem pairs_ints {P : Program} {w : World} : ∀ {es : List DictEntry} {vs : List (L2.Key × Value)} {ns : List Int}, Pairs (mixKind P w) es vs → vs.map (·.1) = ns.map Sum.inl → IntsAre (es.map (·.key)) ns
  | [], _, [], .nil, _ => .nil
  | [], _, _ :: _, .nil, h => by cases h
  | _ :: _, _, [], .cons _ _ _, h => by cases h
  | _ :: _, _, n :: ns, .cons (e := e) (kv := kv) h1 _ t, h => by
    rw [List.map_cons, List.map_cons] at h
    obtain ⟨e1, e2⟩ := List.cons.inj h
    rw [e1] at h1
    rw [List.map_cons]
    obtain ⟨t', et⟩ : ∃ t', e.key = .int n t' := by
      rcases keyIs_shape (show keyIs (.inl n) e.key = true from h1) with ⟨i, t, e3, e4⟩ | ⟨x, t, e3, _⟩
      · cases e3; exact ⟨t, e4⟩
      · cases e3
    rw [et]
    exact .cons _ _ (pairs_ints t e2)
theorem cr_sortDK (hh : X.A.handled = none) : CallR X (.builtin "sorted") rSortDK := by
  intro pins s σ H vs us Q I r ⟨a, kws, ns, ev, ha, hk, q⟩
  subst ev
  obtain ⟨len, lo, vs, rel, o, es, ep, ho, ex, hdat, _, pr, _⟩ := dk_rd I.hok ha
  have hm : s.heap.DictRaw a es ep := ⟨o, ho, ex, hdat⟩
  have hi : IntsAre (es.toList.map (·.key)) ns := pairs_ints pr (by rw [← rel.keys]; exact hk)
  have hz : (es.toList.map (·.key)).length ≤ sizeLine := by
    rw [hi.length, ← List.length_map (f := Sum.inl (β := Str)), ← hk, List.length_map]; exact len
  rw [Vals.ref1 r]
  refine sortedD_ord hh SrtO.swo_int lo hm rfl hz (fun h2 s₁ b kk hb => SrtO.ints_sortable hi h2) fun out L h' tk e h1 h2 le keep at_ => ?_
  obtain ⟨k1, k2, k3⟩ := SrtO.ints_out hi h1 h2
  have ln : ((out.map SrtO.iv).map V.int).length ≤ sizeLine := by
    rw [List.length_map, k2.length_eq, ← hi.length]; exact hz
  exact ⟨.ref _, upd H L (.lst ((out.map SrtO.iv).map V.int)), I.laid (t' := tk) keep le ⟨ln, out, e, vals_of_ints k1, at_⟩, rfl, q _ _ k2 k3 (I.hok.fresh le)⟩
/-- len(d) -/
def rLenD : List V → Hp → VK → Prop := fun xs H Q => ∃ (p : Addr) (n : Nat), xs = [.ref p] ∧ ((∃ kws, Rd H p (.dT kws) ∧ n = kws.length) ∨ ∃ kws, Rd H p (.dK kws) ∧ n = kws.length) ∧ Q (.int ((n : Nat) : Int)) H
theorem cr_lenD : CallR X (.builtin "len") rLenD := by
  intro pins s σ H xs us Q I r ⟨p, n, ev, h, q⟩
  subst ev
  rw [Vals.ref1 r]
  rcases h with ⟨kws, e, rfl⟩ | ⟨kws, e, rfl⟩
  · obtain ⟨z, hd, ys, rel, dd⟩ := dt_rd I.hok e
    have hl : kws.length = ys.length := Paired.length rel
    refine PySem.call_len_dictH hd dd (by rw [← hl]; rw [sizeLine_eq] at z; omega) ?_
    rw [← hl]
    exact ⟨.int ((kws.length : Nat) : Int), H, I.tok _, ⟨_, rfl⟩, q⟩
  · obtain ⟨z, hd, ys, rel, dd⟩ := dk_rd I.hok e
    have hl : kws.length = ys.length := rel.length
    refine call_len_dict hd dd (by rw [← hl]; rw [sizeLine_eq] at z; omega) ?_
    rw [← hl]
    exact ⟨.int ((kws.length : Nat) : Int), H, I.tok _, ⟨_, rfl⟩, q⟩
/-- tuples that stand are frozen -/
def frT (F H : Hp) (xs : List V) : Hp := fun b => match F b with
  | some o => some o
  | none => if V.ref b ∈ xs then H b else none
theorem frT_fw {sp cc : Addr} {F H : Hp} {s : Src} {xs : List V} (e : Same F H) (q : SrcAt sp cc H s) (h : ∀ b, V.ref b ∈ xs → ∃ us, H b = some (.tup us)) : Fw sp cc F H (frT F H xs) H s := by
  refine ⟨fun b o z => ?_, fun b o z => ?_, fun b o z _ _ => z, q, fun b z n => ?_⟩
  · unfold frT; rw [z]
  · unfold frT at z
    cases y : F b with
    | some u => rw [y] at z; exact z ▸ e b u y
    | none =>
      rw [y] at z
      by_cases m : V.ref b ∈ xs
      · rwa [if_pos m] at z
      · rw [if_neg m] at z; cases z
  · unfold frT; rw [z]
    by_cases m : V.ref b ∈ xs
    · obtain ⟨us, hu⟩ := h b m
      exact absurd hu (n.2 us)
    · exact if_neg m
theorem frT_at {F H : Hp} {xs : List V} (e : Same F H) {b : Addr} {o : HO} (m : V.ref b ∈ xs) (h : H b = some o) : frT F H xs b = some o := by
  unfold frT
  cases y : F b with
  | some u => exact (e b u y).symm.trans h
  | none => exact (if_pos m).trans h
theorem tupsH_rp {K : PySem.W.Frag} {sp : Addr} {F H : Hp} (e : Same F H) (xs : List V) : ∀ (ys : List V) (nss : List (List Int)), (∀ y ∈ ys, y ∈ xs) → TupsH H ys nss → RpA K sp (frT F H xs) ys (nss.map fun ns => .tuple (ns.map .int))
  | [], [], _, .nil => .nil
  | .ref _ :: _, ns :: _, hm, .cons h t => .cons (.tup (frT_at e (hm _ (List.mem_cons_self ..)) h) (RpA.ofInts ns)) (tupsH_rp e xs _ _ (fun y hy => hm y (List.mem_cons_of_mem _ hy)) t)
theorem tupsH_all {H : Hp} : ∀ {ys : List V} {nss : List (List Int)}, TupsH H ys nss → ∀ b, V.ref b ∈ ys → ∃ us, H b = some (.tup us)
  | _, _, .nil, b, h => nomatch h
  | _, _, .cons h t, b, hm => by
    rcases List.mem_cons.mp hm with e | hm
    · cases e; exact ⟨_, h⟩
    · exact tupsH_all t b hm
/-- the keys of a dict, as data -/
theorem dct_keys {K : PySem.W.Frag} {sp : Addr} {F : Hp} : ∀ {kws : List (List L2.Key × V)} {kvs : List (D × D)} {nss : List (List Int)}, RpK K sp F kws kvs → tupsOf (kvs.map (·.1)) = some nss → kws.map (·.1) = nss.map (fun ns => ns.map Sum.inl)
  | _, _, nss, .nil, h => by cases h; rfl
  | _, _, nss, .cons (ns := ms) _ a, h => by
    obtain ⟨ns, e1, e2⟩ := Option.bind_eq_some_iff.mp (show (intsOf (ms.map .int)).bind _ = some nss from h)
    rw [intsOf_map] at e1
    cases e1
    obtain ⟨mss, e3, rfl⟩ := Option.map_eq_some_iff.mp e2
    rw [List.map_cons, List.map_cons, dct_keys a e3]
theorem dck_keys {K : PySem.W.Frag} {sp : Addr} {F : Hp} {kws : List (L2.Key × V)} {kvs : List (D × D)} {nss : List (List Int)} (a : RpI K sp F kws kvs) (h : tupsOf (kvs.map (·.1)) = some nss) : nss = [] := by
  cases a with
  | nil => cases h; rfl
  | cons _ _ => cases h
theorem dck_ints {K : PySem.W.Frag} {sp : Addr} {F : Hp} : ∀ {kws : List (L2.Key × V)} {kvs : List (D × D)} {ns : List Int}, RpI K sp F kws kvs → intsOf (kvs.map (·.1)) = some ns → kws.map (·.1) = ns.map Sum.inl
  | _, _, ns, .nil, h => by cases h; rfl
  | _, _, ns, .cons (n := m) _ a, h => by
    obtain ⟨ms, e1, rfl⟩ := Option.map_eq_some_iff.mp (show (intsOf _).map (m :: ·) = some ns from h)
    rw [List.map_cons, List.map_cons, dck_ints a e1]
theorem dct_ints {K : PySem.W.Frag} {sp : Addr} {F : Hp} {kws : List (List L2.Key × V)} {kvs : List (D × D)} {ns : List Int} (a : RpK K sp F kws kvs) (h : intsOf (kvs.map (·.1)) = some ns) : ns = [] ∧ kws = [] ∧ kvs = [] := by
  cases a with
  | nil => cases h; exact ⟨rfl, rfl, rfl⟩
  | cons _ _ => cases h
theorem rpK_len {K : PySem.W.Frag} {sp : Addr} {F : Hp} : ∀ {kws : List (List L2.Key × V)} {kvs : List (D × D)}, RpK K sp F kws kvs → kws.length = kvs.length
  | _, _, .nil => rfl
  | _, _, .cons _ a => congrArg (· + 1) (rpK_len a)
theorem rpI_len {K : PySem.W.Frag} {sp : Addr} {F : Hp} : ∀ {kws : List (L2.Key × V)} {kvs : List (D × D)}, RpI K sp F kws kvs → kws.length = kvs.length
  | _, _, .nil => rfl
  | _, _, .cons _ a => congrArg (· + 1) (rpI_len a)
end
end Fz
/-! FzF: built-in functions and types by data. -/
namespace Fz
open PySem PySem.Spec PyProof.Rows L2
def Bi.name : Bi → String
  | .len => "len"
  | .abs => "abs"
  | .tuple => "tuple"
  | .list => "list"
  | .int => "int"
  | .bool => "bool"
  | .sum => "sum"
  | .any => "any"
  | .all => "all"
  | .max => "max"
  | .min => "min"
  | .repr => "repr"
  | .sorted => "sorted"
def Bi.isT : Bi → Bool
  | .tuple => true
  | .list => true
  | .int => true
  | .bool => true
  | _ => false
def Bi.val (b : Bi) : Value := if b.isT then .type b.name else .builtin b.name
def Bi.str (b : Bi) : Str := Str.ofString b.name
theorem Bi.boot (b : Bi) : bootBuiltins b.str = some b.val := by
  cases b <;> decide +kernel
section
variable {X : Cx} {G : Gx}
/-- a call of a built-in upon data -/
def rBi (o : List D → Option D) : List V → Hp → VK → Prop := fun xs H Q => ∃ F s ds d, Same F H ∧ SrcAt G.sp G.cc H s ∧ F G.sp = none ∧ F G.cc = none ∧ RbA G.K G.sp G.cc F H xs ds ∧ o ds = some d ∧
  ∀ z F' H', Fw G.sp G.cc F H F' H' s → Rn G.K G.sp H F' H' z d → Q z H'
theorem rbA_one {F H : Hp} {xs : List V} {d : D} (h : RbA G.K G.sp G.cc F H xs [d]) : ∃ x, xs = [x] ∧ Rb G.K G.sp G.cc F H x d := by
  cases xs with
  | nil => exact h.elim
  | cons x xs =>
    cases xs with
    | nil => exact ⟨x, rfl, h.1⟩
    | cons _ _ => exact h.2.elim
theorem rbA_two {F H : Hp} {xs : List V} {d e : D} (h : RbA G.K G.sp G.cc F H xs [d, e]) : ∃ x y, xs = [x, y] ∧ Rb G.K G.sp G.cc F H x d ∧ Rb G.K G.sp G.cc F H y e := by
  cases xs with
  | nil => exact h.elim
  | cons x xs =>
    obtain ⟨y, rfl, h2⟩ := rbA_one h.2
    exact ⟨x, y, rfl, h.1, h2⟩
theorem maxL_best : ∀ (ns : List Int) (m : Int), (maxL m ns = m ∨ maxL m ns ∈ ns) ∧ m ≤ maxL m ns ∧ ∀ y ∈ ns, y ≤ maxL m ns
  | [], m => ⟨.inl rfl, Int.le_refl _, fun _ h => nomatch h⟩
  | x :: r, m => by
    obtain ⟨h1, h2, h3⟩ := maxL_best r (if x > m then x else m)
    show (maxL (if x > m then x else m) r = m ∨ _) ∧ _ ∧ _
    have e : maxL m (x :: r) = maxL (if x > m then x else m) r := rfl
    rw [e]
    generalize maxL (if x > m then x else m) r = q at h1 h2 h3 ⊢
    refine ⟨?_, ?_, fun y hy => ?_⟩
    · rcases h1 with h1 | h1
      · by_cases hx : x > m
        · rw [if_pos hx] at h1; exact .inr (by rw [h1]; exact List.mem_cons_self ..)
        · rw [if_neg hx] at h1; exact .inl h1
      · exact .inr (List.mem_cons_of_mem _ h1)
    · split at h2 <;> omega
    · rcases List.mem_cons.mp hy with rfl | hy
      · split at h2 <;> omega
      · exact h3 y hy
theorem minL_best : ∀ (ns : List Int) (m : Int), (minL m ns = m ∨ minL m ns ∈ ns) ∧ minL m ns ≤ m ∧ ∀ y ∈ ns, minL m ns ≤ y
  | [], m => ⟨.inl rfl, Int.le_refl _, fun _ h => nomatch h⟩
  | x :: r, m => by
    obtain ⟨h1, h2, h3⟩ := minL_best r (if x < m then x else m)
    have e : minL m (x :: r) = minL (if x < m then x else m) r := rfl
    rw [e]
    generalize minL (if x < m then x else m) r = q at h1 h2 h3 ⊢
    refine ⟨?_, ?_, fun y hy => ?_⟩
    · rcases h1 with h1 | h1
      · by_cases hx : x < m
        · rw [if_pos hx] at h1; exact .inr (by rw [h1]; exact List.mem_cons_self ..)
        · rw [if_neg hx] at h1; exact .inl h1
      · exact .inr (List.mem_cons_of_mem _ h1)
    · split at h2 <;> omega
    · rcases List.mem_cons.mp hy with rfl | hy
      · split at h2 <;> omega
      · exact h3 y hy
theorem maxL_is {ns : List Int} {x0 m : Int} (hm : m ∈ x0 :: ns) (hle : ∀ y, y ∈ x0 :: ns → y ≤ m) : m = maxL x0 ns := by
  obtain ⟨b1, b2, b3⟩ := maxL_best ns x0
  refine Int.le_antisymm ?_ (hle _ ?_)
  · rcases List.mem_cons.mp hm with rfl | hm
    · exact b2
    · exact b3 m hm
  · rcases b1 with b1 | b1
    · rw [b1]; exact List.mem_cons_self ..
    · exact List.mem_cons_of_mem _ b1
theorem minL_is {ns : List Int} {x0 m : Int} (hm : m ∈ x0 :: ns) (hle : ∀ y, y ∈ x0 :: ns → m ≤ y) : m = minL x0 ns := by
  obtain ⟨b1, b2, b3⟩ := minL_best ns x0
  refine Int.le_antisymm (hle _ ?_) ?_
  · rcases b1 with b1 | b1
    · rw [b1]; exact List.mem_cons_self ..
    · exact List.mem_cons_of_mem _ b1
  · rcases List.mem_cons.mp hm with rfl | hm
    · exact b2
    · exact b3 m hm
theorem insI_perm (x : Int) : ∀ l : List Int, (insI x l).Perm (x :: l)
  | [] => .refl _
  | y :: r => by
    unfold insI
    split
    · exact .refl _
    · exact ((insI_perm x r).cons y).trans (.swap x y r)
theorem sortI_perm : ∀ l : List Int, (sortI l).Perm l
  | [] => .refl _
  | x :: r => (insI_perm x (sortI r)).trans ((sortI_perm r).cons x)
theorem insI_sorted (x : Int) : ∀ l : List Int, l.Pairwise (· ≤ ·) → (insI x l).Pairwise (· ≤ ·)
  | [], _ => by simp [insI]
  | y :: r, h => by
    obtain ⟨h1, h2⟩ := List.pairwise_cons.mp h
    unfold insI
    split
    · rename_i hxy
      refine List.pairwise_cons.mpr ⟨fun z hz => ?_, h⟩
      rcases List.mem_cons.mp hz with rfl | hz
      · omega
      · have := h1 z hz; omega
    · rename_i hxy
      refine List.pairwise_cons.mpr ⟨fun z hz => ?_, insI_sorted x r h2⟩
      rcases List.mem_cons.mp ((insI_perm x r).mem_iff.mp hz) with rfl | hz
      · omega
      · exact h1 z hz
theorem sortI_sorted : ∀ l : List Int, (sortI l).Pairwise (· ≤ ·)
  | [] => .nil
  | x :: r => insI_sorted x _ (sortI_sorted r)
theorem sorted_uniq {l m : List Int} (h1 : l.Pairwise (· ≤ ·)) (h2 : m.Pairwise (· ≤ ·)) (p : l.Perm m) : l = m :=
  List.Perm.eq_of_pairwise (fun a b _ _ h h' => Int.le_antisymm h h') h1 h2 p
theorem depth_ok {d : D} (h : okD d = true) : d.depth ≤ 64 := SeqAt.depth_of_shaped h
theorem repr_ok (hK : X.K = G.K) (hg : X.A.guards = some []) (hu : X.A.units + 66 < cLine) {F H : Hp} {s : Shared} {σ : L2.St} {pins : List (Addr × Obj)} {x : V} {u : Value} {d : D} {Q : VK} (I : Inv X pins σ H s) (e : Same F H) (rx : RelV x u) (hx : Rb G.K G.sp G.cc F H x d) (h1 : okD d = true) (h2 : d.showable = true)
    (h3 : small d.shown.length = true) (k : Q (.str d.shown) H) : wpAny (model X.prog X.w) X.A (call (.builtin "repr") [u]) (EP X pins σ Q) X.xe s := by
  have c := SeqAt.canLay_of_shaped h1
  have dp : Dp X.K H x d := hK ▸ hx.dp e c
  obtain ⟨as, rd⟩ := Dp.reads I d x u dp rx
  have hd := depth_ok h1
  have fin : ∀ h' tk t, (∀ b o, s.heap.get? b = some o → h'.get? b = some o) → EP X pins σ Q (.str d.shown t) { s with heap := h', toks := tk } := fun h' tk t hk => ⟨.str d.shown, H, I.kept hk, ⟨t, rfl⟩, k⟩
  cases rd with
  | none => exact PySem.P.repr_of_none (fin s.heap _ _ fun _ _ z => z)
  | bool b =>
    refine PySem.P.repr_of_bool ?_
    have := fin s.heap (s.toks + 1) s.toks fun _ _ z => z
    cases b <;> simpa [PyData.shown] using this
  | int i t => exact PySem.P.repr_of_int (by simpa [PyData.showable] using h2) (fin s.heap _ _ fun _ _ z => z)
  | str z t => exact PySem.P.repr_of_str (fin s.heap _ _ fun _ _ z => z) (hsz := small_le h3)
  | list a1 a2 a3 a4 => exact repr_of_reads' (Reads.list a1 a2 a3 a4) h2 (PyData.noDict_hsm (PyData.hasDict_of_canLay _ c)) hg (by omega) (fun _ _ z => z) (fun h' u tk hk => fin h' tk u hk) (small_le h3)
  | tuple a1 a2 a3 a4 => exact repr_of_reads' (Reads.tuple a1 a2 a3 a4) h2 (PyData.noDict_hsm (PyData.hasDict_of_canLay _ c)) hg (by omega) (fun _ _ z => z) (fun h' u tk hk => fin h' tk u hk) (small_le h3)
  | dict => simp [PyData.canLay0] at c
/-- the data of tuples of ints -/
theorem tups_of (hK : X.K = G.K) {F H : Hp} (e : Same F H) : ∀ {vs : List V} {xs : List D} {nss : List (List Int)}, RpA G.K G.sp F vs xs → tupsOf xs = some nss → TupsI X.K H vs nss
  | _, _, nss, .nil, h => by cases h; exact .nil
  | _, _, nss, .cons (.tup (ds := ds) h1 h2) a, h => by
    obtain ⟨ns, e1, e2⟩ := Option.bind_eq_some_iff.mp (show (intsOf ds).bind _ = some nss from h)
    obtain ⟨mss, e3, rfl⟩ := Option.map_eq_some_iff.mp e2
    have h3 := sqT_same (K := G.K) e h1
    rw [h2.ints e1, ← hK] at h3
    exact .cons h3 (tups_of hK e a e3)
  | _, _, nss, .cons .non a, h => nomatch h
  | _, _, nss, .cons (.bl _) a, h => nomatch h
  | _, _, nss, .cons (.int _) a, h => nomatch h
  | _, _, nss, .cons (.str _) a, h => nomatch h
  | _, _, nss, .cons (.lst _ _) a, h => nomatch h
  | _, _, nss, .cons .src a, h => nomatch h
  | _, _, nss, .cons (.dct _ _) a, h => nomatch h
  | _, _, nss, .cons (.dck _ _) a, h => nomatch h
theorem tupsOf_mem : ∀ {xs : List D} {nss : List (List Int)} {d : D}, tupsOf xs = some nss → d ∈ xs → ∃ (ds : List D) (ns : List Int), d = .tuple ds ∧ intsOf ds = some ns
  | [], _, _, _, hd => nomatch hd
  | x :: r, nss, d, h, hd => by
    cases x with
    | tuple ds =>
      obtain ⟨ns, e1, e2⟩ := Option.bind_eq_some_iff.mp (show (intsOf ds).bind _ = some nss from h)
      rcases List.mem_cons.mp hd with rfl | hd
      · exact ⟨ds, ns, rfl, e1⟩
      · obtain ⟨mss, e3, _⟩ := Option.map_eq_some_iff.mp e2
        exact tupsOf_mem e3 hd
    | _ => cases h
theorem tups_rp (hK : X.K = G.K) {pins : List (Addr × Obj)} {σ : L2.St} {F H : Hp} {s : Shared} (I : Inv X pins σ H s) (e : Same F H) {vs : List V} {xs : List D} {nss : List (List Int)} (ra : RpA G.K G.sp F vs xs) (hn : tupsOf xs = some nss) :
    ∀ (ws : List V) (mss : List (List Int)), (∀ y ∈ ws, y ∈ vs) → TupsI X.K H ws mss → RpA G.K G.sp F ws (mss.map fun ns => .tuple (ns.map .int))
  | [], [], _, .nil => .nil
  | .ref a :: _, ns :: _, hm, .cons h t => by
    obtain ⟨i, hi, e2⟩ := List.mem_iff_getElem.mp (hm _ (List.mem_cons_self ..))
    obtain ⟨d, e3, r⟩ := ra.getV (show vs[i]? = some (V.ref a) by rw [← e2]; exact List.getElem?_eq_getElem hi)
    obtain ⟨ds, ms, rfl, e4⟩ := tupsOf_mem hn (List.mem_of_getElem? e3)
    obtain ⟨b, us, eb, h1, h2⟩ := r.tuple
    cases eb
    rw [h2.ints e4] at h1
    have h3 := sqT_same (K := G.K) e h1
    rw [← hK] at h3
    have e5 := I.tuple_inj h3 h
    rw [e5] at h1
    exact .cons (.tup h1 (RpA.ofInts ns)) (tups_rp hK I e ra hn _ _ (fun y hy => hm y (List.mem_cons_of_mem _ hy)) t)
theorem bi_ok (b : Bi) (hK : X.K = G.K) (hc : X.calm = true) (hg : X.A.guards = some []) (hu : X.A.units + 66 < cLine) : CallR X b.val (rBi (G := G) (biV b)) := by
  intro pins s σ H xs us Q I r ⟨F, sr, ds, d, e, q, f1, f2, hx, ho, k⟩
  have rf := Fw.refl e q
  cases b with
  | len =>
    unfold biV at ho
    split at ho <;> first | (simp only [reduceCtorEq] at *; done) | skip
    · rename_i ys _
      obtain ⟨x, rfl, h⟩ := rbA_one hx
      cases ho
      obtain ⟨p, vs, rfl, e1, n1, n2, ra⟩ := h
      exact call_len pins s σ H _ us Q I r ⟨_, vs.length, rfl, .inl ⟨vs, SqL.of e1, rfl⟩, ra.length ▸ k _ _ _ rf (.int _)⟩
    · rename_i ys _
      obtain ⟨x, rfl, h⟩ := rbA_one hx
      cases ho
      obtain ⟨p, vs, rfl, e1, ra⟩ := h.tuple
      exact call_len pins s σ H _ us Q I r ⟨_, vs.length, rfl, .inr ⟨vs, hK ▸ sqT_same e e1, rfl⟩, ra.length ▸ k _ _ _ rf (.int _)⟩
    · rename_i kvs _
      obtain ⟨x, rfl, h⟩ := rbA_one hx
      obtain ⟨hs, rfl⟩ := if_some ho
      rcases h with ⟨es, rfl⟩ | ⟨p, o, rfl, hH, _, _, ro⟩
      · injection es with es
        subst es
        cases hs
      · cases o with
        | dT kws => exact cr_lenD pins s σ H _ us Q I r ⟨p, kvs.length, rfl, .inl ⟨kws, hH, (rpK_len ro).symm⟩, k _ _ _ rf (.int _)⟩
        | dK kws => exact cr_lenD pins s σ H _ us Q I r ⟨p, kvs.length, rfl, .inr ⟨kws, hH, (rpI_len ro).symm⟩, k _ _ _ rf (.int _)⟩
        | _ => exact ro.elim
    · rename_i z _
      obtain ⟨x, rfl, h⟩ := rbA_one hx
      obtain ⟨hs, rfl⟩ := if_some ho
      rw [h.str] at r
      exact call_len pins s σ H _ us Q I r ⟨_, z.length, rfl, ⟨small_le hs, rfl⟩, k _ _ _ rf (.int _)⟩
  | abs =>
    unfold biV at ho
    split at ho <;> first | (simp only [reduceCtorEq] at *; done) | skip
    rename_i i _
    obtain ⟨x, rfl, h⟩ := rbA_one hx
    cases ho
    rw [h.int] at r
    exact call_abs pins s σ H _ us Q I r ⟨i, rfl, k _ _ _ rf (.int _)⟩
  | tuple =>
    unfold biV at ho
    split at ho <;> first | (simp only [reduceCtorEq] at *; done) | skip
    · rename_i ys _
      obtain ⟨x, rfl, h⟩ := rbA_one hx
      cases ho
      obtain ⟨p, vs, rfl, e1, n1, n2, ra⟩ := h
      exact call_tuple_of pins s σ H _ us Q I r ⟨p, vs, rfl, .inl ⟨SqL.of e1, fun l hl => new_tup e q ra k l hl⟩⟩
    · rename_i ys _
      obtain ⟨x, rfl, h⟩ := rbA_one hx
      cases ho
      obtain ⟨p, vs, rfl, e1, ra⟩ := h.tuple
      exact call_tuple_of pins s σ H _ us Q I r ⟨p, vs, rfl, .inr ⟨hK ▸ sqT_same e e1, k _ _ _ rf (.tup e1 ra)⟩⟩
  | list =>
    unfold biV at ho
    split at ho <;> first | (simp only [reduceCtorEq] at *; done) | skip
    · rename_i ys _
      obtain ⟨x, rfl, h⟩ := rbA_one hx
      cases ho
      obtain ⟨p, vs, rfl, e1, n1, n2, ra⟩ := h
      exact call_list_of pins s σ H _ us Q I r ⟨p, vs, rfl, .inl (SqL.of e1), fun l hl => new_list e q f1 f2 ra k l hl⟩
    · rename_i ys _
      obtain ⟨x, rfl, h⟩ := rbA_one hx
      cases ho
      obtain ⟨p, vs, rfl, e1, ra⟩ := h.tuple
      exact call_list_of pins s σ H _ us Q I r ⟨p, vs, rfl, .inr (hK ▸ sqT_same e e1), fun l hl => new_list e q f1 f2 ra k l hl⟩
  | int =>
    unfold biV at ho
    split at ho <;> first | (simp only [reduceCtorEq] at *; done) | skip
    · rename_i i _
      obtain ⟨x, rfl, h⟩ := rbA_one hx
      cases ho
      rw [h.int] at r
      exact call_int1 pins s σ H _ us Q I r (.inl ⟨i, rfl, k _ _ _ rf (.int _)⟩)
    · rename_i i _
      obtain ⟨x, rfl, h⟩ := rbA_one hx
      cases ho
      rw [h.bool] at r
      exact call_int1 pins s σ H _ us Q I r (.inr ⟨i, rfl, k _ _ _ rf (.int _)⟩)
  | bool =>
    unfold biV at ho
    split at ho <;> first | (simp only [reduceCtorEq] at *; done) | skip
    · rename_i i _
      obtain ⟨x, rfl, h⟩ := rbA_one hx
      cases ho
      rw [h.int] at r
      exact call_bool1 pins s σ H _ us Q I r (.inl ⟨i, rfl, k _ _ _ rf (.bl _)⟩)
    · rename_i i _
      obtain ⟨x, rfl, h⟩ := rbA_one hx
      cases ho
      rw [h.bool] at r
      exact call_bool1 pins s σ H _ us Q I r (.inr ⟨i, rfl, k _ _ _ rf (.bl _)⟩)
  | sum =>
    unfold biV at ho
    split at ho <;> first | (simp only [reduceCtorEq] at *; done) | skip
    · rename_i ys _
      obtain ⟨ns, hn, rfl⟩ := Option.map_eq_some_iff.mp ho
      obtain ⟨x, rfl, h⟩ := rbA_one hx
      obtain ⟨p, vs, rfl, e1, n1, n2, ra⟩ := h
      rw [ra.ints hn] at e1
      exact cr_sum hc pins s σ H _ us Q I r ⟨p, ns, rfl, SqL.of e1, k _ _ _ rf (.int _)⟩
    · rename_i ys _
      obtain ⟨ns, hn, rfl⟩ := Option.map_eq_some_iff.mp ho
      obtain ⟨x, rfl, h⟩ := rbA_one hx
      obtain ⟨p, vs, rfl, e1, ra⟩ := h.tuple
      rw [ra.ints hn] at e1
      exact cr_sumT hc pins s σ H _ us Q I r ⟨p, ns, rfl, hK ▸ sqT_same e e1, k _ _ _ rf (.int _)⟩
  | any =>
    unfold biV at ho
    split at ho <;> first | (simp only [reduceCtorEq] at *; done) | skip
    · rename_i ys _
      obtain ⟨bs, hn, rfl⟩ := Option.map_eq_some_iff.mp ho
      obtain ⟨x, rfl, h⟩ := rbA_one hx
      obtain ⟨p, vs, rfl, e1, n1, n2, ra⟩ := h
      exact cr_anyG hc pins s σ H _ us Q I r ⟨p, vs, bs, rfl, .inl (SqL.of e1), ra.trs hn, k _ _ _ rf (.bl _)⟩
    · rename_i ys _
      obtain ⟨bs, hn, rfl⟩ := Option.map_eq_some_iff.mp ho
      obtain ⟨x, rfl, h⟩ := rbA_one hx
      obtain ⟨p, vs, rfl, e1, ra⟩ := h.tuple
      exact cr_anyG hc pins s σ H _ us Q I r ⟨p, vs, bs, rfl, .inr (hK ▸ sqT_same e e1), ra.trs hn, k _ _ _ rf (.bl _)⟩
  | all =>
    unfold biV at ho
    split at ho <;> first | (simp only [reduceCtorEq] at *; done) | skip
    · rename_i ys _
      obtain ⟨bs, hn, rfl⟩ := Option.map_eq_some_iff.mp ho
      obtain ⟨x, rfl, h⟩ := rbA_one hx
      obtain ⟨p, vs, rfl, e1, n1, n2, ra⟩ := h
      exact cr_allG hc pins s σ H _ us Q I r ⟨p, vs, bs, rfl, .inl (SqL.of e1), ra.trs hn, k _ _ _ rf (.bl _)⟩
    · rename_i ys _
      obtain ⟨bs, hn, rfl⟩ := Option.map_eq_some_iff.mp ho
      obtain ⟨x, rfl, h⟩ := rbA_one hx
      obtain ⟨p, vs, rfl, e1, ra⟩ := h.tuple
      exact cr_allG hc pins s σ H _ us Q I r ⟨p, vs, bs, rfl, .inr (hK ▸ sqT_same e e1), ra.trs hn, k _ _ _ rf (.bl _)⟩
  | max =>
    unfold biV at ho
    split at ho <;> first | (simp only [reduceCtorEq] at *; done) | skip
    · rename_i i j _
      obtain ⟨x, y, rfl, h1, h2⟩ := rbA_two hx
      cases ho
      rw [h1.int, h2.int] at r
      exact call_max2 hc pins s σ H _ us Q I r ⟨i, j, rfl, k _ _ _ rf (.int _)⟩
    · rename_i x0 ys _
      obtain ⟨ns, hn, rfl⟩ := Option.map_eq_some_iff.mp ho
      obtain ⟨x, rfl, h⟩ := rbA_one hx
      obtain ⟨p, vs, rfl, e1, n1, n2, ra⟩ := h
      have hv : vs = (x0 :: ns).map V.int := ra.ints (by simp [intsOf, hn])
      rw [hv] at e1
      exact cr_max hc pins s σ H _ us Q I r ⟨p, x0 :: ns, rfl, SqL.of e1, by simp, fun m hm hle => maxL_is hm hle ▸ k _ _ _ rf (.int _)⟩
    · rename_i x0 ys _
      obtain ⟨ns, hn, rfl⟩ := Option.map_eq_some_iff.mp ho
      obtain ⟨x, rfl, h⟩ := rbA_one hx
      obtain ⟨p, vs, rfl, e1, ra⟩ := h.tuple
      have hv : vs = (x0 :: ns).map V.int := ra.ints (by simp [intsOf, hn])
      rw [hv] at e1
      exact cr_maxT hc pins s σ H _ us Q I r ⟨p, x0 :: ns, rfl, hK ▸ sqT_same e e1, by simp, fun m hm hle => maxL_is hm hle ▸ k _ _ _ rf (.int _)⟩
  | min =>
    unfold biV at ho
    split at ho <;> first | (simp only [reduceCtorEq] at *; done) | skip
    · rename_i i j _
      obtain ⟨x, y, rfl, h1, h2⟩ := rbA_two hx
      cases ho
      rw [h1.int, h2.int] at r
      exact call_min2 hc pins s σ H _ us Q I r ⟨i, j, rfl, k _ _ _ rf (.int _)⟩
    · rename_i x0 ys _
      obtain ⟨ns, hn, rfl⟩ := Option.map_eq_some_iff.mp ho
      obtain ⟨x, rfl, h⟩ := rbA_one hx
      obtain ⟨p, vs, rfl, e1, n1, n2, ra⟩ := h
      have hv : vs = (x0 :: ns).map V.int := ra.ints (by simp [intsOf, hn])
      rw [hv] at e1
      exact cr_min hc pins s σ H _ us Q I r ⟨p, x0 :: ns, rfl, SqL.of e1, by simp, fun m hm hle => minL_is hm hle ▸ k _ _ _ rf (.int _)⟩
    · rename_i x0 ys _
      obtain ⟨ns, hn, rfl⟩ := Option.map_eq_some_iff.mp ho
      obtain ⟨x, rfl, h⟩ := rbA_one hx
      obtain ⟨p, vs, rfl, e1, ra⟩ := h.tuple
      have hv : vs = (x0 :: ns).map V.int := ra.ints (by simp [intsOf, hn])
      rw [hv] at e1
      exact cr_minT hc pins s σ H _ us Q I r ⟨p, x0 :: ns, rfl, hK ▸ sqT_same e e1, by simp, fun m hm hle => minL_is hm hle ▸ k _ _ _ rf (.int _)⟩
  | repr =>
    unfold biV at ho
    split at ho <;> first | (simp only [reduceCtorEq] at *; done) | skip
    rename_i d0 _
    obtain ⟨hs, rfl⟩ := if_some ho
    obtain ⟨x, rfl, h⟩ := rbA_one hx
    obtain ⟨u, rfl, ru⟩ := vals1 r
    simp only [Bool.and_eq_true] at hs
    exact repr_ok hK hg hu I e ru h hs.1.1 hs.1.2 hs.2 (k _ _ _ rf (.str _))
  | sorted =>
    unfold biV at ho
    split at ho <;> first | (simp only [reduceCtorEq] at *; done) | skip
    · rename_i ys _
      obtain ⟨x, rfl, h⟩ := rbA_one hx
      obtain ⟨p, vs, rfl, e1, n1, n2, ra⟩ := h
      unfold sortV at ho
      split at ho
      · rename_i ns hn
        cases ho
        rw [ra.ints hn] at e1
        refine cr_sortedI pins s σ H _ us Q I r ⟨p, ns, rfl, SqL.of e1, fun ns' p' pm sr' hp => ?_⟩
        rw [sorted_uniq sr' (sortI_sorted ns) (pm.trans (sortI_perm ns).symm)]
        exact new_list e q f1 f2 (RpA.ofInts (sortI ns)) k p' hp
      · obtain ⟨nss, hn, rfl⟩ := Option.map_eq_some_iff.mp ho
        have t1 := tups_of hK e ra hn
        refine cr_sortTI (by omega) pins s σ H _ us Q I r ⟨p, vs, nss, rfl, SqL.of e1, t1, fun ws p' hm ht hp => ?_⟩
        exact new_list e q f1 f2 (tups_rp hK I e ra hn ws _ hm ht) k p' hp
    · rename_i kvs _
      obtain ⟨x, rfl, h⟩ := rbA_one hx
      rcases h with ⟨es, rfl⟩ | ⟨p, o, rfl, hH, _, _, ro⟩
      · injection es with es
        subst es
        cases ho
      · have tup : ∀ {kws : List (List L2.Key × V)} {nss : List (List Int)}, Rd H p (.dT kws) → kws.map (·.1) = nss.map (fun ns => ns.map Sum.inl) → (∀ z F' H', Fw G.sp G.cc F H F' H' sr → Rn G.K G.sp H F' H' z (.list ((sortT nss).map fun ns => .tuple (ns.map .int))) → Q z H') →
            wpAny (model X.prog X.w) X.A (call (.builtin "sorted") us) (fun w s' => ∃ y H', Inv X pins σ H' s' ∧ RelV y w ∧ Q y H') X.xe s := fun {kws nss} hR t1 kk => by
          refine cr_sortDT (I.ok.hd hc) (by omega) pins s σ H _ us Q I r ⟨p, kws, nss, rfl, hR, t1, fun ys p' ht hp => ?_⟩
          have fw := frT_fw (xs := ys) e q (tupsH_all ht)
          have g1 : frT F H ys G.sp = none := fw.new _ f1 (nt_of q.1 nofun)
          have g2 : frT F H ys G.cc = none := fw.new _ f2 (nt_of q.2 nofun)
          exact new_list fw.sub fw.src g1 g2 (tupsH_rp e ys ys _ (fun y hy => hy) ht) (fun z F' H' f' hz => kk z F' H' (fw.trans f') hz) p' hp
        split at ho
        · rename_i ns hn
          cases ho
          cases o with
          | dT kws =>
            obtain ⟨rfl, rfl, rfl⟩ := dct_ints ro hn
            exact tup (nss := []) hH rfl k
          | dK kws =>
            refine cr_sortDK (I.ok.hd hc) pins s σ H _ us Q I r ⟨p, kws, ns, rfl, hH, dck_ints ro hn, fun ns' p' pm sr' hp => ?_⟩
            rw [sorted_uniq sr' (sortI_sorted ns) (pm.trans (sortI_perm ns).symm)]
            exact new_list e q f1 f2 (RpA.ofInts (sortI ns)) k p' hp
          | _ => exact ro.elim
        · rename_i hn0
          obtain ⟨nss, hn, rfl⟩ := Option.map_eq_some_iff.mp ho
          cases o with
          | dT kws => exact tup hH (dct_keys ro hn) k
          | dK kws =>
            cases (show RpI G.K G.sp F kws kvs from ro) with
            | nil => cases hn0
            | cons _ _ => cases hn
          | _ => exact ro.elim
    · rename_i ys _
      obtain ⟨ns, hn, rfl⟩ := Option.map_eq_some_iff.mp ho
      obtain ⟨x, rfl, h⟩ := rbA_one hx
      obtain ⟨p, vs, rfl, e1, ra⟩ := h.tuple
      rw [ra.ints hn] at e1
      refine cr_sortIT pins s σ H _ us Q I r ⟨p, ns, rfl, hK ▸ sqT_same e e1, fun ns' p' pm sr' hp => ?_⟩
      rw [sorted_uniq sr' (sortI_sorted ns) (pm.trans (sortI_perm ns).symm)]
      exact new_list e q f1 f2 (RpA.ofInts (sortI ns)) k p' hp
end
end Fz
/-! FzG: targets, what is walked, comprehensions. -/
namespace Fz
open PySem PySem.Spec PyProof.Rows L2
/-! ### environments that agree -/
def Agree (A : List Nat) (a b : En) : Prop := a.length = b.length ∧ ∀ i, i ∉ A → a.getD i none = b.getD i none
theorem agree_set {A : List Nat} {a b : En} (h : Agree A a b) (i : Nat) (x : Option D) : Agree (A.filter fun j => j != i) (a.set i x) (b.set i x) := by
  refine ⟨by simpa using h.1, fun j hj => ?_⟩
  by_cases e : j = i
  · subst e
    by_cases hl : j < a.length
    · have hl2 : j < b.length := h.1 ▸ hl
      simp [List.getD_eq_getElem?_getD, List.getElem?_set_self hl, List.getElem?_set_self hl2]
    · have hl2 : ¬ j < b.length := h.1 ▸ hl
      rw [List.getD_eq_getElem?_getD, List.getD_eq_getElem?_getD, List.getElem?_eq_none (by rw [List.length_set]; omega), List.getElem?_eq_none (by rw [List.length_set]; omega)]
  · have hA : j ∉ A := fun q => hj (List.mem_filter.mpr ⟨q, by simpa using e⟩)
    have := h.2 j hA
    simp only [List.getD_eq_getElem?_getD] at this ⊢
    rw [List.getElem?_set_ne (Ne.symm e), List.getElem?_set_ne (Ne.symm e)]
    exact this
theorem Agree.eq {a b : En} (h : Agree [] a b) : a = b := by
  refine List.ext_getElem? fun i => ?_
  have := h.2 i (by simp)
  simp only [List.getD_eq_getElem?_getD] at this
  by_cases hl : i < a.length
  · have hl2 : i < b.length := h.1 ▸ hl
    rw [List.getElem?_eq_getElem hl, List.getElem?_eq_getElem hl2] at this ⊢
    simpa using this
  · have hl2 : ¬ i < b.length := h.1 ▸ hl
    rw [List.getElem?_eq_none (by omega), List.getElem?_eq_none (by omega)]
theorem Agree.sub {A B : List Nat} {a b : En} (h : Agree A a b) (s : ∀ i ∈ A, i ∈ B) : Agree B a b := ⟨h.1, fun i hi => h.2 i fun q => hi (s i q)⟩
mutual
theorem tgSet_agree : ∀ (t : Tg) (d : D) (A : List Nat) (en en' e1 : En), Agree A en' en → tgSet t d en = some e1 → ∃ e1', tgSet t d en' = some e1' ∧ Agree (A.filter fun j => !t.slots.contains j) e1' e1
  | .name i, d, A, en, en', e1, h, e => by
    have e2 : en.set i (some d) = e1 := by simpa [tgSet] using e
    subst e2
    refine ⟨en'.set i (some d), by simp [tgSet], (agree_set h i (some d)).sub fun j hj => ?_⟩
    obtain ⟨h1, h2⟩ := List.mem_filter.mp hj
    refine List.mem_filter.mpr ⟨h1, ?_⟩
    have : j ≠ i := by simpa using h2
    simp [Tg.slots, this]
  | .tup ts, d, A, en, en', e1, h, e => by
    cases d with
    | tuple ds => exact tgSets_agree ts ds A en en' e1 h (by simpa [tgSet] using e)
    | list ds => exact tgSets_agree ts ds A en en' e1 h (by simpa [tgSet] using e)
    | _ => simp [tgSet] at e
theorem tgSets_agree : ∀ (ts : List Tg) (ds : List D) (A : List Nat) (en en' e1 : En), Agree A en' en → tgSets ts ds en = some e1 → ∃ e1', tgSets ts ds en' = some e1' ∧ Agree (A.filter fun j => !(Tg.slots.slotsL ts).contains j) e1' e1
  | [], ds, A, en, en', e1, h, e => by
    cases ds with
    | nil =>
      have e2 : en = e1 := by simpa [tgSets] using e
      subst e2
      exact ⟨en', by simp [tgSets], h.sub fun j hj => List.mem_filter.mpr ⟨hj, by simp [Tg.slots.slotsL]⟩⟩
    | cons _ _ => simp [tgSets] at e
  | t :: ts, ds, A, en, en', e1, h, e => by
    cases ds with
    | nil => simp [tgSets] at e
    | cons d ds =>
      obtain ⟨ea, h1, h2⟩ := Option.bind_eq_some_iff.mp (show (tgSet t d en).bind (fun x => tgSets ts ds x) = some e1 by simpa [tgSets] using e)
      obtain ⟨ea', h3, h4⟩ := tgSet_agree t d A en en' ea h h1
      obtain ⟨eb', h5, h6⟩ := tgSets_agree ts ds _ ea ea' e1 h4 h2
      refine ⟨eb', ?_, h6.sub fun j hj => ?_⟩
      · have : (tgSet t d en').bind (fun x => tgSets ts ds x) = some eb' := by rw [h3]; exact h5
        simpa [tgSets] using this
      · obtain ⟨a1, a2⟩ := List.mem_filter.mp hj
        obtain ⟨a3, a4⟩ := List.mem_filter.mp a1
        refine List.mem_filter.mpr ⟨a3, ?_⟩
        simp only [Bool.not_eq_true', List.contains_eq_mem, decide_eq_false_iff_not] at a2 a4 ⊢
        simp only [Tg.slots.slotsL, List.mem_append, not_or]
        exact ⟨a4, a2⟩
end
def wipeE (en : En) : List Nat → En
  | [] => en
  | v :: vs => (wipeE en vs).set v none
theorem wipeE_len (en : En) : ∀ vs, (wipeE en vs).length = en.length
  | [] => rfl
  | v :: vs => by unfold wipeE; rw [List.length_set, wipeE_len en vs]
theorem wipeE_out {en : En} {i : Nat} : ∀ {vs : List Nat}, i ∉ vs → (wipeE en vs).getD i none = en.getD i none
  | [], _ => rfl
  | v :: vs, h => by
    have h1 : i ≠ v := fun e => h (by rw [e]; exact List.mem_cons_self ..)
    have h2 : i ∉ vs := fun q => h (List.mem_cons_of_mem _ q)
    unfold wipeE
    rw [List.getD_eq_getElem?_getD, List.getElem?_set_ne (Ne.symm h1), ← List.getD_eq_getElem?_getD]
    exact wipeE_out h2
theorem wipeE_in {en : En} {i : Nat} {d : D} : ∀ {vs : List Nat}, (wipeE en vs).getD i none = some d → i ∉ vs ∧ en.getD i none = some d
  | [], h => ⟨by simp, h⟩
  | v :: vs, h => by
    unfold wipeE at h
    by_cases e : i = v
    · subst e
      exfalso
      by_cases hl : i < (wipeE en vs).length
      · rw [List.getD_eq_getElem?_getD, List.getElem?_set_self hl] at h; cases h
      · rw [List.getD_eq_getElem?_getD, List.getElem?_eq_none (by simpa using Nat.le_of_not_lt hl)] at h; cases h
    · rw [List.getD_eq_getElem?_getD, List.getElem?_set_ne (Ne.symm e), ← List.getD_eq_getElem?_getD] at h
      obtain ⟨h1, h2⟩ := wipeE_in h
      exact ⟨by simp [e, h1], h2⟩
theorem tgSet_wipe {t : Tg} {d : D} {en e1 : En} (h : tgSet t d en = some e1) : tgSet t d (wipeE en t.slots) = some e1 := by
  obtain ⟨e1', h1, h2⟩ := tgSet_agree t d t.slots en (wipeE en t.slots) e1 ⟨wipeE_len _ _, fun i hi => wipeE_out hi⟩ h
  have : e1' = e1 := (h2.sub fun j hj => by
    obtain ⟨a, b⟩ := List.mem_filter.mp hj
    simp [a] at b).eq
  rw [h1, this]
theorem wipe_set {σ : L2.St} {i : Nat} {x : Option V} : ∀ {vs : List Nat}, i ∈ vs → wipe (σ.set i x) vs = wipe σ vs
  | v :: vs, h => by
    unfold wipe
    by_cases e : i = v
    · subst e
      by_cases hv : i ∈ vs
      · rw [wipe_set hv]
      · have : ∀ (us : List Nat), i ∉ us → wipe (σ.set i x) us = (wipe σ us).set i x := by
          intro us
          induction us with
          | nil => intro _; rfl
          | cons u us ih =>
            intro hu
            have h1 : u ≠ i := fun e => hu (by rw [e]; exact List.mem_cons_self ..)
            unfold wipe
            rw [ih fun q => hu (List.mem_cons_of_mem _ q), List.set_comm _ _ (Ne.symm h1)]
        rw [this vs hv, List.set_set]
    · have hv : i ∈ vs := by
        rcases List.mem_cons.mp h with q | q
        · exact absurd q e
        · exact q
      rw [wipe_set hv]
section
variable {K : PySem.W.Frag} {sp cc : Addr} {F H : Hp} {s : Src} {g : List Nat} {en : En} {σ : L2.St}
theorem Rl.congr {g' : List Nat} (R : Rl K sp cc g en σ F H s) (h : ∀ i, i ∈ g ↔ i ∈ g') : Rl K sp cc g' en σ F H s where
  sub := R.sub
  src := R.src
  fsp := R.fsp
  fcc := R.fcc
  len := R.len
  val := fun i d e n => R.val i d e fun q => n ((h i).mp q)
  own := fun i hi => R.own i ((h i).mpr hi)
  dis := fun i j a hi hj => R.dis i j a ((h i).mpr hi) ((h j).mpr hj)
/-- a slot that holds data now -/
theorem Rl.setF {i : Nat} {x : V} {d : D} (R : Rl K sp cc g en σ F H s) (r : Rp K sp F x d) : Rl K sp cc (g.filter fun j => j != i) (en.set i (some d)) (σ.set i (some x)) F H s where
  sub := R.sub
  src := R.src
  fsp := R.fsp
  fcc := R.fcc
  len := by simpa using R.len
  val := fun j d' e n => by
    by_cases hj : j = i
    · subst hj
      by_cases hl : j < en.length
      · rw [List.getD_eq_getElem?_getD, List.getElem?_set_self hl] at e
        cases e
        exact ⟨x, List.getElem?_set_self (R.len ▸ hl), r⟩
      · rw [List.getD_eq_getElem?_getD, List.getElem?_eq_none (by simpa using Nat.le_of_not_lt hl)] at e; cases e
    · rw [List.getD_eq_getElem?_getD, List.getElem?_set_ne (Ne.symm hj), ← List.getD_eq_getElem?_getD] at e
      rw [List.getElem?_set_ne (Ne.symm hj)]
      exact R.val j d' e fun q => n (List.mem_filter.mpr ⟨q, by simpa using hj⟩)
  own := fun j hm d' e => by
    obtain ⟨h1, h2⟩ := List.mem_filter.mp hm
    have hj : j ≠ i := by simpa using h2
    rw [List.getD_eq_getElem?_getD, List.getElem?_set_ne (Ne.symm hj), ← List.getD_eq_getElem?_getD] at e
    rw [List.getElem?_set_ne (Ne.symm hj)]
    exact R.own j h1 d' e
  dis := fun j k a hj hk ej ek sj sk => by
    obtain ⟨h1, h2⟩ := List.mem_filter.mp hj
    obtain ⟨h3, h4⟩ := List.mem_filter.mp hk
    have nj : j ≠ i := by simpa using h2
    have nk : k ≠ i := by simpa using h4
    rw [List.getD_eq_getElem?_getD, List.getElem?_set_ne (Ne.symm nj), ← List.getD_eq_getElem?_getD] at ej
    rw [List.getD_eq_getElem?_getD, List.getElem?_set_ne (Ne.symm nk), ← List.getD_eq_getElem?_getD] at ek
    rw [List.getElem?_set_ne (Ne.symm nj)] at sj
    rw [List.getElem?_set_ne (Ne.symm nk)] at sk
    exact R.dis j k a h1 h3 ej ek sj sk
theorem Rl.wipe (R : Rl K sp cc g en σ F H s) (vs : List Nat) : Rl K sp cc (g.filter fun j => !vs.contains j) (wipeE en vs) (wipe σ vs) F H s where
  sub := R.sub
  src := R.src
  fsp := R.fsp
  fcc := R.fcc
  len := by rw [wipeE_len, wipe_length, R.len]
  val := fun j d e n => by
    obtain ⟨h1, h2⟩ := wipeE_in e
    rw [wipe_out h1]
    exact R.val j d h2 fun q => n (List.mem_filter.mpr ⟨q, by simpa using h1⟩)
  own := fun j hm d e => by
    obtain ⟨h1, h2⟩ := wipeE_in e
    rw [wipe_out h1]
    exact R.own j (List.mem_filter.mp hm).1 d h2
  dis := fun j k a hj hk ej ek sj sk => by
    obtain ⟨h1, h2⟩ := List.mem_filter.mp hj
    obtain ⟨h3, h4⟩ := List.mem_filter.mp hk
    have nj : j ∉ vs := by simpa using h2
    have nk : k ∉ vs := by simpa using h4
    rw [wipe_out nj] at sj
    rw [wipe_out nk] at sk
    rw [wipeE_out nj] at ej
    rw [wipeE_out nk] at ek
    exact R.dis j k a h1 h3 ej ek sj sk
end
/-! ### targets -/
section
variable (G : Gx)
def RdG (t : Tg) : TG := fun x σ H Q => ∃ g en F s d en2, Rl G.K G.sp G.cc g en σ F H s ∧ Rp G.K G.sp F x d ∧ tgSet t d en = some en2 ∧
  ∀ σ2, Rl G.K G.sp G.cc (g.filter fun j => !t.slots.contains j) en2 σ2 F H s → (∀ vs : List Nat, (∀ i ∈ t.slots, i ∈ vs) → wipe σ2 vs = wipe σ vs) → Q σ2 H
def RdGs (ts : List Tg) : TGs := fun xs σ H Q => ∃ g en F s ds en2, Rl G.K G.sp G.cc g en σ F H s ∧ RpA G.K G.sp F xs ds ∧ tgSets ts ds en = some en2 ∧
  ∀ σ2, Rl G.K G.sp G.cc (g.filter fun j => !(Tg.slots.slotsL ts).contains j) en2 σ2 F H s → (∀ vs : List Nat, (∀ i ∈ Tg.slots.slotsL ts, i ∈ vs) → wipe σ2 vs = wipe σ vs) → Q σ2 H
end
theorem pg_imp {X : Cx} {e : Expr} {t t' : TG} (h : PG X e t) (i : ∀ v σ H Q, t' v σ H Q → t v σ H Q) : PG X e t' := ⟨fun pins s σ H v u Q I r q => h.run pins s σ H v u Q I r (i _ _ _ _ q)⟩
theorem pgs_imp {X : Cx} {es : List Expr} {t t' : TGs} (h : PGs X es t) (i : ∀ v σ H Q, t' v σ H Q → t v σ H Q) : PGs X es t' := ⟨fun pins s σ H v u Q I r q => h.run pins s σ H v u Q I r (i _ _ _ _ q)⟩
theorem assignEach_no {e : Expr} (h : isStarX e = false) (es : List Expr) (env : Env) : assignEach (e :: es) env = (false, assign e env) :: assignEach es env := by
  cases e <;> first | rfl | cases h
theorem assignEach_all {env : Env} : ∀ {es : List Expr}, es.all (fun e => !isStarX e) = true → (assignEach es env).length = es.length ∧ (assignEach es env).findIdx? (·.1) = none
  | [], _ => ⟨rfl, rfl⟩
  | e :: es, h => by
    have h2 := Bool.and_eq_true_iff.mp (show (!isStarX e && es.all fun e => !isStarX e) = true from h)
    have h3 : isStarX e = false := by simpa using h2.1
    obtain ⟨a, b⟩ := assignEach_all (env := env) h2.2
    rw [assignEach_no h3]
    refine ⟨by simp [a], ?_⟩
    rw [List.findIdx?_cons, b]; rfl
section
variable {X : Cx} {G : Gx}
theorem okG_name {i : Nat} {x : Str} {pos : Pos} (hN : X.N.Nodup) (hi : X.N[i]? = some x) (hx : Loc X.env.scope x) (hf : X.fn x = true ∨ X.env.scope.names.lookup x = some .local) : PG X (.Name x pos) (RdG G (.name i)) := by
  refine pg_imp (pg_name hN hi hx hf) fun v σ H Q ⟨g, en, F, s, d, en2, R, r, e, k⟩ => ?_
  have e2 : en.set i (some d) = en2 := by simpa [tgSet] using e
  subst e2
  refine k _ ((R.setF (i := i) r).congr fun j => ?_) fun vs hv => wipe_set (hv i (by simp [Tg.slots]))
  simp [Tg.slots, List.mem_filter]
theorem okGs_nil : PGs X [] (RdGs G []) := pgs_imp pgs_nil fun v σ H Q ⟨g, en, F, s, ds, en2, R, r, e, k⟩ => by
  cases r with
  | nil =>
    have e2 : en = en2 := by simpa [tgSets] using e
    subst e2
    exact ⟨rfl, k σ (R.congr fun j => by simp [Tg.slots.slotsL, List.mem_filter]) fun _ _ => rfl⟩
  | cons _ _ => simp [tgSets] at e
theorem okGs_cons {t : Tg} {ts : List Tg} {e : Expr} {es : List Expr} (hs : isStarX e = false) (h1 : PG X e (RdG G t)) (h2 : PGs X es (RdGs G ts)) : PGs X (e :: es) (RdGs G (t :: ts)) := by
  refine pgs_imp (pgs_cons h1 h2 (by rw [assignEach_no hs]; rfl)) fun xs σ H Q ⟨g, en, F, s, ds, en2, R, r, e, k⟩ => ?_
  cases r with
  | nil => simp [tgSets] at e
  | @cons v vs d ds r rs =>
    obtain ⟨ea, q1, q2⟩ := Option.bind_eq_some_iff.mp (show (tgSet t d en).bind (fun x => tgSets ts ds x) = some en2 by simpa [tgSets] using e)
    refine ⟨v, vs, rfl, g, en, F, s, d, ea, R, r, q1, fun σ2 R2 w2 => ⟨_, ea, F, s, ds, en2, R2, rs, q2, fun σ3 R3 w3 => k σ3 (R3.congr fun j => ?_) fun us hu => ?_⟩⟩
    · simp only [List.mem_filter, Tg.slots.slotsL, Bool.not_eq_true', List.contains_eq_mem, decide_eq_false_iff_not, List.mem_append, not_or]
      constructor
      · rintro ⟨⟨a, b⟩, c⟩; exact ⟨a, b, c⟩
      · rintro ⟨a, b, c⟩; exact ⟨⟨a, b⟩, c⟩
    · rw [w3 us fun i hi => hu i (by simp [Tg.slots.slotsL, hi]), w2 us fun i hi => hu i (by simp [Tg.slots.slotsL, hi])]
theorem pg_or {tg : Expr} {t1 t2 : TG} (h1 : PG X tg t1) (h2 : PG X tg t2) : PG X tg (fun v σ H Q => t1 v σ H Q ∨ t2 v σ H Q) := ⟨fun pins s σ H v u Q I r q => by
  rcases q with q | q
  · exact h1.run pins s σ H v u Q I r q
  · exact h2.run pins s σ H v u Q I r q⟩
theorem tgSets_len : ∀ (ts : List Tg) (ds : List D) (en en2 : En), tgSets ts ds en = some en2 → ds.length = ts.length := by
  intro ts
  induction ts with
  | nil => intro ds en en2 e; cases ds with
    | nil => rfl
    | cons _ _ => simp [tgSets] at e
  | cons t ts ih => intro ds en en2 e; cases ds with
    | nil => simp [tgSets] at e
    | cons d ds =>
      obtain ⟨ea, q1, q2⟩ := Option.bind_eq_some_iff.mp (show (tgSet t d en).bind (fun x => tgSets ts ds x) = some en2 by simpa [tgSets] using e)
      simp [ih ds ea en2 q2]
theorem okG_tup {ts : List Tg} {es : List Expr} {n : Nat} {pos : Pos} (hK : X.K = G.K) (hc : X.calm = true) (hs : es.all (fun e => !isStarX e) = true) (hl : es.length = ts.length) (h : PGs X es (RdGs G ts)) : PG X (.Tuple es n pos) (RdG G (.tup ts)) := by
  obtain ⟨h1, h2⟩ := assignEach_all (env := X.env) hs
  refine pg_imp (pg_or (pg_tup hc h h1 h2) (pg_unl hc h h1 h2)) fun v σ H Q ⟨g, en, F, s, d, en2, R, r, e, k⟩ => ?_
  cases d with
  | tuple ds =>
    obtain ⟨a, vs, rfl, ha, ra⟩ := r.tuple
    have e2 : tgSets ts ds en = some en2 := by simpa [tgSet] using e
    refine .inl ⟨a, vs, rfl, hK ▸ sqT_same R.sub ha, ?_, g, en, F, s, ds, en2, R, ra, e2, k⟩
    rw [ra.length, tgSets_len _ _ _ _ e2, hl]
  | list ds =>
    have e2 : tgSets ts ds en = some en2 := by simpa [tgSet] using e
    cases r with
    | @lst a vs _ ha ra =>
      refine .inr ⟨a, vs, rfl, SqL.of (R.sub _ _ ha), ?_, g, en, F, s, ds, en2, R, ra, e2, k⟩
      rw [ra.length, tgSets_len _ _ _ _ e2, hl]
  | _ => simp [tgSet] at e
end
end Fz
/-! FzH: what a for or a comprehension walks; list comprehensions. -/
namespace Fz
open PySem PySem.Spec PyProof.Rows L2
section
variable (G : Gx)
/-- what a turn yields -/
def Yd (F1 : Hp) (xs : List D) : Nat → Hp → V → Hp → Prop := fun i H x H' => ∃ d, xs[i]? = some d ∧
  ∀ F s, Same F1 F → Same F H → SrcAt G.sp G.cc H s → F G.sp = none → F G.cc = none → ∃ F', Fw G.sp G.cc F H F' H' s ∧ Rp G.K G.sp F' x d
def RdI (it : E) : TI := fun σ H R => ∃ g en F s d xs s', Rl G.K G.sp G.cc g en σ F H s ∧ Off g (lkB it) ∧ evE G.v G.c it en s = some (d, s') ∧ seqOf d = some xs ∧
  ∀ J F' H' Gd, Fw G.sp G.cc F H F' H' s' → Walk J xs.length Gd (Yd G F' xs) → (Off g (lk it) → ∀ H'', Same F' H'' → Gd H'') → (∀ F'' H'' s'', Fw G.sp G.cc F' H' F'' H'' s'' → Gd H'') → R J H'
end
theorem pi_imp {X : Cx} {tg e : Expr} {t t' : TI} (h : PI X tg e t) (i : ∀ σ H Q, t' σ H Q → t σ H Q) : PI X tg e t' := ⟨fun pins s σ H R I q => h.run pins s σ H R I (i _ _ _ q)⟩
section
variable {X : Cx} {G : Gx}
theorem yd_at {F1 : Hp} {vs : List V} {xs : List D} (ra : RpA G.K G.sp F1 vs xs) {i : Nat} {H H' : Hp} {x : V} (e : H' = H) (hx : vs[i]? = some x) : Yd G F1 xs i H x H' := by
  obtain ⟨d, e1, r⟩ := ra.getV hx
  subst e
  exact ⟨d, e1, fun F s h1 h2 h3 _ _ => ⟨F, Fw.refl h2 h3, r.mono h1⟩⟩
theorem okI_seq {it : E} {tg ex : Expr} (hK : X.K = G.K) (h : OkE X G it ex) : PI X tg ex (RdI G it) := by
  refine ⟨fun pins st σ H R I ⟨g, en, F, s, d, xs, s', Rr, off, he, hq, k⟩ => ?_⟩
  by_cases ho : Off g (lk it)
  · cases d with
    | list ys =>
      cases hq
      refine (pi_list (tg := tg) h.V).run pins st σ H R I ⟨g, en, F, s, _, s', Rr, ho, he, fun x F1 H1 f r => ?_⟩
      cases r with
      | @lst a vs ds e ra =>
        refine ⟨a, rfl, ⟨vs, SqL.of (f.sub _ _ e)⟩, k _ F1 H1 (fun H'' => SqL X.K H'' a vs) f ?_ (fun _ H'' hs => SqL.of (hs _ _ e)) (fun F'' H'' s'' f2 => SqL.of (f2.sub _ _ (f2.fr _ _ e)))⟩
        rw [← ra.length]
        exact (walk_list (K := X.K)).mono (fun _ z => z) fun i H x H' _ _ y => yd_at ra y.1 y.2
    | tuple ys =>
      cases hq
      refine (pi_tup (tg := tg) h.V).run pins st σ H R I ⟨g, en, F, s, _, s', Rr, ho, he, fun x F1 H1 f r => ?_⟩
      obtain ⟨a, vs, rfl, e, ra⟩ := r.tuple
      refine ⟨a, rfl, ⟨vs, hK ▸ sqT_same f.sub e⟩, k _ F1 H1 (fun H'' => SqT X.K H'' a vs) f ?_ (fun _ H'' hs => hK ▸ sqT_same hs e) (fun F'' H'' s'' f2 => hK ▸ sqT_same (f2.fr.trans f2.sub) e)⟩
      rw [← ra.length]
      exact (walk_tup (K := X.K)).mono (fun _ z => z) fun i H x H' _ _ y => yd_at ra y.1 y.2
    | _ => cases hq
  · cases d with
    | list ys =>
      cases hq
      refine (pi_list (tg := tg) h.B).run pins st σ H R I ⟨g, en, F, s, _, s', Rr, off, he, fun x F1 H1 f r => ?_⟩
      obtain ⟨a, vs, rfl, e, n1, n2, ra⟩ := r
      refine ⟨a, rfl, ⟨vs, SqL.of e⟩, k _ F1 H1 (fun H'' => SqL X.K H'' a vs) f ?_ (fun z => absurd z ho) (fun F'' H'' s'' f2 => SqL.of (f2.keep _ _ e n1 n2))⟩
      rw [← ra.length]
      exact (walk_list (K := X.K)).mono (fun _ z => z) fun i H x H' _ _ y => yd_at ra y.1 y.2
    | tuple ys =>
      cases hq
      refine (pi_tup (tg := tg) h.B).run pins st σ H R I ⟨g, en, F, s, _, s', Rr, off, he, fun x F1 H1 f r => ?_⟩
      obtain ⟨a, vs, rfl, e, ra⟩ := r.tuple
      refine ⟨a, rfl, ⟨vs, hK ▸ sqT_same f.sub e⟩, k _ F1 H1 (fun H'' => SqT X.K H'' a vs) f ?_ (fun z => absurd z ho) (fun F'' H'' s'' f2 => hK ▸ sqT_same (f2.fr.trans f2.sub) e)⟩
      rw [← ra.length]
      exact (walk_tup (K := X.K)).mono (fun _ z => z) fun i H x H' _ _ y => yd_at ra y.1 y.2
    | _ => cases hq
theorem rngL_get {lo : Int} {n i : Nat} (h : i < n) : (rngL lo n)[i]? = some (.int (lo + (i : Nat))) := by
  unfold rngL
  rw [List.getElem?_map, List.getElem?_range h]; rfl
theorem rngL_len {lo : Int} {n : Nat} : (rngL lo n).length = n := by unfold rngL; simp
theorem walk_rng {lo : Int} {n : Nat} {F1 : Hp} : Walk (Itr lo n) (rngL lo n).length (fun _ => True) (Yd G F1 (rngL lo n)) := by
  rw [rngL_len]
  refine walk_range.mono (fun _ _ => trivial) fun i H x H' hi _ y => ?_
  obtain ⟨rfl, rfl⟩ := y
  exact ⟨_, rngL_get hi, fun F s h1 h2 h3 _ _ => ⟨F, Fw.refl h2 h3, .int _⟩⟩
theorem inR_ok {i : Int} (h : inR i = true) : -(2 ^ 62) ≤ i ∧ i < 2 ^ 62 := by
  obtain ⟨h1, h2⟩ := Bool.and_eq_true_iff.mp h
  have h1 : -(2 ^ 40) ≤ i := of_decide_eq_true h1
  have h2 : i ≤ 2 ^ 40 := of_decide_eq_true h2
  omega
theorem okI_rng1 {a : E} {tg ex : Expr} {p pos : Pos} (hsa : isStarE a = false) (hg : Gl X "range") (hm : X.mg "range" = none) (hs : isStarX ex = false) (ha : PA X [ex] (RdBL G [a])) : PI X tg (.Call (.Name "range" p) [ex] [] pos) (RdI G (.rng [a])) := by
  refine pi_imp (pi_range1 hg hm ha (by rw [starEach_no hs]; rfl)) fun σ H R ⟨g, en, F, s, d, xs, s', Rr, off, he, hq, k⟩ => ?_
  obtain ⟨ds, s1, h1, h⟩ := bnd_some he
  obtain ⟨h2, rfl⟩ := lift_some h
  obtain ⟨l, h3, h4⟩ := Option.bind_eq_some_iff.mp h2
  obtain ⟨l2, h5, rfl⟩ := Option.map_eq_some_iff.mp h4
  obtain ⟨_, rfl⟩ := if_some h5
  cases hq
  refine ⟨g, en, F, s, ds, s', Rr, off, h1, fun vs F1 H1 f r => ?_⟩
  unfold rngV at h3
  split at h3 <;> first | (simp only [reduceCtorEq] at *; done) | skip
  · rename_i j
    obtain ⟨hj, rfl⟩ := if_some h3
    obtain ⟨x, rfl, hx⟩ := rbA_one r
    obtain ⟨b1, b2⟩ := inR_ok hj
    exact ⟨j, by rw [hx.int], b1, b2, k _ F1 H1 _ f walk_rng (fun _ _ _ => trivial) fun _ _ _ _ => trivial⟩
  · rename_i i j
    exfalso
    rw [evL_cons hsa] at h1
    obtain ⟨d1, s2, q1, q⟩ := bnd_some h1
    obtain ⟨d2, s3, q2, q⟩ := bnd_some q
    obtain ⟨e1, _⟩ := ret_some q
    obtain ⟨e2, _⟩ := ret_some q2
    rw [← e2] at e1
    simp at e1
theorem okI_rng2 {a b : E} {tg ex ey : Expr} {p pos : Pos} (hsa : isStarE a = false) (hsb : isStarE b = false) (hg : Gl X "range") (hm : X.mg "range" = none) (hs : isStarX ex = false) (hs2 : isStarX ey = false) (ha : PA X [ex, ey] (RdBL G [a, b])) :
    PI X tg (.Call (.Name "range" p) [ex, ey] [] pos) (RdI G (.rng [a, b])) := by
  refine pi_imp (pi_range2 hg hm ha (by rw [starEach_no hs, starEach_no hs2]; rfl) (by rw [starEach_no hs2]; rfl)) fun σ H R ⟨g, en, F, s, d, xs, s', Rr, off, he, hq, k⟩ => ?_
  obtain ⟨ds, s1, h1, h⟩ := bnd_some he
  obtain ⟨h2, rfl⟩ := lift_some h
  obtain ⟨l, h3, h4⟩ := Option.bind_eq_some_iff.mp h2
  obtain ⟨l2, h5, rfl⟩ := Option.map_eq_some_iff.mp h4
  obtain ⟨_, rfl⟩ := if_some h5
  cases hq
  refine ⟨g, en, F, s, ds, s', Rr, off, h1, fun vs F1 H1 f r => ?_⟩
  unfold rngV at h3
  split at h3 <;> first | (simp only [reduceCtorEq] at *; done) | skip
  · rename_i j
    exfalso
    rw [evL_cons hsa] at h1
    obtain ⟨d1, s2, q1, q⟩ := bnd_some h1
    obtain ⟨d2, s3, q2, q⟩ := bnd_some q
    obtain ⟨e1, _⟩ := ret_some q
    rw [evL_cons hsb] at q2
    obtain ⟨d3, s4, q3, q⟩ := bnd_some q2
    obtain ⟨d4, s5, q4, q⟩ := bnd_some q
    obtain ⟨e2, _⟩ := ret_some q
    rw [← e2] at e1
    simp at e1
  · rename_i i j
    obtain ⟨hj, rfl⟩ := if_some h3
    obtain ⟨hi, hj⟩ := Bool.and_eq_true_iff.mp hj
    obtain ⟨x, y, rfl, hx, hy⟩ := rbA_two r
    obtain ⟨b1, b2⟩ := inR_ok hi
    obtain ⟨b3, b4⟩ := inR_ok hj
    exact ⟨i, j, by rw [hx.int, hy.int], ⟨b1, b2, b3, b4⟩, k _ F1 H1 _ f walk_rng (fun _ _ _ => trivial) fun _ _ _ _ => trivial⟩

/-! ### list comprehensions -/
/-- a tracked list that is not frozen is changed -/
theorem Fw.mutD {sp cc : Addr} {F H F' H' : Hp} {s : Src} {p : Addr} {o : HO} (f : Fw sp cc F H F' H' s) (hp : H p = none) (fp : F' p = none) (n1 : p ≠ sp) (n2 : p ≠ cc) : Fw sp cc F H F' (upd H' p o) s where
  fr := f.fr
  sub := fun b u z => by rw [upd_ne (fun y => by rw [y, fp] at z; cases z)]; exact f.sub b u z
  keep := fun b u z h1 h2 => by rw [upd_ne (fun y => by rw [y, hp] at z; cases z)]; exact f.keep b u z h1 h2
  src := ⟨by rw [upd_ne (Ne.symm n1)]; exact f.src.1, by rw [upd_ne (Ne.symm n2)]; exact f.src.2⟩
  new := f.new
def RdTO (G : Gx) (o : Option E) : TT := fun σ H Q => ∃ g en F s s' b, Rl G.K G.sp G.cc g en σ F H s ∧ Off g (lkO o) ∧ evT G.v G.c o en s = some (b, s') ∧ ∀ F' H', Fw G.sp G.cc F H F' H' s' → Q b H'
theorem pts_imp {es : List Expr} {t t' : TT} (h : PTs X es t) (i : ∀ σ H Q, t' σ H Q → t σ H Q) : PTs X es t' := ⟨fun pins s σ H Q I q => h.run pins s σ H Q I (i _ _ _ q)⟩
theorem okT_none : PTs X [] (RdTO G none) := pts_imp pts_nil fun σ H Q ⟨g, en, F, s, s', b, R, off, he, k⟩ => by
  obtain ⟨rfl, rfl⟩ := ret_some he
  exact k _ _ (rl_same R)
theorem okT_some {e : E} {ex : Expr} (h : PT X ex (RdT G e)) : PTs X [ex] (RdTO G (some e)) := pts_imp (pts_one h) fun σ H Q ⟨g, en, F, s, s', b, R, off, he, k⟩ => by
  obtain ⟨d, s1, h1, h2⟩ := bnd_some he
  obtain ⟨h3, rfl⟩ := lift_some h2
  exact oneT R off h1 h3 k
/-- a turn of a comprehension -/
def turnC (v : Bool) (c : Cl) (t : Tg) (ifs : Option E) (elt : E) (en : En) : D → M (Option D) := fun d => bnd (lift (tgSet t d en)) fun en2 => bnd (evT v c ifs en2) fun ok =>
  if ok then bnd (evE v c elt en2) fun y => ret (some y) else ret none
theorem ok_comp {t : Tg} {it elt : E} {ifs : Option E} {tx ix ex : Expr} {ifx : List Expr} {scope : Scope} {own : List (Str × Nat)} {pos : Pos} (hK : X.K = G.K) (hc : X.calm = true) (hN : X.N.Nodup) (hi : PI X tx ix (RdI G it)) (ok : BlkOk X.N X.env.scope scope own)
    (hown : own.map (·.2) = t.slots)
    (hg : ∀ (s : Shared) (H : Hp) (C : Addr) (cl : List (Str × Addr)) (fp : List Addr), PG (X.blk s H scope (compEnvC scope cl C X.env) fp) tx (RdG G t))
    (ht : ∀ (s : Shared) (H : Hp) (C : Addr) (cl : List (Str × Addr)) (fp : List Addr), PTs (X.blk s H scope (compEnvC scope cl C X.env) fp) ifx (RdTO G ifs))
    (he : ∀ (s : Shared) (H : Hp) (C : Addr) (cl : List (Str × Addr)) (fp : List Addr), PE (X.blk s H scope (compEnvC scope cl C X.env) fp) ex (RdV G elt))
    (hs : ∀ x, foldedSetIterable ix X.env x = pure x) : OkN X G (.comp t it ifs elt) (.ListComp ex [⟨tx, ix, ifx, 0⟩] scope pos) ∧
      ∀ σ H Q, RdN G (.comp t it ifs elt) σ H Q → tLc (RdI G it) (RdG G t) (RdTO G ifs) (RdV G elt) (own.map (·.2)) σ H Q := by
  have core : ∀ σ H Q, RdN G (.comp t it ifs elt) σ H Q → tLc (RdI G it) (RdG G t) (RdTO G ifs) (RdV G elt) (own.map (·.2)) σ H Q := by
    rintro σ H Q ⟨g, en, F, s, d, s', R, off, hev, k⟩
    obtain ⟨d1, s1, h1, hr⟩ := bnd_some hev
    obtain ⟨xs, h2, hr2⟩ := bnd_lift hr
    obtain ⟨ys, s2, h3, hr3⟩ := bnd_some hr2
    obtain ⟨h4, rfl⟩ := lift_some hr3
    obtain ⟨ys', h5, rfl⟩ := Option.map_eq_some_iff.mp h4
    obtain ⟨hsz, rfl⟩ := if_some h5
    have h3 : mapL (turnC G.v G.c t ifs elt en) xs s1 = some (ys, s') := h3
    rw [hown]
    refine ⟨g, en, F, s, d1, xs, s1, R, off.l, h1, h2, fun J F1 H1 Gd f1 wk _ gp A hA => ?_⟩
    have nA : A ≠ G.sp ∧ A ≠ G.cc := ⟨(fun e => by rw [e, f1.src.1] at hA; cases hA), (fun e => by rw [e, f1.src.2] at hA; cases hA)⟩
    have fA : F1 A = none := by
      cases z : F1 A with
      | none => rfl
      | some u => rw [f1.sub _ _ z] at hA; cases hA
    refine lc_it wk (fun i H' => ∃ Fi si acc vs rest, Fw G.sp G.cc F1 H1 Fi H' si ∧ mapL (turnC G.v G.c t ifs elt en) (xs.drop i) si = some (rest, s') ∧ ys = acc ++ rest ∧ H' A = some (.lst vs) ∧ Fi A = none ∧ RpA G.K G.sp Fi vs acc)
      ⟨F1, s1, [], [], ys, Fw.put f1.sub f1.src hA, h3, rfl, upd_same, fA, .nil⟩ (fun i H' _ ⟨Fi, si, acc, vs, rest, fw, _⟩ => gp _ _ _ fw) ?_ ?_
    · rintro i x Hi Hj hlt ⟨Fi, si, acc, vs, rest, fw, hm, hy, hD, hF, ra⟩ ⟨d, hd, hstep⟩
      have Ri := (R.step f1).step fw
      obtain ⟨Fj, fj, rx⟩ := hstep Fi si fw.fr fw.sub fw.src Ri.fsp Ri.fcc
      have hdrop : xs.drop i = d :: xs.drop (i + 1) := by
        obtain ⟨hl, e⟩ := List.getElem?_eq_some_iff.mp hd
        rw [List.drop_eq_getElem_cons hl, e]
      rw [hdrop] at hm
      obtain ⟨yo, sa, m1, m2⟩ := bnd_some (show bnd (turnC G.v G.c t ifs elt en d) (fun y => bnd (mapL (turnC G.v G.c t ifs elt en) (xs.drop (i + 1))) fun ys => ret (match y with | some d => d :: ys | none => ys)) si = some (rest, s') from hm)
      obtain ⟨rest2, sb, m3, m4⟩ := bnd_some m2
      obtain ⟨er, rfl⟩ := ret_some m4
      obtain ⟨en2, t1, t2⟩ := bnd_lift m1
      obtain ⟨okb, sc, t3, t4⟩ := bnd_some t2
      have Rj := Ri.step fj
      have Rw := Rj.wipe t.slots
      refine ⟨_, _, Fj, si, d, en2, Rw, rx, tgSet_wipe t1, fun σ2 R2 hw => ⟨?_, ?_⟩⟩
      · rw [hw t.slots fun _ z => z]
        have idem : ∀ us : List Nat, (∀ i ∈ us, i ∈ t.slots) → wipe (wipe σ t.slots) us = wipe σ t.slots := by
          intro us
          induction us with
          | nil => intro _; rfl
          | cons u us ih =>
            intro hu
            show (wipe (wipe σ t.slots) us).set u none = _
            rw [ih fun i hi => hu i (List.mem_cons_of_mem _ hi)]
            refine List.ext_getElem? fun j => ?_
            by_cases hj : u = j
            · subst hj
              have hn : ∀ x, (wipe σ t.slots)[u]? ≠ some (some x) := fun x hx => (wipe_some hx).2 (hu u (List.mem_cons_self ..))
              by_cases hl : u < (wipe σ t.slots).length
              · rw [List.getElem?_set_self hl]
                rw [List.getElem?_eq_getElem hl] at hn ⊢
                cases q : (wipe σ t.slots)[u] with
                | none => rfl
                | some x => exact absurd (by rw [q]) (hn x)
              · rw [List.getElem?_eq_none (by rw [List.length_set]; omega), List.getElem?_eq_none (by omega)]
            · rw [List.getElem?_set_ne hj]
        exact idem t.slots fun _ z => z
      · have offs : Off ((g.filter fun j => !t.slots.contains j).filter fun j => !t.slots.contains j) (lkO ifs ++ lk elt) := fun i hi hm => by
          obtain ⟨a1, a2⟩ := List.mem_filter.mp hm
          obtain ⟨a3, _⟩ := List.mem_filter.mp a1
          exact off.r i (List.mem_filter.mpr ⟨hi, a2⟩) a3
        refine ⟨_, en2, Fj, si, sc, okb, R2, offs.l, t3, fun F3 H3 f3 => ?_⟩
        have keepA : ∀ {Hx : Hp} {Fx : Hp} {sx : Src}, Fw G.sp G.cc Fi Hi Fx Hx sx → Hx A = some (.lst vs) ∧ Fx A = none := fun {Hx Fx sx} fx => ⟨fx.keep _ _ hD nA.1 nA.2, fx.new _ hF (nt_of hD nofun)⟩
        cases okb with
        | true =>
          rw [if_pos rfl] at t4
          refine iteT ?_
          obtain ⟨y, sd, t5, t6⟩ := bnd_some t4
          obtain ⟨rfl, rfl⟩ := ret_some t6
          refine ⟨_, en2, F3, sc, y, sa, R2.step f3, offs.r, t5, fun yv F4 H4 f4 ry => ?_⟩
          have fall := (fj.trans f3).trans f4
          obtain ⟨b1, b2⟩ := keepA fall
          refine ⟨vs, b1, ?_, F4, sa, acc ++ [y], vs ++ [yv], rest2, (fw.trans fall).mutD hA b2 nA.1 nA.2, m3, ?_, upd_same, b2, (ra.mono fall.fr).append (.cons ry .nil)⟩
          · have h1 := ra.length
            have h2 := small_lt hsz
            rw [hy, List.length_append] at h2
            omega
          · rw [hy, ← er, List.append_assoc]; rfl
        | false =>
          rw [if_neg Bool.false_ne_true] at t4
          refine iteF ?_
          obtain ⟨rfl, rfl⟩ := ret_some t4
          have fall := fj.trans f3
          obtain ⟨b1, b2⟩ := keepA fall
          exact ⟨F3, sa, acc, vs, rest2, fw.trans fall, m3, by rw [hy, ← er], b1, b2, ra.mono fall.fr⟩
    · rintro H' ⟨Fi, si, acc, vs, rest, fw, hm, hy, hD, hF, ra⟩
      rw [List.drop_length] at hm
      obtain ⟨e1, e2⟩ := ret_some (show ret [] si = some (rest, s') from hm)
      subst e1 e2
      rw [List.append_nil] at hy
      subst hy
      exact k _ Fi H' (f1.trans fw) ⟨A, vs, rfl, f1.noneBack hA, hF, hD, ra⟩
  exact ⟨okN hK (pe_imp (pe_lc hc hN hi ok hg ht he hs) core) rfl fun _ _ => rfl, core⟩
end
end Fz
/-! FzHa: what an iterator over a list or a tuple draws; enumerate of either. -/
namespace Fz
open PySem PySem.Spec PyProof.Rows L2
/-- a list or a tuple -/
def Sq (b : Bool) (K : PySem.W.Frag) (H : Hp) (a : Addr) (xs : List V) : Prop := if b then SqT K H a xs else SqL K H a xs
/-- an iterator over it -/
def ItAt (b : Bool) (h : Heap) (it a : Addr) (i : Nat) : Prop := if b then h.IsTupleIter it a i else h.IsListIter it a i
def itO (b : Bool) (a : Addr) : Obj := if b then { cls := .type "tuple_iterator", data := .fields #[.ref a, .int 0 0] } else { cls := .type "list_iterator", data := .fields #[.ref a, .int 0 0] }
theorem ItAt.at {b : Bool} {h h' : Heap} {it a : Addr} {i : Nat} (x : ItAt b h it a i) (e : ∀ o, h.get? it = some o → h'.get? it = some o) : ItAt b h' it a i := by
  cases b with
  | true => exact Heap.IsTupleIter.at (show h.IsTupleIter it a i from x) e
  | false => exact Heap.IsListIter.at (show h.IsListIter it a i from x) e
theorem ItAt.obj {b : Bool} {h : Heap} {it a : Addr} {i : Nat} (x : ItAt b h it a i) : ∃ o, h.get? it = some o ∧ ∀ v, o.data ≠ .cell v := by
  cases b with
  | true => obtain ⟨o, e, _, d⟩ := (show h.IsTupleIter it a i from x); exact ⟨o, e, fun v q => by rw [d] at q; cases q⟩
  | false => obtain ⟨o, e, _, d⟩ := (show h.IsListIter it a i from x); exact ⟨o, e, fun v q => by rw [d] at q; cases q⟩
theorem ItAt.mk {b : Bool} {h : Heap} {it a : Addr} (e : h.get? it = some (itO b a)) : ItAt b h it a 0 := by
  cases b with
  | true => exact ⟨_, e, rfl, rfl⟩
  | false => exact ⟨_, e, rfl, rfl⟩
def SqAt (b : Bool) (h : Heap) (a : Addr) (items : Array Value) : Prop := if b then h.IsTuple a items else h.IsList a items
theorem sq_get {X : Cx} {pins : List (Addr × Obj)} {s : Shared} {σ : L2.St} {H : Hp} {b : Bool} {a : Addr} {xs : List V} (I : Inv X pins σ H s) (h : Sq b X.K H a xs) : ∃ its : List Value, Vals xs its ∧ SqAt b s.heap a its.toArray := by
  cases b with
  | true => obtain ⟨its, rv, p, _⟩ := I.tuple (show SqT X.K H a xs from h); exact ⟨its, rv, p⟩
  | false => obtain ⟨its, rv, p, _⟩ := I.list (show SqL X.K H a xs from h); exact ⟨its, rv, p.isList⟩
theorem sq_inj {X : Cx} {pins : List (Addr × Obj)} {s : Shared} {σ : L2.St} {H : Hp} {b : Bool} {a : Addr} {xs ys : List V} (I : Inv X pins σ H s) (h : Sq b X.K H a xs) (g : Sq b X.K H a ys) : xs = ys := by
  cases b with
  | true => exact I.tuple_inj (show SqT X.K H a xs from h) g
  | false => exact I.list_inj (show SqL X.K H a xs from h) g
theorem sq_lt {b : Bool} {h : Heap} {a : Addr} {items : Array Value} (x : SqAt b h a items) : a < h.objs.size := by
  cases b with
  | true => obtain ⟨_, e, _⟩ := (show h.IsTuple a items from x); exact Heap.lt_size e
  | false => obtain ⟨_, e, _⟩ := (show h.IsList a items from x); exact Heap.lt_size e
/-- what it draws -/
def StI (b : Bool) (it a : Addr) (items : Array Value) : Nat → Heap → Prop := fun i h => ItAt b h it a i ∧ SqAt b h a items
theorem draws {prog : Program} {w : World} {A : Around} (hh : A.handled = none) (b : Bool) (it a : Addr) (ne : a ≠ it) (items : Array Value) : Draws prog w A it [it, a] items.size (fun i v => items[i]? = some v) (StI b it a items) := by
  cases b with
  | true => exact Draws.tuple hh it a ne items
  | false => exact Draws.list hh it a ne items
theorem begins (b : Bool) (a : Addr) (items : Array Value) : Begins (.ref a) (itO b a) fun h => SqAt b h a items := by
  cases b with
  | true => exact begins_tuple a items
  | false => exact begins_list a items
theorem meets_enum {v : Value} {o : Obj} {Hs : Heap → Prop} (B : Begins v o Hs) : Meets (Builtin.«enumerate.__new__» ⟨[.type "enumerate", v], []⟩) (fun _ R s => Hs s.heap ∧ R (.ok (.ret (.ref (s.heap.push o).objs.size)))
    { s with heap := (s.heap.push o).push { cls := .type "enumerate", data := .fields #[.none, .bool false, .ref s.heap.objs.size, rawInt 0, .none, .none] } }) := .of_wp fun prog w A R s h => by
  obtain ⟨hp, g, d, tk, os⟩ := s
  obtain ⟨h1, h⟩ := h
  have hsub := sub_enumerate
  have q1 : ∀ {A' : Around} {E : Value → Shared → Prop} {Q : Value → Shared → Prop}, Q (.ref hp.objs.size) ⟨hp.push o, g, d, tk, os⟩ → wpAny (model prog w) A' (pyIter v) Q E ⟨hp, g, d, tk, os⟩ := fun q => B.iter prog w _ _ _ _ h1 q
  wp_walk using q1
  refine wpAny_stack_any fun st => wpAny_pure ?_
  split
  · rename_i c _ _ _ _ _
    cases (c == Value.type "enumerate") <;> (wp_walk using q1) <;> exact ⟨_, rfl, h⟩
  · wp_walk using q1
    exact ⟨_, rfl, h⟩
theorem call_enum {prog : Program} {w : World} {A : Around} {E : Value → Shared → Prop} {s : Shared} {v : Value} {o : Obj} {Hs : Heap → Prop} {Q : Value → Shared → Prop} (B : Begins v o Hs) (h1 : Hs s.heap)
    (h : ∀ h', IsEnum h' (s.heap.objs.size + 1) s.heap.objs.size 0 .none → h'.get? s.heap.objs.size = some o → (∀ b o, s.heap.get? b = some o → h'.get? b = some o) → Q (.ref (s.heap.objs.size + 1)) { s with heap := h' }) :
    wpAny (model prog w) A (call (.type "enumerate") [v]) Q E s := by
  refine callType_new F.called_enumerate (by decide) (F.typeCall_enumerate_1 _) (F.newCall_enumerate_1 _) (fun obj => F.args_object_init_2 obj _) F.entry_enumerate_new (meets_enum B) ⟨h1, ?_⟩
  have sz : (s.heap.push o).objs.size = s.heap.objs.size + 1 := Heap.size_push ..
  have here := Heap.get?_push_size (s.heap.push o) (o := { cls := .type "enumerate", data := .fields #[.none, .bool false, .ref s.heap.objs.size, rawInt 0, .none, .none] }) rfl
  show _ ∧ _
  rw [sz] at here ⊢
  exact ⟨⟨_, here, rfl⟩, h _ here (Heap.get?_push_of_some _ (Heap.get?_push_size _ B.free)) fun b o x => Heap.get?_push_of_some _ (Heap.get?_push_of_some _ x)⟩
/-- what a turn of enumerate gives -/
def ItE (b : Bool) (K : PySem.W.Frag) (a : Addr) : It := ⟨fun i H => ∃ (xs : List V) (x : V), Sq b K H a xs ∧ xs[i]? = some x,
  fun i H v H' => ∃ T x, v = .ref T ∧ H T = none ∧ H' = upd H T (.tup [.int (i : Nat), x]) ∧ ∀ xs, Sq b K H a xs → xs[i]? = some x, fun i H => ∃ xs : List V, Sq b K H a xs ∧ xs.length = i⟩
theorem turn_enumG {P : Program} {w : World} {K : PySem.W.Frag} {elts : List Expr} {kk : Nat} {tpos : Pos} (b : Bool) (a e it : Addr) (na : a ≠ it) (nb : a ≠ e) :
    Turn P w K (.Tuple elts kk tpos) (ItE b K a) [e, it] e (fun i h => (∃ old, IsEnum h e it ((i : Nat) : Int) old) ∧ ItAt b h it a i ∧ e ≠ it) where
  mem := by simp
  obj := fun i h st c hc => by
    obtain ⟨⟨old, he⟩, hi, _⟩ := st
    have z : c = e ∨ c = it := by simpa using hc
    rcases z with z | z
    · rw [z]; exact ⟨_, he, fun v q => nomatch q⟩
    · rw [z]; exact hi.obj
  keep := fun i h h' st k => let ⟨⟨old, he⟩, hi, hne⟩ := st; ⟨⟨old, k e (by simp) _ he⟩, hi.at fun o q => k it (by simp) o q, hne⟩
  item := by
    intro X hP hw hK hc i pins s σ H E I hf st ⟨xs, x, hq, hx⟩
    subst hP hw hK
    obtain ⟨⟨old, he⟩, hit, hne⟩ := st
    obtain ⟨its, rv, p⟩ := sq_get I hq
    obtain ⟨u, hu, ru⟩ := rv.get hx
    have hel : e < s.heap.objs.size := Heap.lt_size he
    have hil : it < s.heap.objs.size := let ⟨_, q, _⟩ := hit.obj; Heap.lt_size q
    have Dr := draws (prog := X.prog) (w := X.w) (A := X.A.in1) (I.ok.hd hc) b it a na its.toArray
    have hlt : i < its.toArray.size := by rw [List.size_toArray]; exact (List.getElem?_eq_some_iff.mp hu).1
    refine wpAny_pyNext_enum_itemC Dr he ⟨hit, p⟩ hlt hne (by simp; exact ⟨hne, Ne.symm nb⟩) fun z h' tk hz ho hit' hT hsz hk => ?_
    have zu : z = u := by
      have : its.toArray[i]? = some u := by simpa using hu
      rw [this] at hz; exact (Option.some.inj hz).symm
    subst zu
    refine ⟨_, rfl, wpAny_letOwnedTupleGo_enum (s := { s with heap := h', toks := tk + 1 }) ho fun h2 he' sb => ?_⟩
    have hT2 : h2.get? s.heap.objs.size = some { cls := .type "tuple", data := .seq #[.int i tk, z] } := (sb.2 _ (Nat.ne_of_gt hel)).trans hT
    have new : ObjOk X.prog X.w (upd H s.heap.objs.size (.tup [.int (i : Nat), x])) h2 s.heap.objs.size (.tup [.int (i : Nat), x]) := ⟨(by decide : 2 ≤ sizeLine), [.int i tk, z], .cons ⟨_, rfl⟩ (.cons ru .nil), ⟨_, hT2, rfl, _, rfl⟩⟩
    have I1 : Inv X pins σ (upd H s.heap.objs.size (.tup [.int (i : Nat), x])) { s with heap := h2, toks := tk + 1 } :=
      I.turnedNew (ch := [e, it]) (fun c o hb q => (sb.2 c (fun y => hb (by simp [y]))).trans (hk c o (fun y => hb (by simp [y])) (fun y => hb (by simp [y])) q)) hf (Nat.le_refl _) new
    refine ⟨.ref s.heap.objs.size, _, I1, rfl, ⟨_, x, rfl, I.hok.fresh (Nat.le_refl _), rfl, fun ys hy => sq_inj I hy hq ▸ hx⟩, ⟨⟨z, ?_⟩, hit'.1.at fun o q => (sb.2 it (Ne.symm hne)).trans q, hne⟩, fun c hb => ?_⟩
    · have e1 : ((i + 1 : Nat) : Int) = (i : Int) + 1 := by omega
      rw [e1]; exact he'
    · have lt : c < s.heap.objs.size := by
        have y : c = e ∨ c = it := by simpa using hb
        rcases y with y | y <;> (rw [y]; assumption)
      rw [upd_ne (Nat.ne_of_lt lt)]
      exact (hf c hb).1
  done := by
    intro X hP hw hK hc i pins s σ H E I hf st ⟨xs, hq, hx⟩
    subst hP hw hK
    obtain ⟨⟨old, he⟩, hit, hne⟩ := st
    obtain ⟨its, rv, p⟩ := sq_get I hq
    obtain ⟨f0, f1, f2, f3, f4, f5⟩ := hf it (by simp)
    have Dr := draws (prog := X.prog) (w := X.w) (A := X.A.in1) (I.ok.hd hc) b it a na its.toArray
    have hl := rv.length
    have sz : its.toArray.size = i := by rw [List.size_toArray]; omega
    exact wpAny_pyNext_enum_endD Dr he (by rw [sz]; exact ⟨hit, p⟩) fun h' eb => ⟨rfl, I.turned (t' := s.toks) (fun c o hb q => eb c o hb q) f0 f1 f3 f4 f5⟩
  self := fun A i s Q E st h => let ⟨⟨_, he⟩, _⟩ := st; wpAny_pyIter_enum he h
section
variable {X : Cx} {G : Gx}
def iEnumG (K : PySem.W.Frag) (ta : TA) : TI := fun σ H R => ta σ H fun vs H1 => ∃ b a xs, vs = [.ref a] ∧ Sq b K H1 a xs ∧ R (ItE b K a) H1
theorem pi_enumG {e : Expr} {ta : TA} {p pos tpos : Pos} {elts : List Expr} {kk : Nat} (hg : Gl X "enumerate") (hm : X.mg "enumerate" = none) (ha : PA X [e] ta) (hs : starEach [e] X.env = [(false, eval e X.env)]) :
    PI X (.Tuple elts kk tpos) (.Call (.Name "enumerate" p) [e] [] pos) (iEnumG X.K ta) := by
  refine ⟨fun pins s σ H R I h => Call_ (ld_blt I hg hm boot_enumerate (PyProof.Rows.callWith_type1 (thn (ha.run pos pins s σ H _ I h) fun us s1 ⟨vs, H1, I1, r1, b, a, xs, ex, hq, q⟩ => ?_) hs rfl))⟩
  subst ex
  cases r1 with
  | cons r rr =>
    cases rr
    cases r
    obtain ⟨its, rv, p'⟩ := sq_get I1 hq
    have la := sq_lt p'
    refine call_enum (begins b a its.toArray) p' fun h' he ho hk => wpAny_pyIter_enum he ?_
    have I2 : Inv X pins σ H1 { s1 with heap := h' } := I1.kept (t' := s1.toks) hk
    refine ⟨s1.heap.objs.size + 1, [s1.heap.objs.size + 1, s1.heap.objs.size], _, _, H1, rfl, I2, turn_enumG b a (s1.heap.objs.size + 1) s1.heap.objs.size (Nat.ne_of_lt la) (Nat.ne_of_lt (Nat.lt_succ_of_lt la)), ⟨⟨.none, he⟩, .mk ho, Nat.succ_ne_self _⟩, fun c hb => ?_, q⟩
    have le : s1.heap.objs.size ≤ c := by
      have y : c = s1.heap.objs.size + 1 ∨ c = s1.heap.objs.size := by simpa using hb
      rcases y with y | y <;> rw [y]
      · exact Nat.le_succ _
      · exact Nat.le_refl _
    exact I1.fpOk le (I1.hok.fresh le)
theorem enumL_get : ∀ (ys : List D) (k i : Nat), (enumL k ys)[i]? = ys[i]?.map fun d => .tuple [.int ((k + i : Nat) : Int), d]
  | [], k, i => by simp [enumL]
  | y :: r, k, 0 => by simp [enumL]
  | y :: r, k, i + 1 => by
    have e : k + 1 + i = k + (i + 1) := by omega
    rw [enumL, List.getElem?_cons_succ, List.getElem?_cons_succ, enumL_get r (k + 1) i, e]
theorem enumL_len : ∀ (ys : List D) (k : Nat), (enumL k ys).length = ys.length
  | [], _ => rfl
  | y :: r, k => by rw [enumL, List.length_cons, List.length_cons, enumL_len r]
theorem walk_enumG {b : Bool} {a : Addr} {F1 : Hp} {vs : List V} {ys : List D} (ra : RpA G.K G.sp F1 vs ys) : Walk (ItE b G.K a) (enumL 0 ys).length (fun H => Sq b G.K H a vs) (Yd G F1 (enumL 0 ys)) := by
  rw [enumL_len, ← ra.length]
  refine ⟨fun i H hi q => ⟨vs, vs[i], q, by simp [hi]⟩, fun H q => ⟨vs, q, rfl⟩, fun i H v H' hi q ⟨T, x, e1, e2, e3, e4⟩ => ?_⟩
  obtain ⟨d, hd, rx⟩ := ra.getV (e4 vs q)
  subst e1 e3
  refine ⟨_, by rw [enumL_get, hd]; rfl, fun F s h1 h2 h3 _ _ => ⟨_, Fw.lay h2 h3 e2, .tup upd_same (.cons ?_ (.cons (rx.mono (h1.trans (Same.upd' (h2.free e2)))) .nil))⟩⟩
  rw [Nat.zero_add]
  exact .int _
theorem okI_enum {a : E} {ex : Expr} {p pos tpos : Pos} {elts : List Expr} {kk : Nat} (hK : X.K = G.K) (hg : Gl X "enumerate") (hm : X.mg "enumerate" = none) (hs : isStarX ex = false) (h : OkE X G a ex) : PI X (.Tuple elts kk tpos) (.Call (.Name "enumerate" p) [ex] [] pos) (RdI G (.enum a)) := by
  have hs2 : starEach [ex] X.env = [(false, eval ex X.env)] := by rw [starEach_no hs]; rfl
  refine ⟨fun pins st σ H R I ⟨g, en, F, s, d, xs, s', Rr, off, he, hq, k⟩ => ?_⟩
  obtain ⟨d1, s1, h1, h2⟩ := bnd_some he
  obtain ⟨h3, rfl⟩ := lift_some h2
  obtain ⟨ys, h4, rfl⟩ := Option.map_eq_some_iff.mp h3
  cases hq
  by_cases ho : Off g (lk a)
  · refine (pi_enumG hg hm (pa_cons h.V pa_nil (starEach_no hs _ _)) hs2).run pins st σ H R I ⟨g, en, F, s, d1, s', Rr, ho, h1, fun x F1 H1 f r => ?_⟩
    cases d1 with
    | list zs =>
      cases h4
      cases r with
      | @lst ad vs ds e ra => exact ⟨false, ad, vs, rfl, SqL.of (f.sub _ _ e), hK ▸ k _ F1 H1 _ f (walk_enumG ra) (fun _ H'' hs => SqL.of (hs _ _ e)) (fun F'' H'' s'' f2 => SqL.of (f2.sub _ _ (f2.fr _ _ e)))⟩
    | tuple zs =>
      cases h4
      obtain ⟨ad, vs, rfl, e, ra⟩ := r.tuple
      exact ⟨true, ad, vs, rfl, hK ▸ sqT_same f.sub e, hK ▸ k _ F1 H1 _ f (walk_enumG ra) (fun _ H'' hs => sqT_same hs e) (fun F'' H'' s'' f2 => sqT_same (f2.fr.trans f2.sub) e)⟩
    | _ => cases h4
  · refine (pi_enumG hg hm (pa_cons h.B pa_nil (starEach_no hs _ _)) hs2).run pins st σ H R I ⟨g, en, F, s, d1, s', Rr, off, h1, fun x F1 H1 f r => ?_⟩
    cases d1 with
    | list zs =>
      cases h4
      obtain ⟨ad, vs, rfl, e, n1, n2, ra⟩ := r
      exact ⟨false, ad, vs, rfl, SqL.of e, hK ▸ k _ F1 H1 _ f (walk_enumG ra) (fun z => absurd z ho) (fun F'' H'' s'' f2 => SqL.of (f2.keep _ _ e n1 n2))⟩
    | tuple zs =>
      cases h4
      obtain ⟨ad, vs, rfl, e, ra⟩ := r.tuple
      exact ⟨true, ad, vs, rfl, hK ▸ sqT_same f.sub e, hK ▸ k _ F1 H1 _ f (walk_enumG ra) (fun z => absurd z ho) (fun F'' H'' s'' f2 => sqT_same (f2.fr.trans f2.sub) e)⟩
    | _ => cases h4
end
end Fz
/-! FzHb: zip of two, lists or tuples, strict or not. -/
namespace Fz
open PySem PySem.Spec PyProof.Rows L2
abbrev IsZS (st : Bool) (h : Heap) (z TI TO : Addr) (f : Value) : Prop := h.get? z = some { cls := .type "zip", dict := none, data := .fields #[f, .bool false, .bool st, .ref TI, .ref TO], slots := #[] }
section
variable {prog : Program} {w : World} {A : Around} {E : Value → Shared → Prop} {s : Shared} {z TI TO i1 i2 : Addr} {fp1 fp2 : List Addr} {n i : Nat} {P1 P2 : Nat → Value → Prop} {St1 St2 : Nat → Heap → Prop} {a1 a2 : Value}
theorem drawOr {it : Addr} {fp : List Addr} {n i : Nat} {P : Nat → Value → Prop} {St : Nat → Heap → Prop} {s : Shared} {Q : Option Value → Shared → Prop} (Dr : Draws prog w A it fp n P St) (hi : i < n) (st : St i s.heap)
    (k : ∀ x h' tk, P i x → St (i + 1) h' → Heap.SameBut it s.heap h' → Q (some x) { s with heap := h', toks := tk }) : wpAny (model prog w) A (Builtin.SmallTypes.nextOrEnd (.ref it)) Q E s := by
  unfold Builtin.SmallTypes.nextOrEnd
  exact wpAny_bind (wpAny_attempt (Dr.item i _ _ _ hi st fun x h' tk hx hs hb => wpAny_pure (k x h' tk hx hs hb)))
theorem drawEnd {it : Addr} {fp : List Addr} {n : Nat} {P : Nat → Value → Prop} {St : Nat → Heap → Prop} {s : Shared} {Q : Option Value → Shared → Prop} (Dr : Draws prog w A it fp n P St) (st : St n s.heap)
    (k : ∀ h', Heap.ExtBut it s.heap h' → Q none { s with heap := h' }) : wpAny (model prog w) A (Builtin.SmallTypes.nextOrEnd (.ref it)) Q E s := by
  unfold Builtin.SmallTypes.nextOrEnd
  refine wpAny_bind (wpAny_attempt (Dr.done s _ _ st fun h' e hb ⟨o, ho, hc⟩ => ?_))
  refine wpAny_bind (wpAny_isInstance (T := "StopIteration") (b := true) ⟨o, ho, hc⟩ isSubtype_stop ?_)
  exact wpAny_pure (k h' hb)
theorem zs_item {Q : Value → Shared → Prop} (S : ZipSep2 z TI TO i1 i2 fp1 fp2) (D1 : Draws prog w A i1 fp1 n P1 St1) (D2 : Draws prog w A i2 fp2 n P2 St2) (hz : IsZS true s.heap z TI TO .none) (hTI : IsTupOf2 s.heap TI (.ref i1) (.ref i2)) (hTO : IsTupOf2 s.heap TO a1 a2)
    (s1 : St1 i s.heap) (s2 : St2 i s.heap) (hi : i < n)
    (k : ∀ x1 x2 h' tk, P1 i x1 → P2 i x2 → IsZS true h' z TI TO (rawInt s.heap.objs.size) → IsTupOf2 h' TO x1 x2 → St1 (i + 1) h' → St2 (i + 1) h' → IsTupOf2 h' s.heap.objs.size x1 x2 → h'.objs.size = s.heap.objs.size + 1 →
      (∀ c o, c ≠ z → c ≠ TO → c ≠ i1 → c ≠ i2 → s.heap.get? c = some o → h'.get? c = some o) → Q (.ref s.heap.objs.size) { s with heap := h', toks := tk }) :
    wpAny (model prog w) A (Builtin.«zip.__next__» ⟨[.ref z], []⟩) (fun fin s' => ∃ v, fin = .done (.ret v) ∧ Q v s') E s := by
  obtain ⟨hp, g, d, t0, os⟩ := s
  show wpAny _ _ (field (.ref z) 2 >>= _) _ _ _
  refine wpAny_bind (wpAny_field hz rfl (x := .bool true) rfl ?_)
  show wpAny _ _ (field (.ref z) 3 >>= _) _ _ _
  refine wpAny_bind (wpAny_field hz rfl (x := .ref TI) rfl (wpAny_bind (wpAny_seqItems hTI rfl ?_)))
  show wpAny _ _ (Builtin.SmallTypes.ownedTupleIsFree (.ref z) >>= _) _ _ _
  refine wpAny_bind ?_
  unfold Builtin.SmallTypes.ownedTupleIsFree
  refine wpAny_bind (wpAny_field hz rfl (x := .none) rfl (wpAny_pure ?_))
  simp only [if_true]
  refine wpAny_bind (wpAny_rule (wpAny_bind (wpAny_field hz rfl (x := .ref TO) rfl (wpAny_bind (wpAny_setField_rec hz (by simp) fun g0 k0 b0 => ?_)))))
  have hz0 : IsZS true g0 z TI TO .ellipsis := k0
  have hs0 : Heap.SameBut z hp g0 := b0
  clear k0 b0
  refine wpAny_bind ?_
  simp only [List.zipIdx_cons, List.zipIdx_nil, List.forIn_cons, List.forIn_nil]
  refine wpAny_bind (wpAny_bind (wpAny_onRaise ?_))
  show wpAny _ _ (Builtin.SmallTypes.nextOrEnd (.ref i1)) _ _ ⟨g0, g, d, t0, os⟩
  refine drawOr D1 hi (D1.over s1 hs0 S.zf1) fun x1 p1 t1 hx1 n1 q1 => ?_
  have hp1 : Heap.SameBut i1 g0 p1 := q1
  clear q1
  have u1 : IsTupOf2 p1 TO a1 a2 := hp1.extBut _ _ S.Ti1 (hs0.extBut _ _ S.TOz hTO)
  refine wpAny_bind (wpAny_seqItems (s := ⟨p1, g, d, t1, os⟩) u1 rfl (wpAny_bind (updateSeq_IsTupOf2 (s := ⟨p1, g, d, t1, os⟩) u1 fun g1 c1 e1 => ?_)))
  have hT1 : IsTupOf2 g1 TO x1 a2 := c1
  have hs1 : Heap.SameBut TO p1 g1 := e1
  clear c1 e1
  refine wpAny_bind (wpAny_letGo (wpAny_pure (wpAny_bind (wpAny_bind (wpAny_onRaise ?_)))))
  show wpAny _ _ (Builtin.SmallTypes.nextOrEnd (.ref i2)) _ _ ⟨g1, g, d, t1, os⟩
  refine drawOr D2 hi (D2.over (D2.over (D2.over s2 hs0 S.zf2) hp1 S.sep1_2) hs1 S.Tf2) fun x2 p2 t2 hx2 n2 q2 => ?_
  have hp2 : Heap.SameBut i2 g1 p2 := q2
  clear q2
  have u2 : IsTupOf2 p2 TO x1 a2 := hp2.extBut _ _ S.Ti2 hT1
  refine wpAny_bind (wpAny_seqItems (s := ⟨p2, g, d, t2, os⟩) u2 rfl (wpAny_bind (updateSeq_IsTupOf2 (s := ⟨p2, g, d, t2, os⟩) u2 fun g2 c2 e2 => ?_)))
  have hT2 : IsTupOf2 g2 TO x1 x2 := c2
  have hs2 : Heap.SameBut TO p2 g2 := e2
  clear c2 e2
  refine wpAny_bind (wpAny_letGo (wpAny_pure (wpAny_pure ?_)))
  refine wpAny_bind (wpAny_seqItems (s := ⟨g2, g, d, t2, os⟩) hT2 rfl (wpAny_bind (wpAny_newTuple ?_)))
  have sz : g2.objs.size = hp.objs.size := by rw [hs2.1, hp2.1, hs1.1, hp1.1, hs0.1]
  have zz : IsZS true g2 z TI TO .ellipsis := hs2.extBut _ _ S.TOz.symm (hp2.extBut _ _ S.zi2 (hs1.extBut _ _ S.TOz.symm (hp1.extBut _ _ S.zi1 hz0)))
  have kk : ∀ c o, c ≠ z → c ≠ TO → c ≠ i1 → c ≠ i2 → hp.get? c = some o → g2.get? c = some o := fun c o cz cT c1 c2 e => hs2.extBut _ _ cT (hp2.extBut _ _ c2 (hs1.extBut _ _ cT (hp1.extBut _ _ c1 (hs0.extBut _ _ cz e))))
  have j1 : St1 (i + 1) g2 := D1.over (D1.over (D1.over n1 hs1 S.Tf1) hp2 S.sep2_1) hs2 S.Tf1
  have j2 : St2 (i + 1) g2 := D2.over n2 hs2 S.Tf2
  have lt : z < g2.objs.size := Heap.lt_size zz
  show wpAny _ _ (Builtin.SmallTypes.ownedTupleHandOut (.ref z) (.ref g2.objs.size) >>= _) _ _ ⟨g2.push { cls := .type "tuple", data := .seq #[x1, x2] }, g, d, t2, os⟩
  refine wpAny_bind ?_
  unfold Builtin.SmallTypes.ownedTupleHandOut
  have z6 : IsZS true (g2.push { cls := .type "tuple", data := .seq #[x1, x2] }) z TI TO .ellipsis := Heap.get?_push_of_some _ zz
  refine wpAny_bind (wpAny_setField_rec z6 (by simp) fun h7 c7 e7 => ?_)
  have z7 : IsZS true h7 z TI TO (rawInt g2.objs.size) := c7
  have m7 : Heap.SameBut z (g2.push { cls := .type "tuple", data := .seq #[x1, x2] }) h7 := e7
  clear c7 e7
  refine wpAny_setField_rec z7 (by simp) fun h8 c8 e8 => ?_
  have z8 : IsZS true h8 z TI TO (rawInt g2.objs.size) := c8
  have m8 : Heap.SameBut z h7 h8 := e8
  clear c8 e8
  have up : ∀ c o, c ≠ z → g2.get? c = some o → h8.get? c = some o := fun c o c1 e => m8.extBut _ _ c1 (m7.extBut _ _ c1 (Heap.get?_push_of_some _ e))
  have t8 : IsTupOf2 h8 g2.objs.size x1 x2 := m8.extBut _ _ (Nat.ne_of_gt lt) (m7.extBut _ _ (Nat.ne_of_gt lt) (Heap.get?_push_size _ rfl))
  have l8 : h8.objs.size = g2.objs.size + 1 := by rw [m8.1, m7.1, Heap.size_push]
  rw [sz] at z8 t8 l8
  refine wpAny_pure ⟨_, rfl, ?_⟩
  show Q (.ref g2.objs.size) ⟨h8, g, d, t2, os⟩
  rw [sz]
  exact k x1 x2 h8 t2 hx1 hx2 z8 (up _ _ S.TOz hT2) (D1.frame _ _ _ j1 fun b hb o e => up b o (fun q => S.zf1 (q ▸ hb)) e) (D2.frame _ _ _ j2 fun b hb o e => up b o (fun q => S.zf2 (q ▸ hb)) e) t8 l8 fun c o cz cT c1 c2 e => up c o cz (kk c o cz cT c1 c2 e)
theorem zs_end {Q : Fin → Shared → Prop} (hh : A.handled = none) (S : ZipSep2 z TI TO i1 i2 fp1 fp2) (D1 : Draws prog w A i1 fp1 n P1 St1) (D2 : Draws prog w A i2 fp2 n P2 St2) (hz : IsZS true s.heap z TI TO .none) (hTI : IsTupOf2 s.heap TI (.ref i1) (.ref i2)) (hTO : IsTupOf2 s.heap TO a1 a2)
    (s1 : St1 n s.heap) (s2 : St2 n s.heap)
    (k : ∀ h' tk e, (∀ c o, c ≠ z → c ≠ TO → c ≠ i1 → c ≠ i2 → s.heap.get? c = some o → h'.get? c = some o) → (∃ o, h'.get? e = some o ∧ o.cls = .type "StopIteration") → E (.ref e) { s with heap := h', toks := tk }) :
    wpAny (model prog w) A (Builtin.«zip.__next__» ⟨[.ref z], []⟩) Q E s := by
  obtain ⟨hp, g, d, t0, os⟩ := s
  show wpAny _ _ (field (.ref z) 2 >>= _) _ _ _
  refine wpAny_bind (wpAny_field hz rfl (x := .bool true) rfl ?_)
  show wpAny _ _ (field (.ref z) 3 >>= _) _ _ _
  refine wpAny_bind (wpAny_field hz rfl (x := .ref TI) rfl (wpAny_bind (wpAny_seqItems hTI rfl ?_)))
  show wpAny _ _ (Builtin.SmallTypes.ownedTupleIsFree (.ref z) >>= _) _ _ _
  refine wpAny_bind ?_
  unfold Builtin.SmallTypes.ownedTupleIsFree
  refine wpAny_bind (wpAny_field hz rfl (x := .none) rfl (wpAny_pure ?_))
  simp only [if_true]
  refine wpAny_bind (wpAny_rule (wpAny_bind (wpAny_field hz rfl (x := .ref TO) rfl (wpAny_bind (wpAny_setField_rec hz (by simp) fun g0 k0 b0 => ?_)))))
  have hz0 : IsZS true g0 z TI TO .ellipsis := k0
  have hs0 : Heap.SameBut z hp g0 := b0
  clear k0 b0
  refine wpAny_bind ?_
  simp only [List.zipIdx_cons, List.zipIdx_nil, List.forIn_cons, List.forIn_nil]
  refine wpAny_bind (wpAny_bind (wpAny_onRaise ?_))
  show wpAny _ _ (Builtin.SmallTypes.nextOrEnd (.ref i1)) _ _ ⟨g0, g, d, t0, os⟩
  refine drawEnd D1 (D1.over s1 hs0 S.zf1) fun p1 q1 => ?_
  have hp1 : Heap.ExtBut i1 g0 p1 := q1
  clear q1
  have hz1 : IsZS true p1 z TI TO .ellipsis := hp1 _ _ S.zi1 hz0
  refine wpAny_bind (wpAny_setField_rec (s := ⟨p1, g, d, t0, os⟩) hz1 (by simp) fun g1 c1 e1 => ?_)
  have hs1 : Heap.SameBut z p1 g1 := e1
  clear c1 e1
  refine wpAny_bind ?_
  show wpAny _ _ (forIn [(Value.ref i2, 1)] PUnit.unit _ >>= _) _ _ _
  simp only [List.forIn_cons, List.forIn_nil]
  refine wpAny_bind (wpAny_bind (wpAny_bind (drawEnd D2 (D2.over (D2.frame _ _ _ (D2.over s2 hs0 S.zf2) fun b hb o e => hp1 b o (fun q => S.sep1_2 (q ▸ hb)) e) hs1 S.zf2) fun p2 q2 => ?_)))
  have hp2 : Heap.ExtBut i2 g1 p2 := q2
  clear q2
  rw [if_neg (show ¬ ((none : Option Value).isSome = true) from Bool.false_ne_true)]
  refine wpAny_pure (wpAny_pure (wpAny_bind (wpAny_rule ?_)))
  show wpAny _ _ (newExc (.type "StopIteration") [] >>= _) _ _ ⟨p2, g, d, t0, os⟩
  refine wpAny_bind ?_
  simp only [newExc, newTuple]
  refine wpAny_bind (wpAny_newObj_type (wpAny_bind (m := firstArgMember _ _) (wpAny_of_eq (a := Value.none) (by first | rfl | (simp only [firstArgMember]; rfl)) (wpAny_newObj_type ?_ (by size_fits)))) (by size_fits))
  simp only [raiseNew]
  refine wpAny_bind (wpAny_handled ?_)
  rw [hh]
  refine wpAny_bind (wpAny_pure (wpAny_throw (k _ t0 _ (fun c o cz cT c1 c2 e => ?_) ⟨_, Heap.get?_push_size _ rfl, rfl⟩)))
  exact Heap.get?_push_of_some _ (Heap.get?_push_of_some _ (hp2 _ _ c2 (hs1.extBut _ _ cz (hp1 _ _ c1 (hs0.extBut _ _ cz e)))))
theorem zsNext_item {Q : Option Value → Shared → Prop} (S : ZipSep2 z TI TO i1 i2 fp1 fp2) (D1 : Draws prog w A.in1 i1 fp1 n P1 St1) (D2 : Draws prog w A.in1 i2 fp2 n P2 St2) (hz : IsZS true s.heap z TI TO .none) (hTI : IsTupOf2 s.heap TI (.ref i1) (.ref i2)) (hTO : IsTupOf2 s.heap TO a1 a2)
    (s1 : St1 i s.heap) (s2 : St2 i s.heap) (hi : i < n)
    (k : ∀ x1 x2 h' tk, P1 i x1 → P2 i x2 → IsZS true h' z TI TO (rawInt s.heap.objs.size) → IsTupOf2 h' TO x1 x2 → St1 (i + 1) h' → St2 (i + 1) h' → IsTupOf2 h' s.heap.objs.size x1 x2 → h'.objs.size = s.heap.objs.size + 1 →
      (∀ c o, c ≠ z → c ≠ TO → c ≠ i1 → c ≠ i2 → s.heap.get? c = some o → h'.get? c = some o) → Q (some (.ref s.heap.objs.size)) { s with heap := h', toks := tk }) : wpAny (model prog w) A (pyNext (.ref z)) Q E s := by
  have hT : s.TypeIs (.ref z) "zip" := ⟨_, hz, rfl⟩
  unfold pyNext
  exact wpAny_bind (wpAny_attempt (wpAny_callSpecial?_slot (name := Str.ofString "__next__") hT F.slot_zip_next (wpAny_call_entry F.slot_zip_next hT F.entry_zip_next
    (zs_item S D1 D2 hz hTI hTO s1 s2 hi fun x1 x2 h' tk y1 y2 b1 b2 d1 d2 b5 b6 b7 => wpAny_pure (k x1 x2 h' tk y1 y2 b1 b2 d1 d2 b5 b6 b7)) (F.args_zip_next_1 _))))
theorem zsNext_end {Q : Option Value → Shared → Prop} (hh : A.handled = none) (S : ZipSep2 z TI TO i1 i2 fp1 fp2) (D1 : Draws prog w A.in1 i1 fp1 n P1 St1) (D2 : Draws prog w A.in1 i2 fp2 n P2 St2) (hz : IsZS true s.heap z TI TO .none) (hTI : IsTupOf2 s.heap TI (.ref i1) (.ref i2)) (hTO : IsTupOf2 s.heap TO a1 a2)
    (s1 : St1 n s.heap) (s2 : St2 n s.heap) (k : ∀ h' tk, (∀ c o, c ≠ z → c ≠ TO → c ≠ i1 → c ≠ i2 → s.heap.get? c = some o → h'.get? c = some o) → Q none { s with heap := h', toks := tk }) : wpAny (model prog w) A (pyNext (.ref z)) Q E s := by
  have hT : s.TypeIs (.ref z) "zip" := ⟨_, hz, rfl⟩
  unfold pyNext
  refine wpAny_bind (wpAny_attempt (wpAny_callSpecial?_slot (name := Str.ofString "__next__") hT F.slot_zip_next (wpAny_call_entry F.slot_zip_next hT F.entry_zip_next (zs_end hh S D1 D2 hz hTI hTO s1 s2 fun h' tk e hk ⟨o, ho, hc⟩ => ?_) (F.args_zip_next_1 _))))
  exact wpAny_bind (wpAny_isInstance (T := "StopIteration") (b := true) ⟨o, ho, hc⟩ isSubtype_stop (wpAny_pure (k _ _ hk)))
theorem zsIter {f0 : Value} {Q : Value → Shared → Prop} (hz : IsZS true s.heap z TI TO f0) (h : Q (.ref z) s) : wpAny (model prog w) A (pyIter (.ref z)) Q E s := by
  have hT : s.TypeIs (.ref z) "zip" := ⟨_, hz, rfl⟩
  refine wpAny_pyIter_slot hT F.slot_zip_iter (wpAny_call_entry F.slot_zip_iter hT F.entry_zip_iter ?_ (F.args_zip_iter_1 _))
  show wpAny _ _ (PySem.ret (Value.ref z)) _ _ s
  exact wpAny_pure ⟨_, rfl, "zip", _, hT, F.slot_zip_next.lookup, h⟩
theorem zsGo {elts : List Expr} {x1} {pos : Pos} {T : Addr} {Q : Unit → Shared → Prop} (hz : IsZS true s.heap z TI TO (rawInt T)) (k : ∀ h', IsZS true h' z TI TO .none → Heap.SameBut z s.heap h' → Q () { s with heap := h' }) : wpAny (model prog w) A (letOwnedTupleGo (.Tuple elts x1 pos) (.ref z) (.ref T)) Q E s := by
  unfold letOwnedTupleGo
  refine wpAny_bind (wpAny_load hz ?_)
  show wpAny _ _ (if (["enumerate", "zip", "dict_itemiterator", "dict_reverseitemiterator", "odict_iterator", "itertools.zip_longest", "itertools.pairwise"].contains "zip" && (#[rawInt T, .bool false, .bool true, .ref TI, .ref TO] : Array Value)[0]? == some (rawInt T)) = true then _ else _) Q E s
  rw [if_pos (by simp)]
  refine wpAny_bind (wpAny_rule ?_)
  show wpAny _ _ (setField (.ref z) 0 .none) Q E s
  exact wpAny_setField_rec hz (by simp) fun h' hz' hs' => k h' hz' hs'
end
end Fz
/-! FzHc: making a strict zip. -/
namespace Fz
open PySem PySem.Spec PyProof.Rows L2
abbrev kwS : List (Str × Value) := [("strict", .bool true)]
abbrev hT2 (h : Heap) (o1 o2 : Obj) : Heap := ((h.push o1).push o2).push { cls := .type "tuple", data := .seq #[.ref h.objs.size, .ref (h.push o1).objs.size] }
abbrev hO2 (h : Heap) (o1 o2 : Obj) : Heap := (hT2 h o1 o2).push { cls := .type "tuple", data := .seq #[.none, .none] }
abbrev hZ2 (h : Heap) (o1 o2 : Obj) : Heap := (hO2 h o1 o2).push { cls := .type "zip", data := .fields #[.none, .bool false, .bool true, .ref ((h.push o1).push o2).objs.size, .ref (hT2 h o1 o2).objs.size] }
theorem tc_zip (a b : Value) : checkTypeCall "zip" ⟨[a, b], kwS⟩ = pure () := by kernel_rfl
theorem nc_zip (a b : Value) : checkBuiltinCall "zip.__new__" ⟨[.type "zip", a, b], kwS⟩ = pure () := by kernel_rfl
theorem ao_zip (a b c : Value) : argsOk "object.__init__" ⟨[a, b, c], kwS⟩ := by unfold argsOk; kernel_rfl
theorem meets_zipS {v1 v2 : Value} {o1 o2 : Obj} {H1 H2 : Heap → Prop} (B1 : Begins v1 o1 H1) (B2 : Begins v2 o2 H2) :
    Meets (Builtin.«zip.__new__» ⟨[.type "zip", v1, v2], kwS⟩) (fun _ R s => (H1 s.heap ∧ H2 s.heap) ∧ R (.ok (.ret (.ref (hO2 s.heap o1 o2).objs.size))) { s with heap := hZ2 s.heap o1 o2 }) := .of_wp fun prog w A R s h => by
  obtain ⟨hp, g, d, tk, os⟩ := s
  obtain ⟨⟨h1, h2⟩, h⟩ := h
  have hsub := sub_zip
  have q1 : ∀ {A' : Around} {E : Value → Shared → Prop} {Q : Value → Shared → Prop}, Q (.ref hp.objs.size) ⟨hp.push o1, g, d, tk, os⟩ → wpAny (model prog w) A' (pyIter v1) Q E ⟨hp, g, d, tk, os⟩ := fun q => B1.iter prog w _ _ _ _ h1 q
  have q2 : ∀ {A' : Around} {E : Value → Shared → Prop} {Q : Value → Shared → Prop}, Q (.ref (hp.push o1).objs.size) ⟨(hp.push o1).push o2, g, d, tk, os⟩ → wpAny (model prog w) A' (pyIter v2) Q E ⟨hp.push o1, g, d, tk, os⟩ :=
    fun q => B2.iter prog w _ _ _ _ (B2.keeps _ _ h2 fun b o' e => Heap.get?_push_of_some _ e) q
  wp_walk using q1, q2
  exact ⟨_, rfl, h⟩
section
variable {prog : Program} {w : World} {A : Around} {E : Value → Shared → Prop} {s : Shared}
theorem oinit_kw {T newId : String} {self : Value} {rest : List Value} {kw : List (Str × Value)} (hl : typeLookup (.type T) "__init__" = pure (some (.builtin "object.__init__"))) (hm : Bind.madeBy (.type T) = pure (some newId)) (hne : (some newId != some "object.__new__") = true) :
    Meets (Builtin.«object.__init__» ⟨self :: rest, kw⟩) (fun _ R s => s.TypeIs self T ∧ R (.ok (.ret .none)) s) := Meets.of_wp fun prog w A R s ⟨hT, hq⟩ => by
  cases rest with
  | nil => cases kw with
    | nil => exact wpAny_pure ⟨_, rfl, hq⟩
    | cons q kw =>
      repeat (any_goals (first | assumption | wp_step))
      all_goals exact ⟨_, rfl, hq⟩
  | cons a rest =>
    repeat (any_goals (first | assumption | wp_step))
    all_goals exact ⟨_, rfl, hq⟩
theorem call_kwT {T newId initId : String} {Bn Bi : Builtin} {args : List Value} {kw : List (Str × Value)} {Sp : PySem.Spec} {Q Q₁ : Value → Shared → Prop} (ft : TypeCalled T newId initId) (hct : checkTypeCall T ⟨args, kw⟩ = pure ()) (hcn : checkBuiltinCall newId ⟨.type T :: args, kw⟩ = pure ())
    (entryN : entryFor table newId = some Bn) (entryI : entryFor table initId = some Bi) (g : Meets (Bn ⟨.type T :: args, kw⟩) Sp) (h : Sp A.in1 (wants Q₁ E) s)
    (hnext : ∀ obj s₁, Q₁ obj s₁ → s₁.TypeIs obj T ∧ argsOk initId ⟨obj :: args, kw⟩ ∧ ∃ Si, Meets (Bi ⟨obj :: args, kw⟩) Si ∧ Si A.in1 (wants (fun r s₂ => r = .none ∧ Q obj s₂) E) s₁) : wpAny (model prog w) A (call (.type T) args kw) Q E s := by
  obtain ⟨c, tl, hmro⟩ := ft.mro
  have hmade := ft.made
  have hsub := ft.sub
  refine wpAny_call (codeAny_of_tree ?_)
  show wpAny _ _ (callAny (.type T) _) _ _ _
  refine wpAny_pure ⟨Code.quiet_builtin _ (by decide +kernel), codeAny_builtin F.entry_type_call ?_⟩
  have w0 : (Code.builtin "type.__call__" ⟨.type T :: args, kw⟩).weight = 0 := rfl
  have u1 : (Code.builtin "type.__call__" ⟨.type T :: args, kw⟩).cUnits = 1 := rfl
  rw [Around.under_plain w0 u1]
  have h1 := ft.notType
  have h2 := ft.canCreate
  repeat (any_goals (first | assumption | wp_step))
  refine codeAny_mono (codeAny_call_builtin ft.plain entryN (wpAny_of_eq hcn (g prog w A.in1 _ s h))) fun r s₁ hr => ?_
  cases r with
  | error e => exact hr
  | ok fl =>
    cases fl with
    | ret obj =>
      obtain ⟨hT, hok, Si, gi, hsi⟩ := hnext _ _ hr
      have hli := ft.init.lookup
      have hbi := ft.init.bind obj
      repeat (any_goals (first | assumption | wp_step))
      refine codeAny_mono (codeAny_call_builtin ft.init.plain entryI (ft.init.check _ _ _ _ _ _ _ _ hT hok (gi prog w A.in1 _ s₁ hsi))) fun r₂ s₂ hr₂ => ?_
      cases r₂ with
      | error e => exact hr₂
      | ok fl₂ =>
        cases fl₂ with
        | ret r =>
          obtain ⟨rfl, hq⟩ := hr₂
          repeat (any_goals (first | assumption | wp_step))
        | _ => exact hr₂.elim
    | _ => exact hr.elim
end
end Fz
/-! FzHd: for .. in zip(a, b), zip(a, b, strict=True). -/
namespace Fz
open PySem PySem.Spec PyProof.Rows L2
section
variable {prog : Program} {w : World} {A : Around} {E : Value → Shared → Prop} {s : Shared}
theorem call_zipS {v1 v2 : Value} {o1 o2 : Obj} {H1 H2 : Heap → Prop} {Q : Value → Shared → Prop} (B1 : Begins v1 o1 H1) (B2 : Begins v2 o2 H2) (h1 : H1 s.heap) (h2 : H2 s.heap)
    (k : ∀ h', IsZS true h' (s.heap.objs.size + 4) (s.heap.objs.size + 2) (s.heap.objs.size + 3) .none → IsTupOf2 h' (s.heap.objs.size + 2) (.ref s.heap.objs.size) (.ref (s.heap.objs.size + 1)) → IsTupOf2 h' (s.heap.objs.size + 3) .none .none →
      h'.get? s.heap.objs.size = some o1 → h'.get? (s.heap.objs.size + 1) = some o2 → (∀ c o, s.heap.get? c = some o → h'.get? c = some o) → Q (.ref (s.heap.objs.size + 4)) { s with heap := h' }) :
    wpAny (model prog w) A (call (.type "zip") [v1, v2] kwS) Q E s := by
  refine call_kwT (Q₁ := fun obj s₁ => s₁.TypeIs obj "zip" ∧ Q obj s₁) F.called_zip (tc_zip _ _) (nc_zip _ _) F.entry_zip_new F.entry_object_init (meets_zipS B1 B2) ⟨⟨h1, h2⟩, ?_⟩
    fun obj s₁ hq => ⟨hq.1, ao_zip obj _ _, _, oinit_kw F.called_zip.init.lookup F.called_zip.made (by decide), hq.1, rfl, hq.2⟩
  have y1 : (s.heap.push o1).objs.size = s.heap.objs.size + 1 := by rw [Heap.size_push]
  have y2 : ((s.heap.push o1).push o2).objs.size = s.heap.objs.size + 2 := by rw [Heap.size_push, y1]
  have y3 : (hT2 s.heap o1 o2).objs.size = s.heap.objs.size + 3 := by rw [Heap.size_push, y2]
  have y4 : (hO2 s.heap o1 o2).objs.size = s.heap.objs.size + 4 := by rw [Heap.size_push, y3]
  have gZ : (hZ2 s.heap o1 o2).get? (hO2 s.heap o1 o2).objs.size = some _ := Heap.get?_push_size _ rfl
  have gO : (hZ2 s.heap o1 o2).get? (hT2 s.heap o1 o2).objs.size = some _ := Heap.get?_push_of_some _ (Heap.get?_push_size _ rfl)
  have gT : (hZ2 s.heap o1 o2).get? ((s.heap.push o1).push o2).objs.size = some _ := Heap.get?_push_of_some _ (Heap.get?_push_of_some _ (Heap.get?_push_size _ rfl))
  have up : ∀ {c : Addr} {o : Obj}, ((s.heap.push o1).push o2).get? c = some o → (hZ2 s.heap o1 o2).get? c = some o := fun e => Heap.get?_push_of_some _ (Heap.get?_push_of_some _ (Heap.get?_push_of_some _ e))
  have g1 : (hZ2 s.heap o1 o2).get? s.heap.objs.size = some o1 := up (Heap.get?_push_of_some _ (Heap.get?_push_size _ B1.free))
  have g2 : (hZ2 s.heap o1 o2).get? (s.heap.push o1).objs.size = some o2 := up (Heap.get?_push_size _ B2.free)
  rw [y4, y3, y2] at gZ
  rw [y3] at gO
  rw [y2, y1] at gT
  rw [y1] at g2
  show _ ∧ _
  rw [y4]
  exact ⟨⟨_, gZ, rfl⟩, k _ gZ gT gO g1 g2 fun c o e => up (Heap.get?_push_of_some _ (Heap.get?_push_of_some _ e))⟩
theorem callWith_kwT {M : Model} {A : Around} {env : Env} {E : Value → Shared → Prop} {s : Shared} {pos : Pos} {T : String} {e : Expr} {rest : List Expr} {kws : List Keyword} {Q : Value → Shared → Prop}
    (h : wpAny M A (spliced (backTo pos (starEach (e :: rest) env))) (fun vs z => wpAny M A (evalAll ((backToKw pos (keywordEach kws env)).map (·.2))) (fun kvs y => wpAny M A (call (.type T) vs (((backToKw pos (keywordEach kws env)).filterMap (·.1)).zip kvs)) Q E y) E z) E s)
    (he : backTo pos (starEach (e :: rest) env) = (false, eval e env) :: backTo pos (starEach rest env)) (hplain : (backTo pos (starEach (e :: rest) env)).any (·.1) = false)
    (hall : (backToKw pos (keywordEach kws env)).all (·.1.isSome) = true) (hkw : (backToKw pos (keywordEach kws env)).any (·.1.isNone) = false) :
    wpAny M A (callWith pos (.type T) [] (backTo pos (starEach (e :: rest) env)) (backToKw pos (keywordEach kws env))) Q E s := by
  have q : wpAny M A (evalArgs (.type T) true (backTo pos (starEach (e :: rest) env)) (backToKw pos (keywordEach kws env))) (fun a z => wpAny M A (call (.type T) ([] ++ a.pos) a.kw) Q E z) E s := by
    rw [he] at h ⊢
    exact evalArgs_kwB hall h
  unfold callWith
  refine wpAny_bind (wpAny_holding (wpAny_mono q (fun a z hz => wpAny_bind (wpAny_standAt ?_)) fun _ _ x => x))
  simp only [hplain, hkw, Bool.or_false]
  exact wpAny_bind (wpAny_pure (wpAny_bind (wpAny_mono hz (fun r y hr => wpAny_bind (wpAny_holding (wpAny_point (wpAny_pure hr)))) fun _ _ x => x)))
end
/-- what a turn of zip gives -/
def ItZ (st b1 b2 : Bool) (K : PySem.W.Frag) (a1 a2 : Addr) : It := ⟨fun i H => ∃ (xs ys : List V) (x y : V), Sq b1 K H a1 xs ∧ Sq b2 K H a2 ys ∧ xs[i]? = some x ∧ ys[i]? = some y ∧ (st = true → xs.length = ys.length),
  fun i H v H' => ∃ T x y, v = .ref T ∧ H T = none ∧ H' = upd H T (.tup [x, y]) ∧ (∀ xs, Sq b1 K H a1 xs → xs[i]? = some x) ∧ ∀ ys, Sq b2 K H a2 ys → ys[i]? = some y,
  fun i H => ∃ xs ys : List V, Sq b1 K H a1 xs ∧ Sq b2 K H a2 ys ∧ i ≤ xs.length ∧ i ≤ ys.length ∧ (i = xs.length ∨ i = ys.length) ∧ (st = true → xs.length = ys.length)⟩
theorem turn_zipG {P : Program} {w : World} {K : PySem.W.Frag} {elts : List Expr} {kk : Nat} {tpos : Pos} (st b1 b2 : Bool) {a1 a2 z TI TO i1 i2 : Addr} (S : ZipSep2 z TI TO i1 i2 [i1, a1] [i2, a2]) (na : a1 ≠ i1) (nb : a2 ≠ i2) :
    Turn P w K (.Tuple elts kk tpos) (ItZ st b1 b2 K a1 a2) [z, TI, TO, i1, i2] z (fun i h => IsZS st h z TI TO .none ∧ IsTupOf2 h TI (.ref i1) (.ref i2) ∧ (∃ x y, IsTupOf2 h TO x y) ∧ ItAt b1 h i1 a1 i ∧ ItAt b2 h i2 a2 i) where
  mem := by simp
  obj := fun i h q c hc => by
    obtain ⟨hz, hTI, ⟨x, y, hTO⟩, h1, h2⟩ := q
    have y : c = z ∨ c = TI ∨ c = TO ∨ c = i1 ∨ c = i2 := by simpa using hc
    rcases y with y | y | y | y | y
    · rw [y]; exact ⟨_, hz, fun v q => nomatch q⟩
    · rw [y]; exact ⟨_, hTI, fun v q => nomatch q⟩
    · rw [y]; exact ⟨_, hTO, fun v q => nomatch q⟩
    · rw [y]; exact h1.obj
    · rw [y]; exact h2.obj
  keep := fun i h h' q k => by
    obtain ⟨hz, hTI, ⟨x, y, hTO⟩, h1, h2⟩ := q
    exact ⟨k z (by simp) _ hz, k TI (by simp) _ hTI, ⟨x, y, k TO (by simp) _ hTO⟩, h1.at fun o q => k i1 (by simp) o q, h2.at fun o q => k i2 (by simp) o q⟩
  item := by
    intro X hP hw hK hc i pins s σ H E I hf q ⟨xs, ys, x, y, hqx, hqy, hx, hy, hl⟩
    subst hP hw hK
    obtain ⟨hz, hTI, ⟨x0, y0, hTO⟩, h1, h2'⟩ := q
    obtain ⟨its, rv, p⟩ := sq_get I hqx
    obtain ⟨its2, rv2, p2⟩ := sq_get I hqy
    obtain ⟨u, hu, ru⟩ := rv.get hx
    obtain ⟨u2, hu2, ru2⟩ := rv2.get hy
    have hi1 : i < its.toArray.size := by rw [List.size_toArray]; exact (List.getElem?_eq_some_iff.mp hu).1
    have hi2 : i < its2.toArray.size := by rw [List.size_toArray]; exact (List.getElem?_eq_some_iff.mp hu2).1
    have D1 := draws (prog := X.prog) (w := X.w) (A := X.A.in1) (I.ok.hd hc) b1 i1 a1 na its.toArray
    have D2 := draws (prog := X.prog) (w := X.w) (A := X.A.in1) (I.ok.hd hc) b2 i2 a2 nb its2.toArray
    have hzl : z < s.heap.objs.size := Heap.lt_size hz
    have fin : ∀ (v1 v2 : Value) (h' : Heap) (tk : Tok), its.toArray[i]? = some v1 → its2.toArray[i]? = some v2 → IsZS st h' z TI TO (rawInt s.heap.objs.size) → IsTupOf2 h' TO v1 v2 → StI b1 i1 a1 its.toArray (i + 1) h' → StI b2 i2 a2 its2.toArray (i + 1) h' → IsTupOf2 h' s.heap.objs.size v1 v2 →
        (∀ c o, c ≠ z → c ≠ TO → c ≠ i1 → c ≠ i2 → s.heap.get? c = some o → h'.get? c = some o) →
        (fun r y => ∃ u, r = some u ∧ wpAny (model X.prog X.w) X.A (letOwnedTupleGo (.Tuple elts kk tpos) (.ref z) u) (fun _ y => ∃ x H', Inv X pins σ H' y ∧ RelV x u ∧ (ItZ st b1 b2 X.K a1 a2).yld i H x H' ∧
          (IsZS st y.heap z TI TO .none ∧ IsTupOf2 y.heap TI (.ref i1) (.ref i2) ∧ (∃ x y', IsTupOf2 y.heap TO x y') ∧ ItAt b1 y.heap i1 a1 (i + 1) ∧ ItAt b2 y.heap i2 a2 (i + 1)) ∧ ∀ b ∈ [z, TI, TO, i1, i2], H' b = none) E y : Option Value → Shared → Prop)
          (some (.ref s.heap.objs.size)) { s with heap := h', toks := tk } := fun v1 v2 h' tk e1 e2 zq TOq n1 n2 hT hk => by
      have v1u : v1 = u := by
        have q : its.toArray[i]? = some u := by simpa using hu
        rw [q] at e1; exact (Option.some.inj e1).symm
      have v2u : v2 = u2 := by
        have q : its2.toArray[i]? = some u2 := by simpa using hu2
        rw [q] at e2; exact (Option.some.inj e2).symm
      subst v1u v2u
      refine ⟨_, rfl, ?_⟩
      have rest : ∀ h2 : Heap, IsZS st h2 z TI TO .none → Heap.SameBut z h' h2 → (∃ x H', Inv X pins σ H' { s with heap := h2, toks := tk } ∧ RelV x (.ref s.heap.objs.size) ∧ (ItZ st b1 b2 X.K a1 a2).yld i H x H' ∧
          (IsZS st h2 z TI TO .none ∧ IsTupOf2 h2 TI (.ref i1) (.ref i2) ∧ (∃ x y', IsTupOf2 h2 TO x y') ∧ ItAt b1 h2 i1 a1 (i + 1) ∧ ItAt b2 h2 i2 a2 (i + 1)) ∧ ∀ b ∈ [z, TI, TO, i1, i2], H' b = none) := fun h2 zz sb => by
        have hT2 : h2.get? s.heap.objs.size = some { cls := .type "tuple", data := .seq #[v1, v2] } := (sb.2 _ (Nat.ne_of_gt hzl)).trans hT
        have new : ObjOk X.prog X.w (upd H s.heap.objs.size (.tup [x, y])) h2 s.heap.objs.size (.tup [x, y]) := ⟨(by decide : 2 ≤ sizeLine), [v1, v2], .cons ru (.cons ru2 .nil), ⟨_, hT2, rfl, _, rfl⟩⟩
        have J : Inv X pins σ (upd H s.heap.objs.size (.tup [x, y])) { s with heap := h2, toks := tk } := I.turnedNew (ch := [z, TI, TO, i1, i2])
          (fun c o hb q => (sb.2 c (fun m => hb (by simp [m]))).trans (hk c o (fun m => hb (by simp [m])) (fun m => hb (by simp [m])) (fun m => hb (by simp [m])) (fun m => hb (by simp [m])) q)) hf (Nat.le_refl _) new
        refine ⟨.ref s.heap.objs.size, _, J, rfl, ⟨_, x, y, rfl, I.hok.fresh (Nat.le_refl _), rfl, fun l hl => sq_inj I hl hqx ▸ hx, fun l hl => sq_inj I hl hqy ▸ hy⟩, ⟨zz, (sb.2 _ S.TIz).trans (hk _ _ S.TIz S.TITO S.TIi1 S.TIi2 hTI), ⟨v1, v2, (sb.2 _ S.TOz).trans TOq⟩,
          n1.1.at fun o q => (sb.2 _ (Ne.symm S.zi1)).trans q, n2.1.at fun o q => (sb.2 _ (Ne.symm S.zi2)).trans q⟩, fun c hcm => ?_⟩
        have lt : c < s.heap.objs.size := by
          have m : c = z ∨ c = TI ∨ c = TO ∨ c = i1 ∨ c = i2 := by simpa using hcm
          rcases m with m | m | m | m | m <;> rw [m]
          · exact hzl
          · exact Heap.lt_size hTI
          · exact Heap.lt_size hTO
          · obtain ⟨_, e, _⟩ := h1.obj; exact Heap.lt_size e
          · obtain ⟨_, e, _⟩ := h2'.obj; exact Heap.lt_size e
        rw [upd_ne (Nat.ne_of_lt lt)]
        exact (hf c hcm).1
      cases st with
      | true => exact zsGo (s := { s with heap := h', toks := tk }) zq fun h2 zz sb => rest h2 zz sb
      | false => exact wpAny_letOwnedTupleGo_zip (s := { s with heap := h', toks := tk }) zq fun h2 zz sb => rest h2 zz sb
    cases st with
    | true =>
      have sz : its2.toArray.size = its.toArray.size := by
        rw [List.size_toArray, List.size_toArray, ← rv2.length, ← rv.length, hl rfl]
      rw [sz] at D2
      exact zsNext_item S D1 D2 hz hTI hTO ⟨h1, p⟩ ⟨h2', p2⟩ hi1 fun v1 v2 h' tk e1 e2 zq TOq n1 n2 hT _ hk => fin v1 v2 h' tk e1 e2 zq TOq n1 n2 hT hk
    | false => exact wpAny_pyNext_zipD2_item S D1 D2 hz hTI hTO ⟨h1, p⟩ ⟨h2', p2⟩ hi1 hi2 fun v1 v2 h' tk e1 e2 zq TOq n1 n2 hT _ hk => fin v1 v2 h' tk e1 e2 zq TOq n1 n2 hT hk
  done := by
    intro X hP hw hK hc i pins s σ H E I hf q ⟨xs, ys, hqx, hqy, l1, l2, hend, hl⟩
    subst hP hw hK
    obtain ⟨hz, hTI, ⟨x0, y0, hTO⟩, h1, h2⟩ := q
    obtain ⟨its, rv, p⟩ := sq_get I hqx
    obtain ⟨its2, rv2, p2⟩ := sq_get I hqy
    have D1 := draws (prog := X.prog) (w := X.w) (A := X.A.in1) (I.ok.hd hc) b1 i1 a1 na its.toArray
    have D2 := draws (prog := X.prog) (w := X.w) (A := X.A.in1) (I.ok.hd hc) b2 i2 a2 nb its2.toArray
    have z1 : its.toArray.size = xs.length := by rw [List.size_toArray, rv.length]
    have z2 : its2.toArray.size = ys.length := by rw [List.size_toArray, rv2.length]
    have fin : ∀ h' tk, (∀ c o, c ≠ z → c ≠ TO → c ≠ i1 → c ≠ i2 → s.heap.get? c = some o → h'.get? c = some o) → Inv X pins σ H { s with heap := h', toks := tk } := fun h' tk hk =>
      I.turnedL (ch := [z, TI, TO, i1, i2]) (fun c o hb q => hk c o (fun m => hb (by simp [m])) (fun m => hb (by simp [m])) (fun m => hb (by simp [m])) (fun m => hb (by simp [m])) q) hf
    cases st with
    | true =>
      have e1 : i = its.toArray.size := by have := hl rfl; omega
      have e2 : its2.toArray.size = its.toArray.size := by have := hl rfl; omega
      rw [e2] at D2
      exact zsNext_end (I.ok.hd hc) S D1 D2 hz hTI hTO (e1 ▸ ⟨h1, p⟩) (e1 ▸ ⟨h2, p2⟩) fun h' tk hk => ⟨rfl, fin h' tk hk⟩
    | false => exact wpAny_pyNext_zipD2_end S D1 D2 hz hTI hTO ⟨h1, p⟩ ⟨h2, p2⟩ (by omega) (by omega) (by omega) fun h' tk hk => ⟨rfl, fin h' tk hk⟩
  self := fun A i s Q E q h => by
    cases st with
    | true => exact zsIter q.1 h
    | false => exact wpAny_pyIter_zip q.1 h
end Fz
/-! FzHe: zip as what a for or a comprehension walks. -/
namespace Fz
open PySem PySem.Spec PyProof.Rows L2
theorem not2 {a b c : Nat} (h1 : a ≠ b) (h2 : a ≠ c) : a ∉ [b, c] := fun h => by
  rcases List.mem_cons.mp h with e | h
  · exact h1 e
  · exact h2 (List.mem_singleton.mp h)
theorem sep_new {n a1 a2 : Nat} (h1 : a1 < n) (h2 : a2 < n) : ZipSep2 (n + 4) (n + 2) (n + 3) n (n + 1) [n, a1] [n + 1, a2] where
  TIz := (by omega : (n + 2 : Nat) ≠ n + 4)
  TOz := (by omega : (n + 3 : Nat) ≠ n + 4)
  TITO := (by omega : (n + 2 : Nat) ≠ n + 3)
  TIi1 := (by omega : (n + 2 : Nat) ≠ n)
  mem1 := by simp
  zf1 := not2 (by omega) (by omega)
  Tf1 := not2 (by omega) (by omega)
  TIi2 := (by omega : (n + 2 : Nat) ≠ n + 1)
  mem2 := by simp
  zf2 := not2 (by omega) (by omega)
  Tf2 := not2 (by omega) (by omega)
  sep1_2 := not2 (by omega) (by omega)
  sep2_1 := not2 (by omega) (by omega)
section
variable {X : Cx} {G : Gx}
def iZipG (st : Bool) (K : PySem.W.Frag) (ta : TA) : TI := fun σ H R => ta σ H fun vs H1 => ∃ b1 b2 a1 a2 xs ys, vs = [.ref a1, .ref a2] ∧ Sq b1 K H1 a1 xs ∧ Sq b2 K H1 a2 ys ∧ R (ItZ st b1 b2 K a1 a2) H1
theorem zip_made {st b1 b2 : Bool} {elts : List Expr} {kk : Nat} {tpos : Pos} {pins : List (Addr × Obj)} {σ : L2.St} {H1 : Hp} {s1 : Shared} {R : It → Hp → Prop} {a1 a2 : Addr} {its its2 : List Value} (I1 : Inv X pins σ H1 s1) (p1 : SqAt b1 s1.heap a1 its.toArray) (p2 : SqAt b2 s1.heap a2 its2.toArray) (q : R (ItZ st b1 b2 X.K a1 a2) H1)
    {h' : Heap} (hz : IsZS st h' (s1.heap.objs.size + 4) (s1.heap.objs.size + 2) (s1.heap.objs.size + 3) .none) (hTI : IsTupOf2 h' (s1.heap.objs.size + 2) (.ref s1.heap.objs.size) (.ref (s1.heap.objs.size + 1))) (hTO : IsTupOf2 h' (s1.heap.objs.size + 3) .none .none)
    (g1 : h'.get? s1.heap.objs.size = some (itO b1 a1)) (g2 : h'.get? (s1.heap.objs.size + 1) = some (itO b2 a2)) (hk : ∀ c o, s1.heap.get? c = some o → h'.get? c = some o) :
    PIE X pins σ (.Tuple elts kk tpos) R (.ref (s1.heap.objs.size + 4)) { s1 with heap := h' } := by
  have l1 := sq_lt p1
  have l2 := sq_lt p2
  have J : Inv X pins σ H1 { s1 with heap := h' } := I1.kept (t' := s1.toks) hk
  refine ⟨s1.heap.objs.size + 4, [s1.heap.objs.size + 4, s1.heap.objs.size + 2, s1.heap.objs.size + 3, s1.heap.objs.size, s1.heap.objs.size + 1], _, _, H1, rfl, J,
    turn_zipG st b1 b2 (sep_new (n := s1.heap.objs.size) l1 l2) (Nat.ne_of_lt l1) (Nat.ne_of_lt (Nat.lt_succ_of_lt l2)), ⟨hz, hTI, ⟨_, _, hTO⟩, .mk g1, .mk g2⟩, fun c hc => ?_, q⟩
  have y : c = s1.heap.objs.size + 4 ∨ c = s1.heap.objs.size + 2 ∨ c = s1.heap.objs.size + 3 ∨ c = s1.heap.objs.size ∨ c = s1.heap.objs.size + 1 := by simpa using hc
  have le : s1.heap.objs.size ≤ c := by
    rcases y with y | y | y | y | y <;> rw [y] <;> first | exact Nat.le_add_right _ _ | exact Nat.le_refl _
  exact I1.fpOk le (I1.hok.fresh le)
theorem pi_zipN {e e2 : Expr} {ta : TA} {p pos tpos : Pos} {elts : List Expr} {kk : Nat} (hg : Gl X "zip") (hm : X.mg "zip" = none) (ha : PA X [e, e2] ta) (hs : starEach [e, e2] X.env = (false, eval e X.env) :: starEach [e2] X.env) (hpl : (backTo pos (starEach [e2] X.env)).any (·.1) = false) :
    PI X (.Tuple elts kk tpos) (.Call (.Name "zip" p) [e, e2] [] pos) (iZipG false X.K ta) := by
  refine ⟨fun pins s σ H R I h => Call_ (ld_blt I hg hm PyProof.Rows.boot_zip (PyProof.Rows.callWith_type1 (thn (ha.run pos pins s σ H _ I h) fun us s1 ⟨vs, H1, I1, r1, b1, b2, a1, a2, xs, ys, ex, hqx, hqy, q⟩ => ?_) hs hpl))⟩
  subst ex
  obtain ⟨w1, w2, rfl, r, r'⟩ := vals2 r1
  cases r
  cases r'
  obtain ⟨its, rv, p1⟩ := sq_get I1 hqx
  obtain ⟨its2, rv2, p2⟩ := sq_get I1 hqy
  exact zip_begins2 (begins b1 a1 its.toArray) (begins b2 a2 its2.toArray) p1 p2 fun h' hz hTI hTO g1 g2 _ hk => wpAny_pyIter_zip hz (zip_made I1 p1 p2 q hz hTI hTO g1 g2 hk)
theorem pi_zipS {e e2 : Expr} {ta : TA} {p pos tpos p3 kpos : Pos} {elts : List Expr} {kk j : Nat} (hg : Gl X "zip") (hm : X.mg "zip" = none) (ha : PA X [e, e2] ta) (hs : starEach [e, e2] X.env = (false, eval e X.env) :: starEach [e2] X.env) (hpl : (backTo pos (starEach [e, e2] X.env)).any (·.1) = false) :
    PI X (.Tuple elts kk tpos) (.Call (.Name "zip" p) [e, e2] [⟨some "strict", .Constant (.bool true) j p3, kpos⟩] pos) (iZipG true X.K ta) := by
  have pk : PK X [⟨some "strict", .Constant (.bool true) j p3, kpos⟩] (tCons (tC (.bl true)) tNil) := pk_cons pe_bl pk_nil
  refine ⟨fun pins s σ H R I h => wpAny_Call_Name_kw (ld_blt I hg hm PyProof.Rows.boot_zip (callWith_kwT (thn (ha.run pos pins s σ H _ I h) fun us s1 ⟨vs, H1, I1, r1, b1, b2, a1, a2, xs, ys, ex, hqx, hqy, q⟩ =>
    thn (pk.run pos pins s1 σ H1 (fun zs H2 => zs = [.bl true] ∧ H2 = H1) I1 ⟨rfl, rfl⟩) fun ws s2 ⟨zs, H2, I2, r2, e3, e4⟩ => ?_) (by rw [hs]; rfl) hpl rfl rfl))⟩
  subst ex e3 e4
  obtain ⟨w1, w2, rfl, r, r'⟩ := vals2 r1
  cases r
  cases r'
  obtain ⟨w3, rfl, r3⟩ := vals1 r2
  cases r3
  obtain ⟨its, rv, p1⟩ := sq_get I2 hqx
  obtain ⟨its2, rv2, p2⟩ := sq_get I2 hqy
  exact call_zipS (begins b1 a1 its.toArray) (begins b2 a2 its2.toArray) p1 p2 fun h' hz hTI hTO g1 g2 hk => zsIter hz (zip_made I2 p1 p2 q hz hTI hTO g1 g2 hk)
theorem zipL_get : ∀ (xs ys : List D) (i : Nat) (d e : D), xs[i]? = some d → ys[i]? = some e → (zipL xs ys)[i]? = some (.tuple [d, e])
  | x :: r, y :: q, 0, d, e, h1, h2 => by cases h1; cases h2; rfl
  | x :: r, y :: q, i + 1, d, e, h1, h2 => by
    rw [zipL, List.getElem?_cons_succ]
    exact zipL_get r q i d e h1 h2
  | [], _, i, d, e, h1, _ => by simp at h1
  | _ :: _, [], i, d, e, _, h2 => by simp at h2
theorem zipL_len : ∀ (xs ys : List D), (zipL xs ys).length = min xs.length ys.length
  | x :: r, y :: q => by rw [zipL, List.length_cons, List.length_cons, List.length_cons, zipL_len r q]; omega
  | [], ys => by simp [zipL]
  | _ :: _, [] => by simp [zipL]
theorem walk_zipG {st b1 b2 : Bool} {a1 a2 : Addr} {F1 : Hp} {vs us : List V} {xs ys : List D} (ra : RpA G.K G.sp F1 vs xs) (rb : RpA G.K G.sp F1 us ys) (hst : st = true → xs.length = ys.length) :
    Walk (ItZ st b1 b2 G.K a1 a2) (zipL xs ys).length (fun H => Sq b1 G.K H a1 vs ∧ Sq b2 G.K H a2 us) (Yd G F1 (zipL xs ys)) := by
  have la := ra.length
  have lb := rb.length
  rw [zipL_len]
  refine ⟨fun i H hi q => ⟨vs, us, vs[i]'(by omega), us[i]'(by omega), q.1, q.2, by simp, by simp, fun z => by rw [la, lb, hst z]⟩, fun H q => ⟨vs, us, q.1, q.2, by omega, by omega, by omega, fun z => by rw [la, lb, hst z]⟩, fun i H v H' hi q ⟨T, x, y, e1, e2, e3, e4, e5⟩ => ?_⟩
  obtain ⟨d, hd, rx⟩ := ra.getV (e4 vs q.1)
  obtain ⟨e, he, ry⟩ := rb.getV (e5 us q.2)
  subst e1 e3
  refine ⟨_, zipL_get xs ys i d e hd he, fun F s h1 h2 h3 _ _ => ⟨_, Fw.lay h2 h3 e2, .tup upd_same ?_⟩⟩
  have m := h1.trans (Same.upd' (h2.free e2) (o := .tup [x, y]))
  exact .cons (rx.mono m) (.cons (ry.mono m) .nil)
/-- a list or a tuple, read -/
theorem sq_of {K : PySem.W.Frag} {sp cc : Addr} {F H : Hp} {x : V} {d : D} {ys : List D} (h : Rb K sp cc F H x d) (e : Same F H) (hs : seqOf d = some ys) : ∃ b a vs, x = .ref a ∧ Sq b K H a vs ∧ RpA K sp F vs ys := by
  cases d with
  | list zs =>
    cases hs
    obtain ⟨a, vs, rfl, q, _, _, ra⟩ := h
    exact ⟨false, a, vs, rfl, SqL.of q, ra⟩
  | tuple zs =>
    cases hs
    obtain ⟨a, vs, rfl, q, ra⟩ := h.tuple
    exact ⟨true, a, vs, rfl, sqT_same e q, ra⟩
  | _ => cases hs
/-- .. that is frozen, or as it is kept -/
theorem sq_ofP {K : PySem.W.Frag} {sp : Addr} {F : Hp} {x : V} {d : D} {ys : List D} (h : Rp K sp F x d) (hs : seqOf d = some ys) : ∃ b a vs, x = .ref a ∧ (∀ H', Same F H' → Sq b K H' a vs) ∧ RpA K sp F vs ys := by
  cases d with
  | list zs =>
    cases hs
    cases h with
    | lst q ra => exact ⟨false, _, _, rfl, fun H' e => SqL.of (e _ _ q), ra⟩
  | tuple zs =>
    cases hs
    obtain ⟨a, vs, rfl, q, ra⟩ := h.tuple
    exact ⟨true, a, vs, rfl, fun H' e => sqT_same e q, ra⟩
  | _ => cases hs
theorem sq_ofB {K : PySem.W.Frag} {sp cc : Addr} {F H : Hp} {x : V} {d : D} {ys : List D} (h : Rb K sp cc F H x d) (e : Same F H) (hs : seqOf d = some ys) : ∃ b a vs, x = .ref a ∧ (∀ F' H' s', Fw sp cc F H F' H' s' → Sq b K H' a vs) ∧ RpA K sp F vs ys := by
  cases d with
  | list zs =>
    cases hs
    obtain ⟨a, vs, rfl, q, n1, n2, ra⟩ := h
    exact ⟨false, a, vs, rfl, fun F' H' s' f => SqL.of (f.keep _ _ q n1 n2), ra⟩
  | tuple zs =>
    cases hs
    obtain ⟨a, vs, rfl, q, ra⟩ := h.tuple
    exact ⟨true, a, vs, rfl, fun F' H' s' f => sqT_same (f.fr.trans f.sub) q, ra⟩
  | _ => cases hs
theorem okI_zip {st : Bool} {a b : E} {ea eb : Expr} {p pos tpos p3 kpos : Pos} {elts : List Expr} {kk j : Nat} (hK : X.K = G.K) (hg : Gl X "zip") (hm : X.mg "zip" = none) (h1 : isStarX ea = false) (h2 : isStarX eb = false) (ha : OkE X G a ea) (hb : OkE X G b eb) :
    PI X (.Tuple elts kk tpos) (.Call (.Name "zip" p) [ea, eb] (if st then [⟨some "strict", .Constant (.bool true) j p3, kpos⟩] else []) pos) (RdI G (.zip a b st)) := by
  have hs : starEach [ea, eb] X.env = (false, eval ea X.env) :: starEach [eb] X.env := starEach_no h1 _ _
  have n2 : (backTo pos (starEach [eb] X.env)).any (·.1) = false := by rw [starEach_no h2]; rfl
  have n1 : (backTo pos (starEach [ea, eb] X.env)).any (·.1) = false := by rw [starEach_no h1, starEach_no h2]; rfl
  have pz : ∀ {ta : TA}, PA X [ea, eb] ta → PI X (.Tuple elts kk tpos) (.Call (.Name "zip" p) [ea, eb] (if st then [⟨some "strict", .Constant (.bool true) j p3, kpos⟩] else []) pos) (iZipG st X.K ta) := fun {ta} h => by
    cases st with
    | true => exact pi_zipS hg hm h hs n1
    | false => exact pi_zipN hg hm h hs n2
  refine ⟨fun pins sh σ H R I ⟨g, en, F, s, d, xs, s', Rr, off, he, hq, k⟩ => ?_⟩
  obtain ⟨d1, s1, e1, e2⟩ := bnd_some he
  obtain ⟨d2, s2, e3, e4⟩ := bnd_some e2
  obtain ⟨e5, rfl⟩ := lift_some e4
  obtain ⟨ys, q1, e6⟩ := Option.bind_eq_some_iff.mp e5
  obtain ⟨zs, q2, e7⟩ := Option.bind_eq_some_iff.mp e6
  obtain ⟨hst, rfl⟩ := if_some e7
  cases hq
  have hst2 : st = true → ys.length = zs.length := fun z => by
    rw [z] at hst
    simpa using hst
  by_cases ho : Off g (lk a ++ lk b)
  · refine (pz (pa_cons ha.V (pa_cons hb.V pa_nil (starEach_no h2 _ _)) hs)).run pins sh σ H R I ⟨g, en, F, s, d1, s1, Rr, ho.l, e1, fun x F1 H1 f1 r1 => ⟨g, en, F1, s1, d2, s', Rr.step f1, ho.r, e3, fun y F2 H2 f2 r2 => ?_⟩⟩
    obtain ⟨b1, a1, vs, rfl, c1, ra⟩ := sq_ofP (r1.mono f2.fr) q1
    obtain ⟨b2, a2, us, rfl, c2, rb⟩ := sq_ofP r2 q2
    have f := f1.trans f2
    exact ⟨b1, b2, a1, a2, vs, us, rfl, hK ▸ c1 _ f.sub, hK ▸ c2 _ f.sub, hK ▸ k _ F2 H2 _ f (walk_zipG ra rb hst2) (fun _ H'' z => ⟨c1 _ z, c2 _ z⟩) fun F'' H'' s'' f3 => ⟨c1 _ (f3.fr.trans f3.sub), c2 _ (f3.fr.trans f3.sub)⟩⟩
  · refine (pz (pa_cons ha.B (pa_cons hb.B pa_nil (starEach_no h2 _ _)) hs)).run pins sh σ H R I ⟨g, en, F, s, d1, s1, Rr, off.l, e1, fun x F1 H1 f1 r1 => ⟨g, en, F1, s1, d2, s', Rr.step f1, off.r, e3, fun y F2 H2 f2 r2 => ?_⟩⟩
    obtain ⟨b1, a1, vs, rfl, c1, ra⟩ := sq_ofB (r1.step f2) f2.sub q1
    obtain ⟨b2, a2, us, rfl, c2, rb⟩ := sq_ofB r2 f2.sub q2
    have f := f1.trans f2
    have z := Fw.refl f2.sub f2.src
    exact ⟨b1, b2, a1, a2, vs, us, rfl, hK ▸ c1 _ _ _ z, hK ▸ c2 _ _ _ z, hK ▸ k _ F2 H2 _ f (walk_zipG ra rb hst2) (fun z => absurd z ho) fun F'' H'' s'' f3 => ⟨c1 _ _ _ f3, c2 _ _ _ f3⟩⟩
end
end Fz
/-! FzHf: a strict zip that is walked by another iterator: its tuple may be out still. -/
namespace Fz
open PySem PySem.Spec PyProof.Rows L2
abbrev IsZG (h : Heap) (z TI TO : Addr) (f : Value) (fl : Bool) : Prop := h.get? z = some { cls := .type "zip", dict := none, data := .fields #[f, .bool fl, .bool true, .ref TI, .ref TO], slots := #[] }
/-- no tuple is out, or one was -/
def OwnV (f : Value) : Prop := f = .none ∨ ∃ T : Addr, f = rawInt T
section
variable {prog : Program} {w : World} {A : Around} {E : Value → Shared → Prop} {s : Shared} {z TI TO i1 i2 : Addr} {fp1 fp2 : List Addr} {n i : Nat} {P1 P2 : Nat → Value → Prop} {St1 St2 : Nat → Heap → Prop} {a1 a2 : Value} {f0 : Value} {fl : Bool}
theorem aliveG {a : Addr} {Q : Option Obj → Shared → Prop} (h : Q (s.heap.get? a) s) : wpAny (model prog w) A (loadIfAlive a) Q E s := fun _ _ _ => h
theorem isFreeG {Q : Bool → Shared → Prop} (hz : IsZG s.heap z TI TO f0 fl) (hf : OwnV f0) (kf : Q true s) (kh : ∀ (T : Addr) h', f0 = rawInt T → IsZG h' z TI TO f0 true → Heap.SameBut z s.heap h' → Q false { s with heap := h' }) :
    wpAny (model prog w) A (Builtin.SmallTypes.ownedTupleIsFree (.ref z)) Q E s := by
  unfold Builtin.SmallTypes.ownedTupleIsFree
  rcases hf with rfl | ⟨T, rfl⟩
  · exact wpAny_bind (wpAny_field hz rfl (x := .none) rfl (wpAny_pure kf))
  · refine wpAny_bind (wpAny_field hz rfl (x := rawInt T) rfl ?_)
    show wpAny _ _ (loadIfAlive ((T : Int).toNat) >>= _) _ _ _
    rw [Int.toNat_natCast]
    refine wpAny_bind (aliveG ?_)
    cases hT : s.heap.get? T with
    | none =>
      simp only [Option.isNone_none, if_true]
      exact wpAny_pure kf
    | some oT =>
      simp only [Option.isNone_some, Bool.false_eq_true, if_false]
      refine wpAny_bind (wpAny_field hz rfl (x := .bool fl) rfl ?_)
      cases fl with
      | true =>
        rw [if_neg (show ¬ ((Value.bool true != Value.bool true) = true) from Bool.false_ne_true)]
        exact wpAny_pure (kh T s.heap rfl hz (Heap.SameBut.refl _ _))
      | false =>
        rw [if_pos (show (Value.bool false != Value.bool true) = true from rfl)]
        exact wpAny_bind (wpAny_setField_rec hz (by simp) fun h1 hz1 hs1 => wpAny_pure (kh T h1 rfl hz1 hs1))
theorem zg_item {Q : Value → Shared → Prop} (S : ZipSep2 z TI TO i1 i2 fp1 fp2) (D1 : Draws prog w A i1 fp1 n P1 St1) (D2 : Draws prog w A i2 fp2 n P2 St2) (hz : IsZG s.heap z TI TO f0 fl) (hf : OwnV f0) (hTI : IsTupOf2 s.heap TI (.ref i1) (.ref i2)) (hTO : IsTupOf2 s.heap TO a1 a2)
    (s1 : St1 i s.heap) (s2 : St2 i s.heap) (hi : i < n)
    (k : ∀ x1 x2 h' tk, P1 i x1 → P2 i x2 → (∃ f0 fl, IsZG h' z TI TO f0 fl ∧ OwnV f0) → (∃ a b, IsTupOf2 h' TO a b) → St1 (i + 1) h' → St2 (i + 1) h' → IsTupOf2 h' s.heap.objs.size x1 x2 → h'.objs.size = s.heap.objs.size + 1 →
      (∀ c o, c ≠ z → c ≠ TO → c ≠ i1 → c ≠ i2 → s.heap.get? c = some o → h'.get? c = some o) → Q (.ref s.heap.objs.size) { s with heap := h', toks := tk }) :
    wpAny (model prog w) A (Builtin.«zip.__next__» ⟨[.ref z], []⟩) (fun fin s' => ∃ v, fin = .done (.ret v) ∧ Q v s') E s := by
  obtain ⟨hp, g, d, t0, os⟩ := s
  show wpAny _ _ (field (.ref z) 2 >>= _) _ _ _
  refine wpAny_bind (wpAny_field hz rfl (x := .bool true) rfl ?_)
  show wpAny _ _ (field (.ref z) 3 >>= _) _ _ _
  refine wpAny_bind (wpAny_field hz rfl (x := .ref TI) rfl (wpAny_bind (wpAny_seqItems hTI rfl ?_)))
  show wpAny _ _ (Builtin.SmallTypes.ownedTupleIsFree (.ref z) >>= _) _ _ _
  refine wpAny_bind (isFreeG hz hf ?free fun T h1 hT hz1 hs1 => ?held)
  case free =>
    simp only [if_true]
    refine wpAny_bind (wpAny_rule (wpAny_bind (wpAny_field hz rfl (x := .ref TO) rfl (wpAny_bind (wpAny_setField_rec hz (by simp) fun g0 k0 b0 => ?_)))))
    have hz0 : IsZG g0 z TI TO .ellipsis fl := k0
    have hs0 : Heap.SameBut z hp g0 := b0
    clear k0 b0
    refine wpAny_bind ?_
    simp only [List.zipIdx_cons, List.zipIdx_nil, List.forIn_cons, List.forIn_nil]
    refine wpAny_bind (wpAny_bind (wpAny_onRaise ?_))
    show wpAny _ _ (Builtin.SmallTypes.nextOrEnd (.ref i1)) _ _ ⟨g0, g, d, t0, os⟩
    refine drawOr D1 hi (D1.over s1 hs0 S.zf1) fun x1 p1 t1 hx1 n1 q1 => ?_
    have hp1 : Heap.SameBut i1 g0 p1 := q1
    clear q1
    have u1 : IsTupOf2 p1 TO a1 a2 := hp1.extBut _ _ S.Ti1 (hs0.extBut _ _ S.TOz hTO)
    refine wpAny_bind (wpAny_seqItems (s := ⟨p1, g, d, t1, os⟩) u1 rfl (wpAny_bind (updateSeq_IsTupOf2 (s := ⟨p1, g, d, t1, os⟩) u1 fun g1 c1 e1 => ?_)))
    have hT1 : IsTupOf2 g1 TO x1 a2 := c1
    have hs1 : Heap.SameBut TO p1 g1 := e1
    clear c1 e1
    refine wpAny_bind (wpAny_letGo (wpAny_pure (wpAny_bind (wpAny_bind (wpAny_onRaise ?_)))))
    show wpAny _ _ (Builtin.SmallTypes.nextOrEnd (.ref i2)) _ _ ⟨g1, g, d, t1, os⟩
    refine drawOr D2 hi (D2.over (D2.over (D2.over s2 hs0 S.zf2) hp1 S.sep1_2) hs1 S.Tf2) fun x2 p2 t2 hx2 n2 q2 => ?_
    have hp2 : Heap.SameBut i2 g1 p2 := q2
    clear q2
    have u2 : IsTupOf2 p2 TO x1 a2 := hp2.extBut _ _ S.Ti2 hT1
    refine wpAny_bind (wpAny_seqItems (s := ⟨p2, g, d, t2, os⟩) u2 rfl (wpAny_bind (updateSeq_IsTupOf2 (s := ⟨p2, g, d, t2, os⟩) u2 fun g2 c2 e2 => ?_)))
    have hT2 : IsTupOf2 g2 TO x1 x2 := c2
    have hs2 : Heap.SameBut TO p2 g2 := e2
    clear c2 e2
    refine wpAny_bind (wpAny_letGo (wpAny_pure (wpAny_pure ?_)))
    refine wpAny_bind (wpAny_seqItems (s := ⟨g2, g, d, t2, os⟩) hT2 rfl (wpAny_bind (wpAny_newTuple ?_)))
    have sz : g2.objs.size = hp.objs.size := by rw [hs2.1, hp2.1, hs1.1, hp1.1, hs0.1]
    have zz : IsZG g2 z TI TO .ellipsis fl := hs2.extBut _ _ S.TOz.symm (hp2.extBut _ _ S.zi2 (hs1.extBut _ _ S.TOz.symm (hp1.extBut _ _ S.zi1 hz0)))
    have kk : ∀ c o, c ≠ z → c ≠ TO → c ≠ i1 → c ≠ i2 → hp.get? c = some o → g2.get? c = some o := fun c o cz cT c1 c2 e => hs2.extBut _ _ cT (hp2.extBut _ _ c2 (hs1.extBut _ _ cT (hp1.extBut _ _ c1 (hs0.extBut _ _ cz e))))
    have j1 : St1 (i + 1) g2 := D1.over (D1.over (D1.over n1 hs1 S.Tf1) hp2 S.sep2_1) hs2 S.Tf1
    have j2 : St2 (i + 1) g2 := D2.over n2 hs2 S.Tf2
    have lt : z < g2.objs.size := Heap.lt_size zz
    show wpAny _ _ (Builtin.SmallTypes.ownedTupleHandOut (.ref z) (.ref g2.objs.size) >>= _) _ _ ⟨g2.push { cls := .type "tuple", data := .seq #[x1, x2] }, g, d, t2, os⟩
    refine wpAny_bind ?_
    unfold Builtin.SmallTypes.ownedTupleHandOut
    have z6 : IsZG (g2.push { cls := .type "tuple", data := .seq #[x1, x2] }) z TI TO .ellipsis fl := Heap.get?_push_of_some _ zz
    refine wpAny_bind (wpAny_setField_rec z6 (by simp) fun h7 c7 e7 => ?_)
    have z7 : IsZG h7 z TI TO (rawInt g2.objs.size) fl := c7
    have m7 : Heap.SameBut z (g2.push { cls := .type "tuple", data := .seq #[x1, x2] }) h7 := e7
    clear c7 e7
    refine wpAny_setField_rec z7 (by simp) fun h8 c8 e8 => ?_
    have z8 : IsZG h8 z TI TO (rawInt g2.objs.size) false := c8
    have m8 : Heap.SameBut z h7 h8 := e8
    clear c8 e8
    have up : ∀ c o, c ≠ z → g2.get? c = some o → h8.get? c = some o := fun c o c1 e => m8.extBut _ _ c1 (m7.extBut _ _ c1 (Heap.get?_push_of_some _ e))
    have t8 : IsTupOf2 h8 g2.objs.size x1 x2 := m8.extBut _ _ (Nat.ne_of_gt lt) (m7.extBut _ _ (Nat.ne_of_gt lt) (Heap.get?_push_size _ rfl))
    have l8 : h8.objs.size = g2.objs.size + 1 := by rw [m8.1, m7.1, Heap.size_push]
    rw [sz] at z8 t8 l8
    refine wpAny_pure ⟨_, rfl, ?_⟩
    show Q (.ref g2.objs.size) ⟨h8, g, d, t2, os⟩
    rw [sz]
    exact k x1 x2 h8 t2 hx1 hx2 ⟨_, _, z8, .inr ⟨_, rfl⟩⟩ ⟨_, _, up _ _ S.TOz hT2⟩ (D1.frame _ _ _ j1 fun b hb o e => up b o (fun q => S.zf1 (q ▸ hb)) e) (D2.frame _ _ _ j2 fun b hb o e => up b o (fun q => S.zf2 (q ▸ hb)) e) t8 l8 fun c o cz cT c1 c2 e => up c o cz (kk c o cz cT c1 c2 e)
  case held =>
    simp only [Bool.false_eq_true, if_false]
    refine wpAny_bind ?_
    rw [← Array.forIn_toList]
    simp only [List.forIn_cons, List.forIn_nil]
    refine wpAny_bind (wpAny_bind (wpAny_holding ?_))
    show wpAny _ _ (Builtin.SmallTypes.nextOrEnd (.ref i1)) _ _ ⟨h1, g, d, t0, os⟩
    refine drawOr D1 hi (D1.over s1 hs1 S.zf1) fun x1 p1 t1 hx1 n1 q1 => ?_
    have hp1 : Heap.SameBut i1 h1 p1 := q1
    refine wpAny_pure ?_
    refine wpAny_bind (wpAny_bind (wpAny_holding ?_))
    show wpAny _ _ (Builtin.SmallTypes.nextOrEnd (.ref i2)) _ _ ⟨p1, g, d, t1, os⟩
    refine drawOr D2 hi (D2.over (D2.over s2 hs1 S.zf2) hp1 S.sep1_2) fun x2 p2 t2 hx2 n2 q2 => ?_
    have hp2 : Heap.SameBut i2 p1 p2 := q2
    refine wpAny_pure (wpAny_pure ?_)
    show wpAny _ _ (newTuple [x1, x2] >>= _) _ _ ⟨p2, g, d, t2, os⟩
    refine wpAny_bind (wpAny_newTuple ?_)
    have sz : p2.objs.size = hp.objs.size := by rw [hp2.1, hp1.1, hs1.1]
    have zz : IsZG p2 z TI TO f0 true := hp2.extBut _ _ S.zi2 (hp1.extBut _ _ S.zi1 hz1)
    have kk : ∀ c o, c ≠ z → c ≠ TO → c ≠ i1 → c ≠ i2 → hp.get? c = some o → p2.get? c = some o := fun c o cz _ c1 c2 e => hp2.extBut _ _ c2 (hp1.extBut _ _ c1 (hs1.extBut _ _ cz e))
    have uT : IsTupOf2 p2 TO a1 a2 := hp2.extBut _ _ S.Ti2 (hp1.extBut _ _ S.Ti1 (hs1.extBut _ _ S.TOz hTO))
    have j1 : St1 (i + 1) p2 := D1.over n1 hp2 S.sep2_1
    have t8 : IsTupOf2 (p2.push { cls := .type "tuple", data := .seq #[x1, x2] }) p2.objs.size x1 x2 := Heap.get?_push_size _ rfl
    have l8 : (p2.push { cls := .type "tuple", data := .seq #[x1, x2] }).objs.size = p2.objs.size + 1 := Heap.size_push ..
    refine wpAny_pure ⟨_, rfl, ?_⟩
    show Q (.ref p2.objs.size) ⟨p2.push { cls := .type "tuple", data := .seq #[x1, x2] }, g, d, t2, os⟩
    rw [sz] at t8 l8 ⊢
    exact k x1 x2 _ t2 hx1 hx2 ⟨_, _, Heap.get?_push_of_some _ zz, .inr ⟨T, hT⟩⟩ ⟨_, _, Heap.get?_push_of_some _ uT⟩ (D1.frame _ _ _ j1 fun b hb o e => Heap.get?_push_of_some _ e) (D2.frame _ _ _ n2 fun b hb o e => Heap.get?_push_of_some _ e) t8 l8
      fun c o cz cT c1 c2 e => Heap.get?_push_of_some _ (kk c o cz cT c1 c2 e)
theorem zg_end {Q : Fin → Shared → Prop} (hh : A.handled = none) (S : ZipSep2 z TI TO i1 i2 fp1 fp2) (D1 : Draws prog w A i1 fp1 n P1 St1) (D2 : Draws prog w A i2 fp2 n P2 St2) (hz : IsZG s.heap z TI TO f0 fl) (hf : OwnV f0) (hTI : IsTupOf2 s.heap TI (.ref i1) (.ref i2)) (hTO : IsTupOf2 s.heap TO a1 a2)
    (s1 : St1 n s.heap) (s2 : St2 n s.heap)
    (k : ∀ h' tk e, (∀ c o, c ≠ z → c ≠ TO → c ≠ i1 → c ≠ i2 → s.heap.get? c = some o → h'.get? c = some o) → (∃ o, h'.get? e = some o ∧ o.cls = .type "StopIteration") → E (.ref e) { s with heap := h', toks := tk }) :
    wpAny (model prog w) A (Builtin.«zip.__next__» ⟨[.ref z], []⟩) Q E s := by
  obtain ⟨hp, g, d, t0, os⟩ := s
  show wpAny _ _ (field (.ref z) 2 >>= _) _ _ _
  refine wpAny_bind (wpAny_field hz rfl (x := .bool true) rfl ?_)
  show wpAny _ _ (field (.ref z) 3 >>= _) _ _ _
  refine wpAny_bind (wpAny_field hz rfl (x := .ref TI) rfl (wpAny_bind (wpAny_seqItems hTI rfl ?_)))
  show wpAny _ _ (Builtin.SmallTypes.ownedTupleIsFree (.ref z) >>= _) _ _ _
  refine wpAny_bind (isFreeG hz hf ?free fun T h1 hT hz1 hs1 => ?held)
  case free =>
    simp only [if_true]
    refine wpAny_bind (wpAny_rule (wpAny_bind (wpAny_field hz rfl (x := .ref TO) rfl (wpAny_bind (wpAny_setField_rec hz (by simp) fun g0 k0 b0 => ?_)))))
    have hz0 : IsZG g0 z TI TO .ellipsis fl := k0
    have hs0 : Heap.SameBut z hp g0 := b0
    clear k0 b0
    refine wpAny_bind ?_
    simp only [List.zipIdx_cons, List.zipIdx_nil, List.forIn_cons, List.forIn_nil]
    refine wpAny_bind (wpAny_bind (wpAny_onRaise ?_))
    show wpAny _ _ (Builtin.SmallTypes.nextOrEnd (.ref i1)) _ _ ⟨g0, g, d, t0, os⟩
    refine drawEnd D1 (D1.over s1 hs0 S.zf1) fun p1 q1 => ?_
    have hp1 : Heap.ExtBut i1 g0 p1 := q1
    clear q1
    have hz1 : IsZG p1 z TI TO .ellipsis fl := hp1 _ _ S.zi1 hz0
    refine wpAny_bind (wpAny_setField_rec (s := ⟨p1, g, d, t0, os⟩) hz1 (by simp) fun g1 c1 e1 => ?_)
    have hs1 : Heap.SameBut z p1 g1 := e1
    clear c1 e1
    refine wpAny_bind ?_
    show wpAny _ _ (forIn [(Value.ref i2, 1)] PUnit.unit _ >>= _) _ _ _
    simp only [List.forIn_cons, List.forIn_nil]
    refine wpAny_bind (wpAny_bind (wpAny_bind (drawEnd D2 (D2.over (D2.frame _ _ _ (D2.over s2 hs0 S.zf2) fun b hb o e => hp1 b o (fun q => S.sep1_2 (q ▸ hb)) e) hs1 S.zf2) fun p2 q2 => ?_)))
    have hp2 : Heap.ExtBut i2 g1 p2 := q2
    clear q2
    rw [if_neg (show ¬ ((none : Option Value).isSome = true) from Bool.false_ne_true)]
    refine wpAny_pure (wpAny_pure (wpAny_bind (wpAny_rule ?_)))
    show wpAny _ _ (newExc (.type "StopIteration") [] >>= _) _ _ ⟨p2, g, d, t0, os⟩
    refine wpAny_bind ?_
    simp only [newExc, newTuple]
    refine wpAny_bind (wpAny_newObj_type (wpAny_bind (m := firstArgMember _ _) (wpAny_of_eq (a := Value.none) (by first | rfl | (simp only [firstArgMember]; rfl)) (wpAny_newObj_type ?_ (by size_fits)))) (by size_fits))
    simp only [raiseNew]
    refine wpAny_bind (wpAny_handled ?_)
    rw [hh]
    refine wpAny_bind (wpAny_pure (wpAny_throw (k _ t0 _ (fun c o cz cT c1 c2 e => ?_) ⟨_, Heap.get?_push_size _ rfl, rfl⟩)))
    exact Heap.get?_push_of_some _ (Heap.get?_push_of_some _ (hp2 _ _ c2 (hs1.extBut _ _ cz (hp1 _ _ c1 (hs0.extBut _ _ cz e)))))
  case held =>
    simp only [Bool.false_eq_true, if_false]
    refine wpAny_bind ?_
    rw [← Array.forIn_toList]
    simp only [List.forIn_cons, List.forIn_nil]
    refine wpAny_bind (wpAny_bind (wpAny_holding ?_))
    show wpAny _ _ (Builtin.SmallTypes.nextOrEnd (.ref i1)) _ _ ⟨h1, g, d, t0, os⟩
    refine drawEnd D1 (D1.over s1 hs1 S.zf1) fun p1 q1 => ?_
    have hp1 : Heap.ExtBut i1 h1 p1 := q1
    refine wpAny_bind ?_
    show wpAny _ _ (forIn [(Value.ref i2, 1)] PUnit.unit _ >>= _) _ _ _
    simp only [List.forIn_cons, List.forIn_nil]
    refine wpAny_bind (wpAny_bind (wpAny_bind (drawEnd D2 (D2.frame _ _ _ (D2.over s2 hs1 S.zf2) fun b hb o e => hp1 b o (fun q => S.sep1_2 (q ▸ hb)) e) fun p2 q2 => ?_)))
    have hp2 : Heap.ExtBut i2 p1 p2 := q2
    rw [if_neg (show ¬ ((none : Option Value).isSome = true) from Bool.false_ne_true)]
    refine wpAny_pure (wpAny_pure (wpAny_bind (wpAny_rule ?_)))
    show wpAny _ _ (newExc (.type "StopIteration") [] >>= _) _ _ ⟨p2, g, d, t0, os⟩
    refine wpAny_bind ?_
    simp only [newExc, newTuple]
    refine wpAny_bind (wpAny_newObj_type (wpAny_bind (m := firstArgMember _ _) (wpAny_of_eq (a := Value.none) (by first | rfl | (simp only [firstArgMember]; rfl)) (wpAny_newObj_type ?_ (by size_fits)))) (by size_fits))
    simp only [raiseNew]
    refine wpAny_bind (wpAny_handled ?_)
    rw [hh]
    refine wpAny_bind (wpAny_pure (wpAny_throw (k _ t0 _ (fun c o cz cT c1 c2 e => ?_) ⟨_, Heap.get?_push_size _ rfl, rfl⟩)))
    exact Heap.get?_push_of_some _ (Heap.get?_push_of_some _ (hp2 _ _ c2 (hp1 _ _ c1 (hs1.extBut _ _ cz e))))
end
end Fz
/-! FzHg: enumerate over a strict zip: the next one. -/
namespace Fz
open PySem PySem.Spec PyProof.Rows L2
section
variable {prog : Program} {w : World} {A : Around} {E : Value → Shared → Prop} {s : Shared} {e z TI TO i1 i2 : Addr} {fp1 fp2 : List Addr} {n i : Nat} {P1 P2 : Nat → Value → Prop} {St1 St2 : Nat → Heap → Prop}
/-- a zip that is walked, behind i turns -/
def ZS (z TI TO i1 i2 : Addr) (St1 St2 : Nat → Heap → Prop) (i : Nat) (h : Heap) : Prop := (∃ f0 fl, IsZG h z TI TO f0 fl ∧ OwnV f0) ∧ IsTupOf2 h TI (.ref i1) (.ref i2) ∧ (∃ a b, IsTupOf2 h TO a b) ∧ St1 i h ∧ St2 i h
/-- e is none of its things -/
structure Apt (e z TI TO : Addr) (fp1 fp2 : List Addr) : Prop where
  ez : e ≠ z
  eTI : e ≠ TI
  eTO : e ≠ TO
  e1 : e ∉ fp1
  e2 : e ∉ fp2
theorem ZS.up {h h' : Heap} (S : ZipSep2 z TI TO i1 i2 fp1 fp2) (a : Apt e z TI TO fp1 fp2) (D1 : Draws prog w A i1 fp1 n P1 St1) (D2 : Draws prog w A i2 fp2 n P2 St2) (x : ZS z TI TO i1 i2 St1 St2 i h) (k : ∀ b o, b ≠ e → h.get? b = some o → h'.get? b = some o) : ZS z TI TO i1 i2 St1 St2 i h' := by
  obtain ⟨⟨f0, fl, h1, h2⟩, h3, ⟨p, q, h4⟩, h5, h6⟩ := x
  exact ⟨⟨f0, fl, k _ _ (Ne.symm a.ez) h1, h2⟩, k _ _ (Ne.symm a.eTI) h3, ⟨p, q, k _ _ (Ne.symm a.eTO) h4⟩, D1.frame _ _ _ h5 fun b hb o y => k b o (fun q => a.e1 (q ▸ hb)) y, D2.frame _ _ _ h6 fun b hb o y => k b o (fun q => a.e2 (q ▸ hb)) y⟩
theorem zg_of {Q : Value → Shared → Prop} (S : ZipSep2 z TI TO i1 i2 fp1 fp2) (D1 : Draws prog w A.in1 i1 fp1 n P1 St1) (D2 : Draws prog w A.in1 i2 fp2 n P2 St2) (x : ZS z TI TO i1 i2 St1 St2 i s.heap) (hi : i < n)
    (k : ∀ x1 x2 h' tk, P1 i x1 → P2 i x2 → ZS z TI TO i1 i2 St1 St2 (i + 1) h' → IsTupOf2 h' s.heap.objs.size x1 x2 → h'.objs.size = s.heap.objs.size + 1 →
      (∀ c o, c ≠ z → c ≠ TO → c ≠ i1 → c ≠ i2 → s.heap.get? c = some o → h'.get? c = some o) → Q (.ref s.heap.objs.size) { s with heap := h', toks := tk }) : wpAny (model prog w) A (Builtin.SmallTypes.nextOf (.ref z)) Q E s := by
  obtain ⟨⟨f0, fl, hz, hf⟩, hTI, ⟨p, q, hTO⟩, s1, s2⟩ := x
  have hT : s.TypeIs (.ref z) "zip" := ⟨_, hz, rfl⟩
  unfold Builtin.SmallTypes.nextOf
  exact wpAny_bind (wpAny_callSpecial?_slot (name := Str.ofString "__next__") hT F.slot_zip_next (wpAny_call_entry F.slot_zip_next hT F.entry_zip_next
    (zg_item S D1 D2 hz hf hTI hTO s1 s2 hi fun x1 x2 h' tk y1 y2 b1 b2 d1 d2 b5 b6 b7 => wpAny_pure (k x1 x2 h' tk y1 y2 ⟨b1, b7 _ _ S.TIz S.TITO S.TIi1 S.TIi2 hTI, b2, d1, d2⟩ b5 b6 b7)) (F.args_zip_next_1 _)))
theorem zg_stop {Q : Value → Shared → Prop} (hh : A.handled = none) (S : ZipSep2 z TI TO i1 i2 fp1 fp2) (D1 : Draws prog w A.in1 i1 fp1 n P1 St1) (D2 : Draws prog w A.in1 i2 fp2 n P2 St2) (x : ZS z TI TO i1 i2 St1 St2 n s.heap)
    (k : ∀ h' tk e, (∀ c o, c ≠ z → c ≠ TO → c ≠ i1 → c ≠ i2 → s.heap.get? c = some o → h'.get? c = some o) → (∃ o, h'.get? e = some o ∧ o.cls = .type "StopIteration") → E (.ref e) { s with heap := h', toks := tk }) : wpAny (model prog w) A (Builtin.SmallTypes.nextOf (.ref z)) Q E s := by
  obtain ⟨⟨f0, fl, hz, hf⟩, hTI, ⟨p, q, hTO⟩, s1, s2⟩ := x
  have hT : s.TypeIs (.ref z) "zip" := ⟨_, hz, rfl⟩
  unfold Builtin.SmallTypes.nextOf
  exact wpAny_bind (wpAny_callSpecial?_slot (name := Str.ofString "__next__") hT F.slot_zip_next (wpAny_call_entry F.slot_zip_next hT F.entry_zip_next
    (zg_end hh S D1 D2 hz hf hTI hTO s1 s2 k) (F.args_zip_next_1 _)))
theorem ez_item {c : Int} {old : Value} {Q : Value → Shared → Prop} (S : ZipSep2 z TI TO i1 i2 fp1 fp2) (a : Apt e z TI TO fp1 fp2) (D1 : Draws prog w A.in1 i1 fp1 n P1 St1) (D2 : Draws prog w A.in1 i2 fp2 n P2 St2) (he : IsEnum s.heap e z c old) (x : ZS z TI TO i1 i2 St1 St2 i s.heap) (hi : i < n)
    (hQ : ∀ x1 x2 h' tk, P1 i x1 → P2 i x2 → IsEnumOut h' e z (c + 1) (.ref s.heap.objs.size) (s.heap.objs.size + 1) → ZS z TI TO i1 i2 St1 St2 (i + 1) h' → IsTupOf2 h' s.heap.objs.size x1 x2 →
      h'.get? (s.heap.objs.size + 1) = some { cls := .type "tuple", data := .seq #[.int c tk, .ref s.heap.objs.size] } → h'.objs.size = s.heap.objs.size + 2 →
      (∀ b o, b ≠ e → b ≠ z → b ≠ TO → b ≠ i1 → b ≠ i2 → s.heap.get? b = some o → h'.get? b = some o) → Q (.ref (s.heap.objs.size + 1)) { s with heap := h', toks := tk + 1 }) :
    wpAny (model prog w) A (Builtin.«enumerate.__next__» ⟨[.ref e], []⟩) (fun fin s' => ∃ v, fin = .done (.ret v) ∧ Q v s') E s := by
  obtain ⟨hp, g, d, tk₀, os⟩ := s
  have ei1 : e ≠ i1 := fun q => a.e1 (q ▸ S.mem1)
  have ei2 : e ≠ i2 := fun q => a.e2 (q ▸ S.mem2)
  show wpAny _ _ (field (.ref e) 2 >>= _) _ _ _
  refine wpAny_bind (wpAny_field he rfl (x := .ref z) rfl ?_)
  refine wpAny_bind (zg_of S D1 D2 x hi fun x1 x2 h₁ tk y1 y2 zs₁ hP hsz₁ hk₁ => ?_)
  have he₁ : IsEnum h₁ e z c old := hk₁ e _ a.ez a.eTO ei1 ei2 he
  show wpAny _ _ (field (.ref e) 3 >>= _) _ _ ⟨h₁, g, d, tk, os⟩
  refine wpAny_bind (wpAny_field he₁ rfl (x := rawInt c) rfl ?_)
  show wpAny _ _ (field (.ref e) 4 >>= _) _ _ ⟨h₁, g, d, tk, os⟩
  refine wpAny_bind (wpAny_field he₁ rfl (x := .none) rfl ?_)
  show wpAny _ _ (mkInt c >>= _) _ _ ⟨h₁, g, d, tk, os⟩
  refine wpAny_bind (wpAny_mkInt ?_)
  show wpAny _ _ (setField (.ref e) 3 (rawInt (c + 1)) >>= _) _ _ ⟨h₁, g, d, tk + 1, os⟩
  refine wpAny_bind (wpAny_setField_rec he₁ (by simp) fun h₂ he₂ hs₂ => ?_)
  replace hs₂ : Heap.SameBut e h₁ h₂ := hs₂
  replace he₂ : IsEnum h₂ e z (c + 1) old := he₂
  show wpAny _ _ (setField (.ref e) 4 .none >>= _) _ _ ⟨h₂, g, d, tk + 1, os⟩
  refine wpAny_bind (wpAny_setField_rec he₂ (by simp) fun h₃ he₃ hs₃ => ?_)
  replace hs₃ : Heap.SameBut e h₂ h₃ := hs₃
  replace he₃ : IsEnum h₃ e z (c + 1) old := he₃
  show wpAny _ _ (newTuple [.int c tk, .ref hp.objs.size] >>= _) _ _ ⟨h₃, g, d, tk + 1, os⟩
  refine wpAny_bind (wpAny_newTuple ?_)
  have he₄ : IsEnum (h₃.push { cls := .type "tuple", data := .seq #[.int c tk, .ref hp.objs.size] }) e z (c + 1) old := Heap.get?_push_of_some _ he₃
  generalize hh₄ : h₃.push { cls := .type "tuple", data := .seq #[.int c tk, .ref hp.objs.size] } = h₄ at he₄
  have hsz : h₃.objs.size = hp.objs.size + 1 := by rw [hs₃.1, hs₂.1, hsz₁]
  have hel : e < hp.objs.size := Heap.lt_size he
  have up₄ : ∀ b o, b ≠ e → h₁.get? b = some o → h₄.get? b = some o := fun b o hbe y => by
    rw [← hh₄]; exact Heap.get?_push_of_some _ (hs₃.extBut b o hbe (hs₂.extBut b o hbe y))
  have ht₄ : h₄.get? (hp.objs.size + 1) = some { cls := .type "tuple", data := .seq #[.int c tk, .ref hp.objs.size] } := by rw [← hh₄, ← hsz]; exact Heap.get?_push_size _ rfl
  have hz₄ : h₄.objs.size = hp.objs.size + 2 := by rw [← hh₄, Heap.size_push, hsz]
  show wpAny _ _ (Builtin.SmallTypes.ownedTupleIsFree (.ref e) >>= _) _ _ ⟨h₄, g, d, tk + 1, os⟩
  rw [hsz]
  refine wpAny_bind ?_
  unfold Builtin.SmallTypes.ownedTupleIsFree
  refine wpAny_bind (wpAny_field he₄ rfl (x := .none) rfl (wpAny_pure ?_))
  simp only [if_true]
  refine wpAny_bind (wpAny_rule ?_)
  refine wpAny_bind (wpAny_field he₄ rfl (x := old) rfl ?_)
  refine wpAny_bind (wpAny_setField_rec he₄ (by simp) fun h₅ he₅ hs₅ => ?_)
  replace hs₅ : Heap.SameBut e h₄ h₅ := hs₅
  replace he₅ : IsEnum h₅ e z (c + 1) (.ref hp.objs.size) := he₅
  show wpAny _ _ (Builtin.SmallTypes.ownedTupleHandOut (.ref e) (.ref (hp.objs.size + 1)) >>= _) _ _ ⟨h₅, g, d, tk + 1, os⟩
  refine wpAny_bind ?_
  unfold Builtin.SmallTypes.ownedTupleHandOut
  refine wpAny_bind (wpAny_setField_rec he₅ (by simp) fun h₆ he₆ hs₆ => ?_)
  replace hs₆ : Heap.SameBut e h₅ h₆ := hs₆
  replace he₆ : IsEnumOut h₆ e z (c + 1) (.ref hp.objs.size) (hp.objs.size + 1) := he₆
  refine wpAny_setField_rec he₆ (by simp) fun h₇ he₇ hs₇ => ?_
  replace hs₇ : Heap.SameBut e h₆ h₇ := hs₇
  replace he₇ : IsEnumOut h₇ e z (c + 1) (.ref hp.objs.size) (hp.objs.size + 1) := he₇
  have up₇ : ∀ b o, b ≠ e → h₁.get? b = some o → h₇.get? b = some o := fun b o hbe y => hs₇.extBut b o hbe (hs₆.extBut b o hbe (hs₅.extBut b o hbe (up₄ b o hbe y)))
  refine wpAny_bind (wpAny_letGo (wpAny_pure ⟨_, rfl, hQ x1 x2 h₇ tk y1 y2 he₇ (ZS.up S a D1 D2 zs₁ up₇) (up₇ _ _ (Nat.ne_of_gt hel) hP) ?_ ?_ ?_⟩))
  · have ne : hp.objs.size + 1 ≠ e := Nat.ne_of_gt (Nat.lt_succ_of_lt hel)
    exact hs₇.extBut _ _ ne (hs₆.extBut _ _ ne (hs₅.extBut _ _ ne ht₄))
  · rw [hs₇.1, hs₆.1, hs₅.1, hz₄]
  · exact fun b o c1 c2 c3 c4 c5 y => up₇ b o c1 (hk₁ b o c2 c3 c4 c5 y)
theorem ezNext_item {c : Int} {old : Value} {Q : Option Value → Shared → Prop} (S : ZipSep2 z TI TO i1 i2 fp1 fp2) (a : Apt e z TI TO fp1 fp2) (D1 : Draws prog w A.in1.in1 i1 fp1 n P1 St1) (D2 : Draws prog w A.in1.in1 i2 fp2 n P2 St2) (he : IsEnum s.heap e z c old) (x : ZS z TI TO i1 i2 St1 St2 i s.heap) (hi : i < n)
    (hQ : ∀ x1 x2 h' tk, P1 i x1 → P2 i x2 → IsEnumOut h' e z (c + 1) (.ref s.heap.objs.size) (s.heap.objs.size + 1) → ZS z TI TO i1 i2 St1 St2 (i + 1) h' → IsTupOf2 h' s.heap.objs.size x1 x2 →
      h'.get? (s.heap.objs.size + 1) = some { cls := .type "tuple", data := .seq #[.int c tk, .ref s.heap.objs.size] } → h'.objs.size = s.heap.objs.size + 2 →
      (∀ b o, b ≠ e → b ≠ z → b ≠ TO → b ≠ i1 → b ≠ i2 → s.heap.get? b = some o → h'.get? b = some o) → Q (some (.ref (s.heap.objs.size + 1))) { s with heap := h', toks := tk + 1 }) :
    wpAny (model prog w) A (pyNext (.ref e)) Q E s := by
  have hT : s.TypeIs (.ref e) "enumerate" := ⟨_, he, rfl⟩
  unfold pyNext
  exact wpAny_bind (wpAny_attempt (wpAny_callSpecial?_slot (name := Str.ofString "__next__") hT F.slot_enumerate_next
    (wpAny_call_entry F.slot_enumerate_next hT F.entry_enumerate_next
      (ez_item S a D1 D2 he x hi fun x1 x2 h' tk b1 b2 b3 b4 b5 b6 b7 b8 => wpAny_pure (hQ x1 x2 h' tk b1 b2 b3 b4 b5 b6 b7 b8)) (F.args_enumerate_next_1 _))))
theorem ezNext_end {c : Int} {old : Value} {Q : Option Value → Shared → Prop} (hh : A.handled = none) (S : ZipSep2 z TI TO i1 i2 fp1 fp2) (D1 : Draws prog w A.in1.in1 i1 fp1 n P1 St1) (D2 : Draws prog w A.in1.in1 i2 fp2 n P2 St2) (he : IsEnum s.heap e z c old) (x : ZS z TI TO i1 i2 St1 St2 n s.heap)
    (hQ : ∀ h' tk, (∀ b o, b ≠ z → b ≠ TO → b ≠ i1 → b ≠ i2 → s.heap.get? b = some o → h'.get? b = some o) → Q none { s with heap := h', toks := tk }) : wpAny (model prog w) A (pyNext (.ref e)) Q E s := by
  have hT : s.TypeIs (.ref e) "enumerate" := ⟨_, he, rfl⟩
  unfold pyNext
  refine wpAny_bind (wpAny_attempt (wpAny_callSpecial?_slot (name := Str.ofString "__next__") hT F.slot_enumerate_next
    (wpAny_call_entry F.slot_enumerate_next hT F.entry_enumerate_next ?_ (F.args_enumerate_next_1 _))))
  show wpAny _ _ (field (.ref e) 2 >>= _) _ _ _
  refine wpAny_bind (wpAny_field he rfl (x := .ref z) rfl ?_)
  refine wpAny_bind (zg_stop hh S D1 D2 x fun h' tk e' hk ⟨o, ho, hc⟩ => ?_)
  refine wpAny_bind (wpAny_isInstance (T := "StopIteration") (b := true) ⟨o, ho, hc⟩ isSubtype_stop ?_)
  exact wpAny_pure (hQ _ _ hk)
end
end Fz
/-! FzHh: for i, (a, b) in enumerate(zip(x, y, strict=True)). -/
namespace Fz
open PySem PySem.Spec PyProof.Rows L2
/-- two things are laid, beside what an iterator changes -/
theorem Inv.turnedNew2 {X : Cx} {pins : List (Addr × Obj)} {s : Shared} {σ : L2.St} {H : Hp} {h' : Heap} {t' : Nat} {ch : List Addr} {x y : V} {u1 u2 : Value} {c : Int} {tk : Nat} (I : Inv X pins σ H s) (r1 : RelV x u1) (r2 : RelV y u2)
    (k : ∀ b o, b ∉ ch → s.heap.get? b = some o → h'.get? b = some o) (hf : ∀ b ∈ ch, FpOk X pins H b) (hl : ∀ b ∈ ch, b < s.heap.objs.size)
    (hP : h'.get? s.heap.objs.size = some { cls := .type "tuple", data := .seq #[u1, u2] }) (hT : h'.get? (s.heap.objs.size + 1) = some { cls := .type "tuple", data := .seq #[.int c tk, .ref s.heap.objs.size] }) :
    Inv X pins σ (upd (upd H s.heap.objs.size (.tup [x, y])) (s.heap.objs.size + 1) (.tup [.int c, .ref s.heap.objs.size])) { s with heap := h', toks := t' } := by
  have new1 : ObjOk X.prog X.w (upd H s.heap.objs.size (.tup [x, y])) (s.heap.push { cls := .type "tuple", data := .seq #[u1, u2] }) s.heap.objs.size (.tup [x, y]) :=
    ⟨(by decide : 2 ≤ sizeLine), [u1, u2], .cons r1 (.cons r2 .nil), ⟨_, Heap.get?_push_size _ rfl, rfl, _, rfl⟩⟩
  have I1 : Inv X pins σ (upd H s.heap.objs.size (.tup [x, y])) { s with heap := s.heap.push { cls := .type "tuple", data := .seq #[u1, u2] }, toks := s.toks } := I.laid (fun b u q => Heap.get?_push_of_some _ q) (Nat.le_refl _) new1
  have sz : (s.heap.push { cls := .type "tuple", data := .seq #[u1, u2] }).objs.size = s.heap.objs.size + 1 := Heap.size_push ..
  have new2 : ObjOk X.prog X.w (upd (upd H s.heap.objs.size (.tup [x, y])) (s.heap.objs.size + 1) (.tup [.int c, .ref s.heap.objs.size])) h' (s.heap.objs.size + 1) (.tup [.int c, .ref s.heap.objs.size]) :=
    ⟨(by decide : 2 ≤ sizeLine), [.int c tk, .ref s.heap.objs.size], .cons ⟨_, rfl⟩ (.cons rfl .nil), ⟨_, hT, rfl, _, rfl⟩⟩
  refine I1.turnedNew (ch := ch) (fun b o hb q => ?_) (fun b hb => ⟨by rw [upd_ne (Nat.ne_of_lt (hl b hb))]; exact (hf b hb).1, (hf b hb).2⟩) (by rw [sz]; exact Nat.le_refl _) new2
  by_cases hbs : b = s.heap.objs.size
  · subst hbs
    have q2 : (s.heap.push { cls := .type "tuple", data := .seq #[u1, u2] }).get? s.heap.objs.size = some { cls := .type "tuple", data := .seq #[u1, u2] } := Heap.get?_push_size _ rfl
    rw [q2] at q
    rw [← q]; exact hP
  · have lt : b < s.heap.objs.size := by
      have l := Heap.lt_size q
      rw [sz] at l
      exact Nat.lt_of_le_of_ne (Nat.le_of_lt_succ l) hbs
    have q3 : s.heap.get? b = some o := by
      rw [← q]
      exact (Heap.get?_push_ne _ _ _ hbs).symm
    exact k b o hb q3
/-- what a turn gives -/
def ItEZ (b1 b2 : Bool) (K : PySem.W.Frag) (a1 a2 : Addr) : It := ⟨fun i H => ∃ (xs ys : List V) (x y : V), Sq b1 K H a1 xs ∧ Sq b2 K H a2 ys ∧ xs[i]? = some x ∧ ys[i]? = some y ∧ xs.length = ys.length,
  fun i H v H' => ∃ P T x y, v = .ref T ∧ H P = none ∧ H T = none ∧ T ≠ P ∧ H' = upd (upd H P (.tup [x, y])) T (.tup [.int (i : Nat), .ref P]) ∧ (∀ xs, Sq b1 K H a1 xs → xs[i]? = some x) ∧ ∀ ys, Sq b2 K H a2 ys → ys[i]? = some y,
  fun i H => ∃ xs ys : List V, Sq b1 K H a1 xs ∧ Sq b2 K H a2 ys ∧ i = xs.length ∧ i = ys.length⟩
theorem turn_ezG {P : Program} {w : World} {K : PySem.W.Frag} {elts : List Expr} {kk : Nat} {tpos : Pos} (b1 b2 : Bool) {a1 a2 e z TI TO i1 i2 : Addr} (S : ZipSep2 z TI TO i1 i2 [i1, a1] [i2, a2]) (a : Apt e z TI TO [i1, a1] [i2, a2]) (na : a1 ≠ i1) (nb : a2 ≠ i2) :
    Turn P w K (.Tuple elts kk tpos) (ItEZ b1 b2 K a1 a2) [e, z, TI, TO, i1, i2] e (fun i h => (∃ old, IsEnum h e z ((i : Nat) : Int) old) ∧ (∃ f0 fl, IsZG h z TI TO f0 fl ∧ OwnV f0) ∧ IsTupOf2 h TI (.ref i1) (.ref i2) ∧ (∃ x y, IsTupOf2 h TO x y) ∧ ItAt b1 h i1 a1 i ∧ ItAt b2 h i2 a2 i) where
  mem := by simp
  obj := fun i h q c hc => by
    obtain ⟨⟨old, he⟩, ⟨f0, fl, hz, _⟩, hTI, ⟨x, y, hTO⟩, h1, h2⟩ := q
    have y : c = e ∨ c = z ∨ c = TI ∨ c = TO ∨ c = i1 ∨ c = i2 := by simpa using hc
    rcases y with y | y | y | y | y | y
    · rw [y]; exact ⟨_, he, fun v q => nomatch q⟩
    · rw [y]; exact ⟨_, hz, fun v q => nomatch q⟩
    · rw [y]; exact ⟨_, hTI, fun v q => nomatch q⟩
    · rw [y]; exact ⟨_, hTO, fun v q => nomatch q⟩
    · rw [y]; exact h1.obj
    · rw [y]; exact h2.obj
  keep := fun i h h' q k => by
    obtain ⟨⟨old, he⟩, ⟨f0, fl, hz, hf⟩, hTI, ⟨x, y, hTO⟩, h1, h2⟩ := q
    exact ⟨⟨old, k e (by simp) _ he⟩, ⟨f0, fl, k z (by simp) _ hz, hf⟩, k TI (by simp) _ hTI, ⟨x, y, k TO (by simp) _ hTO⟩, h1.at fun o q => k i1 (by simp) o q, h2.at fun o q => k i2 (by simp) o q⟩
  item := by
    intro X hP hw hK hc i pins s σ H E I hf q ⟨xs, ys, x, y, hqx, hqy, hx, hy, hl⟩
    subst hP hw hK
    obtain ⟨⟨old, he⟩, hz, hTI, hTO, h1, h2'⟩ := q
    obtain ⟨its, rv, p⟩ := sq_get I hqx
    obtain ⟨its2, rv2, p2⟩ := sq_get I hqy
    obtain ⟨u, hu, ru⟩ := rv.get hx
    obtain ⟨u2, hu2, ru2⟩ := rv2.get hy
    have hi1 : i < its.toArray.size := by rw [List.size_toArray]; exact (List.getElem?_eq_some_iff.mp hu).1
    have D1 := draws (prog := X.prog) (w := X.w) (A := X.A.in1.in1) (I.ok.hd hc) b1 i1 a1 na its.toArray
    have D2 := draws (prog := X.prog) (w := X.w) (A := X.A.in1.in1) (I.ok.hd hc) b2 i2 a2 nb its2.toArray
    have sz2 : its2.toArray.size = its.toArray.size := by rw [List.size_toArray, List.size_toArray, ← rv2.length, ← rv.length, hl]
    rw [sz2] at D2
    have zs : ZS z TI TO i1 i2 (StI b1 i1 a1 its.toArray) (StI b2 i2 a2 its2.toArray) i s.heap := ⟨hz, hTI, hTO, ⟨h1, p⟩, ⟨h2', p2⟩⟩
    have lt : ∀ c ∈ [e, z, TI, TO, i1, i2], c < s.heap.objs.size := fun c hcm => by
      have m : c = e ∨ c = z ∨ c = TI ∨ c = TO ∨ c = i1 ∨ c = i2 := by simpa using hcm
      rcases m with m | m | m | m | m | m <;> rw [m]
      · exact Heap.lt_size he
      · obtain ⟨f0, fl, q, _⟩ := hz; exact Heap.lt_size q
      · exact Heap.lt_size hTI
      · obtain ⟨q1, q2, q⟩ := hTO; exact Heap.lt_size q
      · obtain ⟨_, q, _⟩ := h1.obj; exact Heap.lt_size q
      · obtain ⟨_, q, _⟩ := h2'.obj; exact Heap.lt_size q
    refine ezNext_item S a D1 D2 he zs hi1 fun v1 v2 h' tk e1 e2 ho zs' hP hT hsz hk => ?_
    have hel := lt e (by simp)
    have v1u : v1 = u := by
      have : its.toArray[i]? = some u := by simpa using hu
      rw [this] at e1; exact (Option.some.inj e1).symm
    have v2u : v2 = u2 := by
      have : its2.toArray[i]? = some u2 := by simpa using hu2
      rw [this] at e2; exact (Option.some.inj e2).symm
    subst v1u v2u
    refine ⟨_, rfl, wpAny_letOwnedTupleGo_enum (s := { s with heap := h', toks := tk + 1 }) ho fun h2 he' sb => ?_⟩
    have hP2 := (sb.2 _ (Nat.ne_of_gt hel)).trans hP
    have hT2 := (sb.2 _ (Nat.ne_of_gt (Nat.lt_succ_of_lt hel))).trans hT
    have J := Inv.turnedNew2 (h' := h2) (t' := tk + 1) (ch := [e, z, TI, TO, i1, i2]) I ru ru2
      (fun c o hb q => (sb.2 c (fun m => hb (by simp [m]))).trans (hk c o (fun m => hb (by simp [m])) (fun m => hb (by simp [m])) (fun m => hb (by simp [m])) (fun m => hb (by simp [m])) (fun m => hb (by simp [m])) q)) hf lt hP2 hT2
    have zs2 := ZS.up (h' := h2) S a D1 D2 zs' fun b o hbe q => (sb.2 b hbe).trans q
    obtain ⟨q1, q2, q3, q4, q5⟩ := zs2
    refine ⟨.ref (s.heap.objs.size + 1), _, J, rfl, ⟨s.heap.objs.size, s.heap.objs.size + 1, x, y, rfl, I.hok.fresh (Nat.le_refl _), I.hok.fresh (Nat.le_succ _), Nat.succ_ne_self _, rfl, fun l hl => sq_inj I hl hqx ▸ hx, fun l hl => sq_inj I hl hqy ▸ hy⟩, ⟨⟨.ref s.heap.objs.size, ?_⟩, q1, q2, q3, q4.1, q5.1⟩, fun c hcm => ?_⟩
    · have e3 : ((i + 1 : Nat) : Int) = (i : Int) + 1 := by omega
      rw [e3]; exact he'
    · have l := lt c hcm
      rw [upd_ne (Nat.ne_of_lt (Nat.lt_succ_of_lt l)), upd_ne (Nat.ne_of_lt l)]
      exact (hf c hcm).1
  done := by
    intro X hP hw hK hc i pins s σ H E I hf q ⟨xs, ys, hqx, hqy, l1, l2⟩
    subst hP hw hK
    obtain ⟨⟨old, he⟩, hz, hTI, hTO, h1, h2⟩ := q
    obtain ⟨its, rv, p⟩ := sq_get I hqx
    obtain ⟨its2, rv2, p2⟩ := sq_get I hqy
    have D1 := draws (prog := X.prog) (w := X.w) (A := X.A.in1.in1) (I.ok.hd hc) b1 i1 a1 na its.toArray
    have D2 := draws (prog := X.prog) (w := X.w) (A := X.A.in1.in1) (I.ok.hd hc) b2 i2 a2 nb its2.toArray
    have z1 : its.toArray.size = i := by rw [List.size_toArray, ← rv.length, l1]
    have z2 : its2.toArray.size = i := by rw [List.size_toArray, ← rv2.length, l2]
    rw [z1] at D1
    rw [z2] at D2
    have zs : ZS z TI TO i1 i2 (StI b1 i1 a1 its.toArray) (StI b2 i2 a2 its2.toArray) i s.heap := ⟨hz, hTI, hTO, ⟨h1, p⟩, ⟨h2, p2⟩⟩
    exact ezNext_end (I.ok.hd hc) S D1 D2 he zs fun h' tk hk => ⟨rfl, I.turnedL (ch := [e, z, TI, TO, i1, i2]) (fun c o hb q => hk c o (fun m => hb (by simp [m])) (fun m => hb (by simp [m])) (fun m => hb (by simp [m])) (fun m => hb (by simp [m])) q) hf⟩
  self := fun A i s Q E q h => let ⟨⟨_, he⟩, _⟩ := q; wpAny_pyIter_enum he h
end Fz
/-! FzHi: making enumerate(zip(x, y, strict=True)), and walking it. -/
namespace Fz
open PySem PySem.Spec PyProof.Rows L2
abbrev enO (z : Addr) : Obj := { cls := .type "enumerate", data := .fields #[.none, .bool false, .ref z, rawInt 0, .none, .none] }
theorem meets_enumZ {z TI TO : Addr} : Meets (Builtin.«enumerate.__new__» ⟨[.type "enumerate", .ref z], []⟩) (fun _ R s => IsZS true s.heap z TI TO .none ∧ R (.ok (.ret (.ref s.heap.objs.size)))
    { s with heap := s.heap.push (enO z) }) := .of_wp fun prog w A R s h => by
  obtain ⟨hp, g, d, tk, os⟩ := s
  obtain ⟨h1, h⟩ := h
  have hsub := sub_enumerate
  have q1 : ∀ {A' : Around} {E : Value → Shared → Prop} {Q : Value → Shared → Prop}, Q (.ref z) ⟨hp, g, d, tk, os⟩ → wpAny (model prog w) A' (pyIter (.ref z)) Q E ⟨hp, g, d, tk, os⟩ := fun q => zsIter (s := ⟨hp, g, d, tk, os⟩) h1 q
  wp_walk using q1
  refine wpAny_stack_any fun st => wpAny_pure ?_
  split
  · rename_i c _ _ _ _ _
    cases (c == Value.type "enumerate") <;> (wp_walk using q1) <;> exact ⟨_, rfl, h⟩
  · wp_walk using q1
    exact ⟨_, rfl, h⟩
theorem call_enumZ {prog : Program} {w : World} {A : Around} {E : Value → Shared → Prop} {s : Shared} {z TI TO : Addr} {Q : Value → Shared → Prop} (h1 : IsZS true s.heap z TI TO .none)
    (h : ∀ h', IsEnum h' s.heap.objs.size z 0 .none → (∀ b o, s.heap.get? b = some o → h'.get? b = some o) → Q (.ref s.heap.objs.size) { s with heap := h' }) :
    wpAny (model prog w) A (call (.type "enumerate") [.ref z]) Q E s := by
  refine callType_new F.called_enumerate (by decide) (F.typeCall_enumerate_1 _) (F.newCall_enumerate_1 _) (fun obj => F.args_object_init_2 obj _) F.entry_enumerate_new meets_enumZ ⟨h1, ?_⟩
  have here : (s.heap.push (enO z)).get? s.heap.objs.size = some (enO z) := Heap.get?_push_size _ rfl
  exact ⟨⟨_, here, rfl⟩, h _ here fun b o x => Heap.get?_push_of_some _ x⟩
section
variable {X : Cx} {G : Gx}
/-- the zip, as a value -/
theorem zipV {e e2 : Expr} {ta : TA} {p pos p3 kpos : Pos} {j : Nat} (hg : Gl X "zip") (hm : X.mg "zip" = none) (ha : PA X [e, e2] ta) (hs : starEach [e, e2] X.env = (false, eval e X.env) :: starEach [e2] X.env) (hpl : (backTo pos (starEach [e, e2] X.env)).any (·.1) = false)
    {pins : List (Addr × Obj)} {s : Shared} {σ : L2.St} {H : Hp} {Q : Value → Shared → Prop} {W : Bool → Bool → Addr → Addr → Hp → Prop} (I : Inv X pins σ H s)
    (h : ta σ H fun vs H1 => ∃ b1 b2 a1 a2 xs ys, vs = [.ref a1, .ref a2] ∧ Sq b1 X.K H1 a1 xs ∧ Sq b2 X.K H1 a2 ys ∧ W b1 b2 a1 a2 H1)
    (k : ∀ b1 b2 a1 a2 H1 s2 h' (its its2 : List Value), Inv X pins σ H1 s2 → W b1 b2 a1 a2 H1 → SqAt b1 s2.heap a1 its.toArray → SqAt b2 s2.heap a2 its2.toArray → IsZS true h' (s2.heap.objs.size + 4) (s2.heap.objs.size + 2) (s2.heap.objs.size + 3) .none →
      IsTupOf2 h' (s2.heap.objs.size + 2) (.ref s2.heap.objs.size) (.ref (s2.heap.objs.size + 1)) → IsTupOf2 h' (s2.heap.objs.size + 3) .none .none → h'.get? s2.heap.objs.size = some (itO b1 a1) → h'.get? (s2.heap.objs.size + 1) = some (itO b2 a2) →
      (∀ c o, s2.heap.get? c = some o → h'.get? c = some o) → Q (.ref (s2.heap.objs.size + 4)) { s2 with heap := h' }) :
    wpAny (model X.prog X.w) X.A (eval (.Call (.Name "zip" p) [e, e2] [⟨some "strict", .Constant (.bool true) j p3, kpos⟩] pos) X.env) Q X.xe s := by
  have pk : PK X [⟨some "strict", .Constant (.bool true) j p3, kpos⟩] (tCons (tC (.bl true)) tNil) := pk_cons pe_bl pk_nil
  refine wpAny_Call_Name_kw (ld_blt I hg hm PyProof.Rows.boot_zip (callWith_kwT (thn (ha.run pos pins s σ H _ I h) fun us s1 ⟨vs, H1, I1, r1, b1, b2, a1, a2, xs, ys, ex, hqx, hqy, q⟩ =>
    thn (pk.run pos pins s1 σ H1 (fun zs H2 => zs = [.bl true] ∧ H2 = H1) I1 ⟨rfl, rfl⟩) fun ws s2 ⟨zs, H2, I2, r2, e3, e4⟩ => ?_) (by rw [hs]; rfl) hpl rfl rfl))
  subst ex e3 e4
  obtain ⟨w1, w2, rfl, r, r'⟩ := vals2 r1
  cases r
  cases r'
  obtain ⟨w3, rfl, r3⟩ := vals1 r2
  cases r3
  obtain ⟨its, rv, p1⟩ := sq_get I2 hqx
  obtain ⟨its2, rv2, p2⟩ := sq_get I2 hqy
  exact call_zipS (begins b1 a1 its.toArray) (begins b2 a2 its2.toArray) p1 p2 fun h' hz hTI hTO g1 g2 hk => k b1 b2 a1 a2 _ s2 h' its its2 I2 q p1 p2 hz hTI hTO g1 g2 hk
theorem sep_apt {n a1 a2 : Nat} (h1 : a1 < n) (h2 : a2 < n) (m : Nat) (hm : n + 5 ≤ m) : Apt m (n + 4) (n + 2) (n + 3) [n, a1] [n + 1, a2] where
  ez := (by omega : (m : Nat) ≠ n + 4)
  eTI := (by omega : (m : Nat) ≠ n + 2)
  eTO := (by omega : (m : Nat) ≠ n + 3)
  e1 := not2 (by omega) (by omega)
  e2 := not2 (by omega) (by omega)
def iEZ (K : PySem.W.Frag) (ta : TA) : TI := fun σ H R => ta σ H fun vs H1 => ∃ b1 b2 a1 a2 xs ys, vs = [.ref a1, .ref a2] ∧ Sq b1 K H1 a1 xs ∧ Sq b2 K H1 a2 ys ∧ R (ItEZ b1 b2 K a1 a2) H1
theorem pi_ez {e e2 : Expr} {ta : TA} {p pos p3 kpos pE posE tpos : Pos} {elts : List Expr} {kk j : Nat} (hg : Gl X "zip") (hm : X.mg "zip" = none) (hgE : Gl X "enumerate") (hmE : X.mg "enumerate" = none) (ha : PA X [e, e2] ta) (hs : starEach [e, e2] X.env = (false, eval e X.env) :: starEach [e2] X.env) (hpl : (backTo pos (starEach [e, e2] X.env)).any (·.1) = false) :
    PI X (.Tuple elts kk tpos) (.Call (.Name "enumerate" pE) [.Call (.Name "zip" p) [e, e2] [⟨some "strict", .Constant (.bool true) j p3, kpos⟩] pos] [] posE) (iEZ X.K ta) := by
  refine ⟨fun pins s σ H R I h => Call_ (ld_blt I hgE hmE boot_enumerate (PyProof.Rows.callWith_type1 (Calls.spliced_cons (zipV (W := fun b1 b2 a1 a2 H1 => R (ItEZ b1 b2 X.K a1 a2) H1) hg hm ha hs hpl I h fun b1 b2 a1 a2 H1 s2 h' its its2 I2 q p1 p2 hz hTI hTO g1 g2 hk => Calls.spliced_nil ?_)) rfl rfl))⟩
  have l1 := sq_lt p1
  have l2 := sq_lt p2
  have lz : s2.heap.objs.size + 4 < h'.objs.size := Heap.lt_size hz
  refine call_enumZ (s := { s2 with heap := h' }) hz fun h3 he hk3 => wpAny_pyIter_enum he ?_
  have J : Inv X pins σ H1 { s2 with heap := h3 } := I2.kept (t' := s2.toks) fun b o q => hk3 b o (hk b o q)
  refine ⟨h'.objs.size, [h'.objs.size, s2.heap.objs.size + 4, s2.heap.objs.size + 2, s2.heap.objs.size + 3, s2.heap.objs.size, s2.heap.objs.size + 1], _, _, H1, rfl, J,
    turn_ezG b1 b2 (sep_new (n := s2.heap.objs.size) l1 l2) (sep_apt (n := s2.heap.objs.size) l1 l2 h'.objs.size lz) (Nat.ne_of_lt l1) (Nat.ne_of_lt (Nat.lt_succ_of_lt l2)), ⟨⟨.none, he⟩, ⟨.none, false, hk3 _ _ hz, .inl rfl⟩, hk3 _ _ hTI, ⟨_, _, hk3 _ _ hTO⟩, .mk (hk3 _ _ g1), .mk (hk3 _ _ g2)⟩, fun c hc => ?_, q⟩
  have y : c = h'.objs.size ∨ c = s2.heap.objs.size + 4 ∨ c = s2.heap.objs.size + 2 ∨ c = s2.heap.objs.size + 3 ∨ c = s2.heap.objs.size ∨ c = s2.heap.objs.size + 1 := by simpa using hc
  have le : s2.heap.objs.size ≤ c := by
    rcases y with y | y | y | y | y | y <;> rw [y] <;> first | exact Nat.le_of_lt (Nat.lt_of_le_of_lt (Nat.le_add_right _ 4) lz) | exact Nat.le_add_right _ _ | exact Nat.le_refl _
  exact I2.fpOk le (I2.hok.fresh le)
theorem walk_ez {b1 b2 : Bool} {a1 a2 : Addr} {F1 : Hp} {vs us : List V} {xs ys : List D} (ra : RpA G.K G.sp F1 vs xs) (rb : RpA G.K G.sp F1 us ys) (hst : xs.length = ys.length) :
    Walk (ItEZ b1 b2 G.K a1 a2) (enumL 0 (zipL xs ys)).length (fun H => Sq b1 G.K H a1 vs ∧ Sq b2 G.K H a2 us) (Yd G F1 (enumL 0 (zipL xs ys))) := by
  have la := ra.length
  have lb := rb.length
  rw [enumL_len, zipL_len]
  refine ⟨fun i H hi q => ⟨vs, us, vs[i]'(by omega), us[i]'(by omega), q.1, q.2, by simp, by simp, by rw [la, lb, hst]⟩, fun H q => ⟨vs, us, q.1, q.2, by omega, by omega⟩, fun i H v H' hi q ⟨P, T, x, y, e1, e2, e2', ne, e3, e4, e5⟩ => ?_⟩
  obtain ⟨d, hd, rx⟩ := ra.getV (e4 vs q.1)
  obtain ⟨e, he, ry⟩ := rb.getV (e5 us q.2)
  subst e1 e3
  refine ⟨_, by rw [enumL_get, zipL_get xs ys i d e hd he]; rfl, fun F s h1 h2 h3 _ _ => ?_⟩
  have fP := h2.free e2
  have fw1 : Fw G.sp G.cc F H (upd F P (.tup [x, y])) (upd H P (.tup [x, y])) s := Fw.lay h2 h3 e2
  have e2T : (upd H P (.tup [x, y])) T = none := by rw [upd_ne ne]; exact e2'
  have fT : (upd F P (.tup [x, y])) T = none := fw1.sub.free e2T
  refine ⟨_, fw1.trans (Fw.lay fw1.sub fw1.src e2T), .tup upd_same (.cons ?_ (.cons ?_ .nil))⟩
  · rw [Nat.zero_add]; exact .int _
  · have m1 := h1.trans ((Same.upd' fP (o := .tup [x, y])).trans (Same.upd' fT (o := .tup [.int (i : Nat), .ref P])))
    refine .tup ?_ (.cons (rx.mono m1) (.cons (ry.mono m1) .nil))
    rw [upd_ne (Ne.symm ne)]
    exact upd_same
theorem okI_ez {a b : E} {ea eb : Expr} {p pos p3 kpos pE posE tpos : Pos} {elts : List Expr} {kk j : Nat} (hK : X.K = G.K) (hg : Gl X "zip") (hm : X.mg "zip" = none) (hgE : Gl X "enumerate") (hmE : X.mg "enumerate" = none) (h1 : isStarX ea = false) (h2 : isStarX eb = false) (ha : OkE X G a ea) (hb : OkE X G b eb) :
    PI X (.Tuple elts kk tpos) (.Call (.Name "enumerate" pE) [.Call (.Name "zip" p) [ea, eb] [⟨some "strict", .Constant (.bool true) j p3, kpos⟩] pos] [] posE) (RdI G (.enum (.zip a b true))) := by
  have hs : starEach [ea, eb] X.env = (false, eval ea X.env) :: starEach [eb] X.env := starEach_no h1 _ _
  have n1 : (backTo pos (starEach [ea, eb] X.env)).any (·.1) = false := by rw [starEach_no h1, starEach_no h2]; rfl
  have pz : ∀ {ta : TA}, PA X [ea, eb] ta → PI X (.Tuple elts kk tpos) (.Call (.Name "enumerate" pE) [.Call (.Name "zip" p) [ea, eb] [⟨some "strict", .Constant (.bool true) j p3, kpos⟩] pos] [] posE) (iEZ X.K ta) := fun {ta} h => pi_ez hg hm hgE hmE h hs n1
  refine ⟨fun pins sh σ H R I ⟨g, en, F, s, d, xs, s', Rr, off, he, hq, k⟩ => ?_⟩
  obtain ⟨dz, sz, ez, ez2⟩ := bnd_some he
  obtain ⟨ez3, rfl⟩ := lift_some ez2
  obtain ⟨lz, ez4, rfl⟩ := Option.map_eq_some_iff.mp ez3
  obtain ⟨d1, s1, e1, e2⟩ := bnd_some ez
  obtain ⟨d2, s2, e3, e4⟩ := bnd_some e2
  obtain ⟨e5, rfl⟩ := lift_some e4
  obtain ⟨ys, q1, e6⟩ := Option.bind_eq_some_iff.mp e5
  obtain ⟨zs, q2, e7⟩ := Option.bind_eq_some_iff.mp e6
  obtain ⟨hst, rfl⟩ := if_some e7
  cases ez4
  cases hq
  have hst2 : ys.length = zs.length := by simpa using hst
  by_cases ho : Off g (lk a ++ lk b)
  · refine (pz (pa_cons ha.V (pa_cons hb.V pa_nil (starEach_no h2 _ _)) hs)).run pins sh σ H R I ⟨g, en, F, s, d1, s1, Rr, ho.l, e1, fun x F1 H1 f1 r1 => ⟨g, en, F1, s1, d2, s', Rr.step f1, ho.r, e3, fun y F2 H2 f2 r2 => ?_⟩⟩
    obtain ⟨b1, a1, vs, rfl, c1, ra⟩ := sq_ofP (r1.mono f2.fr) q1
    obtain ⟨b2, a2, us, rfl, c2, rb⟩ := sq_ofP r2 q2
    have f := f1.trans f2
    exact ⟨b1, b2, a1, a2, vs, us, rfl, hK ▸ c1 _ f.sub, hK ▸ c2 _ f.sub, hK ▸ k _ F2 H2 _ f (walk_ez ra rb hst2) (fun _ H'' z => ⟨c1 _ z, c2 _ z⟩) fun F'' H'' s'' f3 => ⟨c1 _ (f3.fr.trans f3.sub), c2 _ (f3.fr.trans f3.sub)⟩⟩
  · refine (pz (pa_cons ha.B (pa_cons hb.B pa_nil (starEach_no h2 _ _)) hs)).run pins sh σ H R I ⟨g, en, F, s, d1, s1, Rr, off.l, e1, fun x F1 H1 f1 r1 => ⟨g, en, F1, s1, d2, s', Rr.step f1, off.r, e3, fun y F2 H2 f2 r2 => ?_⟩⟩
    obtain ⟨b1, a1, vs, rfl, c1, ra⟩ := sq_ofB (r1.step f2) f2.sub q1
    obtain ⟨b2, a2, us, rfl, c2, rb⟩ := sq_ofB r2 f2.sub q2
    have f := f1.trans f2
    have z := Fw.refl f2.sub f2.src
    exact ⟨b1, b2, a1, a2, vs, us, rfl, hK ▸ c1 _ _ _ z, hK ▸ c2 _ _ _ z, hK ▸ k _ F2 H2 _ f (walk_ez ra rb hst2) (fun z => absurd z ho) fun F'' H'' s'' f3 => ⟨c1 _ _ _ f3, c2 _ _ _ f3⟩⟩
end
end Fz
/-! FzHj: a plain zip whose tuple may be out still; dict(zip(..)). -/
namespace Fz
open PySem PySem.Spec PyProof.Rows L2
abbrev IsZN (h : Heap) (z TI TO : Addr) (f : Value) (fl : Bool) : Prop := h.get? z = some { cls := .type "zip", dict := none, data := .fields #[f, .bool fl, .bool false, .ref TI, .ref TO], slots := #[] }
section
variable {prog : Program} {w : World} {A : Around} {E : Value → Shared → Prop} {s : Shared} {z TI TO i1 i2 : Addr} {fp1 fp2 : List Addr} {n1 n2 i : Nat} {P1 P2 : Nat → Value → Prop} {St1 St2 : Nat → Heap → Prop} {a1 a2 : Value} {f0 : Value} {fl : Bool}
theorem isFreeN {Q : Bool → Shared → Prop} (hz : IsZN s.heap z TI TO f0 fl) (hf : OwnV f0) (kf : Q true s) (kh : ∀ (T : Addr) h', f0 = rawInt T → IsZN h' z TI TO f0 true → Heap.SameBut z s.heap h' → Q false { s with heap := h' }) :
    wpAny (model prog w) A (Builtin.SmallTypes.ownedTupleIsFree (.ref z)) Q E s := by
  unfold Builtin.SmallTypes.ownedTupleIsFree
  rcases hf with rfl | ⟨T, rfl⟩
  · exact wpAny_bind (wpAny_field hz rfl (x := .none) rfl (wpAny_pure kf))
  · refine wpAny_bind (wpAny_field hz rfl (x := rawInt T) rfl ?_)
    show wpAny _ _ (loadIfAlive ((T : Int).toNat) >>= _) _ _ _
    rw [Int.toNat_natCast]
    refine wpAny_bind (aliveG ?_)
    cases hT : s.heap.get? T with
    | none =>
      simp only [Option.isNone_none, if_true]
      exact wpAny_pure kf
    | some oT =>
      simp only [Option.isNone_some, Bool.false_eq_true, if_false]
      refine wpAny_bind (wpAny_field hz rfl (x := .bool fl) rfl ?_)
      cases fl with
      | true =>
        rw [if_neg (show ¬ ((Value.bool true != Value.bool true) = true) from Bool.false_ne_true)]
        exact wpAny_pure (kh T s.heap rfl hz (Heap.SameBut.refl _ _))
      | false =>
        rw [if_pos (show (Value.bool false != Value.bool true) = true from rfl)]
        exact wpAny_bind (wpAny_setField_rec hz (by simp) fun h1 hz1 hs1 => wpAny_pure (kh T h1 rfl hz1 hs1))
theorem zn_item {Q : Value → Shared → Prop} (S : ZipSep2 z TI TO i1 i2 fp1 fp2) (D1 : Draws prog w A i1 fp1 n1 P1 St1) (D2 : Draws prog w A i2 fp2 n2 P2 St2) (hz : IsZN s.heap z TI TO f0 fl) (hf : OwnV f0) (hTI : IsTupOf2 s.heap TI (.ref i1) (.ref i2)) (hTO : IsTupOf2 s.heap TO a1 a2)
    (s1 : St1 i s.heap) (s2 : St2 i s.heap) (hi : i < n1) (hi2 : i < n2)
    (k : ∀ x1 x2 h' tk, P1 i x1 → P2 i x2 → (∃ f0 fl, IsZN h' z TI TO f0 fl ∧ OwnV f0) → (∃ a b, IsTupOf2 h' TO a b) → St1 (i + 1) h' → St2 (i + 1) h' → IsTupOf2 h' s.heap.objs.size x1 x2 → h'.objs.size = s.heap.objs.size + 1 →
      (∀ c o, c ≠ z → c ≠ TO → c ≠ i1 → c ≠ i2 → s.heap.get? c = some o → h'.get? c = some o) → Q (.ref s.heap.objs.size) { s with heap := h', toks := tk }) :
    wpAny (model prog w) A (Builtin.«zip.__next__» ⟨[.ref z], []⟩) (fun fin s' => ∃ v, fin = .done (.ret v) ∧ Q v s') E s := by
  obtain ⟨hp, g, d, t0, os⟩ := s
  show wpAny _ _ (field (.ref z) 2 >>= _) _ _ _
  refine wpAny_bind (wpAny_field hz rfl (x := .bool false) rfl ?_)
  show wpAny _ _ (field (.ref z) 3 >>= _) _ _ _
  refine wpAny_bind (wpAny_field hz rfl (x := .ref TI) rfl (wpAny_bind (wpAny_seqItems hTI rfl ?_)))
  show wpAny _ _ (Builtin.SmallTypes.ownedTupleIsFree (.ref z) >>= _) _ _ _
  refine wpAny_bind (isFreeN hz hf ?free fun T h1 hT hz1 hs1 => ?held)
  case free =>
    simp only [if_true]
    refine wpAny_bind (wpAny_rule (wpAny_bind (wpAny_field hz rfl (x := .ref TO) rfl (wpAny_bind (wpAny_setField_rec hz (by simp) fun g0 k0 b0 => ?_)))))
    have hz0 : IsZN g0 z TI TO .ellipsis fl := k0
    have hs0 : Heap.SameBut z hp g0 := b0
    clear k0 b0
    refine wpAny_bind ?_
    simp only [List.zipIdx_cons, List.zipIdx_nil, List.forIn_cons, List.forIn_nil]
    refine wpAny_bind (wpAny_bind (wpAny_onRaise ?_))
    show wpAny _ _ (Builtin.SmallTypes.nextOf (.ref i1) >>= _) _ _ ⟨g0, g, d, t0, os⟩
    refine wpAny_bind (D1.item i _ _ _ hi (D1.over s1 hs0 S.zf1) fun x1 p1 t1 hx1 m1 q1 => wpAny_pure ?_)
    have hp1 : Heap.SameBut i1 g0 p1 := q1
    clear q1
    have u1 : IsTupOf2 p1 TO a1 a2 := hp1.extBut _ _ S.Ti1 (hs0.extBut _ _ S.TOz hTO)
    refine wpAny_bind (wpAny_seqItems (s := ⟨p1, g, d, t1, os⟩) u1 rfl (wpAny_bind (updateSeq_IsTupOf2 (s := ⟨p1, g, d, t1, os⟩) u1 fun g1 c1 e1 => ?_)))
    have hT1 : IsTupOf2 g1 TO x1 a2 := c1
    have hs1 : Heap.SameBut TO p1 g1 := e1
    clear c1 e1
    refine wpAny_bind (wpAny_letGo (wpAny_pure (wpAny_bind (wpAny_bind (wpAny_onRaise ?_)))))
    show wpAny _ _ (Builtin.SmallTypes.nextOf (.ref i2) >>= _) _ _ ⟨g1, g, d, t1, os⟩
    refine wpAny_bind (D2.item i _ _ _ hi2 (D2.over (D2.over (D2.over s2 hs0 S.zf2) hp1 S.sep1_2) hs1 S.Tf2) fun x2 p2 t2 hx2 m2 q2 => wpAny_pure ?_)
    have hp2 : Heap.SameBut i2 g1 p2 := q2
    clear q2
    have u2 : IsTupOf2 p2 TO x1 a2 := hp2.extBut _ _ S.Ti2 hT1
    refine wpAny_bind (wpAny_seqItems (s := ⟨p2, g, d, t2, os⟩) u2 rfl (wpAny_bind (updateSeq_IsTupOf2 (s := ⟨p2, g, d, t2, os⟩) u2 fun g2 c2 e2 => ?_)))
    have hT2 : IsTupOf2 g2 TO x1 x2 := c2
    have hs2 : Heap.SameBut TO p2 g2 := e2
    clear c2 e2
    refine wpAny_bind (wpAny_letGo (wpAny_pure (wpAny_pure ?_)))
    refine wpAny_bind (wpAny_seqItems (s := ⟨g2, g, d, t2, os⟩) hT2 rfl (wpAny_bind (wpAny_newTuple ?_)))
    have sz : g2.objs.size = hp.objs.size := by rw [hs2.1, hp2.1, hs1.1, hp1.1, hs0.1]
    have zz : IsZN g2 z TI TO .ellipsis fl := hs2.extBut _ _ S.TOz.symm (hp2.extBut _ _ S.zi2 (hs1.extBut _ _ S.TOz.symm (hp1.extBut _ _ S.zi1 hz0)))
    have kk : ∀ c o, c ≠ z → c ≠ TO → c ≠ i1 → c ≠ i2 → hp.get? c = some o → g2.get? c = some o := fun c o cz cT c1 c2 e => hs2.extBut _ _ cT (hp2.extBut _ _ c2 (hs1.extBut _ _ cT (hp1.extBut _ _ c1 (hs0.extBut _ _ cz e))))
    have j1 : St1 (i + 1) g2 := D1.over (D1.over (D1.over m1 hs1 S.Tf1) hp2 S.sep2_1) hs2 S.Tf1
    have j2 : St2 (i + 1) g2 := D2.over m2 hs2 S.Tf2
    have lt : z < g2.objs.size := Heap.lt_size zz
    show wpAny _ _ (Builtin.SmallTypes.ownedTupleHandOut (.ref z) (.ref g2.objs.size) >>= _) _ _ ⟨g2.push { cls := .type "tuple", data := .seq #[x1, x2] }, g, d, t2, os⟩
    refine wpAny_bind ?_
    unfold Builtin.SmallTypes.ownedTupleHandOut
    have z6 : IsZN (g2.push { cls := .type "tuple", data := .seq #[x1, x2] }) z TI TO .ellipsis fl := Heap.get?_push_of_some _ zz
    refine wpAny_bind (wpAny_setField_rec z6 (by simp) fun h7 c7 e7 => ?_)
    have z7 : IsZN h7 z TI TO (rawInt g2.objs.size) fl := c7
    have m7 : Heap.SameBut z (g2.push { cls := .type "tuple", data := .seq #[x1, x2] }) h7 := e7
    clear c7 e7
    refine wpAny_setField_rec z7 (by simp) fun h8 c8 e8 => ?_
    have z8 : IsZN h8 z TI TO (rawInt g2.objs.size) false := c8
    have m8 : Heap.SameBut z h7 h8 := e8
    clear c8 e8
    have up : ∀ c o, c ≠ z → g2.get? c = some o → h8.get? c = some o := fun c o c1 e => m8.extBut _ _ c1 (m7.extBut _ _ c1 (Heap.get?_push_of_some _ e))
    have t8 : IsTupOf2 h8 g2.objs.size x1 x2 := m8.extBut _ _ (Nat.ne_of_gt lt) (m7.extBut _ _ (Nat.ne_of_gt lt) (Heap.get?_push_size _ rfl))
    have l8 : h8.objs.size = g2.objs.size + 1 := by rw [m8.1, m7.1, Heap.size_push]
    rw [sz] at z8 t8 l8
    refine wpAny_pure ⟨_, rfl, ?_⟩
    show Q (.ref g2.objs.size) ⟨h8, g, d, t2, os⟩
    rw [sz]
    exact k x1 x2 h8 t2 hx1 hx2 ⟨_, _, z8, .inr ⟨_, rfl⟩⟩ ⟨_, _, up _ _ S.TOz hT2⟩ (D1.frame _ _ _ j1 fun b hb o e => up b o (fun q => S.zf1 (q ▸ hb)) e) (D2.frame _ _ _ j2 fun b hb o e => up b o (fun q => S.zf2 (q ▸ hb)) e) t8 l8 fun c o cz cT c1 c2 e => up c o cz (kk c o cz cT c1 c2 e)
  case held =>
    simp only [Bool.false_eq_true, if_false]
    refine wpAny_bind ?_
    rw [← Array.forIn_toList]
    simp only [List.forIn_cons, List.forIn_nil]
    refine wpAny_bind (wpAny_bind (wpAny_holding ?_))
    show wpAny _ _ (Builtin.SmallTypes.nextOf (.ref i1) >>= _) _ _ ⟨h1, g, d, t0, os⟩
    refine wpAny_bind (D1.item i _ _ _ hi (D1.over s1 hs1 S.zf1) fun x1 p1 t1 hx1 m1 q1 => wpAny_pure ?_)
    have hp1 : Heap.SameBut i1 h1 p1 := q1
    refine wpAny_pure ?_
    refine wpAny_bind (wpAny_bind (wpAny_holding ?_))
    show wpAny _ _ (Builtin.SmallTypes.nextOf (.ref i2) >>= _) _ _ ⟨p1, g, d, t1, os⟩
    refine wpAny_bind (D2.item i _ _ _ hi2 (D2.over (D2.over s2 hs1 S.zf2) hp1 S.sep1_2) fun x2 p2 t2 hx2 m2 q2 => wpAny_pure ?_)
    have hp2 : Heap.SameBut i2 p1 p2 := q2
    refine wpAny_pure (wpAny_pure ?_)
    show wpAny _ _ (newTuple [x1, x2] >>= _) _ _ ⟨p2, g, d, t2, os⟩
    refine wpAny_bind (wpAny_newTuple ?_)
    have sz : p2.objs.size = hp.objs.size := by rw [hp2.1, hp1.1, hs1.1]
    have zz : IsZN p2 z TI TO f0 true := hp2.extBut _ _ S.zi2 (hp1.extBut _ _ S.zi1 hz1)
    have kk : ∀ c o, c ≠ z → c ≠ TO → c ≠ i1 → c ≠ i2 → hp.get? c = some o → p2.get? c = some o := fun c o cz _ c1 c2 e => hp2.extBut _ _ c2 (hp1.extBut _ _ c1 (hs1.extBut _ _ cz e))
    have uT : IsTupOf2 p2 TO a1 a2 := hp2.extBut _ _ S.Ti2 (hp1.extBut _ _ S.Ti1 (hs1.extBut _ _ S.TOz hTO))
    have j1 : St1 (i + 1) p2 := D1.over m1 hp2 S.sep2_1
    have t8 : IsTupOf2 (p2.push { cls := .type "tuple", data := .seq #[x1, x2] }) p2.objs.size x1 x2 := Heap.get?_push_size _ rfl
    have l8 : (p2.push { cls := .type "tuple", data := .seq #[x1, x2] }).objs.size = p2.objs.size + 1 := Heap.size_push ..
    refine wpAny_pure ⟨_, rfl, ?_⟩
    show Q (.ref p2.objs.size) ⟨p2.push { cls := .type "tuple", data := .seq #[x1, x2] }, g, d, t2, os⟩
    rw [sz] at t8 l8 ⊢
    exact k x1 x2 _ t2 hx1 hx2 ⟨_, _, Heap.get?_push_of_some _ zz, .inr ⟨T, hT⟩⟩ ⟨_, _, Heap.get?_push_of_some _ uT⟩ (D1.frame _ _ _ j1 fun b hb o e => Heap.get?_push_of_some _ e) (D2.frame _ _ _ m2 fun b hb o e => Heap.get?_push_of_some _ e) t8 l8
      fun c o cz cT c1 c2 e => Heap.get?_push_of_some _ (kk c o cz cT c1 c2 e)
theorem zn_end {Q : Fin → Shared → Prop} (S : ZipSep2 z TI TO i1 i2 fp1 fp2) (D1 : Draws prog w A i1 fp1 n1 P1 St1) (D2 : Draws prog w A i2 fp2 n2 P2 St2) (hz : IsZN s.heap z TI TO f0 fl) (hf : OwnV f0) (hTI : IsTupOf2 s.heap TI (.ref i1) (.ref i2)) (hTO : IsTupOf2 s.heap TO a1 a2)
    (s1 : St1 i s.heap) (s2 : St2 i s.heap) (le1 : i ≤ n1) (le2 : i ≤ n2) (hend : i = n1 ∨ i = n2)
    (k : ∀ h' tk e, (∀ c o, c ≠ z → c ≠ TO → c ≠ i1 → c ≠ i2 → s.heap.get? c = some o → h'.get? c = some o) → (∃ o, h'.get? e = some o ∧ o.cls = .type "StopIteration") → E (.ref e) { s with heap := h', toks := tk }) :
    wpAny (model prog w) A (Builtin.«zip.__next__» ⟨[.ref z], []⟩) Q E s := by
  obtain ⟨hp, g, d, t0, os⟩ := s
  show wpAny _ _ (field (.ref z) 2 >>= _) _ _ _
  refine wpAny_bind (wpAny_field hz rfl (x := .bool false) rfl ?_)
  show wpAny _ _ (field (.ref z) 3 >>= _) _ _ _
  refine wpAny_bind (wpAny_field hz rfl (x := .ref TI) rfl (wpAny_bind (wpAny_seqItems hTI rfl ?_)))
  show wpAny _ _ (Builtin.SmallTypes.ownedTupleIsFree (.ref z) >>= _) _ _ _
  refine wpAny_bind (isFreeN hz hf ?free fun T h1 hT hz1 hs1 => ?held)
  case free =>
    simp only [if_true]
    refine wpAny_bind (wpAny_rule (wpAny_bind (wpAny_field hz rfl (x := .ref TO) rfl (wpAny_bind (wpAny_setField_rec hz (by simp) fun g0 k0 b0 => ?_)))))
    have hz0 : IsZN g0 z TI TO .ellipsis fl := k0
    have hs0 : Heap.SameBut z hp g0 := b0
    clear k0 b0
    refine wpAny_bind ?_
    simp only [List.zipIdx_cons, List.zipIdx_nil, List.forIn_cons, List.forIn_nil]
    refine wpAny_bind (wpAny_bind (wpAny_onRaise ?_))
    show wpAny _ _ (Builtin.SmallTypes.nextOf (.ref i1) >>= _) _ _ ⟨g0, g, d, t0, os⟩
    by_cases hi : i < n1
    · refine wpAny_bind (D1.item i _ _ _ hi (D1.over s1 hs0 S.zf1) fun x1 p1 t1 hx1 m1 q1 => wpAny_pure ?_)
      have hp1 : Heap.SameBut i1 g0 p1 := q1
      clear q1
      have u1 : IsTupOf2 p1 TO a1 a2 := hp1.extBut _ _ S.Ti1 (hs0.extBut _ _ S.TOz hTO)
      refine wpAny_bind (wpAny_seqItems (s := ⟨p1, g, d, t1, os⟩) u1 rfl (wpAny_bind (updateSeq_IsTupOf2 (s := ⟨p1, g, d, t1, os⟩) u1 fun g1 c1 e1 => ?_)))
      have hs1 : Heap.SameBut TO p1 g1 := e1
      clear c1 e1
      refine wpAny_bind (wpAny_letGo (wpAny_pure (wpAny_bind (wpAny_bind (wpAny_onRaise ?_)))))
      show wpAny _ _ (Builtin.SmallTypes.nextOf (.ref i2) >>= _) _ _ ⟨g1, g, d, t1, os⟩
      have e2 : i = n2 := by omega
      refine wpAny_bind (D2.done ⟨g1, g, d, t1, os⟩ _ _ (e2 ▸ D2.over (D2.over (D2.over s2 hs0 S.zf2) hp1 S.sep1_2) hs1 S.Tf2) fun q e hq ⟨oe, hoe, hce⟩ => ?_)
      have hq : Heap.ExtBut i2 g1 q := hq
      have hoe : q.get? e = some oe := hoe
      have hzq : IsZN q z TI TO .ellipsis fl := hq _ _ S.zi2 (hs1.extBut _ _ S.TOz.symm (hp1.extBut _ _ S.zi1 hz0))
      have nez : e ≠ z := fun x => by
        rw [x, hzq] at hoe
        cases hoe
        simp at hce
      refine wpAny_setField_rec (s := ⟨q, g, d, t1, os⟩) hzq (by simp) fun r c2 hr => ?_
      have hr : Heap.SameBut z q r := hr
      exact k r t1 e (fun c o cz cT k1 k2 x => hr.extBut _ _ cz (hq _ _ k2 (hs1.extBut _ _ cT (hp1.extBut _ _ k1 (hs0.extBut _ _ cz x))))) ⟨oe, hr.extBut _ _ nez hoe, hce⟩
    · have e1 : i = n1 := by omega
      refine wpAny_bind (D1.done ⟨g0, g, d, t0, os⟩ _ _ (e1 ▸ D1.over s1 hs0 S.zf1) fun q e hq ⟨oe, hoe, hce⟩ => ?_)
      have hq : Heap.ExtBut i1 g0 q := hq
      have hoe : q.get? e = some oe := hoe
      have hzq : IsZN q z TI TO .ellipsis fl := hq _ _ S.zi1 hz0
      have nez : e ≠ z := fun x => by
        rw [x, hzq] at hoe
        cases hoe
        simp at hce
      refine wpAny_setField_rec (s := ⟨q, g, d, t0, os⟩) hzq (by simp) fun r c2 hr => ?_
      have hr : Heap.SameBut z q r := hr
      exact k r t0 e (fun c o cz cT k1 k2 x => hr.extBut _ _ cz (hq _ _ k1 (hs0.extBut _ _ cz x))) ⟨oe, hr.extBut _ _ nez hoe, hce⟩
  case held =>
    simp only [Bool.false_eq_true, if_false]
    refine wpAny_bind ?_
    rw [← Array.forIn_toList]
    simp only [List.forIn_cons, List.forIn_nil]
    refine wpAny_bind (wpAny_bind (wpAny_holding ?_))
    show wpAny _ _ (Builtin.SmallTypes.nextOf (.ref i1) >>= _) _ _ ⟨h1, g, d, t0, os⟩
    by_cases hi : i < n1
    · refine wpAny_bind (D1.item i _ _ _ hi (D1.over s1 hs1 S.zf1) fun x1 p1 t1 hx1 m1 q1 => wpAny_pure (wpAny_pure ?_))
      have hp1 : Heap.SameBut i1 h1 p1 := q1
      refine wpAny_bind (wpAny_bind (wpAny_holding ?_))
      show wpAny _ _ (Builtin.SmallTypes.nextOf (.ref i2) >>= _) _ _ ⟨p1, g, d, t1, os⟩
      have e2 : i = n2 := by omega
      refine wpAny_bind (D2.done ⟨p1, g, d, t1, os⟩ _ _ (e2 ▸ D2.over (D2.over s2 hs1 S.zf2) hp1 S.sep1_2) fun q e hq he => ?_)
      have hq : Heap.ExtBut i2 p1 q := hq
      exact k q t1 e (fun c o cz cT k1 k2 x => hq _ _ k2 (hp1.extBut _ _ k1 (hs1.extBut _ _ cz x))) he
    · have e1 : i = n1 := by omega
      refine wpAny_bind (D1.done ⟨h1, g, d, t0, os⟩ _ _ (e1 ▸ D1.over s1 hs1 S.zf1) fun q e hq he => ?_)
      have hq : Heap.ExtBut i1 h1 q := hq
      exact k q t0 e (fun c o cz cT k1 k2 x => hq _ _ k1 (hs1.extBut _ _ cz x)) he
end
end Fz
/-! FzHk: dict(zip(x, y)), dict(pairs) with keys that are tuples of ints. -/
namespace Fz
open PySem PySem.Spec PyProof.Rows L2
section
variable {prog : Program} {w : World} {A : Around} {E : Value → Shared → Prop} {s : Shared} {z TI TO i1 i2 : Addr} {fp1 fp2 : List Addr} {n1 n2 i : Nat} {P1 P2 : Nat → Value → Prop} {St1 St2 : Nat → Heap → Prop} {a1 a2 : Value} {f0 : Value} {fl : Bool}
/-- a plain zip that stands at its i-th item -/
def ZNS (z TI TO i1 i2 : Addr) (St1 St2 : Nat → Heap → Prop) (i : Nat) (h : Heap) : Prop := (∃ f0 fl, IsZN h z TI TO f0 fl ∧ OwnV f0) ∧ IsTupOf2 h TI (.ref i1) (.ref i2) ∧ (∃ a b, IsTupOf2 h TO a b) ∧ St1 i h ∧ St2 i h
theorem znNext {Q : Option Value → Shared → Prop} (S : ZipSep2 z TI TO i1 i2 fp1 fp2) (D1 : Draws prog w A.in1 i1 fp1 n1 P1 St1) (D2 : Draws prog w A.in1 i2 fp2 n2 P2 St2) (x : ZNS z TI TO i1 i2 St1 St2 i s.heap) (h1 : i < n1) (h2 : i < n2)
    (k : ∀ x1 x2 h' tk, P1 i x1 → P2 i x2 → ZNS z TI TO i1 i2 St1 St2 (i + 1) h' → IsTupOf2 h' s.heap.objs.size x1 x2 →
      (∀ c o, c ≠ z → c ≠ TO → c ≠ i1 → c ≠ i2 → s.heap.get? c = some o → h'.get? c = some o) → Q (some (.ref s.heap.objs.size)) { s with heap := h', toks := tk }) : wpAny (model prog w) A (pyNext (.ref z)) Q E s := by
  obtain ⟨⟨f0, fl, hz, hf⟩, hTI, ⟨p, q, hTO⟩, s1, s2⟩ := x
  have hT : s.TypeIs (.ref z) "zip" := ⟨_, hz, rfl⟩
  unfold pyNext
  exact wpAny_bind (wpAny_attempt (wpAny_callSpecial?_slot (name := Str.ofString "__next__") hT F.slot_zip_next (wpAny_call_entry F.slot_zip_next hT F.entry_zip_next
    (zn_item S D1 D2 hz hf hTI hTO s1 s2 h1 h2 fun x1 x2 h' tk y1 y2 b1 b2 d1 d2 b5 b6 b7 => wpAny_pure (k x1 x2 h' tk y1 y2 ⟨b1, b7 _ _ S.TIz S.TITO S.TIi1 S.TIi2 hTI, b2, d1, d2⟩ b5 b7)) (F.args_zip_next_1 _))))
theorem znStop {Q : Option Value → Shared → Prop} (S : ZipSep2 z TI TO i1 i2 fp1 fp2) (D1 : Draws prog w A.in1 i1 fp1 n1 P1 St1) (D2 : Draws prog w A.in1 i2 fp2 n2 P2 St2) (x : ZNS z TI TO i1 i2 St1 St2 i s.heap) (l1 : i ≤ n1) (l2 : i ≤ n2) (hend : i = n1 ∨ i = n2)
    (k : ∀ h' tk, (∀ c o, c ≠ z → c ≠ TO → c ≠ i1 → c ≠ i2 → s.heap.get? c = some o → h'.get? c = some o) → Q none { s with heap := h', toks := tk }) : wpAny (model prog w) A (pyNext (.ref z)) Q E s := by
  obtain ⟨⟨f0, fl, hz, hf⟩, hTI, ⟨p, q, hTO⟩, s1, s2⟩ := x
  have hT : s.TypeIs (.ref z) "zip" := ⟨_, hz, rfl⟩
  unfold pyNext
  refine wpAny_bind (wpAny_attempt (wpAny_callSpecial?_slot (name := Str.ofString "__next__") hT F.slot_zip_next (wpAny_call_entry F.slot_zip_next hT F.entry_zip_next (zn_end S D1 D2 hz hf hTI hTO s1 s2 l1 l2 hend fun h' tk e hk ⟨o, ho, hc⟩ => ?_) (F.args_zip_next_1 _))))
  exact wpAny_bind (wpAny_isInstance (T := "StopIteration") (b := true) ⟨o, ho, hc⟩ isSubtype_stop (wpAny_pure (k _ _ hk)))
end
/-- zip(x, y) over lists and tuples, as dict's argument -/
theorem argZip {prog : Program} {w : World} {z TI TO i1 i2 l1 l2 : Addr} (b1 b2 : Bool) (S : ZipSep2 z TI TO i1 i2 [i1, l1] [i2, l2]) (ne1 : l1 ≠ i1) (ne2 : l2 ≠ i2) (xs ys : Array Value) :
    PairArg prog w "zip" z [z, TI, TO, i1, i2, l1, l2] [z, TO, i1, i2] (min xs.size ys.size) (fun i k v => xs[i]? = some k ∧ ys[i]? = some v)
      (fun h => IsZip h z TI TO .none ∧ IsTupOf2 h TI (.ref i1) (.ref i2) ∧ (∃ a b, IsTupOf2 h TO a b) ∧ StI b1 i1 l1 xs 0 h ∧ StI b2 i2 l2 ys 0 h) where
  type := fun s ok => ⟨_, ok.1, rfl⟩
  notDict := by decide
  keep := fun h h' ok hk => by
    obtain ⟨hz, hTI, ⟨a, b, hTO⟩, h1, h2⟩ := ok
    exact ⟨hk _ _ hz, hk _ _ hTI, ⟨a, b, hk _ _ hTO⟩, ⟨h1.1.at fun o e => hk _ o e, (begins b1 l1 xs).keeps _ _ h1.2 hk⟩, ⟨h2.1.at fun o e => hk _ o e, (begins b2 l2 ys).keeps _ _ h2.2 hk⟩⟩
  there := fun h ok b hb => by
    obtain ⟨hz, hTI, ⟨a, c, hTO⟩, h1, h2⟩ := ok
    obtain ⟨o1, e1, _⟩ := h1.1.obj
    obtain ⟨o2, e2, _⟩ := h2.1.obj
    have lk : ∀ (b : Bool) (l : Addr) (it : Array Value), SqAt b h l it → ∃ o, h.get? l = some o := fun b l it q => by
      cases b with
      | true => obtain ⟨o, e, _⟩ := (show h.IsTuple l it from q); exact ⟨o, e⟩
      | false => obtain ⟨o, e, _⟩ := (show h.IsList l it from q); exact ⟨o, e⟩
    simp only [List.mem_cons, List.not_mem_nil, or_false] at hb
    rcases hb with rfl | rfl | rfl | rfl | rfl | rfl | rfl
    · exact ⟨_, hz⟩
    · exact ⟨_, hTI⟩
    · exact ⟨_, hTO⟩
    · exact ⟨_, e1⟩
    · exact ⟨_, e2⟩
    · exact lk _ _ _ h1.2
    · exact lk _ _ _ h2.2
  sub := fun b hb => by simp at hb ⊢; rcases hb with rfl | rfl | rfl | rfl <;> simp
  noKeys := fun A s Q E hA ok h => getAttrOr_miss_zip ok.1 rfl rfl rfl zip_no_keys (by decide +kernel) hA h
  iter := fun A s d Q E hA ok hd hdf h => by
    obtain ⟨hz, hTI, ⟨a, b, hTO⟩, h1, h2⟩ := ok
    simp only [List.mem_cons, List.not_mem_nil, or_false, not_or] at hdf
    obtain ⟨dz, dTI, dTO, di1, di2, dl1, dl2⟩ := hdf
    have D1 := draws (prog := prog) (w := w) (A := A.in1) hA b1 i1 l1 ne1 xs
    have D2 := draws (prog := prog) (w := w) (A := A.in1) hA b2 i2 l2 ne2 ys
    refine wpAny_pyIter_zip hz (h z [z, TO, i1, i2] (ZNS z TI TO i1 i2 (StI b1 i1 l1 xs) (StI b2 i2 l2 ys)) s.heap s.toks ?_ ⟨⟨.none, false, hz, .inl rfl⟩, hTI, ⟨a, b, hTO⟩, h1, h2⟩ (fun _ _ e => e) fun b hb => .inl hb)
    exact {
      off := fun hm => by
        simp only [List.mem_cons, List.not_mem_nil, or_false] at hm
        rcases hm with e | e | e | e
        · exact dz e
        · exact dTO e
        · exact di1 e
        · exact di2 e
      frame := fun i h₁ h₂ st hk => by
        obtain ⟨⟨f0, fl, q1, q2⟩, q3, ⟨p, q, q4⟩, q5, q6⟩ := st
        refine ⟨⟨f0, fl, hk _ _ (Ne.symm dz) q1, q2⟩, hk _ _ (Ne.symm dTI) q3, ⟨p, q, hk _ _ (Ne.symm dTO) q4⟩, D1.frame _ _ _ q5 fun b hb o e => hk b o (fun y => ?_) e, D2.frame _ _ _ q6 fun b hb o e => hk b o (fun y => ?_) e⟩
        · subst y
          simp only [List.mem_cons, List.not_mem_nil, or_false] at hb
          rcases hb with e | e
          · exact di1 e
          · exact dl1 e
        · subst y
          simp only [List.mem_cons, List.not_mem_nil, or_false] at hb
          rcases hb with e | e
          · exact di2 e
          · exact dl2 e
      item := fun i s₁ Q₁ E₁ hi st _ hQ => znNext S D1 D2 st (Nat.lt_of_lt_of_le hi (Nat.min_le_left ..)) (Nat.lt_of_lt_of_le hi (Nat.min_le_right ..)) fun x1 x2 h' tk y1 y2 st' ht hk =>
        hQ s₁.heap.objs.size _ _ h' tk ⟨y1, y2⟩ (.inl ⟨_, ht, rfl, _, rfl⟩) st' fun c o hc e => hk c o (fun x => hc (by simp [x])) (fun x => hc (by simp [x])) (fun x => hc (by simp [x])) (fun x => hc (by simp [x])) e
      done := fun s₁ Q₁ E₁ st hQ => znStop S D1 D2 st (Nat.min_le_left ..) (Nat.min_le_right ..) (by
        rcases Nat.le_total xs.size ys.size with h | h
        · exact .inl (Nat.min_eq_left h)
        · exact .inr (Nat.min_eq_right h)) fun h' tk hk => hQ h' tk fun c o hc e => hk c o (fun x => hc (by simp [x])) (fun x => hc (by simp [x])) (fun x => hc (by simp [x])) (fun x => hc (by simp [x])) e }
/-! ### what the dict holds -/
def mergeV (kws : List (List L2.Key × V)) : List (List L2.Key × V) := kws.foldl (fun acc p => putK acc p.1 p.2) []
theorem kt_merge {H : Hp} : ∀ {kws : List (List L2.Key × V)} {ps : List (List L2.Key × Addr × Value)} {acc : List (List L2.Key × V)} {xs : List (List L2.Key × Addr × Value)}, KT H kws ps → KT H acc xs →
    KT H (kws.foldl (fun acc p => putK acc p.1 p.2) acc) (storedAllH xs ps)
  | _, _, _, _, .nil, r => r
  | _, _, acc, xs, .cons (a := p) (b := q) ⟨e1, e2, e3⟩ t, r => by
    show KT H (List.foldl _ (putK acc p.1 p.2) _) (storedAllH (storedH xs q.1 q.2.1 q.2.2) _)
    rw [← e1]
    exact kt_merge t (r.put p.1 e2 e3)
theorem mergeV_len (kws : List (List L2.Key × V)) : (mergeV kws).length ≤ kws.length := by
  have h : ∀ (kws acc : List (List L2.Key × V)), (kws.foldl (fun acc p => putK acc p.1 p.2) acc).length ≤ acc.length + kws.length := by
    intro kws
    induction kws with
    | nil => intro acc; exact Nat.le_refl _
    | cons p r ih =>
      intro acc
      have h1 := ih (putK acc p.1 p.2)
      have h2 := length_putK acc p.1 p.2
      simp only [List.foldl_cons, List.length_cons]
      omega
  have := h kws []
  simpa [mergeV] using this
section
variable {K : PySem.W.Frag} {sp : Addr} {F : Hp}
theorem intsOf_is : ∀ {ds : List D} {ns : List Int}, intsOf ds = some ns → ds = ns.map .int
  | [], ns, h => by cases h; rfl
  | .int i :: r, ns, h => by
    obtain ⟨ms, e, rfl⟩ := Option.map_eq_some_iff.mp (show (intsOf r).map (i :: ·) = some ns from h)
    rw [intsOf_is e]; rfl
  | .none :: _, _, h => by cases h
  | .bool _ :: _, _, h => by cases h
  | .str _ :: _, _, h => by cases h
  | .list _ :: _, _, h => by cases h
  | .tuple _ :: _, _, h => by cases h
  | .dict _ :: _, _, h => by cases h
theorem rpK_repl {v : V} {d : D} (rv : Rp K sp F v d) (ns : List Int) : ∀ {kws : List (List L2.Key × V)} {kvs : List (D × D)}, RpK K sp F kws kvs →
    RpK K sp F (kws.map fun kv => if kv.1 = ns.map Sum.inl then (kv.1, v) else kv) (kvs.map fun p => if sameK p.1 (.tuple (ns.map .int)) then (p.1, d) else p)
  | _, _, .nil => .nil
  | _, _, .cons (ns := ms) (v := v0) (d := d0) h a => by
    have es : sameK (.tuple (ms.map .int)) (.tuple (ns.map .int)) = decide (ms = ns) := by
      show (match intsOf (ms.map .int), intsOf (ns.map .int) with | some x, some y => decide (x = y) | _, _ => false) = _
      rw [intsOf_map, intsOf_map]
    rw [List.map_cons, List.map_cons]
    by_cases q : ms = ns
    · subst q
      rw [if_pos rfl]
      have e : (if sameK (PyData.tuple (ms.map .int), d0).1 (.tuple (ms.map .int)) = true then ((PyData.tuple (ms.map .int), d0).1, d) else (PyData.tuple (ms.map .int), d0)) = (PyData.tuple (ms.map .int), d) := by
        show (if sameK (.tuple (ms.map .int)) (.tuple (ms.map .int)) = true then _ else _) = _
        rw [es, decide_eq_true rfl, if_pos rfl]
      rw [e]
      exact .cons rv (rpK_repl rv ms a)
    · rw [if_neg (fun z => q (map_inl z))]
      have e : (if sameK (PyData.tuple (ms.map .int), d0).1 (.tuple (ns.map .int)) = true then ((PyData.tuple (ms.map .int), d0).1, d) else (PyData.tuple (ms.map .int), d0)) = (PyData.tuple (ms.map .int), d0) := by
        show (if sameK (.tuple (ms.map .int)) (.tuple (ns.map .int)) = true then _ else _) = _
        rw [es, decide_eq_false q, if_neg Bool.false_ne_true]
      rw [e]
      exact .cons h (rpK_repl rv ns a)
theorem rpK_snoc {v : V} {d : D} (rv : Rp K sp F v d) (ns : List Int) : ∀ {kws : List (List L2.Key × V)} {kvs : List (D × D)}, RpK K sp F kws kvs → RpK K sp F (kws ++ [(ns.map Sum.inl, v)]) (kvs ++ [(.tuple (ns.map .int), d)])
  | _, _, .nil => .cons rv .nil
  | _, _, .cons h a => .cons h (rpK_snoc rv ns a)
theorem rpK_put {v : V} {d : D} (rv : Rp K sp F v d) (ns : List Int) {kws : List (List L2.Key × V)} {kvs : List (D × D)} (a : RpK K sp F kws kvs) : RpK K sp F (putK kws (ns.map Sum.inl) v) (putD kvs (.tuple (ns.map .int)) d) := by
  have e : (kws.any fun kv => decide (kv.1 = ns.map (Sum.inl : Int → L2.Key))) = hasD kvs (.tuple (ns.map .int)) := by
    rw [valV_any]; exact (rpK_val a _ ns (intsOf_map ns)).2
  unfold putK putD
  rw [e]
  by_cases q : hasD kvs (.tuple (ns.map .int)) = true
  · rw [if_pos q, if_pos q]; exact rpK_repl rv ns a
  · rw [if_neg q, if_neg q]; exact rpK_snoc rv ns a
theorem rpK_fold : ∀ (kws : List (List L2.Key × V)) (ps : List (D × D)) {acc : List (List L2.Key × V)} {kvs : List (D × D)}, RpK K sp F kws ps → RpK K sp F acc kvs →
    RpK K sp F (kws.foldl (fun acc p => putK acc p.1 p.2) acc) (ps.foldl (fun acc p => putD acc p.1 p.2) kvs)
  | [], [], _, _, .nil, r => r
  | _ :: kws, _ :: ps, _, _, .cons (ns := ns) h a, r => rpK_fold kws ps a (rpK_put h ns r)
theorem rpK_merge {kws : List (List L2.Key × V)} {ps : List (D × D)} (a : RpK K sp F kws ps) : RpK K sp F (mergeV kws) (mergeD ps) := rpK_fold kws ps a .nil
end
section
variable {X : Cx}
/-- a dict is laid -/
theorem dict_laid {pins : List (Addr × Obj)} {σ : L2.St} {H : Hp} {s : Shared} {h' : Heap} {tk : Nat} {d : Addr} {kws : List (List L2.Key × V)} {ps : List (List L2.Key × Addr × Value)} (I : Inv X pins σ H s) (kt : KT H kws ps) (hl : kws.length ≤ sizeLine) (hd0 : s.heap.objs.size ≤ d)
    (hd : h'.DictOfH (tupleKind (mixKind X.prog X.w)) d (storedAllH [] ps)) (keep : ∀ b o, s.heap.get? b = some o → h'.get? b = some o) :
    Inv X pins σ (upd H d (.dT (mergeV kws))) { s with heap := h', toks := tk } := by
  have hm : (d == sysModules) = false := beq_eq_false_iff_ne.mpr (Nat.ne_of_gt (Nat.lt_of_lt_of_le I.big hd0))
  have hf := I.hok.fresh hd0
  obtain ⟨o, es, ep, e1, e2, e3, e4, _, e6⟩ := hd
  refine I.laid keep hd0 ?_
  refine ⟨Nat.le_trans (mergeV_len kws) hl, hm, storedAllH [] ps, ?_, o, es, ep, e1, e2, e3, e4, e6⟩
  refine KT.keeps (kt_merge kt .nil) fun b ys q => ?_
  rw [upd_ne (ne_of_none q hf)]; exact q
theorem keys_stay {pins : List (Addr × Obj)} {σ : L2.St} {H : Hp} {s s2 : Shared} {wr : List Addr} (I : Inv X pins σ H s) (keep : ∀ b o, s.heap.get? b = some o → s2.heap.get? b = some o) (le : s.heap.objs.size ≤ s2.heap.objs.size) (hw : ∀ b ∈ wr, s.heap.objs.size ≤ b) :
    ∀ {kws : List (List L2.Key × V)} {ps : List (List L2.Key × Addr × Value)}, KT H kws ps → KeysStay (tupleKind (mixKind X.prog X.w)) s2.heap s2.heap.objs.size wr ps := by
  intro kws ps kt h' hk x hx
  induction kt with
  | nil => cases hx
  | cons h t ih =>
    rcases List.mem_cons.mp hx with rfl | hx
    · obtain ⟨e1, e2, _⟩ := h
      obtain ⟨o, its, n, q1, q2, q3, q4⟩ := key_of I.hok e2
      rw [← e1]
      have lt := Heap.lt_size q1
      exact ⟨o, its, n, hk _ _ (Nat.ne_of_lt (Nat.lt_of_lt_of_le lt le)) (fun m => absurd (hw _ m) (Nat.not_le_of_lt lt)) (keep _ _ q1), q2, q3, q4⟩
    · exact ih hx
end
end Fz
/-! FzHm: dict(zip(x, y)), dict(pairs), read. -/
namespace Fz
open PySem PySem.Spec PyProof.Rows L2
def refA : Value → Addr
  | .ref a => a
  | _ => 0
def mkPs : List (List Int) → List Value → List Value → List (List L2.Key × Addr × Value)
  | ns :: nss, k :: ks, v :: vs => (ns.map Sum.inl, refA k, v) :: mkPs nss ks vs
  | _, _, _ => []
theorem mkPs_len : ∀ (nss : List (List Int)) (ks vs : List Value), nss.length = ks.length → (mkPs nss ks vs).length = min ks.length vs.length
  | [], [], vs, _ => by simp [mkPs]
  | _ :: _, _ :: _, [], _ => by simp [mkPs]
  | _ :: nss, _ :: ks, _ :: vs, h => by
    show (mkPs nss ks vs).length + 1 = _
    rw [mkPs_len nss ks vs (by simpa using h), List.length_cons, List.length_cons, Nat.succ_min_succ]
  | [], _ :: _, _, h => by cases h
  | _ :: _, [], _, h => by cases h
theorem mkPs_get {H : Hp} : ∀ {xs : List V} {nss : List (List Int)} {ks vs : List Value} (i : Nat) (k v : Value), TupsH H xs nss → Vals xs ks → ks[i]? = some k → vs[i]? = some v → ∃ key b, (mkPs nss ks vs)[i]? = some (key, b, v) ∧ k = .ref b
  | _, _, _, _, i, k, v, .nil, .nil, h, _ => by simp at h
  | _, _, _, [], i, k, v, _, _, _, h => by simp at h
  | _, ns :: _, _, u :: _, 0, k, v, .cons (a := a) h t, .cons r rt, h1, h2 => by
    cases r
    simp at h1 h2
    subst h1 h2
    exact ⟨ns.map Sum.inl, a, rfl, rfl⟩
  | _, _, _, _ :: _, i + 1, k, v, .cons h t, .cons r rt, h1, h2 => by
    obtain ⟨key, b, e1, e2⟩ := mkPs_get i k v t rt (by simpa using h1) (by simpa using h2)
    exact ⟨key, b, by simpa [mkPs] using e1, e2⟩
theorem mkPs_kt {H : Hp} : ∀ {xs ys : List V} {nss : List (List Int)} {ks vs : List Value}, TupsH H xs nss → Vals xs ks → Vals ys vs → KT H ((nss.map fun ns => ns.map Sum.inl).zip ys) (mkPs nss ks vs)
  | _, _, _, _, _, .nil, .nil, _ => .nil
  | _, _, _, _, _, .cons _ _, .cons _ _, .nil => by
    show Paired _ [] []
    exact .nil
  | _, _, _, _, _, .cons (a := a) (ns := ns) h t, .cons r rt, .cons q qt => by
    cases r
    exact .cons ⟨rfl, by rw [kV_ints]; exact h, q⟩ (mkPs_kt t rt qt)
section
variable {X : Cx} {G : Gx}
theorem sq_len {pins : List (Addr × Obj)} {s : Shared} {σ : L2.St} {H : Hp} {b : Bool} {a : Addr} {xs : List V} (I : Inv X pins σ H s) (h : Sq b X.K H a xs) : xs.length ≤ sizeLine := by
  cases b with
  | true => obtain ⟨_, _, _, hz⟩ := I.tuple h; exact hz
  | false => obtain ⟨_, _, _, hz⟩ := I.list h; exact hz
theorem tups_len {H : Hp} : ∀ {xs : List V} {nss : List (List Int)}, TupsH H xs nss → nss.length = xs.length
  | _, _, .nil => rfl
  | _, _, .cons _ t => congrArg (· + 1) (tups_len t)
def tDZip (K : PySem.W.Frag) (ta : TA) : TE := fun σ H Q => ta σ H fun vs H1 => ∃ b1 b2 a1 a2 xs ys nss, vs = [.ref a1, .ref a2] ∧ Sq b1 K H1 a1 xs ∧ Sq b2 K H1 a2 ys ∧ TupsH H1 xs nss ∧
  ∀ p, H1 p = none → Q (.ref p) (upd H1 p (.dT (mergeV ((nss.map fun ns => ns.map Sum.inl).zip ys))))
theorem pe_dzip {e e2 : Expr} {ta : TA} {p pos pD posD : Pos} (hc : X.calm = true) (hu : X.A.units + 65 < cLine) (hg : Gl X "zip") (hm : X.mg "zip" = none) (hgD : Gl X "dict") (hmD : X.mg "dict" = none) (ha : PA X [e, e2] ta) (hs : starEach [e, e2] X.env = (false, eval e X.env) :: starEach [e2] X.env) (hpl : (backTo pos (starEach [e2] X.env)).any (·.1) = false) :
    PE X (.Call (.Name "dict" pD) [.Call (.Name "zip" p) [e, e2] [] pos] [] posD) (tDZip X.K ta) := by
  refine ⟨fun pins s σ H Q I h => Call_ (ld_blt I hgD hmD PyProof.Rows.boot_dict (PyProof.Rows.callWith_type1 (Calls.spliced_cons (Call_ (ld_blt I hg hm PyProof.Rows.boot_zip (PyProof.Rows.callWith_type1 (thn (ha.run pos pins s σ H _ I h) fun us s1 ⟨vs, H1, I1, r1, b1, b2, a1, a2, xs, ys, nss, ex, hqx, hqy, ht, q⟩ => ?_) hs hpl)))) rfl rfl))⟩
  subst ex
  obtain ⟨w1, w2, rfl, r, r'⟩ := vals2 r1
  cases r
  cases r'
  have hz := sq_len I1 hqx
  obtain ⟨its, rv, p1⟩ := sq_get I1 hqx
  obtain ⟨its2, rv2, p2⟩ := sq_get I1 hqy
  refine zip_begins2 (begins b1 a1 its.toArray) (begins b2 a2 its2.toArray) p1 p2 fun h' hz' hTI hTO g1 g2 hsz hk => Calls.spliced_nil ?_
  have l1 := sq_lt p1
  have l2 := sq_lt p2
  have J : Inv X pins σ H1 { s1 with heap := h' } := I1.kept (t' := s1.toks) hk
  have kt := mkPs_kt ht rv rv2
  have hlen : (mkPs nss its its2).length = min its.length its2.length := mkPs_len nss its its2 ((tups_len ht).trans rv.length)
  refine call_dict_pairsH (knd := tupleKind (mixKind X.prog X.w)) (ps := mkPs nss its its2) (s := { s1 with heap := h' }) (argZip b1 b2 (sep_new (n := s1.heap.objs.size) l1 l2) (Nat.ne_of_lt l1) (Nat.ne_of_lt (Nat.lt_succ_of_lt l2)) its.toArray its2.toArray) (I1.ok.hd hc) ?_
    ⟨hz', hTI, ⟨_, _, hTO⟩, ⟨.mk g1, (begins b1 a1 its.toArray).keeps _ _ p1 hk⟩, ⟨.mk g2, (begins b2 a2 its2.toArray).keeps _ _ p2 hk⟩⟩ ⟨by rw [hlen]; simp, fun i key v ⟨x1, x2⟩ => ?_⟩ ?_ ?_ fun h2 tk hd hk2 => ?_
  · show X.A.units + 1 + 1 < cLine
    omega
  · have x1 : its[i]? = some key := by simpa using x1
    have x2 : its2[i]? = some v := by simpa using x2
    exact mkPs_get i key v ht rv x1 x2
  · refine keys_stay (s2 := { s1 with heap := h' }) I1 hk (by show s1.heap.objs.size ≤ h'.objs.size; omega) (fun b hb => ?_) kt
    simp only [List.mem_cons, List.not_mem_nil, or_false] at hb
    rcases hb with rfl | rfl | rfl | rfl <;> omega
  · rw [List.size_toArray, List.size_toArray]
    have := rv.length
    omega
  · have kk : ∀ b o, s1.heap.get? b = some o → h2.get? b = some o := fun b o z => hk2 b o (fun m => by
      have lt : (b : Nat) < s1.heap.objs.size := Heap.lt_size z
      simp only [List.mem_cons, List.not_mem_nil, or_false] at m
      rcases m with m | m | m | m <;> (rw [m] at lt; exact absurd lt (by first | exact Nat.lt_irrefl _ | exact Nat.not_lt_of_le (Nat.le_add_right _ _)))) (hk b o z)
    have hz2 : ((nss.map fun ns => ns.map (Sum.inl : Int → L2.Key)).zip ys).length ≤ sizeLine := by
      rw [List.length_zip, List.length_map, tups_len ht]; omega
    have hf : H1 h'.objs.size = none := I1.hok.fresh (by show s1.heap.objs.size ≤ h'.objs.size; omega)
    exact ⟨.ref _, _, dict_laid (s := s1) (tk := tk) I1 kt hz2 (by show s1.heap.objs.size ≤ h'.objs.size; omega) hd kk, rfl, q _ hf⟩
/-- dict(pairs), the keys tuples of ints that stand -/
inductive PairsT (K : PySem.W.Frag) (H : Hp) : List V → List (List Int) → List V → Prop
  | nil : PairsT K H [] [] []
  | cons {t b : Addr} {ns : List Int} {y : V} {xs ys : List V} {nss : List (List Int)} : SqT K H t [.ref b, y] → H b = some (.tup (ns.map V.int)) → PairsT K H xs nss ys → PairsT K H (.ref t :: xs) (ns :: nss) (y :: ys)
theorem pairsT_real {pins : List (Addr × Obj)} {σ : L2.St} {H : Hp} {s : Shared} (I : Inv X pins σ H s) : ∀ {xs ys : List V} {nss : List (List Int)}, PairsT X.K H xs nss ys →
    ∃ (ts : List Addr) (ps : List (List L2.Key × Addr × Value)), xs = ts.map V.ref ∧ ts.length = ps.length ∧ KT H ((nss.map fun ns => ns.map Sum.inl).zip ys) ps ∧ nss.length = ps.length ∧ ys.length = ps.length ∧
      ∀ (j : Nat) (q : List L2.Key × Addr × Value), ps[j]? = some q → ∃ t, ts[j]? = some t ∧ s.heap.IsTuple t #[.ref q.2.1, q.2.2]
  | _, _, _, .nil => ⟨[], [], rfl, rfl, .nil, rfl, rfl, fun j q e => by simp at e⟩
  | _, _, _, .cons (t := t) (b := b) (ns := ns) h h2 r => by
    obtain ⟨ts, ps, e1, e2, kt, e3, e4, hp⟩ := pairsT_real I r
    obtain ⟨its, rv, ht, _⟩ := I.tuple h
    obtain ⟨u, v, ei, ru, ry⟩ := vals2 rv
    cases ru
    subst ei
    refine ⟨t :: ts, (ns.map Sum.inl, b, v) :: ps, by rw [e1]; rfl, by simp [e2], .cons ⟨rfl, by rw [kV_ints]; exact h2, ry⟩ kt, by simp [e3], by simp [e4], fun j q e => ?_⟩
    cases j with
    | zero =>
      have e' : (ns.map Sum.inl, b, v) = q := Option.some.inj e
      subst e'
      exact ⟨t, rfl, ht⟩
    | succ j =>
      obtain ⟨t', x1, x2⟩ := hp j q (by simpa using e)
      exact ⟨t', by simpa using x1, x2⟩
theorem call_dictT (hc : X.calm = true) (hu : X.A.units + 65 < cLine) : CallR X (.type "dict") (fun xs H Q => ∃ (a : Addr) (vs ys : List V) (nss : List (List Int)), xs = [.ref a] ∧ SqL X.K H a vs ∧ PairsT X.K H vs nss ys ∧
    ∀ p, H p = none → Q (.ref p) (upd H p (.dT (mergeV ((nss.map fun ns => ns.map Sum.inl).zip ys))))) := by
  intro pins s σ H xs us Q I r ⟨a, vs, ys, nss, ex, hq, hp, q⟩
  subst ex
  obtain ⟨u, eu, rx⟩ := vals1 r
  subst eu
  cases rx
  obtain ⟨its, rv, pl, hz⟩ := I.list hq
  obtain ⟨ts, ps, e1, e2, kt, e3, e4, hpt⟩ := pairsT_real I hp
  subst e1
  have ei := refs_at rv
  subst ei
  obtain ⟨o, n, ho, hcl, hd, hdat⟩ := pl
  rw [List.length_map] at hz
  have ar := PairArg.list (prog := X.prog) (w := X.w) a ((ts.map Value.ref).toArray) (fun j => (ts[j]?).getD 0) (ps.map fun q => (Value.ref q.2.1, q.2.2))
  refine call_dict_pairsH (knd := tupleKind (mixKind X.prog X.w)) (ps := ps) ar (I.ok.hd hc) (by show X.A.units + 1 + 1 < cLine; omega) ⟨⟨o, n, ho, hcl, hd, hdat⟩, by simp [e2], fun j k v e => ?_⟩ ⟨by simp, fun i key v e => ?_⟩ ?_ (by simp; omega) fun h2 tk hd' hk2 => ?_
  · rw [List.getElem?_map] at e
    obtain ⟨q, e5, e6⟩ := Option.map_eq_some_iff.mp e
    cases e6
    obtain ⟨t, x1, x2⟩ := hpt j q e5
    have x3 : (ts[j]?).getD 0 = t := by rw [x1]; rfl
    refine ⟨by simp [x1], .inl ?_⟩
    show s.heap.IsTuple ((ts[j]?).getD 0) _
    rw [x3]; exact x2
  · have e : (ps.map fun q => (Value.ref q.2.1, q.2.2))[i]? = some (key, v) := e
    rw [List.getElem?_map] at e
    obtain ⟨q, e5, e6⟩ := Option.map_eq_some_iff.mp e
    cases e6
    exact ⟨q.1, q.2.1, e5, rfl⟩
  · exact keys_stay (s2 := s) I (fun _ _ z => z) (Nat.le_refl _) (fun b hb => by cases hb) kt
  · have hz2 : ((nss.map fun ns => ns.map (Sum.inl : Int → L2.Key)).zip ys).length ≤ sizeLine := by
      rw [List.length_zip, List.length_map]; omega
    exact ⟨.ref _, _, dict_laid (s := s) (tk := tk) I kt hz2 (Nat.le_refl _) hd' (fun b o z => hk2 b o (by simp) z), rfl, q _ (I.hok.fresh (Nat.le_refl _))⟩
theorem tks_of {K : PySem.W.Frag} {sp : Addr} {F H : Hp} (e : Same F H) : ∀ {vs : List V} {xs : List D}, RpA K sp F vs xs → xs.all isTK = true → ∃ nss : List (List Int), TupsH H vs nss ∧ xs = nss.map fun ns => .tuple (ns.map .int)
  | _, _, .nil, _ => ⟨[], .nil, rfl⟩
  | _, _, .cons (d := d) r a, h => by
    rw [List.all_cons, Bool.and_eq_true] at h
    obtain ⟨nss, t, e2⟩ := tks_of e a h.2
    cases d with
    | tuple ds =>
      obtain ⟨ns, hi⟩ := Option.isSome_iff_exists.mp (show (intsOf ds).isSome = true from h.1)
      obtain ⟨b, us, rfl, hF, ra⟩ := r.tuple
      have := intsOf_is hi
      subst this
      rw [ra.ints hi] at hF
      exact ⟨ns :: nss, .cons (e _ _ hF) t, by rw [e2]; rfl⟩
    | _ => cases h.1
theorem zip_rpK {K : PySem.W.Frag} {sp : Addr} {F : Hp} : ∀ {us : List V} {ys : List D} (nss : List (List Int)), RpA K sp F us ys → RpK K sp F ((nss.map fun ns => ns.map Sum.inl).zip us) ((nss.map fun ns => PyData.tuple (ns.map .int)).zip ys)
  | _, _, [], _ => .nil
  | _, _, _ :: _, .nil => .nil
  | _, _, _ :: nss, .cons r a => .cons r (zip_rpK nss a)
/-- a new dict, as data -/
theorem new_dict {F H : Hp} {s : Src} {kws : List (List L2.Key × V)} {ps : List (D × D)} {Q : VK} (e : Same F H) (q : SrcAt G.sp G.cc H s) (a : RpK G.K G.sp F kws ps)
    (k : ∀ z F' H', Fw G.sp G.cc F H F' H' s → Rn G.K G.sp H F' H' z (.dict (mergeD ps)) → Q z H') (p : Addr) (hp : H p = none) : Q (.ref p) (upd H p (.dT (mergeV kws))) := by
  have fp : F p = none := by
    cases z : F p with
    | none => rfl
    | some u => rw [e _ _ z] at hp; cases hp
  exact k _ F _ (Fw.put e q hp) ⟨p, _, rfl, hp, fp, upd_same, rpK_merge a⟩
theorem ok_dzip {a b : E} {ea eb : Expr} {p pos pD posD : Pos} (hK : X.K = G.K) (hc : X.calm = true) (hu : X.A.units + 65 < cLine) (hg : Gl X "zip") (hm : X.mg "zip" = none) (hgD : Gl X "dict") (hmD : X.mg "dict" = none) (h1 : isStarX ea = false) (h2 : isStarX eb = false) (ha : PE X ea (RdB G a)) (hb : PE X eb (RdB G b)) :
    OkN X G (.dzip a b false) (.Call (.Name "dict" pD) [.Call (.Name "zip" p) [ea, eb] [] pos] [] posD) := by
  have hs : starEach [ea, eb] X.env = (false, eval ea X.env) :: starEach [eb] X.env := starEach_no h1 _ _
  have n1 : (backTo pos (starEach [eb] X.env)).any (·.1) = false := by rw [starEach_no h2]; rfl
  refine okN hK (pe_imp (pe_dzip hc hu hg hm hgD hmD (pa_cons ha (pa_cons hb pa_nil (starEach_no h2 _ _)) hs) hs n1) fun σ H Q ⟨g, en, F, s, d, s', R, off, he, k⟩ => ?_) rfl fun _ _ => rfl
  obtain ⟨d1, s1, e1, e2⟩ := bnd_some he
  obtain ⟨d2, s2, e3, e4⟩ := bnd_some e2
  obtain ⟨e5, rfl⟩ := lift_some e4
  obtain ⟨xs, q1, e6⟩ := Option.bind_eq_some_iff.mp e5
  obtain ⟨ys, q2, e7⟩ := Option.bind_eq_some_iff.mp e6
  obtain ⟨hst, e8⟩ := if_some2 e7
  rw [Bool.and_eq_true] at hst
  obtain ⟨_, e9⟩ := if_some e8
  subst e9
  refine ⟨g, en, F, s, d1, s1, R, off.l, e1, fun x F1 H1 f1 r1 => ⟨g, en, F1, s1, d2, s', R.step f1, off.r, e3, fun y F2 H2 f2 r2 => ?_⟩⟩
  obtain ⟨b1, a1, vs, rfl, c1, ra⟩ := sq_of (r1.step f2) f2.sub q1
  obtain ⟨b2, a2, us, rfl, c2, rb⟩ := sq_of r2 f2.sub q2
  have f := f1.trans f2
  obtain ⟨nss, th, ex⟩ := tks_of f2.sub ra hst.2
  subst ex
  exact ⟨b1, b2, a1, a2, vs, us, nss, rfl, hK ▸ c1, hK ▸ c2, th, fun q hq => new_dict f2.sub f2.src (zip_rpK nss rb) (fun z F3 H3 f3 r3 => k _ _ _ (f.trans f3) (r3.back f)) q hq⟩
theorem pairsT_of {K : PySem.W.Frag} {sp : Addr} {F H : Hp} (e : Same F H) : ∀ {vs : List V} {xs : List D} {ps : List (D × D)}, RpA K sp F vs xs → pairsOf xs = some ps → ps.all (fun p => isTK p.1) = true →
    ∃ (nss : List (List Int)) (ys : List V), PairsT K H vs nss ys ∧ RpK K sp F ((nss.map fun ns => ns.map Sum.inl).zip ys) ps
  | _, _, _, .nil, h, _ => by cases h; exact ⟨[], [], .nil, .nil⟩
  | _, _, _, .cons (d := d) r a, h, hk => by
    cases d with
    | tuple ds =>
      match ds, h with
      | [k, v], h =>
        obtain ⟨qs, e1, rfl⟩ := Option.map_eq_some_iff.mp (show (pairsOf _).map _ = some _ from h)
        rw [List.all_cons, Bool.and_eq_true] at hk
        obtain ⟨nss, ys, t1, t2⟩ := pairsT_of e a e1 hk.2
        obtain ⟨t, us, rfl, hF, ra⟩ := r.tuple
        cases ra with
        | cons rk ra =>
          cases ra with
          | cons rv ra =>
            cases ra
            cases k with
            | tuple ks =>
              obtain ⟨ns, hi⟩ := Option.isSome_iff_exists.mp (show (intsOf ks).isSome = true from hk.1)
              obtain ⟨b, ws, rfl, hF2, ra2⟩ := rk.tuple
              have := intsOf_is hi
              subst this
              rw [ra2.ints hi] at hF2
              exact ⟨ns :: nss, _ :: ys, .cons (sqT_same e hF) (e _ _ hF2) t1, .cons rv t2⟩
            | _ => cases hk.1
    | _ => cases h
theorem pairsI_of {K : PySem.W.Frag} {sp : Addr} {F H : Hp} (e : Same F H) : ∀ {vs : List V} {xs : List D} {ps : List (D × D)}, RpA K sp F vs xs → pairsOf xs = some ps → ps.all (fun p => isIK p.1) = true →
    ∃ (ts : List Addr) (kvs : List (L2.Key × V)), vs = ts.map V.ref ∧ Paired (fun p kv => SqT K H p [kV kv.1, kv.2]) ts kvs ∧ RpI K sp F kvs ps
  | _, _, _, .nil, h, _ => by cases h; exact ⟨[], [], rfl, .nil, .nil⟩
  | _, _, _, .cons (d := d) r a, h, hk => by
    cases d with
    | tuple ds =>
      match ds, h with
      | [k, v], h =>
        obtain ⟨qs, e1, rfl⟩ := Option.map_eq_some_iff.mp (show (pairsOf _).map _ = some _ from h)
        rw [List.all_cons, Bool.and_eq_true] at hk
        obtain ⟨ts, kvs, t0, t1, t2⟩ := pairsI_of e a e1 hk.2
        obtain ⟨t, us, rfl, hF, ra⟩ := r.tuple
        cases ra with
        | cons rk ra =>
          cases ra with
          | cons rv ra =>
            cases ra
            cases k with
            | int n =>
              have := rk.int'
              subst this
              exact ⟨t :: ts, (Sum.inl n, _) :: kvs, by rw [t0]; rfl, .cons (sqT_same e hF) t1, .cons rv t2⟩
            | _ => cases hk.1
    | _ => cases h
section
variable {K : PySem.W.Frag} {sp : Addr} {F : Hp}
theorem rpI_repl {v : V} {d : D} (rv : Rp K sp F v d) (n : Int) : ∀ {kws : List (L2.Key × V)} {kvs : List (D × D)}, RpI K sp F kws kvs →
    RpI K sp F (kws.map fun kv => if kv.1 = Sum.inl n then (kv.1, v) else kv) (kvs.map fun p => if sameK p.1 (.int n) then (p.1, d) else p)
  | _, _, .nil => .nil
  | _, _, .cons (n := m) (v := v0) (d := d0) h a => by
    rw [List.map_cons, List.map_cons]
    by_cases q : m = n
    · subst q
      rw [if_pos rfl]
      have e : (if sameK (PyData.int m, d0).1 (.int m) = true then ((PyData.int m, d0).1, d) else (PyData.int m, d0)) = (PyData.int m, d) := by
        show (if decide (m = m) = true then _ else _) = _
        rw [decide_eq_true rfl, if_pos rfl]
      rw [e]
      exact .cons rv (rpI_repl rv m a)
    · rw [if_neg (fun z => q (Sum.inl.inj z))]
      have e : (if sameK (PyData.int m, d0).1 (.int n) = true then ((PyData.int m, d0).1, d) else (PyData.int m, d0)) = (PyData.int m, d0) := by
        show (if decide (m = n) = true then _ else _) = _
        rw [decide_eq_false q, if_neg Bool.false_ne_true]
      rw [e]
      exact .cons h (rpI_repl rv n a)
theorem rpI_snoc {v : V} {d : D} (rv : Rp K sp F v d) (n : Int) : ∀ {kws : List (L2.Key × V)} {kvs : List (D × D)}, RpI K sp F kws kvs → RpI K sp F (kws ++ [(Sum.inl n, v)]) (kvs ++ [(.int n, d)])
  | _, _, .nil => .cons rv .nil
  | _, _, .cons h a => .cons h (rpI_snoc rv n a)
theorem rpI_put {v : V} {d : D} (rv : Rp K sp F v d) (n : Int) {kws : List (L2.Key × V)} {kvs : List (D × D)} (a : RpI K sp F kws kvs) : RpI K sp F (putK kws (Sum.inl n) v) (putD kvs (.int n) d) := by
  have e : (kws.any fun kv => decide (kv.1 = (Sum.inl n : L2.Key))) = hasD kvs (.int n) := by
    rw [valV_any]; exact (rpI_val a n).2
  unfold putK putD
  rw [e]
  by_cases q : hasD kvs (.int n) = true
  · rw [if_pos q, if_pos q]; exact rpI_repl rv n a
  · rw [if_neg q, if_neg q]; exact rpI_snoc rv n a
theorem rpI_fold : ∀ (kws : List (L2.Key × V)) (ps : List (D × D)) {acc : List (L2.Key × V)} {kvs : List (D × D)}, RpI K sp F kws ps → RpI K sp F acc kvs →
    RpI K sp F (kws.foldl (fun acc p => putK acc p.1 p.2) acc) (ps.foldl (fun acc p => putD acc p.1 p.2) kvs)
  | [], [], _, _, .nil, r => r
  | _ :: kws, _ :: ps, _, _, .cons (n := n) h a, r => rpI_fold kws ps a (rpI_put h n r)
end
theorem new_dictI {F H : Hp} {s : Src} {kws : List (L2.Key × V)} {ps : List (D × D)} {Q : VK} (e : Same F H) (q : SrcAt G.sp G.cc H s) (a : RpI G.K G.sp F kws ps)
    (k : ∀ z F' H', Fw G.sp G.cc F H F' H' s → Rn G.K G.sp H F' H' z (.dict (mergeD ps)) → Q z H') (p : Addr) (hp : H p = none) : Q (.ref p) (upd H p (.dK (mergeK [] kws))) := by
  have fp : F p = none := by
    cases z : F p with
    | none => rfl
    | some u => rw [e _ _ z] at hp; cases hp
  exact k _ F _ (Fw.put e q hp) ⟨p, _, rfl, hp, fp, upd_same, rpI_fold kws ps a .nil⟩
theorem ok_dps {a : E} {ea : Expr} {pD posD : Pos} (hK : X.K = G.K) (hc : X.calm = true) (hu : X.A.units + 65 < cLine) (hgD : Gl X "dict") (hmD : X.mg "dict" = none) (h1 : isStarX ea = false) (ha : PE X ea (RdB G a)) :
    OkN X G (.dps a) (.Call (.Name "dict" pD) [ea] [] posD) := by
  have hs : starEach [ea] X.env = (false, eval ea X.env) :: starEach [] X.env := starEach_no h1 _ _
  refine okN hK ⟨fun pins st σ H Q I ⟨g, en, F, s, d, s', R, off, he, k⟩ => ?_⟩ rfl fun _ _ => rfl
  obtain ⟨d1, s1, e1, e2⟩ := bnd_some he
  obtain ⟨e3, rfl⟩ := lift_some e2
  cases d1 with
  | list xs =>
    obtain ⟨ps, e4, e5⟩ := Option.bind_eq_some_iff.mp (show (pairsOf xs).bind dictOf = some d from e3)
    obtain ⟨e6, e7⟩ := if_some e5
    subst e7
    rw [Bool.and_eq_true] at e6
    by_cases ht : ps.all (fun p => isTK p.1) = true
    · refine (pe_callTy (call_dictT hc hu) hgD hmD PyProof.Rows.boot_dict (pa_cons ha pa_nil hs) (by decide) (by decide) hs (by rfl)).run pins st σ H Q I ⟨g, en, F, s, _, s', R, off, e1, fun x F1 H1 f r => ?_⟩
      obtain ⟨p, vs, rfl, h2, n1, n2, ra⟩ := r
      obtain ⟨nss, ys, t1, t2⟩ := pairsT_of f.sub ra e4 ht
      exact ⟨p, vs, ys, nss, rfl, SqL.of h2, hK ▸ t1, fun q hq => new_dict f.sub f.src t2 (fun z F3 H3 f3 r3 => k _ _ _ (f.trans f3) (r3.back f)) q hq⟩
    · have hi : ps.all (fun p => isIK p.1) = true := by
        rcases Bool.or_eq_true_iff.mp e6.1 with h | h
        · exact h
        · exact absurd h ht
      refine (pe_callTy (call_dictP hc) hgD hmD PyProof.Rows.boot_dict (pa_cons ha pa_nil hs) (by decide) (by decide) hs (by rfl)).run pins st σ H Q I ⟨g, en, F, s, _, s', R, off, e1, fun x F1 H1 f r => ?_⟩
      obtain ⟨p, vs, rfl, h2, n1, n2, ra⟩ := r
      obtain ⟨ts, kvs, rfl, t1, t2⟩ := pairsI_of f.sub ra e4 hi
      exact ⟨p, ts, kvs, rfl, SqL.of h2, hK ▸ t1, fun q hq => new_dictI f.sub f.src t2 (fun z F3 H3 f3 r3 => k _ _ _ (f.trans f3) (r3.back f)) q hq⟩
  | _ => cases e3
end
end Fz
/-! FzDc: {k: v for ..} whose keys are tuples of ints (and texts). -/
namespace Fz
open PySem PySem.Spec PyProof.Rows L2
section
variable {X : Cx}
/-- the new dict at D takes a pair whose key is a tuple that stands -/
theorem putIn_tup {pins : List (Addr × Obj)} {σ : L2.St} {H : Hp} {s : Shared} {D b : Addr} {kws : List (List L2.Key × V)} {k : List L2.Key} {v : V} {u r : Value} {Q : Unit → Shared → Prop} {E : Value → Shared → Prop} (room : X.A.units < cLine) (I : Inv X pins σ H s)
    (at_ : H D = some (.dT kws)) (few : kws.length < sizeLine) (kb : H b = some (.tup (k.map kV))) (ru : RelV (.ref b) u) (rv : RelV v r) (fin : ∀ s', Inv X pins σ (upd H D (.dT (putK kws k v))) s' → Q () s') :
    wpAny (model X.prog X.w) X.A (dictSet D u r) Q E s := by
  obtain rfl : u = Value.ref b := ru
  obtain ⟨z, off, xs, rel, dd⟩ := dt_of I.hok at_
  have few2 : xs.length ≤ sizeLine := Paired.length rel ▸ z
  refine wpAny_dictSet_heap (knd := tupleKind (mixKind X.prog X.w)) (hsz := few2) room (key_of I.hok kb) dd fun h' ⟨q, es, ep, g1, g2, g3, g4, _, g5⟩ same => fin _ ?_
  have z2 : (putK kws k v).length ≤ sizeLine := Nat.le_trans (length_putK kws k v) few
  refine d_write I (by rw [at_]; trivial) same ⟨q, g1⟩ ⟨z2, off, _, (rel.put k kb rv).keeps fun c ys ec => ?_, q, es, ep, g1, g2, g3, g4, g5⟩
  have nc : c ≠ D := fun e => by rw [e, at_] at ec; cases ec
  rw [upd_ne nc]; exact ec
/-- what a dict comprehension asks, its keys tuples -/
def tDcT (wi : TI) (g : TG) (tt : TT) (tk tv : TE) (vs : List Nat) : TE := fun σ H Q => wi σ H fun J H1 => ∀ D, H1 D = none → ∃ W : Nat → Nat → Hp → Prop, (∃ m, W 0 m (upd H1 D (.dT []))) ∧ ∀ i m H, W i m H →
  (J.stop i H ∧ Q (.ref D) H) ∨ (J.go i H ∧ ∃ Nx : Hp → Prop, (∀ H', Nx H' → ∃ m', m' < m ∧ W (i + 1) m' H') ∧ ∀ x H', J.yld i H x H' → g x (wipe σ vs) H' fun σ2 H2 => wipe σ2 vs = wipe σ vs ∧ tt σ2 H2 fun b H3 =>
    if b = true then tk σ2 H3 fun y H4 => tv σ2 H4 fun z H5 => ∃ kws k b, y = .ref b ∧ H5 b = some (.tup (k.map kV)) ∧ H5 D = some (.dT kws) ∧ kws.length < sizeLine ∧ Nx (upd H5 D (.dT (putK kws k z))) else Nx H3)
/-- a part of the context in which a block's text is proved -/
abbrev InBlk (X : Cx) (scope : Scope) (P : Cx → Prop) : Prop := ∀ (s : Shared) (H : Hp) (C : Addr) (cl : List (Str × Addr)) (fp : List Addr), P (X.blk s H scope (compEnvC scope cl C X.env) fp)
theorem dcT_core {pins : List (Addr × Obj)} {s : Shared} {σ : L2.St} {H : Hp} {Q : VK} {kx vx tg iter : Expr} {ifs : List Expr} {scope : Scope} {own : List (Str × Nat)} {pos pos' : Pos} {wi : TI} {g : TG} {tt : TT} {tk tv : TE} {use : Option (Value → Sem Unit)} {Qf : Value → Shared → Prop}
    (room : X.A.units < cLine) (calm : X.calm = true) (nd : X.N.Nodup) (I : Inv X pins σ H s) (hi : PI X tg iter wi) (ok : BlkOk X.N X.env.scope scope own)
    (hg : InBlk X scope fun Y => PG Y tg g) (ht : InBlk X scope fun Y => PTs Y ifs tt) (hk : InBlk X scope fun Y => PE Y kx tk) (he : InBlk X scope fun Y => PE Y vx tv) (hs : ∀ x, foldedSetIterable iter X.env x = pure x)
    (h : tDcT wi g tt tk tv (own.map (·.2)) σ H Q)
    (back : ∀ D C s' m H', Inv X pins σ H' s' → Q (.ref D) H' → s'.heap.Ns C m → FpOk X pins H' C → compPost (model X.prog X.w) X.A X.xe use Qf (.ref D) C (.ok .next) s') :
    wpAny (model X.prog X.w) X.A (comprehension (.DictComp kx vx [⟨tg, iter, ifs, 0⟩] scope pos) scope X.env pos' newDict false (eval iter X.env) use) Qf X.xe s := by
  have cellsHave : ∀ y ∈ scope.names, y.2 = .free → ∃ c, X.env.cells.lookup y.1 = some c := fun y hy e => (ok.free y hy e).elim (fun k => I.ok.has _ (.inl k)) fun k => I.ok.has _ (.inr k)
  refine wpAny_comprehension_free (use := use) rfl hs (closure_ok cellsHave) ok.kind (fun y hy e => by rw [ok.uniq y hy, e]) (thn (hi.run pins s σ H _ I h) fun xv sa ha => thn ha fun itv sb hb => ?_)
  obtain ⟨it, fp, tn, J, Hb, rfl, Ib, T, stb, offb, q⟩ := hb
  refine wpAny_newObj_type (newEnv_comp ?_)
  generalize eD : sb.heap.objs.size = D
  obtain ⟨W, ⟨m0, w0⟩, turn⟩ := q D (Ib.hok.fresh (Nat.le_of_eq eD))
  generalize esc : ({ sb with heap := sb.heap.push { cls := .type "dict", data := .dict #[] } } : Shared) = sc
  have hc : sc.heap = sb.heap.push { cls := .type "dict", data := .dict #[] } := by rw [← esc]
  have Ic : Inv X pins σ (upd Hb D (.dT [])) sc := by
    subst esc
    exact Ib.laid (t' := sb.toks) (fun b o e => Heap.get?_push_of_some _ e) (Nat.le_of_eq eD) (eD ▸ dt_empty sb.heap Ib.big)
  have below : ∀ b ∈ fp, b < sb.heap.objs.size := fun b hb => let ⟨o, e, _⟩ := T.obj _ _ stb b hb; Heap.lt_size e
  have offc : ∀ b ∈ fp, FpOk X pins (upd Hb D (.dT [])) b ∧ b < sc.heap.objs.size := fun b hb => by
    have lt := below b hb
    have nD : b ≠ D := fun e => Nat.lt_irrefl _ (by rw [e, ← eD] at lt; exact lt)
    exact ⟨⟨by rw [upd_ne nD]; exact (offb b hb).1, (offb b hb).2⟩, by rw [hc, Heap.size_push]; exact Nat.lt_succ_of_lt lt⟩
  have stc : tn 0 sc.heap := T.keep _ _ _ stb fun b _ o e => by rw [hc]; exact Heap.get?_push_of_some _ e
  have Id := block_start Ic ok nd offc
  have noneAt : ∀ b ∈ fp, upd Hb D (.dT []) b = none := fun b hb => (offc b hb).1.1
  show codeAny _ _ (.compStart (.DictComp kx vx [⟨tg, iter, ifs, 0⟩] scope pos) 0 (.ref it) (.ref D) (compEnvC scope (cellsFrom (sc.heap.objs.size + 1) scope.names (cloFrom X.env.cells scope.names [])) sc.heap.objs.size X.env)) (compPost (model X.prog X.w) X.A X.xe use Qf (.ref D) sc.heap.objs.size)
    { sc with heap := pushCells (sc.heap.push { cls := .type "dict", data := .dict #[] }) scope.names }
  have G1 := hg sc (upd Hb D (.dT [])) sc.heap.objs.size (cellsFrom (sc.heap.objs.size + 1) scope.names (cloFrom X.env.cells scope.names [])) fp
  have G2 := ht sc (upd Hb D (.dT [])) sc.heap.objs.size (cellsFrom (sc.heap.objs.size + 1) scope.names (cloFrom X.env.cells scope.names [])) fp
  have G3 := hk sc (upd Hb D (.dT [])) sc.heap.objs.size (cellsFrom (sc.heap.objs.size + 1) scope.names (cloFrom X.env.cells scope.names [])) fp
  have G4 := he sc (upd Hb D (.dT [])) sc.heap.objs.size (cellsFrom (sc.heap.objs.size + 1) scope.names (cloFrom X.env.cells scope.names [])) fp
  generalize ece : compEnvC scope (cellsFrom (sc.heap.objs.size + 1) scope.names (cloFrom X.env.cells scope.names [])) sc.heap.objs.size X.env = ce at Id G1 G2 G3 G4 ⊢
  have loc : ce.locals = sc.heap.objs.size := by rw [← ece]; rfl
  generalize upd Hb D (.dT []) = Hc at Ic Id G1 G2 G3 G4 w0 noneAt offc
  generalize esd : ({ sc with heap := pushCells (sc.heap.push { cls := .type "dict", data := .dict #[] }) scope.names } : Shared) = sd at Id ⊢
  have std : tn 0 sd.heap := T.keep _ _ _ stc fun b _ o e => by rw [← esd]; exact pushCells_keeps _ _ _ _ (Heap.get?_push_of_some _ e)
  have Yo : ∀ {σ' : L2.St} {H' : Hp} {s' : Shared}, Inv (X.blk sc Hc scope ce fp) [] σ' H' s' → (∀ b ∈ fp, H' b = none) → ∀ b ∈ fp, FpOk (X.blk sc Hc scope ce fp) [] H' b :=
    fun {σ' H' s'} I' hn b hb => ⟨hn b hb, (I'.ok.exf b hb).1, I'.ok.exfs b hb, .inl hb, fun x c e => (I'.ok.exf b hb).2 x c e, fun p hp => absurd (show p ∈ ([] : List (Addr × Obj)) ++ [] from hp) (by simp)⟩
  have loop : codeAny (model X.prog X.w) X.A (.compLoop (.DictComp kx vx [⟨tg, iter, ifs, 0⟩] scope pos) 0 (.ref it) (.ref D) ce) (compPost (model X.prog X.w) X.A X.xe use Qf (.ref D) sc.heap.objs.size) sd := by
    refine compLoop_anyD (fun n s' => ∃ i H', Inv (X.blk sc Hc scope ce fp) [] (wipe σ (own.map (·.2))) H' s' ∧ tn i s'.heap ∧ (∀ b ∈ fp, H' b = none) ∧ W i n H') ?_ m0 ⟨0, Hc, Id, std, noneAt, w0⟩
    rintro n se ⟨i, He, Ie, ste, ne, we⟩
    rcases turn i n He we with ⟨stop, qq⟩ | ⟨go, Nx, less, step⟩
    · have td := T.done (X.blk sc Hc scope ce fp) rfl rfl rfl calm i [] se _ He (fun _ _ => False) Ie (Yo Ie ne) ste stop
      refine thnF td fun r sf ⟨er, If⟩ => ?_
      subst er
      have Ig : Inv X pins σ He sf := Ic.call' (ch := fp) If.os If.base If.hok If.bare fun b hb => ⟨(offc b hb).1.2.2.2.1, (offc b hb).1.2.1, (offc b hb).1.2.2.2.2.1, (offc b hb).1.2.2.2.2.2⟩
      have nC : He sc.heap.objs.size = none := loc ▸ (show He ce.locals = none from If.free)
      obtain ⟨m, hn, _⟩ := If.loc
      exact back D sc.heap.objs.size sf m He Ig qq (loc ▸ (show sf.heap.Ns ce.locals m from hn)) (Ic.fpOk (Nat.le_refl _) nC)
    · have ti := T.item (X.blk sc Hc scope ce fp) rfl rfl rfl calm i [] se _ He (fun _ _ => False) Ie (Yo Ie ne) ste go
      refine thnF ti fun r sf ⟨u, er, hf⟩ => ?_
      subst er
      refine thnF hf fun _ sg ⟨x, Hg, Ig, rg, yg, stg, ng⟩ => ?_
      have Ip := Ig.pinned (Yo Ig ng) (T.obj _ _ stg)
      refine thnF (G1.run _ sg _ Hg x u _ Ip rg (step x Hg yg)) fun _ sh ⟨σh, Hh, Ih, wh, qh⟩ => ?_
      refine thnF (G2.run _ sh σh Hh _ Ih qh) fun b sj ⟨Hj, Ij, qj⟩ => ?_
      have turnEnd : ∀ {s' : Shared} {H' : Hp}, Inv (X.blk sc Hc scope ce fp) ([] ++ pinsAt fp sg.heap) σh H' s' → Nx H' → ∃ m, m < n ∧ ∃ i H', Inv (X.blk sc Hc scope ce fp) [] (wipe σ (own.map (·.2))) H' s' ∧ tn i s'.heap ∧ (∀ b ∈ fp, H' b = none) ∧ W i m H' := fun {s' H'} I' nx => by
        obtain ⟨m', lt, w'⟩ := less H' nx
        have held : ∀ b ∈ fp, ∀ o, sg.heap.get? b = some o → s'.heap.get? b = some o ∧ H' b = none := fun b hb o e => by
          have z := I'.pin (b, o) (List.mem_append_right _ (List.mem_append_right _ (mem_pinsAt hb e)))
          exact ⟨z.1, z.2.1⟩
        refine ⟨m', lt, i + 1, H', (I'.unpinned (pins := [])).weak (by rw [← wh, wipe_length]) (fun j v e => (wipe_some (wh ▸ e)).1), T.keep _ _ _ stg fun b hb o e => (held b hb o e).1, fun b hb => ?_, w'⟩
        obtain ⟨o, e, _⟩ := T.obj _ _ stg b hb
        exact (held b hb o e).2
      cases b with
      | false => exact turnEnd Ij (by simpa using qj)
      | true =>
        rw [if_pos rfl] at qj ⊢
        refine thnF (G3.run _ sj σh Hj _ Ij qj) fun uk sk ⟨yk, Hk, Ik, rk, qk⟩ => ?_
        refine thnF (G4.run _ sk σh Hk _ Ik qk) fun uv sl ⟨yv, Hl, Il, rl, kws, k, b, ek, kb, atD, few, nx⟩ => ?_
        exact putIn_tup (X := X.blk sc Hc scope ce fp) room Il atD few kb (ek ▸ rk) rl fun sm Im => turnEnd Im nx
  exact codeAny_compStart_dict loop (T.self X.A 0 _ _ _ std loop)
/-- {k: v for t in ..} as a value -/
theorem pe_dcT {kx vx tg iter : Expr} {ifs : List Expr} {scope : Scope} {own : List (Str × Nat)} {pos : Pos} {wi : TI} {g : TG} {tt : TT} {tk tv : TE} (room : X.A.units < cLine) (calm : X.calm = true) (nd : X.N.Nodup) (hi : PI X tg iter wi) (ok : BlkOk X.N X.env.scope scope own)
    (hg : InBlk X scope fun Y => PG Y tg g) (ht : InBlk X scope fun Y => PTs Y ifs tt) (hk : InBlk X scope fun Y => PE Y kx tk) (he : InBlk X scope fun Y => PE Y vx tv) (hs : ∀ x, foldedSetIterable iter X.env x = pure x) :
    PE X (.DictComp kx vx [⟨tg, iter, ifs, 0⟩] scope pos) (tDcT wi g tt tk tv (own.map (·.2))) := ⟨fun pins s σ H Q I h => by
  rw [arm_eval_DictComp]
  refine dcT_core room calm nd I hi ok hg ht hk he hs h fun D C s' m H' I' q hn ⟨f0, f1, f2, f3, f4, f5⟩ => ⟨m, hn, fun h2 same => ?_⟩
  exact ⟨.ref D, H', I'.turned (t' := s'.toks) (fun b o nb e => (same.2 b nb).trans e) f0 f1 f3 f4 f5, rfl, q⟩⟩
end
end Fz
/-! FzHn: dict comprehensions, {}, d.get(k, x) over data. -/
namespace Fz
open PySem PySem.Spec PyProof.Rows L2
theorem dg_it {J : It} {n : Nat} {Gd : Hp → Prop} {Y : Nat → Hp → V → Hp → Prop} (w : Walk J n Gd Y) {g : TG} {tt : TT} {tk tv : TE} {St : V → V → Hp → (Hp → Prop) → Prop} {vs : List Nat} {σ : L2.St} {H0 : Hp} {Qd : Hp → Prop} (Pv : Nat → Hp → Prop) (h0 : Pv 0 H0) (hG : ∀ i H, i ≤ n → Pv i H → Gd H)
    (hs : ∀ i x H H', i < n → Pv i H → Y i H x H' → g x (wipe σ vs) H' fun σ2 H2 => wipe σ2 vs = wipe σ vs ∧ tt σ2 H2 fun b H3 => if b = true then tk σ2 H3 fun y H4 => tv σ2 H4 fun z H5 => St y z H5 (Pv (i + 1)) else Pv (i + 1) H3) (hd : ∀ H, Pv n H → Qd H) :
    ∃ W : Nat → Nat → Hp → Prop, (∃ m, W 0 m H0) ∧ ∀ i m H, W i m H → (J.stop i H ∧ Qd H) ∨ (J.go i H ∧ ∃ Nx : Hp → Prop, (∀ H', Nx H' → ∃ m', m' < m ∧ W (i + 1) m' H') ∧ ∀ x H', J.yld i H x H' → g x (wipe σ vs) H' fun σ2 H2 => wipe σ2 vs = wipe σ vs ∧ tt σ2 H2 fun b H3 =>
      if b = true then tk σ2 H3 fun y H4 => tv σ2 H4 fun z H5 => St y z H5 Nx else Nx H3) := by
  refine ⟨fun i m H => m = n - i ∧ i ≤ n ∧ Pv i H, ⟨n, rfl, Nat.zero_le _, h0⟩, ?_⟩
  rintro i m H ⟨rfl, hi, p⟩
  by_cases hlt : i < n
  · exact .inr ⟨w.goes i H hlt (hG i H hi p), Pv (i + 1), fun H' p' => ⟨n - (i + 1), by omega, rfl, hlt, p'⟩, fun x H' y => hs i x H H' hlt p (w.yields i H x H' hlt (hG i H hi p) y)⟩
  · obtain rfl : i = n := by omega
    exact .inl ⟨w.stops H (hG _ H hi p), hd H p⟩
theorem wipe_twice {σ : L2.St} {vs : List Nat} : wipe (wipe σ vs) vs = wipe σ vs := by
  have idem : ∀ us : List Nat, (∀ i ∈ us, i ∈ vs) → wipe (wipe σ vs) us = wipe σ vs := by
    intro us
    induction us with
    | nil => intro _; rfl
    | cons u us ih =>
      intro hu
      show (wipe (wipe σ vs) us).set u none = _
      rw [ih fun i hi => hu i (List.mem_cons_of_mem _ hi)]
      refine List.ext_getElem? fun j => ?_
      by_cases hj : u = j
      · subst hj
        have hn : ∀ x, (wipe σ vs)[u]? ≠ some (some x) := fun x hx => (wipe_some hx).2 (hu u (List.mem_cons_self ..))
        by_cases hl : u < (wipe σ vs).length
        · rw [List.getElem?_set_self hl]
          rw [List.getElem?_eq_getElem hl] at hn ⊢
          cases q : (wipe σ vs)[u] with
          | none => rfl
          | some x => exact absurd (by rw [q]) (hn x)
        · rw [List.getElem?_eq_none (by rw [List.length_set]; omega), List.getElem?_eq_none (by omega)]
      · rw [List.getElem?_set_ne hj]
  exact idem vs fun _ z => z
/-- a turn of a dict comprehension -/
def turnD (v : Bool) (c : Cl) (t : Tg) (ifs : Option E) (k w : E) (en : En) : D → M (Option D) := fun d => bnd (lift (tgSet t d en)) fun en2 => bnd (evT v c ifs en2) fun ok =>
  if ok then bnd (evE v c k en2) fun y => bnd (evE v c w en2) fun z => ret (some (.tuple [y, z])) else ret none
section
variable {X : Cx} {G : Gx}
/-- how a store goes on: the kind of keys, what stands -/
structure Sto (G : Gx) (kd : HO → Prop) (ky : D → Bool) (St : Addr → V → V → Hp → (Hp → Prop) → Prop) : Prop where
  run : ∀ {A : Addr} {y z : V} {dk dv : D} {F H : Hp} {o : HO} {kvs : List (D × D)} {Nx : Hp → Prop}, Same F H → ky dk = true → Rp G.K G.sp F y dk → Rp G.K G.sp F z dv → H A = some o → kd o → RpO G.K G.sp F o (.dict kvs) → small (kvs.length + 1) = true →
    (∀ o', kd o' → RpO G.K G.sp F o' (.dict (putD kvs dk dv)) → Nx (upd H A o')) → St A y z H Nx
def isDT : HO → Prop
  | .dT _ => True
  | _ => False
def isDK : HO → Prop
  | .dK _ => True
  | _ => False
theorem stoT : Sto G isDT isTK (fun D y z H5 Nx => ∃ kws k b, y = .ref b ∧ H5 b = some (.tup (k.map kV)) ∧ H5 D = some (.dT kws) ∧ kws.length < sizeLine ∧ Nx (upd H5 D (.dT (putK kws k z)))) := ⟨fun {A y z dk dv F H o kvs Nx} e hk ry rz hA kd ro sz fin => by
  cases o with
  | dT kws =>
    cases dk with
    | tuple ds =>
      obtain ⟨ns, hi⟩ := Option.isSome_iff_exists.mp (show (intsOf ds).isSome = true from hk)
      obtain ⟨b, vs, rfl, hb, ra⟩ := ry.tuple
      rw [ra.ints hi] at hb
      refine ⟨kws, ns.map Sum.inl, b, rfl, by rw [kV_ints]; exact e _ _ hb, hA, ?_, fin _ trivial ?_⟩
      · have := small_lt sz
        rw [rpK_len ro]; omega
      · rw [intsOf_is hi]
        exact rpK_put rz ns ro
    | _ => cases hk
  | _ => exact kd.elim⟩
theorem stoK : Sto G isDK isIK (fun D y z H5 Nx => ∃ kvs k, y = kV k ∧ H5 D = some (.dK kvs) ∧ kvs.length < sizeLine ∧ Nx (upd H5 D (.dK (putK kvs k z)))) := ⟨fun {A y z dk dv F H o kvs Nx} e hk ry rz hA kd ro sz fin => by
  cases o with
  | dK kws =>
    cases dk with
    | int n =>
      refine ⟨kws, Sum.inl n, ry.int', hA, ?_, fin _ trivial (rpI_put rz n ro)⟩
      have := small_lt sz
      rw [rpI_len ro]; omega
    | _ => cases hk
  | _ => exact kd.elim⟩
theorem putD_len (kvs : List (D × D)) (k v : D) : (putD kvs k v).length ≤ kvs.length + 1 := by
  unfold putD
  split
  · rw [List.length_map]; omega
  · simp
theorem mergeD_len (ps : List (D × D)) : (mergeD ps).length ≤ ps.length := by
  have h : ∀ (ps acc : List (D × D)), (ps.foldl (fun acc p => putD acc p.1 p.2) acc).length ≤ acc.length + ps.length := by
    intro ps
    induction ps with
    | nil => intro acc; exact Nat.le_refl _
    | cons p r ih =>
      intro acc
      have h1 := ih (putD acc p.1 p.2)
      have h2 := putD_len acc p.1 p.2
      simp only [List.foldl_cons, List.length_cons]
      omega
  simpa [mergeD] using h ps []
theorem mergeD_snoc (ps : List (D × D)) (k v : D) : mergeD (ps ++ [(k, v)]) = putD (mergeD ps) k v := by
  unfold mergeD
  rw [List.foldl_append]; rfl
theorem dcp_core {t : Tg} {it k w : E} {ifs : Option E} {kd : HO → Prop} {ky : D → Bool} {St : Addr → V → V → Hp → (Hp → Prop) → Prop} {o0 : HO} (S : Sto G kd ky St) (k0 : kd o0) (r0 : ∀ F, RpO G.K G.sp F o0 (.dict []))
    {σ : L2.St} {H : Hp} {Q : VK} {g : List Nat} {en : En} {F : Hp} {s s1 s' : Src} {d1 : D} {xs ys : List D} {ps : List (D × D)} (R : Rl G.K G.sp G.cc g en σ F H s) (off : Off g (lk (.dcp t it ifs k w))) (h1 : evE G.v G.c it en s = some (d1, s1)) (h2 : seqOf d1 = some xs)
    (h3 : mapL (turnD G.v G.c t ifs k w en) xs s1 = some (ys, s')) (h4 : pairsOf ys = some ps) (h5 : ps.all (fun p => ky p.1) = true) (h6 : small ps.length = true)
    (fin : ∀ x F' H', Fw G.sp G.cc F H F' H' s' → Rn G.K G.sp H F' H' x (.dict (mergeD ps)) → Q x H') :
    RdI G it σ H fun J H1 => ∀ A, H1 A = none → ∃ W : Nat → Nat → Hp → Prop, (∃ m, W 0 m (upd H1 A o0)) ∧ ∀ i m H, W i m H → (J.stop i H ∧ Q (.ref A) H) ∨ (J.go i H ∧ ∃ Nx : Hp → Prop, (∀ H', Nx H' → ∃ m', m' < m ∧ W (i + 1) m' H') ∧
      ∀ x H', J.yld i H x H' → RdG G t x (wipe σ t.slots) H' fun σ2 H2 => wipe σ2 t.slots = wipe σ t.slots ∧ RdTO G ifs σ2 H2 fun b H3 => if b = true then RdV G k σ2 H3 fun y H4 => RdV G w σ2 H4 fun z H5 => St A y z H5 Nx else Nx H3) := by
  refine ⟨g, en, F, s, d1, xs, s1, R, Off.l off, h1, h2, fun J F1 H1 Gd f1 wk _ gp A hA => ?_⟩
  have nA : A ≠ G.sp ∧ A ≠ G.cc := ⟨(fun e => by rw [e, f1.src.1] at hA; cases hA), (fun e => by rw [e, f1.src.2] at hA; cases hA)⟩
  have fA : F1 A = none := by
    cases z : F1 A with
    | none => rfl
    | some u => rw [f1.sub _ _ z] at hA; cases hA
  refine dg_it wk (fun i H' => ∃ Fi si p1 p2 o rest, Fw G.sp G.cc F1 H1 Fi H' si ∧ mapL (turnD G.v G.c t ifs k w en) (xs.drop i) si = some (rest, s') ∧ pairsOf rest = some p2 ∧ ps = p1 ++ p2 ∧ H' A = some o ∧ Fi A = none ∧ kd o ∧ RpO G.K G.sp Fi o (.dict (mergeD p1)))
    ⟨F1, s1, [], ps, o0, ys, Fw.put f1.sub f1.src hA, h3, h4, rfl, upd_same, fA, k0, r0 F1⟩ (fun i H' _ ⟨Fi, si, p1, p2, o, rest, fw, _⟩ => gp _ _ _ fw) ?_ ?_
  · rintro i x Hi Hj hlt ⟨Fi, si, p1, p2, o, rest, fw, hm, hp, hy, hD, hF, kdo, ra⟩ ⟨d, hd, hstep⟩
    have Ri := (R.step f1).step fw
    obtain ⟨Fj, fj, rx⟩ := hstep Fi si fw.fr fw.sub fw.src Ri.fsp Ri.fcc
    have hdrop : xs.drop i = d :: xs.drop (i + 1) := by
      obtain ⟨hl, e⟩ := List.getElem?_eq_some_iff.mp hd
      rw [List.drop_eq_getElem_cons hl, e]
    rw [hdrop] at hm
    obtain ⟨yo, sa, m1, m2⟩ := bnd_some (show bnd (turnD G.v G.c t ifs k w en d) (fun y => bnd (mapL (turnD G.v G.c t ifs k w en) (xs.drop (i + 1))) fun ys => ret (match y with | some d => d :: ys | none => ys)) si = some (rest, s') from hm)
    obtain ⟨rest2, sb, m3, m4⟩ := bnd_some m2
    obtain ⟨er, rfl⟩ := ret_some m4
    obtain ⟨en2, t1, t2⟩ := bnd_lift m1
    obtain ⟨okb, sc, t3, t4⟩ := bnd_some t2
    have Rj := Ri.step fj
    have Rw := Rj.wipe t.slots
    refine ⟨_, _, Fj, si, d, en2, Rw, rx, tgSet_wipe t1, fun σ2 R2 hw => ⟨by rw [hw t.slots fun _ z => z, wipe_twice], ?_⟩⟩
    have offs : Off ((g.filter fun j => !t.slots.contains j).filter fun j => !t.slots.contains j) (lkO ifs ++ (lk k ++ lk w)) := fun i hi hm => by
      obtain ⟨a1, a2⟩ := List.mem_filter.mp hm
      obtain ⟨a3, _⟩ := List.mem_filter.mp a1
      exact Off.r off i (List.mem_filter.mpr ⟨hi, a2⟩) a3
    refine ⟨_, en2, Fj, si, sc, okb, R2, offs.l, t3, fun F3 H3 f3 => ?_⟩
    have keepA : ∀ {Hx Fx : Hp} {sx : Src}, Fw G.sp G.cc Fi Hi Fx Hx sx → Hx A = some o ∧ Fx A = none := fun {Hx Fx sx} fx => ⟨fx.keep _ _ hD nA.1 nA.2, fx.new _ hF (nt_of hD ra.nt)⟩
    cases okb with
    | true =>
      rw [if_pos rfl] at t4
      refine iteT ?_
      obtain ⟨y, sd, t5, t6⟩ := bnd_some t4
      obtain ⟨z, se, t7, t8⟩ := bnd_some t6
      obtain ⟨rfl, rfl⟩ := ret_some t8
      have hp : pairsOf (.tuple [y, z] :: rest2) = some p2 := by rw [← er] at hp; exact hp
      obtain ⟨p3, e3, rfl⟩ := Option.map_eq_some_iff.mp (show (pairsOf rest2).map ((y, z) :: ·) = some p2 from hp)
      refine ⟨_, en2, F3, sc, y, sd, R2.step f3, offs.r.l, t5, fun yv F4 H4 f4 ry => ⟨_, en2, F4, sd, z, _, (R2.step f3).step f4, offs.r.r, t7, fun zv F5 H5 f5 rz => ?_⟩⟩
      have fall := ((fj.trans f3).trans f4).trans f5
      obtain ⟨b1, b2⟩ := keepA fall
      have ky1 : ky y = true := by
        have := List.all_eq_true.mp h5 (y, z) (by rw [hy]; simp)
        exact this
      have sz : small ((mergeD p1).length + 1) = true := by
        refine decide_eq_true ?_
        have q1 := mergeD_len p1
        have q2 : ps.length ≤ 16000000 := of_decide_eq_true h6
        rw [hy, List.length_append, List.length_cons] at q2
        omega
      refine S.run f5.sub ky1 (ry.mono f5.fr) rz b1 kdo (ra.mono fall.fr) sz fun o' k' r' => ?_
      exact ⟨F5, _, p1 ++ [(y, z)], p3, o', rest2, (fw.trans fall).mutD hA b2 nA.1 nA.2, m3, e3, by rw [hy, List.append_assoc]; rfl, upd_same, b2, k', by rw [mergeD_snoc]; exact r'⟩
    | false =>
      rw [if_neg Bool.false_ne_true] at t4
      refine iteF ?_
      obtain ⟨rfl, rfl⟩ := ret_some t4
      have fall := fj.trans f3
      obtain ⟨b1, b2⟩ := keepA fall
      exact ⟨F3, _, p1, p2, o, rest2, fw.trans fall, m3, by rw [← er] at hp; exact hp, hy, b1, b2, kdo, ra.mono fall.fr⟩
  · rintro H' ⟨Fi, si, p1, p2, o, rest, fw, hm, hp, hy, hD, hF, kdo, ra⟩
    rw [List.drop_length] at hm
    obtain ⟨e1, e2⟩ := ret_some (show ret [] si = some (rest, s') from hm)
    subst e1 e2
    cases hp
    rw [List.append_nil] at hy
    subst hy
    exact fin _ Fi H' (f1.trans fw) ⟨A, o, rfl, f1.noneBack hA, hF, hD, ra⟩
theorem dcp_parts {t : Tg} {it k w : E} {ifs : Option E} {en : En} {s s' : Src} {d : D} (hev : evE G.v G.c (.dcp t it ifs k w) en s = some (d, s')) : ∃ d1 s1 xs ys ps, evE G.v G.c it en s = some (d1, s1) ∧ seqOf d1 = some xs ∧ mapL (turnD G.v G.c t ifs k w en) xs s1 = some (ys, s') ∧
    pairsOf ys = some ps ∧ (ps.all (fun p => isIK p.1) = true ∨ ps.all (fun p => isTK p.1) = true) ∧ small ps.length = true ∧ d = .dict (mergeD ps) := by
  obtain ⟨d1, s1, h1, hr⟩ := bnd_some hev
  obtain ⟨xs, h2, hr2⟩ := bnd_lift hr
  obtain ⟨ys, s2, h3, hr3⟩ := bnd_some hr2
  obtain ⟨h4, rfl⟩ := lift_some hr3
  obtain ⟨ps, h5, h6⟩ := Option.bind_eq_some_iff.mp h4
  obtain ⟨h7, h8⟩ := if_some h6
  rw [Bool.and_eq_true, Bool.or_eq_true] at h7
  exact ⟨d1, s1, xs, ys, ps, h1, h2, h3, h5, h7.1, h7.2, h8.symm⟩
/-- either of the two -/
def tDcE (G : Gx) (t : Tg) (it : E) (ifs : Option E) (k w : E) : TE := fun σ H Q => tDcT (RdI G it) (RdG G t) (RdTO G ifs) (RdV G k) (RdV G w) t.slots σ H Q ∨ tDc (RdI G it) (RdG G t) (RdTO G ifs) (RdV G k) (RdV G w) t.slots σ H Q
theorem tDcE_of {t : Tg} {it k w : E} {ifs : Option E} {σ : L2.St} {H : Hp} {Q : VK} (h : RdN G (.dcp t it ifs k w) σ H Q) : tDcE G t it ifs k w σ H Q := by
  obtain ⟨g, en, F, s, d, s', R, off, hev, fin⟩ := h
  obtain ⟨d1, s1, xs, ys, ps, h1, h2, h3, h4, h5, h6, rfl⟩ := dcp_parts hev
  rcases h5 with h5 | h5
  · exact .inr (dcp_core stoK (o0 := .dK []) trivial (fun F => RpI.nil) R off h1 h2 h3 h4 h5 h6 fin)
  · exact .inl (dcp_core stoT (o0 := .dT []) trivial (fun F => RpK.nil) R off h1 h2 h3 h4 h5 h6 fin)
theorem pe_either {e : Expr} {t1 t2 : TE} (h1 : PE X e t1) (h2 : PE X e t2) : PE X e (fun σ H Q => t1 σ H Q ∨ t2 σ H Q) := ⟨fun pins s σ H Q I q => q.elim (h1.run pins s σ H Q I) (h2.run pins s σ H Q I)⟩
theorem ok_dcp {t : Tg} {it k w : E} {ifs : Option E} {tx ix kx wx : Expr} {ifx : List Expr} {scope : Scope} {own : List (Str × Nat)} {pos : Pos} (room : X.A.units < cLine) (hK : X.K = G.K) (hc : X.calm = true) (hN : X.N.Nodup) (hi : PI X tx ix (RdI G it)) (ok : BlkOk X.N X.env.scope scope own)
    (hown : own.map (·.2) = t.slots) (hg : InBlk X scope fun Y => PG Y tx (RdG G t)) (ht : InBlk X scope fun Y => PTs Y ifx (RdTO G ifs)) (hk : InBlk X scope fun Y => PE Y kx (RdV G k)) (hw : InBlk X scope fun Y => PE Y wx (RdV G w)) (hs : ∀ x, foldedSetIterable ix X.env x = pure x) :
    OkN X G (.dcp t it ifs k w) (.DictComp kx wx [⟨tx, ix, ifx, 0⟩] scope pos) := by
  have p1 := pe_dcT (pos := pos) room hc hN hi ok hg ht hk hw hs
  have p2 := pe_dc (pos := pos) hc hN hi ok hg ht hk hw hs
  rw [hown] at p1 p2
  exact okN hK (pe_imp (pe_either p1 p2) fun σ H Q h => tDcE_of h) rfl fun _ _ => rfl
/-! ### a comprehension stored at once -/
theorem stored_name {i : Nat} {y : Str} {py : Pos} {pins : List (Addr × Obj)} {σ : L2.St} {D : Ends} {A C : Addr} {s' : Shared} {m : Str → Option Value} {H' : Hp} (hN : X.N.Nodup) (hy : X.N[i]? = some y) (hyl : X.env.scope.names.lookup y = some .local) (I' : Inv X pins σ H' s')
    (q : gName i (.ref A) σ H' D.nx) (hn : s'.heap.Ns C m) (f : FpOk X pins H' C) :
    wpAny (model X.prog X.w) X.A (assign (.Name y py) X.env (.ref A)) (fun _ s2 => ∃ m, s2.heap.Ns C m ∧ ∀ h2, Heap.SameBut C s2.heap h2 → SP X pins D .next { s2 with heap := h2 }) X.xe s' := by
  refine wpAny_assign_Name (store_ok2 (v := V.ref A) I' hN hy (.inl hyl) rfl (fun s2 I2 ⟨a, sb, ha⟩ => ?_) (.inr hyl))
  obtain ⟨f0, f1, f2, f3, f4, f5⟩ := f
  have ne : C ≠ a := ha.elim (fun z => z ▸ f1) fun z e => f4 y a z e.symm
  exact ⟨m, hn.sameBut sb ne, fun h3 sb3 => ⟨_, H', I2.turned (t' := s2.toks) (fun b o hb e => (sb3.2 b hb).trans e) f0 f1 f3 f4 f5, q⟩⟩
theorem ps_setDcE {t : Tg} {it k w : E} {ifs : Option E} {tx ix kx wx : Expr} {ifx : List Expr} {scope : Scope} {own : List (Str × Nat)} {pos spos py : Pos} {i : Nat} {y : Str} (room : X.A.units < cLine) (hc : X.calm = true) (hN : X.N.Nodup) (hy : X.N[i]? = some y)
    (hyl : X.env.scope.names.lookup y = some .local) (hsw : swapsWith (.DictComp kx wx [⟨tx, ix, ifx, 0⟩] scope pos) (some (.Name y py)) spos.line X.env = pure true) (hi : PI X tx ix (RdI G it)) (ok : BlkOk X.N X.env.scope scope own)
    (hown : own.map (·.2) = t.slots) (hg : InBlk X scope fun Y => PG Y tx (RdG G t)) (ht : InBlk X scope fun Y => PTs Y ifx (RdTO G ifs)) (hk : InBlk X scope fun Y => PE Y kx (RdV G k)) (hw : InBlk X scope fun Y => PE Y wx (RdV G w)) (hs : ∀ x, foldedSetIterable ix X.env x = pure x) :
    PS X (.Assign [.Name y py] (.DictComp kx wx [⟨tx, ix, ifx, 0⟩] scope pos) spos) (tAsg (tDcE G t it ifs k w) (gName i)) := by
  refine ⟨fun pins s σ H D I h => ?_⟩
  rw [exec_Assign_Name_used _ _ _ _ hsw]
  refine wpAny_bind (wpAny_standAt (wpAny_bind ?_))
  show wpAny _ X.A (do let _ ← comprehension (.DictComp kx wx [⟨tx, ix, ifx, 0⟩] scope pos) scope X.env (firstIterPos [⟨tx, ix, ifx, 0⟩] pos) newDict false (eval ix X.env) (some (assign (.Name y py) X.env))) _ _ s
  rcases (show tDcE G t it ifs k w σ H (fun x H1 => gName i x σ H1 D.nx) from h) with h | h
  · rw [← hown] at h
    exact wpAny_bind (thn (dcT_core (Qf := fun _ s' => SP X pins D .next s') room hc hN I hi ok hg ht hk hw hs h fun L C s' m H' I' q hn f => stored_name hN hy hyl I' q hn f) fun _ s' hq => wpAny_pure (wpAny_pure hq))
  · rw [← hown] at h
    exact wpAny_bind (thn (dc_core (Qf := fun _ s' => SP X pins D .next s') hc hN I hi ok hg ht hk hw hs h fun L C s' m H' I' q hn f => stored_name hN hy hyl I' q hn f) fun _ s' hq => wpAny_pure (wpAny_pure hq))
/-! ### {}, d.get(k, x) -/
theorem ok_dnew {pos : Pos} (hK : X.K = G.K) : OkN X G .dnew (.Dict [] [] pos) := by
  refine okN hK (pe_imp pe_dnewT fun σ H Q ⟨g, en, F, s, d, s', R, off, he, k⟩ => ?_) rfl fun _ _ => rfl
  obtain ⟨rfl, rfl⟩ := ret_some he
  intro p hp
  have fp : F p = none := by
    cases z : F p with
    | none => rfl
    | some u => rw [R.sub _ _ z] at hp; cases hp
  exact k _ F _ (Fw.put R.sub R.src hp) ⟨p, _, rfl, hp, fp, upd_same, RpK.nil⟩
theorem ok_dget {a e x : E} {ax ex xx : Expr} {apos cpos : Pos} (hK : X.K = G.K) (hu : X.A.units + 65 < cLine) (ha : PE X ax (RdB G a)) (he : PE X ex (RdB G e)) (hx : PE X xx (RdV G x)) (h2 : isStarX ex = false) (h3 : isStarX xx = false) (hb : attributeBase ax "get" X.env (eval ax X.env) = eval ax X.env) (hl : (apos.endLine == cpos.line) = true) :
    OkE X G (.dget a e x) (.Call (.Attribute ax "get" apos) [ex, xx] [] cpos) := by
  have s2 : starEach [ex, xx] X.env = [(false, eval ex X.env), (false, eval xx X.env)] := by rw [starEach_no h2, starEach_no h3]; rfl
  refine okV hK (pe_imp (pe_getE (by omega) ha he hx ⟨hb, by rw [s2]; rfl, hl, by rw [s2]; rfl⟩) fun σ H Q ⟨g, en, F, s, d, s', R, off, hev, k⟩ => ?_) rfl fun _ _ => rfl
  obtain ⟨d1, s1, e1, r1⟩ := bnd_some hev
  obtain ⟨d2, s2, e2, r2⟩ := bnd_some r1
  obtain ⟨d3, s3, e3, r3⟩ := bnd_some r2
  obtain ⟨e4, rfl⟩ := lift_some r3
  cases d1 with
  | dict kvs =>
    obtain ⟨hk, rfl⟩ := if_some (show (if likeK kvs d2 = true then some ((atD kvs d2).getD d3) else none) = some d from e4)
    refine one R off.l e1 fun x1 F1 H1 f1 b1 => ?_
    have isd : ∃ a, x1 = .ref a ∧ IsD H1 a := by
      rcases b1 with ⟨es, rfl⟩ | ⟨a, o, rfl, hH, _, _, ro⟩
      · injection es with es
        subst es
        cases d2 <;> cases hk
      · cases o with
        | dT kws => exact ⟨a, rfl, .inr ⟨_, hH⟩⟩
        | dK kws => exact ⟨a, rfl, .inl ⟨_, hH⟩⟩
        | _ => exact ro.elim
    obtain ⟨a1, rfl, id1⟩ := isd
    refine ⟨a1, rfl, id1, one (R.step f1) off.r.l e2 fun x2 F2 H2 f2 b2 => ⟨g, en, F2, s2, d3, _, (R.step f1).step f2, off.r.r, e3, fun x3 F3 H3 f3 r3 => ?_⟩⟩
    obtain ⟨a2, o, ea, _, gt, e5, e6, e7⟩ := keyE_rep ((b1.step f2).step f3) (b2.step f3) f3.sub hk
    cases ea
    have f := (f1.trans f2).trans f3
    refine ⟨o, gt, k _ _ _ f ?_⟩
    cases q : atD kvs d2 with
    | none => rw [e7 q]; exact r3
    | some dv =>
      obtain ⟨v, rfl, rv⟩ := e6 dv q
      exact rv
  | _ => cases e4
end
end Fz
/-! FzI: statements. -/
namespace Fz
open PySem PySem.Spec PyProof.Rows L2
/-! ### which lists are one's own, statement by statement -/
def drp (g l : List Nat) : List Nat := g.filter fun j => !l.contains j
def meet (g l : List Nat) : List Nat := g.filter fun j => l.contains j
def subB (g l : List Nat) : Bool := g.all fun j => l.contains j
def fresh : E → Bool
  | .op .. => true
  | .lst _ => true
  | .slc .. => true
  | .rev _ => true
  | .comp .. => true
  | .comp2 .. => true
  | .bi .list _ => true
  | .bi .sorted _ => true
  | .dps _ => true
  | .dzip .. => true
  | .dcp .. => true
  | .dnew => true
  | .disp _ => true
  | _ => false
def gAdd : List Nat → List Nat → List Bool → List Nat
  | g, i :: is, true :: bs => gAdd (i :: drp g [i]) is bs
  | g, i :: is, false :: bs => gAdd (drp g [i]) is bs
  | g, _, _ => g
mutual
def own : List Nat → S → Option (List Nat)
  | g, .asg t e => some (drp (drp g (lk e)) t.slots)
  | g, .new i e => if fresh e then some (i :: drp (drp g (lk e)) [i]) else none
  | g, .newD i e => if fresh e then some (i :: drp (drp g (lk e)) [i]) else none
  | g, .dset i k e => let g1 := drp g (lk e ++ lkB k); if g1.contains i then some g1 else none
  | g, .par is es => some (drp (drp g (lkL es)) is)
  | g, .parN is ns es => if (ns.zip es).all fun p => !p.1 || fresh p.2 then some (gAdd (drp g (lkL es)) is ns) else none
  | g, .app i e => let g1 := drp g (lk e); if g1.contains i then some g1 else none
  | g, .ext i e => let g1 := drp g (lkB e); if g1.contains i then some g1 else none
  | g, .pop t j k => let g1 := drp g (lkO k); if g1.contains j && !t.slots.contains j then some (drp g1 t.slots) else none
  | g, .set i k e => let g1 := drp g (lk e ++ lkB k); if g1.contains i then some g1 else none
  | g, .aug i _ e => some (drp (drp g (lkB e)) [i])
  | g, .ret e => some (drp g (lk e))
  | g, .ite q a b => let g1 := drp g (lkB q); match ownL g1 a, ownL g1 b with
    | some ga, some gb => some (meet ga gb)
    | _, _ => none
  | g, .for_ t it body =>
    let g1 := drp g (lk it)
    let st (h : List Nat) : Option (List Nat) := (ownL (drp h t.slots) body).map fun h2 => meet h h2
    let g2 := ((st g1).bind fun h => (st h).bind fun h => st h).getD []
    match ownL (drp g2 t.slots) body with
    | some h => if subB g2 g1 && subB g2 h && subB g2 (drp g2 t.slots) then some g2 else none
    | none => none
  | g, .whl q body =>
    let st (h : List Nat) : Option (List Nat) := (ownL (drp h (lkB q)) body).map fun h2 => meet h h2
    let g2 := drp (((st g).bind fun h => (st h).bind fun h => st h).getD []) (lkB q)
    match ownL g2 body with
    | some h => if subB g2 g && subB g2 h then some g2 else none
    | none => none
  | g, .pass => some g
  | g, .mix j i lap => if g.contains j && (decide (j ≠ i) && decide (lap ≠ j)) && decide (lap ≠ i) then some g else none
def ownL : List Nat → List S → Option (List Nat)
  | g, [] => some g
  | g, s :: r => (own g s).bind fun g1 => ownL g1 r
end
theorem mem_drp {g l : List Nat} {i : Nat} : i ∈ drp g l ↔ i ∈ g ∧ i ∉ l := by
  simp [drp, List.mem_filter]
theorem mem_meet {g l : List Nat} {i : Nat} : i ∈ meet g l ↔ i ∈ g ∧ i ∈ l := by
  simp [meet, List.mem_filter]
theorem subB_ok {g l : List Nat} (h : subB g l = true) : ∀ i ∈ g, i ∈ l := fun i hi => by
  have := List.all_eq_true.mp h i hi
  simpa using this
theorem off_drp (g l : List Nat) : Off (drp g l) l := fun i hi hm => (mem_drp.mp hm).2 hi

/-! ### the state between statements -/
structure Ls (K : PySem.W.Frag) (sp cc : Addr) (F0 H0 : Hp) (g : List Nat) (en : En) (σ : L2.St) (F H : Hp) (s : Src) : Prop where
  R : Rl K sp cc g en σ F H s
  W : Fw sp cc F0 H0 F H s
  O : ∀ i a, i ∈ g → en.getD i none ≠ none → σ[i]? = some (some (.ref a)) → H0 a = none
section
variable {K : PySem.W.Frag} {sp cc : Addr} {F0 H0 F H F' H' : Hp} {g : List Nat} {en : En} {σ : L2.St} {s s' : Src}
theorem Ls.step (L : Ls K sp cc F0 H0 g en σ F H s) (f : Fw sp cc F H F' H' s') : Ls K sp cc F0 H0 g en σ F' H' s' := ⟨L.R.step f, L.W.trans f, L.O⟩
theorem Ls.congr {g' : List Nat} (L : Ls K sp cc F0 H0 g en σ F H s) (h : ∀ i, i ∈ g ↔ i ∈ g') : Ls K sp cc F0 H0 g' en σ F H s := ⟨L.R.congr h, L.W, fun i a hi => L.O i a ((h i).mpr hi)⟩
/-- one list is frozen as it stands -/
theorem Ls.freeze1 (L : Ls K sp cc F0 H0 g en σ F H s) (i : Nat) : ∃ F', Ls K sp cc F0 H0 (g.filter fun j => j != i) en σ F' H s ∧ Same F F' := by
  by_cases hi : i ∈ g
  · cases e : en.getD i none with
    | none =>
      refine ⟨F, ⟨⟨L.R.sub, L.R.src, L.R.fsp, L.R.fcc, L.R.len, fun j d ej n => ?_, fun j hm => L.R.own j (List.mem_filter.mp hm).1, fun j k a hj hk => L.R.dis j k a (List.mem_filter.mp hj).1 (List.mem_filter.mp hk).1⟩, L.W, fun j a hm => L.O j a (List.mem_filter.mp hm).1⟩, Same.refl _⟩
      refine L.R.val j d ej fun q => n (List.mem_filter.mpr ⟨q, ?_⟩)
      by_cases z : j = i
      · rw [z, e] at ej; cases ej
      · simpa using z
    | some d =>
      obtain ⟨a, oo, h1, h2, h3, h4, h5, h6⟩ := L.R.own i hi d e
      have sm : Same F (upd F a oo) := Same.upd' h3
      have h0 := L.O i a hi (by rw [e]; simp) h1
      have sub : Same (upd F a oo) H := fun b u z => by
        by_cases hb : b = a
        · subst hb; rw [upd_same] at z; rw [← z]; exact h2
        · rw [upd_ne hb] at z; exact L.R.sub b u z
      refine ⟨upd F a oo, ⟨⟨sub, L.R.src, by rw [upd_ne (Ne.symm h5)]; exact L.R.fsp, by rw [upd_ne (Ne.symm h6)]; exact L.R.fcc, L.R.len, fun j d ej n => ?_, fun j hm d ej => ?_, fun j k b hj hk => L.R.dis j k b (List.mem_filter.mp hj).1 (List.mem_filter.mp hk).1⟩,
        ⟨L.W.fr.trans sm, sub, L.W.keep, L.W.src, fun b z n => ?_⟩, fun j b hm => L.O j b (List.mem_filter.mp hm).1⟩, sm⟩
      · by_cases z : j = i
        · rw [z, e] at ej
          cases ej
          exact ⟨_, z ▸ h1, (h4.mono sm).froz upd_same⟩
        · obtain ⟨v, e1, r⟩ := L.R.val j d ej fun q => n (List.mem_filter.mpr ⟨q, by simpa using z⟩)
          exact ⟨v, e1, r.mono sm⟩
      · obtain ⟨m1, m2⟩ := List.mem_filter.mp hm
        have nj : j ≠ i := by simpa using m2
        obtain ⟨b, us, k1, k2, k3, k4, k5, k6⟩ := L.R.own j m1 d ej
        have nb : b ≠ a := fun z => nj (L.R.dis j i a m1 hi (by rw [ej]; simp) (by rw [e]; simp) (z ▸ k1) h1)
        exact ⟨b, us, k1, k2, by rw [upd_ne nb]; exact k3, k4.mono sm, k5, k6⟩
      · rw [upd_ne (fun y => n.1 (by rw [y]; exact h0))]
        exact L.W.new b z n
  · refine ⟨F, L.congr fun j => ?_, Same.refl _⟩
    rw [List.mem_filter]
    constructor
    · intro hj
      have nj : j ≠ i := fun z => hi (z ▸ hj)
      exact ⟨hj, by simpa using nj⟩
    · exact fun hj => hj.1
theorem Ls.freeze (L : Ls K sp cc F0 H0 g en σ F H s) : ∀ l : List Nat, ∃ F', Ls K sp cc F0 H0 (drp g l) en σ F' H s ∧ Same F F'
  | [] => ⟨F, L.congr fun i => by simp [mem_drp], Same.refl _⟩
  | i :: l => by
    obtain ⟨F1, L1, s1⟩ := Ls.freeze L l
    obtain ⟨F2, L2, s2⟩ := L1.freeze1 i
    refine ⟨F2, L2.congr fun j => ?_, s1.trans s2⟩
    simp only [List.mem_filter, mem_drp, List.mem_cons, not_or, bne_iff_ne]
    constructor
    · rintro ⟨⟨a, b⟩, c⟩; exact ⟨a, c, b⟩
    · rintro ⟨a, b, c⟩; exact ⟨⟨a, c⟩, b⟩
/-- fewer are one's own -/
theorem Ls.less (L : Ls K sp cc F0 H0 g en σ F H s) {g' : List Nat} (h : ∀ i ∈ g', i ∈ g) : ∃ F', Ls K sp cc F0 H0 g' en σ F' H s ∧ Same F F' := by
  obtain ⟨F1, L1, s1⟩ := L.freeze (drp g g')
  refine ⟨F1, L1.congr fun i => ?_, s1⟩
  simp only [mem_drp]
  constructor
  · rintro ⟨a, b⟩
    by_cases hi : i ∈ g'
    · exact hi
    · exact absurd ⟨a, hi⟩ b
  · exact fun hi => ⟨h i hi, fun q => q.2 hi⟩
/-- targets set -/
theorem Ls.tgs (L : Ls K sp cc F0 H0 g en σ F H s) {en2 : En} {σ2 : L2.St} {t : List Nat} (R : Rl K sp cc (g.filter fun j => !t.contains j) en2 σ2 F H s) (h1 : ∀ i, i ∉ t → en2.getD i none = en.getD i none) (h2 : ∀ i, i ∉ t → σ2[i]? = σ[i]?) :
    Ls K sp cc F0 H0 (drp g t) en2 σ2 F H s := ⟨R, L.W, fun i a hi e z => by
    obtain ⟨m1, m2⟩ := mem_drp.mp hi
    rw [h1 i m2] at e
    rw [h2 i m2] at z
    exact L.O i a m1 e z⟩
end
section
variable (G : Gx)
/-- behind a statement -/
def Bh (F0 H0 F : Hp) (g' : List Nat) (r : Rs) (s' : Src) (D : Ends) : Prop := match r with
  | .next en2 => ∀ σ2 F' H', Same F F' → Ls G.K G.sp G.cc F0 H0 g' en2 σ2 F' H' s' → D.nx σ2 H'
  | .ret d => ∀ x F' H', Fw G.sp G.cc F0 H0 F' H' s' → Rp G.K G.sp F' x d → D.rt x H'
def RdS (st : S) : TS := fun D σ H => ∃ F0 H0 g en F s r s' g', Ls G.K G.sp G.cc F0 H0 g en σ F H s ∧ own g st = some g' ∧ exS G.v G.c st en s = some (r, s') ∧ Bh G F0 H0 F g' r s' D
def RdSs (sts : List S) : TS := fun D σ H => ∃ F0 H0 g en F s r s' g', Ls G.K G.sp G.cc F0 H0 g en σ F H s ∧ ownL g sts = some g' ∧ exL G.v G.c sts en s = some (r, s') ∧ Bh G F0 H0 F g' r s' D
end
theorem pss_imp {X : Cx} {sts : List Stmt} {t t' : TS} (h : PSs X sts t) (i : ∀ D σ H, t' D σ H → t D σ H) : PSs X sts t' := ⟨fun pins s σ H Q I q => h.run pins s σ H Q I (i _ _ _ q)⟩
section
variable {X : Cx} {G : Gx}
theorem okSs_nil : PSs X [] (RdSs G []) := pss_imp pss_nil fun D σ H ⟨F0, H0, g, en, F, s, r, s', g', L, o, e, b⟩ => by
  obtain ⟨rfl, rfl⟩ := ret_some e
  cases o
  exact b σ F H (Same.refl _) L
theorem okSs_cons {s0 : S} {r0 : List S} {st : Stmt} {sts : List Stmt} (h1 : PS X st (RdS G s0)) (h2 : PSs X sts (RdSs G r0)) : PSs X (st :: sts) (RdSs G (s0 :: r0)) := by
  refine pss_imp (pss_cons h1 h2) fun D σ H ⟨F0, H0, g, en, F, s, r, s', g', L, o, e, b⟩ => ?_
  obtain ⟨g1, o1, o2⟩ := Option.bind_eq_some_iff.mp (show (own g s0).bind (fun g1 => ownL g1 r0) = some g' by simpa [ownL] using o)
  obtain ⟨q, s1, e1, e2⟩ := bnd_some e
  refine ⟨F0, H0, g, en, F, s, q, s1, g1, L, o1, e1, ?_⟩
  cases q with
  | next en2 =>
    intro σ2 F2 H2 sm L2
    refine ⟨F0, H0, g1, en2, F2, s1, r, s', g', L2, o2, e2, ?_⟩
    cases r with
    | next en3 => exact fun σ3 F3 H3 sm3 L3 => b σ3 F3 H3 (sm.trans sm3) L3
    | ret d => exact b
  | ret d =>
    obtain ⟨rfl, rfl⟩ := ret_some e2
    exact b
theorem okS_pass {pos : Pos} : PS X (.Pass pos) (RdS G .pass) := ps_imp ps_pass fun D σ H ⟨F0, H0, g, en, F, s, r, s', g', L, o, e, b⟩ => by
  obtain ⟨rfl, rfl⟩ := ret_some (show ret (Rs.next en) s = some (r, s') by simpa [exS] using e)
  have : g = g' := by simpa [own] using o
  subst this
  exact b σ F H (Same.refl _) L
theorem okS_ret {e : E} {ex : Expr} {pos : Pos} (h : PE X ex (RdV G e)) : PS X (.Return (some ex) pos) (RdS G (.ret e)) := ps_imp (ps_ret h) fun D σ H ⟨F0, H0, g, en, F, s, r, s', g', L, o, ev, b⟩ => by
  obtain ⟨d, s1, e1, e2⟩ := bnd_some ev
  obtain ⟨rfl, rfl⟩ := ret_some e2
  obtain ⟨F1, L1, sm⟩ := L.freeze (lk e)
  exact ⟨_, en, F1, s, d, s', L1.R, off_drp _ _, e1, fun x F2 H2 f r => b x F2 H2 (L1.W.trans f) r⟩
theorem okS_ite {q : E} {a b : List S} {eq : Expr} {sa sb : List Stmt} {pos : Pos} (hq : PT X eq (RdT G q)) (ha : PSs X sa (RdSs G a)) (hb : PSs X sb (RdSs G b)) : PS X (.If eq sa sb pos) (RdS G (.ite q a b)) := by
  refine ps_imp (ps_if hq ha hb) fun D σ H ⟨F0, H0, g, en, F, s, r, s', g', L, o, ev, bh⟩ => ?_
  obtain ⟨d, s1, e1, e2⟩ := bnd_some ev
  obtain ⟨t, e3, e4⟩ := bnd_lift e2
  obtain ⟨F1, L1, sm⟩ := L.freeze (lkB q)
  have ho : ∃ ga gb, ownL (drp g (lkB q)) a = some ga ∧ ownL (drp g (lkB q)) b = some gb ∧ g' = meet ga gb := by
    have o2 : (match ownL (drp g (lkB q)) a, ownL (drp g (lkB q)) b with
      | some ga, some gb => some (meet ga gb)
      | _, _ => none) = some g' := by simpa [own] using o
    split at o2
    · rename_i ga gb h1 h2
      exact ⟨ga, gb, h1, h2, (Option.some.inj o2).symm⟩
    · cases o2
  obtain ⟨ga, gb, oa, ob, rfl⟩ := ho
  refine oneT L1.R (off_drp _ _) e1 e3 fun F2 H2 f => ?_
  have fin : ∀ {gx : List Nat}, (∀ i ∈ meet ga gb, i ∈ gx) → Bh G F0 H0 F2 gx r s' D := fun {gx} hs => by
    cases r with
    | next en2 =>
      intro σ2 F3 H3 sm3 L3
      obtain ⟨F4, L4, sm4⟩ := L3.less hs
      exact bh σ2 F4 H3 (((sm.trans f.fr).trans sm3).trans sm4) L4
    | ret d => exact bh
  cases t with
  | true =>
    rw [if_pos rfl] at e4 ⊢
    exact ⟨F0, H0, _, en, F2, s1, r, s', ga, L1.step f, oa, e4, fin fun i hi => (mem_meet.mp hi).1⟩
  | false =>
    rw [if_neg Bool.false_ne_true] at e4 ⊢
    exact ⟨F0, H0, _, en, F2, s1, r, s', gb, L1.step f, ob, e4, fin fun i hi => (mem_meet.mp hi).2⟩
end
end Fz
/-! FzJ: statements that store; loops. -/
namespace Fz
open PySem PySem.Spec PyProof.Rows L2
mutual
theorem tgSet_out : ∀ (t : Tg) (d : D) (en en2 : En), tgSet t d en = some en2 → ∀ i, i ∉ t.slots → en2.getD i none = en.getD i none
  | .name j, d, en, en2, h, i, hi => by
    have e : en.set j (some d) = en2 := by simpa [tgSet] using h
    have n : i ≠ j := by simpa [Tg.slots] using hi
    rw [← e, List.getD_eq_getElem?_getD, List.getElem?_set_ne (Ne.symm n), ← List.getD_eq_getElem?_getD]
  | .tup ts, d, en, en2, h, i, hi => by
    cases d with
    | tuple ds => exact tgSets_out ts ds en en2 (by simpa [tgSet] using h) i hi
    | list ds => exact tgSets_out ts ds en en2 (by simpa [tgSet] using h) i hi
    | _ => simp [tgSet] at h
theorem tgSets_out : ∀ (ts : List Tg) (ds : List D) (en en2 : En), tgSets ts ds en = some en2 → ∀ i, i ∉ Tg.slots.slotsL ts → en2.getD i none = en.getD i none
  | [], ds, en, en2, h, i, hi => by
    cases ds with
    | nil =>
      have e : en = en2 := by simpa [tgSets] using h
      rw [e]
    | cons _ _ => simp [tgSets] at h
  | t :: ts, ds, en, en2, h, i, hi => by
    cases ds with
    | nil => simp [tgSets] at h
    | cons d ds =>
      obtain ⟨ea, q1, q2⟩ := Option.bind_eq_some_iff.mp (show (tgSet t d en).bind (fun x => tgSets ts ds x) = some en2 by simpa [tgSets] using h)
      have hi2 : i ∉ t.slots ∧ i ∉ Tg.slots.slotsL ts := by simpa [Tg.slots.slotsL] using hi
      rw [tgSets_out ts ds ea en2 q2 i hi2.2, tgSet_out t d en ea q1 i hi2.1]
end
theorem wipe_slots {σ σ2 : L2.St} {l : List Nat} (h : ∀ vs : List Nat, (∀ i ∈ l, i ∈ vs) → wipe σ2 vs = wipe σ vs) : ∀ i, i ∉ l → σ2[i]? = σ[i]? := fun i hi => by
  have := h l fun _ z => z
  rw [← wipe_out (σ := σ2) hi, ← wipe_out (σ := σ) hi, this]
section
variable {X : Cx} {G : Gx}
theorem V_to_N {e : E} {σ : L2.St} {H : Hp} {Q : VK} (h : RdV G e σ H Q) : RdN G e σ H Q := by
  obtain ⟨g, en, F, s, d, s', R, o, he, k⟩ := h
  refine ⟨g, en, F, s, d, s', R, o, he, fun x F' H' f hn => ?_⟩
  obtain ⟨F2, f2, r⟩ := hn.freeze f
  exact k x F2 H' f2 r
/-- t = e -/
theorem okS_asg {t : Tg} {e : E} {te : TE} {tgx : TG} {st : Stmt} (h : PS X st (tAsg te tgx)) (hv : ∀ σ H Q, RdV G e σ H Q → te σ H Q) (hg : ∀ v σ H Q, RdG G t v σ H Q → tgx v σ H Q) : PS X st (RdS G (.asg t e)) := by
  refine ps_imp h fun D σ H ⟨F0, H0, g, en, F, s, r, s', g', L, o, ev, b⟩ => hv _ _ _ ?_
  obtain ⟨d, s1, e1, e2⟩ := bnd_some ev
  obtain ⟨en2, e3, e4⟩ := bnd_lift e2
  obtain ⟨rfl, rfl⟩ := ret_some e4
  have o : drp (drp g (lk e)) t.slots = g' := by simpa [own] using o
  subst o
  obtain ⟨F1, L1, sm⟩ := L.freeze (lk e)
  refine ⟨_, en, F1, s, d, s', L1.R, off_drp _ _, e1, fun x F2 H2 f rx => hg _ _ _ _ ?_⟩
  have L2 := L1.step f
  exact ⟨_, en, F2, s', d, en2, L2.R, rx, e3, fun σ2 R2 w2 => b σ2 F2 H2 (sm.trans f.fr) (L2.tgs R2 (tgSet_out t d en en2 e3) (wipe_slots w2))⟩
theorem gName_of {i : Nat} {v : V} {σ : L2.St} {H : Hp} {Q : L2.St → Hp → Prop} (h : RdG G (.name i) v σ H Q) : gName i v σ H Q := by
  obtain ⟨g, en, F, s, d, en2, R, r, e, k⟩ := h
  have e2 : en.set i (some d) = en2 := by simpa [tgSet] using e
  subst e2
  exact k _ ((R.setF (i := i) r).congr fun j => by simp [Tg.slots, List.mem_filter]) fun vs hv => wipe_set (hv i (by simp [Tg.slots]))
/-- a new object, one's own, in a slot -/
theorem Ls.add1 {K : PySem.W.Frag} {sp cc : Addr} {F0 H0 F H F2 H2 : Hp} {g : List Nat} {en : En} {σ : L2.St} {s s' : Src} (L1 : Ls K sp cc F0 H0 g en σ F H s) (f : Fw sp cc F H F2 H2 s') {i : Nat} {p : Addr} {o : HO} {d : D} (hp : H p = none) (fp : F2 p = none) (hl : H2 p = some o) (ra : RpO K sp F2 o d) :
    Ls K sp cc F0 H0 (i :: drp g [i]) (en.set i (some d)) (σ.set i (some (V.ref p))) F2 H2 s' := by
  have L2 := L1.step f
  have h0 : H0 p = none := L1.W.noneBack hp
  have ns : p ≠ sp := fun z => by rw [z, L1.R.src.1] at hp; cases hp
  have nc : p ≠ cc := fun z => by rw [z, L1.R.src.2] at hp; cases hp
  have old : ∀ j, j ≠ i → (en.set i (some d)).getD j none = en.getD j none := fun j hj => by
    rw [List.getD_eq_getElem?_getD, List.getElem?_set_ne (Ne.symm hj), ← List.getD_eq_getElem?_getD]
  have olds : ∀ j, j ≠ i → (σ.set i (some (V.ref p)))[j]? = σ[j]? := fun j hj => by rw [List.getElem?_set_ne (Ne.symm hj)]
  have here : ∀ x, (en.set i (some d)).getD i none = some x → x = d ∧ i < σ.length := fun x hx => by
    by_cases hl : i < en.length
    · rw [List.getD_eq_getElem?_getD, List.getElem?_set_self hl] at hx
      cases hx; exact ⟨rfl, L1.R.len ▸ hl⟩
    · rw [List.getD_eq_getElem?_getD, List.getElem?_eq_none (by rw [List.length_set]; omega)] at hx; cases hx
  have lt : (en.set i (some d)).getD i none ≠ none → i < σ.length := fun hx => by
    cases q : (en.set i (some d)).getD i none with
    | none => exact absurd q hx
    | some x => exact (here x q).2
  -- what is one's own already stands elsewhere
  have elder : ∀ j a, j ∈ drp g [i] → en.getD j none ≠ none → σ[j]? = some (some (.ref a)) → a ≠ p := fun j a hj hn hs hz => by
    cases q : en.getD j none with
    | none => exact hn q
    | some d2 =>
      obtain ⟨a2, o2, k1, k2, _⟩ := L1.R.own j (mem_drp.mp hj).1 d2 q
      rw [hs] at k1
      cases k1
      rw [hz, hp] at k2
      cases k2
  refine ⟨⟨L2.R.sub, L2.R.src, L2.R.fsp, L2.R.fcc, by simpa using L2.R.len, fun j d2 ej nj => ?_, fun j hj d2 ej => ?_, fun j k a hj hk ej ek sj sk => ?_⟩, L2.W, fun j a hj ej sj => ?_⟩
  · have hji : j ≠ i := fun z => nj (by rw [z]; exact List.mem_cons_self ..)
    rw [old j hji] at ej
    rw [olds j hji]
    exact L2.R.val j d2 ej fun q => nj (List.mem_cons_of_mem _ (mem_drp.mpr ⟨q, by simpa using hji⟩))
  · by_cases hji : j = i
    · subst hji
      obtain ⟨rfl, hlt⟩ := here d2 ej
      exact ⟨p, o, List.getElem?_set_self hlt, hl, fp, ra, ns, nc⟩
    · rw [old j hji] at ej
      rw [olds j hji]
      exact L2.R.own j (mem_drp.mp ((List.mem_cons.mp hj).resolve_left hji)).1 d2 ej
  · by_cases hji : j = i
    · by_cases hki : k = i
      · rw [hji, hki]
      · exfalso
        have hk2 : k ∈ drp g [i] := (List.mem_cons.mp hk).resolve_left hki
        rw [old k hki] at ek
        rw [olds k hki] at sk
        have hlt : i < σ.length := lt (hji ▸ ej)
        rw [hji, List.getElem?_set_self hlt] at sj
        cases sj
        exact elder k p hk2 ek sk rfl
    · by_cases hki : k = i
      · exfalso
        have hj2 : j ∈ drp g [i] := (List.mem_cons.mp hj).resolve_left hji
        rw [old j hji] at ej
        rw [olds j hji] at sj
        have hlt : i < σ.length := lt (hki ▸ ek)
        rw [hki, List.getElem?_set_self hlt] at sk
        cases sk
        exact elder j p hj2 ej sj rfl
      · rw [old j hji] at ej
        rw [olds j hji] at sj
        rw [old k hki] at ek
        rw [olds k hki] at sk
        exact L2.R.dis j k a ((mem_drp.mp ((List.mem_cons.mp hj).resolve_left hji)).1) ((mem_drp.mp ((List.mem_cons.mp hk).resolve_left hki)).1) ej ek sj sk
  · by_cases hji : j = i
    · have hlt : i < σ.length := lt (hji ▸ ej)
      rw [hji, List.getElem?_set_self hlt] at sj
      cases sj
      exact h0
    · rw [old j hji] at ej
      rw [olds j hji] at sj
      exact L2.O j a ((mem_drp.mp ((List.mem_cons.mp hj).resolve_left hji)).1) ej sj
/-- name = a new list, one's own -/
theorem okS_new {i : Nat} {e : E} {te : TE} {st : Stmt} (h : PS X st (tAsg te (gName i))) (hv : ∀ σ H Q, RdN G e σ H Q → te σ H Q) : PS X st (RdS G (.new i e)) := by
  refine ps_imp h fun D σ H ⟨F0, H0, g, en, F, s, r, s', g', L, o, ev, b⟩ => hv _ _ _ ?_
  obtain ⟨d, s1, e1, e2⟩ := bnd_some ev
  cases d with
  | list ds =>
    obtain ⟨rfl, rfl⟩ := ret_some e2
    have o : i :: drp (drp g (lk e)) [i] = g' := by
      have o2 : (if fresh e = true then some (i :: drp (drp g (lk e)) [i]) else none) = some g' := by simpa [own] using o
      exact (if_some o2).2
    subst o
    obtain ⟨F1, L1, sm⟩ := L.freeze (lk e)
    refine ⟨_, en, F1, s, _, s', L1.R, off_drp _ _, e1, fun x F2 H2 f rx => ?_⟩
    obtain ⟨p, vs, rfl, hp, fp, hl, ra⟩ := rx
    exact b _ F2 H2 (sm.trans f.fr) (L1.add1 f hp fp hl ra)
  | _ => cases e2
/-- name = a new dict, one's own -/
theorem okS_newD {i : Nat} {e : E} {te : TE} {st : Stmt} (h : PS X st (tAsg te (gName i))) (hv : ∀ σ H Q, RdN G e σ H Q → te σ H Q) : PS X st (RdS G (.newD i e)) := by
  refine ps_imp h fun D σ H ⟨F0, H0, g, en, F, s, r, s', g', L, o, ev, b⟩ => hv _ _ _ ?_
  obtain ⟨d, s1, e1, e2⟩ := bnd_some ev
  cases d with
  | dict kvs =>
    have e2 : (if keysOk kvs = true then ret (Rs.next (en.set i (some (PyData.dict kvs)))) else fun _ => none) s1 = some (r, s') := e2
    by_cases kk : keysOk kvs = true
    · rw [if_pos kk] at e2
      obtain ⟨rfl, rfl⟩ := ret_some e2
      have o : i :: drp (drp g (lk e)) [i] = g' := by
        have o2 : (if fresh e = true then some (i :: drp (drp g (lk e)) [i]) else none) = some g' := by simpa [own] using o
        exact (if_some o2).2
      subst o
      obtain ⟨F1, L1, sm⟩ := L.freeze (lk e)
      refine ⟨_, en, F1, s, _, s', L1.R, off_drp _ _, e1, fun x F2 H2 f rx => ?_⟩
      obtain ⟨p, oo, rfl, hp, fp, hl, ra⟩ := rx
      exact b _ F2 H2 (sm.trans f.fr) (L1.add1 f hp fp hl ra)
    · rw [if_neg kk] at e2; cases e2
  | _ => cases e2
/-- one's own list is changed -/
theorem Ls.mutO {K : PySem.W.Frag} {sp cc : Addr} {F0 H0 F H : Hp} {g : List Nat} {en : En} {σ : L2.St} {s : Src} (L : Ls K sp cc F0 H0 g en σ F H s) {i : Nat} (hi : i ∈ g) {d : D} (e : en.getD i none = some d) {a : Addr} (hs : σ[i]? = some (some (.ref a)))
    (hF : F a = none) (n1 : a ≠ sp) (n2 : a ≠ cc) {o' : HO} {d' : D} (ra : RpO K sp F o' d') : Ls K sp cc F0 H0 g (en.set i (some d')) σ F (upd H a o') s := by
  have hlt : i < en.length := by
    rcases Nat.lt_or_ge i en.length with h | h
    · exact h
    · rw [List.getD_eq_getElem?_getD, List.getElem?_eq_none h] at e; cases e
  have old : ∀ j, j ≠ i → (en.set i (some d')).getD j none = en.getD j none := fun j hj => by
    rw [List.getD_eq_getElem?_getD, List.getElem?_set_ne (Ne.symm hj), ← List.getD_eq_getElem?_getD]
  have here : (en.set i (some d')).getD i none = some d' := by
    rw [List.getD_eq_getElem?_getD, List.getElem?_set_self hlt]; rfl
  have h0 := L.O i a hi (by rw [e]; simp) hs
  have W := L.W.mutD (o := o') h0 hF n1 n2
  have dom : ∀ j, (en.set i (some d')).getD j none ≠ none → en.getD j none ≠ none := fun j h => by
    by_cases hj : j = i
    · rw [hj, e]; simp
    · rw [old j hj] at h; exact h
  refine ⟨⟨W.sub, W.src, L.R.fsp, L.R.fcc, by simpa using L.R.len, fun j d ej nj => ?_, fun j hj d ej => ?_, fun j k b hj hk ej ek => L.R.dis j k b hj hk (dom j ej) (dom k ek)⟩, W, fun j b hj ej => L.O j b hj (dom j ej)⟩
  · have hji : j ≠ i := fun z => nj (z ▸ hi)
    rw [old j hji] at ej
    exact L.R.val j d ej nj
  · by_cases hji : j = i
    · subst hji
      rw [here] at ej
      cases ej
      exact ⟨a, o', hs, upd_same, hF, ra, n1, n2⟩
    · rw [old j hji] at ej
      obtain ⟨b, us, k1, k2, k3, k4, k5, k6⟩ := L.R.own j hj d ej
      have nb : b ≠ a := fun z => hji (L.R.dis j i a hj hi (by rw [ej]; simp) (by rw [e]; simp) (z ▸ k1) hs)
      exact ⟨b, us, k1, by rw [upd_ne nb]; exact k2, k3, k4, k5, k6⟩
theorem Ls.mut {K : PySem.W.Frag} {sp cc : Addr} {F0 H0 F H : Hp} {g : List Nat} {en : En} {σ : L2.St} {s : Src} (L : Ls K sp cc F0 H0 g en σ F H s) {i : Nat} (hi : i ∈ g) {ds : List D} (e : en.getD i none = some (.list ds)) {a : Addr} (hs : σ[i]? = some (some (.ref a)))
    {vs : List V} (hl : H a = some (.lst vs)) (hF : F a = none) (n1 : a ≠ sp) (n2 : a ≠ cc) {vs' : List V} {ds' : List D} (ra : RpA K sp F vs' ds') : Ls K sp cc F0 H0 g (en.set i (some (.list ds'))) σ F (upd H a (.lst vs')) s :=
  L.mutO hi e hs hF n1 n2 (o' := .lst vs') (d' := .list ds') ra
end
end Fz
/-! FzK: several names at once, lists changed in place, loops. -/
namespace Fz
open PySem PySem.Spec PyProof.Rows L2
section
variable {X : Cx} {G : Gx}
theorem setF_tgs {g : List Nat} {en : En} {σ : L2.St} {F0 H0 F H : Hp} {s : Src} (L : Ls G.K G.sp G.cc F0 H0 g en σ F H s) {i : Nat} {x : V} {d : D} (r : Rp G.K G.sp F x d) : Ls G.K G.sp G.cc F0 H0 (drp g [i]) (en.set i (some d)) (σ.set i (some x)) F H s := by
  have R := (L.R.setF (i := i) r).congr (g' := g.filter fun j => !([i] : List Nat).contains j) fun j => by simp [List.mem_filter]
  refine L.tgs R (fun j hj => ?_) fun j hj => ?_
  · have n : j ≠ i := by simpa using hj
    rw [List.getD_eq_getElem?_getD, List.getElem?_set_ne (Ne.symm n), ← List.getD_eq_getElem?_getD]
  · have n : j ≠ i := by simpa using hj
    rw [List.getElem?_set_ne (Ne.symm n)]
/-- x, y = a, b -/
theorem okS_par2 {i j : Nat} {es : List E} {st : Stmt} {ta : TA} (h : PS X st (tPar i j ta)) (hv : ∀ σ H Q, RdL G es σ H Q → ta σ H Q) : PS X st (RdS G (.par [i, j] es)) := by
  refine ps_imp h fun D σ H ⟨F0, H0, g, en, F, s, r, s', g', L, o, ev, b⟩ => hv _ _ _ ?_
  obtain ⟨ds, s1, e1, e2⟩ := bnd_some ev
  obtain ⟨en2, e3, e4⟩ := bnd_lift e2
  obtain ⟨rfl, rfl⟩ := ret_some e4
  have o : drp (drp g (lkL es)) [i, j] = g' := by simpa [own] using o
  subst o
  obtain ⟨F1, L1, sm⟩ := L.freeze (lkL es)
  refine ⟨_, en, F1, s, ds, s', L1.R, off_drp _ _, e1, fun xs F2 H2 f rx => ?_⟩
  match ds, xs, rx, e3 with
  | [d1, d2], _, .cons (v := v1) r1 (.cons (v := v2) r2 .nil), e3 =>
    have e4 : (en.set i (some d1)).set j (some d2) = en2 := Option.some.inj e3
    subst e4
    refine ⟨v1, v2, rfl, b _ F2 H2 (sm.trans f.fr) ((setF_tgs (setF_tgs (L1.step f) r1) r2).congr fun k => ?_)⟩
    simp only [mem_drp, List.mem_cons, List.not_mem_nil, or_false, not_or]
    constructor
    · rintro ⟨⟨a, b⟩, c⟩; exact ⟨a, b, c⟩
    · rintro ⟨a, b, c⟩; exact ⟨⟨a, b⟩, c⟩
  | [], _, _, e3 => cases e3
  | [_], _, _, e3 => cases e3
  | _ :: _ :: _ :: _, _, _, e3 => cases e3
theorem okS_par3 {i j l : Nat} {es : List E} {st : Stmt} {ta : TA} (h : PS X st (tPar3 i j l ta)) (hv : ∀ σ H Q, RdL G es σ H Q → ta σ H Q) : PS X st (RdS G (.par [i, j, l] es)) := by
  refine ps_imp h fun D σ H ⟨F0, H0, g, en, F, s, r, s', g', L, o, ev, b⟩ => hv _ _ _ ?_
  obtain ⟨ds, s1, e1, e2⟩ := bnd_some ev
  obtain ⟨en2, e3, e4⟩ := bnd_lift e2
  obtain ⟨rfl, rfl⟩ := ret_some e4
  have o : drp (drp g (lkL es)) [i, j, l] = g' := by simpa [own] using o
  subst o
  obtain ⟨F1, L1, sm⟩ := L.freeze (lkL es)
  refine ⟨_, en, F1, s, ds, s', L1.R, off_drp _ _, e1, fun xs F2 H2 f rx => ?_⟩
  match ds, xs, rx, e3 with
  | [d1, d2, d3], _, .cons (v := v1) r1 (.cons (v := v2) r2 (.cons (v := v3) r3 .nil)), e3 =>
    have e4 : ((en.set i (some d1)).set j (some d2)).set l (some d3) = en2 := Option.some.inj e3
    subst e4
    refine ⟨v1, v2, v3, rfl, b _ F2 H2 (sm.trans f.fr) ((setF_tgs (setF_tgs (setF_tgs (L1.step f) r1) r2) r3).congr fun k => ?_)⟩
    simp only [mem_drp, List.mem_cons, List.not_mem_nil, or_false, not_or]
    constructor
    · rintro ⟨⟨⟨a, b⟩, c⟩, d⟩; exact ⟨a, b, c, d⟩
    · rintro ⟨a, b, c, d⟩; exact ⟨⟨⟨a, b⟩, c⟩, d⟩
  | [], _, _, e3 => cases e3
  | [_], _, _, e3 => cases e3
  | [_, _], _, _, e3 => cases e3
  | _ :: _ :: _ :: _ :: _, _, _, e3 => cases e3
theorem lstAt_some {en : En} {i : Nat} {ds : List D} (h : lstAt en i = some ds) : en.getD i none = some (.list ds) := by
  unfold lstAt at h
  split at h
  · rename_i xs e; rw [e]; cases h; rfl
  · cases h
/-- one's own list as it stands -/
theorem Ls.at {g : List Nat} {en : En} {σ : L2.St} {F0 H0 F H : Hp} {s : Src} (L : Ls G.K G.sp G.cc F0 H0 g en σ F H s) {i : Nat} (hi : i ∈ g) {ds : List D} (h : lstAt en i = some ds) :
    ∃ a vs, en.getD i none = some (.list ds) ∧ σ[i]? = some (some (.ref a)) ∧ H a = some (.lst vs) ∧ F a = none ∧ RpA G.K G.sp F vs ds ∧ a ≠ G.sp ∧ a ≠ G.cc := by
  have e := lstAt_some h
  obtain ⟨a, o, h1, h2, h3, h4, h5, h6⟩ := L.R.own i hi _ e
  obtain ⟨vs, rfl, ra⟩ := h4.list
  exact ⟨a, vs, e, h1, h2, h3, ra, h5, h6⟩
theorem okS_app {i : Nat} {e : E} {x : Str} {ex : Expr} {p apos cpos pos : Pos} (hN : X.N[i]? = some x) (hv : Vis X.env.scope x) (hd : (x == ("__debug__" : Str)) = false) (hcd : (x == ("__classdict__" : Str)) = false) (hs : isStarX ex = false) (hline : (apos.endLine == cpos.line) = true)
    (he : PE X ex (RdV G e)) : PS X (.Expr (.Call (.Attribute (.Name x p) "append" apos) [ex] [] cpos) pos) (RdS G (.app i e)) := by
  have pe := pe_bm (cpos := cpos) (apos := apos) PySem.F.plainAttrs_list PySem.F.slot_list_append PySem.F.type_list_append mt_append (pe_var (pos := p) hN hv hd hcd) (pa_cons he pa_nil (starEach_no hs _ _)) (by rfl) (by rw [starEach_no hs]; rfl) hline (starEach_no hs _ _) (by rfl)
  refine ps_imp (ps_expr pe) fun D σ H ⟨F0, H0, g, en, F, s, r, s', g', L, o, ev, b⟩ => ?_
  obtain ⟨d, s1, e1, e2⟩ := bnd_some ev
  obtain ⟨ds, e3, e4⟩ := bnd_lift e2
  have o2 : (if (drp g (lk e)).contains i = true then some (drp g (lk e)) else none) = some g' := by simpa [own] using o
  obtain ⟨hi, rfl⟩ := if_some o2
  have hi : i ∈ drp g (lk e) := by simpa using hi
  have sz : small (ds.length + 1) = true ∧ (r, s') = (Rs.next (en.set i (some (.list (ds ++ [d])))), s1) := by
    by_cases q : small (ds.length + 1) = true
    · refine ⟨q, ?_⟩
      have e5 : (if small (ds.length + 1) = true then ret (Rs.next (en.set i (some (.list (ds ++ [d]))))) else fun _ => none) s1 = some (r, s') := e4
      rw [if_pos q] at e5
      exact (Option.some.inj e5).symm
    · have e5 : (if small (ds.length + 1) = true then ret (Rs.next (en.set i (some (.list (ds ++ [d]))))) else fun _ => none) s1 = some (r, s') := e4
      rw [if_neg q] at e5; cases e5
  obtain ⟨hsz, er⟩ := sz
  cases er
  obtain ⟨F1, L1, sm⟩ := L.freeze (lk e)
  obtain ⟨a, vs, k1, k2, k3, k4, k5, k6, k7⟩ := L1.at hi e3
  refine ⟨.ref a, k2, .inl ⟨rfl, _, SqL.of k3⟩, _, en, F1, s, d, _, L1.R, off_drp _ _, e1, fun y F2 H2 f ry => ?_⟩
  have L2 := L1.step f
  have k8 := f.keep _ _ k3 k6 k7
  have k9 := f.new _ k4 (nt_of k3 nofun)
  refine ⟨a, vs, y, rfl, rfl, k8, ?_, b σ F2 _ (sm.trans f.fr) (L2.mut hi k1 k2 k8 k9 k6 k7 ((k5.mono f.fr).append (.cons ry .nil)))⟩
  have := small_lt hsz
  rw [k5.length]; omega
theorem okS_ext {i : Nat} {e : E} {x : Str} {ex : Expr} {p apos cpos pos : Pos} (hN : X.N[i]? = some x) (hv : Vis X.env.scope x) (hd : (x == ("__debug__" : Str)) = false) (hcd : (x == ("__classdict__" : Str)) = false) (hs : isStarX ex = false) (hline : (apos.endLine == cpos.line) = true)
    (he : PE X ex (RdB G e)) : PS X (.Expr (.Call (.Attribute (.Name x p) "extend" apos) [ex] [] cpos) pos) (RdS G (.ext i e)) := by
  have pe := pe_bm (cpos := cpos) (apos := apos) PySem.F.plainAttrs_list PySem.F.slot_list_extend PySem.F.type_list_extend mt_extend (pe_var (pos := p) hN hv hd hcd) (pa_cons he pa_nil (starEach_no hs _ _)) (by rfl) (by rw [starEach_no hs]; rfl) hline (starEach_no hs _ _) (by rfl)
  refine ps_imp (ps_expr pe) fun D σ H ⟨F0, H0, g, en, F, s, r, s', g', L, o, ev, b⟩ => ?_
  obtain ⟨d, s1, e1, e2⟩ := bnd_some ev
  obtain ⟨ds, e3, e4⟩ := bnd_lift e2
  have o2 : (if (drp g (lkB e)).contains i = true then some (drp g (lkB e)) else none) = some g' := by simpa [own] using o
  obtain ⟨hi, rfl⟩ := if_some o2
  have hi : i ∈ drp g (lkB e) := by simpa using hi
  cases d with
  | list ys =>
    have sz : small (ds.length + ys.length) = true ∧ (r, s') = (Rs.next (en.set i (some (.list (ds ++ ys)))), s1) := by
      by_cases q : small (ds.length + ys.length) = true
      · refine ⟨q, ?_⟩
        have e5 : (if small (ds.length + ys.length) = true then ret (Rs.next (en.set i (some (.list (ds ++ ys))))) else fun _ => none) s1 = some (r, s') := e4
        rw [if_pos q] at e5
        exact (Option.some.inj e5).symm
      · have e5 : (if small (ds.length + ys.length) = true then ret (Rs.next (en.set i (some (.list (ds ++ ys))))) else fun _ => none) s1 = some (r, s') := e4
        rw [if_neg q] at e5; cases e5
    obtain ⟨hsz, er⟩ := sz
    cases er
    obtain ⟨F1, L1, sm⟩ := L.freeze (lkB e)
    obtain ⟨a, vs, k1, k2, k3, k4, k5, k6, k7⟩ := L1.at hi e3
    refine ⟨.ref a, k2, .inl ⟨rfl, _, SqL.of k3⟩, _, en, F1, s, _, _, L1.R, off_drp _ _, e1, fun y F2 H2 f ry => ?_⟩
    have L2 := L1.step f
    have k8 := f.keep _ _ k3 k6 k7
    have k9 := f.new _ k4 (nt_of k3 nofun)
    obtain ⟨q, us, rfl, m1, m2, m3, m4⟩ := ry
    refine ⟨a, q, vs, us, rfl, rfl, k8, m1, ?_, b σ F2 _ (sm.trans f.fr) (L2.mut hi k1 k2 k8 k9 k6 k7 ((k5.mono f.fr).append m4))⟩
    rw [k5.length, m4.length]
    exact small_le hsz
  | _ => cases e4
theorem okS_set {i : Nat} {k e : E} {x : Str} {kx ex : Expr} {p p2 pos : Pos} (hN : X.N[i]? = some x) (hv : Vis X.env.scope x) (hd : (x == ("__debug__" : Str)) = false) (hcd : (x == ("__classdict__" : Str)) = false) (hsl : isSliceX kx = false)
    (he : PE X ex (RdV G e)) (hk : PE X kx (RdB G k)) (hs : swapsWithSole [.Subscript (.Name x p) kx p2] ex pos.line X.env = pure false) (hw : swappedStores [.Subscript (.Name x p) kx p2] ex X.env = pure none) : PS X (.Assign [.Subscript (.Name x p) kx p2] ex pos) (RdS G (.set i k e)) := by
  have pg : PG X (.Subscript (.Name x p) kx p2) (gSub (tVar i) (RdB G k) rSetL) := pg_sub (pe_var hN hv hd hcd) hk set_list (by intro v; cases kx <;> first | rfl | cases hsl)
  refine ps_imp (ps_asg he pg hs hw (by rfl)) fun D σ H ⟨F0, H0, g, en, F, s, r, s', g', L, o, ev, b⟩ => ?_
  obtain ⟨d, s1, e1, e2⟩ := bnd_some ev
  obtain ⟨kd, s2, e3, e4⟩ := bnd_some e2
  obtain ⟨ds, e5, e6⟩ := bnd_lift e4
  have o2 : (if (drp g (lk e ++ lkB k)).contains i = true then some (drp g (lk e ++ lkB k)) else none) = some g' := by simpa [own] using o
  obtain ⟨hi, rfl⟩ := if_some o2
  have hi : i ∈ drp g (lk e ++ lkB k) := by simpa using hi
  cases kd with
  | int z =>
    have ex2 : ∃ j, ixN ds.length z = some j ∧ (r, s') = (Rs.next (en.set i (some (.list (ds.set j d)))), s2) := by
      have e7 : (match ixN ds.length z with
        | some j => ret (Rs.next (en.set i (some (.list (ds.set j d)))))
        | none => fun _ => none) s2 = some (r, s') := e6
      cases q : ixN ds.length z with
      | none => rw [q] at e7; cases e7
      | some j => rw [q] at e7; exact ⟨j, rfl, (Option.some.inj e7).symm⟩
    obtain ⟨j, hj, er⟩ := ex2
    cases er
    obtain ⟨F1, L1, sm⟩ := L.freeze (lk e ++ lkB k)
    have off := off_drp g (lk e ++ lkB k)
    refine ⟨_, en, F1, s, d, s1, L1.R, off.l, e1, fun y F2 H2 f ry => ?_⟩
    have L2 := L1.step f
    obtain ⟨a, vs, k1, k2, k3, k4, k5, k6, k7⟩ := L2.at hi e5
    refine ⟨.ref a, k2, _, en, F2, s1, _, _, L2.R, off.r, e3, fun w F3 H3 f3 rw' => ?_⟩
    have L3 := L2.step f3
    have k8 := f3.keep _ _ k3 k6 k7
    have k9 := f3.new _ k4 (nt_of k3 nofun)
    exact ⟨a, vs, z, j, rfl, rw'.int, k8, by rw [k5.length]; exact hj, b σ F3 _ ((sm.trans f.fr).trans f3.fr) (L3.mut hi k1 k2 k8 k9 k6 k7 (RpA.set (ry.mono f3.fr) j (k5.mono f3.fr)))⟩
  | _ => cases e6
theorem dctAt_some {en : En} {i : Nat} {kvs : List (D × D)} (h : dctAt en i = some kvs) : en.getD i none = some (.dict kvs) := by
  unfold dctAt at h
  split at h
  · rename_i xs e; rw [e]; cases h; rfl
  · cases h
/-- d[k] = e, a dict of one's own -/
theorem okS_dset {i : Nat} {k e : E} {x : Str} {kx ex : Expr} {p p2 pos : Pos} (hu : X.A.units + 65 < cLine) (hN : X.N[i]? = some x) (hv : Vis X.env.scope x) (hd : (x == ("__debug__" : Str)) = false) (hcd : (x == ("__classdict__" : Str)) = false) (hsl : isSliceX kx = false)
    (he : PE X ex (RdV G e)) (hk : PE X kx (RdB G k)) (hs : swapsWithSole [.Subscript (.Name x p) kx p2] ex pos.line X.env = pure false) (hw : swappedStores [.Subscript (.Name x p) kx p2] ex X.env = pure none) : PS X (.Assign [.Subscript (.Name x p) kx p2] ex pos) (RdS G (.dset i k e)) := by
  have pg : PG X (.Subscript (.Name x p) kx p2) (gSub (tVar i) (RdB G k) rSetDE) := pg_sub (pe_var hN hv hd hcd) hk (set_dictE (by omega)) (by intro v; cases kx <;> first | rfl | cases hsl)
  refine ps_imp (ps_asg he pg hs hw (by rfl)) fun D σ H ⟨F0, H0, g, en, F, s, r, s', g', L, o, ev, b⟩ => ?_
  obtain ⟨d, s1, e1, e2⟩ := bnd_some ev
  obtain ⟨kd, s2, e3, e4⟩ := bnd_some e2
  obtain ⟨kvs, e5, e6⟩ := bnd_lift e4
  have o2 : (if (drp g (lk e ++ lkB k)).contains i = true then some (drp g (lk e ++ lkB k)) else none) = some g' := by simpa [own] using o
  obtain ⟨hi, rfl⟩ := if_some o2
  have hi : i ∈ drp g (lk e ++ lkB k) := by simpa using hi
  have e6 : (if (likeK kvs kd && small (kvs.length + 1)) = true then ret (Rs.next (en.set i (some (PyData.dict (putD kvs kd d))))) else fun _ => none) s2 = some (r, s') := e6
  by_cases c : (likeK kvs kd && small (kvs.length + 1)) = true
  · rw [if_pos c] at e6
    obtain ⟨rfl, rfl⟩ := ret_some e6
    rw [Bool.and_eq_true] at c
    obtain ⟨F1, L1, sm⟩ := L.freeze (lk e ++ lkB k)
    have off := off_drp g (lk e ++ lkB k)
    refine ⟨_, en, F1, s, d, s1, L1.R, off.l, e1, fun y F2 H2 f ry => ?_⟩
    have La := L1.step f
    obtain ⟨a, oo, k2, k3, k4, k5, k6, k7⟩ := La.R.own i hi _ (dctAt_some e5)
    refine ⟨.ref a, k2, _, en, F2, s1, _, _, La.R, off.r, e3, fun w F3 H3 f3 rw' => ?_⟩
    have L3 := La.step f3
    have k8 := f3.keep _ _ k3 k6 k7
    have k9 := f3.new _ k4 (nt_of k3 k5.nt)
    have k5' := k5.mono f3.fr
    have ry' := ry.mono f3.fr
    have fin : ∀ o', RpO G.K G.sp F3 o' (.dict (putD kvs kd d)) → D.nx σ (upd H3 a o') := fun o' r' => b σ F3 _ ((sm.trans f.fr).trans f3.fr) (L3.mutO hi (dctAt_some e5) k2 k9 k6 k7 r')
    refine ⟨a, ?_⟩
    have fewT : ∀ kws : List (List L2.Key × V), kws.length = kvs.length → kws.length < sizeLine := fun kws e => by have := small_lt c.2; omega
    have fewK : ∀ kws : List (L2.Key × V), kws.length = kvs.length → kws.length < sizeLine := fun kws e => by have := small_lt c.2; omega
    have tk : isTK kd = true → ∃ b, ∃ ns : List Int, w = .ref b ∧ H3 b = some (.tup ((ns.map (Sum.inl : Int → L2.Key)).map kV)) ∧ kd = .tuple (ns.map .int) := fun h => by
      cases kd with
      | tuple ds =>
        obtain ⟨ns, hns⟩ := Option.isSome_iff_exists.mp (show (intsOf ds).isSome = true from h)
        obtain ⟨b, rfl, hb⟩ := key_tup rw' f3.sub hns
        exact ⟨b, ns, rfl, hb, by rw [intsOf_is hns]⟩
      | _ => cases h
    have ik : isIK kd = true → ∃ n, kd = .int n ∧ w = .int n := fun h => by
      cases kd with
      | int n => exact ⟨n, rfl, rw'.int⟩
      | _ => cases h
    cases oo with
    | dT kws =>
      have a0 : RpK G.K G.sp F3 kws kvs := k5'
      have goT : isTK kd = true → ∃ H', V.ref a = .ref a ∧ DPutE H3 a w y H' ∧ D.nx σ H' := fun h => by
        obtain ⟨kb, ns, rfl, hb, rfl⟩ := tk h
        exact ⟨_, rfl, .inl (.inr ⟨kws, _, kb, k8, rfl, hb, fewT _ (rpK_len a0), rfl⟩), fin _ (rpK_put ry' ns a0)⟩
      cases a0 with
      | nil =>
        rcases Bool.or_eq_true_iff.mp (show (isIK kd || isTK kd) = true from c.1) with h | h
        · obtain ⟨n, rfl, rfl⟩ := ik h
          exact ⟨_, rfl, .inr (.inl ⟨k8, n, rfl, rfl⟩), fin (.dK [(Sum.inl n, y)]) (.cons ry' .nil)⟩
        · exact goT h
      | @cons ns v d0 kws kvs rv a1 =>
        refine goT ?_
        have h : ((isIK (PyData.tuple (ns.map .int)) && isIK kd) || (isTK (PyData.tuple (ns.map .int)) && isTK kd)) = true := c.1
        have t1 : isTK (.tuple (ns.map PyData.int)) = true := by
          show (intsOf (ns.map .int)).isSome = true
          rw [intsOf_map]; rfl
        rw [t1] at h
        simpa [isIK] using h
    | dK kws =>
      have a0 : RpI G.K G.sp F3 kws kvs := k5'
      have goI : isIK kd = true → ∃ H', V.ref a = .ref a ∧ DPutE H3 a w y H' ∧ D.nx σ H' := fun h => by
        obtain ⟨n, rfl, rfl⟩ := ik h
        exact ⟨_, rfl, .inl (.inl ⟨kws, Sum.inl n, k8, rfl, fewK _ (rpI_len a0), rfl⟩), fin _ (rpI_put ry' n a0)⟩
      cases a0 with
      | nil =>
        rcases Bool.or_eq_true_iff.mp (show (isIK kd || isTK kd) = true from c.1) with h | h
        · exact goI h
        · obtain ⟨kb, ns, rfl, hb, rfl⟩ := tk h
          exact ⟨_, rfl, .inr (.inr ⟨k8, kb, ns, rfl, hb, rfl⟩), fin (.dT [(ns.map Sum.inl, y)]) (.cons ry' .nil)⟩
      | @cons n v d0 kws kvs rv a1 =>
        refine goI ?_
        have h : ((isIK (PyData.int n) && isIK kd) || (isTK (PyData.int n) && isTK kd)) = true := c.1
        simpa [isIK, isTK] using h
    | _ => exact k5'.elim
  · rw [if_neg c] at e6; cases e6
theorem okS_aug {i : Nat} {op : O2} {e : E} {x : Str} {ex : Expr} {p pos : Pos} (hN : X.N.Nodup) (hi : X.N[i]? = some x) (hx : Loc X.env.scope x) (hf : X.fn x = true ∨ X.env.scope.names.lookup x = some .local) (ho : op = .add ∨ op = .sub) (he : PE X ex (RdB G e)) :
    PS X (.AugAssign (.Name x p) op.op ex pos) (RdS G (.aug i op e)) := by
  have ip : PIp X op.op (ipI fun i j => if op = .add then i + j else i - j) := by
    rcases ho with rfl | rfl
    · exact ip_add
    · exact ip_sub
  refine ps_imp (ps_aug hN hi hx he ip hf) fun D σ H ⟨F0, H0, g, en, F, s, r, s', g', L, o, ev, b⟩ => ?_
  obtain ⟨d1, e1, e2⟩ := bnd_lift ev
  obtain ⟨d2, s1, e3, e4⟩ := bnd_some e2
  obtain ⟨d3, e5, e6⟩ := bnd_lift e4
  obtain ⟨rfl, rfl⟩ := ret_some e6
  have o2 : drp (drp g (lkB e)) [i] = g' := by simpa [own] using o
  subst o2
  have shape : ∃ m n, d1 = .int m ∧ d2 = .int n ∧ d3 = .int (if op = .add then m + n else m - n) := by
    rcases ho with rfl | rfl
    · cases d1 <;> cases d2 <;> first | cases e5 | skip
      exact ⟨_, _, rfl, rfl, by rw [if_pos rfl]⟩
    · cases d1 <;> cases d2 <;> first | cases e5 | skip
      exact ⟨_, _, rfl, rfl, by rw [if_neg (by decide)]⟩
  obtain ⟨m, n, rfl, rfl, rfl⟩ := shape
  obtain ⟨F1, L1, sm⟩ := L.freeze (lkB e)
  have hv : σ[i]? = some (some (.int m)) := by
    by_cases hi2 : i ∈ g
    · obtain ⟨_, _, _, _, _, e7, _⟩ := L.R.own i hi2 _ e1
      rcases e7.kind with ⟨_, z⟩ | ⟨_, z⟩ <;> cases z
    · obtain ⟨v, h1, h2⟩ := L.R.val i _ e1 hi2
      rw [h2.int'] at h1
      exact h1
  refine ⟨_, hv, _, en, F1, s, _, s', L1.R, off_drp _ _, e3, fun y F2 H2 f ry => ?_⟩
  exact ⟨m, n, rfl, ry.int, b _ F2 H2 (sm.trans f.fr) (setF_tgs (L1.step f) (.int _))⟩
/-! ### loops -/
theorem okS_for {t : Tg} {it : E} {body : List S} {tx ix : Expr} {bx : List Stmt} {pos : Pos} (hx : X.xe = fun _ _ => False) (hc : X.calm = true) (hi : PI X tx ix (RdI G it)) (hg : PG X tx (RdG G t)) (hb : PSs X bx (RdSs G body)) (hs : ∀ x, foldedSetIterable ix X.env x = pure x) :
    PS X (.For tx ix bx [] pos) (RdS G (.for_ t it body)) := by
  refine ps_imp (ps_for (hx ▸ PassesOwn.never) hc hi hg hb hs) fun D σ H ⟨F0, H0, g, en, F, s, r, s', g', L, o, ev, b⟩ => ?_
  obtain ⟨d, s1, e1, e2⟩ := bnd_some ev
  obtain ⟨xs, e3, e4⟩ := bnd_lift e2
  -- what is one's own all through the loop
  have o2 : ∃ h, ownL (drp g' t.slots) body = some h ∧ (∀ i ∈ g', i ∈ drp g (lk it)) ∧ (∀ i ∈ g', i ∈ h) ∧ (∀ i ∈ g', i ∈ drp g' t.slots) := by
    rw [own] at o
    simp only at o
    split at o
    · rename_i h hh
      obtain ⟨q, rfl⟩ := if_some o
      simp only [Bool.and_eq_true] at q
      exact ⟨h, hh, subB_ok q.1.1, subB_ok q.1.2, subB_ok q.2⟩
    · cases o
  obtain ⟨h, oh, m1, m2, m3⟩ := o2
  obtain ⟨F1, L1, sm⟩ := L.freeze (lk it)
  have off := off_drp g (lk it)
  refine ⟨_, en, F1, s, d, xs, s1, L1.R, fun i hi => off i (lkB_sub it i hi), e1, e3, fun J F2 H2 Gd f wk gs _ => ?_⟩
  have gs := gs off
  have e4 : forL (fun d en2 => bnd (lift (tgSet t d en2)) fun en3 => exL G.v G.c body en3) xs en s1 = some (r, s') := e4
  refine for_it wk (fun i σi Hi => ∃ eni Fi si, Ls G.K G.sp G.cc F0 H0 g' eni σi Fi Hi si ∧ Same F2 Fi ∧ forL (fun d en2 => bnd (lift (tgSet t d en2)) fun en3 => exL G.v G.c body en3) (xs.drop i) eni si = some (r, s')) ?_ ?_ ?_ ?_
  · obtain ⟨F3, L3, sm3⟩ := (L1.step f).less m1
    exact ⟨en, F3, s1, L3, sm3, e4⟩
  · rintro i σi Hi _ ⟨eni, Fi, si, Li, smi, _⟩
    exact gs Hi (smi.trans Li.R.sub)
  · rintro i x σi Hi Hj hlt ⟨eni, Fi, si, Li, smi, ei⟩ ⟨d2, hd, hstep⟩
    obtain ⟨Fj, fj, rx⟩ := hstep Fi si smi Li.R.sub Li.R.src Li.R.fsp Li.R.fcc
    have hdrop : xs.drop i = d2 :: xs.drop (i + 1) := by
      obtain ⟨hl, e⟩ := List.getElem?_eq_some_iff.mp hd
      rw [List.drop_eq_getElem_cons hl, e]
    rw [hdrop] at ei
    obtain ⟨q, sa, q1, q2⟩ := bnd_some ei
    obtain ⟨en3, q3, q4⟩ := bnd_lift q1
    have Lj := Li.step fj
    refine ⟨g', eni, Fj, si, d2, en3, Lj.R, rx, q3, fun σ2 R2 w2 => ?_⟩
    have L3 := Lj.tgs R2 (tgSet_out t d2 eni en3 q3) (wipe_slots w2)
    refine ⟨F0, H0, _, en3, Fj, si, q, sa, h, L3, oh, q4, ?_⟩
    cases q with
    | next en4 =>
      intro σ4 F4 H4 sm4 L4
      obtain ⟨F5, L5, sm5⟩ := L4.less m2
      exact ⟨en4, F5, sa, L5, ((smi.trans fj.fr).trans sm4).trans sm5, q2⟩
    | ret d3 =>
      obtain ⟨rfl, rfl⟩ := ret_some q2
      exact b
  · rintro σi Hi ⟨eni, Fi, si, Li, smi, ei⟩
    rw [List.drop_length] at ei
    obtain ⟨rfl, rfl⟩ := ret_some ei
    exact b σi Fi Hi ((sm.trans f.fr).trans smi) Li
theorem okS_whl {q : E} {body : List S} {qx : Expr} {bx : List Stmt} {pos : Pos} (hx : X.xe = fun _ _ => False) (hq : PT X qx (RdT G q)) (hb : PSs X bx (RdSs G body)) : PS X (.While qx bx [] pos) (RdS G (.whl q body)) := by
  refine ps_imp (ps_while (hx ▸ PassesOwn.never) hq hb) fun D σ H ⟨F0, H0, g, en, F, s, r, s', g', L, o, ev, b⟩ => ?_
  have o2 : ∃ h, ownL g' body = some h ∧ (∀ i ∈ g', i ∈ g) ∧ (∀ i ∈ g', i ∈ h) ∧ Off g' (lkB q) := by
    rw [own] at o
    simp only at o
    split at o
    · rename_i h hh
      obtain ⟨z, rfl⟩ := if_some o
      simp only [Bool.and_eq_true] at z
      exact ⟨h, hh, subB_ok z.1, subB_ok z.2, off_drp _ _⟩
    · cases o
  obtain ⟨h, oh, m1, m2, off⟩ := o2
  obtain ⟨F1, L1, sm⟩ := L.less m1
  have ev : whlL (fun en2 => bnd (evE G.v G.c q en2) fun x => lift (truth x)) (fun en2 => exL G.v G.c body en2) wFuel en s = some (r, s') := ev
  refine ⟨fun n σi Hi => ∃ eni Fi si, Ls G.K G.sp G.cc F0 H0 g' eni σi Fi Hi si ∧ Same F Fi ∧ whlL (fun en2 => bnd (evE G.v G.c q en2) fun x => lift (truth x)) (fun en2 => exL G.v G.c body en2) n eni si = some (r, s'), ⟨_, en, F1, s, L1, sm, ev⟩, ?_⟩
  rintro n σi Hi ⟨eni, Fi, si, Li, smi, ei⟩
  cases n with
  | zero => cases ei
  | succ n =>
    obtain ⟨t, sa, q1, q2⟩ := bnd_some ei
    obtain ⟨d, sb, q3, q4⟩ := bnd_some q1
    obtain ⟨q5, rfl⟩ := lift_some q4
    refine oneT Li.R off q3 q5 fun F2 H2 f => ?_
    have L2 := Li.step f
    cases t with
    | true =>
      rw [if_pos rfl] at q2
      refine iteT ?_
      obtain ⟨q6, sc, q7, q8⟩ := bnd_some q2
      refine ⟨fun σ' H' => ∃ eni Fi si, Ls G.K G.sp G.cc F0 H0 g' eni σ' Fi H' si ∧ Same F Fi ∧ whlL (fun en2 => bnd (evE G.v G.c q en2) fun x => lift (truth x)) (fun en2 => exL G.v G.c body en2) n eni si = some (r, s'),
        fun σ' H' hw => ⟨n, Nat.lt_succ_self n, hw⟩, F0, H0, g', eni, F2, sa, q6, sc, h, L2, oh, q7, ?_⟩
      cases q6 with
      | next en4 =>
        intro σ4 F4 H4 sm4 L4
        obtain ⟨F5, L5, sm5⟩ := L4.less m2
        exact ⟨en4, F5, sc, L5, ((smi.trans f.fr).trans sm4).trans sm5, q8⟩
      | ret d3 =>
        obtain ⟨rfl, rfl⟩ := ret_some q8
        exact b
    | false =>
      rw [if_neg Bool.false_ne_true] at q2
      refine iteF ?_
      obtain ⟨rfl, rfl⟩ := ret_some q2
      exact b σi F2 H2 (smi.trans f.fr) L2
end
end Fz
/-! FzKa: several names at once, new lists among the values. -/
namespace Fz
open PySem PySem.Spec PyProof.Rows L2
/-- a new list becomes one's own -/
theorem Ls.add {K : PySem.W.Frag} {sp cc : Addr} {F0 H0 F H : Hp} {g : List Nat} {en : En} {σ : L2.St} {s : Src} (L : Ls K sp cc F0 H0 g en σ F H s) {i : Nat} {p : Addr} {oo : HO} {dd : D} (hl : H p = some oo) (fp : F p = none) (ra : RpO K sp F oo dd) (ns : p ≠ sp) (nc : p ≠ cc) (h0 : H0 p = none)
    (elder : ∀ j a, j ∈ drp g [i] → en.getD j none ≠ none → σ[j]? = some (some (.ref a)) → a ≠ p) : Ls K sp cc F0 H0 (i :: drp g [i]) (en.set i (some dd)) (σ.set i (some (.ref p))) F H s := by
  have old : ∀ j, j ≠ i → (en.set i (some (dd))).getD j none = en.getD j none := fun j hj => by
    rw [List.getD_eq_getElem?_getD, List.getElem?_set_ne (Ne.symm hj), ← List.getD_eq_getElem?_getD]
  have olds : ∀ j, j ≠ i → (σ.set i (some (V.ref p)))[j]? = σ[j]? := fun j hj => by rw [List.getElem?_set_ne (Ne.symm hj)]
  have here : ∀ x, (en.set i (some (dd))).getD i none = some x → x = dd ∧ i < σ.length := fun x hx => by
    by_cases hl : i < en.length
    · rw [List.getD_eq_getElem?_getD, List.getElem?_set_self hl] at hx
      cases hx; exact ⟨rfl, L.R.len ▸ hl⟩
    · rw [List.getD_eq_getElem?_getD, List.getElem?_eq_none (by rw [List.length_set]; omega)] at hx; cases hx
  have at_ : (en.set i (some (dd))).getD i none ≠ none → (σ.set i (some (V.ref p)))[i]? = some (some (.ref p)) := fun h => by
    cases q : (en.set i (some (dd))).getD i none with
    | none => exact absurd q h
    | some x => exact List.getElem?_set_self (here x q).2
  have inn : ∀ {j : Nat}, j ∈ i :: drp g [i] → j ≠ i → j ∈ drp g [i] := fun h n => (List.mem_cons.mp h).resolve_left n
  refine ⟨⟨L.R.sub, L.R.src, L.R.fsp, L.R.fcc, by simpa using L.R.len, fun j d2 ej nj => ?_, fun j hj d2 ej => ?_, fun j k a hj hk ej ek sj sk => ?_⟩, L.W, fun j a hj ej sj => ?_⟩
  · have hji : j ≠ i := fun z => nj (by rw [z]; exact List.mem_cons_self ..)
    rw [old j hji] at ej
    rw [olds j hji]
    exact L.R.val j d2 ej fun q => nj (List.mem_cons_of_mem _ (mem_drp.mpr ⟨q, by simpa using hji⟩))
  · by_cases hji : j = i
    · subst hji
      obtain ⟨rfl, hlt⟩ := here d2 ej
      exact ⟨p, oo, List.getElem?_set_self hlt, hl, fp, ra, ns, nc⟩
    · rw [old j hji] at ej
      rw [olds j hji]
      exact L.R.own j (mem_drp.mp (inn hj hji)).1 d2 ej
  · by_cases hji : j = i
    · by_cases hki : k = i
      · rw [hji, hki]
      · exfalso
        subst hji
        have e := at_ ej
        rw [sj] at e
        cases e
        rw [old k hki] at ek
        rw [olds k hki] at sk
        exact elder k p (inn hk hki) ek sk rfl
    · by_cases hki : k = i
      · exfalso
        subst hki
        have e := at_ ek
        rw [sk] at e
        cases e
        rw [old j hji] at ej
        rw [olds j hji] at sj
        exact elder j p (inn hj hji) ej sj rfl
      · rw [old j hji] at ej
        rw [olds j hji] at sj
        rw [old k hki] at ek
        rw [olds k hki] at sk
        exact L.R.dis j k a (mem_drp.mp (inn hj hji)).1 (mem_drp.mp (inn hk hki)).1 ej ek sj sk
  · by_cases hji : j = i
    · subst hji
      have e := at_ ej
      rw [sj] at e
      cases e
      exact h0
    · rw [old j hji] at ej
      rw [olds j hji] at sj
      exact L.O j a (mem_drp.mp (inn hj hji)).1 ej sj
/-- values, some of them new lists -/
def RnA (K : PySem.W.Frag) (sp : Addr) (H F' H' : Hp) : List Bool → List V → List D → Prop
  | [], [], [] => True
  | b :: bs, x :: xs, d :: ds => (if b = true then Rn K sp H F' H' x d else Rp K sp F' x d) ∧ RnA K sp H F' H' bs xs ds
  | _, _, _ => False
def newV : List Bool → List V → List V
  | true :: bs, x :: xs => x :: newV bs xs
  | false :: bs, _ :: xs => newV bs xs
  | _, _ => []
section
variable {X : Cx} {G : Gx}
def RdLN (G : Gx) (ns : List Bool) (es : List E) : TA := fun σ H Q => ∃ g en F s ds s', Rl G.K G.sp G.cc g en σ F H s ∧ Off g (lkL es) ∧ evL G.v G.c es en s = some (ds, s') ∧ newsOk ns ds = true ∧
  ∀ xs F' H', Fw G.sp G.cc F H F' H' s' → RnA G.K G.sp H F' H' ns xs ds → (newV ns xs).Nodup → Q xs H'
theorem okLN_nil : PA X [] (RdLN G [] []) := pa_imp pa_nil fun σ H Q ⟨g, en, F, s, ds, s', R, off, he, hn, k⟩ => by
  obtain ⟨rfl, rfl⟩ := ret_some he
  exact k _ _ _ (rl_same R) trivial .nil
theorem Rn.step {sp cc : Addr} {K : PySem.W.Frag} {H F1 H1 F2 H2 : Hp} {s2 : Src} {x : V} {d : D} (h : Rn K sp H F1 H1 x d) (f : Fw sp cc F1 H1 F2 H2 s2) (n1 : H sp ≠ none) (n2 : H cc ≠ none) : Rn K sp H F2 H2 x d := by
  cases d with
  | list ds =>
    obtain ⟨p, vs, e, a1, a2, a3, ra⟩ := h
    exact ⟨p, vs, e, a1, f.new _ a2 (nt_of a3 nofun), f.keep _ _ a3 (fun z => n1 (z ▸ a1)) (fun z => n2 (z ▸ a1)), ra.mono f.fr⟩
  | dict kvs =>
    obtain ⟨p, o, e, a1, a2, a3, ra⟩ := h
    exact ⟨p, o, e, a1, f.new _ a2 (nt_of a3 ra.nt), f.keep _ _ a3 (fun z => n1 (z ▸ a1)) (fun z => n2 (z ▸ a1)), ra.mono f.fr⟩
  | none => exact Rp.mono f.fr h
  | bool => exact Rp.mono f.fr h
  | int => exact Rp.mono f.fr h
  | str => exact Rp.mono f.fr h
  | tuple => exact Rp.mono f.fr h
theorem newsOk_tail {b : Bool} {bs : List Bool} {d : D} {ds : List D} (h : newsOk (b :: bs) (d :: ds) = true) : newsOk bs ds = true := by
  cases b <;> cases d <;> first | exact h | cases h
theorem Rn.obj {K : PySem.W.Frag} {sp : Addr} {H F' H' : Hp} {x : V} {d : D} {bs : List Bool} {ds : List D} (hk : newsOk (true :: bs) (d :: ds) = true) (h : Rn K sp H F' H' x d) : ∃ p o, x = .ref p ∧ H p = none ∧ F' p = none ∧ H' p = some o ∧ RpO K sp F' o d := by
  cases d with
  | list zs =>
    obtain ⟨p, vs, e, a1, a2, a3, ra⟩ := h
    exact ⟨p, .lst vs, e, a1, a2, a3, ra⟩
  | dict kvs => exact h
  | _ => cases hk
theorem newsIn {K : PySem.W.Frag} {sp : Addr} {H F' H' : Hp} : ∀ {bs : List Bool} {xs : List V} {ds : List D}, newsOk bs ds = true → RnA K sp H F' H' bs xs ds → ∀ x ∈ newV bs xs, ∃ p, x = .ref p ∧ H p = none
  | [], [], [], _, _, x, hx => nomatch hx
  | true :: bs, y :: xs, d :: ds, hn, h, x, hx => by
    rcases List.mem_cons.mp (show x ∈ y :: newV bs xs from hx) with e | hx
    · obtain ⟨p, o, e2, q, _⟩ := Rn.obj hn (show Rn K sp H F' H' y d from h.1)
      exact ⟨p, e.trans e2, q⟩
    · exact newsIn (bs := bs) (xs := xs) (ds := ds) (newsOk_tail hn) h.2 x hx
  | false :: bs, y :: xs, d :: ds, hn, h, x, hx => newsIn (bs := bs) (xs := xs) (ds := ds) (by cases d <;> exact hn) h.2 x hx
  | [], _ :: _, _, _, h, _, _ => h.elim
  | [], [], _ :: _, _, h, _, _ => h.elim
  | _ :: _, [], _, _, h, _, _ => by cases ‹List D› <;> exact h.elim
  | _ :: _, _ :: _, [], _, h, _, _ => h.elim
theorem RnA.back {K : PySem.W.Frag} {sp cc : Addr} {F H F1 H1 F' H' : Hp} {s1 : Src} (f : Fw sp cc F H F1 H1 s1) : ∀ {bs : List Bool} {xs : List V} {ds : List D}, RnA K sp H1 F' H' bs xs ds → RnA K sp H F' H' bs xs ds
  | [], [], [], _ => trivial
  | b :: bs, x :: xs, d :: ds, h => ⟨by
    cases b with
    | true => exact Rn.back (show Rn K sp H1 F' H' x d from h.1) f
    | false => exact h.1, RnA.back f h.2⟩
  | [], _ :: _, _, h => h.elim
  | [], [], _ :: _, h => h.elim
  | _ :: _, [], _, h => by cases ‹List D› <;> exact h.elim
  | _ :: _, _ :: _, [], h => h.elim
theorem okLN_cons {a : E} {ea : Expr} {es : List E} {exs : List Expr} {b : Bool} {bs : List Bool} (h1 : isStarE a = false) (h2 : isStarX ea = false) (ha : PE X ea (RdV G a)) (hn : b = true → PE X ea (RdN G a)) (hr : PA X exs (RdLN G bs es)) : PA X (ea :: exs) (RdLN G (b :: bs) (a :: es)) := by
  cases b with
  | false =>
    refine pa_imp (pa_cons ha hr (starEach_no h2 _ _)) fun σ H Q ⟨g, en, F, s, ds, s', R, off, he, hk, k⟩ => ?_
    rw [evL_cons h1] at he
    rw [lkL_cons h1] at off
    obtain ⟨d1, s1, q1, h⟩ := bnd_some he
    obtain ⟨ds2, s2, q2, h⟩ := bnd_some h
    obtain ⟨rfl, rfl⟩ := ret_some h
    refine ⟨g, en, F, s, d1, s1, R, off.l, q1, fun x F1 H1 f1 r1 => ⟨g, en, F1, s1, ds2, s', R.step f1, off.r, q2, by cases d1 <;> exact hk, fun xs F2 H2 f2 r2 nd => ?_⟩⟩
    exact k (x :: xs) F2 H2 (f1.trans f2) ⟨r1.mono f2.fr, r2.back f1⟩ nd
  | true =>
    refine pa_imp (pa_cons (hn rfl) hr (starEach_no h2 _ _)) fun σ H Q ⟨g, en, F, s, ds, s', R, off, he, hk, k⟩ => ?_
    rw [evL_cons h1] at he
    rw [lkL_cons h1] at off
    obtain ⟨d1, s1, q1, h⟩ := bnd_some he
    obtain ⟨ds2, s2, q2, h⟩ := bnd_some h
    obtain ⟨rfl, rfl⟩ := ret_some h
    refine ⟨g, en, F, s, _, s1, R, off.l, q1, fun x F1 H1 f1 r1 => ⟨g, en, F1, s1, ds2, s', ?_, off.r, q2, newsOk_tail hk, fun xs F2 H2 f2 r2 nd => ?_⟩⟩
    · exact R.step f1
    · have n1 : H G.sp ≠ none := by rw [R.src.1]; simp
      have n2 : H G.cc ≠ none := by rw [R.src.2]; simp
      refine k (x :: xs) F2 H2 (f1.trans f2) ⟨r1.step f2 n1 n2, r2.back f1⟩ (List.nodup_cons.mpr ⟨fun hx => ?_, nd⟩)
      obtain ⟨p, e, hp⟩ := newsIn (bs := bs) (ds := ds2) (newsOk_tail hk) r2 x hx
      obtain ⟨p', o, e', a1, a2, a3, _⟩ := Rn.obj hk r1
      rw [e] at e'
      cases e'
      rw [hp] at a3
      cases a3
def setsX : List Nat → List V → L2.St → L2.St
  | i :: is, x :: xs, σ => setsX is xs (σ.set i (some x))
  | _, _, σ => σ
theorem Ls.adds {F0 H0 Hi F H : Hp} {s : Src} (hB : ∀ p, Hi p = none → H0 p = none ∧ p ≠ G.sp ∧ p ≠ G.cc) : ∀ (is : List Nat) (bs : List Bool) (xs : List V) (ds : List D) (g : List Nat) (en en2 : En) (σ : L2.St), Ls G.K G.sp G.cc F0 H0 g en σ F H s → RnA G.K G.sp Hi F H bs xs ds → newsOk bs ds = true →
    (newV bs xs).Nodup → (∀ j a, j ∈ g → en.getD j none ≠ none → σ[j]? = some (some (.ref a)) → V.ref a ∉ newV bs xs) → setsV is ds en = some en2 → Ls G.K G.sp G.cc F0 H0 (gAdd g is bs) en2 (setsX is xs σ) F H s
  | [], bs, xs, ds, g, en, en2, σ, L, hr, hn, nd, he, hs => by
    cases ds with
    | nil =>
      have e : en = en2 := Option.some.inj hs
      subst e
      have : gAdd g [] bs = g := by cases bs <;> rfl
      rw [this]
      exact L
    | cons _ _ => cases hs
  | i :: is, bs, xs, [], g, en, en2, σ, L, hr, hn, nd, he, hs => by cases hs
  | i :: is, [], xs, d :: ds, g, en, en2, σ, L, hr, hn, nd, he, hs => by cases xs <;> exact hr.elim
  | i :: is, b :: bs, [], d :: ds, g, en, en2, σ, L, hr, hn, nd, he, hs => hr.elim
  | i :: is, false :: bs, x :: xs, d :: ds, g, en, en2, σ, L, hr, hn, nd, he, hs => by
    have L1 := setF_tgs L (i := i) (show Rp G.K G.sp F x d from hr.1)
    refine Ls.adds hB is bs xs ds (drp g [i]) _ en2 _ L1 hr.2 (by cases d <;> exact hn) nd (fun j a hj hen hsj => ?_) hs
    obtain ⟨hg, hne⟩ := mem_drp.mp hj
    have n : j ≠ i := by simpa using hne
    rw [List.getD_eq_getElem?_getD, List.getElem?_set_ne (Ne.symm n), ← List.getD_eq_getElem?_getD] at hen
    rw [List.getElem?_set_ne (Ne.symm n)] at hsj
    exact he j a hg hen hsj
  | i :: is, true :: bs, x :: xs, d :: ds, g, en, en2, σ, L, hr, hn, nd, he, hs => by
      obtain ⟨p, oo, rfl, hp, fp, hl, ra⟩ := Rn.obj hn (show Rn G.K G.sp Hi F H x d from hr.1)
      obtain ⟨h0, ns, nc⟩ := hB p hp
      have nd2 := List.nodup_cons.mp (show (V.ref p :: newV bs xs).Nodup from nd)
      have L1 := L.add (i := i) hl fp ra ns nc h0 fun j a hj hen hsj z => by
        subst z
        exact he j a (mem_drp.mp hj).1 hen hsj (List.mem_cons_self ..)
      refine Ls.adds hB is bs xs ds (i :: drp g [i]) _ en2 _ L1 hr.2 (newsOk_tail hn) nd2.2 (fun j a hj hen hsj => ?_) hs
      by_cases hji : j = i
      · subst hji
        have lt : j < σ.length := by
          by_cases lt : j < σ.length
          · exact lt
          · rw [List.getElem?_eq_none (by rw [List.length_set]; omega)] at hsj; cases hsj
        rw [List.getElem?_set_self lt] at hsj
        cases hsj
        exact nd2.1
      · have hd := (List.mem_cons.mp hj).resolve_left hji
        rw [List.getD_eq_getElem?_getD, List.getElem?_set_ne (Ne.symm hji), ← List.getD_eq_getElem?_getD] at hen
        rw [List.getElem?_set_ne (Ne.symm hji)] at hsj
        exact fun z => he j a (mem_drp.mp hd).1 hen hsj (List.mem_cons_of_mem _ z)
/-- several names, new lists among the values -/
theorem okS_parN {is : List Nat} {ns : List Bool} {es : List E} {st : Stmt} {P : TS} (h : PS X st P) (hP : ∀ D σ H, (RdLN G ns es σ H fun xs H1 => D.nx (setsX is xs σ) H1) → P D σ H) : PS X st (RdS G (.parN is ns es)) := by
  refine ps_imp h fun D σ H ⟨F0, H0, g, en, F, s, r, s', g', L, o, ev, b⟩ => hP _ _ _ ?_
  obtain ⟨ds, s1, e1, e2⟩ := bnd_some ev
  have e2 : (if newsOk ns ds = true then bnd (lift (setsV is ds en)) fun en2 => ret (.next en2) else fun _ => none) s1 = some (r, s') := e2
  by_cases hk : newsOk ns ds = true
  · rw [if_pos hk] at e2
    obtain ⟨en2, e3, e4⟩ := bnd_lift e2
    obtain ⟨rfl, rfl⟩ := ret_some e4
    have o : (if ((ns.zip es).all fun p => !p.1 || fresh p.2) = true then some (gAdd (drp g (lkL es)) is ns) else none) = some g' := by rw [own] at o; exact o
    obtain ⟨_, rfl⟩ := if_some o
    obtain ⟨F1, L1, sm⟩ := L.freeze (lkL es)
    refine ⟨_, en, F1, s, ds, s', L1.R, off_drp _ _, e1, hk, fun xs F2 H2 f rx nd => ?_⟩
    have hB : ∀ p, H p = none → H0 p = none ∧ p ≠ G.sp ∧ p ≠ G.cc := fun p hp => ⟨L1.W.noneBack hp, fun z => (by rw [z, L1.R.src.1] at hp; cases hp), fun z => (by rw [z, L1.R.src.2] at hp; cases hp)⟩
    refine b _ F2 H2 (sm.trans f.fr) (Ls.adds hB is ns xs ds _ en en2 σ (L1.step f) rx hk nd (fun j a hj hen hsj hm => ?_) e3)
    obtain ⟨p, e, hp⟩ := newsIn hk rx _ hm
    cases e
    cases q : en.getD j none with
    | none => exact hen q
    | some d2 =>
      obtain ⟨a2, o2, k1, k2, _⟩ := L1.R.own j hj d2 q
      rw [hsj] at k1
      cases k1
      rw [hp] at k2
      cases k2
  · rw [if_neg hk] at e2; cases e2
end
end Fz
/-! FzL: a def's promise where no guard stands ahead of it, its call, a law's end. -/
namespace Fz
open PySem PySem.Spec PyProof.Rows L2
abbrev SpG := List V → Hp → VK → Prop
structure FnG (P : Program) (w : World) (K : PySem.W.Frag) (mg : Str → Option Value) (base : Heap) (k : Nat) (f : Addr) (fd : FuncData) (ps : List Str) (sp : SpG) : Prop where
  arity : ∀ vs H Q, sp vs H Q → vs.length = ps.length
  go : ∀ (A : Around) (outer : List Env) (s : Shared) (H : Hp) (given : Args) (us : List Value) (vs : List V) (Q : VK), Room k A → A.guards = some [] → Env0 P w K mg base A outer s H → BindsTo s fd given (ps.zip us) → Vals vs us →
    sp vs H Q → codeAny (model P w) A (.call (.ref f) given) (CR CX0 outer P w H s Q E0) s
section
variable {P : Program} {w : World} {K : PySem.W.Frag} {mg : Str → Option Value} {base : Heap} {k : Nat} {f : Addr} {fd : FuncData} {ps : List Str} {sp : SpG}
theorem FnG.mono {j : Nat} (F : FnG P w K mg base j f fd ps sp) (h : j ≤ k) : FnG P w K mg base k f fd ps sp := ⟨F.arity, fun A outer s H given us vs Q hr => F.go A outer s H given us vs Q (hr.mono h)⟩
theorem FnG.imp {sp' : SpG} (F : FnG P w K mg base k f fd ps sp) (h : ∀ vs H Q, sp' vs H Q → sp vs H Q) : FnG P w K mg base k f fd ps sp' :=
  ⟨fun vs H Q q => F.arity vs H Q (h _ _ _ q), fun A outer s H given us vs Q hr hg e0 hb r q => F.go A outer s H given us vs Q hr hg e0 hb r (h _ _ _ q)⟩
theorem run_fnG {X : Cx} {pins : List (Addr × Obj)} {σ : L2.St} {H : Hp} {s : Shared} {Q : VK} {us : List Value} {vs : List V} (F : FnG X.prog X.w X.K X.mg X.base k f fd ps sp) (hr : Room k X.A) (hg : X.A.guards = some []) (hb : Binds X.K fd ps [])
    (I : Inv X pins σ H s) (r : Vals vs us) (h : sp vs H Q) : wpAny (model X.prog X.w) X.A (call (.ref f) us) (EP X pins σ Q) X.xe s := by
  have hl : (us ++ []).length = ps.length := by rw [List.append_nil, ← r.length]; exact F.arity _ _ _ h
  have hb2 := hb s us I.kIn hl
  rw [List.append_nil] at hb2
  refine wpAny_call (codeAny_mono (F.go X.A X.stack s H ⟨us, []⟩ us vs Q hr hg I.env0 hb2 r h) fun z s' hq => ?_)
  cases z with
  | error e => exact hq.elim
  | ok fl => cases fl with
    | ret u => exact I.after hq
    | next => exact hq.elim
    | brk => exact hq.elim
    | cont => exact hq.elim
end
section
variable {X : Cx} {k : Nat} {f : Addr} {fd : FuncData} {ps : List Str} {sp : SpG} {x : Str} {p pos : Pos} {e : Expr} {es : List Expr} {t : TA}
def tCallG (sp : SpG) (t : TA) : TE := fun σ H Q => t σ H fun vs H1 => sp vs H1 Q
theorem pe_callG (F : FnG X.prog X.w X.K X.mg X.base k f fd ps sp) (hr : Room k X.A) (hgu : X.A.guards = some []) (hg : Gl X x) (hm : X.mg x = some (.ref f)) (hk : PySem.W.keepIn X.K (.ref f) = true) (hb : Binds X.K fd ps [])
    (ha : PA X (e :: es) t) (hdb : (x == ("__debug__" : Str)) = false) (he : starEach (e :: es) X.env = (false, eval e X.env) :: starEach es X.env) (hpl : (backTo pos (starEach es X.env)).any (·.1) = false) :
    PE X (.Call (.Name x p) (e :: es) [] pos) (tCallG sp t) := ⟨fun pins s σ H Q I h => wpAny_Call_Name_kw (ld_glob I hg hm
  (PySem.W.callWith_K (h₀ := X.base) I.ok.mod.kin hk (thn (ha.run pos pins s σ H _ I h) fun us s1 ⟨vs, H1, I1, r, q⟩ => ⟨I1.kIn, run_fnG F hr hgu hb I1 r q⟩) he hpl) hdb)⟩
theorem pe_callG0 (F : FnG X.prog X.w X.K X.mg X.base k f fd ps sp) (hr : Room k X.A) (hgu : X.A.guards = some []) (hg : Gl X x) (hm : X.mg x = some (.ref f)) (hk : PySem.W.keepIn X.K (.ref f) = true) (hb : Binds X.K fd ps [])
    (hdb : (x == ("__debug__" : Str)) = false) : PE X (.Call (.Name x p) [] [] pos) (tCallG sp tNil) := ⟨fun pins s σ H Q I h => wpAny_Call_Name_kw (ld_glob I hg hm (PySem.W.callWith_K0 I.kIn hk (run_fnG (us := []) F hr hgu hb I .nil h)) hdb)⟩
end
theorem funD_okG {P : Program} {w : World} {K : PySem.W.Frag} {mg : Str → Option Value} {base : Heap} {x qual : Str} {params : Arguments} {body : List Stmt} {scope : Scope} {dvs : List V} {kws : List (Str × V)} {f : Addr} {fd : FuncData} {N ps : List Str} {k : Nat} {sp : SpG}
    (F : L2.FunD K x qual params body scope dvs kws f fd) (S : FnScope N ps scope) (len : ∀ vs H Q, sp vs H Q → vs.length = ps.length)
    (hbody : ∀ (cdv : Value) (A : Around) (outer : List Env) (s : Shared) (H : Hp) (vs : List V) (Q : VK), Room k (A.deeper (envOfC qual scope s.heap.objs.size f cdv)) → (A.deeper (envOfC qual scope s.heap.objs.size f cdv)).guards = some [] → sp vs H Q →
      ∃ t, PSs (cxOf CX0 P w K mg base N qual scope f cdv A outer s H E0).nox body t ∧ t { nx := fun _ H' => Q .non H', rt := Q } (L2.start N vs) H) : FnG P w K mg base (k + 1) f fd ps sp := by
  obtain ⟨oc, od, dV, kV, doc, pm, an, cdv, ct, osl, rfl, lk, hcd, _, _⟩ := F.ex
  refine ⟨len, fun A outer s H given us vs Q hr hgu e0 hb r hsp => ?_⟩
  have hl := len _ _ _ hsp
  have KX : K.In s.heap := e0.mod.kin.keeps fun b o e => (e0.bs b o e).1
  have kinds : ∀ y ∈ ps.zip us, scope.names.lookup y.1 = some .local ∨ (scope.names.lookup y.1 = some .cell ∧ ((cellsFrom (s.heap.objs.size + 1) scope.names []).lookup y.1).isSome = true) := fun ⟨n, v⟩ hy =>
    (S.par n (List.of_mem_zip hy).1).imp id fun q => ⟨q, PySem.W.cellsFrom_some _ _ _ (.inl q)⟩
  refine codeAny_call_function hr.depth (KX _ _ lk) rfl S.co S.gen rfl (PySem.W.codeRec_of KX hcd) (hb _ _ _ _ (wpAny_newFunctionEnv_cells S.kind kinds fun env he s1 x => ?_))
  subst he
  refine ⟨(e0.mod.nolimit.keeps fun b o e => (e0.bs b o e).1).keeps x.toInCall.keep, codeAny_func ?_⟩
  obtain ⟨t, ht, hq⟩ := hbody cdv A outer s H vs Q (hr.deeper _) hgu hsp
  have J0 : Inv (cxOf CX0 P w K mg base N qual scope f cdv A outer s H E0) [] (L2.start N vs) H s1 := inv_start S hr.hd e0 hl r x
  refine wpAny_mono (ht.nox.run [] s1 (L2.start N vs) H _ J0 hq) (fun fl s' hs => ?_) fun e s' hs => hs
  cases fl with
  | ret u => obtain ⟨v, σ', H', J, rv, q⟩ := hs; exact ⟨v, H', J.os, J.bare, J.base, J.hok, rv, q⟩
  | next => obtain ⟨σ', H', J, q⟩ := hs; exact ⟨.non, H', J.os, J.bare, J.base, J.hok, rfl, q⟩
  | brk => obtain ⟨_, _, _, q⟩ := hs; exact q.elim
  | cont => obtain ⟨_, _, _, q⟩ := hs; exact q.elim

theorem law_callG {P : Program} {w : World} {K : PySem.W.Frag} {mg mb : Str → Option Value} {k : Nat} {fa a : Addr} {fd : FuncData} {x : Str} {sp : SpG} {h1 : Shared} {vs : List Value} {ns : List Int}
    (KX : K.In h1.heap) (gN : h1.heap.Ns mainGlobals mg) (bN : h1.heap.Ns builtinsNs mb) (bE : ∀ x : Str, x ≠ "__name__" → mb x = bootBuiltins x) (nl : h1.heap.NoLimit) (gz : h1.gens = #[])
    (ha : h1.heap.get? a = some { cls := .type "list", data := .seq vs.toArray }) (hi : IntsAre vs ns) (hl : ns.length ≤ sizeLine) (hr : Room k callerA)
    (F : ∀ base : Heap, K.In base → base.Ns mainGlobals mg → FnG P w K mg base k fa fd [x] sp) (hb : ∀ (s : Shared) (u : Value), BindsTo s fd ⟨[u], []⟩ [(x, u)])
    (hsp : ∀ H : Hp, Only H → SqL K H a (ns.map V.int) → sp [.ref a] H fun v _ => v = .bl true) :
    codeAny (model P w) callerA (.call (.ref fa) ⟨[.ref a], []⟩) (fun r s' => r = .ok (.ret (.bool true)) ∧ OldK h1.heap s'.heap ∧ s'.os = h1.os ∧ AllBare s'.gens) h1 := by
  have rv : Vals (ns.map V.int) vs := vals_ints hi
  have main : ∀ H : Hp, Only H → SqL K H a (ns.map V.int) → HOk P w H h1.heap → (∀ b, H b ≠ none → b = a ∧ K.lookup a = none) →
      codeAny (model P w) callerA (.call (.ref fa) ⟨[.ref a], []⟩) (fun r s' => r = .ok (.ret (.bool true)) ∧ OldK h1.heap s'.heap ∧ s'.os = h1.os ∧ AllBare s'.gens) h1 := by
    intro H oH sH kH tH
    -- what is no list of the script's is not tracked
    have free : ∀ {b : Addr} {o : Obj}, h1.heap.get? b = some o → (b = a → K.lookup a = none → False) → H b = none := fun {b o} e n => by
      cases q : H b with
      | none => rfl
      | some u =>
        obtain ⟨q1, q2⟩ := tH b (by rw [q]; exact Option.some_ne_none _)
        exact (n q1 q2).elim
    have nsIn : ∀ {b : Addr} {m : Str → Option Value}, h1.heap.Ns b m → (hidT h1.heap H).Ns b m := fun {b m} ⟨o, es, ep, e, d, r⟩ => by
      refine ⟨o, es, ep, hidT_get e (free e fun q _ => ?_), d, r⟩
      subst q
      have z : some o = some _ := e.symm.trans ha
      cases z
      cases d
    have kin : K.In (hidT h1.heap H) := fun b o e => hidT_get (KX b o e) (free (KX b o e) fun q1 q2 => by
      subst q1
      rw [q2] at e
      cases e)
    have ml : Mod K mg (hidT h1.heap H) := ⟨kin, nsIn gN, ⟨mb, nsIn bN, bE⟩, nl.imp fun mc q => ⟨nsIn q.1, q.2⟩⟩
    have none0 : ∀ {b : Addr} {p : Prop}, b ∈ frs ([] : List Env) → p := fun {b p} z => absurd (show b ∈ ([] : List Addr) from z) List.not_mem_nil
    have e0 : Env0 P w K mg (hidT h1.heap H) callerA [] h1 H := ⟨rfl, ml, fun b o e => of_hidT e, Nat.le_of_eq (hidT_size _ _), trivial, fun b z => none0 z, kH, .of_eq gz⟩
    refine codeAny_mono ((F _ kin (nsIn gN)).go callerA [] h1 H ⟨[.ref a], []⟩ [.ref a] [.ref a] _ hr rfl e0 (hb h1 (.ref a)) (.cons rfl .nil) (hsp H oH sH)) fun r s' z => ?_
    cases r with
    | error e => exact z.elim
    | ok fl => cases fl with
      | next => exact z.elim
      | brk => exact z.elim
      | cont => exact z.elim
      | ret u =>
        obtain ⟨v, H', z1, z2, z3, z4, z5, z6⟩ := z
        have z7 : v = V.bl true := z6
        subst z7
        have z8 : u = Value.bool true := z5
        subst z8
        refine ⟨rfl, OldK.of_keep fun b o e => ?_, z1, z2⟩
        rcases oH b with q | ⟨ob, xs, q⟩
        · exact z3.keep b o e q (fun y => none0 y) List.not_mem_nil
        · have q1 := (kH b _ q).1
          have q2 := (z4 b _ (z3.frzs b ob _ q)).1
          rw [e] at q1
          cases q1
          exact q2
  cases hk : K.lookup a with
  | some o =>
    have e := KX a o hk
    rw [ha] at e
    cases e
    refine main (fun _ => none) (fun _ => .inl rfl) (.inr ⟨_, vs.toArray, _, hk, rfl, rfl, rfl, ?_, by simpa using rv⟩) (fun b u z => by cases z) fun b z => absurd rfl z
    rw [List.size_toArray, hi.length]
    exact hl
  | none =>
    have here : (fun b => if b = a then some (HO.frz { cls := .type "list", data := .seq vs.toArray } (.lst (ns.map V.int))) else none : Hp) a = some (.frz { cls := .type "list", data := .seq vs.toArray } (.lst (ns.map V.int))) := if_pos rfl
    have there : ∀ b, b ≠ a → (fun b => if b = a then some (HO.frz { cls := .type "list", data := .seq vs.toArray } (.lst (ns.map V.int))) else none : Hp) b = none := fun b q => if_neg q
    refine main (fun b => if b = a then some (.frz { cls := .type "list", data := .seq vs.toArray } (.lst (ns.map V.int))) else none) (fun b => ?_) (.inl (.inr ⟨_, here⟩)) (fun b u z => ?_) fun b z => ⟨?_, hk⟩
    · rcases Classical.em (b = a) with q | q
      · subst q; exact .inr ⟨_, _, here⟩
      · exact .inl (there b q)
    · rcases Classical.em (b = a) with q | q
      · subst q
        cases here.symm.trans z
        exact ⟨ha, by simpa using hl, vs, _, rv, ha⟩
      · cases (there b q).symm.trans z
    · rcases Classical.em (b = a) with q | q
      · exact q
      · exact absurd (there b q) z
theorem walk_ofG {l : PySem.W.OpenLaw} {n k : Nat} {q : Program} {loose : List Str} {XP : (Str → Option Value) → Heap → Prop} {YP : World → Heap → Prop} {d : DefRec} {x : Str}
    (hn : l.most = some n) (hn2 : n ≤ sizeLine) (hdf : d.params.defaults = []) (hr : Room k callerA)
    (F : ∀ (w : World) (mg : Str → Option Value) (fa : Addr) (h : Heap), YP w h → h.Ns mainGlobals mg → mg d.name = some (.ref fa) →
      ∃ (K : PySem.W.Frag) (fd : FuncData) (sp : SpG), K.In h ∧ (∀ (s : Shared) (u : Value), BindsTo s fd ⟨[u], []⟩ [(x, u)]) ∧
        (∀ (H : Hp) (a : Addr) (ns : List Int), ns.length ≤ n → Only H → SqL K H a (ns.map V.int) → sp [.ref a] H fun v _ => v = .bl true) ∧ ∀ base : Heap, K.In base → base.Ns mainGlobals mg → FnG l.prog w K mg base k fa fd [x] sp) :
    PySem.W.WalkO q loose XP YP l.row.toRowW d [] (fun f vs => PySem.call f vs) :=
  Att.attach_call hn hdf fun w s₀ s₁ mg mb fa o pm cd doc a vs ns G Y ho hd hcd hmg hobj hints hlen hg => by
    obtain ⟨K, fd, sp, KX, hb, hsp, hF⟩ := F w mg fa _ Y G.T.g hmg
    exact law_callG KX G.T.g G.T.b G.T.builtins G.T.nolimit hg hobj hints (Nat.le_trans hlen hn2) hr hF hb fun H hO hS => hsp H a ns hlen hO hS
end Fz
/-! FzM: the source's defs: what they read, what they promise. -/
namespace Fz
open PySem PySem.Spec PyProof.Rows L2
def srcO (cc : Addr) (s : Src) : HO := .dK [(.inr "cells", .ref cc), (.inr "left", .int s.left), (.inr "mixed", .int s.mixed), (.inr "turn", .int s.turn)]
/-- all but the source stands as it stood -/
def Else (sp cc : Addr) (H H' : Hp) : Prop := ∀ b, b ≠ sp → b ≠ cc → H' b = H b
theorem Else.refl {sp cc : Addr} {H : Hp} : Else sp cc H H := fun _ _ _ => rfl
theorem Else.trans {sp cc : Addr} {H H1 H2 : Hp} (a : Else sp cc H H1) (b : Else sp cc H1 H2) : Else sp cc H H2 := fun p n1 n2 => (b p n1 n2).trans (a p n1 n2)
theorem Else.fw {sp cc : Addr} {F H H' : Hp} {s : Src} (e : Else sp cc H H') (hs : Same F H) (f1 : F sp = none) (f2 : F cc = none) (q : SrcAt sp cc H' s) : Fw sp cc F H F H' s :=
  ⟨Same.refl _, fun b o h => by
    rw [e b (fun z => by rw [z, f1] at h; cases h) (fun z => by rw [z, f2] at h; cases h)]
    exact hs b o h, fun b o h n1 n2 => (e b n1 n2).trans h, q, fun b h _ => h⟩
/-- the promise of a pick -/
def spPick (v : Bool) : SpG := fun vs H Q => ∃ sp cc s m, vs = [.ref sp, .int m] ∧ SrcAt sp cc H s ∧ m < 1073741824 ∧ ∀ H', Else sp cc H H' → SrcAt sp cc H' (pickS v s m).2 → Q (.int (pickS v s m).1) H'

abbrev rLti : R2 := rI0 fun i j => .bl (decide (i < j))
abbrev rGti : R2 := rI0 fun i j => .bl (decide (j < i))
abbrev rAddi : R2 := rI0 fun i j => .int (i + j)
abbrev rMuli : R2 := rI CMul fun i j => .int (i * j)
abbrev rModi : R2 := rI (fun _ j => 0 < j) fun i j => .int (i % j)
abbrev rDivi : R2 := rI CDiv fun i j => .int (i / j)
abbrev rInti : List V → Hp → VK → Prop := fun xs H Q => (∃ i, xs = [.int i] ∧ Q (.int i) H) ∨ ∃ k, xs = [.bl k] ∧ Q (.int (if k then 1 else 0)) H
abbrev rMaxi : List V → Hp → VK → Prop := fun xs H Q => ∃ i j, xs = [.int i, .int j] ∧ Q (.int (if j > i then j else i)) H
abbrev rLen1 (K : PySem.W.Frag) : List V → Hp → VK → Prop := fun xs H Q => ∃ x n, xs = [x] ∧ LenV K x H n ∧ Q (.int n) H
def tI (t : TE) : TE := tCB rInti (tCons t tNil)
def tF (x : Str) : TE := tDGet (tVar 0) (tC (.str x))
def sF (x : Str) (t : TE) : TS := sDPut (tVar 0) (tC (.str x)) t

section
variable {sp cc : Addr} {H : Hp} {s : Src} {σ : L2.St} {Q : VK}
theorem tF_left (q : SrcAt sp cc H s) (h : σ[0]? = some (some (.ref sp))) (k : Q (.int s.left) H) : tF "left" σ H Q := ⟨_, h, sp, _, rfl, .inl ⟨_, .inr "left", .inl q.1, rfl, rfl⟩, k⟩
theorem tF_mixed (q : SrcAt sp cc H s) (h : σ[0]? = some (some (.ref sp))) (k : Q (.int s.mixed) H) : tF "mixed" σ H Q := ⟨_, h, sp, _, rfl, .inl ⟨_, .inr "mixed", .inl q.1, rfl, rfl⟩, k⟩
theorem tF_turn (q : SrcAt sp cc H s) (h : σ[0]? = some (some (.ref sp))) (k : Q (.int s.turn) H) : tF "turn" σ H Q := ⟨_, h, sp, _, rfl, .inl ⟨_, .inr "turn", .inl q.1, rfl, rfl⟩, k⟩
theorem tF_cells (q : SrcAt sp cc H s) (h : σ[0]? = some (some (.ref sp))) (k : Q (.ref cc) H) : tF "cells" σ H Q := ⟨_, h, sp, _, rfl, .inl ⟨_, .inr "cells", .inl q.1, rfl, rfl⟩, k⟩
theorem upd_else {o : HO} : Else sp cc H (upd H sp o) := fun b n _ => upd_ne n
theorem upd_else2 {o : HO} : Else sp cc H (upd H cc o) := fun b _ n => upd_ne n
theorem SrcAt.field (q : SrcAt sp cc H s) (s' : Src) (h : s'.cells = s.cells) : SrcAt sp cc (upd H sp (srcO cc s')) s' := ⟨upd_same, by rw [upd_ne (Ne.symm q.ne), h]; exact q.2⟩
/-- a field's store -/
abbrev Put (x : Str) (σ : L2.St) (H : Hp) (v : V) (k : L2.St → Hp → Prop) : Prop := tVar 0 σ H fun a H2 => tC (.str x) σ H2 fun y H3 => ∃ b H4, a = .ref b ∧ DPut H3 b y v H4 ∧ k σ H4
theorem put_left {k : L2.St → Hp → Prop} {x : Int} (h : σ[0]? = some (some (.ref sp))) (q : SrcAt sp cc H s) (n : k σ (upd H sp (srcO cc { s with left := x }))) : Put "left" σ H (.int x) k :=
  ⟨_, h, sp, _, rfl, DPut.k (k := .inr "left") q.1 (show 4 < sizeLine by decide), n⟩
theorem put_turn {k : L2.St → Hp → Prop} {x : Int} (h : σ[0]? = some (some (.ref sp))) (q : SrcAt sp cc H s) (n : k σ (upd H sp (srcO cc { s with turn := x }))) : Put "turn" σ H (.int x) k :=
  ⟨_, h, sp, _, rfl, DPut.k (k := .inr "turn") q.1 (show 4 < sizeLine by decide), n⟩
theorem put_mixed {k : L2.St → Hp → Prop} {x : Int} (h : σ[0]? = some (some (.ref sp))) (q : SrcAt sp cc H s) (n : k σ (upd H sp (srcO cc { s with mixed := x }))) : Put "mixed" σ H (.int x) k :=
  ⟨_, h, sp, _, rfl, DPut.k (k := .inr "mixed") q.1 (show 4 < sizeLine by decide), n⟩
/-- a cell is taken: the list loses its last -/
theorem SrcAt.popped {c : Int} {r : List Int} {x : Int} (q : SrcAt sp cc H s) (e : s.cells = c :: r) : SrcAt sp cc (upd (upd H cc (.lst (r.reverse.map V.int))) sp (srcO cc { s with left := x })) { s with cells := r, left := x } :=
  ⟨upd_same, by rw [upd_ne (Ne.symm q.ne), upd_same]⟩
theorem SrcAt.kept {r : List V} (q : SrcAt sp cc H s) : (upd H cc (.lst r)) sp = some (srcO cc s) := by rw [upd_ne q.ne]; exact q.1
end
theorem iteP {c : Prop} [Decidable c] {T F : Hp → Prop} {H : Hp} (h : c) (k : T H) : (fun (b : Bool) (H1 : Hp) => if b = true then T H1 else F H1) (decide c) H := by
  rw [decide_eq_true h]; exact k
theorem iteN {c : Prop} [Decidable c] {T F : Hp → Prop} {H : Hp} (h : ¬ c) (k : F H) : (fun (b : Bool) (H1 : Hp) => if b = true then T H1 else F H1) (decide c) H := by
  rw [decide_eq_false h]; exact k
/-! ### the drain -/
def tDrainT (K : PySem.W.Frag) : TT := tAnd (tTest (tOp rLti (tF "left") (tC (.int 2)))) (tTest (tOp rGti (tCB (rLen1 K) (tCons (tVar 2) tNil)) (tC (.int 0))))
def tDrain (K : PySem.W.Frag) : TS := tWhile (tDrainT K) (sF "left" (tBM0 K "list" rPop (tVar 2)))
theorem drain_nil {l : Int} : drain [] l = ([], l) := rfl
theorem drain_lt {c : Int} {r : List Int} {l : Int} (h : l < 2) : drain (c :: r) l = drain r c := if_pos h
theorem drain_ge {cs : List Int} {l : Int} (h : ¬ l < 2) : drain cs l = (cs, l) := by
  cases cs with
  | nil => rfl
  | cons c r => exact if_neg h
theorem drain_reads {K : PySem.W.Frag} {D : Ends} {sp cc : Addr} {H : Hp} {s : Src} {σ : L2.St} (h0 : σ[0]? = some (some (.ref sp))) (h2 : σ[2]? = some (some (.ref cc))) (q : SrcAt sp cc H s)
    (k : ∀ H', Else sp cc H H' → SrcAt sp cc H' { s with cells := (drain s.cells s.left).1, left := (drain s.cells s.left).2 } → D.nx σ H') : tDrain K D σ H := by
  refine ⟨fun n σ1 H1 => σ1 = σ ∧ ∃ s1, s1.cells.length = n ∧ SrcAt sp cc H1 s1 ∧ Else sp cc H H1 ∧ s1.mixed = s.mixed ∧ s1.turn = s.turn ∧ drain s1.cells s1.left = drain s.cells s.left, ⟨_, rfl, s, rfl, q, .refl, rfl, rfl, rfl⟩, ?_⟩
  rintro n σ1 H1 ⟨rfl, s1, hn, q1, el, em, et, ed⟩
  have fin : drain s1.cells s1.left = (s1.cells, s1.left) → D.nx σ1 H1 := fun e => k H1 el (by
    rw [← ed, e, ← em, ← et]
    exact q1)
  refine tF_left q1 h0 ⟨_, _, rfl, rfl, _, rfl, ?_⟩
  by_cases hl : s1.left < 2
  · rw [decide_eq_true hl]
    refine iteT ?_
    refine ⟨_, h2, _, s1.cells.length, rfl, .inl ⟨_, .of q1.2, ?_⟩, _, _, rfl, rfl, _, rfl, ?_⟩
    · simp
    · cases hc : s1.cells with
      | nil =>
        rw [List.length_nil, decide_eq_false (by decide)]
        refine iteF (fin ?_)
        rw [hc]; rfl
      | cons c r =>
        have : decide ((0 : Int) < ((c :: r).length : Nat)) = true := decide_eq_true (by simp)
        rw [this]
        refine iteT ⟨fun σ2 H2 => σ2 = σ1 ∧ ∃ s2, s2.cells.length = r.length ∧ SrcAt sp cc H2 s2 ∧ Else sp cc H H2 ∧ s2.mixed = s.mixed ∧ s2.turn = s.turn ∧ drain s2.cells s2.left = drain s.cells s.left,
          fun σ2 H2 ⟨e, s2, w⟩ => ⟨r.length, by rw [← hn, hc]; simp, e, s2, w⟩, ?_⟩
        have e1 : s1.cells.reverse.map V.int = r.reverse.map V.int ++ [.int c] := by rw [hc]; simp
        have hcc : H1 cc = some (.lst (r.reverse.map V.int ++ [.int c])) := by rw [← e1]; exact q1.2
        refine ⟨_, h2, .inl ⟨rfl, _, .of hcc⟩, cc, _, .int c, rfl, rfl, hcc, by simp, ?_⟩
        rw [List.dropLast_concat]
        refine ⟨_, h0, sp, _, rfl, DPut.k (k := .inr "left") (q1.kept (r := r.reverse.map V.int)) (show 4 < sizeLine by decide), rfl, { s1 with cells := r, left := c }, rfl, q1.popped hc, ?_, em, et, ?_⟩
        · exact (el.trans upd_else2).trans upd_else
        · rw [← ed, hc, drain_lt hl]
  · rw [decide_eq_false hl]
    exact iteF (iteF (fin (drain_ge hl)))
/-! ### pick, as most of the laws have it -/
def tStir : TS := tSeq (tAsg (tOp rModi (tI (tOp rAddi (tF "mixed") (tOp rMuli (tVar 4) (tC (.int 104729))))) (tC (.int 998244353))) (gName 5))
  (tSeq (tAsg (tOp rModi (tI (tOp rAddi (tOp rMuli (tVar 5) (tVar 5)) (tOp rMuli (tVar 4) (tC (.int 17))))) (tC (.int 2147483647))) (gName 5))
  (tRet (tOp rModi (tI (tOp rDivi (tVar 5) (tC (.int 16)))) (tVar 1))))
def tPick0 (K : PySem.W.Frag) : TS :=
  tSeq (tIfS (tTest (tOp rLti (tVar 1) (tC (.int 2)))) (tRet (tC (.int 0))) tNext)
  (tSeq (tAsg (tF "cells") (gName 2))
  (tSeq (tDrain K)
  (tSeq (tAsg (tF "left") (gName 3))
  (tSeq (tIfS (tTest (tOp rGti (tVar 3) (tC (.int 1)))) (tSeq (sF "left" (tOp rDivi (tVar 3) (tVar 1))) (tRet (tOp rModi (tI (tVar 3)) (tVar 1)))) tNext)
  (tSeq (sF "turn" (tOp rAddi (tF "turn") (tC (.int 1))))
  (tSeq (tAsg (tF "turn") (gName 4)) tStir))))))
theorem cmul_r {i j : Int} (h1 : -(2 ^ 64) < j) (h2 : j < 2 ^ 64) : CMul i j := .inr ⟨h1, h2⟩
theorem pick0_reads {K : PySem.W.Frag} {D : Ends} {a b : V} {H : Hp} {o2 o3 o4 o5 : Option V} (h : spPick false [a, b] H D.rt) : tPick0 K D [some a, some b, o2, o3, o4, o5] H := by
  obtain ⟨sp, cc, s, m, e, q, hm, k⟩ := h
  cases e
  refine ⟨_, rfl, _, _, rfl, rfl, _, rfl, ?_⟩
  by_cases h1 : m < 2
  · refine iteP h1 ?_
    unfold pickS at k
    rw [if_pos h1] at k
    exact k H .refl q
  · refine iteN h1 ?_
    refine tF_cells q rfl ?_
    refine drain_reads (sp := sp) rfl rfl q fun H1 e1 q1 => ?_
    generalize hd : drain s.cells s.left = cl at *
    obtain ⟨cs, l⟩ := cl
    refine tF_left q1 rfl ⟨_, rfl, _, _, rfl, rfl, _, rfl, ?_⟩
    have mod0 : ∀ x : Int, x.fmod m = x % m := fun x => Int.fmod_eq_emod_of_nonneg x (by omega)
    by_cases h2 : 1 < l
    · have e2 : pickS false s m = (l % m, { s with cells := cs, left := l / m }) := by
        unfold pickS
        rw [if_neg h1, hd]
        exact if_pos h2
      rw [e2] at k
      refine iteP h2 ?_
      refine ⟨_, rfl, _, rfl, _, _, rfl, rfl, ⟨by omega, hm⟩, put_left rfl q1 ?_⟩
      refine ⟨_, rfl, .inl ⟨_, rfl, _, rfl, _, _, rfl, rfl, (show (0 : Int) < m by omega), ?_⟩⟩
      exact k _ (e1.trans upd_else) (q1.field _ rfl)
    · have e2 : pickS false s m = ((((s.mixed + (s.turn + 1) * 104729) % 998244353) * ((s.mixed + (s.turn + 1) * 104729) % 998244353) + (s.turn + 1) * 17) % 2147483647 / 16 % m, { cells := cs, left := l, mixed := s.mixed, turn := s.turn + 1 }) := by
        unfold pickS
        rw [if_neg h1, hd]
        exact if_neg h2
      rw [e2] at k
      refine iteN h2 ?_
      refine tF_turn q1 rfl ⟨_, _, rfl, rfl, put_turn rfl q1 ?_⟩
      have q2 := q1.field { s with cells := cs, left := l, turn := s.turn + 1 } rfl
      refine tF_turn q2 rfl ?_
      refine tF_mixed q2 rfl ⟨_, rfl, _, _, rfl, rfl, cmul_r (by decide) (by decide), _, _, rfl, rfl, .inl ⟨_, rfl, _, _, rfl, rfl, (show (0 : Int) < 998244353 by decide), ?_⟩⟩
      refine ⟨_, rfl, _, rfl, _, _, rfl, rfl, cmul_r ?_ ?_, _, rfl, _, _, rfl, rfl, cmul_r (by decide) (by decide), _, _, rfl, rfl, .inl ⟨_, rfl, _, _, rfl, rfl, (show (0 : Int) < 2147483647 by decide), ?_⟩⟩
      · have := Int.emod_nonneg (s.mixed + (s.turn + 1) * 104729) (b := 998244353) (by decide); show -(2 ^ 64) < (s.mixed + (s.turn + 1) * 104729) % 998244353; omega
      · have := Int.emod_lt_of_pos (s.mixed + (s.turn + 1) * 104729) (b := 998244353) (by decide); show (s.mixed + (s.turn + 1) * 104729) % 998244353 < 2 ^ 64; omega
      refine ⟨_, rfl, _, _, rfl, rfl, ⟨by decide, by decide⟩, .inl ⟨_, rfl, _, rfl, _, _, rfl, rfl, (show (0 : Int) < m by omega), ?_⟩⟩
      exact k _ (e1.trans upd_else) q2
end Fz
/-! FzN: the other way to pick, the ways to make a source. -/
namespace Fz
open PySem PySem.Spec PyProof.Rows L2
/-! ### pick, the other way -/
def tCells (K : PySem.W.Frag) : TT := tAnd (tTest (tOp rGti (tVar 1) (tC (.int 1)))) (tAnd (tTest (tOp rLti (tF "left") (tC (.int 2)))) (tTest (tOp rGti (tCB (rLen1 K) (tCons (tF "cells") tNil)) (tC (.int 0)))))
def tDrain1 (K : PySem.W.Frag) : TS := tWhile (tCells K) (sF "left" (tBM0 K "list" rPop (tF "cells")))
def tMax1 : TE := tCB rMaxi (tCons (tC (.int 1)) (tCons (tVar 1) tNil))
def tPick1 (K : PySem.W.Frag) : TS :=
  tSeq (tDrain1 K)
  (tSeq (tAsg (tF "left") (gName 2))
  (tSeq (tIfS (tOr (tTest (tOp rLti (tVar 1) (tC (.int 2)))) (tTest (tOp rGti (tVar 2) (tC (.int 1))))) (tSeq (sF "left" (tOp rDivi (tVar 2) tMax1)) (tRet (tOp rModi (tI (tVar 2)) tMax1))) tNext)
  (tSeq (sF "turn" (tOp rAddi (tF "turn") (tC (.int 1))))
  (tSeq (tAsg (tOp rModi (tI (tOp rAddi (tF "mixed") (tOp rMuli (tF "turn") (tC (.int 104729))))) (tC (.int 998244353))) (gName 3))
  (tSeq (tAsg (tOp rModi (tI (tOp rAddi (tOp rMuli (tVar 3) (tVar 3)) (tOp rMuli (tF "turn") (tC (.int 17))))) (tC (.int 2147483647))) (gName 3))
  (tSeq (sF "mixed" (tVar 3)) (tRet (tOp rModi (tI (tOp rDivi (tVar 3) (tC (.int 16)))) (tVar 1)))))))))
theorem drain1_reads {K : PySem.W.Frag} {D : Ends} {sp cc : Addr} {H : Hp} {s : Src} {σ : L2.St} {m : Int} (h0 : σ[0]? = some (some (.ref sp))) (h1 : σ[1]? = some (some (.int m))) (q : SrcAt sp cc H s)
    (k0 : m < 2 → D.nx σ H) (k1 : ¬ m < 2 → ∀ H', Else sp cc H H' → SrcAt sp cc H' { s with cells := (drain s.cells s.left).1, left := (drain s.cells s.left).2 } → D.nx σ H') : tDrain1 K D σ H := by
  by_cases hm : m < 2
  · refine ⟨fun n σ1 H1 => σ1 = σ ∧ H1 = H, ⟨0, rfl, rfl⟩, ?_⟩
    rintro n σ1 H1 ⟨rfl, rfl⟩
    refine ⟨_, h1, _, _, rfl, rfl, _, rfl, ?_⟩
    rw [decide_eq_false (show ¬ (1 : Int) < m by omega)]
    exact iteF (iteF (k0 hm))
  refine ⟨fun n σ1 H1 => σ1 = σ ∧ ∃ s1, s1.cells.length = n ∧ SrcAt sp cc H1 s1 ∧ Else sp cc H H1 ∧ s1.mixed = s.mixed ∧ s1.turn = s.turn ∧ drain s1.cells s1.left = drain s.cells s.left, ⟨_, rfl, s, rfl, q, .refl, rfl, rfl, rfl⟩, ?_⟩
  rintro n σ1 H1 ⟨rfl, s1, hn, q1, el, em, et, ed⟩
  have fin : drain s1.cells s1.left = (s1.cells, s1.left) → D.nx σ1 H1 := fun e => k1 hm H1 el (by
    rw [← ed, e, ← em, ← et]
    exact q1)
  refine ⟨_, h1, _, _, rfl, rfl, _, rfl, ?_⟩
  rw [decide_eq_true (show (1 : Int) < m by omega)]
  refine iteT (tF_left q1 h0 ⟨_, _, rfl, rfl, _, rfl, ?_⟩)
  by_cases hl : s1.left < 2
  · rw [decide_eq_true hl]
    refine iteT (tF_cells q1 h0 ⟨_, s1.cells.length, rfl, .inl ⟨_, .of q1.2, ?_⟩, _, _, rfl, rfl, _, rfl, ?_⟩)
    · simp
    · cases hc : s1.cells with
      | nil =>
        rw [List.length_nil, decide_eq_false (by decide)]
        refine iteF (fin ?_)
        rw [hc]; rfl
      | cons c r =>
        have : decide ((0 : Int) < ((c :: r).length : Nat)) = true := decide_eq_true (by simp)
        rw [this]
        refine iteT ⟨fun σ2 H2 => σ2 = σ1 ∧ ∃ s2, s2.cells.length = r.length ∧ SrcAt sp cc H2 s2 ∧ Else sp cc H H2 ∧ s2.mixed = s.mixed ∧ s2.turn = s.turn ∧ drain s2.cells s2.left = drain s.cells s.left,
          fun σ2 H2 ⟨e, s2, w⟩ => ⟨r.length, by rw [← hn, hc]; simp, e, s2, w⟩, ?_⟩
        have e1 : s1.cells.reverse.map V.int = r.reverse.map V.int ++ [.int c] := by rw [hc]; simp
        have hcc : H1 cc = some (.lst (r.reverse.map V.int ++ [.int c])) := by rw [← e1]; exact q1.2
        refine tF_cells q1 h0 ⟨.inl ⟨rfl, _, .of hcc⟩, cc, _, .int c, rfl, rfl, hcc, by simp, ?_⟩
        rw [List.dropLast_concat]
        refine ⟨_, h0, sp, _, rfl, DPut.k (k := .inr "left") (q1.kept (r := r.reverse.map V.int)) (show 4 < sizeLine by decide), rfl, { s1 with cells := r, left := c }, rfl, q1.popped hc, ?_, em, et, ?_⟩
        · exact (el.trans upd_else2).trans upd_else
        · rw [← ed, hc, drain_lt hl]
  · rw [decide_eq_false hl]
    exact iteF (iteF (fin (drain_ge hl)))
theorem max_one {m : Int} : (if m > 1 then m else 1) = (if m < 2 then 1 else m) := by
  by_cases h : m < 2
  · rw [if_pos h, if_neg (by omega)]
  · rw [if_neg h, if_pos (by omega)]
theorem pick1_reads {K : PySem.W.Frag} {D : Ends} {a b : V} {H : Hp} {o2 o3 : Option V} (h : spPick true [a, b] H D.rt) : tPick1 K D [some a, some b, o2, o3] H := by
  obtain ⟨sp, cc, s, m, e, q, hm, k⟩ := h
  cases e
  refine drain1_reads (sp := sp) rfl rfl q (fun h1 => ?_) fun h1 H1 e1 q1 => ?_
  · have e2 : pickS true s m = (0, { s with left := s.left / 1 }) := by
      unfold pickS
      rw [if_pos h1]; rfl
    rw [e2] at k
    refine tF_left q rfl ⟨_, rfl, _, _, rfl, rfl, _, rfl, ?_⟩
    rw [decide_eq_true h1]
    refine iteT (iteT ⟨_, rfl, _, rfl, _, _, rfl, ?_⟩)
    rw [max_one, if_pos h1]
    refine ⟨_, _, rfl, rfl, ⟨by decide, by decide⟩, put_left rfl q ?_⟩
    refine ⟨_, rfl, .inl ⟨_, rfl, _, rfl, _, _, rfl, ?_⟩⟩
    rw [max_one, if_pos h1]
    refine ⟨_, _, rfl, rfl, (show (0 : Int) < 1 by decide), ?_⟩
    have z : V.int (s.left % 1) = V.int 0 := by rw [Int.emod_one]
    show D.rt (V.int (s.left % 1)) _
    rw [z]
    exact k _ upd_else (q.field _ rfl)
  · generalize hd : drain s.cells s.left = cl at *
    obtain ⟨cs, l⟩ := cl
    refine tF_left q1 rfl ⟨_, rfl, _, _, rfl, rfl, _, rfl, ?_⟩
    rw [decide_eq_false h1]
    refine iteF ⟨_, rfl, _, _, rfl, rfl, _, rfl, ?_⟩
    by_cases h2 : 1 < l
    · have e2 : pickS true s m = (l % m, { s with cells := cs, left := l / m }) := by
        unfold pickS
        rw [if_neg h1, hd]
        exact if_pos h2
      rw [e2] at k
      rw [decide_eq_true h2]
      refine iteT ⟨_, rfl, _, rfl, _, _, rfl, ?_⟩
      rw [max_one, if_neg h1]
      refine ⟨_, _, rfl, rfl, ⟨by omega, hm⟩, put_left rfl q1 ?_⟩
      refine ⟨_, rfl, .inl ⟨_, rfl, _, rfl, _, _, rfl, ?_⟩⟩
      rw [max_one, if_neg h1]
      refine ⟨_, _, rfl, rfl, (show (0 : Int) < m by omega), ?_⟩
      exact k _ (e1.trans upd_else) (q1.field _ rfl)
    · have e2 : pickS true s m = ((((s.mixed + (s.turn + 1) * 104729) % 998244353) * ((s.mixed + (s.turn + 1) * 104729) % 998244353) + (s.turn + 1) * 17) % 2147483647 / 16 % m,
          { cells := cs, left := l, mixed := (((s.mixed + (s.turn + 1) * 104729) % 998244353) * ((s.mixed + (s.turn + 1) * 104729) % 998244353) + (s.turn + 1) * 17) % 2147483647, turn := s.turn + 1 }) := by
        unfold pickS
        rw [if_neg h1, hd]
        exact if_neg h2
      rw [e2] at k
      rw [decide_eq_false h2]
      refine iteF (tF_turn q1 rfl ⟨_, _, rfl, rfl, put_turn rfl q1 ?_⟩)
      have q2 := q1.field { s with cells := cs, left := l, turn := s.turn + 1 } rfl
      refine tF_mixed q2 rfl (tF_turn q2 rfl ⟨_, _, rfl, rfl, cmul_r (by decide) (by decide), _, _, rfl, rfl, .inl ⟨_, rfl, _, _, rfl, rfl, (show (0 : Int) < 998244353 by decide), ?_⟩⟩)
      refine ⟨_, rfl, _, rfl, _, _, rfl, rfl, cmul_r ?_ ?_, tF_turn q2 rfl ⟨_, _, rfl, rfl, cmul_r (by decide) (by decide), _, _, rfl, rfl, .inl ⟨_, rfl, _, _, rfl, rfl, (show (0 : Int) < 2147483647 by decide), ?_⟩⟩⟩
      · have := Int.emod_nonneg (s.mixed + (s.turn + 1) * 104729) (b := 998244353) (by decide); show -(2 ^ 64) < (s.mixed + (s.turn + 1) * 104729) % 998244353; omega
      · have := Int.emod_lt_of_pos (s.mixed + (s.turn + 1) * 104729) (b := 998244353) (by decide); show (s.mixed + (s.turn + 1) * 104729) % 998244353 < 2 ^ 64; omega
      refine ⟨_, rfl, put_mixed rfl q2 ?_⟩
      refine ⟨_, rfl, _, _, rfl, rfl, ⟨by decide, by decide⟩, .inl ⟨_, rfl, _, rfl, _, _, rfl, rfl, (show (0 : Int) < m by omega), ?_⟩⟩
      exact k _ ((e1.trans upd_else).trans upd_else) (q2.field _ rfl)
/-! ### making a source -/
def absI (i : Int) : Int := if i < 0 then -i else i
abbrev rAbsi : List V → Hp → VK → Prop := fun xs H Q => ∃ i, xs = [.int i] ∧ Q (.int (if i < 0 then -i else i)) H
def spSrc (K : PySem.W.Frag) : SpG := fun vs H Q => ∃ (a : Addr) (ns : List Int), vs = [.ref a] ∧ SqL K H a (ns.map V.int) ∧ ns.length ≤ 1000 ∧ ∀ sp cc s H', H sp = none → H cc = none → Same H H' → SrcAt sp cc H' s → Q (.ref sp) H'
abbrev tStir0 (K : PySem.W.Frag) (t : TS) : TS := tSeq (tAsg (tC (.int 11)) (gName 1))
  (tSeq (tFor (iList K (tVar 0)) (gName 2) (tAsg (tOp rModi (tI (tOp rAddi (tOp rAddi (tOp rMuli (tVar 1) (tC (.int 69069))) (tOp rMuli (tVar 2) (tC (.int 31)))) (tC (.int 5)))) (tC (.int 2147483629))) (gName 1))) t)
abbrev tAbsL (K : PySem.W.Frag) : TE := tLc (iList K (tVar 0)) (gName 2) tYes (tCB rAbsi (tCons (tVar 2) tNil)) [2]
abbrev tDictS (t : TE) : TS := tRet (tDisp [(tC (.str "cells"), t), (tC (.str "left"), tC (.int 1)), (tC (.str "mixed"), tVar 1), (tC (.str "turn"), tC (.int 0))])
abbrev tSrcA (K : PySem.W.Frag) : TS := tStir0 K (tSeq (tAsg (tAbsL K) (gName 3)) (tDictS (tRevL K (tVar 3))))
abbrev tSrcB (K : PySem.W.Frag) : TS := tStir0 K (tDictS (tRevL K (tAbsL K)))
theorem stir_reads {K : PySem.W.Frag} {D : Ends} {a : Addr} {ns : List Int} {H : Hp} {o1 o2 : Option V} {r : L2.St} {t : TS} (h : SqL K H a (ns.map V.int)) (k : ∀ x o, t D (some (.ref a) :: some (.int x) :: o :: r) H) : tStir0 K t D (some (.ref a) :: o1 :: o2 :: r) H := by
  refine ⟨_, rfl, a, rfl, ⟨_, h⟩, ?_⟩
  refine for_list (fun _ σ1 H1 => H1 = H ∧ ∃ x o, σ1 = some (.ref a) :: some (.int x) :: o :: r) ⟨rfl, _, _, rfl⟩ (fun i σ1 H1 _ ⟨e, _⟩ => e ▸ h) ?_ ?_
  · rintro i v σ1 H1 hv ⟨rfl, x, o, rfl⟩
    obtain ⟨z, rfl⟩ : ∃ z, v = V.int z := by
      rw [List.getElem?_map] at hv
      obtain ⟨z, _, e⟩ := Option.map_eq_some_iff.mp hv
      exact ⟨z, e.symm⟩
    refine ⟨_, rfl, _, _, rfl, rfl, cmul_r (by decide) (by decide), _, rfl, _, _, rfl, rfl, cmul_r (by decide) (by decide), _, _, rfl, rfl, _, _, rfl, rfl, .inl ⟨_, rfl, _, _, rfl, rfl, (show (0 : Int) < 2147483629 by decide), rfl, _, _, rfl⟩⟩
  · rintro σ1 H1 ⟨rfl, x, o, rfl⟩
    exact k x o
theorem abs_reads {K : PySem.W.Frag} {Q : VK} {a : Addr} {ns : List Int} {H : Hp} {x : Int} {o : Option V} {r : L2.St} (h : SqL K H a (ns.map V.int)) (hl : ns.length ≤ 1000)
    (k : ∀ p, H p = none → Q (.ref p) (upd H p (.lst ((ns.map absI).map V.int)))) : tAbsL K (some (.ref a) :: some (.int x) :: o :: r) H Q := by
  refine ⟨_, rfl, a, rfl, ⟨_, h⟩, fun p hp => ?_⟩
  refine lc_list (xs := ns.map V.int) (fun i H' => H' = upd H p (.lst (((ns.take i).map absI).map V.int))) rfl (fun i H' _ e => ?_) (fun i v H' hv e => ?_) fun H' e => ?_
  · subst e
    exact (Same.upd' hp).seq h
  · subst e
    rw [List.getElem?_map] at hv
    obtain ⟨z, hz, rfl⟩ := Option.map_eq_some_iff.mp hv
    refine ⟨rfl, ?_⟩
    show tCB rAbsi (tCons (tVar 2) tNil) (some (.ref a) :: some (.int x) :: some (V.int z) :: r) _ _
    refine ⟨_, rfl, _, rfl, _, upd_same, ?_, ?_⟩
    · rw [List.length_map, List.length_map, List.length_take]
      have : (1000 : Nat) < sizeLine := by decide
      omega
    · have e : ns.take (i + 1) = ns.take i ++ [z] := by rw [List.take_succ, hz]; rfl
      rw [e, List.map_append, List.map_append, upd_upd]; rfl
  · subst e
    have e : ns.take (ns.map V.int).length = ns := by rw [List.length_map, List.take_length]
    show Q _ (upd H p (.lst (((ns.take (ns.map V.int).length).map absI).map V.int)))
    rw [e]
    exact k p hp
theorem dict_reads {K : PySem.W.Frag} {D : Ends} {H : Hp} {σ : L2.St} {t : TE} {x : Int} {cs : List Int} (h1 : σ[1]? = some (some (.int x)))
    (ht : ∀ p, H p = none → ∀ Q : VK, (∀ q H', H' q = some (.lst (cs.reverse.map V.int)) → H' p = some (.dK []) → H q = none → Same H H' → Q (.ref q) H') → t σ (upd H p (.dK [])) Q)
    (k : ∀ sp cc s H', H sp = none → H cc = none → Same H H' → SrcAt sp cc H' s → D.rt (.ref sp) H') : tDictS t D σ H := by
  intro p hp
  show t σ (upd H p (.dK [])) _
  refine ht p hp _ fun q H' e1 e2 hq sm => ?_
  have nq : q ≠ p := fun z => by rw [z, e2] at e1; cases e1
  refine ⟨_, h1, e2, [(.inr "cells", .ref q), (.inr "left", .int 1), (.inr "mixed", .int x), (.inr "turn", .int 0)], rfl, (show 4 ≤ 15 by decide), ?_⟩
  refine k p q ⟨cs, 1, x, 0⟩ _ hp hq (fun b o z => ?_) ⟨?_, ?_⟩
  · rw [upd_ne (fun y => by rw [y, hp] at z; cases z)]
    exact sm b o z
  · rw [upd_same]; rfl
  · rw [upd_ne nq]
    exact e1
theorem srcA_reads {K : PySem.W.Frag} {D : Ends} {a : V} {H : Hp} {o1 o2 o3 : Option V} (h : spSrc K [a] H D.rt) : tSrcA K D [some a, o1, o2, o3] H := by
  obtain ⟨a, ns, e, hs, hl, k⟩ := h
  cases e
  refine stir_reads hs fun x o => abs_reads (Q := fun v H1 => gName 3 v _ H1 _) hs hl fun p hp => ?_
  refine dict_reads (x := x) (cs := ns.map absI) (K := K) rfl (fun p2 hp2 Q k2 => ?_) fun sp cc s H' e1 e2 sm q => ?_
  · have n : p ≠ p2 := fun z => by rw [← z, upd_same] at hp2; cases hp2
    refine ⟨_, rfl, p, _, rfl, .of (by rw [upd_ne n]; exact upd_same), fun q hq => ?_⟩
    have n2 : q ≠ p2 := fun z => by rw [z, upd_same] at hq; cases hq
    rw [upd_ne n2] at hq
    refine k2 q _ ?_ ?_ hq fun b o z => ?_
    · rw [upd_same, List.map_reverse]
    · rw [upd_ne (Ne.symm n2)]; exact upd_same
    · rw [upd_ne (fun y => by rw [y, hq] at z; cases z), upd_ne (fun y => by rw [y, hp2] at z; cases z)]; exact z
  · have back : ∀ {b : Addr}, upd H p (.lst ((ns.map absI).map V.int)) b = none → H b = none := fun {b} z => by
      by_cases y : b = p
      · subst y; rw [upd_same] at z; cases z
      · rw [upd_ne y] at z; exact z
    exact k sp cc s H' (back e1) (back e2) ((Same.upd' hp).trans sm) q
theorem srcB_reads {K : PySem.W.Frag} {D : Ends} {a : V} {H : Hp} {o1 o2 : Option V} (h : spSrc K [a] H D.rt) : tSrcB K D [some a, o1, o2] H := by
  obtain ⟨a, ns, e, hs, hl, k⟩ := h
  cases e
  refine stir_reads hs fun x o => ?_
  refine dict_reads (x := x) (cs := ns.map absI) (K := K) rfl (fun p2 hp2 Q k2 => ?_) fun sp cc s H' e1 e2 sm q => k sp cc s H' e1 e2 sm q
  refine abs_reads (Q := fun x H1 => ∃ a xs, x = .ref a ∧ SqL K H1 a xs ∧ ∀ p, H1 p = none → Q (.ref p) (upd H1 p (.lst xs.reverse))) ((Same.upd' hp2).seq hs) hl fun p hp => ⟨p, _, rfl, .of upd_same, fun q hq => ?_⟩
  have n : p ≠ p2 := fun z => by rw [z, upd_same] at hp; cases hp
  have n1 : q ≠ p := fun z => by rw [z, upd_same] at hq; cases hq
  rw [upd_ne n1] at hq
  have n2 : q ≠ p2 := fun z => by rw [z, upd_same] at hq; cases hq
  rw [upd_ne n2] at hq
  rw [upd_ne n] at hp
  refine k2 q _ ?_ ?_ hq fun b o z => ?_
  · rw [upd_same, List.map_reverse]
  · rw [upd_ne (Ne.symm n2), upd_ne (Ne.symm n)]; exact upd_same
  · rw [upd_ne (fun y => by rw [y, hq] at z; cases z), upd_ne (fun y => by rw [y, hp] at z; cases z), upd_ne (fun y => by rw [y, hp2] at z; cases z)]; exact z
end Fz
/-! FzO: calls; the look at expressions. -/
namespace Fz
open PySem PySem.Spec PyProof.Rows L2
/-- the promise of the f-th def of the program -/
def spCall (K : PySem.W.Frag) (c : Cl) (f : Nat) : SpG := fun vs H Q => ∃ sp cc F ds s d s', Same F H ∧ SrcAt sp cc H s ∧ F sp = none ∧ F cc = none ∧ RpA K sp F vs ds ∧ c f ds s = some (d, s') ∧
  ∀ x F' H', Fw sp cc F H F' H' s' → Rp K sp F' x d → Q x H'
/-- what the text calls -/
structure Lk where
  fns : List Str
  pick : Str
  rd : List Nat := []
/-- the promise of a def that reads its second argument alone -/
def spRead (K : PySem.W.Frag) (c : Cl) (f : Nat) : SpG := fun vs H Q => ∃ sp cc F v1 v2 d1 d2 s d s', vs = [v1, v2] ∧ Same F H ∧ SrcAt sp cc H s ∧ F sp = none ∧ F cc = none ∧ Rp K sp F v1 d1 ∧ Rb K sp cc F H v2 d2 ∧ isSeq d2 = true ∧ c f [d1, d2] s = some (d, s') ∧
  ∀ x F' H', Fw sp cc F H F' H' s' → Rp K sp F' x d → Q x H'
structure CallOk (X : Cx) (x : Str) (sp : SpG) : Prop where
  ex : ∃ a fd ps k, X.mg x = some (.ref a) ∧ PySem.W.keepIn X.K (.ref a) = true ∧ Binds X.K fd ps [] ∧ FnG X.prog X.w X.K X.mg X.base k a fd ps sp ∧ Room k X.A
def frees : List Str := ["len", "abs", "tuple", "list", "int", "bool", "sum", "any", "all", "max", "min", "repr", "sorted", "range", "enumerate", "zip", "isinstance", "str", "dict", "set", "type"]
structure XOk (X : Cx) (G : Gx) (L : Lk) (S : Sx) : Prop where
  hK : X.K = G.K
  N : X.N = S.N
  nd : X.N.Nodup
  sc : X.env.scope = S.sc
  fn : ∀ x, S.fn x = true → X.fn x = true
  calm : X.calm = true
  gu : X.A.guards = some []
  un : X.A.units + 70 < cLine
  xe : X.xe = fun _ _ => False
  free : ∀ x ∈ frees, X.mg x = none
  call : ∀ f x, L.fns[f]? = some x → CallOk X x (spCall G.K G.c f)
  pick : CallOk X L.pick (spPick G.v)
  read : ∀ f x, f ∈ L.rd → L.fns[f]? = some x → CallOk X x (spRead G.K G.c f)
def Sx.blk (S : Sx) (scope : Scope) : Sx := ⟨S.N, relS scope S.sc, fun x => scope.names.lookup x == some .cell⟩
theorem XOk.blk {X : Cx} {G : Gx} {L : Lk} {S : Sx} (h : XOk X G L S) (s : Shared) (H : Hp) (scope : Scope) (C : Addr) (cl : List (Str × Addr)) (fp : List Addr) : XOk (X.blk s H scope (compEnvC scope cl C X.env) fp) G L (S.blk scope) where
  hK := h.hK
  N := h.N
  nd := h.nd
  sc := by show relS scope X.env.scope = relS scope S.sc; rw [h.sc]
  fn := fun x q => q
  calm := h.calm
  gu := h.gu
  un := h.un
  xe := rfl
  free := h.free
  call := fun f x e => ⟨(h.call f x e).ex⟩
  pick := ⟨h.pick.ex⟩
  read := fun f x m e => ⟨(h.read f x m e).ex⟩
def glB (S : Sx) (x : Str) : Bool := decide (S.sc.names.lookup x = some .globalImplicit) && !(x == ("__debug__" : Str))
section
variable {X : Cx} {G : Gx} {L : Lk} {S : Sx}
theorem glB_ok (h : XOk X G L S) {x : Str} (g : glB S x = true) : Gl X x ∧ (x == ("__debug__" : Str)) = false := by
  obtain ⟨h1, h2⟩ := Bool.and_eq_true_iff.mp g
  refine ⟨?_, by simpa using h2⟩
  show X.env.scope.names.lookup x = some .globalImplicit
  rw [h.sc]
  exact of_decide_eq_true h1
theorem ok_callF {f : Nat} {args : List E} {x : Str} {p pos : Pos} {e : Expr} {es : List Expr} (h : XOk X G L S) (hf : L.fns[f]? = some x) (g : glB S x = true) (hs : isStarX e = false) (hr : es.all (fun e => !isStarX e) = true) (ha : PA X (e :: es) (RdL G args)) :
    OkE X G (.call f args) (.Call (.Name x p) (e :: es) [] pos) := by
  obtain ⟨a, fd, ps, k, hm, hk, hb, F, hr2⟩ := (h.call f x hf).ex
  obtain ⟨g1, g2⟩ := glB_ok h g
  refine okV h.hK (pe_imp (pe_callG F hr2 h.gu g1 hm hk hb ha g2 (starEach_no hs _ _) (any_no hr)) fun σ H Q ⟨g, en, F, s, d, s', R, off, he, k⟩ => ?_) rfl fun _ _ => rfl
  obtain ⟨ds, s1, h1, h2⟩ := bnd_some he
  refine ⟨g, en, F, s, ds, s1, R, off, h1, fun xs F' H' f' ra => ?_⟩
  have R2 := R.step f'
  exact ⟨G.sp, G.cc, F', ds, s1, d, s', f'.sub, f'.src, R2.fsp, R2.fcc, ra, h2, fun x F2 H2 f2 r => k x F2 H2 (f'.trans f2) r⟩
theorem ok_readF {f : Nat} {a b : E} {x : Str} {p pos : Pos} {ea eb : Expr} (h : XOk X G L S) (hr0 : f ∈ L.rd) (hf : L.fns[f]? = some x) (g : glB S x = true) (h1 : isStarX ea = false) (h2 : isStarX eb = false) (ha : PE X ea (RdV G a)) (hb : PE X eb (RdB G b)) : OkE X G (.read f a b) (.Call (.Name x p) [ea, eb] [] pos) := by
  obtain ⟨ad, fd, ps, k, hm, hk, hbd, F, hr2⟩ := (h.read f x hr0 hf).ex
  obtain ⟨g1, g2⟩ := glB_ok h g
  refine okV h.hK (pe_imp (pe_callG F hr2 h.gu g1 hm hk hbd (pa_cons ha (pa_cons hb pa_nil (starEach_no h2 _ _)) (starEach_no h1 _ _)) g2 (starEach_no h1 _ _) (any_no (by simp [h2]))) fun σ H Q ⟨g, en, F, s, d, s', R, off, he, k⟩ => ?_) rfl fun _ _ => rfl
  obtain ⟨d1, s1, e1, e2⟩ := bnd_some he
  obtain ⟨d2, s2, e3, e4⟩ := bnd_some e2
  have e4 : (if isSeq d2 = true then G.c f [d1, d2] else fun _ => none) s2 = some (d, s') := e4
  by_cases q : isSeq d2 = true
  · rw [if_pos q] at e4
    refine ⟨g, en, F, s, d1, s1, R, off.l, e1, fun x F1 H1 f1 r1 => ⟨g, en, F1, s1, d2, s2, R.step f1, off.r, e3, fun y F2 H2 f2 r2 => ?_⟩⟩
    have R2 := (R.step f1).step f2
    exact ⟨G.sp, G.cc, F2, x, y, d1, d2, s2, d, s', rfl, f2.sub, f2.src, R2.fsp, R2.fcc, r1.mono f2.fr, r2, q, e4, fun z F3 H3 f3 r3 => k z F3 H3 ((f1.trans f2).trans f3) r3⟩
  · rw [if_neg q] at e4; cases e4
theorem ok_pickF {a b : E} {p pos : Pos} {ea eb : Expr} (h : XOk X G L S) (g : glB S L.pick = true) (h1 : isStarX ea = false) (h2 : isStarX eb = false) (ha : PE X ea (RdV G a)) (hb : PE X eb (RdV G b)) : OkE X G (.pick a b) (.Call (.Name L.pick p) [ea, eb] [] pos) := by
  obtain ⟨ad, fd, ps, k, hm, hk, hbd, F, hr2⟩ := h.pick.ex
  obtain ⟨g1, g2⟩ := glB_ok h g
  refine okV h.hK (pe_imp (pe_callG F hr2 h.gu g1 hm hk hbd (pa_cons ha (pa_cons hb pa_nil (starEach_no h2 _ _)) (starEach_no h1 _ _)) g2 (starEach_no h1 _ _) (any_no (by simp [h2]))) fun σ H Q ⟨g, en, F, s, d, s', R, off, he, k⟩ => ?_) rfl fun _ _ => rfl
  obtain ⟨d1, s1, e1, e2⟩ := bnd_some he
  obtain ⟨d2, s2, e3, e4⟩ := bnd_some e2
  refine ⟨g, en, F, s, d1, s1, R, off.l, e1, fun x F1 H1 f1 r1 => ⟨g, en, F1, s1, d2, s2, R.step f1, off.r, e3, fun y F2 H2 f2 r2 => ?_⟩⟩
  cases d2 with
  | int m =>
    have e5 : (if isSrc d1 = true then pickM G.v m else fun _ => none) s2 = some (d, s') := e4
    by_cases q : isSrc d1 = true
    · rw [if_pos q] at e5
      have e6 : (if m < 1073741824 then some (PyData.int (pickS G.v s2 m).1, (pickS G.v s2 m).2) else none) = some (d, s') := e5
      by_cases q2 : m < 1073741824
      · rw [if_pos q2] at e6
        cases e6
        have ex : x = .ref G.sp := by
          have r1' := r1
          unfold isSrc at q
          split at q
          · exact r1.isSrc
          · cases q
        rw [ex, r2.int']
        have R2 := (R.step f1).step f2
        refine ⟨G.sp, G.cc, s2, m, rfl, f2.src, q2, fun H' el sa => ?_⟩
        exact k _ F2 H' ((f1.trans f2).trans (el.fw f2.sub R2.fsp R2.fcc sa)) (.int _)
      · rw [if_neg q2] at e6; cases e6
    · rw [if_neg q] at e5; cases e5
  | _ => cases e4
theorem ok_biF {b : Bi} {args : List E} {p pos : Pos} {e : Expr} {es : List Expr} (h : XOk X G L S) (g : glB S b.str = true) (hs : isStarX e = false) (hr : es.all (fun e => !isStarX e) = true) (ha : PA X (e :: es) (RdBL G args)) :
    OkN X G (.bi b args) (.Call (.Name b.str p) (e :: es) [] pos) := by
  obtain ⟨g1, g2⟩ := glB_ok h g
  have hm : X.mg b.str = none := h.free _ (by cases b <;> decide)
  have nn : b.str ≠ "__name__" := by cases b <;> decide
  have cr := bi_ok (X := X) (G := G) b h.hK h.calm h.gu (by have := h.un; omega)
  have pe : PE X (.Call (.Name b.str p) (e :: es) [] pos) (tCB (rBi (G := G) (biV b)) (RdBL G args)) := by
    by_cases ht : b.isT = true
    · refine pe_callTy (T := b.name) ?_ g1 hm ?_ ha nn g2 (starEach_no hs _ _) (any_no hr)
      · have e : b.val = .type b.name := if_pos ht
        rw [e] at cr; exact cr
      · have e : b.val = .type b.name := if_pos ht
        rw [Bi.boot, e]
    · refine pe_callB (id := b.name) ?_ g1 hm ?_ ha nn g2 (starEach_no hs _ _) (any_no hr)
      · have e : b.val = .builtin b.name := if_neg ht
        rw [e] at cr; exact cr
      · have e : b.val = .builtin b.name := if_neg ht
        rw [Bi.boot, e]
  refine okN h.hK (pe_imp pe fun σ H Q ⟨g, en, F, s, d, s', R, off, he, k⟩ => ?_) rfl fun _ _ => rfl
  obtain ⟨ds, s1, h1, h2⟩ := bnd_some he
  obtain ⟨h3, rfl⟩ := lift_some h2
  refine ⟨g, en, F, s, ds, s', R, off, h1, fun xs F' H' f' ra => ?_⟩
  have R2 := R.step f'
  exact ⟨F', s', ds, d, f'.sub, f'.src, R2.fsp, R2.fcc, ra, h3, fun z F2 H2 f2 r => k z F2 H2 (f'.trans f2) (r.back f')⟩
end
end Fz
/-! FzOa: list(range(..)), tuple(range(..)). -/
namespace Fz
open PySem PySem.Spec PyProof.Rows L2
section
variable {X : Cx} {G : Gx} {L : Lk} {S : Sx}
theorem rpA_rng {K : PySem.W.Frag} {sp : Addr} {F : Hp} (a b : Int) : RpA K sp F (rgV a b) (rngL a (b - a).toNat) := by
  unfold rgV rngL
  generalize List.range (b - a).toNat = l
  induction l with
  | nil => exact .nil
  | cons x l ih => exact .cons (.int _) ih
def RdRg (G : Gx) (args : List E) : L2.St → Hp → (Int → Int → Hp → Prop) → Prop := fun σ H Q => ∃ g en F s a b s', Rl G.K G.sp G.cc g en σ F H s ∧ Off g (lkBL args) ∧ evE G.v G.c (.rng args) en s = some (.list (rngL a (b - a).toNat), s') ∧ RgOk a b ∧
  ((∃ x, args = [x] ∧ a = 0 ∧ evE G.v G.c x en s = some (.int b, s')) ∨ ∃ x y s1, args = [x, y] ∧ evE G.v G.c x en s = some (.int a, s1) ∧ evE G.v G.c y en s1 = some (.int b, s')) ∧
  ∀ F' H', Fw G.sp G.cc F H F' H' s' → Q a b H'
theorem rg_ok {i j : Int} (h1 : inR i = true) (h2 : inR j = true) (h3 : small (j - i).toNat = true) : RgOk i j := by
  obtain ⟨a1, a2⟩ := inR_ok h1
  obtain ⟨b1, b2⟩ := inR_ok h2
  have h4 : (j - i).toNat ≤ 16000000 := of_decide_eq_true h3
  exact ⟨a1, a2, b1, b2, by omega⟩
theorem evRng {v : Bool} {c : Cl} {args : List E} {en : En} {s s' : Src} {d : D} (hs : ∀ e ∈ args, isStarE e = false) (he : evE v c (.rng args) en s = some (d, s')) : ∃ a b, d = .list (rngL a (b - a).toNat) ∧ RgOk a b ∧
    ((∃ x, args = [x] ∧ a = 0 ∧ evE v c x en s = some (.int b, s')) ∨ ∃ x y s1, args = [x, y] ∧ evE v c x en s = some (.int a, s1) ∧ evE v c y en s1 = some (.int b, s')) := by
  obtain ⟨ds, s1, h1, h⟩ := bnd_some he
  obtain ⟨h2, rfl⟩ := lift_some h
  obtain ⟨l, h3, h4⟩ := Option.bind_eq_some_iff.mp h2
  obtain ⟨l2, h5, rfl⟩ := Option.map_eq_some_iff.mp h4
  obtain ⟨hz, rfl⟩ := if_some h5
  match args, hs, h1 with
  | [], _, h1 =>
    obtain ⟨rfl, _⟩ := ret_some h1
    cases h3
  | [x], hs, h1 =>
    rw [evL_cons (hs x (by simp))] at h1
    obtain ⟨d1, s2, q1, q⟩ := bnd_some h1
    obtain ⟨d2, s3, q2, q⟩ := bnd_some q
    obtain ⟨rfl, rfl⟩ := ret_some q
    obtain ⟨rfl, rfl⟩ := ret_some q2
    cases d1 with
    | int j =>
      have h6 : (if inR j = true then some (rngL 0 j.toNat) else none) = some l := h3
      obtain ⟨hj, rfl⟩ := if_some h6
      rw [rngL_len] at hz
      refine ⟨0, j, by rw [Int.sub_zero], rg_ok (by decide) hj (by rw [Int.sub_zero]; exact hz), .inl ⟨x, rfl, rfl, q1⟩⟩
    | _ => cases h3
  | [x, y], hs, h1 =>
    rw [evL_cons (hs x (by simp))] at h1
    obtain ⟨d1, s2, q1, q⟩ := bnd_some h1
    obtain ⟨d2, s3, q2, q⟩ := bnd_some q
    obtain ⟨rfl, rfl⟩ := ret_some q
    rw [evL_cons (hs y (by simp))] at q2
    obtain ⟨d3, s4, q3, q⟩ := bnd_some q2
    obtain ⟨d4, s5, q4, q⟩ := bnd_some q
    obtain ⟨rfl, rfl⟩ := ret_some q
    obtain ⟨rfl, rfl⟩ := ret_some q4
    cases d1 with
    | int i => cases d3 with
      | int j =>
        have h6 : (if (inR i && inR j) = true then some (rngL i (j - i).toNat) else none) = some l := h3
        obtain ⟨hj, rfl⟩ := if_some h6
        rw [rngL_len] at hz
        rw [Bool.and_eq_true] at hj
        exact ⟨i, j, rfl, rg_ok hj.1 hj.2 hz, .inr ⟨x, y, s2, rfl, q1, q3⟩⟩
      | _ => cases h3
    | _ => cases h3
  | x :: y :: z :: r, hs, h1 =>
    exfalso
    rw [evL_cons (hs x (by simp))] at h1
    obtain ⟨d1, s2, q1, q⟩ := bnd_some h1
    obtain ⟨d2, s3, q2, q⟩ := bnd_some q
    obtain ⟨rfl, rfl⟩ := ret_some q
    rw [evL_cons (hs y (by simp))] at q2
    obtain ⟨d3, s4, q3, q⟩ := bnd_some q2
    obtain ⟨d4, s5, q4, q⟩ := bnd_some q
    obtain ⟨rfl, rfl⟩ := ret_some q
    have ne : d4 ≠ [] := by
      rintro rfl
      by_cases hz2 : isStarE z = true
      · exact absurd hz2 (by rw [hs z (by simp)]; decide)
      · rw [evL_cons (hs z (by simp))] at q4
        obtain ⟨_, _, _, q⟩ := bnd_some q4
        obtain ⟨_, _, _, q⟩ := bnd_some q
        obtain ⟨e, _⟩ := ret_some q
        cases e
    cases d4 with
    | nil => exact ne rfl
    | cons w d4 =>
      cases d1 <;> cases d3 <;> cases h3
theorem prg_ok1 {a : E} {ea : Expr} {p pos : Pos} (hg : Gl X "range") (hm : X.mg "range" = none) (hs : isStarX ea = false) (ha : PE X ea (RdB G a)) : PRg X (.Call (.Name "range" p) [ea] [] pos) (RdRg G [a]) := fun pins s σ H Q I ⟨g, en, F, sr, i, j, s', R, off, he, ok, o, k⟩ =>
  prg_1 hg hm ha (starEach_no hs _ _) pins s σ H Q I (by
    rcases o with ⟨x, e, rfl, hx⟩ | ⟨x, y, s1, e, _⟩
    · cases e
      exact ⟨g, en, F, sr, _, s', R, (fun i hi => off i (by simp [lkBL, hi])), hx, fun x F' H' f r => ⟨j, r.int, k F' H' f⟩⟩
    · cases e)
theorem prg_ok2 {a b : E} {ea eb : Expr} {p pos : Pos} (hg : Gl X "range") (hm : X.mg "range" = none) (hs : isStarX ea = false) (hs2 : isStarX eb = false) (ha : PE X ea (RdB G a)) (hb : PE X eb (RdB G b)) : PRg X (.Call (.Name "range" p) [ea, eb] [] pos) (RdRg G [a, b]) := fun pins s σ H Q I ⟨g, en, F, sr, i, j, s', R, off, he, ok, o, k⟩ =>
  prg_2 hg hm ha hb (starEach_no hs _ _) (starEach_no hs2 _ _) (by rw [starEach_no hs2]; rfl) pins s σ H Q I (by
    rcases o with ⟨x, e, _⟩ | ⟨x, y, s1, e, hx, hy⟩
    · cases e
    · cases e
      exact ⟨g, en, F, sr, _, s1, R, (fun i hi => off i (by simp [lkBL, hi])), hx, fun x F1 H1 f1 r1 => ⟨g, en, F1, s1, _, s', R.step f1, (fun i hi => off i (by simp [lkBL, hi])), hy, fun y F2 H2 f2 r2 => ⟨i, j, r1.int, r2.int, k F2 H2 (f1.trans f2)⟩⟩⟩)
theorem ok_rngTo {b : Bi} {args : List E} {ex : Expr} {p pos : Pos} (h : XOk X G L S) (hb : b = .list ∨ b = .tuple) (g : glB S b.str = true) (hs : ∀ e ∈ args, isStarE e = false) (hx : isStarX ex = false) (hr : PRg X ex (RdRg G args)) :
    OkN X G (.bi b [.rng args]) (.Call (.Name b.str p) [ex] [] pos) := by
  obtain ⟨g1, g2⟩ := glB_ok h g
  have ev : ∀ {en s d s'}, evE G.v G.c (.bi b [.rng args]) en s = some (d, s') → ∃ x, evE G.v G.c (.rng args) en s = some (x, s') ∧ biV b [x] = some d := fun {en s d s'} he => by
    obtain ⟨ds, s1, h1, h2⟩ := bnd_some he
    obtain ⟨h3, rfl⟩ := lift_some h2
    rw [evL_cons rfl] at h1
    obtain ⟨d1, s2, q1, q⟩ := bnd_some h1
    obtain ⟨d2, s3, q2, q⟩ := bnd_some q
    obtain ⟨rfl, rfl⟩ := ret_some q
    obtain ⟨rfl, rfl⟩ := ret_some q2
    exact ⟨d1, q1, h3⟩
  have lkE : lkB (.bi b [.rng args]) = lkBL args ++ [] := rfl
  rcases hb with rfl | rfl
  · refine okN h.hK (pe_imp (pe_listRg h.calm g1 (h.free _ (by decide)) hr (starEach_no hx _ _)) fun σ H Q ⟨g, en, F, s, d, s', R, off, he, k⟩ => ?_) rfl fun _ _ => rfl
    obtain ⟨x, e1, e2⟩ := ev he
    obtain ⟨i, j, rfl, ok, o⟩ := evRng hs e1
    cases e2
    exact ⟨g, en, F, s, i, j, s', R, off.l, e1, ok, o, fun F' H' f => ⟨ok, fun q hq => new_list f.sub f.src (R.step f).fsp (R.step f).fcc (rpA_rng i j) (fun z F4 H4 f4 hz => k _ _ _ (f.trans f4) (hz.back f)) q hq⟩⟩
  · refine okN h.hK (pe_imp (pe_tupRg h.calm g1 (h.free _ (by decide)) hr (starEach_no hx _ _)) fun σ H Q ⟨g, en, F, s, d, s', R, off, he, k⟩ => ?_) rfl fun _ _ => rfl
    obtain ⟨x, e1, e2⟩ := ev he
    obtain ⟨i, j, rfl, ok, o⟩ := evRng hs e1
    cases e2
    exact ⟨g, en, F, s, i, j, s', R, off.l, e1, ok, o, fun F' H' f => ⟨ok, fun q hq => new_tup f.sub f.src (rpA_rng i j) (fun z F4 H4 f4 hz => k _ _ _ (f.trans f4) (hz.back f)) q hq⟩⟩
end
end Fz
/-! FzP: the look at expressions. -/
namespace Fz
open PySem PySem.Spec PyProof.Rows L2
def allB (f : E → Expr → Bool) : List E → List Expr → Bool
  | [], [] => true
  | e :: es, x :: xs => !isStarE e && !isStarX x && f e x && allB f es xs
  | _, _ => false
def allS (f : E → Expr → Bool) : List E → List Expr → Bool
  | [], [] => true
  | e :: es, x :: xs => (match e with
    | .star a => (match x with
      | .Starred y _ => f a y
      | _ => false)
    | e => !isStarX x && f e x) && allS f es xs
  | _, _ => false
def optB (f : E → Expr → Bool) : Option E → Option Expr → Bool
  | none, none => true
  | some e, some x => f e x
  | _, _ => false
def ifB (f : E → Expr → Bool) : Option E → List Expr → Bool
  | none, [] => true
  | some e, [x] => f e x
  | _, _ => false
def visB (S : Sx) (i : Nat) (x : Str) : Bool := decide (S.N[i]? = some x) && (decide (S.sc.names.lookup x = some .local) || decide (S.sc.names.lookup x = some .cell) || decide (S.sc.names.lookup x = some .free)) && !(x == ("__debug__" : Str)) && !(x == ("__classdict__" : Str))
def locB (S : Sx) (i : Nat) (x : Str) : Bool := decide (S.N[i]? = some x) && (decide (S.sc.names.lookup x = some .local) || (decide (S.sc.names.lookup x = some .cell) && S.fn x))
def noSet : Expr → Bool
  | .Set .. => false
  | _ => true
def mT : Nat → Sx → Tg → Expr → Bool
  | 0, _, _, _ => false
  | n + 1, S, t, x => match t with
    | .name i => (match x with
      | .Name y _ => locB S i y
      | _ => false)
    | .tup ts => (match x with
      | .Tuple es _ _ => es.all (fun e => !isStarX e) && decide (es.length = ts.length) && (ts.zip es).all fun p => mT n S p.1 p.2
      | _ => false)
def tgOwn (S : Sx) (t : Tg) : List (Str × Nat) := t.slots.map fun i => ((S.N[i]?).getD "", i)
def isTupX : Expr → Bool
  | .Tuple .. => true
  | _ => false
def kwB : Bool → List Keyword → Bool
  | false, [] => true
  | true, [⟨some n, .Constant (.bool true) _ _, _⟩] => decide (n = ("strict" : Str))
  | _, _ => false
def mZ (f : E → Expr → Bool) (S : Sx) : E → Expr → Bool
  | .zip a b true, .Call (.Name x _) [y, z] kws _ => decide (x = ("zip" : Str)) && glB S "zip" && !isStarX y && !isStarX z && f a y && f b z && kwB true kws
  | _, _ => false
def mI (f : E → Expr → Bool) (S : Sx) (tg : Expr) (it : E) (ix : Expr) : Bool := match it with
  | .enum a => (match ix with
    | .Call (.Name x _) [y] [] _ => isTupX tg && decide (x = ("enumerate" : Str)) && glB S "enumerate" && !isStarX y && (f a y || mZ f S a y)
    | _ => false)
  | .zip a b st => (match ix with
    | .Call (.Name x _) [y, z] kws _ => isTupX tg && decide (x = ("zip" : Str)) && glB S "zip" && !isStarX y && !isStarX z && f a y && f b z && kwB st kws
    | _ => false)
  | .rng args => (match ix with
    | .Call (.Name x _) es [] _ => decide (x = ("range" : Str)) && glB S "range" && (decide (es.length = 1) || decide (es.length = 2)) && allB f args es
    | _ => false)
  | it => f it ix
def mE : Nat → Lk → Sx → E → Expr → Bool
  | 0, _, _, _, _ => false
  | n + 1, L, S, e, ex => match e with
    | .non => (match ex with
      | .Constant .none _ _ => true
      | _ => false)
    | .bl b => (match ex with
      | .Constant (.bool c) _ _ => b == c
      | _ => false)
    | .int i => (match ex with
      | .Constant (.int j) _ _ => decide (i = j)
      | _ => false)
    | .str a => (match ex with
      | .Constant (.str b) _ _ => decide (a = b)
      | _ => false)
    | .var i => (match ex with
      | .Name x _ => visB S i x
      | _ => false)
    | .op o a b => (match ex with
      | .BinOp x p y _ => decide (p = o.op) && mE n L S a x && mE n L S b y
      | _ => false)
    | .neg a => (match ex with
      | .UnaryOp p x _ => decide (p = .USub) && mE n L S a x
      | _ => false)
    | .not a => (match ex with
      | .UnaryOp p x _ => decide (p = .Not) && mE n L S a x
      | _ => false)
    | .and a b => (match ex with
      | .BoolOp p (x :: y :: r) pos => decide (p = .And) && mE n L S a x && (match r with
        | [] => mE n L S b y
        | z :: r => mE n L S b (.BoolOp .And (y :: z :: r) pos))
      | _ => false)
    | .or a b => (match ex with
      | .BoolOp p (x :: y :: r) pos => decide (p = .Or) && mE n L S a x && (match r with
        | [] => mE n L S b y
        | z :: r => mE n L S b (.BoolOp .Or (y :: z :: r) pos))
      | _ => false)
    | .ite q a b => (match ex with
      | .IfExp x y z _ => mE n L S q x && mE n L S a y && mE n L S b z
      | _ => false)
    | .cmp o a b => (match ex with
      | .Compare x [p] [y] _ => decide (p = o.op) && !behindInMarks o.op y && mE n L S a x && mE n L S b y
      | _ => false)
    | .chain o1 o2 a b c => (match ex with
      | .Compare x [p, q] [y, z] _ => decide (p = o1.op) && decide (q = o2.op) && !lastMarks [o1.op, o2.op] [y, z] && mE n L S a x && mE n L S b y && mE n L S c z
      | _ => false)
    | .tup es => (match ex with
      | .Tuple xs _ _ => allS (mE n L S) es xs
      | _ => false)
    | .lst es => (match ex with
      | .List xs _ => allS (mE n L S) es xs
      | _ => false)
    | .idx a b => (match ex with
      | .Subscript x y _ => !isSliceX y && mE n L S a x && mE n L S b y
      | _ => false)
    | .slc a lo hi => (match ex with
      | .Subscript x (.Slice l h none _) _ => mE n L S a x && optB (mE n L S) lo l && optB (mE n L S) hi h
      | _ => false)
    | .rev a => (match ex with
      | .Subscript x (.Slice none none (some (.UnaryOp .USub (.Constant (.int i) _ _) _)) _) _ => decide (i = 1) && mE n L S a x
      | _ => false)
    | .call f args => (match ex with
      | .Call (.Name x _) (y :: es) [] _ => decide (L.fns[f]? = some x) && glB S x && allB (mE n L S) args (y :: es)
      | _ => false)
    | .pick a b => (match ex with
      | .Call (.Name x _) [y, z] [] _ => decide (x = L.pick) && glB S L.pick && !isStarX y && !isStarX z && mE n L S a y && mE n L S b z
      | _ => false)
    | .bi b args => (match args with
      | [.rng rs] => (match ex with
        | .Call (.Name x _) [.Call (.Name y _) zs [] _] [] _ => decide (x = b.str) && glB S b.str && (decide (b = .list) || decide (b = .tuple)) && decide (y = ("range" : Str)) && glB S "range" && (decide (zs.length = 1) || decide (zs.length = 2)) && allB (mE n L S) rs zs
        | _ => false)
      | args => (match ex with
        | .Call (.Name x _) (y :: es) [] _ => decide (x = b.str) && glB S b.str && allB (mE n L S) args (y :: es)
        | _ => false))
    | .comp t it ifs elt => (match ex with
      | .ListComp x [⟨tx, ix, ifx, k⟩] scope _ => decide (k = 0) && mI (mE n L S) S tx it ix && blkC S.N S.sc scope (tgOwn S t) && noSet ix && mT n (S.blk scope) t tx && ifB (mE n L (S.blk scope)) ifs ifx && mE n L (S.blk scope) elt x
      | _ => false)
    | .meth m a b => (match ex with
      | .Call (.Attribute (.Name x p) w apos) [y] [] cpos => decide (m = .index) && decide (w = ("index" : Str)) && !isStarX y && (apos.endLine == cpos.line) && mE n L S a (.Name x p) && mE n L S b y
      | _ => false)
    | .dps a => (match ex with
      | .Call (.Name x _) [y] [] _ => decide (x = ("dict" : Str)) && glB S "dict" && !isStarX y && mE n L S a y
      | _ => false)
    | .dzip a b st => (match ex with
      | .Call (.Name x _) [.Call (.Name x2 _) [y, z] [] _] [] _ => decide (st = false) && decide (x = ("dict" : Str)) && glB S "dict" && decide (x2 = ("zip" : Str)) && glB S "zip" && !isStarX y && !isStarX z && mE n L S a y && mE n L S b z
      | _ => false)
    | .dcp t it ifs k w => (match ex with
      | .DictComp x y [⟨tx, ix, ifx, kk⟩] scope _ => decide (kk = 0) && mI (mE n L S) S tx it ix && blkC S.N S.sc scope (tgOwn S t) && noSet ix && mT n (S.blk scope) t tx && ifB (mE n L (S.blk scope)) ifs ifx && mE n L (S.blk scope) k x && mE n L (S.blk scope) w y
      | _ => false)
    | .dget a k x => (match ex with
      | .Call (.Attribute (.Name nx p) m apos) [y, z] [] cpos => decide (m = ("get" : Str)) && !isStarX y && !isStarX z && (apos.endLine == cpos.line) && mE n L S a (.Name nx p) && mE n L S k y && mE n L S x z
      | _ => false)
    | .read f a b => (match ex with
      | .Call (.Name x _) [y, z] [] _ => L.rd.contains f && decide (L.fns[f]? = some x) && glB S x && !isStarX y && !isStarX z && mE n L S a y && mE n L S b z
      | _ => false)
    | .dnew => (match ex with
      | .Dict [] [] _ => true
      | _ => false)
    | .isi a tys => (match tys with
      | [t] => (match ex with
        | .Call (.Name x _) [y, .Name z _] [] _ => decide (x = ("isinstance" : Str)) && glB S "isinstance" && decide (t ≠ .dict) && decide (z = Str.ofString t.name) && glB S z && !isStarX y && mE n L S a y
        | _ => false)
      | _ => false)
    | _ => false
def isLC : Expr → Bool
  | .ListComp .. => true
  | .DictComp .. => true
  | _ => false
structure OkX (X : Cx) (G : Gx) (e : E) (ex : Expr) : Prop where
  E : OkE X G e ex
  N : fresh e = true → PE X ex (RdN G e)
  W : ∀ op es pos, ex = .BoolOp op es pos → OkW X G op e es
  C : isLC ex = true → ∀ i y py spos, X.N[i]? = some y → X.env.scope.names.lookup y = some .local → swapsWith ex (some (.Name y py)) spos.line X.env = pure true → ∃ te, PS X (.Assign [.Name y py] ex spos) (tAsg te (gName i)) ∧ ∀ σ H Q, RdN G e σ H Q → te σ H Q
section
variable {X : Cx} {G : Gx} {L : Lk} {S : Sx}
theorem visB_ok (h : XOk X G L S) {i : Nat} {x : Str} (v : visB S i x = true) : X.N[i]? = some x ∧ Vis X.env.scope x ∧ (x == ("__debug__" : Str)) = false ∧ (x == ("__classdict__" : Str)) = false := by
  unfold visB at v
  simp only [Bool.and_eq_true, Bool.or_eq_true, decide_eq_true_eq, Bool.not_eq_true'] at v
  obtain ⟨⟨⟨v1, v2⟩, v3⟩, v4⟩ := v
  refine ⟨h.N ▸ v1, ?_, v3, v4⟩
  unfold Vis
  rw [h.sc]
  rcases v2 with (v2 | v2) | v2
  · exact .inl v2
  · exact .inr (.inl v2)
  · exact .inr (.inr v2)
theorem locB_ok (h : XOk X G L S) {i : Nat} {x : Str} (v : locB S i x = true) : X.N[i]? = some x ∧ L2.Loc X.env.scope x ∧ (X.fn x = true ∨ X.env.scope.names.lookup x = some .local) := by
  unfold locB at v
  simp only [Bool.and_eq_true, Bool.or_eq_true, decide_eq_true_eq] at v
  obtain ⟨v1, v2⟩ := v
  unfold L2.Loc
  rw [h.sc]
  rcases v2 with v2 | ⟨v2, v3⟩
  · exact ⟨h.N ▸ v1, .inl v2, .inr v2⟩
  · exact ⟨h.N ▸ v1, .inr v2, .inl (h.fn x v3)⟩
theorem mT_ok : ∀ (n : Nat) {X : Cx} {S : Sx} (h : XOk X G L S) (t : Tg) (x : Expr), mT n S t x = true → PG X x (RdG G t)
  | 0, _, _, _, _, _, m => by cases m
  | n + 1, X, S, h, t, x, m => by
    unfold mT at m
    cases t with
    | name i => cases x with
      | Name y pos =>
        obtain ⟨q1, q2, q3⟩ := locB_ok h m
        exact okG_name h.nd q1 q2 q3
      | _ => cases m
    | tup ts => cases x with
      | Tuple es k pos =>
        simp only [Bool.and_eq_true, decide_eq_true_eq] at m
        obtain ⟨⟨m1, m2⟩, m3⟩ := m
        refine okG_tup h.hK h.calm m1 m2 ?_
        induction es generalizing ts with
        | nil => cases ts with
          | nil => exact okGs_nil
          | cons _ _ => cases m2
        | cons e es ih => cases ts with
          | nil => cases m2
          | cons t ts =>
            rw [List.zip_cons_cons, List.all_cons, Bool.and_eq_true] at m3
            rw [List.all_cons, Bool.and_eq_true, Bool.not_eq_true'] at m1
            exact okGs_cons m1.1 (mT_ok n h t e m3.1) (ih ts m3.2 m1.2 (by simpa using m2))
      | _ => cases m
theorem noSet_ok {ix : Expr} {env : Env} (h : noSet ix = true) (x : Value) : foldedSetIterable ix env x = pure x := by
  cases ix <;> first | rfl | cases h
theorem allB_ok {f : E → Expr → Bool} (h : XOk X G L S) (hf : ∀ e ex, f e ex = true → OkX X G e ex) : ∀ {es : List E} {xs : List Expr}, allB f es xs = true → PA X xs (RdL G es) ∧ PA X xs (RdBL G es) ∧ xs.all (fun e => !isStarX e) = true
  | [], [], _ => ⟨okA_nil, okBA_nil, rfl⟩
  | e :: es, x :: xs, m => by
    unfold allB at m
    simp only [Bool.and_eq_true, Bool.not_eq_true'] at m
    obtain ⟨⟨⟨m1, m2⟩, m3⟩, m4⟩ := m
    obtain ⟨r1, r2, r3⟩ := allB_ok h hf m4
    have o := hf e x m3
    exact ⟨okA_cons m1 m2 o.E.V r1, okBA_cons m1 m2 o.E.B r2, by rw [List.all_cons, m2, r3]; rfl⟩
  | [], _ :: _, m => by cases m
  | _ :: _, [], m => by cases m
theorem allS_ok {f : E → Expr → Bool} (h : XOk X G L S) (hf : ∀ e ex, f e ex = true → OkX X G e ex) : ∀ {es : List E} {xs : List Expr}, allS f es xs = true → PA X xs (RdL G es)
  | [], [], _ => okA_nil
  | e :: es, x :: xs, m => by
    unfold allS at m
    rw [Bool.and_eq_true] at m
    obtain ⟨m1, m2⟩ := m
    have r := allS_ok h hf m2
    by_cases q : isStarE e = true
    · cases e with
      | star a => cases x with
        | Starred y p => exact okA_star h.hK (hf a y m1).E.B r
        | _ => cases m1
      | _ => cases q
    · have q : isStarE e = false := by simpa using q
      have m3 : (!isStarX x && f e x) = true := by cases e <;> first | exact m1 | cases q
      rw [Bool.and_eq_true, Bool.not_eq_true'] at m3
      exact okA_cons q m3.1 (hf e x m3.2).E.V r
  | [], _ :: _, m => by cases m
  | _ :: _, [], m => by cases m
theorem optB_ok {f : E → Expr → Bool} (hf : ∀ e ex, f e ex = true → OkX X G e ex) {o : Option E} {x : Option Expr} (m : optB f o x = true) : PO X x (RdO G o) := by
  cases o with
  | none => cases x with
    | none => exact okO_none
    | some _ => cases m
  | some e => cases x with
    | none => cases m
    | some x => exact okO_some (hf e x m).E.B
theorem ifB_ok {f : E → Expr → Bool} (hf : ∀ e ex, f e ex = true → OkX X G e ex) {o : Option E} {x : List Expr} (m : ifB f o x = true) : PTs X x (RdTO G o) := by
  cases o with
  | none => cases x with
    | nil => exact okT_none
    | cons _ _ => cases m
  | some e => cases x with
    | nil => cases m
    | cons x r => cases r with
      | nil => exact okT_some (hf e x m).E.T
      | cons _ _ => cases m
theorem mI_ok {f : E → Expr → Bool} (h : XOk X G L S) (hf : ∀ e ex, f e ex = true → OkX X G e ex) {it : E} {tg ix : Expr} (m : mI f S tg it ix = true) : PI X tg ix (RdI G it) := by
  by_cases he : ∃ a, it = .enum a
  · obtain ⟨a, rfl⟩ := he
    simp only [mI] at m
    split at m
    · simp only [Bool.and_eq_true, decide_eq_true_eq, Bool.not_eq_true'] at m
      obtain ⟨⟨⟨⟨m0, rfl⟩, m2⟩, m3⟩, m4⟩ := m
      cases tg with
      | Tuple es k p =>
        rcases Bool.or_eq_true_iff.mp m4 with m4 | m4
        · exact okI_enum h.hK (glB_ok h m2).1 (h.free _ (by decide)) m3 (hf _ _ m4).E
        · unfold mZ at m4
          split at m4
          · rename_i a b x2 p2 y2 z2 kws pos2
            simp only [Bool.and_eq_true, decide_eq_true_eq, Bool.not_eq_true'] at m4
            obtain ⟨⟨⟨⟨⟨⟨rfl, n2⟩, n3⟩, n4⟩, n5⟩, n6⟩, n7⟩ := m4
            unfold kwB at n7
            split at n7
            · rename_i hb; cases hb
            · have e : _ = ("strict" : Str) := of_decide_eq_true n7
              subst e
              exact okI_ez h.hK (glB_ok h n2).1 (h.free _ (by decide)) (glB_ok h m2).1 (h.free _ (by decide)) n3 n4 (hf _ _ n5).E (hf _ _ n6).E
            · cases n7
          · cases m4
      | _ => cases m0
    · cases m
  by_cases hz : ∃ a b st, it = .zip a b st
  · obtain ⟨a, b, st, rfl⟩ := hz
    simp only [mI] at m
    split at m
    · rename_i y z kws pos
      simp only [Bool.and_eq_true, decide_eq_true_eq, Bool.not_eq_true'] at m
      obtain ⟨⟨⟨⟨⟨⟨⟨m0, rfl⟩, m2⟩, m3⟩, m4⟩, m5⟩, m6⟩, m7⟩ := m
      have g1 := (glB_ok h m2).1
      have hm : X.mg "zip" = none := h.free _ (by decide)
      cases tg with
      | Tuple es k p =>
        unfold kwB at m7
        split at m7
        · exact okI_zip (st := false) (j := 0) (p3 := pos) (kpos := pos) h.hK g1 hm m3 m4 (hf _ _ m5).E (hf _ _ m6).E
        · have e : _ = ("strict" : Str) := of_decide_eq_true m7
          subst e
          exact okI_zip (st := true) h.hK g1 hm m3 m4 (hf _ _ m5).E (hf _ _ m6).E
        · cases m7
      | _ => cases m0
    · cases m
  by_cases hr : ∃ args, it = .rng args
  · obtain ⟨args, rfl⟩ := hr
    have star : ∀ {es : List E} {xs : List Expr}, allB f es xs = true → es.all (fun e => !isStarE e) = true := by
      intro es xs
      induction es generalizing xs with
      | nil => intro _; rfl
      | cons e es ih => cases xs with
        | nil => intro z; cases z
        | cons x xs =>
          intro z
          unfold allB at z
          simp only [Bool.and_eq_true] at z
          rw [List.all_cons, z.1.1.1, ih z.2]; rfl
    cases ix with
    | Call fx es kws pos => cases fx with
      | Name x p => cases kws with
        | nil =>
          have m : (decide (x = ("range" : Str)) && glB S "range" && (decide (es.length = 1) || decide (es.length = 2)) && allB f args es) = true := m
          simp only [Bool.and_eq_true, Bool.or_eq_true, decide_eq_true_eq] at m
          obtain ⟨⟨⟨m1, m2⟩, m3⟩, m4⟩ := m
          subst m1
          obtain ⟨g1, _⟩ := glB_ok h m2
          obtain ⟨_, a2, a3⟩ := allB_ok h hf m4
          have hm : X.mg "range" = none := h.free _ (by decide)
          have s4 := star m4
          cases es with
          | nil => simp at m3
          | cons x es => cases args with
            | nil => cases m4
            | cons a args => cases es with
              | nil => cases args with
                | nil =>
                  have t1 : isStarE a = false := by simpa using s4
                  have t2 : isStarX x = false := by simpa using a3
                  exact okI_rng1 t1 g1 hm t2 a2
                | cons _ _ => simp [allB] at m4
              | cons y es => cases args with
                | nil => simp [allB] at m4
                | cons b args => cases es with
                  | cons _ _ => simp at m3
                  | nil => cases args with
                    | cons _ _ => simp [allB] at m4
                    | nil =>
                      have t1 : isStarE a = false ∧ isStarE b = false := by simpa using s4
                      have t2 : isStarX x = false ∧ isStarX y = false := by simpa using a3
                      exact okI_rng2 t1.1 t1.2 g1 hm t2.1 t2.2 a2
        | cons _ _ => cases m
      | _ => cases m
    | _ => cases m
  · have m2 : f it ix = true := by cases it <;> first | exact m | exact absurd ⟨_, rfl⟩ hr | exact absurd ⟨_, rfl⟩ he | exact absurd ⟨_, _, _, rfl⟩ hz
    exact okI_seq h.hK (hf _ _ m2).E
theorem allB_star {f : E → Expr → Bool} : ∀ {es : List E} {xs : List Expr}, allB f es xs = true → ∀ e ∈ es, isStarE e = false
  | [], _, _, _, he => nomatch he
  | e :: es, [], z, _, _ => by cases z
  | e :: es, x :: xs, z, e', he => by
    unfold allB at z
    simp only [Bool.and_eq_true, Bool.not_eq_true'] at z
    rcases List.mem_cons.mp he with rfl | he
    · exact z.1.1.1
    · exact allB_star z.2 e' he
theorem prg_of {f : E → Expr → Bool} (h : XOk X G L S) (hf : ∀ e ex, f e ex = true → OkX X G e ex) {args : List E} {zs : List Expr} {p pos : Pos} (g : glB S "range" = true) (hl : zs.length = 1 ∨ zs.length = 2) (m : allB f args zs = true) : PRg X (.Call (.Name "range" p) zs [] pos) (RdRg G args) := by
  obtain ⟨g1, _⟩ := glB_ok h g
  have hm : X.mg "range" = none := h.free _ (by decide)
  obtain ⟨_, _, a3⟩ := allB_ok h hf m
  match args, zs, m, a3, hl with
  | [a], [x], m, a3, _ =>
    have t2 : isStarX x = false := by simpa using a3
    simp only [allB, Bool.and_true, Bool.and_eq_true] at m
    exact prg_ok1 g1 hm t2 (hf _ _ m.2).E.B
  | [a, b], [x, y], m, a3, _ =>
    have t2 : isStarX x = false ∧ isStarX y = false := by simpa using a3
    simp only [allB, Bool.and_true, Bool.and_eq_true] at m
    exact prg_ok2 g1 hm t2.1 t2.2 (hf _ _ m.1.2).E.B (hf _ _ m.2.2).E.B
  | [], [], _, _, hl => simp at hl
  | [], _ :: _, m, _, _ => cases m
  | _ :: _, [], m, _, _ => cases m
  | [_], _ :: _ :: _, m, _, _ => simp [allB] at m
  | _ :: _ :: _, [_], m, _, _ => simp [allB] at m
  | _ :: _ :: _ :: _, [_, _], m, _, _ => simp [allB] at m
  | _, _ :: _ :: _ :: _, _, _, hl => simp at hl
theorem okX_of {e : E} {ex : Expr} (h : OkE X G e ex) (hf : fresh e = false) (hw : ∀ op es pos, ex ≠ .BoolOp op es pos) (hc : isLC ex = false) : OkX X G e ex := ⟨h, fun z => (by rw [hf] at z; cases z), fun op es pos z => absurd z (hw op es pos), fun z => (by rw [hc] at z; cases z)⟩
theorem okX_new {e : E} {ex : Expr} (h : OkN X G e ex) (hw : ∀ op es pos, ex ≠ .BoolOp op es pos) (hc : isLC ex = false) : OkX X G e ex := ⟨h.toOkE, fun _ => h.N, fun op es pos z => absurd z (hw op es pos), fun z => (by rw [hc] at z; cases z)⟩
theorem okX_W {op : BoolOp} {e : E} {es : List Expr} {pos : Pos} (h : OkW X G op e es) (hl : lkB e = lk e) (hf : fresh e = false) : OkX X G e (.BoolOp op es pos) :=
  ⟨okE_of_W h hl, fun z => (by rw [hf] at z; cases z), fun op' es' pos' z => (by cases z; exact h), fun z => by cases z⟩
theorem tgOwn_slots (S : Sx) (t : Tg) : (tgOwn S t).map (·.2) = t.slots := by
  unfold tgOwn
  rw [List.map_map]
  exact List.map_id' _
end
theorem mE_ok {G : Gx} {L : Lk} : ∀ (n : Nat) {X : Cx} {S : Sx} (h : XOk X G L S) (e : E) (ex : Expr), mE n L S e ex = true → OkX X G e ex
  | 0, _, _, _, _, _, m => by cases m
  | n + 1, X, S, h, e, ex, m => by
    have ih : ∀ e ex, mE n L S e ex = true → OkX X G e ex := fun e ex => mE_ok n h e ex
    unfold mE at m
    cases e with
    | non => cases ex with
      | Constant c k pos => cases c with
        | none => exact okX_of (ok_non h.hK) rfl nofun rfl
        | _ => cases m
      | _ => cases m
    | bl b => cases ex with
      | Constant c k pos => cases c with
        | bool c =>
          have e : b = c := by simpa using m
          subst e
          exact okX_of (ok_bl h.hK) rfl nofun rfl
        | _ => cases m
      | _ => cases m
    | int i => cases ex with
      | Constant c k pos => cases c with
        | int c =>
          have e : i = c := by simpa using m
          subst e
          exact okX_of (ok_int h.hK) rfl nofun rfl
        | _ => cases m
      | _ => cases m
    | str i => cases ex with
      | Constant c k pos => cases c with
        | str c =>
          have e : i = c := by simpa using m
          subst e
          exact okX_of (ok_str h.hK) rfl nofun rfl
        | _ => cases m
      | _ => cases m
    | var i => cases ex with
      | Name x pos =>
        obtain ⟨q1, q2, q3, q4⟩ := visB_ok h m
        exact okX_of (ok_var h.hK q1 q2 q3 q4) rfl nofun rfl
      | _ => cases m
    | op o a b => cases ex with
      | BinOp x p y pos =>
        simp only [Bool.and_eq_true, decide_eq_true_eq] at m
        obtain ⟨⟨rfl, m2⟩, m3⟩ := m
        exact okX_new (ok_op h.hK (ih _ _ m2).E.B (ih _ _ m3).E.B) nofun rfl
      | _ => cases m
    | neg a => cases ex with
      | UnaryOp p x pos =>
        simp only [Bool.and_eq_true, decide_eq_true_eq] at m
        obtain ⟨rfl, m2⟩ := m
        exact okX_of (ok_neg h.hK (ih _ _ m2).E.B) rfl nofun rfl
      | _ => cases m
    | not a => cases ex with
      | UnaryOp p x pos =>
        simp only [Bool.and_eq_true, decide_eq_true_eq] at m
        obtain ⟨rfl, m2⟩ := m
        exact okX_of (ok_not h.hK (ih _ _ m2).E) rfl nofun rfl
      | _ => cases m
    | and a b => cases ex with
      | BoolOp p es pos => match es, m with
        | [x, y], m =>
          simp only [Bool.and_eq_true, decide_eq_true_eq] at m
          obtain ⟨⟨rfl, m2⟩, m3⟩ := m
          exact okX_W (okW_and h.hK (ih _ _ m2).E (okW_one (ih _ _ m3).E)) rfl rfl
        | x :: y :: z :: r, m =>
          simp only [Bool.and_eq_true, decide_eq_true_eq] at m
          obtain ⟨⟨rfl, m2⟩, m3⟩ := m
          exact okX_W (okW_and h.hK (ih _ _ m2).E ((ih _ _ m3).W _ _ _ rfl)) rfl rfl
        | [], m => cases m
        | [_], m => cases m
      | _ => cases m
    | or a b => cases ex with
      | BoolOp p es pos => match es, m with
        | [x, y], m =>
          simp only [Bool.and_eq_true, decide_eq_true_eq] at m
          obtain ⟨⟨rfl, m2⟩, m3⟩ := m
          exact okX_W (okW_or h.hK (ih _ _ m2).E (okW_one (ih _ _ m3).E)) rfl rfl
        | x :: y :: z :: r, m =>
          simp only [Bool.and_eq_true, decide_eq_true_eq] at m
          obtain ⟨⟨rfl, m2⟩, m3⟩ := m
          exact okX_W (okW_or h.hK (ih _ _ m2).E ((ih _ _ m3).W _ _ _ rfl)) rfl rfl
        | [], m => cases m
        | [_], m => cases m
      | _ => cases m
    | ite q a b => cases ex with
      | IfExp x y z pos =>
        simp only [Bool.and_eq_true] at m
        exact okX_of (ok_ite h.hK (ih _ _ m.1.1).E (ih _ _ m.1.2).E (ih _ _ m.2).E) rfl nofun rfl
      | _ => cases m
    | cmp o a b => cases ex with
      | Compare x ps ys pos => match ps, ys, m with
        | [p], [y], m =>
          simp only [Bool.and_eq_true, decide_eq_true_eq, Bool.not_eq_true'] at m
          obtain ⟨⟨⟨rfl, m1⟩, m2⟩, m3⟩ := m
          exact okX_of (ok_cmp h.hK (by have := h.un; omega) m1 (ih _ _ m2).E.B (ih _ _ m3).E.B) rfl nofun rfl
        | [], _, m => cases m
        | _ :: _ :: _, _, m => cases m
        | [_], [], m => cases m
        | [_], _ :: _ :: _, m => cases m
      | _ => cases m
    | chain o1 o2 a b c => cases ex with
      | Compare x ps ys pos => match ps, ys, m with
        | [p, q], [y, z], m =>
          simp only [Bool.and_eq_true, decide_eq_true_eq, Bool.not_eq_true'] at m
          obtain ⟨⟨⟨⟨⟨rfl, rfl⟩, m1⟩, m2⟩, m3⟩, m4⟩ := m
          exact okX_of (ok_chain h.hK (by have := h.un; omega) m1 (ih _ _ m2).E.B (ih _ _ m3).E.B (ih _ _ m4).E.B) rfl nofun rfl
        | [], _, m => cases m
        | [_], _, m => cases m
        | _ :: _ :: _ :: _, _, m => cases m
        | [_, _], [], m => cases m
        | [_, _], [_], m => cases m
        | [_, _], _ :: _ :: _ :: _, m => cases m
      | _ => cases m
    | tup es => cases ex with
      | Tuple xs k pos => exact okX_new (ok_tup h.hK (allS_ok h ih m)) nofun rfl
      | _ => cases m
    | lst es => cases ex with
      | List xs pos => exact okX_new (ok_lst h.hK (allS_ok h ih m)) nofun rfl
      | _ => cases m
    | star a => cases m
    | idx a b => cases ex with
      | Subscript x y pos =>
        simp only [Bool.and_eq_true, Bool.not_eq_true'] at m
        exact okX_of (ok_idx h.hK (by have := h.un; omega) m.1.1 (ih _ _ m.1.2).E.B (ih _ _ m.2).E.B) rfl nofun rfl
      | _ => cases m
    | slc a lo hi =>
      simp only at m
      split at m
      · simp only [Bool.and_eq_true] at m
        exact okX_new (ok_slc h.hK (ih _ _ m.1.1).E.B (optB_ok ih m.1.2) (optB_ok ih m.2)) nofun rfl
      · cases m
    | rev a =>
      simp only at m
      split at m
      · simp only [Bool.and_eq_true, decide_eq_true_eq] at m
        obtain ⟨rfl, m2⟩ := m
        exact okX_new (ok_revL h.hK (ih _ _ m2).E.B) nofun rfl
      · cases m
    | call f args =>
      simp only at m
      split at m
      · simp only [Bool.and_eq_true, decide_eq_true_eq] at m
        obtain ⟨⟨m1, m2⟩, m3⟩ := m
        obtain ⟨r1, _, r3⟩ := allB_ok h ih m3
        rw [List.all_cons, Bool.and_eq_true, Bool.not_eq_true'] at r3
        exact okX_of (ok_callF h m1 m2 r3.1 r3.2 r1) rfl nofun rfl
      · cases m
    | pick a b =>
      simp only at m
      split at m
      · simp only [Bool.and_eq_true, decide_eq_true_eq, Bool.not_eq_true'] at m
        obtain ⟨⟨⟨⟨⟨rfl, m1⟩, m2⟩, m3⟩, m4⟩, m5⟩ := m
        exact okX_of (ok_pickF h m1 m2 m3 (ih _ _ m4).E.V (ih _ _ m5).E.V) rfl nofun rfl
      · cases m
    | bi b args =>
      by_cases hr : ∃ rs, args = [.rng rs]
      · obtain ⟨rs, rfl⟩ := hr
        simp only at m
        split at m
        · simp only [Bool.and_eq_true, Bool.or_eq_true, decide_eq_true_eq] at m
          obtain ⟨⟨⟨⟨⟨⟨rfl, m2⟩, m3⟩, rfl⟩, m5⟩, m6⟩, m7⟩ := m
          exact okX_new (ok_rngTo h m3 m2 (allB_star m7) rfl (prg_of h ih m5 m6 m7)) nofun rfl
        · cases m
      · have m : (match (generalizing := false) ex with
          | .Call (.Name x _) (y :: es) [] _ => decide (x = b.str) && glB S b.str && allB (mE n L S) args (y :: es)
          | _ => false) = true := by
          simp only at m
          split at m
          · exact absurd ⟨_, rfl⟩ hr
          · exact m
        split at m
        · simp only [Bool.and_eq_true, decide_eq_true_eq] at m
          obtain ⟨⟨rfl, m2⟩, m3⟩ := m
          obtain ⟨_, r2, r3⟩ := allB_ok h ih m3
          rw [List.all_cons, Bool.and_eq_true, Bool.not_eq_true'] at r3
          exact okX_new (ok_biF h m2 r3.1 r3.2 r2) nofun rfl
        · cases m
    | meth w a b =>
      simp only at m
      split at m
      · simp only [Bool.and_eq_true, decide_eq_true_eq, Bool.not_eq_true'] at m
        obtain ⟨⟨⟨⟨⟨rfl, rfl⟩, m3⟩, m4⟩, m5⟩, m6⟩ := m
        exact okX_of (ok_index h.hK (by have := h.un; omega) m3 m4 (ih _ _ m5).E.B (ih _ _ m6).E.B) rfl nofun rfl
      · cases m
    | isi a tys =>
      simp only at m
      split at m
      · rename_i t
        split at m
        · simp only [Bool.and_eq_true, decide_eq_true_eq, Bool.not_eq_true'] at m
          obtain ⟨⟨⟨⟨⟨⟨rfl, m2⟩, m3⟩, rfl⟩, m5⟩, m6⟩, m7⟩ := m
          exact okX_of (ok_isi h.hK m3 rfl (glB_ok h m2).1 (h.free _ (by decide)) (glB_ok h m5).1 (h.free _ (by cases t <;> decide)) m6 (ih _ _ m7).E.B) rfl nofun rfl
        · cases m
      · cases m
    | rng => cases m
    | enum => cases m
    | zip => cases m
    | comp t it ifs elt =>
      simp only at m
      split at m
      · rename_i x tx ix ifx k scope pos
        simp only [Bool.and_eq_true, decide_eq_true_eq] at m
        obtain ⟨⟨⟨⟨⟨⟨rfl, m1⟩, m2⟩, m3⟩, m4⟩, m5⟩, m6⟩ := m
        have bo : BlkOk X.N X.env.scope scope (tgOwn S t) := by rw [h.N, h.sc]; exact blkOk_by m2
        have hb := fun s H C cl fp => h.blk s H scope C cl fp
        have oc := ok_comp (pos := pos) h.hK h.calm h.nd (mI_ok (tg := tx) h ih m1) bo (tgOwn_slots S t) (fun s H C cl fp => mT_ok n (hb s H C cl fp) t tx m4)
          (fun s H C cl fp => ifB_ok (fun e ex => mE_ok n (hb s H C cl fp) e ex) m5) (fun s H C cl fp => (mE_ok n (hb s H C cl fp) elt x m6).E.V) (noSet_ok m3)
        refine ⟨oc.1.toOkE, fun _ => oc.1.N, nofun, fun _ i y py spos e1 e2 e3 => ⟨_, ps_setLc h.calm h.nd e1 e2 e3 (mI_ok (tg := tx) h ih m1) bo (fun s H C cl fp => mT_ok n (hb s H C cl fp) t tx m4)
          (fun s H C cl fp => ifB_ok (fun e ex => mE_ok n (hb s H C cl fp) e ex) m5) (fun s H C cl fp => (mE_ok n (hb s H C cl fp) elt x m6).E.V) (noSet_ok m3), oc.2⟩⟩
      · cases m
    | comp2 => cases m
    | dps a =>
      simp only at m
      split at m
      · simp only [Bool.and_eq_true, decide_eq_true_eq, Bool.not_eq_true'] at m
        obtain ⟨⟨⟨rfl, m2⟩, m3⟩, m4⟩ := m
        exact okX_new (ok_dps h.hK h.calm (by have := h.un; omega) (glB_ok h m2).1 (h.free _ (by decide)) m3 (ih _ _ m4).E.B) nofun rfl
      · cases m
    | dzip a b st =>
      simp only at m
      split at m
      · simp only [Bool.and_eq_true, decide_eq_true_eq, Bool.not_eq_true'] at m
        obtain ⟨⟨⟨⟨⟨⟨⟨⟨rfl, rfl⟩, m2⟩, rfl⟩, m3⟩, m4⟩, m5⟩, m6⟩, m7⟩ := m
        exact okX_new (ok_dzip h.hK h.calm (by have := h.un; omega) (glB_ok h m3).1 (h.free _ (by decide)) (glB_ok h m2).1 (h.free _ (by decide)) m4 m5 (ih _ _ m6).E.B (ih _ _ m7).E.B) nofun rfl
      · cases m
    | dcp t it ifs k w =>
      simp only at m
      split at m
      · rename_i x y tx ix ifx kk scope pos
        simp only [Bool.and_eq_true, decide_eq_true_eq] at m
        obtain ⟨⟨⟨⟨⟨⟨⟨rfl, m1⟩, m2⟩, m3⟩, m4⟩, m5⟩, m6⟩, m7⟩ := m
        have bo : BlkOk X.N X.env.scope scope (tgOwn S t) := by rw [h.N, h.sc]; exact blkOk_by m2
        have hb := fun s H C cl fp => h.blk s H scope C cl fp
        have room : X.A.units < cLine := by have := h.un; omega
        have oc := ok_dcp (pos := pos) room h.hK h.calm h.nd (mI_ok (tg := tx) h ih m1) bo (tgOwn_slots S t) (fun s H C cl fp => mT_ok n (hb s H C cl fp) t tx m4)
          (fun s H C cl fp => ifB_ok (fun e ex => mE_ok n (hb s H C cl fp) e ex) m5) (fun s H C cl fp => (mE_ok n (hb s H C cl fp) k x m6).E.V) (fun s H C cl fp => (mE_ok n (hb s H C cl fp) w y m7).E.V) (noSet_ok m3)
        exact ⟨oc.toOkE, fun _ => oc.N, nofun, fun _ i y' py spos e1 e2 e3 => ⟨_, ps_setDcE room h.calm h.nd e1 e2 e3 (mI_ok (tg := tx) h ih m1) bo (tgOwn_slots S t) (fun s H C cl fp => mT_ok n (hb s H C cl fp) t tx m4)
          (fun s H C cl fp => ifB_ok (fun e ex => mE_ok n (hb s H C cl fp) e ex) m5) (fun s H C cl fp => (mE_ok n (hb s H C cl fp) k x m6).E.V) (fun s H C cl fp => (mE_ok n (hb s H C cl fp) w y m7).E.V) (noSet_ok m3), fun σ H Q h => tDcE_of h⟩⟩
      · cases m
    | dget a k x =>
      simp only at m
      split at m
      · simp only [Bool.and_eq_true, decide_eq_true_eq, Bool.not_eq_true'] at m
        obtain ⟨⟨⟨⟨⟨⟨rfl, m2⟩, m3⟩, m4⟩, m5⟩, m6⟩, m7⟩ := m
        exact okX_of (ok_dget h.hK (by have := h.un; omega) (ih _ _ m5).E.B (ih _ _ m6).E.B (ih _ _ m7).E.V m2 m3 (by rfl) m4) rfl nofun rfl
      · cases m
    | dnew =>
      simp only at m
      split at m
      · exact okX_new (ok_dnew h.hK) nofun rfl
      · cases m
    | disp => cases m
    | keys => cases m
    | read f a b =>
      simp only at m
      split at m
      · simp only [Bool.and_eq_true, decide_eq_true_eq, Bool.not_eq_true'] at m
        obtain ⟨⟨⟨⟨⟨⟨m1, m2⟩, m3⟩, m4⟩, m5⟩, m6⟩, m7⟩ := m
        exact okX_of (ok_readF h (by simpa using m1) m2 m3 m4 m5 (ih _ _ m6).E.V (ih _ _ m7).E.B) rfl nofun rfl
      · cases m
end Fz
/-! FzKb: all of a list's things, taken by picks in a comprehension. -/
namespace Fz
open PySem PySem.Spec PyProof.Rows L2
/-- a thing that is no list of one's own and not frozen is changed -/
theorem Ls.put {K : PySem.W.Frag} {sp cc : Addr} {F0 H0 F H : Hp} {j : Nat} {en : En} {σ : L2.St} {s : Src} {A : Addr} {o : HO} (L : Ls K sp cc F0 H0 [j] en σ F H s) (fA : F A = none) (h0 : H0 A = none) (n1 : A ≠ sp) (n2 : A ≠ cc) (nj : ∀ b, σ[j]? = some (some (.ref b)) → b ≠ A) :
    Ls K sp cc F0 H0 [j] en σ F (upd H A o) s := by
  have W := L.W.mutD (o := o) h0 fA n1 n2
  refine ⟨⟨W.sub, W.src, L.R.fsp, L.R.fcc, L.R.len, L.R.val, fun i hi d e => ?_, L.R.dis⟩, W, L.O⟩
  obtain ⟨b, oo, q2, q3, q4, q5, q6, q7⟩ := L.R.own i hi d e
  have hij : i = j := by simpa using hi
  subst hij
  exact ⟨b, oo, q2, by rw [upd_ne (nj b q2)]; exact q3, q4, q5, q6, q7⟩
section
variable {X : Cx} {G : Gx} {L : Lk} {S : Sx}
theorem popInt {xs : List D} {k : D} {p : D × List D} (h : popAt xs (some k) = some p) : ∃ z i, k = .int z ∧ L2.ixN xs.length z = some i ∧ xs[i]? = some p.1 ∧ p.2 = xs.eraseIdx i := by
  cases k with
  | int z =>
    obtain ⟨i, h1, h2⟩ := Option.bind_eq_some_iff.mp (show (L2.ixN xs.length z).bind (fun j => (xs[j]?).map fun d => (d, xs.eraseIdx j)) = some p from h)
    obtain ⟨d, h3, rfl⟩ := Option.map_eq_some_iff.mp h2
    exact ⟨z, i, rfl, h1, h3, rfl⟩
  | _ => cases h
theorem okS_mix {j i lap : Nat} {tx ix ex : Expr} {scope : Scope} {own1 : List (Str × Nat)} {lpos pos : Pos} (hK : X.K = G.K) (hc : X.calm = true) (hN : X.N.Nodup) (hi : PI X tx ix (RdI G (.rng [.bi .len [.var j]]))) (ok : BlkOk X.N X.env.scope scope own1)
    (hown : own1.map (·.2) = [lap])
    (hg : ∀ (s : Shared) (H : Hp) (C : Addr) (cl : List (Str × Addr)) (fp : List Addr), PG (X.blk s H scope (compEnvC scope cl C X.env) fp) tx (RdG G (.name lap)))
    (he : ∀ (s : Shared) (H : Hp) (C : Addr) (cl : List (Str × Addr)) (fp : List Addr), PE (X.blk s H scope (compEnvC scope cl C X.env) fp) ex (tBM G.K "list" rPopAt (tVar j) (tCons (RdV G (.pick (.var i) (.bi .len [.var j]))) tNil)))
    (hs : ∀ x, foldedSetIterable ix X.env x = pure x) : PS X (.Return (some (.ListComp ex [⟨tx, ix, [], 0⟩] scope lpos)) pos) (RdS G (.mix j i lap)) := by
  refine ps_imp (ps_ret (pe_lc hc hN hi ok hg (fun _ _ _ _ _ => pts_nil) he hs)) fun D σ H ⟨F0, H0, g, en, F, s, r, s', g', Ls0, o, ev, b⟩ => ?_
  obtain ⟨x0, e1, e2⟩ := bnd_lift (show bnd (lift (en.getD i none)) (fun x => bnd (lift (lstAt en j)) fun xs => if (isSrc x && small xs.length) = true then bnd (mixL G.v xs.length xs) fun ys => ret (.ret (.list ys)) else fun _ => none) s = some (r, s') from ev)
  obtain ⟨xs, e3, e4⟩ := bnd_lift e2
  have o2 : (if (g.contains j && (decide (j ≠ i) && decide (lap ≠ j)) && decide (lap ≠ i)) = true then some g else none) = some g' := by rw [own] at o; exact o
  obtain ⟨o3, rfl⟩ := if_some o2
  simp only [Bool.and_eq_true, decide_eq_true_eq] at o3
  obtain ⟨⟨o4, nji, nlj⟩, nli⟩ := o3
  have hj : j ∈ g := by simpa using o4
  by_cases q : (isSrc x0 && small xs.length) = true
  · rw [if_pos q] at e4
    obtain ⟨q1, q2⟩ := Bool.and_eq_true_iff.mp q
    obtain ⟨ys, s2, m1, m2⟩ := bnd_some e4
    obtain ⟨rfl, rfl⟩ := ret_some m2
    have hsub : ∀ k ∈ [j], k ∈ g := fun k hk => (List.mem_singleton.mp hk) ▸ hj
    obtain ⟨F1, L1, sm⟩ := Ls0.less hsub
    have hj1 : j ∈ [j] := List.mem_cons_self ..
    obtain ⟨aj, vj, k1, k2, k3, k4, k5, k6, k7⟩ := L1.at hj1 e3
    have hev : evE G.v G.c (.rng [.bi .len [.var j]]) en s = some (.list (rngL 0 xs.length), s) := by
      have hr : inR (xs.length : Int) = true := by
        have z : xs.length ≤ 16000000 := of_decide_eq_true q2
        unfold inR
        rw [Bool.and_eq_true, decide_eq_true_eq, decide_eq_true_eq]
        omega
      have hr2 : small (rngL 0 xs.length).length = true := by rw [rngL_len]; exact q2
      have h1 : evE G.v G.c (.bi .len [.var j]) en s = some (.int xs.length, s) := by
        show bnd (bnd (lift (en.getD j none)) fun x => bnd (ret []) fun ys => ret (x :: ys)) (fun ds => lift (biV .len ds)) s = _
        rw [k1]; rfl
      show bnd (bnd (evE G.v G.c (.bi .len [.var j]) en) fun x => bnd (ret []) fun ys => ret (x :: ys)) (fun ds => lift ((rngV ds).bind fun l => (Fz.sizeOk l).map PyData.list)) s = _
      unfold bnd
      rw [h1]
      show lift ((rngV [.int (xs.length : Nat)]).bind fun l => (Fz.sizeOk l).map PyData.list) s = _
      have h2 : rngV [.int (xs.length : Nat)] = some (rngL 0 xs.length) := by
        show (if inR (xs.length : Int) = true then some (rngL 0 ((xs.length : Int).toNat)) else none) = _
        rw [if_pos hr, Int.toNat_natCast]
      rw [h2]
      show lift ((Fz.sizeOk (rngL 0 xs.length)).map PyData.list) s = _
      unfold Fz.sizeOk
      rw [if_pos hr2]; rfl
    have offN : Off [j] ([] : List Nat) := fun k hm => nomatch hm
    refine ⟨_, en, F1, s, .list (rngL 0 xs.length), rngL 0 xs.length, s, L1.R, offN, hev, rfl, fun J F2 H2 Gd f wk gs _ A hA => ?_⟩
    have gs := gs offN
    rw [rngL_len] at wk
    have Lw := L1.step f
    have nA : A ≠ G.sp ∧ A ≠ G.cc := ⟨(fun e => by rw [e, f.src.1] at hA; cases hA), (fun e => by rw [e, f.src.2] at hA; cases hA)⟩
    have fA : F2 A = none := by
      cases z : F2 A with
      | none => rfl
      | some u => rw [f.sub _ _ z] at hA; cases hA
    have hA0 : H0 A = none := Lw.W.noneBack hA
    have hj2 := f.keep _ _ k3 k6 k7
    have nj : ∀ b, σ[j]? = some (some (.ref b)) → b ≠ A := fun b hb z => by
      rw [k2] at hb
      cases hb
      rw [z, hA] at hj2
      cases hj2
    rw [hown]
    refine lc_it wk (fun n H' => ∃ Fi si eni ds acc vs rest, Ls G.K G.sp G.cc F0 H0 [j] eni σ Fi H' si ∧ Same F2 Fi ∧ eni = en.set j (some (.list ds)) ∧ ds.length = xs.length - n ∧ n ≤ xs.length ∧ mixL G.v (xs.length - n) ds si = some (rest, s') ∧ ys = acc ++ rest ∧ H' A = some (.lst vs) ∧ Fi A = none ∧ RpA G.K G.sp Fi vs acc)
      ⟨F2, s, en, xs, [], [], ys, Lw.put fA hA0 nA.1 nA.2 nj, Same.refl _, ?_, rfl, Nat.zero_le _, m1, rfl, upd_same, fA, .nil⟩ (fun n H' _ ⟨Fi, si, eni, ds, acc, vs, rest, Li, smi, _⟩ => gs _ (smi.trans Li.R.sub)) ?_ ?_
    · refine List.ext_getElem? fun k => ?_
      by_cases hk : k = j
      · subst hk
        rw [List.getD_eq_getElem?_getD] at k1
        by_cases hl : k < en.length
        · rw [List.getElem?_set_self hl, List.getElem?_eq_getElem hl] at *
          simpa using k1
        · rw [List.getElem?_eq_none (by omega)] at k1; cases k1
      · rw [List.getElem?_set_ne (Ne.symm hk)]
    · rintro n x Hi Hj hlt ⟨Fi, si, eni, ds, acc, vs, rest, Li, smi, ee, hd, _, hm, hy, hD, hF, ra⟩ ⟨d, hdd, hstep⟩
      obtain ⟨Fj, fj, rx⟩ := hstep Fi si smi Li.R.sub Li.R.src Li.R.fsp Li.R.fcc
      have Lj := Li.step fj
      obtain ⟨mm, hmm⟩ : ∃ mm, xs.length - n = mm + 1 := ⟨xs.length - n - 1, by omega⟩
      have hmm2 : xs.length - (n + 1) = mm := by omega
      rw [hmm] at hm
      obtain ⟨kd, sa, t1, t2⟩ := bnd_some (show bnd (pickM G.v ds.length) (fun d => bnd (lift (popAt ds (some d))) fun p => bnd (mixL G.v mm p.2) fun ys => ret (p.1 :: ys)) si = some (rest, s') from hm)
      obtain ⟨pr, t3, t4⟩ := bnd_lift t2
      obtain ⟨rest2, sb, t5, t6⟩ := bnd_some t4
      obtain ⟨er, rfl⟩ := ret_some t6
      have Rw := Lj.R.wipe [lap]
      have tg : tgSet (.name lap) d (wipeE eni [lap]) = some ((wipeE eni [lap]).set lap (some d)) := rfl
      refine ⟨_, _, Fj, si, d, _, Rw, rx, tg, fun σ2 R2 hw => ⟨?_, ?_⟩⟩
      · have h1 := hw [lap] fun _ z => z
        rw [h1]
        show (wipe σ [lap]).set lap none = _
        show (σ.set lap none).set lap none = σ.set lap none
        rw [List.set_set]
      · have eqS : σ2[j]? = σ[j]? := by
          have h1 := congrArg (fun (τ : L2.St) => τ[j]?) (hw [lap] fun _ z => z)
          have nm : j ∉ [lap] := by simpa using Ne.symm nlj
          simp only [wipe_out nm] at h1
          exact h1
        have g2 : ∀ k, k ∈ ([j].filter fun k => !([lap] : List Nat).contains k).filter (fun k => !(Tg.slots (.name lap)).contains k) → k = j := fun k hk => by
          simpa using (List.mem_filter.mp (List.mem_filter.mp hk).1).1
        have hj3 : j ∈ ([j].filter fun k => !([lap] : List Nat).contains k).filter (fun k => !(Tg.slots (.name lap)).contains k) := by
          simp [List.mem_filter, Tg.slots, Ne.symm nlj]
        have len0 : j < en.length := by
          rcases Nat.lt_or_ge j en.length with h | h
          · exact h
          · rw [List.getD_eq_getElem?_getD, List.getElem?_eq_none h] at k1; cases k1
        have at1 : eni.getD j none = some (.list ds) := by
          rw [ee, List.getD_eq_getElem?_getD, List.getElem?_set_self len0]; rfl
        have at2 : ((wipeE eni [lap]).set lap (some d)).getD j none = some (.list ds) := by
          rw [List.getD_eq_getElem?_getD, List.getElem?_set_ne nlj, ← List.getD_eq_getElem?_getD, wipeE_out (by simpa using Ne.symm nlj)]
          exact at1
        have at3 : ((wipeE eni [lap]).set lap (some d)).getD i none = some x0 := by
          rw [List.getD_eq_getElem?_getD, List.getElem?_set_ne nli, ← List.getD_eq_getElem?_getD, wipeE_out (by simpa using Ne.symm nli), ee, List.getD_eq_getElem?_getD, List.getElem?_set_ne nji, ← List.getD_eq_getElem?_getD]
          exact e1
        obtain ⟨b0, oo, w2, w3, w4, w50, w6, w7⟩ := R2.own j hj3 _ at2
        obtain ⟨us, rfl, w5⟩ := w50.list
        have eb : b0 = aj := by
          rw [eqS, k2] at w2
          cases w2; rfl
        subst eb
        have hp : evE G.v G.c (.pick (.var i) (.bi .len [.var j])) ((wipeE eni [lap]).set lap (some d)) si = some (kd, sa) := by
          show bnd (lift (((wipeE eni [lap]).set lap (some d)).getD i none)) (fun x => bnd (bnd (bnd (lift (((wipeE eni [lap]).set lap (some d)).getD j none)) fun x => bnd (ret []) fun ys => ret (x :: ys)) fun ds => lift (biV .len ds)) fun y => match y with
            | .int m => if isSrc x then pickM G.v m else fun _ => none
            | _ => fun _ => none) si = _
          rw [at3, at2]
          show (if isSrc x0 = true then pickM G.v ((ds.length : Nat) : Int) else fun _ => none) si = _
          rw [if_pos q1]
          exact t1
        have go : ∀ {P : Bool → Hp → Prop}, P true Hj → tYes σ2 Hj P := fun h => h
        refine go ?_
        rw [if_pos rfl]
        refine ⟨.ref b0, w2, .inl ⟨rfl, _, SqL.of w3⟩, _, _, Fj, si, kd, sa, R2, ?_, hp, fun yv F4 H4 f4 ry => ?_⟩
        · intro k hm hk
          have e9 := g2 k hk
          have : k = i := by simpa [lk, lkBL, lkB] using hm
          exact nji (e9.symm.trans this)
        · obtain ⟨z, ii, rfl, i1, i2, i3⟩ := popInt t3
          have ey : yv = .int z := ry.int'
          subst ey
          obtain ⟨u1, u2, u3, u4⟩ := ixN_seq i1
          have L4 := Lj.step f4
          have w8 := f4.keep _ _ w3 w6 w7
          have w9 := f4.new _ w4 (nt_of w3 nofun)
          have ru := w5.mono f4.fr
          have lu := ru.length
          obtain ⟨y, y1, y2⟩ := ru.get i2
          have b1 : ds.length < 2 ^ 62 := by
            have z2 : xs.length ≤ 16000000 := of_decide_eq_true q2
            omega
          have fall := fj.trans f4
          have hDA := fall.keep _ _ hD nA.1 nA.2
          have hFA := fall.new _ hF (nt_of hD nofun)
          have nbA : b0 ≠ A := nj b0 k2
          refine ⟨b0, us, z, ii, y, rfl, rfl, w8, by omega, by omega, by rw [lu]; exact u1, y1, vs, ?_, ?_, F4, sa, en.set j (some (.list pr.2)), pr.2, acc ++ [pr.1], vs ++ [y], rest2, ?_, (smi.trans fj.fr).trans f4.fr, rfl, ?_, hlt, ?_, ?_, upd_same, hFA, (ra.mono fall.fr).append (.cons y2 .nil)⟩
          · rw [upd_ne (Ne.symm nbA)]; exact hDA
          · have z2 : xs.length ≤ 16000000 := of_decide_eq_true q2
            have z3 := ra.length
            have z4 : ∀ (n : Nat) (ds : List Fz.D) (s : Src) (r : List Fz.D × Src), mixL G.v n ds s = some r → r.1.length = n := by
              intro n
              induction n with
              | zero => intro ds s r h; obtain ⟨h1, _⟩ := ret_some (show ret [] s = some (r.1, r.2) from h); rw [← h1]; rfl
              | succ n ih =>
                intro ds s r h
                obtain ⟨a1, s1, h1, h2⟩ := bnd_some (show bnd (pickM G.v ds.length) (fun d => bnd (lift (popAt ds (some d))) fun p => bnd (mixL G.v n p.2) fun ys => ret (p.1 :: ys)) s = some r from h)
                obtain ⟨a2, h3, h4⟩ := bnd_lift h2
                obtain ⟨a3, s3, h5, h6⟩ := bnd_some h4
                obtain ⟨h7, _⟩ := ret_some (show ret (a2.1 :: a3) s3 = some (r.1, r.2) from h6)
                rw [← h7, List.length_cons, ih _ _ _ h5]
            have z5 := z4 _ _ _ _ m1
            have z6 : ys.length = acc.length + rest.length := by rw [hy, List.length_append]
            rw [z3, sizeLine_eq]
            have z7 : ys.length = xs.length := z5
            omega
          · have L5 := L4.mut hj1 at1 k2 w8 w9 w6 w7 (ru.erase ii)
            rw [ee, List.set_set, ← i3] at L5
            exact L5.put hFA hA0 nA.1 nA.2 nj
          · rw [i3, List.length_eraseIdx]
            rw [if_pos u2]
            omega
          · rw [hmm2]; exact t5
          · rw [hy, ← er, List.append_assoc]; rfl
    · rintro H' ⟨Fi, si, eni, ds, acc, vs, rest, Li, smi, ee, hd, _, hm, hy, hD, hF, ra⟩
      rw [Nat.sub_self] at hm
      obtain ⟨e8, e9⟩ := ret_some (show ret [] si = some (rest, s') from hm)
      subst e8 e9
      rw [List.append_nil] at hy
      subst hy
      exact b (.ref A) _ H' (Li.W.freeze hA0 hF hD) (.lst upd_same (ra.mono (Same.upd' hF)))
  · rw [if_neg q] at e4; cases e4
end
end Fz
/-! FzKc: names = a tuple of values, new lists among them, where the tuple is laid (a name is a cell). -/
namespace Fz
open PySem PySem.Spec L2
def gNames : List Nat → TGs
  | [] => gNil
  | i :: is => gCons (gName i) (gNames is)
theorem gNames_run : ∀ (is : List Nat) (xs : List V) (σ : L2.St) (H : Hp) (Q : L2.St → Hp → Prop), is.length = xs.length → Q (setsX is xs σ) H → gNames is xs σ H Q
  | [], [], σ, H, Q, _, q => ⟨rfl, q⟩
  | i :: is, x :: xs, σ, H, Q, hl, q => ⟨x, xs, rfl, gNames_run is xs _ H Q (by simpa using hl) q⟩
  | [], _ :: _, _, _, _, hl, _ => by cases hl
  | _ :: _, [], _, _, _, hl, _ => by cases hl
theorem RnA.len {K : PySem.W.Frag} {sp : Addr} {H F H' : Hp} : ∀ {bs : List Bool} {xs : List V} {ds : List D}, RnA K sp H F H' bs xs ds → xs.length = ds.length
  | [], [], [], _ => rfl
  | _ :: bs, _ :: xs, _ :: ds, h => by
    have := RnA.len (bs := bs) (xs := xs) (ds := ds) h.2
    simp [this]
  | [], [], _ :: _, h => h.elim
  | [], _ :: _, _, h => by cases ‹List D› <;> exact h.elim
  | _ :: _, [], [], h => h.elim
  | _ :: _, [], _ :: _, h => h.elim
  | _ :: _, _ :: _, [], h => h.elim
theorem setsV_len : ∀ {is : List Nat} {ds : List D} {en en2 : En}, setsV is ds en = some en2 → is.length = ds.length
  | [], [], _, _, _ => rfl
  | _ :: is, _ :: ds, _, _, h => by
    have := setsV_len (is := is) (ds := ds) h
    simp [this]
  | [], _ :: _, _, _, h => by cases h
  | _ :: _, [], _, _, h => by cases h
theorem Fw.lay0 {sp cc : Addr} {F H : Hp} {s : Src} {p : Addr} {o : HO} (hs : Same F H) (q : SrcAt sp cc H s) (hp : H p = none) : Fw sp cc F H F (upd H p o) s := by
  have ne : ∀ b o', H b = some o' → b ≠ p := fun b o' e z => by rw [z, hp] at e; cases e
  refine ⟨Same.refl _, fun b o' e => ?_, fun b o' e _ _ => ?_, ?_, fun _ e _ => e⟩
  · have := hs b o' e
    rw [upd_ne (ne b o' this)]; exact this
  · rw [upd_ne (ne b o' e)]; exact e
  · exact ⟨by rw [upd_ne (ne _ _ q.1)]; exact q.1, by rw [upd_ne (ne _ _ q.2)]; exact q.2⟩
section
variable {X : Cx} {G : Gx}
theorem okS_parC {is : List Nat} {ns : List Bool} {es : List E} {ts vs : List Expr} {k k2 : Nat} {tp p2 pos : Pos} {m : Nat} (hc : X.calm = true) (hm : is.length = m) (h3 : m ≤ 3) (hv : PA X vs (RdLN G ns es)) (hg : PGs X ts (gNames is))
    (hn : (assignEach ts X.env).length = m) (hst : (assignEach ts X.env).findIdx? (·.1) = none)
    (hs : swapsWithSole [.Tuple ts k tp] (.Tuple vs k2 p2) pos.line X.env = pure false) (hw : swappedStores [.Tuple ts k tp] (.Tuple vs k2 p2) X.env = pure none)
    (h1 : (assignEach [.Tuple ts k tp] X.env).map (·.2) = [assign (.Tuple ts k tp) X.env]) : PS X (.Assign [.Tuple ts k tp] (.Tuple vs k2 p2) pos) (RdS G (.parN is ns es)) := by
  refine ps_imp (ps_asg (pe_tup hv) (pg_tup hc hg hn hst) hs hw h1) fun D σ H ⟨F0, H0, g, en, F, s, r, s', g', L, o, ev, b⟩ => ?_
  obtain ⟨ds, s1, e1, e2⟩ := bnd_some ev
  have e2 : (if newsOk ns ds = true then bnd (lift (setsV is ds en)) fun en2 => ret (.next en2) else fun _ => none) s1 = some (r, s') := e2
  by_cases hk : newsOk ns ds = true
  · rw [if_pos hk] at e2
    obtain ⟨en2, e3, e4⟩ := bnd_lift e2
    obtain ⟨rfl, rfl⟩ := ret_some e4
    have o : (if ((ns.zip es).all fun p => !p.1 || fresh p.2) = true then some (gAdd (drp g (lkL es)) is ns) else none) = some g' := by rw [own] at o; exact o
    obtain ⟨_, rfl⟩ := if_some o
    obtain ⟨F1, L1, sm⟩ := L.freeze (lkL es)
    refine ⟨_, en, F1, s, ds, s', L1.R, off_drp _ _, e1, hk, fun xs F2 H2 f rx nd => ?_⟩
    have l1 := RnA.len rx
    have l2 := setsV_len e3
    refine ⟨by rw [sizeLine_eq]; omega, fun p hp => ⟨p, xs, rfl, .inl (.inl upd_same), by omega, gNames_run is xs σ _ _ (by omega) ?_⟩⟩
    have hB : ∀ p, H p = none → H0 p = none ∧ p ≠ G.sp ∧ p ≠ G.cc := fun p hp => ⟨L1.W.noneBack hp, fun z => (by rw [z, L1.R.src.1] at hp; cases hp), fun z => (by rw [z, L1.R.src.2] at hp; cases hp)⟩
    have L2 := L1.step f
    have fl : Fw G.sp G.cc F2 H2 F2 (upd H2 p (.tup xs)) s' := Fw.lay0 L2.R.sub L2.R.src hp
    have L3 := Ls.adds hB is ns xs ds _ en en2 σ L2 rx hk nd (fun j a hj hen hsj hm => by
      obtain ⟨p, e, hp⟩ := newsIn hk rx _ hm
      cases e
      cases q : en.getD j none with
      | none => exact hen q
      | some d2 =>
        obtain ⟨a2, o2, k1, k2, _⟩ := L1.R.own j hj d2 q
        rw [hsj] at k1
        cases k1
        rw [hp] at k2
        cases k2) e3
    exact b _ F2 _ (sm.trans f.fr) (L3.step fl)
  · rw [if_neg hk] at e2; cases e2
end
end Fz
/-! FzQ: taking from a list; the look at statements. -/
namespace Fz
open PySem PySem.Spec PyProof.Rows L2
section
variable {X : Cx} {G : Gx}
theorem RpA.last {K : PySem.W.Frag} {sp : Addr} {F : Hp} {vs : List V} {ds : List D} {d : D} (ra : RpA K sp F vs ds) (h : ds.getLast? = some d) : ∃ v, vs[vs.length - 1]? = some v ∧ Rp K sp F v d := by
  rw [List.getLast?_eq_getElem?] at h
  rw [ra.length]
  exact ra.get h
theorem RpA.init {K : PySem.W.Frag} {sp : Addr} {F : Hp} {vs : List V} {ds : List D} (ra : RpA K sp F vs ds) : RpA K sp F vs.dropLast ds.dropLast := by
  rw [List.dropLast_eq_take, List.dropLast_eq_take, ra.length]
  exact ra.take _
theorem okS_pop {t : Tg} {j : Nat} {x : Str} {tx : Expr} {p apos cpos pos : Pos} (hN : X.N[j]? = some x) (hv : Vis X.env.scope x) (hd : (x == ("__debug__" : Str)) = false) (hcd : (x == ("__classdict__" : Str)) = false) (hline : (apos.endLine == cpos.line) = true)
    (hg : PG X tx (RdG G t)) (hs : swapsWithSole [tx] (.Call (.Attribute (.Name x p) "pop" apos) [] [] cpos) pos.line X.env = pure false) (hw : swappedStores [tx] (.Call (.Attribute (.Name x p) "pop" apos) [] [] cpos) X.env = pure none) (h1 : (assignEach [tx] X.env).map (·.2) = [assign tx X.env]) :
    PS X (.Assign [tx] (.Call (.Attribute (.Name x p) "pop" apos) [] [] cpos) pos) (RdS G (.pop t j none)) := by
  have pe := pe_bm0 (cpos := cpos) (apos := apos) PySem.F.plainAttrs_list PySem.F.slot_list_pop PySem.F.type_list_pop mt_pop (pe_var (pos := p) hN hv hd hcd) (by rfl) hline
  refine ps_imp (ps_asg pe hg hs hw h1) fun D σ H ⟨F0, H0, g, en, F, s, r, s', g', L, o, ev, b⟩ => ?_
  obtain ⟨ds, s1, e1, e4⟩ := bnd_some ev
  obtain ⟨e3, rfl⟩ := lift_some e1
  obtain ⟨pr, e5, e6⟩ := bnd_lift e4
  obtain ⟨en2, e7, e8⟩ := bnd_lift e6
  obtain ⟨rfl, rfl⟩ := ret_some e8
  obtain ⟨d, hlast, rfl⟩ := Option.map_eq_some_iff.mp (show (ds.getLast?).map (fun d => (d, ds.dropLast)) = some pr from e5)
  have o2 : (if ((drp g (lkO none)).contains j && !t.slots.contains j) = true then some (drp (drp g (lkO none)) t.slots) else none) = some g' := by
    rw [own] at o; exact o
  obtain ⟨hi, rfl⟩ := if_some o2
  rw [Bool.and_eq_true, Bool.not_eq_true'] at hi
  have hj : j ∈ drp g (lkO none) := by simpa using hi.1
  have L1 := L.congr (g' := drp g (lkO none)) fun i => by simp [mem_drp, lkO]
  obtain ⟨a, vs, k1, k2, k3, k4, k5, k6, k7⟩ := L1.at hj e3
  obtain ⟨v, hv2, rv⟩ := k5.last hlast
  refine ⟨.ref a, k2, .inl ⟨rfl, _, SqL.of k3⟩, a, vs, v, rfl, rfl, k3, hv2, ?_⟩
  have L2 := L1.mut hj k1 k2 k3 k4 k6 k7 k5.init
  exact ⟨_, _, F, _, d, en2, L2.R, rv, e7, fun σ2 R2 w2 => b σ2 F _ (Same.refl _) (L2.tgs R2 (tgSet_out t d _ en2 e7) (wipe_slots w2))⟩
end
/-! ### stores -/
def lcScope : Expr → Option Scope
  | .ListComp _ _ s _ => some s
  | .SetComp _ _ s _ => some s
  | .DictComp _ _ _ s _ => some s
  | _ => none
def swB (S : Sx) (value t : Expr) : Bool := match lcScope value, t with
  | some scope, .Name x p => decide (S.sc.names.lookup x = some .local) && p.line == value.pos.line && !(scope.names.any fun (n, k) => n == x && (k == .local || k == .cell))
  | _, _ => false
theorem swB_ok {S : Sx} {env : Env} (hs : env.scope = S.sc) (hk : env.scope.kind = .function) (value t : Expr) (l : Nat) : swapsWith value (some t) l env = pure (swB S value t) := by
  have hb : env.blockKind = .function := by unfold Env.blockKind; rw [hk]; rfl
  have kk : ∀ x, env.kindOf x = S.sc.names.lookup x := fun x => by unfold Env.kindOf; rw [hs]
  have e3 : ∀ o : Option NameKind, (o == some NameKind.local) = decide (o = some .local) := fun o => by cases o with
    | none => rfl
    | some k => cases k <;> rfl
  cases value with
  | ListComp a b sc c => cases t with
    | Name x p => unfold swapsWith; simp only [hb, kk, e3]; rfl
    | _ => rfl
  | SetComp a b sc c => cases t with
    | Name x p => unfold swapsWith; simp only [hb, kk, e3]; rfl
    | _ => rfl
  | DictComp a b d sc c => cases t with
    | Name x p => unfold swapsWith; simp only [hb, kk, e3]; rfl
    | _ => rfl
  | _ => rfl
def swNames (S : Sx) (ts : List Expr) : List Str := ts.filterMap fun
  | .Name id pos => if (S.sc.names.lookup id == some .local && pos.line == (ts.head?.map (·.pos.line)).getD 0) = true then some id else none
  | _ => none
def swT (S : Sx) (ts vs : List Expr) : Option (Option (List Str)) :=
  if (!(ts.length == 2 || ts.length == 3) || vs.length != ts.length) = true then some none
  else if (vs.any fun | .Starred .. => true | _ => false) = true then some none
  else if ((swNames S ts).length != ts.length || (swNames S ts).eraseDups.length != (swNames S ts).length) = true then some none
  else if vs.all (foldedForSure 8) = true then some none
  else if vs.all (constantsAlone 8) = true then none
  else some (some (swNames S ts))
def swN (S : Sx) (t value : Expr) : Option (Option (List Str)) := match t with
  | .Tuple ts _ _ => (match value with
    | .Tuple vs _ _ => swT S ts vs
    | _ => some none)
  | .Name .. => some none
  | .Subscript .. => some none
  | _ => none
theorem swN_ok {S : Sx} {env : Env} (hs : env.scope = S.sc) (hk : env.scope.kind = .function) {t value : Expr} {o : Option (List Str)} (h : swN S t value = some o) : swappedStores [t] value env = pure o := by
  have hb : env.blockKind = .function := by unfold Env.blockKind; rw [hk]; rfl
  have kk : ∀ x, env.kindOf x = S.sc.names.lookup x := fun x => by unfold Env.kindOf; rw [hs]
  cases t with
  | Name x p => cases h; rfl
  | Subscript a b c => cases h; rfl
  | Tuple ts a b =>
    cases value with
    | Tuple vs c d =>
      have h : swT S ts vs = some o := h
      unfold swT at h
      unfold swappedStores
      simp only [hb, kk]
      by_cases c1 : (!(ts.length == 2 || ts.length == 3) || vs.length != ts.length) = true
      · rw [if_pos c1] at h
        cases h
        have : (!(ts.length == 2 || ts.length == 3) || vs.length != ts.length || ScopeKind.function != ScopeKind.function) = true := by rw [c1]; rfl
        rw [if_pos this]
      · rw [if_neg c1] at h
        have : ¬ (!(ts.length == 2 || ts.length == 3) || vs.length != ts.length || ScopeKind.function != ScopeKind.function) = true := by
          have c1' := Bool.eq_false_iff.mpr c1
          rw [c1']; decide
        refine Eq.trans (if_neg this) ?_
        by_cases c2 : (vs.any fun | .Starred .. => true | _ => false) = true
        · rw [if_pos c2] at h
          cases h
          exact if_pos c2
        · rw [if_neg c2] at h
          refine Eq.trans (if_neg c2) ?_
          by_cases c3 : ((swNames S ts).length != ts.length || (swNames S ts).eraseDups.length != (swNames S ts).length) = true
          · rw [if_pos c3] at h
            cases h
            exact if_pos c3
          · rw [if_neg c3] at h
            refine Eq.trans (if_neg c3) ?_
            by_cases c4 : vs.all (foldedForSure 8) = true
            · rw [if_pos c4] at h
              cases h
              exact if_pos c4
            · rw [if_neg c4] at h
              refine Eq.trans (if_neg c4) ?_
              by_cases c5 : vs.all (constantsAlone 8) = true
              · rw [if_pos c5] at h; cases h
              · rw [if_neg c5] at h
                cases h
                exact if_neg c5
    | _ => cases h; rfl
  | _ => cases h
/-! ### the look -/
def allN (f : E → Expr → Bool) : List Bool → List E → List Expr → Bool
  | [], [], [] => true
  | b :: bs, e :: es, x :: xs => !isStarE e && !isStarX x && f e x && (!b || fresh e) && allN f bs es xs
  | _, _, _ => false
def two? : List Str → Option (Str × Str)
  | [x, y] => some (x, y)
  | _ => none
def mS : Nat → Lk → Sx → S → Stmt → Bool
  | 0, _, _, _, _ => false
  | n + 1, L, S, st, sx => match st with
    | .pass => (match sx with
      | .Pass _ => true
      | _ => false)
    | .ret e => (match sx with
      | .Return (some x) _ => mE n L S e x
      | _ => false)
    | .ite q a b => (match sx with
      | .If x ya yb _ => mE n L S q x && mSs n a ya (mS n L S) && mSs n b yb (mS n L S)
      | _ => false)
    | .for_ t it body => (match sx with
      | .For tx ix bx [] _ => mI (mE n L S) S tx it ix && noSet ix && mT n S t tx && mSs n body bx (mS n L S)
      | _ => false)
    | .whl q body => (match sx with
      | .While x bx [] _ => mE n L S q x && mSs n body bx (mS n L S)
      | _ => false)
    | .aug i o e => (match sx with
      | .AugAssign (.Name x _) p y _ => locB S i x && decide (p = o.op) && (decide (o = .add) || decide (o = .sub)) && mE n L S e y
      | _ => false)
    | .app i e => (match sx with
      | .Expr (.Call (.Attribute (.Name x _) m apos) [y] [] cpos) _ => decide (m = ("append" : Str)) && visB S i x && !isStarX y && (apos.endLine == cpos.line) && mE n L S e y
      | _ => false)
    | .ext i e => (match sx with
      | .Expr (.Call (.Attribute (.Name x _) m apos) [y] [] cpos) _ => decide (m = ("extend" : Str)) && visB S i x && !isStarX y && (apos.endLine == cpos.line) && mE n L S e y
      | _ => false)
    | .pop t j none => (match sx with
      | .Assign [tx] (.Call (.Attribute (.Name x p) m apos) [] [] cpos) _ => decide (m = ("pop" : Str)) && visB S j x && (apos.endLine == cpos.line) && mT n S t tx && !isStarX tx && decide (swN S tx (.Call (.Attribute (.Name x p) m apos) [] [] cpos) = some none)
      | _ => false)
    | .set i k e => (match sx with
      | .Assign [.Subscript (.Name x p) y p2] z _ => visB S i x && !isSliceX y && mE n L S k y && mE n L S e z
      | _ => false)
    | .new i e => (match sx with
      | .Assign [.Name x p] y _ => locB S i x && fresh e && mE n L S e y && (if swB S y (.Name x p) then isLC y && decide (S.sc.names.lookup x = some .local) else true)
      | _ => false)
    | .newD i e => (match sx with
      | .Assign [.Name x p] y _ => locB S i x && fresh e && mE n L S e y && (if swB S y (.Name x p) then isLC y && decide (S.sc.names.lookup x = some .local) else true)
      | _ => false)
    | .dset i k e => (match sx with
      | .Assign [.Subscript (.Name x p) y p2] z _ => visB S i x && !isSliceX y && mE n L S k y && mE n L S e z
      | _ => false)
    | .par is es => (match sx with
      | .Assign [.Tuple ts a b] (.Tuple vs c d) _ => allB (mE n L S) es vs && (match is, ts, vs, swT S ts vs with
        | [i, j], [.Name x _, .Name y _], [_, _], some (some [x', y']) => decide (x = x') && decide (y = y') && decide (S.N[i]? = some x) && decide (S.N[j]? = some y) && decide (i ≠ j) && decide (S.sc.names.lookup x = some .local) && decide (S.sc.names.lookup y = some .local)
        | [i, j, l], [.Name x _, .Name y _, .Name z _], [_, _, _], some (some [x', y', z']) => decide (x = x') && decide (y = y') && decide (z = z') && decide (S.N[i]? = some x) && decide (S.N[j]? = some y) && decide (S.N[l]? = some z) && decide (i ≠ j) && decide (i ≠ l) && decide (j ≠ l) && decide (S.sc.names.lookup x = some .local) && decide (S.sc.names.lookup y = some .local) && decide (S.sc.names.lookup z = some .local)
        | _, _, _, _ => false)
      | _ => false)
    | .parN is ns es => (match sx with
      | .Assign [.Tuple ts a b] (.Tuple vs c d) _ => allN (mE n L S) ns es vs && (match is, ts, vs, swT S ts vs with
        | [i, j], [.Name x _, .Name y _], [_, _], some (some [x', y']) => decide (x = x') && decide (y = y') && decide (S.N[i]? = some x) && decide (S.N[j]? = some y) && decide (i ≠ j) && decide (S.sc.names.lookup x = some .local) && decide (S.sc.names.lookup y = some .local)
        | [i, j, l], [.Name x _, .Name y _, .Name z _], [_, _, _], some (some [x', y', z']) => decide (x = x') && decide (y = y') && decide (z = z') && decide (S.N[i]? = some x) && decide (S.N[j]? = some y) && decide (S.N[l]? = some z) && decide (i ≠ j) && decide (i ≠ l) && decide (j ≠ l) && decide (S.sc.names.lookup x = some .local) && decide (S.sc.names.lookup y = some .local) && decide (S.sc.names.lookup z = some .local)
        | [i, j], [.Name x _, .Name y _], [_, _], some none => locB S i x && locB S j y && !swB S (.Tuple vs c d) (.Tuple ts a b)
        | [i, j, l], [.Name x _, .Name y _, .Name z _], [_, _, _], some none => locB S i x && locB S j y && locB S l z && !swB S (.Tuple vs c d) (.Tuple ts a b)
        | _, _, _, _ => false)
      | _ => false)
    | .asg t e => (match sx with
      | .Assign [tx] y _ => mE n L S e y && mT n S t tx && (if swB S y tx then (match t, tx with
          | .name i, .Name x _ => isLC y && fresh e && decide (S.N[i]? = some x) && decide (S.sc.names.lookup x = some .local)
          | _, _ => false) else !isStarX tx && decide (swN S tx y = some none))
      | _ => false)
    | .mix j i lap => (match sx with
      | .Return (some (.ListComp (.Call (.Attribute (.Name x _) w apos) [z] [] cpos) [⟨tx, ix, [], k⟩] scope _)) _ => decide (k = 0) && decide (w = ("pop" : Str)) && (apos.endLine == cpos.line) && mI (mE n L S) S tx (.rng [.bi .len [.var j]]) ix && blkC S.N S.sc scope (tgOwn S (.name lap)) && noSet ix && mT n (S.blk scope) (.name lap) tx && visB (S.blk scope) j x && !isStarX z && mE n L (S.blk scope) (.pick (.var i) (.bi .len [.var j])) z
      | _ => false)
    | _ => false
where
  mSs (n : Nat) : List S → List Stmt → (S → Stmt → Bool) → Bool
    | [], [], _ => true
    | a :: r, x :: xs, f => f a x && mSs n r xs f
    | _, _, _ => false
section
variable {X : Cx} {G : Gx} {L : Lk} {S : Sx}
theorem mSs_ok {n : Nat} {f : Fz.S → Stmt → Bool} (hf : ∀ s x, f s x = true → PS X x (RdS G s)) : ∀ {a : List Fz.S} {x : List Stmt}, mS.mSs n a x f = true → PSs X x (RdSs G a)
  | [], [], _ => okSs_nil
  | a :: r, x :: xs, m => by
    have m2 := Bool.and_eq_true_iff.mp (show (f a x && mS.mSs n r xs f) = true from m)
    exact okSs_cons (hf _ _ m2.1) (mSs_ok hf m2.2)
  | [], _ :: _, m => by cases m
  | _ :: _, [], m => by cases m
theorem one_assign {tx : Expr} (h : isStarX tx = false) : (assignEach [tx] X.env).map (·.2) = [assign tx X.env] := by rw [assignEach_no h]; rfl
theorem allN_ok {f : E → Expr → Bool} (h : XOk X G L S) (hf : ∀ e ex, f e ex = true → OkX X G e ex) : ∀ {bs : List Bool} {es : List E} {xs : List Expr}, allN f bs es xs = true → PA X xs (RdLN G bs es)
  | [], [], [], _ => okLN_nil
  | b :: bs, e :: es, x :: xs, m => by
    unfold allN at m
    simp only [Bool.and_eq_true, Bool.not_eq_true'] at m
    obtain ⟨⟨⟨⟨m1, m2⟩, m3⟩, m4⟩, m5⟩ := m
    have o := hf e x m3
    exact okLN_cons m1 m2 o.E.V (fun z => o.N (by rw [z] at m4; simpa using m4)) (allN_ok h hf m5)
  | [], [], _ :: _, m => by cases m
  | [], _ :: _, _, m => by cases m
  | _ :: _, [], _, m => by cases m
  | _ :: _, _ :: _, [], m => by cases m
theorem rnA_two {K : PySem.W.Frag} {sp : Addr} {H F' H' : Hp} {b1 b2 : Bool} {xs : List V} {ds : List D} (h : RnA K sp H F' H' [b1, b2] xs ds) : ∃ v w, xs = [v, w] := by
  match xs, ds, h with
  | [v, w], _, _ => exact ⟨v, w, rfl⟩
  | [], [], h => exact h.elim
  | [], _ :: _, h => exact h.elim
  | [_], [_], h => exact h.2.elim
  | [_], _ :: _ :: _, h => exact h.2.elim
  | [_], [], h => exact h.elim
  | _ :: _ :: _ :: _, [_, _], h => exact h.2.2.elim
  | _ :: _ :: _ :: _, _ :: _ :: _ :: _, h => exact h.2.2.elim
  | _ :: _ :: _ :: _, [_], h => exact h.2.elim
  | _ :: _ :: _ :: _, [], h => exact h.elim
theorem rnA_three {K : PySem.W.Frag} {sp : Addr} {H F' H' : Hp} {b1 b2 b3 : Bool} {xs : List V} {ds : List D} (h : RnA K sp H F' H' [b1, b2, b3] xs ds) : ∃ u v w, xs = [u, v, w] := by
  match xs, ds, h with
  | x :: xs, d :: ds, h =>
    obtain ⟨v, w, e⟩ := rnA_two h.2
    exact ⟨x, v, w, by rw [e]⟩
  | [], [], h => exact h.elim
  | [], _ :: _, h => exact h.elim
  | _ :: _, [], h => exact h.elim
theorem two_of {K : PySem.W.Frag} {sp : Addr} {H F' H' : Hp} {b1 b2 : Bool} {xs : List V} {ds : List D} {i j : Nat} {σ : L2.St} {P : L2.St → Prop} (h : RnA K sp H F' H' [b1, b2] xs ds) (q : P (setsX [i, j] xs σ)) : ∃ v w, xs = [v, w] ∧ P ((σ.set i (some v)).set j (some w)) := by
  obtain ⟨v, w, rfl⟩ := rnA_two h
  exact ⟨v, w, rfl, q⟩
theorem three_of {K : PySem.W.Frag} {sp : Addr} {H F' H' : Hp} {b1 b2 b3 : Bool} {xs : List V} {ds : List D} {i j l : Nat} {σ : L2.St} {P : L2.St → Prop} (h : RnA K sp H F' H' [b1, b2, b3] xs ds) (q : P (setsX [i, j, l] xs σ)) : ∃ u v w, xs = [u, v, w] ∧ P (((σ.set i (some u)).set j (some v)).set l (some w)) := by
  obtain ⟨u, v, w, rfl⟩ := rnA_three h
  exact ⟨u, v, w, rfl, q⟩
theorem rdLN_imp {ns : List Bool} {es : List E} {σ : L2.St} {H : Hp} {Q Q' : List V → Hp → Prop} (h : RdLN G ns es σ H Q) (i : ∀ xs F' H' ds, RnA G.K G.sp H F' H' ns xs ds → Q xs H' → Q' xs H') : RdLN G ns es σ H Q' := by
  obtain ⟨g, en, F, s, ds, s', R, off, he, hn, k⟩ := h
  exact ⟨g, en, F, s, ds, s', R, off, he, hn, fun xs F' H' f r nd => i xs F' H' ds r (k xs F' H' f r nd)⟩
theorem mS_ok (hk : S.sc.kind = .function) (h : XOk X G L S) : ∀ (n : Nat) (st : Fz.S) (sx : Stmt), mS n L S st sx = true → PS X sx (RdS G st)
  | 0, _, _, m => by cases m
  | n + 1, st, sx, m => by
    have ih := mS_ok hk h n
    have he := fun e ex => mE_ok (G := G) (L := L) n h e ex
    have hk2 : X.env.scope.kind = .function := by rw [h.sc]; exact hk
    have sw := fun value t l => swB_ok (S := S) (env := X.env) h.sc hk2 value t l
    have sws : ∀ t value l, swB S value t = false → swapsWithSole [t] value l X.env = pure false := fun t v l q => by show swapsWith v (some t) l _ = _; rw [sw, q]
    unfold mS at m
    cases st with
    | pass => cases sx with
      | Pass => exact okS_pass
      | _ => cases m
    | ret e =>
      simp only at m
      split at m
      · exact okS_ret (he _ _ m).E.V
      · cases m
    | mix j i lap =>
      simp only at m
      split at m
      · rename_i x px w apos z cpos tx ix k scope lp rp
        simp only [Bool.and_eq_true, decide_eq_true_eq, Bool.not_eq_true'] at m
        obtain ⟨⟨⟨⟨⟨⟨⟨⟨⟨rfl, rfl⟩, m3⟩, m4⟩, m5⟩, m6⟩, m7⟩, m8⟩, m9⟩, m10⟩ := m
        have bo : BlkOk X.N X.env.scope scope (tgOwn S (.name lap)) := by rw [h.N, h.sc]; exact blkOk_by m5
        have hb := fun s H C cl fp => h.blk s H scope C cl fp
        refine okS_mix h.hK h.calm h.nd (mI_ok (tg := tx) h he m4) bo (tgOwn_slots S (.name lap)) (fun s H C cl fp => mT_ok n (hb s H C cl fp) (.name lap) tx m7) (fun s H C cl fp => ?_) (noSet_ok m6)
        have hx := hb s H C cl fp
        obtain ⟨q1, q2, q3, q4⟩ := visB_ok hx m8
        have pe := pe_bm (cpos := cpos) (apos := apos) PySem.F.plainAttrs_list PySem.F.slot_list_pop PySem.F.type_list_pop mt_popAt (pe_var (pos := px) q1 q2 q3 q4) (pa_cons (mE_ok n hx _ _ m10).E.V pa_nil (starEach_no m9 _ _)) (by rfl) (by rw [starEach_no m9]; rfl) m3 (starEach_no m9 _ _) (by rfl)
        have eK : (X.blk s H scope (compEnvC scope cl C X.env) fp).K = G.K := h.hK
        rw [eK] at pe
        exact pe
      · cases m
    | ite q a b =>
      simp only at m
      split at m
      · simp only [Bool.and_eq_true] at m
        exact okS_ite (he _ _ m.1.1).E.T (mSs_ok ih m.1.2) (mSs_ok ih m.2)
      · cases m
    | for_ t it body =>
      simp only at m
      split at m
      · simp only [Bool.and_eq_true] at m
        obtain ⟨⟨⟨m1, m2⟩, m3⟩, m4⟩ := m
        exact okS_for h.xe h.calm (mI_ok h he m1) (mT_ok n h _ _ m3) (mSs_ok ih m4) (noSet_ok m2)
      · cases m
    | whl q body =>
      simp only at m
      split at m
      · simp only [Bool.and_eq_true] at m
        exact okS_whl h.xe (he _ _ m.1).E.T (mSs_ok ih m.2)
      · cases m
    | aug i o e =>
      simp only at m
      split at m
      · simp only [Bool.and_eq_true, Bool.or_eq_true, decide_eq_true_eq] at m
        obtain ⟨⟨⟨m1, rfl⟩, m3⟩, m4⟩ := m
        obtain ⟨q1, q2, q3⟩ := locB_ok h m1
        exact okS_aug h.nd q1 q2 q3 m3 (he _ _ m4).E.B
      · cases m
    | app i e =>
      simp only at m
      split at m
      · simp only [Bool.and_eq_true, decide_eq_true_eq, Bool.not_eq_true'] at m
        obtain ⟨⟨⟨⟨rfl, m2⟩, m3⟩, m4⟩, m5⟩ := m
        obtain ⟨q1, q2, q3, q4⟩ := visB_ok h m2
        exact okS_app q1 q2 q3 q4 m3 m4 (he _ _ m5).E.V
      · cases m
    | ext i e =>
      simp only at m
      split at m
      · simp only [Bool.and_eq_true, decide_eq_true_eq, Bool.not_eq_true'] at m
        obtain ⟨⟨⟨⟨rfl, m2⟩, m3⟩, m4⟩, m5⟩ := m
        obtain ⟨q1, q2, q3, q4⟩ := visB_ok h m2
        exact okS_ext q1 q2 q3 q4 m3 m4 (he _ _ m5).E.B
      · cases m
    | pop t j k => cases k with
      | some _ => cases m
      | none =>
        simp only at m
        split at m
        · simp only [Bool.and_eq_true, decide_eq_true_eq, Bool.not_eq_true'] at m
          obtain ⟨⟨⟨⟨⟨rfl, m2⟩, m3⟩, m4⟩, m5⟩, m6⟩ := m
          obtain ⟨q1, q2, q3, q4⟩ := visB_ok h m2
          exact okS_pop q1 q2 q3 q4 m3 (mT_ok n h _ _ m4) (sws _ _ _ rfl) (swN_ok h.sc hk2 m6) (one_assign m5)
        · cases m
    | set i k e =>
      simp only at m
      split at m
      · simp only [Bool.and_eq_true, Bool.not_eq_true'] at m
        obtain ⟨⟨⟨m1, m2⟩, m3⟩, m4⟩ := m
        obtain ⟨q1, q2, q3, q4⟩ := visB_ok h m1
        refine okS_set q1 q2 q3 q4 m2 (he _ _ m4).E.V (he _ _ m3).E.B ?_ (swN_ok h.sc hk2 rfl)
        refine sws _ _ _ ?_
        unfold swB
        split
        · rename_i e2; cases e2
        · rfl
      · cases m
    | dset i k e =>
      simp only at m
      split at m
      · simp only [Bool.and_eq_true, Bool.not_eq_true'] at m
        obtain ⟨⟨⟨m1, m2⟩, m3⟩, m4⟩ := m
        obtain ⟨q1, q2, q3, q4⟩ := visB_ok h m1
        refine okS_dset (by have := h.un; omega) q1 q2 q3 q4 m2 (he _ _ m4).E.V (he _ _ m3).E.B ?_ (swN_ok h.sc hk2 rfl)
        refine sws _ _ _ ?_
        unfold swB
        split
        · rename_i e2; cases e2
        · rfl
      · cases m
    | new i e =>
      simp only at m
      split at m
      · rename_i x p y pos
        simp only [Bool.and_eq_true] at m
        obtain ⟨⟨⟨m1, m2⟩, m3⟩, m4⟩ := m
        obtain ⟨q1, q2, q3⟩ := locB_ok h m1
        by_cases q : swB S y (.Name x p) = true
        · rw [if_pos q, Bool.and_eq_true, decide_eq_true_eq] at m4
          obtain ⟨te, t1, t2⟩ := (he _ _ m3).C m4.1 i x p pos q1 (by rw [h.sc]; exact m4.2) (by rw [sw, q])
          exact okS_new t1 t2
        · have q : swB S y (.Name x p) = false := by simpa using q
          exact okS_new (ps_set h.nd q1 q2 ((he _ _ m3).N m2) (by rw [sw, q]) q3) fun _ _ _ z => z
      · cases m
    | newD i e =>
      simp only at m
      split at m
      · rename_i x p y pos
        simp only [Bool.and_eq_true] at m
        obtain ⟨⟨⟨m1, m2⟩, m3⟩, m4⟩ := m
        obtain ⟨q1, q2, q3⟩ := locB_ok h m1
        by_cases q : swB S y (.Name x p) = true
        · rw [if_pos q, Bool.and_eq_true, decide_eq_true_eq] at m4
          obtain ⟨te, t1, t2⟩ := (he _ _ m3).C m4.1 i x p pos q1 (by rw [h.sc]; exact m4.2) (by rw [sw, q])
          exact okS_newD t1 t2
        · have q : swB S y (.Name x p) = false := by simpa using q
          exact okS_newD (ps_set h.nd q1 q2 ((he _ _ m3).N m2) (by rw [sw, q]) q3) fun _ _ _ z => z
      · cases m
    | par is es =>
      simp only at m
      split at m
      · rename_i ts a b vs c d pos
        rw [Bool.and_eq_true] at m
        obtain ⟨m1, m2⟩ := m
        obtain ⟨r1, _, _⟩ := allB_ok h he m1
        split at m2
        · rename_i hsw
          simp only [Bool.and_eq_true, decide_eq_true_eq] at m2
          obtain ⟨⟨⟨⟨⟨⟨rfl, rfl⟩, n1⟩, n2⟩, n3⟩, n4⟩, n5⟩ := m2
          exact okS_par2 (ps_par h.calm h.nd (h.N ▸ n1) (h.N ▸ n2) n3 (h.sc ▸ n4) (h.sc ▸ n5) r1 (swN_ok (S := S) h.sc hk2 hsw)) fun _ _ _ z => z
        · rename_i hsw
          simp only [Bool.and_eq_true, decide_eq_true_eq] at m2
          obtain ⟨⟨⟨⟨⟨⟨⟨⟨⟨⟨⟨rfl, rfl⟩, rfl⟩, n1⟩, n2⟩, n3⟩, n4⟩, n5⟩, n6⟩, n7⟩, n8⟩, n9⟩ := m2
          exact okS_par3 (ps_par3 h.calm h.nd (h.N ▸ n1) (h.N ▸ n2) (h.N ▸ n3) n4 n5 n6 (h.sc ▸ n7) (h.sc ▸ n8) (h.sc ▸ n9) r1 (swN_ok (S := S) h.sc hk2 hsw)) fun _ _ _ z => z
        · cases m2
      · cases m
    | parN is ns es =>
      simp only at m
      split at m
      · rename_i ts a b vs c d pos
        rw [Bool.and_eq_true] at m
        obtain ⟨m1, m2⟩ := m
        have r1 := allN_ok (bs := ns) h he m1
        split at m2
        · rename_i hsw
          simp only [Bool.and_eq_true, decide_eq_true_eq] at m2
          obtain ⟨⟨⟨⟨⟨⟨rfl, rfl⟩, n1⟩, n2⟩, n3⟩, n4⟩, n5⟩ := m2
          refine okS_parN (ps_par h.calm h.nd (h.N ▸ n1) (h.N ▸ n2) n3 (h.sc ▸ n4) (h.sc ▸ n5) r1 (swN_ok (S := S) h.sc hk2 hsw)) fun D σ H z => ?_
          match ns, es, m1, z with
          | [b1, b2], [_, _], _, z => exact rdLN_imp z fun xs F' H' ds r q => two_of (P := fun σ => D.nx σ H') r q
          | [], [], m1, _ => cases m1
          | [], _ :: _, m1, _ => cases m1
          | _ :: _, [], m1, _ => cases m1
          | [_], _ :: _, m1, _ => simp [allN] at m1
          | _ :: _ :: _, [_], m1, _ => simp [allN] at m1
          | _ :: _ :: _ :: _, _ :: _ :: _, m1, _ => simp [allN] at m1
          | [_, _], _ :: _ :: _ :: _, m1, _ => simp [allN] at m1
        · rename_i hsw
          simp only [Bool.and_eq_true, decide_eq_true_eq] at m2
          obtain ⟨⟨⟨⟨⟨⟨⟨⟨⟨⟨⟨rfl, rfl⟩, rfl⟩, n1⟩, n2⟩, n3⟩, n4⟩, n5⟩, n6⟩, n7⟩, n8⟩, n9⟩ := m2
          refine okS_parN (ps_par3 h.calm h.nd (h.N ▸ n1) (h.N ▸ n2) (h.N ▸ n3) n4 n5 n6 (h.sc ▸ n7) (h.sc ▸ n8) (h.sc ▸ n9) r1 (swN_ok (S := S) h.sc hk2 hsw)) fun D σ H z => ?_
          match ns, es, m1, z with
          | [b1, b2, b3], [_, _, _], _, z => exact rdLN_imp z fun xs F' H' ds r q => three_of (P := fun σ => D.nx σ H') r q
          | [], [], m1, _ => cases m1
          | [], _ :: _, m1, _ => cases m1
          | _ :: _, [], m1, _ => cases m1
          | [_], _ :: _, m1, _ => simp [allN] at m1
          | _ :: _ :: _, [_], m1, _ => simp [allN] at m1
          | [_, _], _ :: _ :: _, m1, _ => simp [allN] at m1
          | _ :: _ :: _ :: _, [_, _], m1, _ => simp [allN] at m1
          | _ :: _ :: _ :: _ :: _, _ :: _ :: _ :: _, m1, _ => simp [allN] at m1
          | [_, _, _], _ :: _ :: _ :: _ :: _, m1, _ => simp [allN] at m1
        · rename_i i j x px y py v1 v2 hsw
          simp only [Bool.and_eq_true, Bool.not_eq_true'] at m2
          obtain ⟨⟨n1, n2⟩, n3⟩ := m2
          obtain ⟨q1, q2, q3⟩ := locB_ok h n1
          obtain ⟨r1', r2', r3'⟩ := locB_ok h n2
          exact okS_parC (m := 2) h.calm rfl (by decide) r1 (pgs_cons (pg_name h.nd q1 q2 q3) (pgs_cons (pg_name h.nd r1' r2' r3') pgs_nil)) rfl rfl (sws _ _ _ n3) (swN_ok (S := S) h.sc hk2 hsw) (one_assign rfl)
        · rename_i i j l x px y py z pz v1 v2 v3 hsw
          simp only [Bool.and_eq_true, Bool.not_eq_true'] at m2
          obtain ⟨⟨⟨n1, n2⟩, n4⟩, n3⟩ := m2
          obtain ⟨q1, q2, q3⟩ := locB_ok h n1
          obtain ⟨r1', r2', r3'⟩ := locB_ok h n2
          obtain ⟨t1, t2, t3⟩ := locB_ok h n4
          exact okS_parC (m := 3) h.calm rfl (by decide) r1 (pgs_cons (pg_name h.nd q1 q2 q3) (pgs_cons (pg_name h.nd r1' r2' r3') (pgs_cons (pg_name h.nd t1 t2 t3) pgs_nil))) rfl rfl (sws _ _ _ n3) (swN_ok (S := S) h.sc hk2 hsw) (one_assign rfl)
        · cases m2
      · cases m
    | asg t e =>
      simp only at m
      split at m
      · rename_i tx y pos
        simp only [Bool.and_eq_true] at m
        obtain ⟨⟨m1, m2⟩, m3⟩ := m
        by_cases q : swB S y tx = true
        · rw [if_pos q] at m3
          split at m3
          · rename_i i x p
            simp only [Bool.and_eq_true, decide_eq_true_eq] at m3
            obtain ⟨⟨⟨n1, n2⟩, n3⟩, n4⟩ := m3
            obtain ⟨te, t1, t2⟩ := (he _ _ m1).C n1 i x p pos (h.N ▸ n3) (by rw [h.sc]; exact n4) (by rw [sw, q])
            exact okS_asg t1 (fun _ _ _ z => t2 _ _ _ (V_to_N z)) fun _ _ _ _ z => gName_of z
          · cases m3
        · rw [if_neg q] at m3
          have q : swB S y tx = false := by simpa using q
          rw [Bool.and_eq_true, decide_eq_true_eq, Bool.not_eq_true'] at m3
          exact okS_asg (ps_asg (he _ _ m1).E.V (mT_ok n h _ _ m2) (by show swapsWith y (some tx) _ _ = _; rw [sw, q]) (swN_ok h.sc hk2 m3.2) (one_assign m3.1)) (fun _ _ _ z => z) fun _ _ _ _ z => z
      · cases m
end
end Fz
/-! FzR: a program of defs keeps its promises; a law. -/
namespace Fz
open PySem PySem.Spec PyProof.Rows L2
/-- a def, bound by its name -/
structure Bd (Pg : Program) (w : World) (K : PySem.W.Frag) (mg : Str → Option Value) (base : Heap) (k : Nat) (x : Str) (sp : SpG) : Prop where
  ex : ∃ a fd ps, mg x = some (.ref a) ∧ PySem.W.keepIn K (.ref a) = true ∧ Binds K fd ps [] ∧ FnG Pg w K mg base k a fd ps sp
def scB (N P : List Str) (sc : Scope) : Bool :=
  decide (sc.kind = .function) && !sc.isCoroutine && !sc.isGenerator && decide N.Nodup && decide (N.take P.length = P) && P.all (fun x => decide (sc.names.lookup x = some .local) || decide (sc.names.lookup x = some .cell)) && sc.names.all (fun y => !decide (y.2 = .free))
theorem scB_ok {N P : List Str} {sc : Scope} (h : scB N P sc = true) : FnScope N P sc := by
  unfold scB at h
  simp only [Bool.and_eq_true, Bool.not_eq_true', decide_eq_true_eq, List.all_eq_true, Bool.or_eq_true, decide_eq_false_iff_not] at h
  exact ⟨h.1.1.1.1.1.1, h.1.1.1.1.1.2, h.1.1.1.1.2, h.1.1.1.2, h.1.1.2, h.1.2, h.2⟩
def mDef (n : Nat) (L : Lk) (fn : Fn) (N ps : List Str) (sc : Scope) (body : List Stmt) : Bool :=
  decide (fn.np = ps.length) && decide (fn.nl = N.length) && decide (ps.length ≤ N.length) && scB N ps sc && mS.mSs n fn.body body (mS n L ⟨N, sc, fun _ => true⟩) && (ownL [] fn.body).isSome
theorem callN_succ {v : Bool} {P : List Fn} {n f : Nat} {ds : List D} {s : Src} {r : D × Src} (h : callN v P (n + 1) f ds s = some r) : ∃ fn q s1, P[f]? = some fn ∧ ds.length = fn.np ∧ exL v (callN v P n) fn.body (startEn fn.np fn.nl ds) s = some (q, s1) ∧
    ((∃ en, q = .next en ∧ r = (.none, s1)) ∨ ∃ d, q = .ret d ∧ r = (d, s1)) := by
  have h : (match P[f]? with
    | some fn => if ds.length = fn.np then bnd (exL v (callN v P n) fn.body (startEn fn.np fn.nl ds)) fun q => match q with
        | .next _ => ret PyData.none
        | .ret d => ret d
      else fun _ => none
    | none => fun _ => none) s = some r := h
  cases e : P[f]? with
  | none => rw [e] at h; cases h
  | some fn =>
    rw [e] at h
    have h : (if ds.length = fn.np then bnd (exL v (callN v P n) fn.body (startEn fn.np fn.nl ds)) fun q => match q with
        | .next _ => ret PyData.none
        | .ret d => ret d
      else fun _ => none) s = some r := h
    by_cases hl : ds.length = fn.np
    · rw [if_pos hl] at h
      obtain ⟨q, s1, h1, h2⟩ := bnd_some h
      refine ⟨fn, q, s1, rfl, hl, h1, ?_⟩
      cases q with
      | next en => exact .inl ⟨en, rfl, (Option.some.inj h2).symm⟩
      | ret d => exact .inr ⟨d, rfl, (Option.some.inj h2).symm⟩
    · rw [if_neg hl] at h; cases h
section
variable {Pg : Program} {w : World} {K : PySem.W.Frag} {mg : Str → Option Value} {base : Heap}
theorem ls_start {sp cc : Addr} {F H : Hp} {s : Src} {vs : List V} {ds : List D} {N : List Str} {np nl : Nat} (h1 : Same F H) (h2 : SrcAt sp cc H s) (h3 : F sp = none) (h4 : F cc = none) (ra : RpA K sp F vs ds) (e1 : ds.length = np) (e2 : nl = N.length) (e3 : np ≤ N.length) :
    Ls K sp cc F H [] (startEn np nl ds) (L2.start N vs) F H s := by
  have hl := ra.length
  refine ⟨⟨h1, h2, h3, h4, ?_, fun i d e _ => ?_, fun i hi => (nomatch hi), fun i j a hi => (nomatch hi)⟩, Fw.refl h1 h2, fun i a hi => (nomatch hi)⟩
  · unfold startEn L2.start
    simp only [List.length_append, List.length_map, List.length_replicate]
    omega
  · unfold startEn at e
    rw [List.getD_eq_getElem?_getD] at e
    by_cases hi : i < ds.length
    · rw [List.getElem?_append_left (by simpa using hi), List.getElem?_map] at e
      cases q : ds[i]? with
      | none => rw [q] at e; cases e
      | some d2 =>
        rw [q] at e
        cases e
        obtain ⟨v, e4, r⟩ := ra.get q
        refine ⟨v, ?_, r⟩
        unfold L2.start
        rw [List.getElem?_append_left (by simp; omega), List.getElem?_map, e4]; rfl
    · rw [List.getElem?_append_right (by simp; omega), List.getElem?_replicate] at e
      split at e <;> cases e
/-- a def that reads: return e, its second parameter not kept hold of -/
def mRead (n : Nat) (L : Lk) (fn : Fn) (N ps : List Str) (sc : Scope) (body : List Stmt) : Bool := match fn.body, body with
  | [.ret e], [.Return (some x) _] => decide (fn.np = 2) && decide (ps.length = 2) && decide (fn.nl = N.length) && decide (2 ≤ N.length) && scB N ps sc && mE n L ⟨N, sc, fun _ => true⟩ e x && (lk e).all (fun i => decide (i ≠ 1))
  | _, _ => false
/-- what stands when a def reads a thing that is not frozen -/
theorem rl_read {sp cc : Addr} {F H : Hp} {s : Src} {v1 v2 : V} {d1 d2 : D} {N : List Str} {nl : Nat} (h1 : Same F H) (h2 : SrcAt sp cc H s) (h3 : F sp = none) (h4 : F cc = none) (r1 : Rp K sp F v1 d1) (r2 : Rb K sp cc F H v2 d2) (q : isSeq d2 = true) (e2 : nl = N.length) (e3 : 2 ≤ N.length) :
    ∃ g, (∀ i ∈ g, i = 1) ∧ Rl K sp cc g (startEn 2 nl [d1, d2]) (L2.start N [v1, v2]) F H s := by
  have len : (startEn 2 nl [d1, d2]).length = (L2.start N [v1, v2]).length := by
    unfold startEn L2.start
    simp only [List.length_append, List.length_map, List.length_replicate, List.length_cons, List.length_nil]
    omega
  have rest : ∀ i d, 2 ≤ i → (startEn 2 nl [d1, d2]).getD i none ≠ some d := fun i d hi z => by
    unfold startEn at z
    rw [List.getD_eq_getElem?_getD, List.getElem?_append_right (by simpa using hi), List.getElem?_replicate] at z
    split at z <;> cases z
  have frozen : Rp K sp F v2 d2 → ∃ g, (∀ i ∈ g, i = 1) ∧ Rl K sp cc g (startEn 2 nl [d1, d2]) (L2.start N [v1, v2]) F H s := fun r => by
    refine ⟨[], (fun i hi => nomatch hi), h1, h2, h3, h4, len, fun i d e _ => ?_, fun i hi => (nomatch hi), fun i j a hi => (nomatch hi)⟩
    match i, e with
    | 0, e => cases e; exact ⟨v1, rfl, r1⟩
    | 1, e => cases e; exact ⟨v2, rfl, r⟩
    | i + 2, e => exact absurd e (rest _ _ (by omega))
  cases d2 with
  | list ds =>
    obtain ⟨a, vs, rfl, hH, n1, n2, ra⟩ := r2
    cases fa : F a with
    | some o =>
      have := h1 _ _ fa
      rw [hH] at this
      cases this
      exact frozen (.lst fa ra)
    | none =>
      refine ⟨[1], (fun i hi => List.mem_singleton.mp hi), h1, h2, h3, h4, len, fun i d e n => ?_, fun i hi d e => ?_, fun i j a hi hj _ _ _ _ => by rw [List.mem_singleton.mp hi, List.mem_singleton.mp hj]⟩
      · match i, e, n with
        | 0, e, _ => cases e; exact ⟨v1, rfl, r1⟩
        | 1, _, n => exact absurd (List.mem_singleton.mpr rfl) n
        | i + 2, e, _ => exact absurd e (rest _ _ (by omega))
      · obtain rfl := List.mem_singleton.mp hi
        cases e
        exact ⟨a, .lst vs, rfl, hH, fa, ra, n1, n2⟩
  | tuple ds => exact frozen r2
  | _ => cases q
theorem xo_of {v : Bool} {P : List Fn} {L : Lk} (fx : ∀ x ∈ frees, mg x = none) (pk : Bd Pg w K mg base 1 L.pick (spPick v)) {n : Nat} {x : Str} {scope : Scope} {a sp cc : Addr} {N : List Str} {cdv : Value} {A : Around} {outer : List Env} {s : Shared} {H : Hp} (nd : N.Nodup)
    (ih : ∀ f x, L.fns[f]? = some x → Bd Pg w K mg base (n + 2) x (spCall K (callN v P n) f)) (ir : ∀ f x, f ∈ L.rd → L.fns[f]? = some x → Bd Pg w K mg base (n + 2) x (spRead K (callN v P n) f)) (hr : Room (n + 2) (A.deeper (envOfC x scope s.heap.objs.size a cdv)))
    (hgu : (A.deeper (envOfC x scope s.heap.objs.size a cdv)).guards = some []) : XOk (cxOf CX0 Pg w K mg base N x scope a cdv A outer s H E0).nox ⟨K, sp, cc, v, callN v P n⟩ L ⟨N, scope, fun _ => true⟩ := {
  hK := rfl, N := rfl, nd := nd, sc := rfl, fn := fun _ _ => rfl, calm := rfl, gu := hgu, un := (by have := hr.un; show (A.deeper (envOfC x scope s.heap.objs.size a cdv)).units + 70 < cLine; omega), xe := rfl, free := fx
  call := fun f x e => by
    obtain ⟨a, fd, ps, q1, q2, q3, q4⟩ := (ih f x e).ex
    exact ⟨a, fd, ps, n + 2, q1, q2, q3, q4, hr⟩
  pick := by
    obtain ⟨a, fd, ps, q1, q2, q3, q4⟩ := pk.ex
    exact ⟨a, fd, ps, 1, q1, q2, q3, q4, hr.mono (by omega)⟩
  read := fun f x m e => by
    obtain ⟨a, fd, ps, q1, q2, q3, q4⟩ := (ir f x m e).ex
    exact ⟨a, fd, ps, n + 2, q1, q2, q3, q4, hr⟩ }
theorem read_step {v : Bool} {P : List Fn} {L : Lk} {m : Nat} (fx : ∀ x ∈ frees, mg x = none) (pk : Bd Pg w K mg base 1 L.pick (spPick v)) {n f : Nat} {x : Str} {fn : Fn} {params : Arguments} {body : List Stmt} {scope : Scope} {a : Addr} {fd : FuncData} {N ps : List Str}
    (ih : ∀ f x, L.fns[f]? = some x → Bd Pg w K mg base (n + 2) x (spCall K (callN v P n) f)) (ir : ∀ f x, f ∈ L.rd → L.fns[f]? = some x → Bd Pg w K mg base (n + 2) x (spRead K (callN v P n) f)) (hP : P[f]? = some fn) (F : L2.FunD K x x params body scope [] [] a fd) (hm : mRead m L fn N ps scope body = true) :
    FnG Pg w K mg base (n + 3) a fd ps (spRead K (callN v P (n + 1)) f) := by
  unfold mRead at hm
  split at hm
  · rename_i e ex pos eb
    simp only [Bool.and_eq_true, decide_eq_true_eq] at hm
    obtain ⟨⟨⟨⟨⟨⟨m1, m2⟩, m3⟩, m4⟩, m5⟩, m6⟩, m7⟩ := hm
    have S := scB_ok m5
    refine funD_okG F S (fun vs H Q ⟨sp, cc, F1, v1, v2, d1, d2, s, d, s', ev, _⟩ => by rw [ev, m2]; rfl) fun cdv A outer s H vs Q hr hgu ⟨sp, cc, F1, v1, v2, d1, d2, sr, d, s', ev, h1, h2, h3, h4, r1, r2, q, hc, k⟩ => ?_
    subst ev
    obtain ⟨fn2, q2, s1, e1, e2, e3, e4⟩ := callN_succ hc
    rw [hP] at e1
    cases e1
    have xo := xo_of (cdv := cdv) (A := A) (outer := outer) (s := s) (H := H) (sp := sp) (cc := cc) (x := x) (scope := scope) (a := a) (N := N) fx pk S.nd ih ir hr hgu
    rw [eb, m1] at e3
    obtain ⟨g, g1, R⟩ := rl_read (N := N) h1 h2 h3 h4 r1 r2 q m3 m4
    have he : ∃ d', evE v (callN v P n) e (startEn 2 fn.nl [d1, d2]) sr = some (d', s1) ∧ q2 = .ret d' := by
      obtain ⟨q3, s3, t1, t2⟩ := bnd_some (show bnd (exS v (callN v P n) (.ret e) (startEn 2 fn.nl [d1, d2])) _ sr = some (q2, s1) from e3)
      obtain ⟨d', s4, t3, t4⟩ := bnd_some t1
      obtain ⟨rfl, rfl⟩ := ret_some t4
      obtain ⟨rfl, rfl⟩ := ret_some t2
      exact ⟨d', t3, rfl⟩
    obtain ⟨d', he, rfl⟩ := he
    have off : Off g (lk e) := fun i hi hg => by
      have := List.all_eq_true.mp m7 i hi
      exact (of_decide_eq_true this) (g1 i hg)
    rcases e4 with ⟨en, z, _⟩ | ⟨d3, z, e5⟩
    · cases z
    · cases z
      cases e5
      exact ⟨_, pss_one (ps_ret (mE_ok (S := ⟨N, scope, fun _ => true⟩) m xo e ex m6).E.V), g, _, F1, sr, d, s', R, off, he, k⟩
  · cases hm
theorem prog_step {v : Bool} {P : List Fn} {L : Lk} {m : Nat} (fx : ∀ x ∈ frees, mg x = none) (pk : Bd Pg w K mg base 1 L.pick (spPick v)) {n f : Nat} {x : Str} {fn : Fn} {params : Arguments} {body : List Stmt} {scope : Scope} {a : Addr} {fd : FuncData} {N ps : List Str}
    (ih : ∀ f x, L.fns[f]? = some x → Bd Pg w K mg base (n + 2) x (spCall K (callN v P n) f)) (ir : ∀ f x, f ∈ L.rd → L.fns[f]? = some x → Bd Pg w K mg base (n + 2) x (spRead K (callN v P n) f)) (hP : P[f]? = some fn) (F : L2.FunD K x x params body scope [] [] a fd) (hm : mDef m L fn N ps scope body = true) :
    FnG Pg w K mg base (n + 3) a fd ps (spCall K (callN v P (n + 1)) f) := by
  unfold mDef at hm
  simp only [Bool.and_eq_true, decide_eq_true_eq] at hm
  obtain ⟨⟨⟨⟨⟨m1, m2⟩, m3⟩, m4⟩, m5⟩, m6⟩ := hm
  have S := scB_ok m4
  refine funD_okG F S (fun vs H Q ⟨sp, cc, F1, ds, s, d, s', _, _, _, _, ra, hc, _⟩ => ?_) fun cdv A outer s H vs Q hr hgu ⟨sp, cc, F1, ds, sr, d, s', h1, h2, h3, h4, ra, hc, k⟩ => ?_
  · obtain ⟨fn2, _, _, e1, e2, _⟩ := callN_succ hc
    rw [hP] at e1
    cases e1
    rw [ra.length, e2, m1]
  · obtain ⟨fn2, q, s1, e1, e2, e3, e4⟩ := callN_succ hc
    rw [hP] at e1
    cases e1
    obtain ⟨g', hg'⟩ := Option.isSome_iff_exists.mp m6
    have xo := xo_of (cdv := cdv) (A := A) (outer := outer) (s := s) (H := H) (sp := sp) (cc := cc) (x := x) (scope := scope) (a := a) (N := N) fx pk S.nd ih ir hr hgu
    refine ⟨_, mSs_ok (fun st sx z => mS_ok (S := ⟨N, scope, fun _ => true⟩) S.kind xo m st sx z) m5, F1, H, [], _, F1, sr, q, s1, g', ls_start h1 h2 h3 h4 ra e2 m2 (m1 ▸ m3), hg', e3, ?_⟩
    rcases e4 with ⟨en, rfl, e5⟩ | ⟨d2, rfl, e5⟩
    · cases e5
      exact fun σ2 F' H' sm L2 => k .non F' H' L2.W .non
    · cases e5
      exact fun x F' H' f r => k x F' H' f r
/-- what is told of each def -/
abbrev Tells (Pg : Program) (w : World) (K : PySem.W.Frag) (mg : Str → Option Value) (base : Heap) (P : List Fn) (L : Lk) (m : Nat) : Prop := ∀ (f : Nat) (x : Str), L.fns[f]? = some x → ∃ (fn : Fn) (params : Arguments) (body : List Stmt) (scope : Scope) (a : Addr) (fd : FuncData) (N ps : List Str),
  P[f]? = some fn ∧ mg x = some (.ref a) ∧ L2.FunD K x x params body scope [] [] a fd ∧ Binds K fd ps [] ∧ mDef m L fn N ps scope body = true ∧ (f ∈ L.rd → mRead m L fn N ps scope body = true)
theorem prog_all {v : Bool} {P : List Fn} {L : Lk} {m : Nat} (fx : ∀ x ∈ frees, mg x = none) (pk : Bd Pg w K mg base 1 L.pick (spPick v)) (ds : Tells Pg w K mg base P L m) :
    ∀ n, (∀ f x, L.fns[f]? = some x → Bd Pg w K mg base (n + 2) x (spCall K (callN v P n) f)) ∧ ∀ f x, f ∈ L.rd → L.fns[f]? = some x → Bd Pg w K mg base (n + 2) x (spRead K (callN v P n) f)
  | 0 => by
    refine ⟨fun f x e => ?_, fun f x _ e => ?_⟩
    · obtain ⟨fn, params, body, scope, a, fd, N, ps, q1, q2, q3, q4, q5, _⟩ := ds f x e
      exact ⟨a, fd, ps, q2, q3.kp, q4, ⟨fun vs H Q ⟨_, _, _, _, _, _, _, _, _, _, _, _, z, _⟩ => (by cases z), fun A outer s H given us vs Q _ _ _ _ _ ⟨_, _, _, _, _, _, _, _, _, _, _, _, z, _⟩ => (by cases z)⟩⟩
    · obtain ⟨fn, params, body, scope, a, fd, N, ps, q1, q2, q3, q4, q5, _⟩ := ds f x e
      exact ⟨a, fd, ps, q2, q3.kp, q4, ⟨fun vs H Q ⟨_, _, _, _, _, _, _, _, _, _, _, _, _, _, _, _, _, _, z, _⟩ => (by cases z), fun A outer s H given us vs Q _ _ _ _ _ ⟨_, _, _, _, _, _, _, _, _, _, _, _, _, _, _, _, _, _, z, _⟩ => (by cases z)⟩⟩
  | n + 1 => by
    obtain ⟨i1, i2⟩ := prog_all fx pk ds n
    refine ⟨fun f x e => ?_, fun f x hr e => ?_⟩
    · obtain ⟨fn, params, body, scope, a, fd, N, ps, q1, q2, q3, q4, q5, _⟩ := ds f x e
      exact ⟨a, fd, ps, q2, q3.kp, q4, prog_step fx pk i1 i2 q1 q3 q5⟩
    · obtain ⟨fn, params, body, scope, a, fd, N, ps, q1, q2, q3, q4, _, q6⟩ := ds f x e
      exact ⟨a, fd, ps, q2, q3.kp, q4, read_step fx pk i1 i2 q1 q3 (q6 hr)⟩
/-! ### the law -/
def spLaw (K : PySem.W.Frag) : SpG := fun vs H Q => ∃ (a : Addr) (ns : List Int), vs = [.ref a] ∧ SqL K H a (ns.map V.int) ∧ ns.length ≤ 1000 ∧ ∀ H', Q (.bl true) H'
/-- the law's rest says yes, whatever the source -/
def Says (v : Bool) (c : Cl) (rest : List S) (nl : Nat) : Prop := ∀ s : Src, ∃ s', exL v c rest (none :: some srcD :: List.replicate nl none) s = some (.ret (.bool true), s')
def RdA (K : PySem.W.Frag) (v : Bool) (c : Cl) (rest : List S) : TS := fun D σ H => ∃ sp cc, RdSs ⟨K, sp, cc, v, c⟩ rest D σ H
def mLaw (m : Nat) (L : Lk) (src : Str) (rest : List S) (N : List Str) (nl : Nat) (sc : Scope) (body : List Stmt) : Bool := match body with
  | .Assign [.Name y py] (.Call (.Name z _) [.Name x _] [] _) _ :: r => decide (N = x :: y :: N.drop 2) && decide (N.length = nl + 2) && scB N (N.take 1) sc && decide (z = src) && decide (sc.names.lookup z = some .globalImplicit) && !(z == ("__debug__" : Str)) && !(x == ("__debug__" : Str)) && !(x == ("__classdict__" : Str)) &&
      (decide (sc.names.lookup y = some .local) || decide (sc.names.lookup y = some .cell)) && mS.mSs m rest r (mS m L ⟨N, sc, fun _ => true⟩) && (ownL [] rest).isSome
  | _ => false
theorem law_ok {v : Bool} {P : List Fn} {L : Lk} {m n nl : Nat} {src x : Str} {rest : List S} (fx : ∀ x ∈ frees, mg x = none) (pk : Bd Pg w K mg base 1 L.pick (spPick v)) (so : Bd Pg w K mg base 1 src (spSrc K))
    (hA : (∀ f x, L.fns[f]? = some x → Bd Pg w K mg base (n + 2) x (spCall K (callN v P n) f)) ∧ ∀ f x, f ∈ L.rd → L.fns[f]? = some x → Bd Pg w K mg base (n + 2) x (spRead K (callN v P n) f)) {params : Arguments} {body : List Stmt} {scope : Scope} {a : Addr} {fd : FuncData} {N : List Str} (F : L2.FunD K x x params body scope [] [] a fd)
    (hm : mLaw m L src rest N nl scope body = true) (says : Says v (callN v P n) rest nl) : FnG Pg w K mg base (n + 3) a fd (N.take 1) (spLaw K) := by
  unfold mLaw at hm
  split at hm
  · rename_i y py z pz x2 px pc pa r
    simp only [Bool.and_eq_true, Bool.or_eq_true, decide_eq_true_eq, Bool.not_eq_true'] at hm
    obtain ⟨⟨⟨⟨⟨⟨⟨⟨⟨⟨m1, m2⟩, m3⟩, m4⟩, m5⟩, m6⟩, m7⟩, m8⟩, m9⟩, m10⟩, m11⟩ := hm
    have S := scB_ok m3
    have t1 : N.take 1 = [x2] := by rw [m1]; rfl
    refine funD_okG F S (fun vs H Q ⟨a, ns, e, _⟩ => by rw [e, t1]; rfl) fun cdv A outer s H vs Q hr hgu ⟨ad, ns, e, hs, hl, k⟩ => ?_
    subst e
    obtain ⟨g', hg'⟩ := Option.isSome_iff_exists.mp m11
    have X0 : Cx := (cxOf CX0 Pg w K mg base N x scope a cdv A outer s H E0).nox
    have xo : ∀ sp cc, XOk (cxOf CX0 Pg w K mg base N x scope a cdv A outer s H E0).nox ⟨K, sp, cc, v, callN v P n⟩ L ⟨N, scope, fun _ => true⟩ := fun sp cc =>
      xo_of (cdv := cdv) (A := A) (outer := outer) (s := s) (H := H) (sp := sp) (cc := cc) (x := x) (scope := scope) (a := a) (N := N) fx pk S.nd hA.1 hA.2 hr hgu
    obtain ⟨as, fds, pss, s1, s2, s3, s4⟩ := so.ex
    have n0 : (cxOf CX0 Pg w K mg base N x scope a cdv A outer s H E0).nox.N[0]? = some x2 := by show N[0]? = _; rw [m1]; rfl
    have n1 : (cxOf CX0 Pg w K mg base N x scope a cdv A outer s H E0).nox.N[1]? = some y := by show N[1]? = _; rw [m1]; rfl
    have vx : Vis (cxOf CX0 Pg w K mg base N x scope a cdv A outer s H E0).nox.env.scope x2 := (S.par x2 (by rw [t1]; exact List.mem_singleton.mpr rfl)).elim .inl fun z => .inr (.inl z)
    have pe := pe_callG (pos := pc) (p := pz) (X := (cxOf CX0 Pg w K mg base N x scope a cdv A outer s H E0).nox) s4 (hr.mono (by omega)) hgu (show Gl _ z from m5) (by rw [m4]; exact s1) s2 s3 (pa_cons (pe_var (pos := px) n0 vx m7 m8) pa_nil (by rfl)) m6 (by rfl) (by rfl)
    have rs : PSs (cxOf CX0 Pg w K mg base N x scope a cdv A outer s H E0).nox r (RdA K v (callN v P n) rest) := ⟨fun pins st σ H1 D I ⟨sp, cc, q⟩ => (mSs_ok (fun st sx z => mS_ok (S := ⟨N, scope, fun _ => true⟩) S.kind (xo sp cc) m st sx z) m10).run pins st σ H1 D I q⟩
    refine ⟨_, pss_cons (ps_set (pos' := py) S.nd n1 m9 pe (by rfl) (.inl rfl)) rs, .ref ad, rfl, ad, ns, rfl, hs, hl, fun sp cc sr H' e1 e2 sm q => ⟨sp, cc, ?_⟩⟩
    obtain ⟨s', hx⟩ := says sr
    have len : (none :: some srcD :: List.replicate nl none : En).length = ((L2.start N [V.ref ad]).set 1 (some (V.ref sp))).length := by
      rw [List.length_set]
      unfold L2.start
      simp only [List.length_cons, List.length_replicate, List.length_append, List.length_map, List.length_nil]
      omega
    refine ⟨fun _ => none, H', [], _, fun _ => none, sr, _, s', g', ⟨⟨fun b o z => (by cases z), q, rfl, rfl, len, fun i d ei _ => ?_, fun i hi => (nomatch hi), fun i j b hi => (nomatch hi)⟩, Fw.refl (fun b o z => (by cases z)) q, fun i b hi => (nomatch hi)⟩, hg', hx, fun xv F' H2 f rx => ?_⟩
    · rw [List.getD_eq_getElem?_getD] at ei
      match i, ei with
      | 0, ei => cases ei
      | 1, ei =>
        cases ei
        refine ⟨.ref sp, ?_, .src⟩
        rw [List.getElem?_set_self (by rw [List.length_set] at len; rw [← len]; simp)]
      | i + 2, ei =>
        simp only [List.getElem?_cons_succ, List.getElem?_replicate] at ei
        split at ei <;> cases ei
    · cases rx
      exact k H2
  · cases hm
end
end Fz
/-! FzW: how to show that plain code says what it should. -/
namespace Fz
open PySem
def Wp {α : Type} (x : M α) (s : Src) (Q : α → Src → Prop) : Prop := ∃ a s', x s = some (a, s') ∧ Q a s'
section
variable {α β : Type} {s : Src} {v : Bool} {c : Cl} {en : En}
theorem Wp.mono {x : M α} {Q R : α → Src → Prop} (h : Wp x s Q) (f : ∀ a s', Q a s' → R a s') : Wp x s R := let ⟨a, s', e, q⟩ := h; ⟨a, s', e, f a s' q⟩
theorem wp_ret {a : α} {Q : α → Src → Prop} (q : Q a s) : Wp (ret a) s Q := ⟨a, s, rfl, q⟩
theorem wp_bnd {x : M α} {f : α → M β} {Q : β → Src → Prop} (h : Wp x s fun a s1 => Wp (f a) s1 Q) : Wp (bnd x f) s Q := by
  obtain ⟨a, s1, e, b, s2, e2, q⟩ := h
  refine ⟨b, s2, ?_, q⟩
  unfold bnd
  rw [e]; exact e2
theorem wp_lift {x : Option α} {a : α} {Q : α → Src → Prop} (e : x = some a) (q : Q a s) : Wp (lift x) s Q := ⟨a, s, by rw [e]; rfl, q⟩
/-- what does not look at the source -/
theorem wp_pure {x : M α} {a : α} {Q : α → Src → Prop} (h : ∀ s, x s = some (a, s)) (q : Q a s) : Wp x s Q := ⟨a, s, h s, q⟩
def After (Q : Rs → Src → Prop) (k : En → Src → Prop) : Rs → Src → Prop := fun r s1 => match r with
  | .next en2 => k en2 s1
  | .ret d => Q (.ret d) s1
theorem wp_nil {Q : Rs → Src → Prop} (q : Q (.next en) s) : Wp (exL v c [] en) s Q := ⟨_, _, rfl, q⟩
theorem wp_cons {st : S} {r : List S} {Q : Rs → Src → Prop} (h : Wp (exS v c st en) s (After Q fun en2 s1 => Wp (exL v c r en2) s1 Q)) : Wp (exL v c (st :: r) en) s Q := by
  obtain ⟨q, s1, e, h2⟩ := h
  cases q with
  | next en2 =>
    obtain ⟨a, s2, e2, q⟩ := h2
    refine ⟨a, s2, ?_, q⟩
    show bnd (exS v c st en) _ s = _
    unfold bnd
    rw [e]; exact e2
  | ret d =>
    refine ⟨.ret d, s1, ?_, h2⟩
    show bnd (exS v c st en) _ s = _
    unfold bnd
    rw [e]; rfl
theorem wp_asg {t : Tg} {e : E} {Q : Rs → Src → Prop} (h : Wp (evE v c e en) s fun d s1 => ∃ en2, tgSet t d en = some en2 ∧ Q (.next en2) s1) : Wp (exS v c (.asg t e) en) s Q :=
  wp_bnd (h.mono fun d s1 ⟨en2, e2, q⟩ => wp_bnd (wp_lift e2 (wp_ret q)))
theorem wp_name {i : Nat} {e : E} {Q : Rs → Src → Prop} (h : Wp (evE v c e en) s fun d s1 => Q (.next (en.set i (some d))) s1) : Wp (exS v c (.asg (.name i) e) en) s Q := wp_asg (h.mono fun d s1 q => ⟨_, rfl, q⟩)
theorem wp_op {o : O2} {a b : E} {Q : D → Src → Prop} (h : Wp (evE v c a en) s fun x s1 => Wp (evE v c b en) s1 fun y s2 => ∃ d, op2 o x y = some d ∧ Q d s2) : Wp (evE v c (.op o a b) en) s Q :=
  wp_bnd (h.mono fun x s1 h1 => wp_bnd (h1.mono fun y s2 ⟨d, e, q⟩ => wp_lift e q))
theorem wp_idx {a b : E} {Q : D → Src → Prop} (h : Wp (evE v c a en) s fun x s1 => Wp (evE v c b en) s1 fun y s2 => ∃ d, idxV x y = some d ∧ Q d s2) : Wp (evE v c (.idx a b) en) s Q :=
  wp_bnd (h.mono fun x s1 h1 => wp_bnd (h1.mono fun y s2 ⟨d, e, q⟩ => wp_lift e q))
theorem wp_ite {q a b : E} {Q : D → Src → Prop} (h : Wp (evE v c q en) s fun x s1 => ∃ t, truth x = some t ∧ Wp (if t then evE v c a en else evE v c b en) s1 Q) : Wp (evE v c (.ite q a b) en) s Q :=
  wp_bnd (h.mono fun x s1 ⟨t, e, h1⟩ => wp_bnd (wp_lift e h1))
theorem wp_if {q : E} {a b : List S} {Q : Rs → Src → Prop} (h : Wp (evE v c q en) s fun x s1 => ∃ t, truth x = some t ∧ Wp (if t then exL v c a en else exL v c b en) s1 Q) : Wp (exS v c (.ite q a b) en) s Q :=
  wp_bnd (h.mono fun x s1 ⟨t, e, h1⟩ => wp_bnd (wp_lift e h1))
theorem wp_retE {e : E} {Q : Rs → Src → Prop} (h : Wp (evE v c e en) s fun d s1 => Q (.ret d) s1) : Wp (exS v c (.ret e) en) s Q := wp_bnd (h.mono fun d s1 q => wp_ret q)
theorem wp_forL {body : D → En → M Rs} {Q : Rs → Src → Prop} (I : Nat → En → Prop) : ∀ (xs : List D) (k : Nat) (en : En) (s : Src), I k en →
    (∀ i x en s, xs[i]? = some x → I (k + i) en → Wp (body x en) s fun r s' => ∃ en2, r = .next en2 ∧ I (k + i + 1) en2) → (∀ en s, I (k + xs.length) en → Q (.next en) s) → Wp (forL body xs en) s Q
  | [], k, en, s, h0, hs, hd => ⟨_, _, rfl, hd en s h0⟩
  | x :: r, k, en, s, h0, hs, hd => by
    refine wp_bnd ((hs 0 x en s rfl h0).mono fun q s1 ⟨en2, e, h1⟩ => ?_)
    subst e
    have len : k + 1 + r.length = k + (x :: r).length := by rw [List.length_cons]; omega
    refine wp_forL I r (k + 1) en2 s1 h1 (fun i y en s hy hi => ?_) (fun en s h => hd en s (len ▸ h))
    have e : k + 1 + i = k + (i + 1) := by omega
    rw [e] at hi ⊢
    exact hs (i + 1) y en s (by simpa using hy) hi
theorem wp_for {t : Tg} {it : E} {body : List S} {Q : Rs → Src → Prop} {xs : List D} (I : Nat → En → Prop) (h : Wp (evE v c it en) s fun d s1 => seqOf d = some xs ∧ I 0 en)
    (hs : ∀ i x en s, xs[i]? = some x → I i en → ∃ en1, tgSet t x en = some en1 ∧ Wp (exL v c body en1) s fun r s' => ∃ en2, r = .next en2 ∧ I (i + 1) en2) (hd : ∀ en s, I xs.length en → Q (.next en) s) : Wp (exS v c (.for_ t it body) en) s Q := by
  refine wp_bnd (h.mono fun d s1 ⟨e, h0⟩ => wp_bnd (wp_lift e (wp_forL I xs 0 en s1 h0 (fun i x en s hx hi => ?_) fun en s hi => hd en s (by simpa using hi))))
  rw [Nat.zero_add] at hi ⊢
  obtain ⟨en1, e1, h1⟩ := hs i x en s hx hi
  exact wp_bnd (wp_lift e1 h1)
theorem drain_pos : ∀ (cs : List Int) (l : Int), True := fun _ _ => trivial
theorem pickS_lt (v : Bool) (s : Src) (m : Int) (hm : 0 < m) : 0 ≤ (pickS v s m).1 ∧ (pickS v s m).1 < m := by
  unfold pickS
  by_cases h : m < 2
  · rw [if_pos h]
    cases v with
    | true => exact ⟨Int.le_refl _, hm⟩
    | false => exact ⟨Int.le_refl _, hm⟩
  · rw [if_neg h]
    generalize drain s.cells s.left = p
    obtain ⟨cs, l⟩ := p
    simp only
    by_cases h2 : l > 1
    · rw [if_pos h2]
      exact ⟨Int.emod_nonneg _ (by omega), Int.emod_lt_of_pos _ hm⟩
    · rw [if_neg h2]
      exact ⟨Int.emod_nonneg _ (by omega), Int.emod_lt_of_pos _ hm⟩
theorem wp_pickV {a b : E} {m : Int} {Q : D → Src → Prop} (ha : ∀ s, evE v c a en s = some (srcD, s)) (hb : ∀ s, evE v c b en s = some (.int m, s)) (hm : 0 < m) (hl : m < 1073741824) (k : ∀ (x : Int) (s' : Src), 0 ≤ x → x < m → Q (.int x) s') : Wp (evE v c (.pick a b) en) s Q := by
  refine wp_bnd ⟨_, _, ha s, wp_bnd ⟨_, _, hb s, ?_⟩⟩
  obtain ⟨h1, h2⟩ := pickS_lt v s m hm
  refine ⟨.int (pickS v s m).1, (pickS v s m).2, ?_, k _ _ h1 h2⟩
  show (if m < 1073741824 then some (PyData.int (pickS v s m).1, (pickS v s m).2) else none) = _
  rw [if_pos hl]
theorem forL_append {body : D → En → M Rs} : ∀ (xs ys : List D) (en en2 : En) (s s2 : Src), forL body xs en s = some (.next en2, s2) → forL body (xs ++ ys) en s = forL body ys en2 s2
  | [], ys, en, en2, s, s2, h => by cases h; rfl
  | x :: r, ys, en, en2, s, s2, h => by
    have h2 : bnd (body x en) (fun q => match q with
      | .next en2 => forL body r en2
      | .ret d => ret (.ret d)) s = some (.next en2, s2) := h
    show bnd (body x en) (fun q => match q with
      | .next en2 => forL body (r ++ ys) en2
      | .ret d => ret (.ret d)) s = _
    unfold bnd at h2 ⊢
    cases e : body x en s with
    | none => rw [e] at h2; cases h2
    | some p =>
      obtain ⟨q, s1⟩ := p
      rw [e] at h2
      cases q with
      | next en1 => exact forL_append r ys en1 en2 s1 s2 h2
      | ret d => cases h2
theorem exL_append : ∀ (a b : List S) (en en2 : En) (s s2 : Src), exL v c a en s = some (.next en2, s2) → exL v c (a ++ b) en s = exL v c b en2 s2
  | [], b, en, en2, s, s2, h => by cases h; rfl
  | x :: a, b, en, en2, s, s2, h => by
    have h2 : bnd (exS v c x en) (fun q => match q with
      | .next en2 => exL v c a en2
      | .ret d => ret (.ret d)) s = some (.next en2, s2) := h
    show bnd (exS v c x en) (fun q => match q with
      | .next en2 => exL v c (a ++ b) en2
      | .ret d => ret (.ret d)) s = _
    unfold bnd at h2 ⊢
    cases e : exS v c x en s with
    | none => rw [e] at h2; cases h2
    | some p =>
      obtain ⟨q, s1⟩ := p
      rw [e] at h2
      cases q with
      | next en1 => exact exL_append a b en1 en2 s1 s2 h2
      | ret d => cases h2
theorem wp_step {st : S} {r : List S} {en2 : En} {Q : Rs → Src → Prop} (h : ∀ s, exS v c st en s = some (.next en2, s)) (k : Wp (exL v c r en2) s Q) : Wp (exL v c (st :: r) en) s Q := wp_cons (wp_pure h k)
theorem wp_steps {a b : List S} {en2 : En} {Q : Rs → Src → Prop} (h : ∀ s, exL v c a en s = some (.next en2, s)) (k : Wp (exL v c b en2) s Q) : Wp (exL v c (a ++ b) en) s Q := by
  obtain ⟨r, s2, e, q⟩ := k
  exact ⟨r, s2, (exL_append a b en en2 s s (h s)).trans e, q⟩
end
end Fz
/-! FzV: code that does not pick does not look at the source. -/
namespace Fz
open PySem
/-- the same at every source, which stays -/
def Ind {α : Type} (x : M α) : Prop := ∀ s a s', x s = some (a, s') → s' = s ∧ ∀ t, x t = some (a, t)
section
variable {α β : Type}
theorem ind_ret {a : α} : Ind (ret a) := fun s b s' h => by cases h; exact ⟨rfl, fun _ => rfl⟩
theorem ind_lift {a : Option α} : Ind (lift a) := fun s b s' h => by
  cases a with
  | none => cases h
  | some a => cases h; exact ⟨rfl, fun _ => rfl⟩
theorem ind_none : Ind (fun _ => none : M α) := fun s b s' h => by cases h
theorem ind_bnd {x : M α} {f : α → M β} (h : Ind x) (g : ∀ a, Ind (f a)) : Ind (bnd x f) := fun s b s' e => by
  unfold bnd at e
  cases q : x s with
  | none => rw [q] at e; cases e
  | some p =>
    obtain ⟨a, s1⟩ := p
    rw [q] at e
    obtain ⟨h1, h2⟩ := h s a s1 q
    subst h1
    obtain ⟨g1, g2⟩ := g a s1 b s' e
    refine ⟨g1, fun t => ?_⟩
    unfold bnd
    rw [h2 t]
    exact g2 t
theorem ind_ite {c : Prop} [Decidable c] {x y : M α} (h : Ind x) (g : Ind y) : Ind (if c then x else y) := by
  by_cases q : c
  · rw [if_pos q]; exact h
  · rw [if_neg q]; exact g
theorem ind_mapL {f : D → M (Option D)} (h : ∀ d, Ind (f d)) : ∀ xs, Ind (mapL f xs)
  | [] => ind_ret
  | x :: r => ind_bnd (h x) fun y => ind_bnd (ind_mapL h r) fun ys => ind_ret
theorem ind_catL {f : D → M (List D)} (h : ∀ d, Ind (f d)) : ∀ xs, Ind (catL f xs)
  | [] => ind_ret
  | x :: r => ind_bnd (h x) fun y => ind_bnd (ind_catL h r) fun ys => ind_ret
theorem ind_forL {f : D → En → M Rs} (h : ∀ d en, Ind (f d en)) : ∀ xs en, Ind (forL f xs en)
  | [], en => ind_ret
  | x :: r, en => ind_bnd (h x en) fun q => by
    cases q with
    | next en2 => exact ind_forL h r en2
    | ret d => exact ind_ret
theorem ind_whlL {t : En → M Bool} {b : En → M Rs} (h : ∀ en, Ind (t en)) (g : ∀ en, Ind (b en)) : ∀ n en, Ind (whlL t b n en)
  | 0, en => ind_none
  | n + 1, en => ind_bnd (h en) fun q => ind_ite (ind_bnd (g en) fun r => by
      cases r with
      | next en2 => exact ind_whlL h g n en2
      | ret d => exact ind_ret) ind_ret
end
section
variable (pf : Nat → Bool)
mutual
def npE : E → Bool
  | .op _ a b => npE a && npE b
  | .neg a => npE a
  | .not a => npE a
  | .and a b => npE a && npE b
  | .or a b => npE a && npE b
  | .ite q a b => npE q && npE a && npE b
  | .cmp _ a b => npE a && npE b
  | .chain _ _ a b c => npE a && npE b && npE c
  | .tup es => npL es
  | .lst es => npL es
  | .star a => npE a
  | .idx a b => npE a && npE b
  | .slc a lo hi => npE a && npO lo && npO hi
  | .rev a => npE a
  | .call f args => pf f && npL args
  | .pick _ _ => false
  | .bi _ args => npL args
  | .meth _ a b => npE a && npE b
  | .isi a _ => npE a
  | .rng args => npL args
  | .enum a => npE a
  | .zip a b _ => npE a && npE b
  | .comp _ it ifs elt => npE it && npO ifs && npE elt
  | .comp2 _ it _ it2 elt => npE it && npE it2 && npE elt
  | .dps a => npE a
  | .dzip a b _ => npE a && npE b
  | .dcp _ it ifs k w => npE it && npO ifs && npE k && npE w
  | .dget a k x => npE a && npE k && npE x
  | .disp ps => npL ps
  | .keys a => npE a
  | .read f a b => pf f && npE a && npE b
  | _ => true
def npL : List E → Bool
  | [] => true
  | e :: r => npE e && npL r
def npO : Option E → Bool
  | none => true
  | some e => npE e
end
mutual
def npS : S → Bool
  | .asg _ e => npE pf e
  | .new _ e => npE pf e
  | .newD _ e => npE pf e
  | .dset _ k e => npE pf k && npE pf e
  | .par _ es => npL pf es
  | .parN _ _ es => npL pf es
  | .app _ e => npE pf e
  | .ext _ e => npE pf e
  | .pop _ _ k => npO pf k
  | .set _ k e => npE pf k && npE pf e
  | .aug _ _ e => npE pf e
  | .ret e => npE pf e
  | .ite q a b => npE pf q && npSs a && npSs b
  | .for_ _ it body => npE pf it && npSs body
  | .whl q body => npE pf q && npSs body
  | .pass => true
  | .mix _ _ _ => false
def npSs : List S → Bool
  | [] => true
  | s :: r => npS s && npSs r
end
end
section
variable {v : Bool} {c : Cl} {pf : Nat → Bool} (hc : ∀ f ds, pf f = true → Ind (c f ds))
include hc
mutual
theorem indE : ∀ (e : E) (en : En), npE pf e = true → Ind (evE v c e en)
  | .non, en, _ => ind_ret
  | .bl _, en, _ => ind_ret
  | .int _, en, _ => ind_ret
  | .str _, en, _ => ind_ret
  | .var i, en, _ => ind_lift
  | .op o a b, en, h => by
    have h := Bool.and_eq_true_iff.mp (show (npE pf a && npE pf b) = true from h)
    exact ind_bnd (indE a en h.1) fun x => ind_bnd (indE b en h.2) fun y => ind_lift
  | .neg a, en, h => ind_bnd (indE a en h) fun x => ind_lift
  | .not a, en, h => ind_bnd (indE a en h) fun x => ind_lift
  | .and a b, en, h => by
    have h := Bool.and_eq_true_iff.mp (show (npE pf a && npE pf b) = true from h)
    exact ind_bnd (indE a en h.1) fun x => ind_bnd ind_lift fun t => ind_ite (indE b en h.2) ind_ret
  | .or a b, en, h => by
    have h := Bool.and_eq_true_iff.mp (show (npE pf a && npE pf b) = true from h)
    exact ind_bnd (indE a en h.1) fun x => ind_bnd ind_lift fun t => ind_ite ind_ret (indE b en h.2)
  | .ite q a b, en, h => by
    have h := Bool.and_eq_true_iff.mp (show ((npE pf q && npE pf a) && npE pf b) = true from h)
    have g := Bool.and_eq_true_iff.mp h.1
    exact ind_bnd (indE q en g.1) fun x => ind_bnd ind_lift fun t => ind_ite (indE a en g.2) (indE b en h.2)
  | .cmp o a b, en, h => by
    have h := Bool.and_eq_true_iff.mp (show (npE pf a && npE pf b) = true from h)
    exact ind_bnd (indE a en h.1) fun x => ind_bnd (indE b en h.2) fun y => ind_lift
  | .chain o1 o2 a b q, en, h => by
    have h := Bool.and_eq_true_iff.mp (show ((npE pf a && npE pf b) && npE pf q) = true from h)
    have g := Bool.and_eq_true_iff.mp h.1
    exact ind_bnd (indE a en g.1) fun x => ind_bnd (indE b en g.2) fun y => ind_bnd ind_lift fun t => ind_ite (ind_bnd (indE q en h.2) fun z => ind_lift) ind_ret
  | .tup es, en, h => ind_bnd (indL es en h) fun ds => ind_lift
  | .lst es, en, h => ind_bnd (indL es en h) fun ds => ind_lift
  | .star a, en, h => ind_none
  | .idx a b, en, h => by
    have h := Bool.and_eq_true_iff.mp (show (npE pf a && npE pf b) = true from h)
    exact ind_bnd (indE a en h.1) fun x => ind_bnd (indE b en h.2) fun y => ind_lift
  | .slc a lo hi, en, h => by
    have h := Bool.and_eq_true_iff.mp (show ((npE pf a && npO pf lo) && npO pf hi) = true from h)
    have g := Bool.and_eq_true_iff.mp h.1
    exact ind_bnd (indE a en g.1) fun x => ind_bnd (indO lo en g.2) fun y => ind_bnd (indO hi en h.2) fun z => ind_lift
  | .rev a, en, h => ind_bnd (indE a en h) fun x => ind_lift
  | .call f args, en, h => by
    have h := Bool.and_eq_true_iff.mp (show (pf f && npL pf args) = true from h)
    exact ind_bnd (indL args en h.2) fun ds => hc f ds h.1
  | .pick _ _, en, h => by cases h
  | .bi b args, en, h => ind_bnd (indL args en h) fun ds => ind_lift
  | .meth m a b, en, h => by
    have h := Bool.and_eq_true_iff.mp (show (npE pf a && npE pf b) = true from h)
    exact ind_bnd (indE a en h.1) fun x => ind_bnd (indE b en h.2) fun y => ind_lift
  | .isi a _, en, h => ind_bnd (indE a en h) fun x => ind_ret
  | .rng args, en, h => ind_bnd (indL args en h) fun ds => ind_lift
  | .enum a, en, h => ind_bnd (indE a en h) fun x => ind_lift
  | .zip a b _, en, h => by
    have h := Bool.and_eq_true_iff.mp (show (npE pf a && npE pf b) = true from h)
    exact ind_bnd (indE a en h.1) fun x => ind_bnd (indE b en h.2) fun y => ind_lift
  | .comp t it ifs elt, en, h => by
    have h := Bool.and_eq_true_iff.mp (show ((npE pf it && npO pf ifs) && npE pf elt) = true from h)
    have g := Bool.and_eq_true_iff.mp h.1
    exact ind_bnd (indE it en g.1) fun x => ind_bnd ind_lift fun xs => ind_bnd (ind_mapL (fun d => ind_bnd ind_lift fun en2 => ind_bnd (indT ifs en2 g.2) fun ok => ind_ite (ind_bnd (indE elt en2 h.2) fun y => ind_ret) ind_ret) xs) fun ys => ind_lift
  | .comp2 t it t2 it2 elt, en, h => by
    have h := Bool.and_eq_true_iff.mp (show ((npE pf it && npE pf it2) && npE pf elt) = true from h)
    have g := Bool.and_eq_true_iff.mp h.1
    exact ind_bnd (indE it en g.1) fun x => ind_bnd ind_lift fun xs => ind_bnd (ind_catL (fun d => ind_bnd ind_lift fun en2 => ind_bnd (indE it2 en2 g.2) fun x2 => ind_bnd ind_lift fun xs2 => ind_mapL (fun d2 => ind_bnd ind_lift fun en3 => ind_bnd (indE elt en3 h.2) fun y => ind_ret) xs2) xs) fun ys => ind_lift
  | .dps a, en, h => ind_bnd (indE a en h) fun x => ind_lift
  | .dzip a b _, en, h => by
    have h := Bool.and_eq_true_iff.mp (show (npE pf a && npE pf b) = true from h)
    exact ind_bnd (indE a en h.1) fun x => ind_bnd (indE b en h.2) fun y => ind_lift
  | .dcp t it ifs k w, en, h => by
    have h := Bool.and_eq_true_iff.mp (show (((npE pf it && npO pf ifs) && npE pf k) && npE pf w) = true from h)
    have g := Bool.and_eq_true_iff.mp h.1
    have g2 := Bool.and_eq_true_iff.mp g.1
    exact ind_bnd (indE it en g2.1) fun x => ind_bnd ind_lift fun xs => ind_bnd (ind_mapL (fun d => ind_bnd ind_lift fun en2 => ind_bnd (indT ifs en2 g2.2) fun ok => ind_ite (ind_bnd (indE k en2 g.2) fun y => ind_bnd (indE w en2 h.2) fun z => ind_ret) ind_ret) xs) fun ys => ind_lift
  | .dget a k x, en, h => by
    have h := Bool.and_eq_true_iff.mp (show ((npE pf a && npE pf k) && npE pf x) = true from h)
    have g := Bool.and_eq_true_iff.mp h.1
    exact ind_bnd (indE a en g.1) fun d => ind_bnd (indE k en g.2) fun y => ind_bnd (indE x en h.2) fun z => ind_lift
  | .dnew, en, _ => ind_ret
  | .disp ps, en, h => ind_bnd (indL ps en h) fun ds => ind_lift
  | .keys a, en, h => ind_bnd (indE a en h) fun x => ind_lift
  | .read f a b, en, h => by
    have h := Bool.and_eq_true_iff.mp (show ((pf f && npE pf a) && npE pf b) = true from h)
    have g := Bool.and_eq_true_iff.mp h.1
    exact ind_bnd (indE a en g.2) fun x => ind_bnd (indE b en h.2) fun y => ind_ite (hc f _ g.1) ind_none
theorem indL : ∀ (es : List E) (en : En), npL pf es = true → Ind (evL v c es en)
  | [], en, _ => ind_ret
  | e :: r, en, h => by
    have h := Bool.and_eq_true_iff.mp (show (npE pf e && npL pf r) = true from h)
    have hr := indL r en h.2
    by_cases q : ∃ a, e = .star a
    · obtain ⟨a, rfl⟩ := q
      exact ind_bnd (indE a en h.1) fun x => ind_bnd ind_lift fun xs => ind_bnd hr fun ys => ind_ret
    · have e2 : evL v c (e :: r) en = bnd (evE v c e en) fun x => bnd (evL v c r en) fun ys => ret (x :: ys) := by
        cases e <;> first | rfl | exact absurd ⟨_, rfl⟩ q
      rw [e2]
      exact ind_bnd (indE e en h.1) fun x => ind_bnd hr fun ys => ind_ret
theorem indO : ∀ (e : Option E) (en : En), npO pf e = true → Ind (evO v c e en)
  | none, en, _ => ind_ret
  | some e, en, h => ind_bnd (indE e en h) fun x => ind_ret
theorem indT : ∀ (e : Option E) (en : En), npO pf e = true → Ind (evT v c e en)
  | none, en, _ => ind_ret
  | some e, en, h => ind_bnd (indE e en h) fun x => ind_lift
end
mutual
theorem indS : ∀ (st : S) (en : En), npS pf st = true → Ind (exS v c st en)
  | .asg t e, en, h => ind_bnd (indE hc e en h) fun d => ind_bnd ind_lift fun en2 => ind_ret
  | .new i e, en, h => ind_bnd (indE hc e en h) fun d => by
      cases d <;> first | exact ind_ret | exact ind_none
  | .newD i e, en, h => ind_bnd (indE hc e en h) fun d => by
      cases d <;> first | exact ind_ite ind_ret ind_none | exact ind_none
  | .dset i k e, en, h => by
    have h := Bool.and_eq_true_iff.mp (show (npE pf k && npE pf e) = true from h)
    exact ind_bnd (indE hc e en h.2) fun d => ind_bnd (indE hc k en h.1) fun kd => ind_bnd ind_lift fun kvs => ind_ite ind_ret ind_none
  | .par is es, en, h => ind_bnd (indL hc es en h) fun ds => ind_bnd ind_lift fun en2 => ind_ret
  | .parN is ns es, en, h => ind_bnd (indL hc es en h) fun ds => ind_ite (ind_bnd ind_lift fun en2 => ind_ret) ind_none
  | .app i e, en, h => ind_bnd (indE hc e en h) fun d => ind_bnd ind_lift fun xs => ind_ite ind_ret ind_none
  | .ext i e, en, h => ind_bnd (indE hc e en h) fun d => ind_bnd ind_lift fun xs => by
      cases d <;> first | exact ind_ite ind_ret ind_none | exact ind_none
  | .pop t j k, en, h => ind_bnd (indO hc k en h) fun kd => ind_bnd ind_lift fun xs => ind_bnd ind_lift fun p => ind_bnd ind_lift fun en2 => ind_ret
  | .set i k e, en, h => by
    have h := Bool.and_eq_true_iff.mp (show (npE pf k && npE pf e) = true from h)
    refine ind_bnd (indE hc e en h.2) fun d => ind_bnd (indE hc k en h.1) fun kd => ind_bnd ind_lift fun xs => ?_
    cases kd with
    | int z =>
      show Ind (match L2.ixN xs.length z with
        | some j => ret (Rs.next (en.set i (some (PyData.list (xs.set j d)))))
        | none => fun _ => none)
      cases L2.ixN xs.length z with
      | some j => exact ind_ret
      | none => exact ind_none
    | _ => exact ind_none
  | .aug i o e, en, h => ind_bnd ind_lift fun x => ind_bnd (indE hc e en h) fun y => ind_bnd ind_lift fun z => ind_ret
  | .ret e, en, h => ind_bnd (indE hc e en h) fun d => ind_ret
  | .ite q a b, en, h => by
    have h := Bool.and_eq_true_iff.mp (show ((npE pf q && npSs pf a) && npSs pf b) = true from h)
    have g := Bool.and_eq_true_iff.mp h.1
    exact ind_bnd (indE hc q en g.1) fun x => ind_bnd ind_lift fun t => ind_ite (indSs a en g.2) (indSs b en h.2)
  | .for_ t it body, en, h => by
    have h := Bool.and_eq_true_iff.mp (show (npE pf it && npSs pf body) = true from h)
    exact ind_bnd (indE hc it en h.1) fun x => ind_bnd ind_lift fun xs => ind_forL (fun d en2 => ind_bnd ind_lift fun en3 => indSs body en3 h.2) xs en
  | .whl q body, en, h => by
    have h := Bool.and_eq_true_iff.mp (show (npE pf q && npSs pf body) = true from h)
    show Ind (whlL (fun en2 => bnd (evE v c q en2) fun x => lift (truth x)) (fun en2 => exL v c body en2) wFuel en)
    exact ind_whlL (fun en2 => ind_bnd (indE hc q en2 h.1) fun x => ind_lift) (fun en2 => indSs body en2 h.2) wFuel en
  | .pass, en, _ => ind_ret
  | .mix _ _ _, en, h => by cases (show false = true from h)
theorem indSs : ∀ (sts : List S) (en : En), npSs pf sts = true → Ind (exL v c sts en)
  | [], en, _ => ind_ret
  | s :: r, en, h => by
    have h := Bool.and_eq_true_iff.mp (show (npS pf s && npSs pf r) = true from h)
    refine ind_bnd (indS s en h.1) fun q => ?_
    cases q with
    | next en2 => exact indSs r en2 h.2
    | ret d => exact ind_ret
end
end
theorem ind_callN {v : Bool} {P : List Fn} {pf : Nat → Bool} (hP : ∀ f fn, P[f]? = some fn → pf f = true → npSs pf fn.body = true) : ∀ (n f : Nat) (ds : List D), pf f = true → Ind (callN v P n f ds)
  | 0, f, ds, _ => ind_none
  | n + 1, f, ds, h => by
    show Ind (match P[f]? with
      | some fn => if ds.length = fn.np then bnd (exL v (callN v P n) fn.body (startEn fn.np fn.nl ds)) fun q => match q with
          | .next _ => ret PyData.none
          | .ret d => ret d
        else fun _ => none
      | none => fun _ => none)
    cases e : P[f]? with
    | none => exact ind_none
    | some fn => exact ind_ite (ind_bnd (indSs (fun f ds z => ind_callN hP n f ds z) fn.body _ (hP f fn e h)) fun q => by
        cases q <;> exact ind_ret) ind_none
/-- what holds at one source -/
theorem Ind.all {α : Type} {x : M α} (h : Ind x) {s : Src} {a : α} {s' : Src} (e : x s = some (a, s')) : ∀ t, x t = some (a, t) := (h s a s' e).2
theorem hP_of {P : List Fn} {pf : Nat → Bool} (h : ((List.range P.length).all fun f => !pf f || (match P[f]? with
    | some fn => npSs pf fn.body
    | none => true)) = true) : ∀ f fn, P[f]? = some fn → pf f = true → npSs pf fn.body = true := fun f fn e hf => by
  have lt : f < P.length := (List.getElem?_eq_some_iff.mp e).1
  have := List.all_eq_true.mp h f (List.mem_range.mpr lt)
  rw [hf, e] at this
  simpa using this
/-- a source to run at -/
def src0 : Src := ⟨[], 1, 0, 0⟩
/-- a run that ends by next, or by an answer -/
def runs (x : M Rs) (en : En → Bool) : Bool := match x src0 with
  | some (.next e, _) => en e
  | _ => false
theorem wp_callN {v : Bool} {P : List Fn} {n f : Nat} {fn : Fn} {ds : List D} {s : Src} {Q : D → Src → Prop} (hP : P[f]? = some fn) (hl : ds.length = fn.np)
    (h : Wp (exL v (callN v P n) fn.body (startEn fn.np fn.nl ds)) s fun q s1 => match q with
      | .next _ => Q .none s1
      | .ret d => Q d s1) : Wp (callN v P (n + 1) f ds) s Q := by
  obtain ⟨q, s1, e, k⟩ := h
  have e2 : callN v P (n + 1) f ds s = bnd (exL v (callN v P n) fn.body (startEn fn.np fn.nl ds)) (fun q => match q with
      | .next _ => ret PyData.none
      | .ret d => ret d) s := by
    show (match P[f]? with
      | some fn => if ds.length = fn.np then bnd (exL v (callN v P n) fn.body (startEn fn.np fn.nl ds)) fun q => match q with
          | .next _ => ret PyData.none
          | .ret d => ret d
        else fun _ => none
      | none => fun _ => none) s = _
    rw [hP]
    show (if ds.length = fn.np then bnd (exL v (callN v P n) fn.body (startEn fn.np fn.nl ds)) fun q => match q with
        | .next _ => ret PyData.none
        | .ret d => ret d
      else fun _ => none) s = _
    rw [if_pos hl]
  cases q with
  | next en => exact ⟨_, s1, e2.trans (by unfold bnd; rw [e]; rfl), k⟩
  | ret d => exact ⟨_, s1, e2.trans (by unfold bnd; rw [e]; rfl), k⟩
end Fz
/-! FzX: more of the plain calculus: a choice out of a list, tuples of two, tables of conditions. -/
namespace Fz
open PySem
section
variable {v : Bool} {c : Cl} {en : En} {s : Src}
theorem idxV_nat {xs : List D} {i : Nat} {d : D} (h : xs[i]? = some d) : idxV (.list xs) (.int (i : Int)) = some d := by
  have lt : i < xs.length := (List.getElem?_eq_some_iff.mp h).1
  show (L2.ixN xs.length (i : Int)).bind (fun j => xs[j]?) = some d
  have e : L2.ixN xs.length (i : Int) = some i := by
    unfold L2.ixN
    rw [if_pos (Int.natCast_nonneg i), if_pos (by omega)]
    rfl
  rw [e]; exact h
/-- `some[_law_pick(source, len(some))]` -/
theorem wp_of {xs : List D} {Q : D → Src → Prop} (hx : 0 < xs.length) (hl : xs.length < 1073741824) (k : ∀ (i : Nat) (d : D) (s : Src), xs[i]? = some d → Q d s) :
    Wp (exL v c [.ret (.idx (.var 1) (.pick (.var 0) (.bi .len [.var 1])))] [some srcD, some (.list xs)]) s fun q s1 => match q with
      | .next _ => Q .none s1
      | .ret d => Q d s1 := by
  refine wp_cons (wp_retE (wp_idx (wp_pure (a := .list xs) (fun s => rfl) (wp_pickV (m := (xs.length : Int)) (fun s => rfl) (fun s => ?_) (by omega) (by omega) fun x s1 h0 h1 => ?_))))
  · rfl
  · obtain ⟨i, rfl⟩ := Int.eq_ofNat_of_zero_le h0
    have lt : i < xs.length := by omega
    exact ⟨xs[i], idxV_nat (List.getElem?_eq_getElem lt), k i xs[i] s1 (List.getElem?_eq_getElem lt)⟩
theorem wp_tup2 {a b : E} {Q : D → Src → Prop} (e : evL v c [a, b] en = bnd (evE v c a en) fun x => bnd (bnd (evE v c b en) fun y => bnd (ret []) fun ys => ret (y :: ys)) fun ys => ret (x :: ys))
    (h : Wp (evE v c a en) s fun x s1 => Wp (evE v c b en) s1 fun y s2 => Q (.tuple [x, y]) s2) : Wp (evE v c (.tup [a, b]) en) s Q := by
  refine wp_bnd (x := evL v c [a, b] en) ?_
  rw [e]
  exact wp_bnd (h.mono fun x s1 h1 => wp_bnd (wp_bnd (h1.mono fun y s2 q => wp_bnd (wp_ret (wp_ret (wp_ret (wp_lift rfl q)))))))
/-- a condition is not met -/
def noC (x : M D) : Bool := match x src0 with
  | some (.bool false, _) => true
  | _ => false
theorem noC_all {x : M D} (i : Ind x) (h : noC x = true) : ∀ s, x s = some (.bool false, s) := by
  unfold noC at h
  cases e : x src0 with
  | none => rw [e] at h; cases h
  | some p =>
    obtain ⟨d, s1⟩ := p
    rw [e] at h
    cases d with
    | bool b => cases b with
      | false => exact i.all e
      | true => cases h
    | _ => cases h
theorem wp_no {q : E} {a r : List S} {Q : Rs → Src → Prop} (h : ∀ s, evE v c q en s = some (.bool false, s)) (k : Wp (exL v c r en) s Q) : Wp (exL v c (.ite q a [] :: r) en) s Q := by
  refine wp_cons (wp_if (wp_pure h ⟨false, rfl, ?_⟩))
  rw [if_neg Bool.false_ne_true]
  exact wp_nil k
theorem exL_at {st : S} {r : List S} {en2 : En} {s2 : Src} (h : exS v c st en s = some (.next en2, s2)) : exL v c (st :: r) en s = exL v c r en2 s2 := by
  show bnd (exS v c st en) _ s = _
  unfold bnd
  rw [h]
theorem exS_for_at {t : Tg} {it : E} {body : List S} {d : D} {xs : List D} {s1 : Src} (h : evE v c it en s = some (d, s1)) (hs : seqOf d = some xs) :
    exS v c (.for_ t it body) en s = forL (fun d en2 => bnd (lift (tgSet t d en2)) fun en3 => exL v c body en3) xs en s1 := by
  show bnd (evE v c it en) _ s = _
  unfold bnd
  rw [h]
  show bnd (lift (seqOf d)) _ s1 = _
  rw [hs]; rfl
end
end Fz
/-! FzY: runs that leave the source as it is, as equations; products; greatest divisors; what is shown. -/
namespace Fz
open PySem
section
variable {α β : Type}
theorem bnd_ret (a : α) (f : α → M β) : bnd (ret a) f = f a := rfl
theorem lift_ok (a : α) : lift (some a) = ret a := rfl
theorem bnd_assoc {γ : Type} (x : M α) (f : α → M β) (g : β → M γ) : bnd (bnd x f) g = bnd x fun a => bnd (f a) g := by
  funext s
  unfold bnd
  cases x s <;> rfl
theorem eq_ret {x : M α} {a : α} (h : ∀ s, x s = some (a, s)) : x = ret a := funext h
theorem wp_eq {x : M α} {a : α} {s : Src} {Q : α → Src → Prop} (h : x = ret a) (q : Q a s) : Wp x s Q := ⟨a, s, by rw [h]; rfl, q⟩
end
theorem log2_lt {n k : Nat} (h : n < 2 ^ k) (hk : 0 < k) : n.log2 < k := by
  rcases Nat.eq_zero_or_pos n with e | e
  · subst e; simpa using hk
  · exact (Nat.log2_lt (by omega)).mpr h
theorem mul_ok {i j : Int} (hi : i.natAbs < 2 ^ 250) (hj : j.natAbs < 2 ^ 250) : mulOk i j = true := by
  have h1 := log2_lt hi (by decide)
  have h2 := log2_lt hj (by decide)
  unfold mulOk
  exact decide_eq_true (by omega)
theorem op2_mul {i j : Int} (hi : i.natAbs < 2 ^ 250) (hj : j.natAbs < 2 ^ 250) : op2 .mul (.int i) (.int j) = some (.int (i * j)) := by
  show (if mulOk i j then _ else _) = _
  rw [if_pos (mul_ok hi hj)]
theorem op2_mod {i j : Int} (h : 0 < j) : op2 .mod (.int i) (.int j) = some (.int (i % j)) := by
  show (if decide (j ≠ 0) then _ else _) = _
  rw [if_pos (decide_eq_true (by omega)), Int.fmod_eq_emod_of_nonneg _ (by omega)]
theorem op2_fdiv {i j : Int} (h : 0 < j) (hj : j.natAbs < 2 ^ 250) : op2 .fdiv (.int i) (.int j) = some (.int (i / j)) := by
  show (if divOk j then _ else _) = _
  have h2 := log2_lt hj (by decide)
  have e : divOk j = true := by
    unfold divOk
    rw [Bool.and_eq_true]
    exact ⟨decide_eq_true (by omega), decide_eq_true (by omega)⟩
  rw [if_pos e, Int.fdiv_eq_ediv_of_nonneg _ (by omega)]
theorem gcd_em (a b : Int) : Int.gcd b (a % b) = Int.gcd a b := by
  have h := Int.gcd_add_mul_left_left b (a % b) (a / b)
  rw [Int.emod_add_mul_ediv] at h
  rw [Int.gcd_comm, ← h]
/-- Euclid's walk -/
theorem whl_gcd {test : En → M Bool} {body : En → M Rs} (f : Int → Int → En) (ht : ∀ a b, 0 ≤ b → test (f a b) = ret (decide (b ≠ 0))) (hb : ∀ a b, 0 < b → body (f a b) = ret (.next (f b (a % b)))) :
    ∀ (n m : Nat) (a b : Int), 0 ≤ b → b < 2 ^ n → whlL test body (2 * n + 1 + m) (f a b) = ret (.next (f (if b = 0 then a else (Int.gcd a b : Int)) 0)) := by
  have stop : ∀ (k : Nat) (a : Int), whlL test body (k + 1) (f a 0) = ret (.next (f a 0)) := fun k a => by
    show bnd (test (f a 0)) _ = _
    rw [ht a 0 (by omega), bnd_ret]
    rfl
  have go : ∀ (k : Nat) (a b : Int), 0 < b → whlL test body (k + 1) (f a b) = whlL test body k (f b (a % b)) := fun k a b h => by
    show bnd (test (f a b)) _ = _
    rw [ht a b (by omega), bnd_ret]
    rw [if_pos (decide_eq_true (by omega)), hb a b h, bnd_ret]
  intro n
  induction n with
  | zero =>
    intro m a b h0 h1
    have e : b = 0 := by
      have : (2 : Int) ^ 0 = 1 := rfl
      omega
    subst e
    have e2 : 2 * 0 + 1 + m = m + 1 := by omega
    rw [e2, stop, if_pos rfl]
  | succ n ih =>
    intro m a b h0 h1
    by_cases hb0 : b = 0
    · subst hb0
      have e2 : 2 * (n + 1) + 1 + m = (2 * n + 2 + m) + 1 := by omega
      rw [e2, stop, if_pos rfl]
    · rw [if_neg hb0]
      have pb : 0 < b := by omega
      have e2 : 2 * (n + 1) + 1 + m = (2 * n + 1 + m + 1) + 1 := by omega
      rw [e2, go _ a b pb]
      have r0 := Int.emod_nonneg a hb0
      have r1 := Int.emod_lt_of_pos a pb
      have g1 : Int.gcd a b = Int.gcd b (a % b) := (gcd_em a b).symm
      by_cases hr : a % b = 0
      · have e3 : 2 * n + 1 + m + 1 = (2 * n + 1 + m) + 1 := rfl
        rw [hr, e3, stop, g1, hr, Int.gcd_zero_right]
        have : ((b.natAbs : Nat) : Int) = b := by omega
        rw [this]
      · have pr : 0 < a % b := by omega
        rw [go _ b (a % b) pr]
        have s0 := Int.emod_nonneg b hr
        have s1 := Int.emod_lt_of_pos b pr
        have half : b % (a % b) < 2 ^ n := by
          have q := Int.emod_add_mul_ediv b (a % b)
          have qd : 1 ≤ b / (a % b) := by
            rw [Int.le_ediv_iff_mul_le pr]; omega
          have qm : (a % b) * 1 ≤ (a % b) * (b / (a % b)) := Int.mul_le_mul_of_nonneg_left qd (by omega)
          have pw : (2 : Int) ^ (n + 1) = 2 * 2 ^ n := by rw [Int.pow_succ]; omega
          omega
        rw [ih m (a % b) (b % (a % b)) s0 half]
        have g2 : Int.gcd b (a % b) = Int.gcd (a % b) (b % (a % b)) := (gcd_em b (a % b)).symm
        rw [g1]
        by_cases hs : b % (a % b) = 0
        · rw [if_pos hs, g2, hs, Int.gcd_zero_right]
          have : (((a % b).natAbs : Nat) : Int) = a % b := by omega
          rw [this]
        · rw [if_neg hs, g2]
theorem whl_fuel {test : En → M Bool} {body : En → M Rs} (f : Int → Int → En) (ht : ∀ a b, 0 ≤ b → test (f a b) = ret (decide (b ≠ 0))) (hb : ∀ a b, 0 < b → body (f a b) = ret (.next (f b (a % b))))
    (a b : Int) (h0 : 0 ≤ b) (h1 : b < 2 ^ 250) : whlL test body wFuel (f a b) = ret (.next (f (if b = 0 then a else (Int.gcd a b : Int)) 0)) :=
  whl_gcd f ht hb 250 (wFuel - 501) a b h0 h1
theorem callN_eq {v : Bool} {P : List Fn} {n f : Nat} {fn : Fn} {ds : List D} {d : D} (hP : P[f]? = some fn) (hl : ds.length = fn.np)
    (h : exL v (callN v P n) fn.body (startEn fn.np fn.nl ds) = ret (.ret d)) : callN v P (n + 1) f ds = ret d := by
  funext s
  obtain ⟨a, s2, e, q⟩ := wp_callN (v := v) (Q := fun x s1 => x = d ∧ s1 = s) (s := s) hP hl (wp_eq h ⟨rfl, rfl⟩)
  obtain ⟨rfl, rfl⟩ := q
  exact e
theorem exL_next {v : Bool} {c : Cl} {st : S} {r : List S} {en en2 : En} (h : exS v c st en = ret (.next en2)) : exL v c (st :: r) en = exL v c r en2 := by
  show bnd (exS v c st en) _ = _
  rw [h]; rfl
theorem exL_ret {v : Bool} {c : Cl} {st : S} {r : List S} {en : En} {d : D} (h : exS v c st en = ret (.ret d)) : exL v c (st :: r) en = ret (.ret d) := by
  show bnd (exS v c st en) _ = _
  rw [h]; rfl
theorem exS_for {v : Bool} {c : Cl} {t : Tg} {it : E} {body : List S} {en : En} {d : D} {xs : List D} (h : evE v c it en = ret d) (hs : seqOf d = some xs) :
    exS v c (.for_ t it body) en = forL (fun d en2 => bnd (lift (tgSet t d en2)) fun en3 => exL v c body en3) xs en := by
  show bnd (evE v c it en) _ = _
  rw [h, bnd_ret, hs]; rfl
theorem forL_nil (body : D → En → M Rs) (en : En) : forL body [] en = ret (.next en) := rfl
theorem forL_next {body : D → En → M Rs} {x : D} {r : List D} {en en2 : En} (h : body x en = ret (.next en2)) : forL body (x :: r) en = forL body r en2 := by
  show bnd (body x en) _ = _
  rw [h]; rfl
theorem exS_whl {v : Bool} {c : Cl} {q : E} {body : List S} {en : En} : exS v c (.whl q body) en = whlL (fun en2 => bnd (evE v c q en2) fun x => lift (truth x)) (fun en2 => exL v c body en2) wFuel en := rfl
end Fz
/-! FzZ: data that can be shown, and how long that is. -/
namespace Fz
open PySem
/-- what is shown of d has at most b signs, d is at most k deep -/
def RO (b k : Nat) (d : D) : Prop := d.canLay0 = true ∧ d.depth ≤ k ∧ d.showable = true ∧ d.shown.length ≤ b
theorem RO.mono {b b' k k' : Nat} {d : D} (h : RO b k d) (hb : b ≤ b') (hk : k ≤ k') : RO b' k' d := ⟨h.1, Nat.le_trans h.2.1 hk, h.2.2.1, Nat.le_trans h.2.2.2 hb⟩
theorem RO.okay {b k : Nat} {d : D} (h : RO b k d) (hk : k ≤ 64) : Fz.okD d = true := by
  unfold Fz.okD SeqAt.shaped
  rw [Bool.and_eq_true]
  exact ⟨h.1, decide_eq_true (Nat.le_trans h.2.1 hk)⟩
theorem RO.repr {b k : Nat} {d : D} (h : RO b k d) (hk : k ≤ 64) (hb : b ≤ 16000000) : biV .repr [d] = some (.str d.shown) := by
  show (if Fz.okD d && d.showable && small d.shown.length then _ else _) = _
  have e : small d.shown.length = true := decide_eq_true (Nat.le_trans h.2.2.2 hb)
  rw [h.okay hk, h.2.2.1, e]; rfl
theorem ro_int {n : Nat} {i : Int} (h : i.natAbs < 2 ^ n) (hn : n ≤ 1900) : RO (n + 2) 0 (.int i) := by
  have l1 : i.natAbs.log2 < n + 1 := log2_lt (Nat.lt_of_lt_of_le h (Nat.pow_le_pow_right (by decide) (by omega))) (by omega)
  refine ⟨rfl, Nat.le_refl _, ?_, ?_⟩
  · exact decide_eq_true (by omega)
  · rw [PyData.shown_int, ofString_length]; exact int_text_length_le (k := n + 1) (by omega) l1
theorem ro_bool (b : Bool) : RO 5 0 (.bool b) := by
  refine ⟨rfl, Nat.le_refl _, rfl, ?_⟩
  cases b <;> decide
theorem ro_none : RO 4 0 .none := ⟨rfl, Nat.le_refl _, rfl, by decide⟩
theorem ro_all {b k : Nat} : ∀ (xs : List D), (∀ x ∈ xs, RO b k x) → PyData.canLayAll0 xs = true ∧ PyData.depthAll xs ≤ k ∧ PyData.showableAll xs = true ∧ ((PyData.shownAll xs).map (·.length)).sum ≤ xs.length * b ∧ (PyData.shownAll xs).length = xs.length
  | [], _ => ⟨rfl, Nat.zero_le _, rfl, by simp [PyData.shownAll], rfl⟩
  | x :: r, h => by
    obtain ⟨h1, h2, h3, h4⟩ := h x (List.mem_cons_self ..)
    obtain ⟨g1, g2, g3, g4, g5⟩ := ro_all r fun y hy => h y (List.mem_cons_of_mem _ hy)
    refine ⟨?_, ?_, ?_, ?_, ?_⟩
    · simp only [PyData.canLayAll0, h1, g1, Bool.and_self]
    · simp only [PyData.depthAll]; omega
    · simp only [PyData.showableAll, h3, g3, Bool.and_self]
    · simp only [PyData.shownAll, List.map_cons, List.sum_cons, List.length_cons, Nat.add_mul, Nat.one_mul]; omega
    · simp only [PyData.shownAll, List.length_cons, g5]
theorem ro_list {b k n : Nat} {xs : List D} (h : ∀ x ∈ xs, RO b k x) (hn : xs.length ≤ n) : RO (n * (b + 2) + 3) (k + 1) (.list xs) := by
  obtain ⟨g1, g2, g3, g4, g5⟩ := ro_all xs h
  have q : xs.length * (b + 2) ≤ n * (b + 2) := Nat.mul_le_mul_right _ hn
  refine ⟨?_, ?_, ?_, ?_⟩
  · simpa only [PyData.canLay0] using g1
  · simp only [PyData.depth]; omega
  · simpa only [PyData.showable] using g3
  · have l := listText_len_le (PyData.shownAll xs)
    simp only [PyData.shown]
    rw [Nat.mul_add] at q
    omega
theorem ro_tuple {b k n : Nat} {xs : List D} (h : ∀ x ∈ xs, RO b k x) (hn : xs.length ≤ n) : RO (n * (b + 2) + 3) (k + 1) (.tuple xs) := by
  obtain ⟨g1, g2, g3, g4, g5⟩ := ro_all xs h
  have q : xs.length * (b + 2) ≤ n * (b + 2) := Nat.mul_le_mul_right _ hn
  refine ⟨?_, ?_, ?_, ?_⟩
  · simpa only [PyData.canLay0] using g1
  · simp only [PyData.depth]; omega
  · simpa only [PyData.showable] using g3
  · have l := tupleText_len_le (PyData.shownAll xs)
    simp only [PyData.shown]
    rw [Nat.mul_add] at q
    omega
mutual
theorem eqv_refl : ∀ d : D, d.canLay0 = true → PyData.eqv d d = true
  | .none, _ => by simp [PyData.eqv]
  | .bool b, _ => by simp [PyData.eqv]
  | .int i, _ => by simp [PyData.eqv]
  | .str x, _ => by simp [PyData.eqv]
  | .list xs, h => by simpa [PyData.eqv] using eqvAll_refl xs (by simpa [PyData.canLay0] using h)
  | .tuple xs, h => by simpa [PyData.eqv] using eqvAll_refl xs (by simpa [PyData.canLay0] using h)
  | .dict _, h => by simp [PyData.canLay0] at h
theorem eqvAll_refl : ∀ xs : List D, PyData.canLayAll0 xs = true → PyData.eqvAll xs xs = true
  | [], _ => by simp [PyData.eqvAll]
  | x :: r, h => by
    have h := Bool.and_eq_true_iff.mp (show (PyData.canLay0 x && PyData.canLayAll0 r) = true by simpa only [PyData.canLayAll0] using h)
    simp [PyData.eqvAll, eqv_refl x h.1, eqvAll_refl r h.2]
end
theorem ne_str (x : Str) : cmp2 .ne (.str x) (.str x) = some false := by
  show some (!decide (x = x)) = _
  simp
theorem eq_str (x : Str) : cmp2 .eq (.str x) (.str x) = some true := by
  show some (decide (x = x)) = _
  simp
/-- repr(x) != repr(x) -/
theorem evE_ne_repr {v : Bool} {c : Cl} {a b : E} {en : En} {d : D} {n k : Nat} (ha : evL v c [a] en = ret [d]) (hb : evL v c [b] en = ret [d]) (h : RO n k d) (hk : k ≤ 64) (hn : n ≤ 16000000) :
    evE v c (.cmp .ne (.bi .repr [a]) (.bi .repr [b])) en = ret (.bool false) := by
  simp only [evE, ha, hb, bnd_ret, h.repr hk hn, lift_ok, ne_str, Option.map_some]
section
variable {v : Bool} {c : Cl} {en : En} {s : Src}
theorem wp_mapL {f : D → M (Option D)} {R : D → Prop} : ∀ (xs : List D) (s : Src) (Q : List D → Src → Prop), (∀ x ∈ xs, ∀ s, Wp (f x) s fun o _ => ∃ y, o = some y ∧ R y) → (∀ ys s, ys.length = xs.length → (∀ y ∈ ys, R y) → Q ys s) → Wp (mapL f xs) s Q
  | [], s, Q, _, k => wp_ret (k [] s rfl fun y h => by cases h)
  | x :: r, s, Q, h, k => by
    refine wp_bnd ((h x (List.mem_cons_self ..) s).mono fun o s1 ⟨y, e, hy⟩ => ?_)
    subst e
    refine wp_bnd (wp_mapL r s1 _ (fun z hz => h z (List.mem_cons_of_mem _ hz)) fun ys s2 hl hr => wp_ret (k (y :: ys) s2 (by simp [hl]) fun z hz => ?_))
    rcases List.mem_cons.mp hz with rfl | hz
    · exact hy
    · exact hr z hz
/-- a list made of choices, one for each -/
theorem wp_comp {t : Tg} {it elt : E} {d : D} {xs : List D} {R : D → Prop} {Q : D → Src → Prop} (hi : evE v c it en = ret d) (hx : seqOf d = some xs)
    (h : ∀ x ∈ xs, ∀ s, ∃ en2, tgSet t x en = some en2 ∧ Wp (evE v c elt en2) s fun y _ => R y) (hl : xs.length ≤ 16000000) (k : ∀ ys s, ys.length = xs.length → (∀ y ∈ ys, R y) → Q (.list ys) s) : Wp (evE v c (.comp t it none elt) en) s Q := by
  refine wp_bnd (wp_eq hi (wp_bnd (wp_lift hx (wp_bnd (wp_mapL (R := R) xs s _ (fun x hx s => ?_) fun ys s hl2 hr => ?_)))))
  · obtain ⟨en2, e, w⟩ := h x hx s
    exact wp_bnd (wp_lift e (wp_bnd (wp_ret (wp_bnd (w.mono fun y s1 r => wp_ret ⟨y, rfl, r⟩)))))
  · refine wp_lift ?_ (k ys s hl2 hr)
    have e : small ys.length = true := decide_eq_true (by omega)
    unfold sizeOk
    rw [if_pos e]; rfl
theorem wp_bi1 {b : Bi} {a : E} {Q : D → Src → Prop} (e : evL v c [a] en = bnd (evE v c a en) fun x => bnd (ret []) fun ys => ret (x :: ys)) (h : Wp (evE v c a en) s fun x s1 => ∃ d, biV b [x] = some d ∧ Q d s1) : Wp (evE v c (.bi b [a]) en) s Q := by
  refine wp_bnd (x := evL v c [a] en) ?_
  rw [e]
  exact wp_bnd (h.mono fun x s1 ⟨d, e, q⟩ => wp_bnd (wp_ret (wp_ret (wp_lift e q))))
theorem wp_call {f : Nat} {args : List E} {ds : List D} {Q : D → Src → Prop} (e : evL v c args en = ret ds) (h : Wp (c f ds) s Q) : Wp (evE v c (.call f args) en) s Q := wp_bnd (x := evL v c args en) (wp_eq e h)
theorem wp_new {i : Nat} {e : E} {Q : Rs → Src → Prop} (h : Wp (evE v c e en) s fun d s1 => ∃ xs, d = .list xs ∧ Q (.next (en.set i (some (.list xs)))) s1) : Wp (exS v c (.new i e) en) s Q :=
  wp_bnd (h.mono fun d s1 ⟨xs, e, q⟩ => by subst e; exact wp_ret q)
theorem wp_lst2 {a b : E} {Q : D → Src → Prop} (e : evL v c [a, b] en = bnd (evE v c a en) fun x => bnd (bnd (evE v c b en) fun y => bnd (ret []) fun ys => ret (y :: ys)) fun ys => ret (x :: ys))
    (h : Wp (evE v c a en) s fun x s1 => Wp (evE v c b en) s1 fun y s2 => Q (.list [x, y]) s2) : Wp (evE v c (.lst [a, b]) en) s Q := by
  refine wp_bnd (x := evL v c [a, b] en) ?_
  rw [e]
  exact wp_bnd (h.mono fun x s1 h1 => wp_bnd (wp_bnd (h1.mono fun y s2 q => wp_bnd (wp_ret (wp_ret (wp_ret (wp_lift rfl q)))))))
theorem wp_app {i : Nat} {e : E} {xs : List D} {Q : Rs → Src → Prop} (hx : en.getD i none = some (.list xs)) (e3 : small (xs.length + 1) = true) (h : Wp (evE v c e en) s fun d s1 => Q (.next (en.set i (some (.list (xs ++ [d]))))) s1) : Wp (exS v c (.app i e) en) s Q := by
  refine wp_bnd (h.mono fun d s1 q => ?_)
  have e2 : lstAt en i = some xs := by unfold lstAt; rw [hx]
  refine wp_bnd (wp_lift e2 ?_)
  rw [if_pos e3]
  exact wp_ret q
end
theorem forL_ret {body : D → En → M Rs} {x : D} {r : List D} {en : En} {d : D} (h : body x en = ret (.ret d)) : forL body (x :: r) en = ret (.ret d) := by
  show bnd (body x en) _ = _
  rw [h]; rfl
theorem exS_if {v : Bool} {c : Cl} {q : E} {a b : List S} {en : En} {d : D} {t : Bool} (h : evE v c q en = ret d) (ht : truth d = some t) : exS v c (.ite q a b) en = if t then exL v c a en else exL v c b en := by
  show bnd (evE v c q en) _ = _
  rw [h, bnd_ret, ht]; rfl
theorem evE_call {v : Bool} {c : Cl} {f : Nat} {args : List E} {ds : List D} {d : D} {en : En} (e : evL v c args en = ret ds) (h : c f ds = ret d) : evE v c (.call f args) en = ret d := by
  show bnd (evL v c args en) _ = _
  rw [e, bnd_ret, h]
theorem exS_app {v : Bool} {c : Cl} {i : Nat} {e : E} {xs : List D} {d : D} {en : En} (he : evE v c e en = ret d) (hx : en.getD i none = some (.list xs)) (e3 : small (xs.length + 1) = true) : exS v c (.app i e) en = ret (.next (en.set i (some (.list (xs ++ [d]))))) := by
  have e2 : lstAt en i = some xs := by unfold lstAt; rw [hx]
  show bnd (evE v c e en) _ = _
  rw [he, bnd_ret, e2, lift_ok, bnd_ret, if_pos e3]
section
variable {v : Bool} {c : Cl} {en : En} {s : Src}
theorem evL_1 {a : E} {d : D} (e : evL v c [a] en = bnd (evE v c a en) fun x => bnd (ret []) fun ys => ret (x :: ys)) (h : evE v c a en = ret d) : evL v c [a] en = ret [d] := by
  rw [e, h]; rfl
theorem evE_bi1 {b : Bi} {a : E} {x d : D} (e : evL v c [a] en = bnd (evE v c a en) fun x => bnd (ret []) fun ys => ret (x :: ys)) (h : evE v c a en = ret x) (hb : biV b [x] = some d) : evE v c (.bi b [a]) en = ret d := by
  show bnd (evL v c [a] en) _ = _
  rw [evL_1 e h, bnd_ret, hb]; rfl
theorem evE_cmp {o : Cm} {a b : E} {x y : D} {t : Bool} (ha : evE v c a en = ret x) (hb : evE v c b en = ret y) (h : cmp2 o x y = some t) : evE v c (.cmp o a b) en = ret (.bool t) := by
  show bnd (evE v c a en) _ = _
  rw [ha, bnd_ret, hb, bnd_ret, h]; rfl
theorem evE_or_f {a b : E} (ha : evE v c a en = ret (.bool false)) : evE v c (.or a b) en = evE v c b en := by
  show bnd (evE v c a en) _ = _
  rw [ha, bnd_ret]; rfl
theorem evE_and {a b : E} {t u : Bool} (ha : evE v c a en = ret (.bool t)) (hb : evE v c b en = ret (.bool u)) : evE v c (.and a b) en = ret (.bool (t && u)) := by
  show bnd (evE v c a en) _ = _
  rw [ha, bnd_ret]
  cases t with
  | true => exact hb
  | false => rfl
theorem evE_and_f {a b : E} (ha : evE v c a en = ret (.bool false)) : evE v c (.and a b) en = ret (.bool false) := by
  show bnd (evE v c a en) _ = _
  rw [ha, bnd_ret]; rfl
theorem evE_or {a b : E} {t u : Bool} (ha : evE v c a en = ret (.bool t)) (hb : evE v c b en = ret (.bool u)) : evE v c (.or a b) en = ret (.bool (t || u)) := by
  show bnd (evE v c a en) _ = _
  rw [ha, bnd_ret]
  cases t with
  | true => rfl
  | false => exact hb
theorem evE_comp3 {t : Tg} {it elt : E} {d x0 x1 x2 y0 y1 y2 : D} {en0 en1 en2 : En} (hi : evE v c it en = ret d) (hx : seqOf d = some [x0, x1, x2]) (e0 : tgSet t x0 en = some en0) (e1 : tgSet t x1 en = some en1) (e2 : tgSet t x2 en = some en2)
    (h0 : evE v c elt en0 = ret y0) (h1 : evE v c elt en1 = ret y1) (h2 : evE v c elt en2 = ret y2) : evE v c (.comp t it none elt) en = ret (.list [y0, y1, y2]) := by
  simp only [evE, hi, bnd_ret, hx, lift_ok, mapL, e0, e1, e2, evT, if_true, h0, h1, h2]
  rfl
theorem evE_comp4 {t : Tg} {it elt : E} {d x0 x1 x2 x3 y0 y1 y2 y3 : D} {en0 en1 en2 en3 : En} (hi : evE v c it en = ret d) (hx : seqOf d = some [x0, x1, x2, x3]) (e0 : tgSet t x0 en = some en0) (e1 : tgSet t x1 en = some en1) (e2 : tgSet t x2 en = some en2) (e3 : tgSet t x3 en = some en3)
    (h0 : evE v c elt en0 = ret y0) (h1 : evE v c elt en1 = ret y1) (h2 : evE v c elt en2 = ret y2) (h3 : evE v c elt en3 = ret y3) : evE v c (.comp t it none elt) en = ret (.list [y0, y1, y2, y3]) := by
  simp only [evE, hi, bnd_ret, hx, lift_ok, mapL, e0, e1, e2, e3, evT, if_true, h0, h1, h2, h3]
  rfl
theorem exS_new {i : Nat} {e : E} {xs : List D} (h : evE v c e en = ret (.list xs)) : exS v c (.new i e) en = ret (.next (en.set i (some (.list xs)))) := by
  show bnd (evE v c e en) _ = _
  rw [h, bnd_ret]
theorem exS_asg {t : Tg} {e : E} {d : D} {en2 : En} (h : evE v c e en = ret d) (h2 : tgSet t d en = some en2) : exS v c (.asg t e) en = ret (.next en2) := by
  show bnd (evE v c e en) _ = _
  rw [h, bnd_ret, h2]; rfl
theorem wp_comp3 {t : Tg} {it elt : E} {d x0 x1 x2 : D} {en0 en1 en2 : En} {Q : D → Src → Prop} (hi : evE v c it en = ret d) (hx : seqOf d = some [x0, x1, x2]) (e0 : tgSet t x0 en = some en0) (e1 : tgSet t x1 en = some en1) (e2 : tgSet t x2 en = some en2)
    (h : Wp (evE v c elt en0) s fun y0 s => Wp (evE v c elt en1) s fun y1 s => Wp (evE v c elt en2) s fun y2 s => Q (.list [y0, y1, y2]) s) : Wp (evE v c (.comp t it none elt) en) s Q := by
  refine wp_bnd (wp_eq hi (wp_bnd (wp_lift hx (wp_bnd (x := mapL _ _) ?_))))
  refine wp_bnd (wp_bnd (wp_lift e0 (wp_bnd (wp_ret (wp_bnd (h.mono fun y0 s h => wp_ret ?_))))))
  refine wp_bnd (wp_bnd (wp_bnd (wp_lift e1 (wp_bnd (wp_ret (wp_bnd (h.mono fun y1 s h => wp_ret ?_)))))))
  refine wp_bnd (wp_bnd (wp_bnd (wp_lift e2 (wp_bnd (wp_ret (wp_bnd (h.mono fun y2 s h => wp_ret ?_)))))))
  exact wp_bnd (wp_ret (wp_ret (wp_ret (wp_ret (wp_lift rfl h)))))
theorem wp_skip {q : E} {a r : List S} {Q : Rs → Src → Prop} (h : evE v c q en = ret (.bool false)) (k : Wp (exL v c r en) s Q) : Wp (exL v c (.ite q a [] :: r) en) s Q := wp_no (fun s => by rw [h]; rfl) k
theorem wp_in {q : E} {a b : List S} {Q : Rs → Src → Prop} (h : evE v c q en = ret (.bool true)) (k : Wp (exL v c a en) s Q) : Wp (exS v c (.ite q a b) en) s Q := by
  refine wp_if (wp_eq h ⟨true, rfl, ?_⟩)
  rw [if_pos rfl]
  exact k
theorem wp_next {st : S} {r : List S} {en2 : En} {Q : Rs → Src → Prop} (h : exS v c st en = ret (.next en2)) (k : Wp (exL v c r en2) s Q) : Wp (exL v c (st :: r) en) s Q := wp_step (fun s => by rw [h]; rfl) k
end
end Fz
/-! FzU: lists of any length: comprehensions, loops, zip, enumerate. -/
namespace Fz
open PySem
section
variable {α β : Type} {v : Bool} {c : Cl} {en : En}
theorem mapL_map {f : D → M (Option D)} {g : α → D} {h : α → D} : ∀ (ws : List α), (∀ w ∈ ws, f (g w) = ret (some (h w))) → mapL f (ws.map g) = ret (ws.map h)
  | [], _ => rfl
  | w :: r, k => by
    show bnd (f (g w)) _ = _
    rw [k w (List.mem_cons_self ..), bnd_ret, mapL_map r fun x hx => k x (List.mem_cons_of_mem _ hx), bnd_ret]
    rfl
theorem mapL_filter {f : D → M (Option D)} {g : α → D} {p : α → Bool} {h : α → D} : ∀ (ws : List α), (∀ w ∈ ws, f (g w) = ret (if p w then some (h w) else none)) → mapL f (ws.map g) = ret ((ws.filter p).map h)
  | [], _ => rfl
  | w :: r, k => by
    show bnd (f (g w)) _ = _
    rw [k w (List.mem_cons_self ..), bnd_ret, mapL_filter r fun x hx => k x (List.mem_cons_of_mem _ hx), bnd_ret]
    cases e : p w with
    | true => rw [if_pos rfl, List.filter_cons_of_pos e]; rfl
    | false => rw [if_neg Bool.false_ne_true, List.filter_cons_of_neg (by rw [e]; exact Bool.false_ne_true)]
theorem sizeOk_le {xs : List D} (h : xs.length ≤ 16000000) : sizeOk xs = some xs := by
  unfold sizeOk
  have e : small xs.length = true := decide_eq_true h
  rw [if_pos e]
/-- [h for t in it] -/
theorem evE_compM {t : Tg} {it elt : E} {d : D} {g : α → D} {h : α → D} {ws : List α} (hi : evE v c it en = ret d) (hx : seqOf d = some (ws.map g)) (hl : ws.length ≤ 16000000)
    (k : ∀ w ∈ ws, ∃ en2, tgSet t (g w) en = some en2 ∧ evE v c elt en2 = ret (h w)) : evE v c (.comp t it none elt) en = ret (.list (ws.map h)) := by
  show bnd (evE v c it en) _ = _
  rw [hi, bnd_ret, hx, lift_ok, bnd_ret, mapL_map (h := h) ws, bnd_ret, sizeOk_le (by rw [List.length_map]; exact hl)]
  · rfl
  · intro w hw
    obtain ⟨en2, e1, e2⟩ := k w hw
    rw [e1, lift_ok, bnd_ret]
    show bnd (ret true) _ = _
    rw [bnd_ret, if_pos rfl, e2, bnd_ret]
/-- [h for t in it if p] -/
theorem evE_compF {t : Tg} {it elt q : E} {d : D} {g : α → D} {h : α → D} {p : α → Bool} {ws : List α} (hi : evE v c it en = ret d) (hx : seqOf d = some (ws.map g)) (hl : ws.length ≤ 16000000)
    (k : ∀ w ∈ ws, ∃ en2, tgSet t (g w) en = some en2 ∧ evE v c q en2 = ret (.bool (p w)) ∧ (p w = true → evE v c elt en2 = ret (h w))) : evE v c (.comp t it (some q) elt) en = ret (.list ((ws.filter p).map h)) := by
  show bnd (evE v c it en) _ = _
  rw [hi, bnd_ret, hx, lift_ok, bnd_ret, mapL_filter (h := h) (p := p) ws, bnd_ret, sizeOk_le (by rw [List.length_map]; exact Nat.le_trans (List.length_filter_le ..) hl)]
  · rfl
  · intro w hw
    obtain ⟨en2, e1, e2, e3⟩ := k w hw
    rw [e1, lift_ok, bnd_ret]
    show bnd (bnd (evE v c q en2) _) _ = _
    rw [e2, bnd_ret]
    show bnd (ret (p w)) _ = _
    rw [bnd_ret]
    cases e : p w with
    | true => rw [if_pos rfl, e3 e, bnd_ret, if_pos rfl]
    | false => rw [if_neg Bool.false_ne_true, if_neg Bool.false_ne_true]
theorem zipL_map {f : α → D} {g : β → D} : ∀ (as : List α) (bs : List β), zipL (as.map f) (bs.map g) = (as.zip bs).map fun w => .tuple [f w.1, g w.2]
  | [], _ => rfl
  | _ :: _, [] => rfl
  | a :: r, b :: q => by
    show PyData.tuple [f a, g b] :: zipL (r.map f) (q.map g) = _
    rw [zipL_map r q]; rfl
theorem enumL_map {f : α → D} : ∀ (as : List α) (k : Nat), enumL k (as.map f) = (as.zipIdx k).map fun w => .tuple [.int (w.2 : Nat), f w.1]
  | [], _ => rfl
  | a :: r, k => by
    show PyData.tuple [.int (k : Nat), f a] :: enumL (k + 1) (r.map f) = _
    rw [enumL_map r (k + 1)]; rfl
theorem evE_zip {a b : E} {st : Bool} {x y : D} {as : List α} {bs : List β} {f : α → D} {g : β → D} (ha : evE v c a en = ret x) (hb : evE v c b en = ret y) (hx : seqOf x = some (as.map f)) (hy : seqOf y = some (bs.map g)) (hl : st = true → as.length = bs.length) :
    evE v c (.zip a b st) en = ret (.list ((as.zip bs).map fun w => .tuple [f w.1, g w.2])) := by
  show bnd (evE v c a en) _ = _
  rw [ha, bnd_ret, hb, bnd_ret, hx, hy, Option.bind_some, Option.bind_some, zipL_map]
  have e : (!st || ((as.map f).length == (bs.map g).length)) = true := by
    cases st with
    | false => rfl
    | true => simpa using hl rfl
  rw [if_pos e]; rfl
theorem evE_enum {a : E} {x : D} {as : List α} {f : α → D} (ha : evE v c a en = ret x) (hx : seqOf x = some (as.map f)) : evE v c (.enum a) en = ret (.list (as.zipIdx.map fun w => .tuple [.int (w.2 : Nat), f w.1])) := by
  show bnd (evE v c a en) _ = _
  rw [ha, bnd_ret, hx, Option.map_some, enumL_map]; rfl
theorem evE_rng {a : E} {n : Nat} (e : evL v c [a] en = bnd (evE v c a en) fun x => bnd (ret []) fun ys => ret (x :: ys)) (ha : evE v c a en = ret (.int (n : Int))) (hn : n ≤ 16000000) : evE v c (.rng [a]) en = ret (.list ((List.range n).map fun i => .int (i : Nat))) := by
  show bnd (evL v c [a] en) _ = _
  rw [evL_1 e ha, bnd_ret]
  have e1 : rngV [.int (n : Int)] = some (rngL 0 n) := by
    show (if inR (n : Int) then some (rngL 0 (n : Int).toNat) else none) = _
    have e2 : inR (n : Int) = true := by
      unfold inR
      rw [Bool.and_eq_true]
      exact ⟨decide_eq_true (by omega), decide_eq_true (by omega)⟩
    rw [if_pos e2, Int.toNat_natCast]
  have e2 : rngL 0 n = (List.range n).map fun i => PyData.int (i : Nat) := by
    unfold rngL
    congr 1
    funext i
    rw [Int.zero_add]
  rw [e1, Option.bind_some, e2, sizeOk_le (by simpa using hn)]; rfl
/-- a loop that goes on, whatever comes -/
theorem forL_map {body : D → En → M Rs} {g : α → D} (f : En → α → En) (I : En → Prop) : ∀ (ws : List α) (en : En), I en → (∀ w ∈ ws, ∀ en, I en → body (g w) en = ret (.next (f en w)) ∧ I (f en w)) → forL body (ws.map g) en = ret (.next (ws.foldl f en)) ∧ I (ws.foldl f en)
  | [], en, h, _ => ⟨rfl, h⟩
  | w :: r, en, h, k => by
    obtain ⟨e, i⟩ := k w (List.mem_cons_self ..) en h
    rw [List.map_cons, forL_next e]
    exact forL_map f I r (f en w) i fun x hx => k x (List.mem_cons_of_mem _ hx)
theorem seq_l (xs : List D) : seqOf (.list xs) = some xs := rfl
theorem seq_t (xs : List D) : seqOf (.tuple xs) = some xs := rfl
theorem ints_mp (f : α → Int) : ∀ ws : List α, intsOf (ws.map fun w => .int (f w)) = some (ws.map f)
  | [] => rfl
  | w :: r => by
    show (intsOf (r.map fun w => .int (f w))).map _ = _
    rw [ints_mp f r]; rfl
theorem sum_map (f : α → Int) (ws : List α) : biV .sum [.list (ws.map fun w => .int (f w))] = some (.int (ws.map f).sum) := by
  show (intsOf _).map _ = _
  rw [ints_mp]; rfl
end
end Fz
/-! FzT: more general laws of the plain calculus: rows as maps over a range, choices as functions. -/
namespace Fz
open PySem
theorem zipL_self {α : Type} (f g : α → D) : ∀ L : List α, zipL (L.map f) (L.map g) = L.map fun i => .tuple [f i, g i]
  | [] => rfl
  | i :: L => by
    show PyData.tuple [f i, g i] :: zipL (L.map f) (L.map g) = _
    rw [zipL_self f g L]; rfl
theorem evE_zipS {α : Type} {v : Bool} {c : Cl} {en : En} {a b : E} {st : Bool} {x y : D} {L : List α} {f g : α → D} (ha : evE v c a en = ret x) (hb : evE v c b en = ret y) (hx : seqOf x = some (L.map f)) (hy : seqOf y = some (L.map g)) :
    evE v c (.zip a b st) en = ret (.list (L.map fun i => .tuple [f i, g i])) := by
  show bnd (evE v c a en) _ = _
  rw [ha, bnd_ret, hb, bnd_ret, hx, hy, Option.bind_some, Option.bind_some, zipL_self]
  have e : (!st || ((L.map f).length == (L.map g).length)) = true := by simp
  rw [if_pos e]; rfl
section
variable {v : Bool} {c : Cl} {en : En}
theorem evE_idx {a b : E} {x y d : D} (ha : evE v c a en = ret x) (hb : evE v c b en = ret y) (h : idxV x y = some d) : evE v c (.idx a b) en = ret d := by
  show bnd (evE v c a en) _ = _
  rw [ha, bnd_ret, hb, bnd_ret, h]; rfl
theorem evE_op {o : O2} {a b : E} {x y d : D} (ha : evE v c a en = ret x) (hb : evE v c b en = ret y) (h : op2 o x y = some d) : evE v c (.op o a b) en = ret d := by
  show bnd (evE v c a en) _ = _
  rw [ha, bnd_ret, hb, bnd_ret, h]; rfl
theorem evE_tup2 {a b : E} {x y : D} (e : evL v c [a, b] en = bnd (evE v c a en) fun x => bnd (bnd (evE v c b en) fun y => bnd (ret []) fun ys => ret (y :: ys)) fun ys => ret (x :: ys)) (ha : evE v c a en = ret x) (hb : evE v c b en = ret y) : evE v c (.tup [a, b]) en = ret (.tuple [x, y]) := by
  show bnd (evL v c [a, b] en) _ = _
  rw [e, ha, bnd_ret, hb]; rfl
theorem evE_ite {q a b : E} {t : Bool} {x y : D} (hq : evE v c q en = ret (.bool t)) (ha : t = true → evE v c a en = ret x) (hb : t = false → evE v c b en = ret y) : evE v c (.ite q a b) en = ret (if t then x else y) := by
  show bnd (evE v c q en) _ = _
  rw [hq, bnd_ret]
  cases t with
  | true => exact ha rfl
  | false => exact hb rfl
end
theorem idx_rngT (d : Nat) (f : Nat → D) {i : Nat} (h : i < d) : idxV (.tuple ((List.range d).map f)) (.int (i : Nat)) = some (f i) := by
  have e : ((List.range d).map f)[i]? = some (f i) := by
    rw [List.getElem?_map, List.getElem?_range h]; rfl
  exact idxV_nat e
theorem idx_rngL (d : Nat) (f : Nat → D) {i : Nat} (h : i < d) : idxV (.list ((List.range d).map f)) (.int (i : Nat)) = some (f i) := by
  have e : ((List.range d).map f)[i]? = some (f i) := by
    rw [List.getElem?_map, List.getElem?_range h]; rfl
  exact idxV_nat e
theorem lay_all {k : Nat} : ∀ xs : List D, (∀ x ∈ xs, x.canLay0 = true ∧ x.depth ≤ k) → PyData.canLayAll0 xs = true ∧ PyData.depthAll xs ≤ k
  | [], _ => ⟨rfl, Nat.zero_le _⟩
  | x :: r, h => by
    obtain ⟨h1, h2⟩ := h x (List.mem_cons_self ..)
    obtain ⟨g1, g2⟩ := lay_all r fun y hy => h y (List.mem_cons_of_mem _ hy)
    exact ⟨by simp only [PyData.canLayAll0, h1, g1, Bool.and_self], by simp only [PyData.depthAll]; omega⟩
theorem okT {k : Nat} {xs : List D} (h : ∀ x ∈ xs, x.canLay0 = true ∧ x.depth ≤ k) (hk : k + 1 ≤ 64) : okD (.tuple xs) = true := by
  obtain ⟨h1, h2⟩ := lay_all xs h
  unfold okD SeqAt.shaped
  rw [Bool.and_eq_true]
  exact ⟨by simpa only [PyData.canLay0] using h1, decide_eq_true (by simp only [PyData.depth]; omega)⟩
theorem okTi {α : Type} (ws : List α) (f : α → Int) : okD (.tuple (ws.map fun w => .int (f w))) = true := okT (k := 0) (fun x hx => by
  obtain ⟨w, _, rfl⟩ := List.mem_map.mp hx
  exact ⟨rfl, Nat.le_refl _⟩) (by decide)
theorem okLi {α : Type} (ws : List α) (f : α → Int) : okD (.list (ws.map fun w => .int (f w))) = true := okTi ws f
theorem fun_of {α : Type} [Inhabited α] {g : α → D} {P : α → Prop} {d : Nat} {ys : List D} (hl : ys.length = d) (h : ∀ y ∈ ys, ∃ w, y = g w ∧ P w) : ∃ x : Nat → α, ys = (List.range d).map (fun i => g (x i)) ∧ ∀ i ∈ List.range d, P (x i) := by
  have hh : ∀ i : Nat, ∃ w : α, ∀ (hi : i < ys.length), ys[i] = g w ∧ P w := fun i => by
    by_cases hi : i < ys.length
    · obtain ⟨w, e, p⟩ := h ys[i] (List.getElem_mem hi)
      exact ⟨w, fun _ => ⟨e, p⟩⟩
    · exact ⟨default, fun q => absurd q hi⟩
  refine ⟨fun i => Classical.choose (hh i), ?_, fun i hi => (Classical.choose_spec (hh i) (by rw [hl]; exact List.mem_range.mp hi)).2⟩
  refine List.ext_getElem (by simp [hl]) fun i h1 h2 => ?_
  rw [List.getElem_map, List.getElem_range]
  exact (Classical.choose_spec (hh i) h1).1
section
variable {v : Bool} {c : Cl} {en : En} {s : Src}
theorem wp_rng1 {a : E} {Q : D → Src → Prop} (e : evL v c [a] en = bnd (evE v c a en) fun x => bnd (ret []) fun ys => ret (x :: ys)) (h : Wp (evE v c a en) s fun y s1 => ∃ n : Nat, y = .int (n : Nat) ∧ n ≤ 16000000 ∧ Q (.list ((List.range n).map fun i => .int (i : Nat))) s1) : Wp (evE v c (.rng [a]) en) s Q := by
  refine wp_bnd (x := evL v c [a] en) ?_
  rw [e]
  refine wp_bnd (h.mono fun y s1 ⟨n, ey, hn, q⟩ => wp_bnd (wp_ret (wp_ret ?_)))
  subst ey
  have e1 : rngV [.int (n : Int)] = some (rngL 0 n) := by
    show (if inR (n : Int) then some (rngL 0 (n : Int).toNat) else none) = _
    have e2 : inR (n : Int) = true := by
      unfold inR
      rw [Bool.and_eq_true]
      exact ⟨decide_eq_true (by omega), decide_eq_true (by omega)⟩
    rw [if_pos e2, Int.toNat_natCast]
  have e2 : rngL 0 n = (List.range n).map fun i => PyData.int (i : Nat) := by
    unfold rngL
    congr 1
    funext i
    rw [Int.zero_add]
  refine wp_lift (a := .list ((List.range n).map fun i => .int (i : Nat))) ?_ q
  rw [e1, Option.bind_some, e2, sizeOk_le (by simpa using hn)]; rfl
theorem wp_mapLo {f : D → M (Option D)} {R : D → Prop} : ∀ (xs : List D) (s : Src) (Q : List D → Src → Prop), (∀ x ∈ xs, ∀ s, Wp (f x) s fun o _ => ∀ y, o = some y → R y) → (∀ ys s, ys.length ≤ xs.length → (∀ y ∈ ys, R y) → Q ys s) → Wp (mapL f xs) s Q
  | [], s, Q, _, k => wp_ret (k [] s (Nat.le_refl _) fun y h => by cases h)
  | x :: r, s, Q, h, k => by
    refine wp_bnd ((h x (List.mem_cons_self ..) s).mono fun o s1 hy => ?_)
    refine wp_bnd (wp_mapLo r s1 _ (fun z hz => h z (List.mem_cons_of_mem _ hz)) fun ys s2 hl hr => wp_ret ?_)
    cases o with
    | none => exact k ys s2 (by rw [List.length_cons]; omega) hr
    | some y =>
      refine k (y :: ys) s2 (by rw [List.length_cons, List.length_cons]; omega) fun z hz => ?_
      rcases List.mem_cons.mp hz with rfl | hz
      · exact hy _ rfl
      · exact hr z hz
/-- a list of those that are chosen -/
theorem wp_compF {t : Tg} {it elt q : E} {d : D} {xs : List D} {R : D → Prop} {Q : D → Src → Prop} (hi : evE v c it en = ret d) (hx : seqOf d = some xs)
    (h : ∀ x ∈ xs, ∀ s, ∃ en2, tgSet t x en = some en2 ∧ Wp (evE v c q en2) s (fun y _ => ∃ b, y = .bool b) ∧ ∃ y, evE v c elt en2 = ret y ∧ R y) (hl : xs.length ≤ 16000000) (k : ∀ ys s, ys.length ≤ xs.length → (∀ y ∈ ys, R y) → Q (.list ys) s) : Wp (evE v c (.comp t it (some q) elt) en) s Q := by
  refine wp_bnd (wp_eq hi (wp_bnd (wp_lift hx (wp_bnd (wp_mapLo (R := R) xs s _ (fun x hx s => ?_) fun ys s hl2 hr => ?_)))))
  · obtain ⟨en2, e, w, y, e2, r⟩ := h x hx s
    refine wp_bnd (wp_lift e (wp_bnd (wp_bnd (w.mono fun z s1 ⟨b, ez⟩ => ?_))))
    subst ez
    refine wp_lift (a := b) rfl ?_
    cases b with
    | true =>
      rw [if_pos rfl]
      exact wp_bnd (wp_eq e2 (wp_ret fun z hz => by cases hz; exact r))
    | false =>
      rw [if_neg Bool.false_ne_true]
      exact wp_ret fun z hz => by cases hz
  · refine wp_lift ?_ (k ys s hl2 hr)
    rw [sizeOk_le (by omega)]; rfl
end
theorem ne_same {xs : List D} (h : okD (.tuple xs) = true) : cmp2 .ne (.tuple xs) (.tuple xs) = some false := by
  show (if okD (.tuple xs) && okD (.tuple xs) then some (!PyData.eqv (.tuple xs) (.tuple xs)) else none) = _
  have lay : PyData.canLay0 (.tuple xs) = true := by
    unfold okD SeqAt.shaped at h
    exact (Bool.and_eq_true_iff.mp h).1
  rw [h, eqv_refl _ lay]; rfl
theorem evL_2 {v : Bool} {c : Cl} {en : En} {a b : E} {x y : D} (e : evL v c [a, b] en = bnd (evE v c a en) fun x => bnd (bnd (evE v c b en) fun y => bnd (ret []) fun ys => ret (y :: ys)) fun ys => ret (x :: ys)) (ha : evE v c a en = ret x) (hb : evE v c b en = ret y) : evL v c [a, b] en = ret [x, y] := by
  rw [e, ha, bnd_ret, hb]; rfl
theorem list_of {α : Type} {g : α → D} {P : α → Prop} : ∀ ys : List D, (∀ y ∈ ys, ∃ w, y = g w ∧ P w) → ∃ ws : List α, ys = ws.map g ∧ ∀ w ∈ ws, P w
  | [], _ => ⟨[], rfl, fun w h => nomatch h⟩
  | y :: r, h => by
    obtain ⟨w, e, p⟩ := h y (List.mem_cons_self ..)
    obtain ⟨ws, e2, p2⟩ := list_of r fun z hz => h z (List.mem_cons_of_mem _ hz)
    refine ⟨w :: ws, by rw [e, e2]; rfl, fun z hz => ?_⟩
    rcases List.mem_cons.mp hz with rfl | hz
    · exact p
    · exact p2 z hz
theorem exS_ret {v : Bool} {c : Cl} {en : En} {e : E} {d : D} (h : evE v c e en = ret d) : exS v c (.ret e) en = ret (.ret d) := by
  show bnd (evE v c e en) _ = _
  rw [h]; rfl
theorem exS_skip {v : Bool} {c : Cl} {q : E} {a : List S} {en : En} (h : evE v c q en = ret (.bool false)) : exS v c (.ite q a []) en = ret (.next en) := by
  rw [exS_if h rfl, if_neg Bool.false_ne_true]; rfl
theorem enumL_range' (f : Nat → D) : ∀ (m k : Nat), enumL k ((List.range' k m).map f) = (List.range' k m).map fun i => .tuple [.int (i : Nat), f i]
  | 0, _ => rfl
  | m + 1, k => by
    rw [List.range'_succ, List.map_cons, List.map_cons]
    show PyData.tuple [.int (k : Nat), f k] :: enumL (k + 1) _ = _
    rw [enumL_range' f m (k + 1)]
/-- enumerate of a row -/
theorem evE_enumR {v : Bool} {c : Cl} {en : En} {a : E} {x : D} {m : Nat} {f : Nat → D} (ha : evE v c a en = ret x) (hx : seqOf x = some ((List.range m).map f)) : evE v c (.enum a) en = ret (.list ((List.range m).map fun i => .tuple [.int (i : Nat), f i])) := by
  show bnd (evE v c a en) _ = _
  rw [ha, bnd_ret, hx, Option.map_some, List.range_eq_range', enumL_range' f m 0]; rfl
theorem trs_map {α : Type} (p : α → Bool) : ∀ ws : List α, trsOf (ws.map fun w => .bool (p w)) = some (ws.map p)
  | [] => rfl
  | w :: r => by
    show (trsOf (r.map fun w => .bool (p w))).map _ = _
    rw [trs_map p r]; rfl
theorem all_map {α : Type} (p : α → Bool) (ws : List α) : biV .all [.list (ws.map fun w => .bool (p w))] = some (.bool (ws.all p)) := by
  show (trsOf _).map _ = _
  rw [trs_map, Option.map_some, List.all_map]; rfl
theorem any_map {α : Type} (p : α → Bool) (ws : List α) : biV .any [.list (ws.map fun w => .bool (p w))] = some (.bool (ws.any p)) := by
  show (trsOf _).map _ = _
  rw [trs_map, Option.map_some, List.any_map]; rfl
theorem isin_ints {α : Type} (k : Int) (f : α → Int) (ws : List α) : cmp2 .isin (.int k) (.list (ws.map fun w => .int (f w))) = some (ws.any fun w => f w == k) := by
  show (if okD (.int k) && okD (.list (ws.map fun w => .int (f w))) then some (memD (.int k) (ws.map fun w => .int (f w))) else none) = _
  have e : okD (.list (ws.map fun w => .int (f w))) = true := okLi ws f
  rw [e]
  show some (memD (.int k) (ws.map fun w => .int (f w))) = _
  unfold memD
  rw [List.any_map]; rfl
theorem eq_nilL {α : Type} (f : α → Int) (ws : List α) : cmp2 .eq (.list (ws.map fun w => .int (f w))) (.list []) = some ws.isEmpty := by
  show (if okD (.list (ws.map fun w => .int (f w))) && okD (.list []) then some (PyData.eqv (.list (ws.map fun w => .int (f w))) (.list [])) else none) = _
  have e : okD (.list (ws.map fun w => .int (f w))) = true := okLi ws f
  rw [e]
  cases ws <;> rfl
theorem eq_nilT {α : Type} (f : α → Int) (ws : List α) : cmp2 .eq (.tuple (ws.map fun w => .int (f w))) (.tuple []) = some ws.isEmpty := by
  show (if okD (.tuple (ws.map fun w => .int (f w))) && okD (.tuple []) then some (PyData.eqv (.tuple (ws.map fun w => .int (f w))) (.tuple [])) else none) = _
  have e : okD (.tuple (ws.map fun w => .int (f w))) = true := okTi ws f
  rw [e]
  cases ws <;> rfl
theorem eqv_maps {α : Type} (f g : α → Int) : ∀ ws : List α, PyData.eqvAll (ws.map fun w => .int (f w)) (ws.map fun w => .int (g w)) = ws.all fun w => f w == g w
  | [] => by simp [PyData.eqvAll]
  | w :: r => by
    simp only [List.map_cons, PyData.eqvAll, eqv_maps f g r, List.all_cons]
    rfl
theorem eq_ints {α : Type} (f g : α → Int) (ws : List α) : cmp2 .eq (.tuple (ws.map fun w => .int (f w))) (.tuple (ws.map fun w => .int (g w))) = some (ws.all fun w => f w == g w) := by
  show (if okD (.tuple (ws.map fun w => .int (f w))) && okD (.tuple (ws.map fun w => .int (g w))) then some (PyData.eqv (.tuple (ws.map fun w => .int (f w))) (.tuple (ws.map fun w => .int (g w)))) else none) = _
  have e1 : okD (.tuple (ws.map fun w => .int (f w))) = true := okTi ws f
  have e2 : okD (.tuple (ws.map fun w => .int (g w))) = true := okTi ws g
  rw [e1, e2]
  have e3 : PyData.eqv (.tuple (ws.map fun w => .int (f w))) (.tuple (ws.map fun w => .int (g w))) = PyData.eqvAll (ws.map fun w => .int (f w)) (ws.map fun w => .int (g w)) := by simp only [PyData.eqv]
  rw [e3, eqv_maps]; rfl
theorem eq_bool (a b : Bool) : cmp2 .eq (.bool a) (.bool b) = some (a == b) := rfl
theorem ne_bool (a b : Bool) : cmp2 .ne (.bool a) (.bool b) = some (!(a == b)) := rfl
theorem filter_empty {α : Type} (p : α → Bool) (ws : List α) : (ws.filter p).isEmpty = !(ws.any p) := by
  induction ws with
  | nil => rfl
  | cons w r ih =>
    rw [List.filter_cons, List.any_cons]
    cases p w with
    | true => rfl
    | false => simpa using ih
theorem ro_ints {α : Type} {n m : Nat} (ws : List α) (f : α → Int) (h : ∀ w ∈ ws, (f w).natAbs < 2 ^ n) (hn : n ≤ 1900) (hm : ws.length ≤ m) : RO (m * (n + 4) + 3) 1 (.tuple (ws.map fun w => .int (f w))) := by
  refine RO.mono (ro_tuple (b := n + 2) (k := 0) (n := m) (fun x hx => ?_) (by rw [List.length_map]; exact hm)) (Nat.le_refl _) (by omega)
  obtain ⟨w, hw, rfl⟩ := List.mem_map.mp hx
  exact ro_int (h w hw) hn
end Fz
/-! FzS: the plain calculus as equations for simp; loops by what they keep. -/
namespace Fz
open PySem
section
variable {v : Bool} {c : Cl} {en : En}
theorem q_non : evE v c .non en = ret .none := rfl
theorem q_bl {b : Bool} : evE v c (.bl b) en = ret (.bool b) := rfl
theorem q_int {i : Int} : evE v c (.int i) en = ret (.int i) := rfl
theorem q_str {s : Str} : evE v c (.str s) en = ret (.str s) := rfl
theorem q_var {i : Nat} : evE v c (.var i) en = lift (en.getD i none) := rfl
theorem q_op {o : O2} {a b : E} : evE v c (.op o a b) en = bnd (evE v c a en) fun x => bnd (evE v c b en) fun y => lift (op2 o x y) := rfl
theorem q_neg {a : E} {i : Int} (h : evE v c a en = ret (.int i)) : evE v c (.neg a) en = ret (.int (-i)) := by
  show bnd (evE v c a en) _ = _
  rw [h]; rfl
theorem q_not {a : E} : evE v c (.not a) en = bnd (evE v c a en) fun x => lift ((truth x).map fun b => .bool (!b)) := rfl
theorem q_and {a b : E} : evE v c (.and a b) en = bnd (evE v c a en) fun x => bnd (lift (truth x)) fun t => if t then evE v c b en else ret x := rfl
theorem q_or {a b : E} : evE v c (.or a b) en = bnd (evE v c a en) fun x => bnd (lift (truth x)) fun t => if t then ret x else evE v c b en := rfl
theorem q_ite {q a b : E} : evE v c (.ite q a b) en = bnd (evE v c q en) fun x => bnd (lift (truth x)) fun t => if t then evE v c a en else evE v c b en := rfl
theorem q_cmp {o : Cm} {a b : E} : evE v c (.cmp o a b) en = bnd (evE v c a en) fun x => bnd (evE v c b en) fun y => lift ((cmp2 o x y).map .bool) := rfl
theorem q_chain {o1 o2 : Cm} {a b q : E} : evE v c (.chain o1 o2 a b q) en = bnd (evE v c a en) fun x => bnd (evE v c b en) fun y => bnd (lift (cmp2 o1 x y)) fun t => if t then bnd (evE v c q en) fun z => lift ((cmp2 o2 y z).map .bool) else ret (.bool false) := rfl
theorem q_tup {es : List E} : evE v c (.tup es) en = bnd (evL v c es en) fun ds => lift ((sizeOk ds).map .tuple) := rfl
theorem q_lst {es : List E} : evE v c (.lst es) en = bnd (evL v c es en) fun ds => lift ((sizeOk ds).map .list) := rfl
theorem q_idx {a b : E} : evE v c (.idx a b) en = bnd (evE v c a en) fun x => bnd (evE v c b en) fun y => lift (idxV x y) := rfl
theorem q_slc {a : E} {lo hi : Option E} : evE v c (.slc a lo hi) en = bnd (evE v c a en) fun x => bnd (evO v c lo en) fun y => bnd (evO v c hi en) fun z => lift ((intOpt y).bind fun i => (intOpt z).bind fun j => slcV x i j) := rfl
theorem q_rev {a : E} : evE v c (.rev a) en = bnd (evE v c a en) fun x => lift (revV x) := rfl
theorem q_call {f : Nat} {args : List E} : evE v c (.call f args) en = bnd (evL v c args en) fun ds => c f ds := rfl
theorem q_bi {b : Bi} {args : List E} : evE v c (.bi b args) en = bnd (evL v c args en) fun ds => lift (biV b ds) := rfl
theorem q_meth {m : Mt} {a b : E} : evE v c (.meth m a b) en = bnd (evE v c a en) fun x => bnd (evE v c b en) fun y => lift (methV m x y) := rfl
theorem q_isi {a : E} {tys : List Ty} : evE v c (.isi a tys) en = bnd (evE v c a en) fun x => ret (.bool (tys.any fun t => isTy x t)) := rfl
theorem q_rng {args : List E} : evE v c (.rng args) en = bnd (evL v c args en) fun ds => lift ((rngV ds).bind fun l => (sizeOk l).map .list) := rfl
theorem q_enum {a : E} : evE v c (.enum a) en = bnd (evE v c a en) fun x => lift ((seqOf x).map fun xs => .list (enumL 0 xs)) := rfl
theorem q_zip {a b : E} {st : Bool} : evE v c (.zip a b st) en = bnd (evE v c a en) fun x => bnd (evE v c b en) fun y => lift ((seqOf x).bind fun xs => (seqOf y).bind fun ys => if !st || xs.length == ys.length then some (.list (zipL xs ys)) else none) := rfl
/-- one turn of a comprehension -/
def cTurn (v : Bool) (c : Cl) (t : Tg) (ifs : Option E) (elt : E) (en : En) (d : D) : M (Option D) :=
  bnd (lift (tgSet t d en)) fun en2 => bnd (evT v c ifs en2) fun ok => if ok then bnd (evE v c elt en2) fun y => ret (some y) else ret none
theorem q_comp {t : Tg} {it elt : E} {ifs : Option E} : evE v c (.comp t it ifs elt) en = bnd (evE v c it en) fun x => bnd (lift (seqOf x)) fun xs => bnd (mapL (cTurn v c t ifs elt en) xs) fun ys => lift ((sizeOk ys).map .list) := rfl
theorem q_lnil : evL v c [] en = ret [] := rfl
theorem q_lcons {e : E} {r : List E} (h : (match e with | .star _ => false | _ => true) = true) : evL v c (e :: r) en = bnd (evE v c e en) fun x => bnd (evL v c r en) fun ys => ret (x :: ys) := by
  cases e <;> first | rfl | cases h
theorem q_lstar {e : E} {r : List E} : evL v c (.star e :: r) en = bnd (evE v c e en) fun x => bnd (lift (seqOf x)) fun xs => bnd (evL v c r en) fun ys => ret (xs ++ ys) := rfl
theorem q_o0 : evO v c none en = ret none := rfl
theorem q_o1 {e : E} : evO v c (some e) en = bnd (evE v c e en) fun x => ret (some x) := rfl
theorem q_t0 : evT v c none en = ret true := rfl
theorem q_t1 {e : E} : evT v c (some e) en = bnd (evE v c e en) fun x => lift (truth x) := rfl
theorem q_snil : exL v c [] en = ret (.next en) := rfl
/-- what comes behind a statement -/
def aThen (v : Bool) (c : Cl) (r : List S) : Rs → M Rs
  | .next en2 => exL v c r en2
  | .ret d => ret (.ret d)
theorem q_scons {s : S} {r : List S} : exL v c (s :: r) en = bnd (exS v c s en) (aThen v c r) := by
  show bnd (exS v c s en) _ = bnd (exS v c s en) _
  congr 1
theorem q_thenN {r : List S} {en2 : En} : aThen v c r (.next en2) = exL v c r en2 := rfl
theorem q_thenR {r : List S} {d : D} : aThen v c r (.ret d) = ret (.ret d) := rfl
theorem q_asg {t : Tg} {e : E} : exS v c (.asg t e) en = bnd (evE v c e en) fun d => bnd (lift (tgSet t d en)) fun en2 => ret (.next en2) := rfl
/-- a list that is one's own -/
def asNew (i : Nat) (en : En) : D → M Rs
  | .list xs => ret (.next (en.set i (some (.list xs))))
  | _ => fun _ => none
theorem q_new {i : Nat} {e : E} : exS v c (.new i e) en = bnd (evE v c e en) (asNew i en) := rfl
theorem q_asNew {i : Nat} {xs : List D} : asNew i en (.list xs) = ret (.next (en.set i (some (.list xs)))) := rfl
theorem q_par {is : List Nat} {es : List E} : exS v c (.par is es) en = bnd (evL v c es en) fun ds => bnd (lift (setsV is ds en)) fun en2 => ret (.next en2) := rfl
theorem q_parN {is : List Nat} {ns : List Bool} {es : List E} : exS v c (.parN is ns es) en = bnd (evL v c es en) fun ds => if newsOk ns ds then bnd (lift (setsV is ds en)) fun en2 => ret (.next en2) else fun _ => none := rfl
theorem q_app {i : Nat} {e : E} : exS v c (.app i e) en = bnd (evE v c e en) fun d => bnd (lift (lstAt en i)) fun xs => if small (xs.length + 1) then ret (.next (en.set i (some (.list (xs ++ [d]))))) else fun _ => none := rfl
def asExt (i : Nat) (en : En) (xs : List D) : D → M Rs
  | .list ys => if small (xs.length + ys.length) then ret (.next (en.set i (some (.list (xs ++ ys))))) else fun _ => none
  | _ => fun _ => none
theorem q_ext {i : Nat} {e : E} : exS v c (.ext i e) en = bnd (evE v c e en) fun d => bnd (lift (lstAt en i)) fun xs => asExt i en xs d := rfl
theorem q_asExt {i : Nat} {xs ys : List D} : asExt i en xs (.list ys) = if small (xs.length + ys.length) then ret (.next (en.set i (some (.list (xs ++ ys))))) else fun _ => none := rfl
theorem q_pop {t : Tg} {j : Nat} {k : Option E} : exS v c (.pop t j k) en = bnd (evO v c k en) fun kd => bnd (lift (lstAt en j)) fun xs => bnd (lift (popAt xs kd)) fun p => bnd (lift (tgSet t p.1 (en.set j (some (.list p.2))))) fun en2 => ret (.next en2) := rfl
def asSet (i : Nat) (en : En) (xs : List D) (d : D) : D → M Rs
  | .int z => match L2.ixN xs.length z with
    | some j => ret (.next (en.set i (some (.list (xs.set j d)))))
    | none => fun _ => none
  | _ => fun _ => none
theorem q_set {i : Nat} {k e : E} : exS v c (.set i k e) en = bnd (evE v c e en) fun d => bnd (evE v c k en) fun kd => bnd (lift (lstAt en i)) fun xs => asSet i en xs d kd := rfl
theorem q_asSet {i : Nat} {xs : List D} {d : D} {z : Int} {j : Nat} (h : L2.ixN xs.length z = some j) : asSet i en xs d (.int z) = ret (.next (en.set i (some (.list (xs.set j d))))) := by
  show (match L2.ixN xs.length z with | some j => _ | none => _) = _
  rw [h]
theorem q_aug {i : Nat} {o : O2} {e : E} : exS v c (.aug i o e) en = bnd (lift (en.getD i none)) fun x => bnd (evE v c e en) fun y => bnd (lift (aug2 o x y)) fun z => ret (.next (en.set i (some z))) := rfl
theorem q_ret {e : E} : exS v c (.ret e) en = bnd (evE v c e en) fun d => ret (.ret d) := rfl
theorem q_if {q : E} {a b : List S} : exS v c (.ite q a b) en = bnd (evE v c q en) fun x => bnd (lift (truth x)) fun t => if t then exL v c a en else exL v c b en := rfl
/-- one turn of a loop -/
def fTurn (v : Bool) (c : Cl) (t : Tg) (body : List S) (d : D) (en : En) : M Rs := bnd (lift (tgSet t d en)) fun en3 => exL v c body en3
theorem q_for {t : Tg} {it : E} {body : List S} : exS v c (.for_ t it body) en = bnd (evE v c it en) fun x => bnd (lift (seqOf x)) fun xs => forL (fTurn v c t body) xs en := rfl
def wTest (v : Bool) (c : Cl) (q : E) (en : En) : M Bool := bnd (evE v c q en) fun x => lift (truth x)
theorem q_whl {q : E} {body : List S} : exS v c (.whl q body) en = whlL (wTest v c q) (exL v c body) wFuel en := rfl
theorem q_pass : exS v c .pass en = ret (.next en) := rfl
theorem q_getD0 {x : Option D} {r : En} : (x :: r).getD 0 none = x := rfl
theorem q_getD1 {x : Option D} {r : En} {i : Nat} : (x :: r).getD (i + 1) none = r.getD i none := rfl
theorem q_set0 {x y : Option D} {r : En} : (x :: r).set 0 y = y :: r := rfl
theorem q_set1 {x y : Option D} {r : En} {i : Nat} : (x :: r).set (i + 1) y = x :: r.set i y := rfl
theorem q_tgN {i : Nat} {d : D} : tgSet (.name i) d en = some (en.set i (some d)) := rfl
theorem q_tgT {ts : List Tg} {ds : List D} : tgSet (.tup ts) (.tuple ds) en = tgSets ts ds en := rfl
theorem q_tgL {ts : List Tg} {ds : List D} : tgSet (.tup ts) (.list ds) en = tgSets ts ds en := rfl
theorem q_tg0 : tgSets [] [] en = some en := rfl
theorem q_tg1 {t : Tg} {ts : List Tg} {d : D} {ds : List D} : tgSets (t :: ts) (d :: ds) en = (tgSet t d en).bind fun e => tgSets ts ds e := rfl
theorem q_sv0 : setsV [] [] en = some en := rfl
theorem q_sv1 {i : Nat} {is : List Nat} {d : D} {ds : List D} : setsV (i :: is) (d :: ds) en = setsV is ds (en.set i (some d)) := rfl
theorem q_lstAt {i : Nat} {xs : List D} (h : en.getD i none = some (.list xs)) : lstAt en i = some xs := by
  unfold lstAt; rw [h]
end
theorem q_tb {b : Bool} : truth (.bool b) = some b := rfl
theorem q_ti {i : Int} : truth (.int i) = some (i != 0) := rfl
theorem q_tl {xs : List D} : truth (.list xs) = some (!xs.isEmpty) := rfl
theorem q_tt {xs : List D} : truth (.tuple xs) = some (!xs.isEmpty) := rfl
theorem q_add {i j : Int} : op2 .add (.int i) (.int j) = some (.int (i + j)) := rfl
theorem q_sub {i j : Int} : op2 .sub (.int i) (.int j) = some (.int (i - j)) := rfl
theorem q_addL {a b : List D} (h : a.length + b.length ≤ 16000000) : op2 .add (.list a) (.list b) = some (.list (a ++ b)) := by
  show (if small (a.length + b.length) then _ else _) = _
  rw [if_pos (show small (a.length + b.length) = true from decide_eq_true h)]
theorem q_addT {a b : List D} (h : a.length + b.length ≤ 16000000) : op2 .add (.tuple a) (.tuple b) = some (.tuple (a ++ b)) := by
  show (if small (a.length + b.length) then _ else _) = _
  rw [if_pos (show small (a.length + b.length) = true from decide_eq_true h)]
theorem q_lt {i j : Int} : cmp2 .lt (.int i) (.int j) = some (decide (i < j)) := rfl
theorem q_le {i j : Int} : cmp2 .le (.int i) (.int j) = some (decide (i ≤ j)) := rfl
theorem q_gt {i j : Int} : cmp2 .gt (.int i) (.int j) = some (decide (j < i)) := rfl
theorem q_ge {i j : Int} : cmp2 .ge (.int i) (.int j) = some (decide (j ≤ i)) := rfl
theorem q_eqI {i j : Int} : cmp2 .eq (.int i) (.int j) = some (decide (i = j)) := by
  show some (PyData.eqv (.int i) (.int j)) = _
  congr 1
theorem q_neI {i j : Int} : cmp2 .ne (.int i) (.int j) = some (!decide (i = j)) := by
  show some (!PyData.eqv (.int i) (.int j)) = _
  congr 1
theorem q_eqN {i j : Nat} : cmp2 .eq (.int (i : Int)) (.int (j : Int)) = some (decide (i = j)) := by
  rw [q_eqI]; congr 1; exact decide_eq_decide.mpr ⟨fun h => by omega, fun h => by omega⟩
theorem q_lenL {xs : List D} : biV .len [.list xs] = some (.int xs.length) := rfl
theorem q_lenT {xs : List D} : biV .len [.tuple xs] = some (.int xs.length) := rfl
theorem q_tupL {xs : List D} : biV .tuple [.list xs] = some (.tuple xs) := rfl
theorem q_tupT {xs : List D} : biV .tuple [.tuple xs] = some (.tuple xs) := rfl
theorem q_lstL {xs : List D} : biV .list [.list xs] = some (.list xs) := rfl
theorem q_lstT {xs : List D} : biV .list [.tuple xs] = some (.list xs) := rfl
theorem q_seqL {xs : List D} : seqOf (.list xs) = some xs := rfl
theorem q_seqT {xs : List D} : seqOf (.tuple xs) = some xs := rfl
theorem q_revL {xs : List D} : revV (.list xs) = some (.list xs.reverse) := rfl
theorem q_revT {xs : List D} : revV (.tuple xs) = some (.tuple xs.reverse) := rfl
theorem q_intI {i : Int} : biV .int [.int i] = some (.int i) := rfl
theorem q_intB {b : Bool} : biV .int [.bool b] = some (.int (if b then 1 else 0)) := rfl
theorem q_size0 : sizeOk [] = some [] := rfl
theorem q_size1 {a : D} : sizeOk [a] = some [a] := rfl
theorem q_size2 {a b : D} : sizeOk [a, b] = some [a, b] := rfl
theorem q_size3 {a b d : D} : sizeOk [a, b, d] = some [a, b, d] := rfl
theorem q_size4 {a b d e : D} : sizeOk [a, b, d, e] = some [a, b, d, e] := rfl
theorem q_size5 {a b d e f : D} : sizeOk [a, b, d, e, f] = some [a, b, d, e, f] := rfl
theorem q_size6 {a b d e f g : D} : sizeOk [a, b, d, e, f, g] = some [a, b, d, e, f, g] := rfl
theorem q_size7 {a b d e f g h : D} : sizeOk [a, b, d, e, f, g, h] = some [a, b, d, e, f, g, h] := rfl
theorem q_size8 {a b d e f g h i : D} : sizeOk [a, b, d, e, f, g, h, i] = some [a, b, d, e, f, g, h, i] := rfl
theorem q_size9 {a b d e f g h i j : D} : sizeOk [a, b, d, e, f, g, h, i, j] = some [a, b, d, e, f, g, h, i, j] := rfl
theorem q_news0 : newsOk [] [] = true := rfl
theorem q_newsT {bs : List Bool} {xs ds : List D} : newsOk (true :: bs) (.list xs :: ds) = newsOk bs ds := rfl
theorem q_newsF {bs : List Bool} {d : D} {ds : List D} : newsOk (false :: bs) (d :: ds) = newsOk bs ds := rfl
theorem q_augA {i j : Int} : aug2 .add (.int i) (.int j) = some (.int (i + j)) := rfl
theorem q_augS {i j : Int} : aug2 .sub (.int i) (.int j) = some (.int (i - j)) := rfl
theorem q_io0 : intOpt none = some none := rfl
theorem q_io1 {i : Int} : intOpt (some (.int i)) = some (some i) := rfl
theorem q_slcL {xs : List D} {lo hi : Option Int} : slcV (.list xs) lo hi = some (.list (cut xs lo hi)) := rfl
theorem q_slcT {xs : List D} {lo hi : Option Int} : slcV (.tuple xs) lo hi = some (.tuple (cut xs lo hi)) := rfl
theorem q_size {xs : List D} (h : xs.length ≤ 16000000) : sizeOk xs = some xs := sizeOk_le h
theorem q_small {n : Nat} (h : n ≤ 16000000) : small n = true := decide_eq_true h
theorem q_rng1 {n : Nat} (h : n ≤ 16000000) : rngV [.int (n : Int)] = some ((List.range n).map fun i : Nat => .int (i : Nat)) := by
  show (if inR (n : Int) then some (rngL 0 (n : Int).toNat) else none) = _
  have e2 : inR (n : Int) = true := by
    unfold inR
    simp only [Bool.and_eq_true, decide_eq_true_eq]
    omega
  rw [if_pos e2, Int.toNat_natCast]
  unfold rngL
  congr 1
  refine List.map_congr_left fun i _ => ?_
  rw [Int.zero_add]
theorem q_rng2 {lo hi : Int} {m : Nat} (e : hi - lo = (m : Int)) (h1 : -1000000 ≤ lo ∧ lo ≤ 1000000) (h : m ≤ 16000000) : rngV [.int lo, .int hi] = some ((List.range m).map fun i : Nat => .int (lo + (i : Nat))) := by
  show (if inR lo && inR hi then some (rngL lo (hi - lo).toNat) else none) = _
  have e2 : (inR lo && inR hi) = true := by
    unfold inR
    simp only [Bool.and_eq_true, decide_eq_true_eq]
    omega
  rw [if_pos e2, e, Int.toNat_natCast]; rfl
/-- a loop keeps its state's form; what lies in dead slots is left open -/
theorem forL_st {α σ J : Type} {body : D → En → M Rs} {g : α → D} (E : σ → J → En) (step : σ → α → σ) (I : σ → Prop) : ∀ (ws : List α) (s : σ) (j : J), I s → (∀ s j w, I s → w ∈ ws → ∃ j', body (g w) (E s j) = ret (.next (E (step s w) j')) ∧ I (step s w)) →
    ∃ j', forL body (ws.map g) (E s j) = ret (.next (E (ws.foldl step s) j')) ∧ I (ws.foldl step s)
  | [], s, j, h0, _ => ⟨j, rfl, h0⟩
  | w :: r, s, j, h0, h => by
    obtain ⟨j1, e1, h1⟩ := h s j w h0 (List.mem_cons_self ..)
    obtain ⟨j2, e2, h2⟩ := forL_st E step I r (step s w) j1 h1 fun s j w hi hw => h s j w hi (List.mem_cons_of_mem _ hw)
    exact ⟨j2, (forL_next e1).trans e2, h2⟩
def itr {σ : Type} (f : σ → σ) : Nat → σ → σ
  | 0, s => s
  | n + 1, s => itr f n (f s)
/-- a while goes on till its test fails -/
theorem whlL_st {σ J : Type} {test : En → M Bool} {body : En → M Rs} (E : σ → J → En) (go : σ → Bool) (step : σ → σ) (I : σ → Prop) (μ : σ → Nat) (ht : ∀ s j, I s → test (E s j) = ret (go s)) (hb : ∀ s j, I s → go s = true → ∃ j', body (E s j) = ret (.next (E (step s) j')) ∧ I (step s) ∧ μ (step s) < μ s) :
    ∀ (n : Nat) (s : σ) (j : J), I s → μ s < n → ∃ s' j', whlL test body n (E s j) = ret (.next (E s' j')) ∧ I s' ∧ go s' = false ∧ ∃ k, s' = itr step k s ∧ ∀ i, i < k → go (itr step i s) = true
  | 0, s, j, _, h => absurd h (Nat.not_lt_zero _)
  | n + 1, s, j, h0, h => by
    cases e : go s with
    | false =>
      refine ⟨s, j, ?_, h0, e, 0, rfl, fun i hi => absurd hi (Nat.not_lt_zero _)⟩
      show bnd (test (E s j)) _ = _
      rw [ht s j h0, bnd_ret, e]; rfl
    | true =>
      obtain ⟨j1, e1, h1, h2⟩ := hb s j h0 e
      obtain ⟨s', j', e2, h3, h4, k, h5, h6⟩ := whlL_st E go step I μ ht hb n (step s) j1 h1 (by omega)
      refine ⟨s', j', ?_, h3, h4, k + 1, h5, fun i hi => ?_⟩
      · show bnd (test (E s j)) _ = _
        rw [ht s j h0, bnd_ret, e, if_pos rfl, e1, bnd_ret]
        exact e2
      · cases i with
        | zero => exact e
        | succ i => exact h6 i (by omega)
end Fz
/-! FzSa: common parts of the plain calculus (out of k81). -/
namespace Fz
open PySem
theorem idx0 {xs : List D} {d : D} (h : xs.head? = some d) : idxV (.list xs) (.int 0) = some d := by
  cases xs with
  | nil => cases h
  | cons x r => cases h; exact idxV_nat (i := 0) rfl
section
variable {v : Bool} {c : Cl} {en : En} {s : Src}
theorem evE_rng2 {a b : E} {lo hi : Int} {m : Nat} (e : evL v c [a, b] en = bnd (evE v c a en) fun x => bnd (bnd (evE v c b en) fun y => bnd (ret []) fun ys => ret (y :: ys)) fun ys => ret (x :: ys)) (ha : evE v c a en = ret (.int lo)) (hb : evE v c b en = ret (.int hi)) (hm : hi - lo = (m : Int)) (h1 : -1000 ≤ lo ∧ lo ≤ 1000) (hn : m ≤ 1000) :
    evE v c (.rng [a, b]) en = ret (.list ((List.range m).map fun i => .int (lo + (i : Nat)))) := by
  show bnd (evL v c [a, b] en) _ = _
  rw [evL_2 e ha hb, bnd_ret]
  have e1 : rngV [.int lo, .int hi] = some (rngL lo m) := by
    show (if inR lo && inR hi then some (rngL lo (hi - lo).toNat) else none) = _
    have e2 : (inR lo && inR hi) = true := by
      unfold inR
      simp only [Bool.and_eq_true, decide_eq_true_eq]
      omega
    rw [if_pos e2, hm, Int.toNat_natCast]
  rw [e1, Option.bind_some]
  show lift ((sizeOk (rngL lo m)).map PyData.list) = _
  rw [sizeOk_le (by unfold rngL; rw [List.length_map, List.length_range]; omega)]; rfl
theorem wp_mapI {f : D → M (Option D)} {R : Nat → D → Prop} : ∀ (xs : List D) (k : Nat) (s : Src) (Q : List D → Src → Prop), (∀ i x, xs[i]? = some x → ∀ s, Wp (f x) s fun o _ => ∃ y, o = some y ∧ R (k + i) y) → (∀ ys s, ys.length = xs.length → (∀ i y, ys[i]? = some y → R (k + i) y) → Q ys s) → Wp (mapL f xs) s Q
  | [], k, s, Q, _, q => wp_ret (q [] s rfl fun i y h => by cases h)
  | x :: r, k, s, Q, h, q => by
    refine wp_bnd ((h 0 x rfl s).mono fun o s1 ⟨y, e, hy⟩ => ?_)
    subst e
    refine wp_bnd (wp_mapI (R := R) r (k + 1) s1 _ (fun i z hz s => ?_) fun ys s2 hl hr => wp_ret (q (y :: ys) s2 (by simp [hl]) fun i z hz => ?_))
    · have := h (i + 1) z (by simpa using hz) s
      rwa [show k + 1 + i = k + (i + 1) by omega]
    · cases i with
      | zero => cases hz; exact hy
      | succ i =>
        have := hr i z (by simpa using hz)
        rwa [show k + 1 + i = k + (i + 1) by omega] at this
theorem wp_compI {t : Tg} {it elt : E} {d : D} {xs : List D} {R : Nat → D → Prop} {Q : D → Src → Prop} (hi : evE v c it en = ret d) (hx : seqOf d = some xs)
    (h : ∀ i x, xs[i]? = some x → ∀ s, ∃ en2, tgSet t x en = some en2 ∧ Wp (evE v c elt en2) s fun y _ => R i y) (hl : xs.length ≤ 16000000) (k : ∀ ys s, ys.length = xs.length → (∀ i y, ys[i]? = some y → R i y) → Q (.list ys) s) : Wp (evE v c (.comp t it none elt) en) s Q := by
  refine wp_bnd (wp_eq hi (wp_bnd (wp_lift hx (wp_bnd (wp_mapI (R := R) xs 0 s _ (fun i x hx s => ?_) fun ys s hl2 hr => ?_)))))
  · obtain ⟨en2, e, w⟩ := h i x hx s
    exact wp_bnd (wp_lift e (wp_bnd (wp_ret (wp_bnd (w.mono fun y s1 r => wp_ret ⟨y, rfl, by rw [Nat.zero_add]; exact r⟩)))))
  · refine wp_lift ?_ (k ys s hl2 fun i y hy => by have := hr i y hy; rwa [Nat.zero_add] at this)
    rw [sizeOk_le (by omega)]; rfl
theorem erase_perm {α : Type} : ∀ (l : List α) (i : Nat) (a : α), l[i]? = some a → (a :: l.eraseIdx i).Perm l
  | [], _, _, h => by cases h
  | x :: r, 0, a, h => by cases h; exact List.Perm.refl _
  | x :: r, i + 1, a, h => by
    have := erase_perm r i a (by simpa using h)
    show (a :: x :: r.eraseIdx i).Perm (x :: r)
    exact (List.Perm.swap x a _).trans (this.cons x)
theorem erase_map {α β : Type} (g : α → β) : ∀ (l : List α) (i : Nat), (l.map g).eraseIdx i = (l.eraseIdx i).map g
  | [], _ => rfl
  | x :: r, 0 => rfl
  | x :: r, i + 1 => by
    show g x :: (r.map g).eraseIdx i = g x :: (r.eraseIdx i).map g
    rw [erase_map g r i]
theorem ixN_nat {n i : Nat} (h : i < n) : L2.ixN n (i : Int) = some i := by
  unfold L2.ixN
  rw [if_pos (Int.natCast_nonneg i), if_pos (by omega)]; rfl
theorem wp_mixL {α : Type} {g : α → D} : ∀ (n : Nat) (us : List α) (s : Src) (Q : List D → Src → Prop), us.length = n → n ≤ 1000000 → (∀ (rs : List α) (s : Src), rs.Perm us → Q (rs.map g) s) → Wp (mixL v n (us.map g)) s Q
  | 0, us, s, Q, hl, _, q => by
    have e : us = [] := List.length_eq_zero_iff.mp hl
    subst e
    exact wp_ret (q [] s (List.Perm.refl _))
  | n + 1, us, s, Q, hl, hm, q => by
    obtain ⟨h1, h2⟩ := pickS_lt v s ((us.map g).length : Nat) (by rw [List.length_map]; omega)
    rw [List.length_map] at h1 h2
    obtain ⟨k, ek⟩ := Int.eq_ofNat_of_zero_le h1
    have hk : k < us.length := by omega
    have hlt : (((us.map g).length : Nat) : Int) < 1073741824 := by rw [List.length_map]; omega
    have e1 : pickM v ((us.map g).length : Nat) s = some (.int (k : Nat), (pickS v s ((us.map g).length : Nat)).2) := by
      unfold pickM
      rw [if_pos hlt]
      show some (PyData.int (pickS v s ((us.map g).length : Nat)).1, _) = _
      rw [List.length_map, ek]
    have e2 : popAt (us.map g) (some (.int (k : Nat))) = some (g us[k], (us.eraseIdx k).map g) := by
      show (L2.ixN (us.map g).length (k : Int)).bind (fun j => ((us.map g)[j]?).map fun d => (d, (us.map g).eraseIdx j)) = _
      rw [List.length_map, ixN_nat hk, Option.bind_some, List.getElem?_map, List.getElem?_eq_getElem hk]
      show some (g us[k], (us.map g).eraseIdx k) = _
      rw [erase_map]
    refine wp_bnd ⟨_, _, e1, wp_bnd (wp_lift e2 (wp_bnd (wp_mixL n (us.eraseIdx k) _ _ ?_ (by omega) fun rs s2 hp => wp_ret ?_)))⟩
    · rw [List.length_eraseIdx, if_pos hk]; omega
    · exact q (us[k] :: rs) s2 ((hp.cons _).trans (erase_perm us k us[k] (List.getElem?_eq_getElem hk)))
theorem wp_mix {α : Type} {g : α → D} {j i lap : Nat} {us : List α} {Q : Rs → Src → Prop} (hi : en.getD i none = some srcD) (hj : en.getD j none = some (.list (us.map g))) (hm : us.length ≤ 1000000) (q : ∀ (rs : List α) (s : Src), rs.Perm us → Q (.ret (.list (rs.map g))) s) : Wp (exS v c (.mix j i lap) en) s Q := by
  have e2 : lstAt en j = some (us.map g) := by unfold lstAt; rw [hj]
  refine wp_bnd (wp_lift hi (wp_bnd (wp_lift e2 ?_)))
  have e3 : (isSrc srcD && small (us.map g).length) = true := by
    have : small (us.map g).length = true := decide_eq_true (by rw [List.length_map]; omega)
    rw [this]; rfl
  rw [if_pos e3, List.length_map]
  exact wp_bnd (wp_mixL us.length us s _ rfl hm fun rs s2 hp => wp_ret (q rs s2 hp))
end
theorem evE_or_t {v : Bool} {c : Cl} {en : En} {a b : E} (ha : evE v c a en = ret (.bool true)) : evE v c (.or a b) en = ret (.bool true) := by
  show bnd (evE v c a en) _ = _
  rw [ha, bnd_ret]; rfl
theorem evE_not {v : Bool} {c : Cl} {en : En} {a : E} {t : Bool} (ha : evE v c a en = ret (.bool t)) : evE v c (.not a) en = ret (.bool (!t)) := by
  show bnd (evE v c a en) _ = _
  rw [ha, bnd_ret]; rfl
theorem evE_isi {v : Bool} {c : Cl} {en : En} {a : E} {d : D} (t : Ty) (ha : evE v c a en = ret d) : evE v c (.isi a [t]) en = ret (.bool (isTy d t)) := by
  show bnd (evE v c a en) _ = _
  rw [ha, bnd_ret]
  show ret (PyData.bool (isTy d t || false)) = _
  rw [Bool.or_false]
theorem evE_and_t {v : Bool} {c : Cl} {en : En} {a b : E} (ha : evE v c a en = ret (.bool true)) : evE v c (.and a b) en = evE v c b en := by
  show bnd (evE v c a en) _ = _
  rw [ha, bnd_ret]; rfl
theorem eq_nil {xs : List D} (h : okD (.list xs) = true) : cmp2 .eq (.list xs) (.list []) = some xs.isEmpty := by
  show (if okD (.list xs) && okD (.list []) then some (PyData.eqv (.list xs) (.list [])) else none) = _
  rw [h]
  cases xs with
  | nil => rfl
  | cons x r => rfl
theorem eq_nilTup {xs : List D} (h : okD (.tuple xs) = true) : cmp2 .eq (.tuple xs) (.tuple []) = some xs.isEmpty := by
  show (if okD (.tuple xs) && okD (.tuple []) then some (PyData.eqv (.tuple xs) (.tuple [])) else none) = _
  rw [h]
  cases xs with
  | nil => rfl
  | cons x r => rfl
theorem ne_nilTup {xs : List D} (h : okD (.tuple xs) = true) : cmp2 .ne (.tuple xs) (.tuple []) = some !xs.isEmpty := by
  show (if okD (.tuple xs) && okD (.tuple []) then some (!PyData.eqv (.tuple xs) (.tuple [])) else none) = _
  rw [h]
  cases xs with
  | nil => rfl
  | cons x r => rfl
theorem wp_evL {v : Bool} {c : Cl} {en : En} {s : Src} {a : E} {r : List E} {Q : List D → Src → Prop} (e : evL v c (a :: r) en = bnd (evE v c a en) fun x => bnd (evL v c r en) fun ys => ret (x :: ys)) (h : Wp (evE v c a en) s fun x s1 => Wp (evL v c r en) s1 fun ys s2 => Q (x :: ys) s2) : Wp (evL v c (a :: r) en) s Q := by
  rw [e]
  exact wp_bnd (h.mono fun x s1 h1 => wp_bnd (h1.mono fun ys s2 q => wp_ret q))
theorem wp_evN {v : Bool} {c : Cl} {en : En} {s : Src} {Q : List D → Src → Prop} (h : Q [] s) : Wp (evL v c [] en) s Q := wp_ret h
theorem wp_lst {v : Bool} {c : Cl} {en : En} {s : Src} {es : List E} {Q : D → Src → Prop} (h : Wp (evL v c es en) s fun xs s1 => xs.length ≤ 16000000 ∧ Q (.list xs) s1) : Wp (evE v c (.lst es) en) s Q := wp_bnd (h.mono fun xs s1 ⟨hl, q⟩ => wp_lift (by rw [sizeOk_le hl]; rfl) q)
theorem wp_tup {v : Bool} {c : Cl} {en : En} {s : Src} {es : List E} {Q : D → Src → Prop} (h : Wp (evL v c es en) s fun xs s1 => xs.length ≤ 16000000 ∧ Q (.tuple xs) s1) : Wp (evE v c (.tup es) en) s Q := wp_bnd (h.mono fun xs s1 ⟨hl, q⟩ => wp_lift (by rw [sizeOk_le hl]; rfl) q)
theorem cut_mem {xs : List D} {lo hi : Option Int} {x : D} (h : x ∈ cut xs lo hi) : x ∈ xs := List.mem_of_mem_drop (List.mem_of_mem_take h)
theorem cut_len (xs : List D) (lo hi : Option Int) : (cut xs lo hi).length ≤ xs.length := by
  unfold cut
  rw [List.length_take, List.length_drop]; omega
theorem i_ne (a b : Int) : cmp2 .ne (.int a) (.int b) = some (!(a == b)) := rfl
theorem ne_sameL {xs : List D} (h : okD (.list xs) = true) : cmp2 .ne (.list xs) (.list xs) = some false := by
  show (if okD (.list xs) && okD (.list xs) then some (!PyData.eqv (.list xs) (.list xs)) else none) = _
  have lay : PyData.canLay0 (.list xs) = true := by
    unfold okD SeqAt.shaped at h
    exact (Bool.and_eq_true_iff.mp h).1
  rw [h, eqv_refl _ lay]; rfl
end Fz
/-! FzSb: dicts, first faults, sorted threes in the plain calculus. -/
namespace Fz
open PySem
section
variable {v : Bool} {c : Cl} {en : En}
def dpsV : D → Option D
  | .list xs => (pairsOf xs).bind dictOf
  | _ => none
theorem q_mapL0 {f : D → M (Option D)} : mapL f [] = ret [] := rfl
def consO (ys : List D) : Option D → List D
  | some d => d :: ys
  | none => ys
theorem q_mapL1 {f : D → M (Option D)} {x : D} {r : List D} : mapL f (x :: r) = bnd (f x) fun y => bnd (mapL f r) fun ys => ret (consO ys y) := by
  show (bnd (f x) fun y => bnd (mapL f r) fun ys => ret (match y with | some d => d :: ys | none => ys)) = _
  congr 1
theorem q_cons1 {ys : List D} {d : D} : consO ys (some d) = d :: ys := rfl
theorem q_cons0 {ys : List D} : consO ys none = ys := rfl
theorem q_turn {t : Tg} {ifs : Option E} {elt : E} {d : D} : cTurn v c t ifs elt en d = bnd (lift (tgSet t d en)) fun en2 => bnd (evT v c ifs en2) fun ok => if ok then bnd (evE v c elt en2) fun y => ret (some y) else ret none := rfl
theorem q_dps {a : E} : evE v c (.dps a) en = bnd (evE v c a en) fun x => lift (dpsV x) := rfl
theorem q_dpsL {xs : List D} : dpsV (.list xs) = (pairsOf xs).bind dictOf := rfl
theorem q_dzip {a b : E} : evE v c (.dzip a b false) en = bnd (evE v c a en) fun x => bnd (evE v c b en) fun y => lift ((seqOf x).bind fun xs => (seqOf y).bind fun ys => if xs.all isTK then dictT (xs.zip ys) else none) := by
  show (bnd (evE v c a en) fun x => bnd (evE v c b en) fun y => lift ((seqOf x).bind fun xs => (seqOf y).bind fun ys => if (!false || xs.length == ys.length) && xs.all isTK then dictT (xs.zip ys) else none)) = _
  simp only [Bool.not_false, Bool.true_or, Bool.true_and]
theorem q_idxD {kvs : List (D × D)} {k : D} : idxV (.dict kvs) k = atD kvs k := by
  cases k <;> rfl
theorem q_sortT {xs : List D} : biV .sorted [.tuple xs] = (intsOf xs).map fun ns => .list ((sortI ns).map .int) := rfl
theorem q_sortL {xs : List D} : biV .sorted [.list xs] = sortV xs := rfl
theorem q_eqT {xs ys : List D} (h : okD (.tuple xs) = true) (g : okD (.tuple ys) = true) : cmp2 .eq (.tuple xs) (.tuple ys) = some (PyData.eqv (.tuple xs) (.tuple ys)) := by
  show (if okD (.tuple xs) && okD (.tuple ys) then some (PyData.eqv (.tuple xs) (.tuple ys)) else none) = _
  rw [h, g]; rfl
theorem q_isN {d : D} : cmp2 .isN d .none = some (isNonD d) := by cases d <;> rfl
theorem q_notN {d : D} : cmp2 .notN d .none = some (!isNonD d) := by cases d <;> rfl
theorem q_nonN : isNonD .none = true := rfl
theorem q_nonI {i : Int} : isNonD (.int i) = false := rfl
theorem q_nonT {xs : List D} : isNonD (.tuple xs) = false := rfl
theorem q_nonL {xs : List D} : isNonD (.list xs) = false := rfl
theorem q_nonB {b : Bool} : isNonD (.bool b) = false := rfl
theorem q_nonS {s : Str} : isNonD (.str s) = false := rfl
theorem q_neB {a b : Bool} : cmp2 .ne (.bool a) (.bool b) = some (!(a == b)) := rfl
theorem q_eqB {a b : Bool} : cmp2 .eq (.bool a) (.bool b) = some (a == b) := rfl
theorem q_negI {i : Int} {a : E} : evE v c (.neg (.int i)) en = ret (.int (-i)) := rfl
theorem q_absI {i : Int} : biV .abs [.int i] = some (.int (if i < 0 then -i else i)) := rfl
end
section
variable {α : Type} [DecidableEq α] {κ : α → D} {g : α → D} (hs : ∀ a b, sameK (κ a) (κ b) = decide (a = b))
include hs
theorem hasD_map (L : List α) (a : α) : hasD (L.map fun t => (κ t, g t)) (κ a) = decide (a ∈ L) := by
  induction L with
  | nil => rfl
  | cons b r ih =>
    rw [List.map_cons, hasD_cons', ih, hs]
    by_cases e : b = a
    · subst e; simp
    · simp [e, Ne.symm e]
where
  hasD_cons' (p : D × D) (r : List (D × D)) (k : D) : hasD (p :: r) k = (sameK p.1 k || hasD r k) := rfl
theorem atD_map (L : List α) {a : α} (h : a ∈ L) : atD (L.map fun t => (κ t, g t)) (κ a) = some (g a) := by
  induction L with
  | nil => cases h
  | cons b r ih =>
    unfold atD
    rw [List.map_cons, List.find?_cons]
    show Option.map _ (match sameK (κ b) (κ a) with | true => some (κ b, g b) | false => _) = _
    rw [hs]
    by_cases e : b = a
    · subst e; rw [decide_eq_true rfl]; rfl
    · rw [decide_eq_false e]
      exact ih ((List.mem_cons.mp h).resolve_left (Ne.symm e))
theorem fold_nodup : ∀ (L acc : List α), (acc ++ L).Nodup → (L.map fun t => (κ t, g t)).foldl (fun a p => putD a p.1 p.2) (acc.map fun t => (κ t, g t)) = (acc ++ L).map fun t => (κ t, g t)
  | [], acc, _ => by rw [List.append_nil]; rfl
  | b :: r, acc, h => by
    have e : putD (acc.map fun t => (κ t, g t)) (κ b) (g b) = (acc ++ [b]).map fun t => (κ t, g t) := by
      unfold putD
      have nb : b ∉ acc := fun hm => by
        rw [List.nodup_append] at h
        exact h.2.2 b hm b (List.mem_cons_self ..) rfl
      rw [hasD_map hs, decide_eq_false nb, if_neg Bool.false_ne_true, List.map_append]; rfl
    show (r.map fun t => (κ t, g t)).foldl _ (putD (acc.map fun t => (κ t, g t)) (κ b) (g b)) = _
    rw [e, fold_nodup r (acc ++ [b]) (by simpa using h)]
    simp
theorem mergeD_nodup {L : List α} (h : L.Nodup) : mergeD (L.map fun t => (κ t, g t)) = L.map fun t => (κ t, g t) := fold_nodup hs L [] (by simpa using h)
end
theorem dictT_map {α : Type} [DecidableEq α] {κ : α → D} {g : α → D} (hs : ∀ a b, sameK (κ a) (κ b) = decide (a = b)) (hk : ∀ a, isTK (κ a) = true) {L : List α} (h : L.Nodup) (hl : L.length ≤ 16000000) : dictT ((L.map κ).zip (L.map g)) = some (.dict (L.map fun t => (κ t, g t))) := by
  have e : (L.map κ).zip (L.map g) = L.map fun t => (κ t, g t) := by
    rw [List.zip_map']
  rw [e]
  unfold dictT
  have e2 : ((L.map fun t => (κ t, g t)).all fun p => isTK p.1) = true := by
    rw [List.all_map, List.all_eq_true]
    exact fun a _ => hk a
  have e3 : small (L.map fun t => (κ t, g t)).length = true := decide_eq_true (by rw [List.length_map]; exact hl)
  rw [e2, e3, mergeD_nodup hs h]; rfl
/-- tuples of numbers as keys -/
def nd (x : Nat) : D := .int (x : Int)
def tD (t : List Nat) : D := .tuple (t.map nd)
theorem ints_nd : ∀ t : List Nat, intsOf (t.map nd) = some (t.map fun x : Nat => (x : Int))
  | [] => rfl
  | x :: r => by
    show (intsOf (r.map nd)).map _ = _
    rw [ints_nd r]; rfl
theorem cast_inj {s t : List Nat} (h : (s.map fun x : Nat => (x : Int)) = t.map fun x : Nat => (x : Int)) : s = t := by
  induction s generalizing t with
  | nil => cases t with
    | nil => rfl
    | cons _ _ => cases h
  | cons a r ih => cases t with
    | nil => cases h
    | cons b q =>
      rw [List.map_cons, List.map_cons] at h
      obtain ⟨h1, h2⟩ := List.cons.inj h
      rw [ih h2, show a = b by omega]
theorem same_tD (s t : List Nat) : sameK (tD s) (tD t) = decide (s = t) := by
  show (match intsOf (s.map nd), intsOf (t.map nd) with | some x, some y => decide (x = y) | _, _ => false) = _
  rw [ints_nd, ints_nd]
  exact decide_eq_decide.mpr ⟨cast_inj, fun h => by rw [h]⟩
theorem isTK_tD (t : List Nat) : isTK (tD t) = true := by
  show (intsOf (t.map nd)).isSome = true
  rw [ints_nd]; rfl
/-- the first that tells something -/
theorem forL_first {α J : Type} {body : D → En → M Rs} {g : α → D} (E : J → En) (r : α → Option D) : ∀ (ws : List α) (j : J), (∀ w ∈ ws, ∀ j, (∀ d, r w = some d → body (g w) (E j) = ret (.ret d)) ∧ (r w = none → ∃ j', body (g w) (E j) = ret (.next (E j')))) →
    (∀ d, ws.findSome? r = some d → forL body (ws.map g) (E j) = ret (.ret d)) ∧ (ws.findSome? r = none → ∃ j', forL body (ws.map g) (E j) = ret (.next (E j')))
  | [], j, _ => ⟨fun d h => (by cases h), fun _ => ⟨j, rfl⟩⟩
  | w :: ws, j, h => by
    obtain ⟨h1, h2⟩ := h w (List.mem_cons_self ..) j
    rw [List.findSome?_cons]
    cases e : r w with
    | some d =>
      refine ⟨fun d' hd => ?_, fun hd => (by cases hd)⟩
      cases hd
      show bnd (body (g w) (E j)) _ = _
      rw [h1 d e, bnd_ret]
    | none =>
      obtain ⟨j1, e1⟩ := h2 e
      have ih := forL_first E r ws j1 fun w hw => h w (List.mem_cons_of_mem _ hw)
      refine ⟨fun d hd => (forL_next e1).trans (ih.1 d hd), fun hd => ?_⟩
      obtain ⟨j2, e2⟩ := ih.2 hd
      exact ⟨j2, (forL_next e1).trans e2⟩
end Fz
namespace Fz
open PySem
theorem any_nd (p : Nat) : ∀ l : List Nat, (l.any fun x => ((x : Int) == (p : Int))) = l.contains p
  | [] => rfl
  | x :: r => by
    rw [List.any_cons, List.contains_cons, any_nd p r]
    congr 1
    by_cases h : x = p
    · subst h; simp
    · have h1 : ((x : Int) == (p : Int)) = false := by simpa using (fun e => h (by omega))
      have h2 : (p == x) = false := by simpa using (fun e => h e.symm)
      rw [h1, h2]
theorem isin_ndL (p : Nat) (l : List Nat) : cmp2 .isin (nd p) (.list (l.map nd)) = some (l.contains p) := by
  rw [← any_nd]; exact isin_ints _ _ _
theorem okL_nd (l : List Nat) : okD (.list (l.map nd)) = true := okLi l (fun x : Nat => (x : Int))
theorem okT_nd (l : List Nat) : okD (.tuple (l.map nd)) = true := okTi l (fun x : Nat => (x : Int))
theorem memD_nd (p : Nat) (l : List Nat) : memD (nd p) (l.map nd) = l.contains p := by
  have h := isin_ndL p l
  have e1 : (if okD (nd p) && okD (.list (l.map nd)) then some (memD (nd p) (l.map nd)) else none) = some (l.contains p) := h
  rw [okL_nd, show okD (nd p) = true from rfl] at e1
  exact Option.some.inj e1
theorem isin_nd (p : Nat) (l : List Nat) : cmp2 .isin (nd p) (.tuple (l.map nd)) = some (l.contains p) := by
  show (if okD (nd p) && okD (.tuple (l.map nd)) then some (memD (nd p) (l.map nd)) else none) = _
  rw [okT_nd, memD_nd]; rfl
theorem notin_nd (p : Nat) (l : List Nat) : cmp2 .notin (nd p) (.tuple (l.map nd)) = some (!l.contains p) := by
  show (if okD (nd p) && okD (.tuple (l.map nd)) then some (!memD (nd p) (l.map nd)) else none) = _
  rw [okT_nd, memD_nd]; rfl
theorem notin_ndL (p : Nat) (l : List Nat) : cmp2 .notin (nd p) (.list (l.map nd)) = some (!l.contains p) := by
  show (if okD (nd p) && okD (.list (l.map nd)) then some (!memD (nd p) (l.map nd)) else none) = _
  rw [okL_nd, memD_nd]; rfl
theorem ne_nd (a b : Nat) : cmp2 .ne (nd a) (nd b) = some (!decide (a = b)) := by
  show some (!((a : Int) == (b : Int))) = _
  congr 2
  by_cases h : a = b
  · subst h; simp
  · have h1 : ((a : Int) == (b : Int)) = false := by simpa using (fun e => h (by omega))
    rw [h1, decide_eq_false h]
theorem eq_nd (a b : Nat) : cmp2 .eq (nd a) (nd b) = some (decide (a = b)) := by
  show some ((a : Int) == (b : Int)) = _
  congr 1
  by_cases h : a = b
  · subst h; simp
  · have h1 : ((a : Int) == (b : Int)) = false := by simpa using (fun e => h (by omega))
    rw [h1, decide_eq_false h]
/-- sorted numbers -/
def insN (x : Nat) : List Nat → List Nat
  | [] => [x]
  | y :: r => if x < y then x :: y :: r else y :: insN x r
def sortN : List Nat → List Nat
  | [] => []
  | x :: r => insN x (sortN r)
theorem insI_cast (x : Nat) : ∀ l : List Nat, insI (x : Int) (l.map fun x : Nat => (x : Int)) = (insN x l).map fun x : Nat => (x : Int)
  | [] => rfl
  | y :: r => by
    show (if (x : Int) < (y : Int) then _ else _) = _
    unfold insN
    by_cases h : x < y
    · rw [if_pos h, if_pos (by omega)]; rfl
    · rw [if_neg h, if_neg (by omega), insI_cast x r]; rfl
theorem sortI_cast : ∀ l : List Nat, sortI (l.map fun x : Nat => (x : Int)) = (sortN l).map fun x : Nat => (x : Int)
  | [] => rfl
  | x :: r => by
    show insI (x : Int) (sortI (r.map fun x : Nat => (x : Int))) = _
    rw [sortI_cast r, insI_cast]; rfl
theorem map_nd (l : List Nat) : (l.map fun x : Nat => (x : Int)).map PyData.int = l.map nd := by rw [List.map_map]; rfl
theorem sorted_nd (l : List Nat) : biV .sorted [.list (l.map nd)] = some (.list ((sortN l).map nd)) := by
  show sortV (l.map nd) = _
  unfold sortV
  rw [ints_nd]
  show some (PyData.list ((sortI (l.map fun x : Nat => (x : Int))).map .int)) = _
  rw [sortI_cast, map_nd]
theorem sortV_nd (l : List Nat) : sortV (l.map nd) = some (.list ((sortN l).map nd)) := sorted_nd l
theorem sorted_ndT (l : List Nat) : biV .sorted [.tuple (l.map nd)] = some (.list ((sortN l).map nd)) := by
  show (intsOf (l.map nd)).map _ = _
  rw [ints_nd]
  show some (PyData.list ((sortI (l.map fun x : Nat => (x : Int))).map .int)) = _
  rw [sortI_cast, map_nd]
end Fz
namespace Fz
open PySem
/-- a loop that appends -/
theorem forL_app {α J : Type} {body : D → En → M Rs} {g h : α → D} (E : List D → J → En) : ∀ (ws : List α) (acc : List D) (j : J), acc.length + ws.length ≤ 1000000 → (∀ acc j w, w ∈ ws → acc.length < 1000000 → ∃ j', body (g w) (E acc j) = ret (.next (E (acc ++ [h w]) j'))) →
    ∃ j', forL body (ws.map g) (E acc j) = ret (.next (E (acc ++ ws.map h) j'))
  | [], acc, j, _, _ => ⟨j, by rw [List.map_nil, List.map_nil, List.append_nil]; rfl⟩
  | w :: ws, acc, j, hl, k => by
    rw [List.length_cons] at hl
    obtain ⟨j1, e1⟩ := k acc j w (List.mem_cons_self ..) (by omega)
    obtain ⟨j2, e2⟩ := forL_app E ws (acc ++ [h w]) j1 (by rw [List.length_append]; simp only [List.length_cons, List.length_nil]; omega) fun acc j w hw => k acc j w (List.mem_cons_of_mem _ hw)
    refine ⟨j2, (forL_next e1).trans (e2.trans ?_)⟩
    rw [List.append_assoc]; rfl
section
variable {v : Bool} {c : Cl} {en : En} {s : Src}
theorem wp_cmp {o : Cm} {a b : E} {Q : D → Src → Prop} (h : Wp (evE v c a en) s fun x s1 => Wp (evE v c b en) s1 fun y s2 => ∃ t, cmp2 o x y = some t ∧ Q (.bool t) s2) : Wp (evE v c (.cmp o a b) en) s Q :=
  wp_bnd (h.mono fun x s1 h1 => wp_bnd (h1.mono fun y s2 ⟨t, e, q⟩ => wp_lift (by rw [e]; rfl) q))
theorem wp_and {a b : E} {Q : D → Src → Prop} (h : Wp (evE v c a en) s fun x s1 => ∃ t, truth x = some t ∧ (t = true → Wp (evE v c b en) s1 Q) ∧ (t = false → Q x s1)) : Wp (evE v c (.and a b) en) s Q :=
  wp_bnd (h.mono fun x s1 ⟨t, e, h1, h2⟩ => wp_bnd (wp_lift e (by
    cases t with
    | true => exact h1 rfl
    | false => exact wp_ret (h2 rfl))))
theorem wp_par2 {i1 i2 : Nat} {a b : E} {Q : Rs → Src → Prop} (h : Wp (evL v c [a, b] en) s fun ds s1 => ∃ en2, setsV [i1, i2] ds en = some en2 ∧ Q (.next en2) s1) : Wp (exS v c (.par [i1, i2] [a, b]) en) s Q :=
  wp_bnd (h.mono fun ds s1 ⟨en2, e, q⟩ => wp_bnd (wp_lift e (wp_ret q)))
end
theorem ro_nd {x : Nat} (h : x < 2 ^ 20) : RO 22 0 (nd x) := ro_int (n := 20) (i := (x : Int)) (by omega) (by decide)
theorem ro_tD {t : List Nat} (h : ∀ x ∈ t, x < 2 ^ 20) {m : Nat} (hm : t.length ≤ m) : RO (m * 24 + 3) 1 (tD t) := ro_tuple (b := 22) (k := 0) (fun d hd => by
  obtain ⟨x, hx, rfl⟩ := List.mem_map.mp hd
  exact ro_nd (h x hx)) (by rw [List.length_map]; exact hm)
theorem eqv_refl' {b k : Nat} {d : D} (h : RO b k d) : PyData.eqv d d = true := eqv_refl d h.1
end Fz
/-! FzSc: the plain calculus: dicts of one's own, reading calls. -/
namespace Fz
open PySem
section
variable {v : Bool} {c : Cl} {en : En}
theorem q_dget {a k x : E} : evE v c (.dget a k x) en = bnd (evE v c a en) fun d => bnd (evE v c k en) fun y => bnd (evE v c x en) fun z => lift (getV d y z) := rfl
theorem q_getV {kvs : List (D × D)} {k x : D} (h : likeK kvs k = true) : getV (.dict kvs) k x = some ((atD kvs k).getD x) := if_pos h
theorem q_dnew : evE v c .dnew en = ret (.dict []) := rfl
theorem q_keys {a : E} : evE v c (.keys a) en = bnd (evE v c a en) fun x => lift (keysV x) := rfl
theorem q_read {f : Nat} {a b : E} : evE v c (.read f a b) en = bnd (evE v c a en) fun x => bnd (evE v c b en) fun y => if isSeq y then c f [x, y] else fun _ => none := rfl
theorem q_seqLi {xs : List D} : isSeq (.list xs) = true := rfl
theorem q_seqTi {xs : List D} : isSeq (.tuple xs) = true := rfl
def asNewD (i : Nat) (en : En) : D → M Rs
  | .dict kvs => if keysOk kvs then ret (.next (en.set i (some (.dict kvs)))) else fun _ => none
  | _ => fun _ => none
theorem q_newD {i : Nat} {e : E} : exS v c (.newD i e) en = bnd (evE v c e en) (asNewD i en) := rfl
theorem q_asNewD {i : Nat} {kvs : List (D × D)} (h : keysOk kvs = true) : asNewD i en (.dict kvs) = ret (.next (en.set i (some (.dict kvs)))) := if_pos h
theorem q_dset {i : Nat} {k e : E} : exS v c (.dset i k e) en = bnd (evE v c e en) fun d => bnd (evE v c k en) fun kd => bnd (lift (dctAt en i)) fun kvs => if likeK kvs kd && small (kvs.length + 1) then ret (.next (en.set i (some (.dict (putD kvs kd d))))) else fun _ => none := rfl
theorem q_dctAt {i : Nat} {kvs : List (D × D)} (h : en.getD i none = some (.dict kvs)) : dctAt en i = some kvs := by
  unfold dctAt; rw [h]
theorem exS_dset {i : Nat} {k e : E} {d kd : D} {kvs : List (D × D)} (he : evE v c e en = ret d) (hk : evE v c k en = ret kd) (h : en.getD i none = some (.dict kvs)) (hl : likeK kvs kd = true) (hn : kvs.length ≤ 1000000) : exS v c (.dset i k e) en = ret (.next (en.set i (some (.dict (putD kvs kd d))))) := by
  rw [q_dset, he, bnd_ret, hk, bnd_ret, q_dctAt h, lift_ok, bnd_ret, if_pos (by rw [hl]; exact decide_eq_true (by omega))]
theorem evE_read {f : Nat} {a b : E} {x y d : D} (ha : evE v c a en = ret x) (hb : evE v c b en = ret y) (hy : isSeq y = true) (h : c f [x, y] = ret d) : evE v c (.read f a b) en = ret d := by
  rw [q_read, ha, bnd_ret, hb, bnd_ret, if_pos hy, h]
theorem wp_read {f : Nat} {a b : E} {x y : D} {s : Src} {Q : D → Src → Prop} (ha : evE v c a en = ret x) (hb : evE v c b en = ret y) (hy : isSeq y = true) (h : Wp (c f [x, y]) s Q) : Wp (evE v c (.read f a b) en) s Q := by
  rw [q_read, ha, bnd_ret, hb, bnd_ret, if_pos hy]; exact h
/-- a dict comprehension over things, its keys distinct -/
theorem evE_dcpM {β : Type} {t : Tg} {it k w : E} {d : D} {g : β → D} {κ : β → D} {h : β → D} {ws : List β} {en2 : β → En} (hi : evE v c it en = ret d) (hx : seqOf d = some (ws.map g)) (ht : ∀ x ∈ ws, tgSet t (g x) en = some (en2 x))
    (hk : ∀ x ∈ ws, evE v c k (en2 x) = ret (κ x)) (hw : ∀ x ∈ ws, evE v c w (en2 x) = ret (h x)) (hok : keysOk ((ws.map fun x => (κ x, h x))) = true) (hl : ws.length ≤ 16000000) : evE v c (.dcp t it none k w) en = ret (.dict (mergeD (ws.map fun x => (κ x, h x)))) := by
  show bnd (evE v c it en) (fun x => bnd (lift (seqOf x)) fun xs => bnd (mapL (fun d => bnd (lift (tgSet t d en)) fun en2 => bnd (evT v c none en2) fun ok => if ok then bnd (evE v c k en2) fun y => bnd (evE v c w en2) fun z => ret (some (.tuple [y, z])) else ret none) xs) fun ys => lift ((pairsOf ys).bind dictOf)) = _
  rw [hi, bnd_ret, hx, lift_ok, bnd_ret]
  rw [mapL_map (g := g) (h := fun x => .tuple [κ x, h x]) ws fun x hm => by
    rw [ht x hm, lift_ok, bnd_ret]
    show bnd (ret true) _ = _
    rw [bnd_ret, if_pos rfl, hk x hm, bnd_ret, hw x hm, bnd_ret]]
  rw [bnd_ret]
  have e : pairsOf (ws.map fun x => PyData.tuple [κ x, h x]) = some (ws.map fun x => (κ x, h x)) := by
    clear hok hw hk ht hx hl
    induction ws with
    | nil => rfl
    | cons x ws ih => show (pairsOf (ws.map fun x => PyData.tuple [κ x, h x])).map ((κ x, h x) :: ·) = _; rw [ih]; rfl
  rw [e]
  show lift (dictOf (ws.map fun x => (κ x, h x))) = _
  unfold dictOf
  have : (((ws.map fun x => (κ x, h x)).all fun p => isIK p.1) || (ws.map fun x => (κ x, h x)).all fun p => isTK p.1) = true := hok
  rw [if_pos (by rw [this, List.length_map]; exact decide_eq_true hl)]; rfl
end
theorem keysOk_T {ps : List (D × D)} (h : ∀ p ∈ ps, isTK p.1 = true) : keysOk ps = true := by
  unfold keysOk
  rw [List.all_eq_true.mpr h, Bool.or_true]
end Fz
/-! Ma: rows of integers, their rank by steps down; spans; the rank is that of a matroid. Plain. -/
namespace Fz.Ma
abbrev Ve := Nat → Int
def red (c : Nat) (h r : Ve) : Ve := fun k => r k * h c - r c * h k
def headV (c : Nat) (R : List Ve) : Option Ve := R.find? fun r => decide (r c ≠ 0)
def rk : List Nat → List Ve → Nat
  | [], _ => 0
  | c :: cs, R => match headV c R with
    | none => rk cs R
    | some h => 1 + rk cs (R.map (red c h))
/-- sums of multiples of rows -/
inductive Lin (R : List Ve) : Ve → Prop
  | zero : Lin R (fun _ => 0)
  | add {y r : Ve} (a : Int) : Lin R y → r ∈ R → Lin R (fun k => y k + a * r k)
theorem Lin.cast {R : List Ve} {y z : Ve} (h : Lin R y) (e : ∀ k, y k = z k) : Lin R z := (funext e : y = z) ▸ h
theorem Lin.mono {R R' : List Ve} (s : ∀ r ∈ R, r ∈ R') {y : Ve} (h : Lin R y) : Lin R' y := by
  induction h with
  | zero => exact .zero
  | add a _ hr ih => exact .add a ih (s _ hr)
theorem Lin.sum {R : List Ve} {y z : Ve} (hy : Lin R y) (hz : Lin R z) : Lin R (fun k => y k + z k) := by
  induction hz with
  | zero => exact hy.cast fun k => (Int.add_zero _).symm
  | @add z r a _ hr ih => exact (Lin.add a ih hr).cast fun k => by show (y k + z k) + a * r k = y k + (z k + a * r k); omega
theorem Lin.mul {R : List Ve} (m : Int) {y : Ve} (hy : Lin R y) : Lin R (fun k => m * y k) := by
  induction hy with
  | zero => exact Lin.zero.cast fun k => by simp
  | @add z r a _ hr ih => exact (Lin.add (m * a) ih hr).cast fun k => by show m * z k + m * a * r k = m * (z k + a * r k); rw [Int.mul_add, Int.mul_assoc]
theorem Lin.of {R : List Ve} {r : Ve} (h : r ∈ R) : Lin R r := (Lin.add 1 .zero h).cast fun k => by omega
theorem Lin.snoc {R : List Ve} {x w : Ve} (h : Lin (R ++ [x]) w) : ∃ z a, Lin R z ∧ ∀ k, w k = z k + a * x k := by
  induction h with
  | zero => exact ⟨_, 0, .zero, fun k => by show (0 : Int) = 0 + 0 * x k; omega⟩
  | @add y r b _ hr ih =>
    obtain ⟨z, a, h1, h2⟩ := ih
    rcases List.mem_append.mp hr with hr | hr
    · refine ⟨_, a, .add b h1 hr, fun k => ?_⟩
      have := h2 k
      show y k + b * r k = (z k + b * r k) + a * x k
      omega
    · obtain rfl := List.mem_singleton.mp hr
      refine ⟨z, a + b, h1, fun k => ?_⟩
      have := h2 k
      show y k + b * r k = z k + (a + b) * r k
      rw [Int.add_mul]
      omega
/-- in the span of rows, the columns told -/
def inSp (cs : List Nat) (R : List Ve) (x : Ve) : Prop := ∃ (k : Int) (y : Ve), k ≠ 0 ∧ Lin R y ∧ ∀ c ∈ cs, k * x c = y c
section
variable {cs : List Nat} {R R' : List Ve} {x y : Ve}
theorem inSp.mono (s : ∀ r ∈ R, r ∈ R') (h : inSp cs R x) : inSp cs R' x := let ⟨k, y, h1, h2, h3⟩ := h; ⟨k, y, h1, h2.mono s, h3⟩
theorem inSp.of (h : x ∈ R) : inSp cs R x := ⟨1, x, by decide, .of h, fun c _ => by omega⟩
theorem inSp.zero : inSp cs R (fun _ => 0) := ⟨1, _, by decide, .zero, fun c _ => rfl⟩
theorem inSp.lin (s : ∀ r ∈ R, inSp cs R' r) (h : Lin R y) : inSp cs R' y := by
  induction h with
  | zero => exact .zero
  | @add z r a _ hr ih =>
    obtain ⟨k1, y1, n1, l1, e1⟩ := ih
    obtain ⟨k2, y2, n2, l2, e2⟩ := s r hr
    refine ⟨k1 * k2, _, Int.mul_ne_zero n1 n2, (l1.mul k2).sum (l2.mul (a * k1)), fun c hc => ?_⟩
    show k1 * k2 * (z c + a * r c) = k2 * y1 c + a * k1 * y2 c
    rw [← e1 c hc, ← e2 c hc]
    grind
theorem inSp.trans (s : ∀ r ∈ R, inSp cs R' r) (h : inSp cs R x) : inSp cs R' x := by
  obtain ⟨k, y, n, l, e⟩ := h
  obtain ⟨k2, y2, n2, l2, e2⟩ := inSp.lin s l
  refine ⟨k2 * k, y2, Int.mul_ne_zero n2 n, l2, fun c hc => ?_⟩
  rw [Int.mul_assoc, e c hc, e2 c hc]
theorem inSp.exch (h1 : ¬ inSp cs R y) (h2 : inSp cs (R ++ [x]) y) : inSp cs (R ++ [y]) x := by
  obtain ⟨k, w, n, l, e⟩ := h2
  obtain ⟨z, a, lz, ew⟩ := l.snoc
  have na : a ≠ 0 := fun q => h1 ⟨k, z, n, lz, fun c hc => by rw [e c hc, ew c, q]; omega⟩
  refine ⟨a, _, na, (Lin.mul k (.of (List.mem_append_right R (List.mem_singleton.mpr rfl)))).sum (Lin.mul (-1) (lz.mono fun r hr => List.mem_append_left _ hr)), fun c hc => ?_⟩
  have := e c hc
  have := ew c
  show a * x c = k * y c + -1 * z c
  omega
end
/-- what the steps down tell -/
def inS : List Nat → List Ve → Ve → Prop
  | [], _, _ => True
  | c :: cs, R, x => match headV c R with
    | none => x c = 0 ∧ inS cs R x
    | some h => inS cs (R.map (red c h)) (red c h x)
theorem lin_red {c : Nat} {h : Ve} {R : List Ve} {y : Ve} (l : Lin R y) : Lin (R.map (red c h)) (red c h y) := by
  induction l with
  | zero => exact Lin.zero.cast fun k => by simp [red]
  | @add z r a _ hr ih => 
    refine (Lin.add a ih (List.mem_map.mpr ⟨r, hr, rfl⟩)).cast fun k => ?_
    show red c h z k + a * red c h r k = red c h (fun k => z k + a * r k) k
    unfold red
    grind
theorem lin_unred {c : Nat} {h : Ve} {R : List Ve} (hh : h ∈ R) {y : Ve} (l : Lin (R.map (red c h)) y) : Lin R y := by
  induction l with
  | zero => exact .zero
  | @add z r a _ hr ih =>
    obtain ⟨r0, h0, rfl⟩ := List.mem_map.mp hr
    refine (Lin.add (a * (- r0 c)) (Lin.add (a * h c) ih h0) hh).cast fun k => ?_
    show (z k + a * h c * r0 k) + a * (- r0 c) * h k = z k + a * red c h r0 k
    unfold red
    grind
theorem lin_col {c : Nat} {R : List Ve} (h : ∀ r ∈ R, r c = 0) {y : Ve} (l : Lin R y) : y c = 0 := by
  induction l with
  | zero => rfl
  | @add z r a _ hr ih => show z c + a * r c = 0; rw [ih, h r hr]; simp
theorem head_none {c : Nat} {R : List Ve} (h : headV c R = none) : ∀ r ∈ R, r c = 0 := fun r hr => by
  have := List.find?_eq_none.mp h r hr
  simpa using this
theorem head_some {c : Nat} {R : List Ve} {h : Ve} (e : headV c R = some h) : h ∈ R ∧ h c ≠ 0 := ⟨List.mem_of_find?_eq_some e, by simpa using List.find?_some e⟩
theorem inS_iff : ∀ (cs : List Nat) (R : List Ve) (x : Ve), inS cs R x ↔ inSp cs R x
  | [], R, x => ⟨fun _ => ⟨1, _, by decide, .zero, fun c hc => nomatch hc⟩, fun _ => trivial⟩
  | c :: cs, R, x => by
    unfold inS
    cases e : headV c R with
    | none =>
      have h0 := head_none e
      show x c = 0 ∧ inS cs R x ↔ _
      rw [inS_iff cs R x]
      constructor
      · rintro ⟨hx, k, y, n, l, q⟩
        refine ⟨k, y, n, l, fun d hd => ?_⟩
        rcases List.mem_cons.mp hd with rfl | hd
        · rw [hx, lin_col h0 l]; simp
        · exact q d hd
      · rintro ⟨k, y, n, l, q⟩
        refine ⟨?_, k, y, n, l, fun d hd => q d (List.mem_cons_of_mem _ hd)⟩
        have := q c (List.mem_cons_self ..)
        rw [lin_col h0 l] at this
        exact (Int.mul_eq_zero.mp this).resolve_left n
    | some h =>
      obtain ⟨hh, nh⟩ := head_some e
      show inS cs (R.map (red c h)) (red c h x) ↔ _
      rw [inS_iff cs _ _]
      constructor
      · rintro ⟨k, y, n, l, q⟩
        have lu := lin_unred hh l
        -- k * (h c * x - x c * h) = y on the columns; on c both are 0
        refine ⟨k * h c, _, Int.mul_ne_zero n nh, lu.add (k * x c) hh, fun d hd => ?_⟩
        show k * h c * x d = y d + k * x c * h d
        rcases List.mem_cons.mp hd with rfl | hd
        · have : y d = 0 := by
            refine lin_col (fun r hr => ?_) l
            obtain ⟨r0, _, rfl⟩ := List.mem_map.mp hr
            show r0 d * h d - r0 d * h d = 0
            omega
          rw [this]
          grind
        · have := q d hd
          unfold red at this
          grind
      · rintro ⟨k, y, n, l, q⟩
        refine ⟨k, _, n, lin_red l, fun d hd => ?_⟩
        have q1 := q c (List.mem_cons_self ..)
        have q2 := q d (List.mem_cons_of_mem _ hd)
        unfold red
        rw [← q1, ← q2]
        grind
theorem rk_scale (m : Int) (hm : m ≠ 0) : ∀ (cs : List Nat) (R : List Ve), rk cs (R.map fun r k => r k * m) = rk cs R := by
  intro cs
  induction cs generalizing m with
  | nil => intro R; rfl
  | cons c cs ih =>
    intro R
    have e : headV c (R.map fun r k => r k * m) = (headV c R).map fun r k => r k * m := by
      unfold headV
      rw [List.find?_map]
      congr 2
      funext r
      show decide (r c * m ≠ 0) = decide (r c ≠ 0)
      exact decide_eq_decide.mpr ⟨fun h z => h (by rw [z]; simp), fun h => Int.mul_ne_zero h hm⟩
    unfold rk
    rw [e]
    cases headV c R with
    | none => exact ih m hm R
    | some h =>
      show 1 + rk cs (List.map (red c fun k => h k * m) (List.map (fun r k => r k * m) R)) = 1 + rk cs (R.map (red c h))
      rw [← ih (m * m) (Int.mul_ne_zero hm hm) (R.map (red c h)), List.map_map, List.map_map]
      congr 3
      funext r k
      show r k * m * (h c * m) - r c * m * (h k * m) = (r k * h c - r c * h k) * (m * m)
      grind
open Classical in
theorem rk_snoc : ∀ (cs : List Nat) (R : List Ve) (x : Ve), rk cs (R ++ [x]) = rk cs R + if inSp cs R x then 0 else 1
  | [], R, x => by
    rw [if_pos ((inS_iff [] R x).mp trivial)]; rfl
  | c :: cs, R, x => by
    have hs := inS_iff (c :: cs) R x
    unfold inS at hs
    unfold rk
    cases e : headV c R with
    | some h =>
      rw [e] at hs
      have e2 : headV c (R ++ [x]) = some h := by
        unfold headV at e ⊢
        rw [List.find?_append, e]; rfl
      rw [e2]
      show 1 + rk cs ((R ++ [x]).map (red c h)) = 1 + rk cs (R.map (red c h)) + _
      rw [List.map_append, List.map_singleton, rk_snoc cs _ _]
      have : (if inSp cs (R.map (red c h)) (red c h x) then 0 else 1) = if inSp (c :: cs) R x then 0 else 1 := by
        have hs : inS cs (R.map (red c h)) (red c h x) ↔ inSp (c :: cs) R x := hs
        rw [inS_iff] at hs
        by_cases q : inSp (c :: cs) R x
        · rw [if_pos q, if_pos (hs.mpr q)]
        · rw [if_neg q, if_neg (fun z => q (hs.mp z))]
      rw [this]; omega
    | none =>
      rw [e] at hs
      have hs : x c = 0 ∧ inS cs R x ↔ inSp (c :: cs) R x := hs
      have h0 := head_none e
      by_cases hx : x c = 0
      · have e2 : headV c (R ++ [x]) = none := by
          unfold headV at e ⊢
          rw [List.find?_append, e]
          simp [hx]
        rw [e2]
        show rk cs (R ++ [x]) = rk cs R + _
        rw [rk_snoc cs R x]
        congr 1
        rw [inS_iff] at hs
        by_cases q : inSp (c :: cs) R x
        · rw [if_pos q, if_pos (hs.mpr q).2]
        · rw [if_neg q, if_neg (fun z => q (hs.mp ⟨hx, z⟩))]
      · have e2 : headV c (R ++ [x]) = some x := by
          unfold headV at e ⊢
          rw [List.find?_append, e]
          simp [hx]
        rw [e2]
        show 1 + rk cs ((R ++ [x]).map (red c x)) = rk cs R + _
        rw [if_neg (fun z => hx (hs.mpr z).1), List.map_append, List.map_singleton]
        have e3 : R.map (red c x) = R.map fun r k => r k * x c := by
          refine List.map_congr_left fun r hr => ?_
          funext k
          show r k * x c - r c * x k = r k * x c
          rw [h0 r hr]; omega
        have e4 : red c x x = fun _ => 0 := by
          funext k
          show x k * x c - x c * x k = 0
          grind
        rw [e3, e4, rk_snoc cs _ _, if_pos .zero, rk_scale (x c) hx]
        omega
theorem rk_nil : ∀ cs : List Nat, rk cs [] = 0
  | [] => rfl
  | c :: cs => by
    show (match headV c [] with | none => rk cs [] | some h => 1 + rk cs ([].map (red c h))) = 0
    exact rk_nil cs
open Classical in
theorem rk_swap (cs : List Nat) (R : List Ve) (x y : Ve) : rk cs (R ++ [x, y]) = rk cs (R ++ [y, x]) := by
  have e : ∀ a b : Ve, R ++ [a, b] = (R ++ [a]) ++ [b] := fun a b => by simp
  rw [e, e, rk_snoc, rk_snoc, rk_snoc, rk_snoc]
  have up : ∀ {a b : Ve}, inSp cs R a → inSp cs (R ++ [b]) a := fun h => h.mono fun r hr => List.mem_append_left _ hr
  -- what the other one adds nothing to
  have down : ∀ {a b : Ve}, inSp cs R b → inSp cs (R ++ [b]) a → inSp cs R a := fun {a b} hb h => h.trans fun r hr => by
    rcases List.mem_append.mp hr with hr | hr
    · exact .of hr
    · rw [List.mem_singleton.mp hr]; exact hb
  by_cases hx : inSp cs R x
  · by_cases hy : inSp cs R y
    · rw [if_pos hx, if_pos hy, if_pos (up hy), if_pos (up hx)]
    · rw [if_pos hx, if_neg hy, if_neg (fun z => hy (down hx z)), if_pos (up hx)]
  · by_cases hy : inSp cs R y
    · rw [if_neg hx, if_pos hy, if_pos (up hy), if_neg (fun z => hx (down hy z))]
    · rw [if_neg hx, if_neg hy]
      by_cases q : inSp cs (R ++ [x]) y
      · rw [if_pos q, if_pos (inSp.exch hy q)]
      · rw [if_neg q, if_neg (fun z => q (inSp.exch hx z))]
open Classical in
theorem rk_tail {cs : List Nat} {A B : List Ve} (e : rk cs A = rk cs B) (m : ∀ r, r ∈ A ↔ r ∈ B) (T : List Ve) : rk cs (A ++ T) = rk cs (B ++ T) := by
  induction T generalizing A B with
  | nil => simpa using e
  | cons t T ih =>
    have h : rk cs (A ++ [t]) = rk cs (B ++ [t]) := by
      rw [rk_snoc, rk_snoc, e]
      congr 1
      by_cases q : inSp cs A t
      · rw [if_pos q, if_pos (q.mono fun r hr => (m r).mp hr)]
      · rw [if_neg q, if_neg (fun z => q (z.mono fun r hr => (m r).mpr hr))]
    have := ih h fun r => by simp [m r]
    simpa using this
theorem rk_perm {cs : List Nat} {A B : List Ve} (p : A.Perm B) : rk cs A = rk cs B := by
  have h : ∀ {A B : List Ve}, A.Perm B → ∀ P : List Ve, rk cs (P ++ A) = rk cs (P ++ B) := by
    intro A B p
    induction p with
    | nil => intro P; rfl
    | cons x _ ih =>
      intro P
      have := ih (P ++ [x])
      simpa using this
    | swap x y l =>
      intro P
      have := rk_tail (rk_swap cs P y x) (fun r => by simp; grind) l
      simpa using this
    | trans _ _ h1 h2 => intro P; rw [h1 P, h2 P]
  simpa using h p []
end Fz.Ma
/-! Mb: lots, their sums, broken rounds. Plain. -/
namespace Fz.Ma
open Classical in
structure Mtd (r : List Nat → Nat) (cl : List Nat → Nat → Prop) : Prop where
  nil : r [] = 0
  snoc : ∀ l x, r (l ++ [x]) = r l + if cl l x then 0 else 1
  perm : ∀ {l l' : List Nat}, l.Perm l' → r l = r l'
  mono : ∀ {l l' : List Nat} {e : Nat}, (∀ x ∈ l, x ∈ l') → cl l e → cl l' e
  of : ∀ {l : List Nat} {e : Nat}, e ∈ l → cl l e
  trans : ∀ {l l' : List Nat} {e : Nat}, (∀ x ∈ l, cl l' x) → cl l e → cl l' e
  exch : ∀ {l : List Nat} {x y : Nat}, ¬ cl l y → cl (l ++ [x]) y → cl (l ++ [y]) x
theorem mtd_of (cs : List Nat) (ρ : Nat → Ve) : Mtd (fun l => rk cs (l.map ρ)) (fun l e => inSp cs (l.map ρ) (ρ e)) where
  nil := rk_nil cs
  snoc := fun l x => by rw [List.map_append, List.map_singleton, rk_snoc]
  perm := fun p => rk_perm (p.map ρ)
  mono := fun s h => h.mono fun r hr => by
    obtain ⟨x, hx, rfl⟩ := List.mem_map.mp hr
    exact List.mem_map.mpr ⟨x, s x hx, rfl⟩
  of := fun h => .of (List.mem_map.mpr ⟨_, h, rfl⟩)
  trans := fun s h => h.trans fun r hr => by
    obtain ⟨x, hx, rfl⟩ := List.mem_map.mp hr
    exact s x hx
  exch := fun h1 h2 => by
    rw [List.map_append, List.map_singleton] at h2 ⊢
    exact inSp.exch h1 h2
theorem rk_le (cs : List Nat) : ∀ R : List Ve, rk cs R ≤ cs.length := by
  induction cs with
  | nil => intro R; exact Nat.le_refl _
  | cons c cs ih =>
    intro R
    unfold rk
    cases headV c R with
    | none => exact Nat.le_succ_of_le (ih R)
    | some h => have := ih (R.map (red c h)); show 1 + rk cs (R.map (red c h)) ≤ cs.length + 1; omega
theorem back {l : List Nat} (ne : l ≠ []) : l.dropLast ++ [l.getLast ne] = l := List.dropLast_concat_getLast ne
theorem to_end (x : Nat) (l : List Nat) : (x :: l).Perm (l ++ [x]) := (List.perm_append_comm (l₁ := [x]) (l₂ := l))
theorem snoc_ind {P : List Nat → Prop} (h0 : P []) (h1 : ∀ l x, P l → P (l ++ [x])) (l : List Nat) : P l := by
  have h : ∀ n (l : List Nat), l.length = n → P l := by
    intro n
    induction n with
    | zero => intro l hl; rw [List.length_eq_zero_iff.mp hl]; exact h0
    | succ n ih =>
      intro l hl
      have ne : l ≠ [] := fun z => by rw [z] at hl; cases hl
      rw [← back ne]
      exact h1 _ _ (ih _ (by rw [List.length_dropLast]; omega))
  exact h _ l rfl
section
variable {r : List Nat → Nat} {cl : List Nat → Nat → Prop} (M : Mtd r cl)
include M
theorem Mtd.le (l : List Nat) : r l ≤ l.length := by
  refine snoc_ind (P := fun l => r l ≤ l.length) (by rw [M.nil]; exact Nat.le_refl _) (fun l x ih => ?_) l
  rw [M.snoc, List.length_append, List.length_singleton]
  split <;> omega
theorem Mtd.yes {l : List Nat} {x : Nat} (h : cl l x) : r (l ++ [x]) = r l := by rw [M.snoc, if_pos h]; rfl
theorem Mtd.no {l : List Nat} {x : Nat} (h : ¬ cl l x) : r (l ++ [x]) = r l + 1 := by rw [M.snoc, if_neg h]
theorem Mtd.dep (l : List Nat) : r l < l.length → ∃ i, ∃ h : i < l.length, cl (l.eraseIdx i) l[i] := by
  refine snoc_ind (P := fun l => r l < l.length → ∃ i, ∃ h : i < l.length, cl (l.eraseIdx i) l[i]) (fun h => absurd h (Nat.not_lt_zero _)) (fun l x ih h => ?_) l
  by_cases c : cl l x
  · refine ⟨l.length, by simp, ?_⟩
    rw [List.eraseIdx_append_of_length_le (Nat.le_refl _)]
    simpa using c
  · rw [M.no c, List.length_append, List.length_singleton] at h
    obtain ⟨i, hi, q⟩ := ih (by omega)
    refine ⟨i, by rw [List.length_append]; omega, ?_⟩
    rw [List.eraseIdx_append_of_lt_length hi, List.getElem_append_left hi]
    exact M.mono (fun y hy => List.mem_append_left _ hy) q
theorem perm_erase (l : List Nat) : ∀ (i : Nat) (h : i < l.length), l.Perm (l.eraseIdx i ++ [l[i]]) := by
  intro i h
  have : l.Perm (l[i] :: l.eraseIdx i) := by
    induction l generalizing i with
    | nil => exact absurd h (Nat.not_lt_zero _)
    | cons x l ih =>
      cases i with
      | zero => exact List.Perm.refl _
      | succ i =>
        have := ih i (by simpa using h)
        exact (this.cons x).trans (List.Perm.swap _ _ _)
  exact this.trans (to_end _ _)
theorem Mtd.erase {l : List Nat} (h : r l = l.length) {i : Nat} (hi : i < l.length) : r (l.eraseIdx i) = l.length - 1 := by
  have e := M.perm (perm_erase M l i hi)
  have h1 := M.le (l.eraseIdx i)
  have h2 : (l.eraseIdx i).length = l.length - 1 := List.length_eraseIdx_of_lt hi
  rw [M.snoc] at e
  split at e <;> omega
end
/-! ### lots -/
abbrev Asc (l : List Nat) : Prop := l.Pairwise (· < ·)
def subsS (L : List Nat) : List (List Nat) := L.foldl (fun acc i => acc ++ acc.map (· ++ [i])) [[]]
def lots (m : Nat) : List (List Nat) := subsS (List.range m)
theorem subsS_snoc (L : List Nat) (x : Nat) : subsS (L ++ [x]) = subsS L ++ (subsS L).map (· ++ [x]) := by
  unfold subsS; rw [List.foldl_append]; rfl
theorem lots_succ (m : Nat) : lots (m + 1) = lots m ++ (lots m).map (· ++ [m]) := by
  unfold lots; rw [List.range_succ, subsS_snoc]
theorem lots_mem : ∀ (m : Nat) (l : List Nat), l ∈ lots m ↔ Asc l ∧ ∀ x ∈ l, x < m
  | 0, l => by
    have : lots 0 = [[]] := rfl
    rw [this, List.mem_singleton]
    constructor
    · rintro rfl; exact ⟨.nil, fun x h => nomatch h⟩
    · rintro ⟨_, h⟩
      cases l with
      | nil => rfl
      | cons x l => exact absurd (h x (List.mem_cons_self ..)) (Nat.not_lt_zero _)
  | m + 1, l => by
    rw [lots_succ, List.mem_append, List.mem_map, lots_mem m l]
    constructor
    · rintro (⟨h1, h2⟩ | ⟨l', h, rfl⟩)
      · exact ⟨h1, fun x hx => Nat.lt_succ_of_lt (h2 x hx)⟩
      · obtain ⟨h1, h2⟩ := (lots_mem m l').mp h
        refine ⟨List.pairwise_append.mpr ⟨h1, List.pairwise_singleton _ _, fun a ha b hb => ?_⟩, fun x hx => ?_⟩
        · rw [List.mem_singleton.mp hb]; exact h2 a ha
        · rcases List.mem_append.mp hx with hx | hx
          · exact Nat.lt_succ_of_lt (h2 x hx)
          · rw [List.mem_singleton.mp hx]; exact Nat.lt_succ_self m
    · rintro ⟨h1, h2⟩
      by_cases q : ∀ x ∈ l, x < m
      · exact .inl ⟨h1, q⟩
      · right
        have ne : l ≠ [] := fun z => q (by rw [z]; intro x hx; cases hx)
        refine ⟨l.dropLast, ?_, ?_⟩
        · rw [← back ne] at h1 h2
          obtain ⟨a1, _, a3⟩ := List.pairwise_append.mp h1
          refine (lots_mem m _).mpr ⟨a1, fun x hx => ?_⟩
          have := a3 x hx _ (List.mem_singleton.mpr rfl)
          have := h2 (l.getLast ne) (by simp)
          omega
        · have e : l.getLast ne = m := by
            rw [← back ne] at h1 h2
            obtain ⟨a1, _, a3⟩ := List.pairwise_append.mp h1
            have lt := h2 (l.getLast ne) (by simp)
            refine Classical.byContradiction fun z => q fun x hx => ?_
            rw [← back ne] at hx
            rcases List.mem_append.mp hx with hx | hx
            · have := a3 x hx _ (List.mem_singleton.mpr rfl)
              omega
            · rw [List.mem_singleton.mp hx]; omega
          rw [← e]; exact back ne
theorem lots_nodup : ∀ m, (lots m).Nodup
  | 0 => by decide
  | m + 1 => by
    rw [lots_succ]
    refine List.nodup_append.mpr ⟨lots_nodup m, ?_, ?_⟩
    · exact List.Pairwise.map (R := (· ≠ ·)) (S := (· ≠ ·)) _ (fun a b h e => h (List.append_inj_left' e rfl)) (lots_nodup m)
    · intro a ha b hb e
      obtain ⟨c, _, rfl⟩ := List.mem_map.mp hb
      have := ((lots_mem m a).mp ha).2 m (by rw [e]; simp)
      exact Nat.lt_irrefl _ this
/-! ### sums over lots -/
def sumC : List Nat → (List Nat → Int) → Int
  | [], f => f []
  | x :: L, f => sumC L f + sumC L fun S => f (x :: S)
theorem sumC_snoc : ∀ (L : List Nat) (x : Nat) (f : List Nat → Int), sumC (L ++ [x]) f = sumC L f + sumC L fun S => f (S ++ [x])
  | [], x, f => rfl
  | y :: L, x, f => by
    show sumC (L ++ [x]) f + sumC (L ++ [x]) (fun S => f (y :: S)) = (sumC L f + sumC L fun S => f (y :: S)) + (sumC L (fun S => f (S ++ [x])) + sumC L fun S => f (y :: S ++ [x]))
    rw [sumC_snoc L x f, sumC_snoc L x _]
    show _ + (sumC L (fun S => f (y :: S)) + sumC L fun S => f (y :: (S ++ [x]))) = _
    simp only [List.cons_append]
    omega
theorem sum_subsS (L : List Nat) : ∀ f : List Nat → Int, ((subsS L).map f).sum = sumC L f := by
  refine snoc_ind (P := fun L => ∀ f : List Nat → Int, ((subsS L).map f).sum = sumC L f) (fun f => by simp [subsS, sumC]) (fun L x ih f => ?_) L
  rw [subsS_snoc, List.map_append, List.sum_append, ih f, List.map_map, sumC_snoc]
  congr 1
  exact ih (f ∘ (· ++ [x]))
theorem sumC_perm {L L' : List Nat} (p : L.Perm L') : ∀ f : List Nat → Int, (∀ {a b : List Nat}, a.Perm b → f a = f b) → sumC L f = sumC L' f := by
  induction p with
  | nil => intro f _; rfl
  | cons x _ ih =>
    intro f hf
    show sumC _ f + sumC _ _ = sumC _ f + sumC _ _
    rw [ih f hf, ih (fun S => f (x :: S)) fun q => hf (q.cons x)]
  | swap x y l =>
    intro f hf
    show (sumC l f + sumC l fun S => f (x :: S)) + (sumC l (fun S => f (y :: S)) + sumC l fun S => f (y :: x :: S)) = (sumC l f + sumC l fun S => f (y :: S)) + (sumC l (fun S => f (x :: S)) + sumC l fun S => f (x :: y :: S))
    have : (fun S => f (y :: x :: S)) = fun S => f (x :: y :: S) := by funext S; exact hf (List.Perm.swap x y S)
    rw [this]; omega
  | trans _ _ h1 h2 => intro f hf; rw [h1 f hf, h2 f hf]
theorem sumC_map (π : Nat → Nat) : ∀ (L : List Nat) (f : List Nat → Int), sumC L (fun S => f (S.map π)) = sumC (L.map π) f
  | [], f => rfl
  | x :: L, f => by
    show sumC L _ + sumC L _ = sumC (L.map π) f + sumC (L.map π) _
    rw [sumC_map π L f, ← sumC_map π L fun S => f (π x :: S)]
    rfl
theorem sum_lots (m : Nat) (f : List Nat → Int) : ((lots m).map f).sum = sumC (List.range m) f := sum_subsS _ f
theorem sum_add {α : Type} (l : List α) (f g : α → Int) : (l.map fun x => f x + g x).sum = (l.map f).sum + (l.map g).sum := by
  induction l with
  | nil => rfl
  | cons x l ih => simp only [List.map_cons, List.sum_cons, ih]; omega
theorem sum_zero {α : Type} (l : List α) : (l.map fun _ => (0 : Int)).sum = 0 := by
  induction l with
  | nil => rfl
  | cons x l ih => simp only [List.map_cons, List.sum_cons, ih]; omega
theorem sum_neg {α : Type} (l : List α) (f : α → Int) : (l.map fun x => - f x).sum = - (l.map f).sum := by
  induction l with
  | nil => rfl
  | cons x l ih => simp only [List.map_cons, List.sum_cons, ih]; omega
/-! ### broken rounds -/
def sg (S : List Nat) : Int := 1 - 2 * ((S.length : Int) % 2)
theorem sg_snoc (S : List Nat) (x : Nat) : sg (S ++ [x]) = - sg S := by
  unfold sg; rw [List.length_append, List.length_singleton]; omega
theorem sg_perm {a b : List Nat} (p : a.Perm b) : sg a = sg b := by unfold sg; rw [p.length_eq]
section
variable {r : List Nat → Nat} {cl : List Nat → Nat → Prop} (M : Mtd r cl)
/-- the sign of a lot of a rank -/
def wt (r : List Nat → Nat) (k : Nat) (S : List Nat) : Int := if r S = k then sg S else 0
/-- no plane below e is in the span of the lot's later ones -/
def nb (cl : List Nat → Nat → Prop) (e : Nat) (S : List Nat) : Prop := ∀ x, x < e → ¬ cl (S.filter fun y => decide (x < y)) x
include M
theorem wt_perm {k : Nat} {a b : List Nat} (p : a.Perm b) : wt r k a = wt r k b := by unfold wt; rw [M.perm p, sg_perm p]
theorem perm_mid (U : List Nat) (e : Nat) (T : List Nat) : (U ++ e :: T).Perm ((U ++ T) ++ [e]) := by
  have : (U ++ e :: T).Perm (e :: (U ++ T)) := List.perm_middle
  exact this.trans (to_end _ _)
open Classical in
theorem broken_sum (k : Nat) : ∀ (e : Nat) (T : List Nat), (∀ x ∈ T, e ≤ x) → ((lots e).map fun U => wt r k (U ++ T)).sum = ((lots e).map fun U => if nb cl e (U ++ T) then wt r k (U ++ T) else 0).sum
  | 0, T, h => by
    congr 1
    refine List.map_congr_left fun U _ => ?_
    rw [if_pos (show nb cl 0 (U ++ T) from fun x hx => absurd hx (Nat.not_lt_zero _))]
  | e + 1, T, h => by
    have split2 : ∀ f : List Nat → Int, ((lots (e + 1)).map fun U => f (U ++ T)).sum = ((lots e).map fun U => f (U ++ T)).sum + ((lots e).map fun U => f (U ++ e :: T)).sum := fun f => by
      rw [lots_succ, List.map_append, List.sum_append, List.map_map]
      congr 3
      funext U
      simp
    have fil : ∀ U, U ∈ lots e → ((U ++ T).filter fun y => decide (e < y)) = T ∧ ((U ++ e :: T).filter fun y => decide (e < y)) = T := fun U hU => by
      have hu := ((lots_mem e U).mp hU).2
      have f1 : U.filter (fun y => decide (e < y)) = [] := List.filter_eq_nil_iff.mpr fun y hy => by simpa using Nat.le_of_lt (hu y hy)
      have f2 : T.filter (fun y => decide (e < y)) = T := List.filter_eq_self.mpr fun y hy => decide_eq_true (h y hy)
      rw [List.filter_append, List.filter_append, f1, f2]
      refine ⟨rfl, ?_⟩
      rw [List.filter_cons_of_neg (by simp), f2]
      rfl
    rw [split2 fun S => wt r k S, split2 fun S => if nb cl (e + 1) S then wt r k S else 0]
    by_cases c : cl T e
    · -- with it and without it
      have e1 : ((lots e).map fun U => wt r k (U ++ e :: T)) = (lots e).map fun U => - wt r k (U ++ T) := by
        refine List.map_congr_left fun U _ => ?_
        rw [wt_perm M (perm_mid M U e T)]
        unfold wt
        rw [M.yes (M.mono (fun x hx => List.mem_append_right _ hx) c), sg_snoc]
        split <;> omega
      have no : ∀ (f : List Nat → List Nat), (∀ U ∈ lots e, ((f U).filter fun y => decide (e < y)) = T) → ((lots e).map fun U => if nb cl (e + 1) (f U) then wt r k (f U) else 0) = (lots e).map fun _ => (0 : Int) := fun f hf => by
        refine List.map_congr_left fun U hU => if_neg fun z => z e (Nat.lt_succ_self e) ?_
        rw [hf U hU]; exact c
      rw [e1, sum_neg, no _ fun U hU => (fil U hU).1, no _ fun U hU => (fil U hU).2, sum_zero]
      omega
    · have yes : ∀ (f : List Nat → List Nat), (∀ U ∈ lots e, ((f U).filter fun y => decide (e < y)) = T) → ((lots e).map fun U => if nb cl (e + 1) (f U) then wt r k (f U) else 0) = (lots e).map fun U => if nb cl e (f U) then wt r k (f U) else 0 := fun f hf => by
        refine List.map_congr_left fun U hU => ?_
        have : nb cl (e + 1) (f U) ↔ nb cl e (f U) := by
          constructor
          · exact fun z x hx => z x (Nat.lt_succ_of_lt hx)
          · intro z x hx
            rcases Nat.lt_succ_iff_lt_or_eq.mp hx with hx | rfl
            · exact z x hx
            · rw [hf U hU]; exact c
        by_cases q : nb cl e (f U)
        · rw [if_pos q, if_pos (this.mpr q)]
        · rw [if_neg q, if_neg (fun z => q (this.mp z))]
      rw [yes _ fun U hU => (fil U hU).1, yes _ fun U hU => (fil U hU).2, broken_sum k e T fun x hx => Nat.le_of_succ_le (h x hx), broken_sum k e (e :: T) fun x hx => by
        rcases List.mem_cons.mp hx with rfl | hx
        · exact Nat.le_refl _
        · exact Nat.le_of_succ_le (h x hx)]
open Classical in
theorem broken_poly (k m : Nat) : ((lots m).map (wt r k)).sum = ((lots m).map fun U => if nb cl m U then wt r k U else 0).sum := by
  have := broken_sum M k m [] fun x hx => nomatch hx
  simpa using this
theorem asc_filter {x : Nat} {S : List Nat} (h : Asc (x :: S)) : ((x :: S).filter fun y => decide (x < y)) = S := by
  rw [List.filter_cons_of_neg (by simp)]
  exact List.filter_eq_self.mpr fun y hy => by simpa using (List.pairwise_cons.mp h).1 y hy
theorem free_of_nb : ∀ (S : List Nat), Asc S → (∀ x ∈ S, ¬ cl (S.filter fun y => decide (x < y)) x) → r S = S.length
  | [], _, _ => M.nil
  | x :: S, h, q => by
    obtain ⟨h1, h2⟩ := List.pairwise_cons.mp h
    have p := to_end x S
    have c := q x (List.mem_cons_self ..)
    rw [asc_filter M h] at c
    rw [M.perm p, M.no c, free_of_nb S h2 fun y hy => ?_, List.length_cons]
    have := q y (List.mem_cons_of_mem _ hy)
    rw [List.filter_cons_of_neg (by simpa using Nat.le_of_lt (h1 y hy))] at this
    exact this
/-- a round: dependent, each less one plane is not -/
def circ (r : List Nat → Nat) (C : List Nat) : Prop := r C ≠ C.length ∧ ∀ i, i < C.length → r (C.eraseIdx i) = C.length - 1
theorem nb_iff {m : Nat} {S : List Nat} (hS : S ∈ lots m) : nb cl m S ↔ ∀ C ∈ lots m, circ r C → ¬ ∀ x ∈ C.tail, x ∈ S := by
  obtain ⟨aS, bS⟩ := (lots_mem m S).mp hS
  constructor
  · intro h C hC ⟨c1, c2⟩ hs
    obtain ⟨aC, bC⟩ := (lots_mem m C).mp hC
    cases C with
    | nil => exact c1 M.nil
    | cons x D =>
      have hD : r D = D.length := c2 0 (Nat.succ_pos _)
      have p := to_end x D
      have cx : cl D x := Classical.byContradiction fun z => c1 (by rw [M.perm p, M.no z, hD, List.length_cons])
      refine h x (bC x (List.mem_cons_self ..)) (M.mono (fun y hy => ?_) cx)
      rw [List.mem_filter]
      exact ⟨hs y hy, by simpa using (List.pairwise_cons.mp aC).1 y hy⟩
  · intro h x hx c
    -- a least lot of later planes whose span has it
    have least : ∀ n (D : List Nat), D.length = n → Asc D → (∀ y ∈ D, y ∈ S ∧ x < y) → cl D x → ∃ D', Asc D' ∧ (∀ y ∈ D', y ∈ S ∧ x < y) ∧ cl D' x ∧ ∀ i, i < D'.length → ¬ cl (D'.eraseIdx i) x := by
      intro n
      induction n with
      | zero =>
        intro D hl hA hs hc
        refine ⟨D, hA, hs, hc, fun i hi => absurd hi (by omega)⟩
      | succ n ih =>
        intro D hl hA hs hc
        by_cases q : ∃ i, i < D.length ∧ cl (D.eraseIdx i) x
        · obtain ⟨i, hi, hq⟩ := q
          exact ih (D.eraseIdx i) (by rw [List.length_eraseIdx_of_lt hi]; omega) (hA.sublist (List.eraseIdx_sublist ..)) (fun y hy => hs y ((List.eraseIdx_sublist ..).subset hy)) hq
        · exact ⟨D, hA, hs, hc, fun i hi z => q ⟨i, hi, z⟩⟩
    obtain ⟨D, aD, sD, cD, lD⟩ := least _ (S.filter fun y => decide (x < y)) rfl (aS.sublist List.filter_sublist) (fun y hy => by simpa using List.mem_filter.mp hy) c
    have p := to_end x D
    have fD : r D = D.length := by
      have := M.le D
      refine Classical.byContradiction fun z => ?_
      obtain ⟨i, hi, q⟩ := M.dep D (by omega)
      refine lD i hi (M.trans (fun y hy => ?_) cD)
      have hy2 : y ∈ D.eraseIdx i ++ [D[i]] := (perm_erase M D i hi).mem_iff.mp hy
      rcases List.mem_append.mp hy2 with hy2 | hy2
      · exact M.of hy2
      · rw [List.mem_singleton.mp hy2]; exact q
    have aC : Asc (x :: D) := List.pairwise_cons.mpr ⟨fun y hy => (sD y hy).2, aD⟩
    refine h (x :: D) ((lots_mem m _).mpr ⟨aC, fun y hy => ?_⟩) ⟨?_, fun i hi => ?_⟩ (fun y hy => (sD y hy).1)
    · rcases List.mem_cons.mp hy with rfl | hy
      · exact hx
      · exact bS y (sD y hy).1
    · rw [M.perm p, M.yes cD, fD, List.length_cons]; omega
    · cases i with
      | zero => exact fD
      | succ i =>
        have hi : i < D.length := by simpa using hi
        show r (x :: D.eraseIdx i) = D.length + 1 - 1
        have p2 := to_end x (D.eraseIdx i)
        rw [M.perm p2, M.no (lD i hi), M.erase fD hi]
        omega
end
end Fz.Ma
/-! Mc: the steps down on rows that are lists. -/
namespace Fz.Ma
open Fz
def colF (r : List Int) : Ve := fun k => r.getD k 0
def stepL (c : Nat) (h r : List Int) : List Int := List.zipWith (fun x y => x * h.getD c 0 - r.getD c 0 * y) r h
def headL (c : Nat) (R : List (List Int)) : Option (List Int) := R.find? fun r => decide (r.getD c 0 ≠ 0)
theorem col_step {c d : Nat} {h r : List Int} (h1 : h.length = d) (h2 : r.length = d) : colF (stepL c h r) = red c (colF h) (colF r) := by
  funext k
  unfold colF stepL red
  rw [List.getD_eq_getElem?_getD, List.getElem?_zipWith]
  by_cases hk : k < d
  · rw [List.getElem?_eq_getElem (by omega), List.getElem?_eq_getElem (by omega)]
    simp [List.getD_eq_getElem?_getD, List.getElem?_eq_getElem (show k < r.length by omega), List.getElem?_eq_getElem (show k < h.length by omega)]
  · rw [List.getElem?_eq_none (by omega), List.getElem?_eq_none (by omega)]
    simp [List.getD_eq_getElem?_getD, List.getElem?_eq_none (show r.length ≤ k by omega), List.getElem?_eq_none (show h.length ≤ k by omega)]
theorem head_col (c : Nat) (R : List (List Int)) : headV c (R.map colF) = (headL c R).map colF := by
  unfold headV headL
  rw [List.find?_map]; rfl
/-- the state: tuples still, the rows, how many heads -/
abbrev St := Bool × List (List Int) × Nat
def stepS (s : St) (c : Nat) : St := match headL c s.2.1 with
  | none => s
  | some h => (false, s.2.1.map (stepL c h), s.2.2 + 1)
def ofLen (d : Nat) (R : List (List Int)) : Prop := ∀ r ∈ R, r.length = d
theorem stepL_len {c d : Nat} {h r : List Int} (h1 : h.length = d) (h2 : r.length = d) : (stepL c h r).length = d := by unfold stepL; rw [List.length_zipWith]; omega
theorem head_mem {c : Nat} {R : List (List Int)} {h : List Int} (e : headL c R = some h) : h ∈ R := List.mem_of_find?_eq_some e
theorem ofLen_step {d c : Nat} {R : List (List Int)} (h : ofLen d R) {hd : List Int} (e : headL c R = some hd) : ofLen d (R.map (stepL c hd)) := fun r hr => by
  obtain ⟨q, hq, rfl⟩ := List.mem_map.mp hr
  exact stepL_len (h _ (head_mem e)) (h _ hq)
theorem fold_rk {d : Nat} : ∀ (cs : List Nat) (s : St), ofLen d s.2.1 → (cs.foldl stepS s).2.2 = s.2.2 + rk cs (s.2.1.map colF)
  | [], s, _ => rfl
  | c :: cs, s, hl => by
    rw [List.foldl_cons]
    unfold rk
    rw [head_col]
    cases e : headL c s.2.1 with
    | none =>
      have : stepS s c = s := by unfold stepS; rw [e]
      rw [this]
      exact fold_rk cs s hl
    | some h =>
      have hs : stepS s c = (false, s.2.1.map (stepL c h), s.2.2 + 1) := by unfold stepS; rw [e]
      rw [hs, fold_rk cs _ (ofLen_step hl e)]
      have : (s.2.1.map (stepL c h)).map colF = (s.2.1.map colF).map (red c (colF h)) := by
        rw [List.map_map, List.map_map]
        exact List.map_congr_left fun r hr => col_step (hl _ (head_mem e)) (hl r hr)
      show s.2.2 + 1 + rk cs ((s.2.1.map (stepL c h)).map colF) = s.2.2 + (1 + rk cs ((s.2.1.map colF).map (red c (colF h))))
      rw [this]; omega
/-! ### rows of noughts left out -/
inductive Dr (cs : List Nat) : List Ve → List Ve → Prop
  | nil : Dr cs [] []
  | keep {r : Ve} {R R' : List Ve} : Dr cs R R' → Dr cs (r :: R) (r :: R')
  | drop {r : Ve} {R R' : List Ve} : (∀ c ∈ cs, r c = 0) → Dr cs R R' → Dr cs (r :: R) R'
theorem Dr.head {c : Nat} {cs : List Nat} {R R' : List Ve} (h : Dr (c :: cs) R R') : headV c R = headV c R' := by
  induction h with
  | nil => rfl
  | @keep r R R' _ ih =>
    unfold headV at ih ⊢
    rw [List.find?_cons, List.find?_cons, ih]
  | @drop r R R' z _ ih =>
    unfold headV at ih ⊢
    rw [List.find?_cons, ih]
    simp [z c (List.mem_cons_self ..)]
theorem Dr.red {c : Nat} {cs : List Nat} {R R' : List Ve} (hd : Ve) (h : Dr (c :: cs) R R') : Dr cs (R.map (red c hd)) (R'.map (red c hd)) := by
  induction h with
  | nil => exact .nil
  | keep _ ih => exact .keep ih
  | @drop r R R' z _ ih =>
    refine .drop (fun k hk => ?_) ih
    show r k * hd c - r c * hd k = 0
    rw [z k (List.mem_cons_of_mem _ hk), z c (List.mem_cons_self ..)]; omega
theorem Dr.tail {c : Nat} {cs : List Nat} {R R' : List Ve} (h : Dr (c :: cs) R R') : Dr cs R R' := by
  induction h with
  | nil => exact .nil
  | keep _ ih => exact .keep ih
  | drop z _ ih => exact .drop (fun k hk => z k (List.mem_cons_of_mem _ hk)) ih
theorem Dr.rk : ∀ {cs : List Nat} {R R' : List Ve}, Dr cs R R' → rk cs R = rk cs R'
  | [], _, _, _ => rfl
  | c :: cs, R, R', h => by
    unfold Ma.rk
    rw [h.head]
    cases headV c R' with
    | none => exact h.tail.rk
    | some hd => show 1 + Ma.rk cs (R.map (Ma.red c hd)) = 1 + Ma.rk cs (R'.map (Ma.red c hd)); rw [(h.red hd).rk]
def nz (r : List Int) : Bool := r.any fun x => decide (x ≠ 0)
theorem dr_filter (cs : List Nat) : ∀ R : List (List Int), Dr cs (R.map colF) ((R.filter nz).map colF)
  | [] => .nil
  | r :: R => by
    by_cases q : nz r = true
    · rw [List.filter_cons_of_pos q]
      exact .keep (dr_filter cs R)
    · rw [List.filter_cons_of_neg q]
      refine .drop (fun c _ => ?_) (dr_filter cs R)
      unfold colF
      rw [List.getD_eq_getElem?_getD]
      cases e : r[c]? with
      | none => rfl
      | some x =>
        refine Classical.byContradiction fun z => q (List.any_eq_true.mpr ⟨x, List.mem_of_getElem? e, ?_⟩)
        simpa using z
/-- the law's state: the rows, how many heads -/
abbrev Sl := List (List Int) × Nat
def stepW (s : Sl) (c : Nat) : Sl := match headL c s.1 with
  | none => s
  | some h => ((s.1.map (stepL c h)).filter nz, s.2 + 1)
theorem ofLen_filter {d : Nat} {R : List (List Int)} (p : List Int → Bool) (h : ofLen d R) : ofLen d (R.filter p) := fun r hr => h r (List.mem_filter.mp hr).1
theorem foldW_rk {d : Nat} : ∀ (cs : List Nat) (s : Sl), ofLen d s.1 → (cs.foldl stepW s).2 = s.2 + rk cs (s.1.map colF)
  | [], s, _ => rfl
  | c :: cs, s, hl => by
    rw [List.foldl_cons]
    unfold rk
    rw [head_col]
    cases e : headL c s.1 with
    | none =>
      have : stepW s c = s := by unfold stepW; rw [e]
      rw [this]
      exact foldW_rk cs s hl
    | some h =>
      have hs : stepW s c = ((s.1.map (stepL c h)).filter nz, s.2 + 1) := by unfold stepW; rw [e]
      rw [hs, foldW_rk cs _ (ofLen_filter _ (ofLen_step hl e))]
      have : (s.1.map (stepL c h)).map colF = (s.1.map colF).map (red c (colF h)) := by
        rw [List.map_map, List.map_map]
        exact List.map_congr_left fun r hr => col_step (hl _ (head_mem e)) (hl r hr)
      show s.2 + 1 + rk cs (((s.1.map (stepL c h)).filter nz).map colF) = s.2 + (1 + rk cs ((s.1.map colF).map (red c (colF h))))
      rw [← (dr_filter cs _).rk, this]; omega
/-! ### how great the members get -/
def ex : Nat → Nat
  | 0 => 5
  | n + 1 => 2 * ex n + 1
def small' (j : Nat) (R : List (List Int)) : Prop := ∀ r ∈ R, ∀ x ∈ r, x.natAbs < 2 ^ ex j
theorem pow_bits {a b : Nat} {x y : Int} (hx : x.natAbs < 2 ^ a) (hy : y.natAbs < 2 ^ b) : (x * y).natAbs < 2 ^ (a + b) := by
  rw [Int.natAbs_mul, Nat.pow_add]
  exact Nat.mul_lt_mul'' hx hy
theorem sub_bits {n : Nat} {x y : Int} (hx : x.natAbs < 2 ^ n) (hy : y.natAbs < 2 ^ n) : (x - y).natAbs < 2 ^ (n + 1) := by
  have : 2 ^ (n + 1) = 2 * 2 ^ n := by rw [Nat.pow_succ]; omega
  omega
theorem getD_small {j : Nat} {R : List (List Int)} (h : small' j R) {r : List Int} (hr : r ∈ R) (c : Nat) : (r.getD c 0).natAbs < 2 ^ ex j := by
  rw [List.getD_eq_getElem?_getD]
  cases e : r[c]? with
  | none => exact Nat.pow_pos (by decide)
  | some x => exact h r hr x (List.mem_of_getElem? e)
theorem small_step {j c : Nat} {R : List (List Int)} (h : small' j R) {hd : List Int} (hh : hd ∈ R) : small' (j + 1) (R.map (stepL c hd)) := fun r hr x hx => by
  obtain ⟨q, hq, rfl⟩ := List.mem_map.mp hr
  unfold stepL at hx
  obtain ⟨k, hk, e⟩ := List.mem_iff_getElem.mp hx
  rw [List.getElem_zipWith] at e
  rw [← e]
  have hk2 : k < q.length ∧ k < hd.length := by rw [List.length_zipWith] at hk; omega
  have := sub_bits (n := ex j + ex j) (pow_bits (h q hq q[k] (List.getElem_mem hk2.1)) (getD_small h hh c)) (pow_bits (getD_small h hq c) (h hd hh hd[k] (List.getElem_mem hk2.2)))
  have e2 : ex (j + 1) = ex j + ex j + 1 := by show 2 * ex j + 1 = _; omega
  rw [e2]
  exact this
theorem ex_mono {a b : Nat} (h : a ≤ b) : ex a ≤ ex b := by
  induction h with
  | refl => exact Nat.le_refl _
  | step _ ih => show _ ≤ 2 * ex _ + 1; omega
theorem small_mono {a b : Nat} (h : a ≤ b) {R : List (List Int)} (hs : small' a R) : small' b R := fun r hr x hx => Nat.lt_of_lt_of_le (hs r hr x hx) (Nat.pow_le_pow_right (by decide) (ex_mono h))
theorem small_filter {j : Nat} {R : List (List Int)} (p : List Int → Bool) (h : small' j R) : small' j (R.filter p) := fun r hr => h r (List.mem_filter.mp hr).1
theorem ex_le {j : Nat} (h : j ≤ 5) : ex j ≤ 191 := Nat.le_trans (ex_mono h) (by decide)
theorem lt250 {j : Nat} (h : j ≤ 5) {x : Int} (hx : x.natAbs < 2 ^ ex j) : x.natAbs < 2 ^ 250 := Nat.lt_of_lt_of_le hx (Nat.pow_le_pow_right (by decide) (Nat.le_trans (ex_le h) (by decide)))
/-! ### a loop over a range, by places -/
theorem forL_pos {σ J : Type} {body : D → En → M Rs} {g : Nat → D} (E : σ → J → En) (step : σ → Nat → σ) (I : Nat → σ → Prop) : ∀ (d k : Nat) (s : σ) (j : J), I k s → (∀ i s j, k ≤ i → i < k + d → I i s → ∃ j', body (g i) (E s j) = ret (.next (E (step s i) j')) ∧ I (i + 1) (step s i)) →
    ∃ j', forL body ((List.range' k d).map g) (E s j) = ret (.next (E ((List.range' k d).foldl step s) j')) ∧ I (k + d) ((List.range' k d).foldl step s)
  | 0, k, s, j, h0, _ => ⟨j, rfl, h0⟩
  | d + 1, k, s, j, h0, h => by
    obtain ⟨j1, e1, h1⟩ := h k s j (Nat.le_refl _) (by omega) h0
    obtain ⟨j2, e2, h2⟩ := forL_pos E step I d (k + 1) (step s k) j1 h1 fun i s j a b => h i s j (by omega) (by omega)
    refine ⟨j2, (forL_next e1).trans e2, ?_⟩
    rw [show k + (d + 1) = k + 1 + d by omega]
    exact h2
end Fz.Ma
/-! Md: the defs about ranks over the interpreter. -/
namespace Fz.Ma
open PySem Fz
/-! the defs' terms, as they stand in each law -/
def bRank : List S := [.par [2, 3] [.comp (.name 4) (.var 1) none (.idx (.idx (.var 0) (.int 1)) (.var 4)), .int 0], .for_ (.name 5) (.rng [.idx (.var 0) (.int 0)]) [.asg (.name 6) (.comp (.name 7) (.var 2) (some (.cmp .ne (.idx (.var 7) (.var 5)) (.int 0))) (.var 7)), .ite (.cmp .ne (.var 6) (.lst [])) [.asg (.tup [.name 8, .name 3]) (.tup [.idx (.var 6) (.int 0), .op .add (.var 3) (.int 1)]), .asg (.name 2) (.comp (.name 7) (.var 2) none (.comp (.tup [.name 9, .name 10]) (.zip (.var 7) (.var 8) true) none (.op .sub (.op .mul (.var 9) (.idx (.var 8) (.var 5))) (.op .mul (.idx (.var 7) (.var 5)) (.var 10)))))] []], .ret (.var 3)]
def bLawRank : List S := [.par [1, 2] [.comp (.name 3) (.var 0) none (.bi .list [.var 3]), .int 0], .for_ (.name 4) (.rng [.ite (.cmp .gt (.bi .len [.var 0]) (.int 0)) (.bi .len [.idx (.var 0) (.int 0)]) (.int 0)]) [.asg (.name 5) (.comp (.name 3) (.var 1) (some (.cmp .ne (.idx (.var 3) (.var 4)) (.int 0))) (.var 3)), .ite (.cmp .ne (.var 5) (.lst [])) [.parN [6, 2, 7] [false, false, true] [.idx (.var 5) (.int 0), .op .add (.var 2) (.int 1), .lst []], .for_ (.name 3) (.var 1) [.app 7 (.comp (.tup [.name 8, .name 9]) (.zip (.var 3) (.var 6) false) none (.op .sub (.op .mul (.var 8) (.idx (.var 6) (.var 4))) (.op .mul (.idx (.var 3) (.var 4)) (.var 9))))], .asg (.name 1) (.comp (.name 3) (.var 7) (some (.cmp .ne (.comp (.name 8) (.var 3) (some (.cmp .ne (.var 8) (.int 0))) (.var 8)) (.lst []))) (.var 3))] []], .ret (.var 2)]
/-! data -/
def rowT (t : Bool) (r : List Int) : D := if t then .tuple (r.map .int) else .list (r.map .int)
def tupI (r : List Int) : D := .tuple (r.map .int)
def lstI (r : List Int) : D := .list (r.map .int)
def plD (d : Nat) (rows : List (List Int)) : D := .tuple [nd d, .tuple (rows.map tupI)]
theorem seq_rowT (t : Bool) (r : List Int) : seqOf (rowT t r) = some (r.map .int) := by cases t <;> rfl
theorem idx_int {xs : List Int} {i : Nat} (h : i < xs.length) : (xs.map PyData.int)[i]? = some (.int (xs.getD i 0)) := by
  rw [List.getElem?_map, List.getElem?_eq_getElem h, List.getD_eq_getElem?_getD, List.getElem?_eq_getElem h]; rfl
theorem idxT_nat {xs : List D} {i : Nat} {d : D} (h : xs[i]? = some d) : idxV (.tuple xs) (nd i) = some d := by
  have := idxV_nat h
  exact this
theorem idx_rowT {t : Bool} {r : List Int} {i : Nat} (h : i < r.length) : idxV (rowT t r) (nd i) = some (.int (r.getD i 0)) := by
  cases t
  · exact idxV_nat (idx_int h)
  · exact idxT_nat (idx_int h)
theorem ok_rowT (t : Bool) (r : List Int) : (rowT t r).canLay0 = true ∧ (rowT t r).depth ≤ 1 := by
  have h := lay_all (k := 0) (r.map PyData.int) fun x hx => by
    obtain ⟨i, _, rfl⟩ := List.mem_map.mp hx
    exact ⟨rfl, Nat.le_refl _⟩
  cases t
  · exact ⟨h.1, by show (PyData.depthAll _ + 1 : Nat) ≤ 1; omega⟩
  · exact ⟨h.1, by show (PyData.depthAll _ + 1 : Nat) ≤ 1; omega⟩
theorem okL {k : Nat} {xs : List D} (h : ∀ x ∈ xs, x.canLay0 = true ∧ x.depth ≤ k) (hk : k + 1 ≤ 64) : okD (.list xs) = true := okT h hk
theorem ne_nilL {xs : List D} (h : okD (.list xs) = true) : cmp2 .ne (.list xs) (.list []) = some (!xs.isEmpty) := by
  have := eq_nil h
  show (if okD (.list xs) && okD (.list []) then some (!PyData.eqv (.list xs) (.list [])) else none) = _
  have e : (if okD (.list xs) && okD (.list []) then some (PyData.eqv (.list xs) (.list [])) else none) = some xs.isEmpty := this
  have o : (okD (.list xs) && okD (.list [])) = true := by rw [h]; rfl
  rw [if_pos o] at e ⊢
  rw [Option.some.inj e]
theorem filter_head {R : List (List Int)} {c : Nat} : (R.filter fun r => decide (r.getD c 0 ≠ 0)).head? = headL c R := by
  unfold headL
  rw [List.head?_filter]
theorem zip_step (c : Nat) (h r : List Int) : (r.zip h).map (fun w => w.1 * h.getD c 0 - r.getD c 0 * w.2) = stepL c h r := by
  unfold stepL
  generalize h.getD c 0 = a
  generalize r.getD c 0 = b
  induction r generalizing h with
  | nil => rfl
  | cons x r ih => cases h with
    | nil => rfl
    | cons y h =>
      have := ih h
      show _ :: (r.zip h).map _ = _ :: _
      rw [this]
section
variable {v : Bool} {c : Cl}
/-- what a row comes to, in the comprehension's own comprehension -/
theorem ev_step {en : En} {ie he re xs ys : Nat} {st : Bool} {t t2 : Bool} {r h : List Int} {i d j : Nat} (hr : r.length = d) (hh : h.length = d) (hi : i < d) (jb : j ≤ 4) (br : ∀ x ∈ r, x.natAbs < 2 ^ ex j) (bh : ∀ x ∈ h, x.natAbs < 2 ^ ex j)
    (e1 : evE v c (.var re) en = ret (rowT t r)) (e2 : evE v c (.var he) en = ret (rowT t2 h))
    (e3 : ∀ x y : D, (evE v c (.var he) ((en.set xs (some x)).set ys (some y)) = ret (rowT t2 h) ∧ evE v c (.var re) ((en.set xs (some x)).set ys (some y)) = ret (rowT t r) ∧ evE v c (.var ie) ((en.set xs (some x)).set ys (some y)) = ret (nd i) ∧ evE v c (.var xs) ((en.set xs (some x)).set ys (some y)) = ret x ∧ evE v c (.var ys) ((en.set xs (some x)).set ys (some y)) = ret y)) (len : d ≤ 1000) :
    evE v c (.comp (.tup [.name xs, .name ys]) (.zip (.var re) (.var he) st) none (.op .sub (.op .mul (.var xs) (.idx (.var he) (.var ie))) (.op .mul (.idx (.var re) (.var ie)) (.var ys)))) en = ret (lstI (stepL i h r)) := by
  have gb : ∀ {q : List Int}, (∀ x ∈ q, x.natAbs < 2 ^ ex j) → (q.getD i 0).natAbs < 2 ^ 250 := fun {q} hq => lt250 (by omega) (getD_small (j := j) (R := [q]) (fun r hr x hx => hq x (by rw [List.mem_singleton.mp hr] at hx; exact hx)) (List.mem_singleton.mpr rfl) i)
  rw [evE_compM (g := fun w : Int × Int => .tuple [.int w.1, .int w.2]) (h := fun w => .int (w.1 * h.getD i 0 - r.getD i 0 * w.2)) (ws := r.zip h) (d := .list ((r.zip h).map fun w => .tuple [.int w.1, .int w.2]))
    (evE_zip (f := .int) (g := .int) e1 e2 (seq_rowT t r) (seq_rowT t2 h) (fun _ => by omega)) rfl (by rw [List.length_zip]; omega) ?_]
  · show ret (PyData.list ((r.zip h).map ((fun x => PyData.int x) ∘ fun w => w.1 * h.getD i 0 - r.getD i 0 * w.2))) = _
    rw [← List.map_map, zip_step]; rfl
  · intro w hw
    have wr := List.of_mem_zip hw
    refine ⟨(en.set xs (some (.int w.1))).set ys (some (.int w.2)), rfl, ?_⟩
    obtain ⟨q1, q2, q3, q4, q5⟩ := e3 (.int w.1) (.int w.2)
    refine evE_op (evE_op q4 (evE_idx q1 q3 (idx_rowT (by omega))) (op2_mul (lt250 (by omega) (br _ wr.1)) (gb bh))) (evE_op (evE_idx q2 q3 (idx_rowT (by omega))) q5 (op2_mul (gb br) (lt250 (by omega) (bh _ wr.2)))) rfl
abbrev JR := Option D × Option D × Option D
def eR (p l : D) (s : St) (j : JR) : En := [some p, some l, some (.list (s.2.1.map (rowT s.1))), some (nd s.2.2), none, j.1, j.2.1, none, j.2.2, none, none]
def IR (d : Nat) (i : Nat) (s : St) : Prop := ofLen d s.2.1 ∧ small' i s.2.1 ∧ s.2.1.length ≤ 1000
def bodyR : List S := [.asg (.name 6) (.comp (.name 7) (.var 2) (some (.cmp .ne (.idx (.var 7) (.var 5)) (.int 0))) (.var 7)), .ite (.cmp .ne (.var 6) (.lst [])) [.asg (.tup [.name 8, .name 3]) (.tup [.idx (.var 6) (.int 0), .op .add (.var 3) (.int 1)]), .asg (.name 2) (.comp (.name 7) (.var 2) none (.comp (.tup [.name 9, .name 10]) (.zip (.var 7) (.var 8) true) none (.op .sub (.op .mul (.var 9) (.idx (.var 8) (.var 5))) (.op .mul (.idx (.var 7) (.var 5)) (.var 10)))))] []]
theorem turnR {d : Nat} (hd : d ≤ 5) {p l : D} (i : Nat) (s : St) (j : JR) (hi : i < d) (I : IR d i s) : ∃ j', fTurn v c (.name 5) bodyR (nd i) (eR p l s j) = ret (.next (eR p l (stepS s i) j')) ∧ IR d (i + 1) (stepS s i) := by
  obtain ⟨t, R, k⟩ := s
  obtain ⟨I1, I2, I3⟩ := I
  have I1 : ofLen d R := I1
  have I2 : small' i R := I2
  have I3 : R.length ≤ 1000 := I3
  have lm : ∀ x ∈ R.filter (fun r => decide (r.getD i 0 ≠ 0)), x ∈ R := fun x hx => (List.mem_filter.mp hx).1
  have a1 : evE v c (.comp (.name 7) (.var 2) (some (.cmp .ne (.idx (.var 7) (.var 5)) (.int 0))) (.var 7)) [some p, some l, some (.list (R.map (rowT t))), some (nd k), none, some (nd i), j.2.1, none, j.2.2, none, none] = ret (.list ((R.filter fun r => decide (r.getD i 0 ≠ 0)).map (rowT t))) := by
    refine evE_compF (d := .list (R.map (rowT t))) (g := rowT t) (h := rowT t) (p := fun r => decide (r.getD i 0 ≠ 0)) (ws := R) rfl rfl (by omega) fun r hr => ⟨_, rfl, ?_, fun _ => rfl⟩
    refine evE_cmp (x := .int (r.getD i 0)) (y := .int 0) (evE_idx (x := rowT t r) (y := nd i) rfl rfl (idx_rowT (by rw [I1 r hr]; exact hi))) rfl ?_
    rw [q_neI]; congr 1; simp
  have okf : okD (.list ((R.filter fun r => decide (r.getD i 0 ≠ 0)).map (rowT t))) = true := okL (k := 1) (fun x hx => by
    obtain ⟨r, _, rfl⟩ := List.mem_map.mp hx
    exact ok_rowT t r) (by decide)
  have hh := filter_head (R := R) (c := i)
  show ∃ j', exL v c bodyR [some p, some l, some (.list (R.map (rowT t))), some (nd k), none, some (nd i), j.2.1, none, j.2.2, none, none] = _ ∧ _
  cases e : headL i R with
  | none =>
    have e0 : (R.filter fun r => decide (r.getD i 0 ≠ 0)) = [] := by
      rw [e] at hh
      exact List.head?_eq_none_iff.mp hh
    rw [e0] at a1
    have es : stepS (t, R, k) i = (t, R, k) := by unfold stepS; rw [show headL i (t, R, k).2.1 = none from e]
    refine ⟨(some (nd i), some (.list []), j.2.2), ?_, es.symm ▸ ⟨I1, small_mono (Nat.le_succ i) I2, I3⟩⟩
    rw [es]
    show exL v c bodyR _ = _
    unfold bodyR
    rw [exL_next (exS_asg (en2 := [some p, some l, some (.list (R.map (rowT t))), some (nd k), none, some (nd i), some (.list []), none, j.2.2, none, none]) a1 rfl)]
    rw [exL_next (exS_skip (evE_cmp (x := .list []) (y := .list []) rfl rfl rfl))]; rfl
  | some h =>
    have hm : h ∈ R := head_mem e
    rw [e] at hh
    obtain ⟨rest, er⟩ : ∃ rest, (R.filter fun r => decide (r.getD i 0 ≠ 0)) = h :: rest := by
      cases q : (R.filter fun r => decide (r.getD i 0 ≠ 0)) with
      | nil => rw [q] at hh; cases hh
      | cons a r => rw [q] at hh; cases hh; exact ⟨r, rfl⟩
    rw [er] at a1 okf
    have es : stepS (t, R, k) i = (false, R.map (stepL i h), k + 1) := by unfold stepS; rw [show headL i (t, R, k).2.1 = some h from e]
    refine ⟨(some (nd i), some (.list ((h :: rest).map (rowT t))), some (rowT t h)), ?_, es.symm ▸ ⟨ofLen_step I1 e, small_step I2 hm, by show (R.map _).length ≤ _; rw [List.length_map]; exact I3⟩⟩
    rw [es]
    show exL v c bodyR _ = _
    unfold bodyR
    rw [exL_next (exS_asg (en2 := [some p, some l, some (.list (R.map (rowT t))), some (nd k), none, some (nd i), some (.list ((h :: rest).map (rowT t))), none, j.2.2, none, none]) a1 rfl)]
    have a2 : evE v c (.cmp .ne (.var 6) (.lst [])) [some p, some l, some (.list (R.map (rowT t))), some (nd k), none, some (nd i), some (.list ((h :: rest).map (rowT t))), none, j.2.2, none, none] = ret (.bool true) := evE_cmp (x := .list ((h :: rest).map (rowT t))) (y := .list []) rfl rfl (ne_nilL okf)
    have a3 : evE v c (.tup [.idx (.var 6) (.int 0), .op .add (.var 3) (.int 1)]) [some p, some l, some (.list (R.map (rowT t))), some (nd k), none, some (nd i), some (.list ((h :: rest).map (rowT t))), none, j.2.2, none, none] = ret (.tuple [rowT t h, nd (k + 1)]) := evE_tup2 rfl (evE_idx (x := .list ((h :: rest).map (rowT t))) (y := .int 0) rfl rfl (idx0 rfl)) rfl
    have a4 : evE v c (.comp (.name 7) (.var 2) none (.comp (.tup [.name 9, .name 10]) (.zip (.var 7) (.var 8) true) none (.op .sub (.op .mul (.var 9) (.idx (.var 8) (.var 5))) (.op .mul (.idx (.var 7) (.var 5)) (.var 10))))) [some p, some l, some (.list (R.map (rowT t))), some (nd (k + 1)), none, some (nd i), some (.list ((h :: rest).map (rowT t))), none, some (rowT t h), none, none] = ret (.list ((R.map (stepL i h)).map (rowT false))) := by
      rw [List.map_map]
      refine evE_compM (d := .list (R.map (rowT t))) (g := rowT t) (h := rowT false ∘ stepL i h) (ws := R) rfl rfl (by omega) fun r hr => ⟨_, rfl, ?_⟩
      exact ev_step (t := t) (t2 := t) (r := r) (h := h) (I1 r hr) (I1 h hm) hi (by omega) (I2 r hr) (I2 h hm) rfl rfl (fun x y => ⟨rfl, rfl, rfl, rfl, rfl⟩) (by omega)
    rw [exL_next (en2 := [some p, some l, some (.list ((R.map (stepL i h)).map (rowT false))), some (nd (k + 1)), none, some (nd i), some (.list ((h :: rest).map (rowT t))), none, some (rowT t h), none, none])]
    · rfl
    · rw [exS_if a2 rfl, if_pos rfl, exL_next (exS_asg a3 rfl)]
      exact exL_next (r := []) (exS_asg a4 rfl)
/-- rows of planes, by their numbers -/
def ρ (rows : List (List Int)) (i : Nat) : Ve := colF (rows.getD i [])
def rkL (d : Nat) (rows : List (List Int)) (l : List Nat) : Nat := rk (List.range d) (l.map (ρ rows))
structure Pl (d : Nat) (rows : List (List Int)) : Prop where
  d0 : 1 ≤ d
  d5 : d ≤ 5
  len : ofLen d rows
  few : rows.length ≤ 100
  bit : small' 0 rows
theorem idx_rows {rows : List (List Int)} {i : Nat} (h : i < rows.length) : idxV (.tuple (rows.map tupI)) (nd i) = some (tupI (rows.getD i [])) := by
  refine idxT_nat ?_
  rw [List.getElem?_map, List.getElem?_eq_getElem h, List.getD_eq_getElem?_getD, List.getElem?_eq_getElem h]; rfl
theorem run_rank {d : Nat} {rows : List (List Int)} (A : Pl d rows) {l : List Nat} (hl : ∀ x ∈ l, x < rows.length) (hn : l.length ≤ 100) : exL v c bRank [some (plD d rows), some (tD l), none, none, none, none, none, none, none, none, none] = ret (.ret (nd (rkL d rows l))) := by
  have mem : ∀ r ∈ l.map (fun i => rows.getD i []), r ∈ rows := fun r hr => by
    obtain ⟨i, hi, rfl⟩ := List.mem_map.mp hr
    have := hl i hi
    rw [List.getD_eq_getElem?_getD, List.getElem?_eq_getElem this]
    exact List.getElem_mem this
  have a1 : evL v c [.comp (.name 4) (.var 1) none (.idx (.idx (.var 0) (.int 1)) (.var 4)), .int 0] [some (plD d rows), some (tD l), none, none, none, none, none, none, none, none, none] = ret [.list ((l.map fun i => rows.getD i []).map (rowT true)), nd 0] := by
    refine evL_2 rfl ?_ rfl
    rw [List.map_map]
    exact evE_compM (d := tD l) (g := nd) (h := rowT true ∘ fun i => rows.getD i []) (ws := l) rfl rfl (by omega) fun i hi => ⟨_, rfl, evE_idx (x := .tuple (rows.map tupI)) (y := nd i) (evE_idx (x := plD d rows) (y := .int 1) rfl rfl rfl) rfl (idx_rows (hl i hi))⟩
  have ar : evE v c (.rng [.idx (.var 0) (.int 0)]) (eR (plD d rows) (tD l) (true, l.map (fun i => rows.getD i []), 0) (none, none, none)) = ret (.list ((List.range d).map nd)) := evE_rng rfl rfl (by have := A.d5; omega)
  obtain ⟨j', e, _⟩ := forL_pos (body := fTurn v c (.name 5) bodyR) (g := nd) (eR (plD d rows) (tD l)) stepS (IR d) d 0 (true, l.map (fun i => rows.getD i []), 0) (none, none, none) ⟨fun r hr => A.len r (mem r hr), fun r hr => A.bit r (mem r hr), by rw [List.length_map]; omega⟩
    fun i s j _ hi I => turnR A.d5 i s j (by omega) I
  rw [← List.range_eq_range'] at e
  unfold bRank
  rw [exL_next (en2 := eR (plD d rows) (tD l) (true, l.map (fun i => rows.getD i []), 0) (none, none, none))]
  · show exL v c (.for_ (.name 5) (.rng [.idx (.var 0) (.int 0)]) bodyR :: _) _ = _
    rw [exL_next (en2 := eR (plD d rows) (tD l) ((List.range d).foldl stepS (true, l.map (fun i => rows.getD i []), 0)) j')]
    · refine exL_ret (exS_ret ?_)
      show ret (nd _) = _
      rw [fold_rk (d := d) _ _ (fun r hr => A.len r (mem r hr)), Nat.zero_add, List.map_map]; rfl
    · rw [q_for, ar, bnd_ret, q_seqL, lift_ok, bnd_ret, e]
  · rw [q_par, a1, bnd_ret]; rfl
end
end Fz.Ma
/-! Me: the law's own rank. -/
namespace Fz.Ma
open PySem Fz
def rowsA (t : Bool) (R : List (List Int)) : D := if t then .tuple (R.map tupI) else .list (R.map tupI)
section
variable {v : Bool} {c : Cl}
abbrev JW := Option D × Option D × Option D × Option D × Option D
def eW (p : D) (s : Sl) (j : JW) : En := [some p, some (.list (s.1.map lstI)), some (nd s.2), j.1, j.2.1, j.2.2.1, j.2.2.2.1, j.2.2.2.2, none, none]
def IW (d : Nat) (i : Nat) (s : Sl) : Prop := ofLen d s.1 ∧ small' i s.1 ∧ s.1.length ≤ 1000
def stE : E := .comp (.tup [.name 8, .name 9]) (.zip (.var 3) (.var 6) false) none (.op .sub (.op .mul (.var 8) (.idx (.var 6) (.var 4))) (.op .mul (.idx (.var 3) (.var 4)) (.var 9)))
def flE : E := .comp (.name 3) (.var 7) (some (.cmp .ne (.comp (.name 8) (.var 3) (some (.cmp .ne (.var 8) (.int 0))) (.var 8)) (.lst []))) (.var 3)
def bodyW : List S := [.asg (.name 5) (.comp (.name 3) (.var 1) (some (.cmp .ne (.idx (.var 3) (.var 4)) (.int 0))) (.var 3)), .ite (.cmp .ne (.var 5) (.lst [])) [.parN [6, 2, 7] [false, false, true] [.idx (.var 5) (.int 0), .op .add (.var 2) (.int 1), .lst []], .for_ (.name 3) (.var 1) [.app 7 stE], .asg (.name 1) flE] []]
theorem nz_filter (r : List Int) : (!(((r.filter fun x => decide (x ≠ 0)).map PyData.int).isEmpty)) = nz r := by
  unfold nz
  induction r with
  | nil => rfl
  | cons x r ih =>
    rw [List.filter_cons, List.any_cons]
    cases decide (x ≠ 0)
    · rw [Bool.false_or, ← ih]; rfl
    · rfl
theorem turnW {d : Nat} (hd : d ≤ 5) {p : D} (i : Nat) (s : Sl) (j : JW) (hi : i < d) (I : IW d i s) : ∃ j', fTurn v c (.name 4) bodyW (nd i) (eW p s j) = ret (.next (eW p (stepW s i) j')) ∧ IW d (i + 1) (stepW s i) := by
  obtain ⟨R, k⟩ := s
  obtain ⟨j3, j4, j5, j6, j7⟩ := j
  obtain ⟨I1, I2, I3⟩ := I
  have I1 : ofLen d R := I1
  have I2 : small' i R := I2
  have I3 : R.length ≤ 1000 := I3
  have rt : ∀ r : List Int, lstI r = rowT false r := fun _ => rfl
  have a1 : evE v c (.comp (.name 3) (.var 1) (some (.cmp .ne (.idx (.var 3) (.var 4)) (.int 0))) (.var 3)) [some p, some (.list (R.map lstI)), some (nd k), j3, some (nd i), j5, j6, j7, none, none] = ret (.list ((R.filter fun r => decide (r.getD i 0 ≠ 0)).map lstI)) := by
    refine evE_compF (d := .list (R.map lstI)) (g := lstI) (h := lstI) (p := fun r => decide (r.getD i 0 ≠ 0)) (ws := R) rfl rfl (by omega) fun r hr => ⟨_, rfl, ?_, fun _ => rfl⟩
    refine evE_cmp (x := .int (r.getD i 0)) (y := .int 0) (evE_idx (x := lstI r) (y := nd i) rfl rfl (idx_rowT (t := false) (by rw [I1 r hr]; exact hi))) rfl ?_
    rw [q_neI]; congr 1; simp
  have okf : okD (.list ((R.filter fun r => decide (r.getD i 0 ≠ 0)).map lstI)) = true := okL (k := 1) (fun x hx => by
    obtain ⟨r, _, rfl⟩ := List.mem_map.mp hx
    exact ok_rowT false r) (by decide)
  have hh := filter_head (R := R) (c := i)
  show ∃ j', exL v c bodyW [some p, some (.list (R.map lstI)), some (nd k), j3, some (nd i), j5, j6, j7, none, none] = _ ∧ _
  cases e : headL i R with
  | none =>
    have e0 : (R.filter fun r => decide (r.getD i 0 ≠ 0)) = [] := by
      rw [e] at hh
      exact List.head?_eq_none_iff.mp hh
    rw [e0] at a1
    have es : stepW (R, k) i = (R, k) := by unfold stepW; rw [show headL i (R, k).1 = none from e]
    refine ⟨(j3, some (nd i), some (.list []), j6, j7), ?_, es.symm ▸ ⟨I1, small_mono (Nat.le_succ i) I2, I3⟩⟩
    rw [es]
    unfold bodyW
    rw [exL_next (exS_asg (en2 := [some p, some (.list (R.map lstI)), some (nd k), j3, some (nd i), some (.list []), j6, j7, none, none]) a1 rfl)]
    rw [exL_next (exS_skip (evE_cmp (x := .list []) (y := .list []) rfl rfl rfl))]; rfl
  | some h =>
    have hm : h ∈ R := head_mem e
    rw [e] at hh
    obtain ⟨rest, er⟩ : ∃ rest, (R.filter fun r => decide (r.getD i 0 ≠ 0)) = h :: rest := by
      cases q : (R.filter fun r => decide (r.getD i 0 ≠ 0)) with
      | nil => rw [q] at hh; cases hh
      | cons a r => rw [q] at hh; cases hh; exact ⟨r, rfl⟩
    rw [er] at a1 okf
    have es : stepW (R, k) i = ((R.map (stepL i h)).filter nz, k + 1) := by unfold stepW; rw [show headL i (R, k).1 = some h from e]
    -- the rows less multiples of the head
    obtain ⟨j', el⟩ := forL_app (J := Option D) (body := fTurn v c (.name 3) [.app 7 stE]) (g := lstI) (h := lstI ∘ stepL i h) (fun acc j => [some p, some (.list (R.map lstI)), some (nd (k + 1)), j, some (nd i), some (.list ((h :: rest).map lstI)), some (lstI h), some (.list acc), none, none]) R [] j3 (by simp; omega)
      fun acc j r hr hl => by
        refine ⟨some (lstI r), ?_⟩
        show exL v c [.app 7 stE] [some p, some (.list (R.map lstI)), some (nd (k + 1)), some (lstI r), some (nd i), some (.list ((h :: rest).map lstI)), some (lstI h), some (.list acc), none, none] = _
        have ev : evE v c stE [some p, some (.list (R.map lstI)), some (nd (k + 1)), some (lstI r), some (nd i), some (.list ((h :: rest).map lstI)), some (lstI h), some (.list acc), none, none] = ret (lstI (stepL i h r)) :=
          ev_step (t := false) (t2 := false) (r := r) (h := h) (I1 r hr) (I1 h hm) hi (by omega) (I2 r hr) (I2 h hm) rfl rfl (fun x y => ⟨rfl, rfl, rfl, rfl, rfl⟩) (by omega)
        rw [exL_next (exS_app ev rfl (q_small (by omega)))]; rfl
    refine ⟨(j', some (nd i), some (.list ((h :: rest).map lstI)), some (lstI h), some (.list (R.map (lstI ∘ stepL i h)))), ?_, es.symm ▸ ⟨ofLen_filter _ (ofLen_step I1 e), small_filter _ (small_step I2 hm), Nat.le_trans (List.length_filter_le _ _) (by rw [List.length_map]; exact I3)⟩⟩
    rw [es]
    unfold bodyW
    rw [exL_next (exS_asg (en2 := [some p, some (.list (R.map lstI)), some (nd k), j3, some (nd i), some (.list ((h :: rest).map lstI)), j6, j7, none, none]) a1 rfl)]
    have a2 : evE v c (.cmp .ne (.var 5) (.lst [])) [some p, some (.list (R.map lstI)), some (nd k), j3, some (nd i), some (.list ((h :: rest).map lstI)), j6, j7, none, none] = ret (.bool true) := evE_cmp (x := .list ((h :: rest).map lstI)) (y := .list []) rfl rfl (ne_nilL okf)
    have a4 : evE v c flE [some p, some (.list (R.map lstI)), some (nd (k + 1)), j', some (nd i), some (.list ((h :: rest).map lstI)), some (lstI h), some (.list (R.map (lstI ∘ stepL i h))), none, none] = ret (.list (((R.map (stepL i h)).filter nz).map lstI)) := by
      refine evE_compF (d := .list ((R.map (stepL i h)).map lstI)) (g := lstI) (h := lstI) (p := nz) (ws := R.map (stepL i h)) (by rw [List.map_map]; rfl) rfl (by rw [List.length_map]; omega) fun r hr => ⟨_, rfl, ?_, fun _ => rfl⟩
      have b1 : ∀ en : En, en.getD 3 none = some (lstI r) → (∀ x, (en.set 8 (some x)).getD 8 none = some x) → evE v c (.comp (.name 8) (.var 3) (some (.cmp .ne (.var 8) (.int 0))) (.var 8)) en = ret (.list ((r.filter fun x => decide (x ≠ 0)).map .int)) := fun en h3 h8 => by
        have rl : r.length = d := ofLen_step I1 e r hr
        refine evE_compF (d := lstI r) (g := .int) (h := .int) (p := fun x => decide (x ≠ 0)) (ws := r) (by show lift _ = _; rw [h3]; rfl) rfl (by omega) fun x hx => ⟨_, rfl, ?_, fun _ => by show lift _ = _; rw [h8]; rfl⟩
        refine evE_cmp (x := .int x) (y := .int 0) (by show lift _ = _; rw [h8]; rfl) rfl ?_
        rw [q_neI]; congr 1; simp
      refine evE_cmp (b1 _ rfl fun x => rfl) (y := .list []) rfl ?_
      rw [ne_nilL (okLi _ fun x : Int => x), nz_filter]
    rw [exL_next (en2 := [some p, some (.list (((R.map (stepL i h)).filter nz).map lstI)), some (nd (k + 1)), j', some (nd i), some (.list ((h :: rest).map lstI)), some (lstI h), some (.list (R.map (lstI ∘ stepL i h))), none, none])]
    · rfl
    · rw [exS_if a2 rfl, if_pos rfl]
      rw [exL_next (en2 := [some p, some (.list (R.map lstI)), some (nd (k + 1)), j3, some (nd i), some (.list ((h :: rest).map lstI)), some (lstI h), some (.list []), none, none]) (by
        have aN : evL v c [.idx (.var 5) (.int 0), .op .add (.var 2) (.int 1), .lst []] [some p, some (.list (R.map lstI)), some (nd k), j3, some (nd i), some (.list ((h :: rest).map lstI)), j6, j7, none, none] = ret [lstI h, nd (k + 1), .list []] := by
          show bnd (evE v c (.idx (.var 5) (.int 0)) _) _ = _
          rw [evE_idx (x := .list ((h :: rest).map lstI)) (y := .int 0) rfl rfl (idx0 rfl), bnd_ret]; rfl
        rw [q_parN, aN, bnd_ret]; rfl)]
      rw [exL_next (en2 := [some p, some (.list (R.map lstI)), some (nd (k + 1)), j', some (nd i), some (.list ((h :: rest).map lstI)), some (lstI h), some (.list (R.map (lstI ∘ stepL i h))), none, none])]
      · exact exL_next (r := []) (exS_asg a4 rfl)
      · rw [q_for]
        show bnd (ret (PyData.list (R.map lstI))) _ = _
        rw [bnd_ret, q_seqL, lift_ok, bnd_ret]
        simpa using el
theorem run_lawRank {d : Nat} (d5 : d ≤ 5) {t : Bool} {R : List (List Int)} (hl : ofLen d R) (hb : small' 0 R) (hn : R.length ≤ 1000) : exL v c bLawRank [some (rowsA t R), none, none, none, none, none, none, none, none, none] = ret (.ret (nd (rk (List.range d) (R.map colF)))) := by
  have sq : seqOf (rowsA t R) = some (R.map tupI) := by cases t <;> rfl
  have ln : biV .len [rowsA t R] = some (nd R.length) := by
    cases t
    · show some (PyData.int ((R.map tupI).length : Nat)) = _; rw [List.length_map]; rfl
    · show some (PyData.int ((R.map tupI).length : Nat)) = _; rw [List.length_map]; rfl
  have a1 : evL v c [.comp (.name 3) (.var 0) none (.bi .list [.var 3]), .int 0] [some (rowsA t R), none, none, none, none, none, none, none, none, none] = ret [.list (R.map lstI), nd 0] :=
    evL_2 rfl (evE_compM (d := rowsA t R) (g := tupI) (h := lstI) (ws := R) rfl sq (by omega) fun r hr => ⟨_, rfl, evE_bi1 (x := tupI r) rfl rfl rfl⟩) rfl
  have ar : evE v c (.rng [.ite (.cmp .gt (.bi .len [.var 0]) (.int 0)) (.bi .len [.idx (.var 0) (.int 0)]) (.int 0)]) (eW (rowsA t R) (R, 0) (none, none, none, none, none)) = ret (.list ((List.range (if R.isEmpty then 0 else d)).map nd)) := by
    refine evE_rng rfl ?_ (by split <;> omega)
    have c1 : evE v c (.cmp .gt (.bi .len [.var 0]) (.int 0)) (eW (rowsA t R) (R, 0) (none, none, none, none, none)) = ret (.bool (decide ((0 : Int) < ((R.length : Nat) : Int)))) := evE_cmp (evE_bi1 (x := rowsA t R) rfl rfl ln) (y := .int 0) rfl rfl
    rw [q_ite, c1, bnd_ret]
    show (if decide ((0 : Int) < ((R.length : Nat) : Int)) = true then _ else _) = _
    cases R with
    | nil => rfl
    | cons r R =>
      have i0 : idxV (rowsA t (r :: R)) (.int 0) = some (tupI r) := by
        cases t
        · exact idx0 rfl
        · exact idxT_nat (xs := (r :: R).map tupI) (i := 0) rfl
      have len : r.length = d := hl r (List.mem_cons_self ..)
      rw [if_pos (by simp)]
      refine evE_bi1 rfl (evE_idx (x := rowsA t (r :: R)) (y := .int 0) rfl rfl i0) ?_
      show some (PyData.int ((r.map PyData.int).length : Nat)) = _
      rw [List.length_map, len]; rfl
  obtain ⟨j', e, _⟩ := forL_pos (body := fTurn v c (.name 4) bodyW) (g := nd) (eW (rowsA t R)) stepW (IW d) (if R.isEmpty then 0 else d) 0 (R, 0) (none, none, none, none, none) ⟨hl, hb, hn⟩ fun i s j _ hi I => turnW d5 i s j (by
    split at hi <;> omega) I
  rw [← List.range_eq_range'] at e
  unfold bLawRank
  rw [exL_next (en2 := eW (rowsA t R) (R, 0) (none, none, none, none, none))]
  · show exL v c (.for_ (.name 4) _ bodyW :: _) _ = _
    rw [exL_next (en2 := eW (rowsA t R) ((List.range (if R.isEmpty then 0 else d)).foldl stepW (R, 0)) j')]
    · refine exL_ret (exS_ret ?_)
      show ret (nd _) = _
      rw [foldW_rk (d := d) _ _ hl, Nat.zero_add]
      cases R with
      | nil => show ret (nd (rk (List.range 0) [])) = _; rw [rk_nil, List.map_nil, rk_nil]
      | cons r R => rfl
    · rw [q_for, ar, bnd_ret, q_seqL, lift_ok, bnd_ret, e]
  · rw [q_par, a1, bnd_ret]; rfl
end
end Fz.Ma
/-! Mf: lots as data: all of them, sorted, keys without repeats, sums by ranks. -/
namespace Fz.Ma
open PySem Fz
/-! ### sorted lots -/
def castL (l : List Nat) : List Int := l.map fun x : Nat => (x : Int)
def backL (l : List Int) : List Nat := l.map Int.toNat
theorem back_cast (l : List Nat) : backL (castL l) = l := by
  unfold backL castL
  rw [List.map_map]
  exact List.map_id' _
theorem seq_tD (l : List Nat) : seqOf (tD l) = some (l.map nd) := rfl
def srtL (L : List (List Nat)) : List (List Nat) := (sortT (L.map castL)).map backL
theorem srtL_perm (L : List (List Nat)) : (srtL L).Perm L := by
  have := (sortT_perm' (L.map castL)).map backL
  rw [List.map_map] at this
  have e : (backL ∘ castL : List Nat → List Nat) = id := by funext l; exact back_cast l
  rw [e, List.map_id] at this
  exact this
where
  insT_perm' (x : List Int) : ∀ l, (insT x l).Perm (x :: l)
    | [] => List.Perm.refl _
    | y :: r => by
      unfold insT
      by_cases h : lexI x y = true
      · rw [if_pos h]
      · rw [if_neg h]
        exact ((insT_perm' x r).cons y).trans (List.Perm.swap x y r)
  sortT_perm' : ∀ l : List (List Int), (sortT l).Perm l
    | [] => List.Perm.refl _
    | x :: r => (insT_perm' x _).trans ((sortT_perm' r).cons x)
theorem cast_srtL (L : List (List Nat)) : (srtL L).map castL = sortT (L.map castL) := by
  unfold srtL
  rw [List.map_map]
  have : ∀ l ∈ sortT (L.map castL), (castL ∘ backL) l = l := fun l hl => by
    have := (srtL_perm.sortT_perm' (L.map castL)).mem_iff.mp hl
    obtain ⟨q, _, rfl⟩ := List.mem_map.mp this
    show castL (backL (castL q)) = castL q
    rw [back_cast]
  rw [List.map_congr_left this, List.map_id']
theorem tD_cast (l : List Nat) : tD l = .tuple ((castL l).map .int) := by
  unfold tD castL
  rw [List.map_map]; rfl
theorem tups_tD : ∀ L : List (List Nat), tupsOf (L.map tD) = some (L.map castL)
  | [] => rfl
  | l :: L => by
    show (intsOf (l.map nd)).bind (fun ns => (tupsOf (L.map tD)).map (ns :: ·)) = _
    rw [ints_nd, tups_tD L]; rfl
theorem sortV_tD (L : List (List Nat)) : sortV (L.map tD) = some (.list ((srtL L).map tD)) := by
  cases L with
  | nil => rfl
  | cons l L =>
    show (tupsOf ((l :: L).map tD)).map (fun nss => PyData.list ((sortT nss).map fun ns => .tuple (ns.map .int))) = _
    rw [tups_tD, Option.map_some, ← cast_srtL, List.map_map]
    congr 3
    funext q
    exact (tD_cast q).symm
/-! ### keys without repeats -/
def kd (L : List (List Nat)) : List (List Nat) := L.foldl (fun acc x => if x ∈ acc then acc else acc ++ [x]) []
theorem mem_fold (L : List (List Nat)) : ∀ (acc : List (List Nat)) (x : List Nat), x ∈ L.foldl (fun acc x => if x ∈ acc then acc else acc ++ [x]) acc ↔ x ∈ acc ∨ x ∈ L := by
  induction L with
  | nil => intro acc x; simp
  | cons y L ih =>
    intro acc x
    rw [List.foldl_cons, ih]
    by_cases h : y ∈ acc
    · rw [if_pos h]
      constructor
      · rintro (q | q)
        · exact .inl q
        · exact .inr (List.mem_cons_of_mem _ q)
      · rintro (q | q)
        · exact .inl q
        · rcases List.mem_cons.mp q with rfl | q
          · exact .inl h
          · exact .inr q
    · rw [if_neg h, List.mem_append, List.mem_singleton, List.mem_cons, or_assoc]
theorem mem_kd {L : List (List Nat)} {x : List Nat} : x ∈ kd L ↔ x ∈ L := by
  unfold kd; rw [mem_fold]; simp
theorem hasD_keys {kvs : List (D × D)} {L : List (List Nat)} (h : kvs.map (·.1) = L.map tD) (x : List Nat) : hasD kvs (tD x) = decide (x ∈ L) := by
  unfold hasD
  induction kvs generalizing L with
  | nil => cases L with
    | nil => rfl
    | cons _ _ => cases h
  | cons p r ih => cases L with
    | nil => cases h
    | cons y L =>
      rw [List.map_cons, List.map_cons] at h
      obtain ⟨h1, h2⟩ := List.cons.inj h
      rw [List.any_cons, ih h2, h1, same_tD]
      by_cases e : y = x
      · subst e; simp
      · have : x ≠ y := Ne.symm e
        simp [e, this]
theorem keys_put {kvs : List (D × D)} {L : List (List Nat)} (h : kvs.map (·.1) = L.map tD) (x : List Nat) (d : D) : (putD kvs (tD x) d).map (·.1) = (if x ∈ L then L else L ++ [x]).map tD := by
  unfold putD
  rw [hasD_keys h x]
  by_cases q : x ∈ L
  · rw [if_pos q, if_pos (decide_eq_true q), List.map_map, ← h]
    refine List.map_congr_left fun p _ => ?_
    show (if _ then (p.1, d) else p).1 = p.1
    split <;> rfl
  · rw [if_neg q, if_neg (by simp [q]), List.map_append, List.map_append, h]; rfl
theorem keys_merge {α : Type} (f : α → List Nat) (g : α → D) (ws : List α) : (mergeD (ws.map fun x => (tD (f x), g x))).map (·.1) = (kd (ws.map f)).map tD := by
  have h : ∀ (ws : List α) (kvs : List (D × D)) (L : List (List Nat)), kvs.map (·.1) = L.map tD → ((ws.map fun x => (tD (f x), g x)).foldl (fun acc p => putD acc p.1 p.2) kvs).map (·.1) = ((ws.map f).foldl (fun acc x => if x ∈ acc then acc else acc ++ [x]) L).map tD := by
    intro ws
    induction ws with
    | nil => intro kvs L h; exact h
    | cons x ws ih =>
      intro kvs L h
      rw [List.map_cons, List.foldl_cons, List.map_cons, List.foldl_cons]
      exact ih _ _ (keys_put h (f x) (g x))
  exact h ws [] [] rfl
theorem sorted_dict {kvs : List (D × D)} {L : List (List Nat)} (h : kvs.map (·.1) = L.map tD) : biV .sorted [.dict kvs] = some (.list ((srtL L).map tD)) := by
  have := sortV_tD L
  show (match intsOf (kvs.map fun p : D × D => p.1) with
      | some ns => some (PyData.list ((sortI ns).map .int))
      | none => (tupsOf (kvs.map fun p : D × D => p.1)).map fun (nss : List (List Int)) => PyData.list (List.map (fun (ns : List Int) => PyData.tuple (List.map PyData.int ns)) (sortT nss))) = _
  rw [h]
  exact this
/-! ### sums by places -/
def addAt (zs : List Int) (i : Nat) (x : Int) : List Int := zs.set i (zs.getD i 0 + x)
theorem addAt_len (zs : List Int) (i : Nat) (x : Int) : (addAt zs i x).length = zs.length := by unfold addAt; rw [List.length_set]
theorem addAt_at {zs : List Int} {i : Nat} {x : Int} (h : i < zs.length) (k : Nat) : (addAt zs i x).getD k 0 = zs.getD k 0 + if i = k then x else 0 := by
  unfold addAt
  rw [List.getD_eq_getElem?_getD, List.getElem?_set]
  by_cases e : i = k
  · subst e
    rw [if_pos rfl, if_pos h, if_pos rfl]; rfl
  · rw [if_neg e, if_neg e, List.getD_eq_getElem?_getD]; omega
def sumsAt {α : Type} (n : Nat) (key : α → Nat) (val : α → Int) (L : List α) : List Int := L.foldl (fun zs x => addAt zs (key x) (val x)) (List.replicate n 0)
theorem sums_fold {α : Type} (key : α → Nat) (val : α → Int) : ∀ (L : List α) (zs : List Int), (∀ x ∈ L, key x < zs.length) → (L.foldl (fun zs x => addAt zs (key x) (val x)) zs).length = zs.length ∧ ∀ k, (L.foldl (fun zs x => addAt zs (key x) (val x)) zs).getD k 0 = zs.getD k 0 + (L.map fun x => if key x = k then val x else 0).sum
  | [], zs, _ => ⟨rfl, fun k => by simp⟩
  | x :: L, zs, h => by
    obtain ⟨h1, h2⟩ := sums_fold key val L (addAt zs (key x) (val x)) fun y hy => by rw [addAt_len]; exact h y (List.mem_cons_of_mem _ hy)
    refine ⟨by rw [List.foldl_cons, h1, addAt_len], fun k => ?_⟩
    rw [List.foldl_cons, h2 k, addAt_at (h x (List.mem_cons_self ..)), List.map_cons, List.sum_cons]
    omega
theorem sumsAt_eq {α : Type} {n : Nat} {key : α → Nat} {val : α → Int} {L : List α} (h : ∀ x ∈ L, key x < n) : sumsAt n key val L = (List.range n).map fun k => (L.map fun x => if key x = k then val x else 0).sum := by
  obtain ⟨h1, h2⟩ := sums_fold key val L (List.replicate n 0) (by simpa using h)
  refine List.ext_getElem ?_ fun i hi hj => ?_
  · unfold sumsAt; rw [h1]; simp
  · have := h2 i
    unfold sumsAt at hi ⊢
    rw [List.getD_eq_getElem?_getD, List.getElem?_eq_getElem hi] at this
    rw [List.getElem_map, List.getElem_range]
    rw [h1, List.length_replicate] at hi
    rw [show (List.replicate n (0 : Int)).getD i 0 = 0 by rw [List.getD_eq_getElem?_getD, List.getElem?_replicate, if_pos hi]; rfl] at this
    simpa using this
theorem sum_perm {α : Type} {L L' : List α} (p : L.Perm L') (f : α → Int) : (L.map f).sum = (L'.map f).sum := by
  induction p with
  | nil => rfl
  | cons x _ ih => rw [List.map_cons, List.map_cons, List.sum_cons, List.sum_cons, ih]
  | swap x y l => rw [List.map_cons, List.map_cons, List.map_cons, List.map_cons, List.sum_cons, List.sum_cons, List.sum_cons, List.sum_cons]; omega
  | trans _ _ h1 h2 => exact h1.trans h2
/-! ### all lots -/
theorem subs_len (L : List Nat) : (subsS L).length = 2 ^ L.length := by
  refine snoc_ind (P := fun L => (subsS L).length = 2 ^ L.length) rfl (fun L x ih => ?_) L
  rw [subsS_snoc, List.length_append, List.length_map, ih, List.length_append, List.length_singleton, Nat.pow_succ]; omega
theorem fold_subs (L : List Nat) : ∀ acc : List (List Nat), L.foldl (fun acc i => acc ++ acc.map (· ++ [i])) acc = L.foldl (fun acc i => acc ++ acc.map (· ++ [i])) acc := fun _ => rfl
def bWithin : List S := [.asg (.name 1) (.lst [.tup []]), .for_ (.name 2) (.var 0) [.asg (.name 1) (.op .add (.var 1) (.comp (.name 3) (.var 1) none (.tup [.star (.var 3), .var 2])))], .ret (.var 1)]
def bEvery : List S := [.asg (.name 1) (.lst [.tup []]), .for_ (.name 2) (.rng [.var 0]) [.asg (.name 1) (.op .add (.var 1) (.comp (.name 3) (.var 1) none (.op .add (.var 3) (.tup [.var 2]))))], .ret (.var 1)]
section
variable {v : Bool} {c : Cl}
theorem grow {p : D} {e : E} (he : ∀ (l : List Nat) (i : Nat) (acc : List (List Nat)), l.length ≤ 1000 → evE v c e [some p, some (.list (acc.map tD)), some (nd i), some (tD l)] = ret (tD (l ++ [i]))) (L : List Nat) (hL : L.length ≤ 12) :
    ∃ j, forL (fTurn v c (.name 2) [.asg (.name 1) (.op .add (.var 1) (.comp (.name 3) (.var 1) none e))]) (L.map nd) [some p, some (.list [.tuple []]), none, none] = ret (.next [some p, some (.list ((subsS L).map tD)), j, none]) := by
  have key : ∀ (M : List Nat) (acc : List (List Nat)) (k : Nat) (j : Option D), acc.length ≤ 2 ^ k → (∀ l ∈ acc, l.length ≤ k) → k + M.length ≤ 12 → ∃ j', forL (fTurn v c (.name 2) [.asg (.name 1) (.op .add (.var 1) (.comp (.name 3) (.var 1) none e))]) (M.map nd) [some p, some (.list (acc.map tD)), j, none] = ret (.next [some p, some (.list ((M.foldl (fun acc i => acc ++ acc.map (· ++ [i])) acc).map tD)), j', none]) := by
    intro M
    induction M with
    | nil => intro acc k j _ _ _; exact ⟨j, rfl⟩
    | cons i M ih =>
      intro acc k j h1 h2 h3
      rw [List.length_cons] at h3
      have pk : 2 ^ k ≤ 2 ^ 12 := Nat.pow_le_pow_right (by decide) (by omega)
      have a1 : evE v c (.comp (.name 3) (.var 1) none e) [some p, some (.list (acc.map tD)), some (nd i), none] = ret (.list ((acc.map (· ++ [i])).map tD)) := by
        rw [List.map_map]
        exact evE_compM (d := .list (acc.map tD)) (g := tD) (h := tD ∘ (· ++ [i])) (ws := acc) rfl rfl (by omega) fun l hl => ⟨_, rfl, he l i acc (by have := h2 l hl; omega)⟩
      obtain ⟨j2, e2⟩ := ih (acc ++ acc.map (· ++ [i])) (k + 1) (some (nd i)) (by rw [List.length_append, List.length_map, Nat.pow_succ]; omega) (fun l hl => by
        rcases List.mem_append.mp hl with hl | hl
        · have := h2 l hl; omega
        · obtain ⟨q, hq, rfl⟩ := List.mem_map.mp hl
          have := h2 q hq
          simp; omega) (by omega)
      refine ⟨j2, (forL_next ?_).trans e2⟩
      show exL v c [.asg (.name 1) (.op .add (.var 1) (.comp (.name 3) (.var 1) none e))] [some p, some (.list (acc.map tD)), some (nd i), none] = _
      rw [exL_next (en2 := [some p, some (.list ((acc ++ acc.map (· ++ [i])).map tD)), some (nd i), none])]
      · rfl
      · refine exS_asg (evE_op (x := .list (acc.map tD)) (y := .list ((acc.map (· ++ [i])).map tD)) rfl a1 ?_) rfl
        rw [q_addL (by rw [List.length_map, List.length_map, List.length_map]; omega), List.map_append]
  obtain ⟨j', e'⟩ := key L [[]] 0 none (Nat.le_refl _) (fun l hl => by rw [List.mem_singleton.mp hl]; exact Nat.le_refl _) (by omega)
  exact ⟨j', e'⟩
theorem run_within {L : List Nat} (hL : L.length ≤ 12) : exL v c bWithin [some (tD L), none, none, none] = ret (.ret (.list ((subsS L).map tD))) := by
  obtain ⟨j, e⟩ := grow (v := v) (c := c) (p := tD L) (e := .tup [.star (.var 3), .var 2]) (fun l i acc hl => by
    have e1 : evE v c (.var 3) [some (tD L), some (.list (acc.map tD)), some (nd i), some (tD l)] = ret (tD l) := rfl
    have e2 : evL v c [.var 2] [some (tD L), some (.list (acc.map tD)), some (nd i), some (tD l)] = ret [nd i] := rfl
    rw [q_tup, q_lstar, e1, bnd_ret, seq_tD, lift_ok, bnd_ret, e2, bnd_ret, bnd_ret, sizeOk_le (by simp; omega), Option.map_some, lift_ok]
    show ret (PyData.tuple (l.map nd ++ [nd i])) = _
    unfold tD
    rw [List.map_append]; rfl) L hL
  unfold bWithin
  rw [exL_next (en2 := [some (tD L), some (.list [.tuple []]), none, none]) rfl]
  rw [exL_next (en2 := [some (tD L), some (.list ((subsS L).map tD)), j, none])]
  · rfl
  · rw [q_for]
    show bnd (ret (tD L)) _ = _
    rw [bnd_ret]
    show bnd (lift (some (L.map nd))) _ = _
    rw [lift_ok, bnd_ret, e]
theorem run_every {m : Nat} (hm : m ≤ 12) : exL v c bEvery [some (nd m), none, none, none] = ret (.ret (.list ((lots m).map tD))) := by
  obtain ⟨j, e⟩ := grow (v := v) (c := c) (p := nd m) (e := .op .add (.var 3) (.tup [.var 2])) (fun l i acc hl => by
    refine evE_op (x := tD l) (y := .tuple [nd i]) rfl rfl ?_
    unfold tD
    rw [q_addT (by rw [List.length_map, List.length_singleton]; omega), List.map_append]; rfl) (List.range m) (by simpa using hm)
  have ar : evE v c (.rng [.var 0]) [some (nd m), some (.list [.tuple []]), none, none] = ret (.list ((List.range m).map nd)) := evE_rng rfl rfl (by omega)
  unfold bEvery
  rw [exL_next (en2 := [some (nd m), some (.list [.tuple []]), none, none]) rfl]
  rw [exL_next (en2 := [some (nd m), some (.list ((lots m).map tD)), j, none])]
  · rfl
  · rw [q_for, ar, bnd_ret, q_seqL, lift_ok, bnd_ret, e]; rfl
end
end Fz.Ma
/-! Mg: round lots, broken rounds, unbroken lots and the polynomial, plain. -/
namespace Fz.Ma
open PySem Fz
section
variable (r : List Nat → Nat)
def circB (l : List Nat) : Bool := (!decide (r l = l.length)) && (List.range l.length).all fun k => decide (r (l.eraseIdx k) = (l.eraseIdx k).length)
def roundsL (m : Nat) : List (List Nat) := (srtL (lots m)).filter (circB r)
def brokenL (m : Nat) : List (List Nat) := srtL (kd ((roundsL r m).map List.tail))
def freeB (B : List (List Nat)) (l : List Nat) : Bool := !(B.any fun C => C.all fun x => l.contains x)
def unbrL (m : Nat) : List (List Nat) := (srtL (lots m)).filter (freeB (brokenL r m))
def polyL (d m : Nat) : List Int := sumsAt (d + 1) List.length sg (unbrL r m)
def dueL (d m : Nat) : List Int := sumsAt (d + 1) r sg (srtL (lots m))
theorem circB_iff (l : List Nat) : circB r l = true ↔ circ r l := by
  unfold circB circ
  rw [Bool.and_eq_true, Bool.not_eq_true', decide_eq_false_iff_not, List.all_eq_true]
  refine and_congr Iff.rfl ⟨fun h i hi => ?_, fun h i hi => ?_⟩
  · have := of_decide_eq_true (h i (List.mem_range.mpr hi))
    rw [this, List.length_eraseIdx_of_lt hi]
  · have hi := List.mem_range.mp hi
    refine decide_eq_true ?_
    rw [h i hi, List.length_eraseIdx_of_lt hi]
theorem mem_srt {L : List (List Nat)} {l : List Nat} : l ∈ srtL L ↔ l ∈ L := (srtL_perm L).mem_iff
theorem mem_rounds {m : Nat} {l : List Nat} : l ∈ roundsL r m ↔ l ∈ lots m ∧ circ r l := by
  unfold roundsL
  rw [List.mem_filter, mem_srt, circB_iff]
theorem mem_broken {m : Nat} {l : List Nat} : l ∈ brokenL r m ↔ ∃ C, C ∈ lots m ∧ circ r C ∧ C.tail = l := by
  unfold brokenL
  rw [mem_srt, mem_kd, List.mem_map]
  exact ⟨fun ⟨C, h, e⟩ => ⟨C, ((mem_rounds r).mp h).1, ((mem_rounds r).mp h).2, e⟩, fun ⟨C, h1, h2, e⟩ => ⟨C, (mem_rounds r).mpr ⟨h1, h2⟩, e⟩⟩
theorem freeB_iff (B : List (List Nat)) (l : List Nat) : freeB B l = true ↔ ∀ C ∈ B, ¬ ∀ x ∈ C, x ∈ l := by
  unfold freeB
  rw [Bool.not_eq_true', ← Bool.not_eq_true, List.any_eq_true]
  constructor
  · intro h C hC q
    exact h ⟨C, hC, List.all_eq_true.mpr fun x hx => List.contains_iff_mem.mpr (q x hx)⟩
  · rintro h ⟨C, hC, q⟩
    exact h C hC fun x hx => List.contains_iff_mem.mp (List.all_eq_true.mp q x hx)
variable {r : List Nat → Nat} {cl : List Nat → Nat → Prop} (M : Mtd r cl)
include M
theorem free_nb {m : Nat} {S : List Nat} (hS : S ∈ lots m) : freeB (brokenL r m) S = true ↔ nb cl m S := by
  rw [freeB_iff, nb_iff M hS]
  constructor
  · intro h C hC hc
    exact h _ ((mem_broken r).mpr ⟨C, hC, hc, rfl⟩)
  · intro h T hT
    obtain ⟨C, h1, h2, rfl⟩ := (mem_broken r).mp hT
    exact h C h1 h2
theorem unbr_free {m : Nat} {S : List Nat} (h : S ∈ unbrL r m) : r S = S.length := by
  obtain ⟨h1, h2⟩ := List.mem_filter.mp h
  have h1 := mem_srt.mp h1
  obtain ⟨aS, bS⟩ := (lots_mem m S).mp h1
  exact free_of_nb M S aS fun x hx => (free_nb M h1).mp h2 x (bS x hx)
theorem sum_filter {α : Type} (p : α → Bool) (f : α → Int) : ∀ L : List α, ((L.filter p).map f).sum = (L.map fun x => if p x = true then f x else 0).sum := fun L => by
  clear M
  induction L with
  | nil => rfl
  | cons x L ih =>
    rw [List.map_cons, List.sum_cons, ← ih]
    cases h : p x with
    | true => rw [List.filter_cons_of_pos h, List.map_cons, List.sum_cons]; rfl
    | false => rw [List.filter_cons_of_neg (by simp [h])]; simp
/-- the law of broken rounds -/
theorem poly_due {d m : Nat} (hd : ∀ l, r l ≤ d) : polyL r d m = dueL r d m := by
  unfold polyL dueL
  rw [sumsAt_eq fun S hS => by have := unbr_free M hS; have := hd S; omega, sumsAt_eq fun S _ => by have := hd S; omega]
  refine List.map_congr_left fun k _ => ?_
  have e1 : ((srtL (lots m)).map fun x => if r x = k then sg x else 0).sum = ((lots m).map (wt r k)).sum := sum_perm (srtL_perm _) _
  have e2 : ((unbrL r m).map fun x => if x.length = k then sg x else 0).sum = ((unbrL r m).map (wt r k)).sum := by
    congr 1
    refine List.map_congr_left fun S hS => ?_
    unfold wt
    rw [unbr_free M hS]
  rw [e1, e2, broken_poly M k m]
  unfold unbrL
  rw [sum_filter M, sum_perm (srtL_perm _)]
  congr 1
  refine List.map_congr_left fun S hS => ?_
  by_cases h : nb cl m S
  · rw [if_pos h, if_pos ((free_nb M hS).mpr h)]
  · rw [if_neg h, if_neg (fun z => h ((free_nb M hS).mp z))]
omit M in
theorem sg_len {S : List Nat} {k : Nat} (h : S.length = k) : sg S = 1 - 2 * ((k : Int) % 2) := by subst h; rfl
omit M in
theorem sum_same {α : Type} (p : α → Prop) [DecidablePred p] (f : α → Int) (x : Int) : ∀ L : List α, (∀ y ∈ L, p y → f y = x) → (L.map fun y => if p y then f y else 0).sum = ((L.filter fun y => decide (p y)).length : Int) * x
  | [], _ => by simp
  | y :: L, h => by
    rw [List.map_cons, List.sum_cons, sum_same p f x L fun z hz => h z (List.mem_cons_of_mem _ hz)]
    by_cases q : p y
    · rw [if_pos q, List.filter_cons_of_pos (by simpa using q), List.length_cons, h y (List.mem_cons_self ..) q, Int.natCast_add, Int.add_mul]
      show x + _ = _ + 1 * x
      omega
    · rw [if_neg q, List.filter_cons_of_neg (by simpa using q)]
      omega
/-- how many unbroken lots there are of each size -/
theorem counts_due {d m : Nat} (hd : ∀ l, r l ≤ d) : (List.range (d + 1)).map (fun k => (((unbrL r m).filter fun l => decide (l.length = k)).length : Int)) = (dueL r d m).map fun x => if x < 0 then - x else x := by
  rw [← poly_due M hd]
  unfold polyL
  rw [sumsAt_eq fun S hS => by have := unbr_free M hS; have := hd S; omega, List.map_map]
  refine List.map_congr_left fun k _ => ?_
  have e := sum_same (fun S : List Nat => S.length = k) sg (1 - 2 * ((k : Int) % 2)) (unbrL r m) fun S _ h => sg_len h
  show _ = (if ((unbrL r m).map fun x => if x.length = k then sg x else 0).sum < 0 then - ((unbrL r m).map fun x => if x.length = k then sg x else 0).sum else ((unbrL r m).map fun x => if x.length = k then sg x else 0).sum)
  rw [e]
  generalize ((unbrL r m).filter fun l => decide (l.length = k)).length = n
  have : (k : Int) % 2 = 0 ∨ (k : Int) % 2 = 1 := by omega
  rcases this with h | h
  · rw [h]; split <;> omega
  · rw [h]; split <;> omega
omit M in
theorem dueL_at {d m k : Nat} (hd : ∀ l, r l ≤ d) : dueL r d m = (List.range (d + 1)).map fun k => ((lots m).map (wt r k)).sum := by
  unfold dueL
  rw [sumsAt_eq fun S _ => by have := hd S; omega]
  refine List.map_congr_left fun k _ => ?_
  exact sum_perm (srtL_perm _) _
/-- planes in another order -/
theorem due_perm {d m : Nat} {r2 : List Nat → Nat} {π : Nat → Nat} (hd : ∀ l, r l ≤ d) (hd2 : ∀ l, r2 l ≤ d) (e : ∀ l, (∀ x ∈ l, x < m) → r2 l = r (l.map π)) (p : ((List.range m).map π).Perm (List.range m)) : dueL r2 d m = dueL r d m := by
  rw [dueL_at (k := 0) hd, dueL_at (k := 0) hd2]
  refine List.map_congr_left fun k _ => ?_
  have e1 : (lots m).map (wt r2 k) = (lots m).map fun S => wt r k (S.map π) := List.map_congr_left fun S hS => by
    unfold wt sg
    rw [e S ((lots_mem m S).mp hS).2, List.length_map]
  rw [e1, sum_lots, sumC_map π (List.range m) (wt r k), sumC_perm p _ fun h => wt_perm M h, ← sum_lots]
end
end Fz.Ma
/-! Mh: the program's round lots, broken rounds, unbroken lots, polynomial, over planes. -/
namespace Fz.Ma
open PySem Fz
def bLots (f : Nat) : List S := [.ret (.bi .sorted [.call f [.bi .tuple [.bi .list [.rng [.bi .len [.idx (.var 0) (.int 1)]]]]]])]
def bFree (f : Nat) : List S := [.ret (.cmp .eq (.call f [.var 0, .var 1]) (.bi .len [.var 1]))]
def bRounds (f2 f3 : Nat) : List S := [.new 1 (.lst []), .for_ (.name 2) (.call f2 [.var 0]) [.ite (.not (.call f3 [.var 0, .var 2])) [.ite (.bi .all [.comp (.name 3) (.rng [.bi .len [.var 2]]) none (.call f3 [.var 0, .op .add (.slc (.var 2) none (some (.var 3))) (.slc (.var 2) (some (.op .add (.var 3) (.int 1))) none)])]) [.app 1 (.var 2)] []] []], .ret (.bi .tuple [.var 1])]
def bBroken (f4 : Nat) : List S := [.ret (.bi .tuple [.bi .sorted [.dcp (.name 1) (.call f4 [.var 0]) none (.slc (.var 1) (some (.int 1)) none) (.bl true)]])]
def bUnbr (f2 f5 : Nat) : List S := [.asg (.name 1) (.call f5 [.var 0]), .ret (.bi .tuple [.comp (.name 2) (.call f2 [.var 0]) (some (.not (.bi .any [.comp (.name 3) (.var 1) none (.bi .all [.comp (.name 4) (.var 3) none (.cmp .isin (.var 4) (.var 2))])]))) (.var 2)])]
def bPoly (f6 : Nat) : List S := [.new 1 (.op .mul (.lst [.int 0]) (.op .add (.idx (.var 0) (.int 0)) (.int 1))), .for_ (.name 2) (.call f6 [.var 0]) [.set 1 (.bi .len [.var 2]) (.op .sub (.op .add (.idx (.var 1) (.bi .len [.var 2])) (.int 1)) (.op .mul (.int 2) (.op .mod (.bi .len [.var 2]) (.int 2))))], .ret (.bi .tuple [.var 1])]
theorem cutT (ds : List D) (k : Nat) : cut ds none (some (k : Int)) = ds.take k := by
  unfold cut
  rw [HT.sIx_nat, HT.sIx_none, List.drop_zero, Nat.sub_zero, List.take_eq_take_iff]
  omega
theorem cutD (ds : List D) (k : Nat) : cut ds (some (k : Int)) none = ds.drop k := by
  unfold cut
  rw [HT.sIx_nat, HT.sIx_none]
  by_cases h : k ≤ ds.length
  · rw [Nat.min_eq_left h, List.take_of_length_le (by rw [List.length_drop]; omega)]
  · rw [Nat.min_eq_right (by omega), List.drop_of_length_le (Nat.le_refl _), List.drop_of_length_le (by omega), List.take_nil]
theorem len_lt : ∀ {m : Nat} {l : List Nat}, l ∈ lots m → l.length ≤ m
  | 0, l, h => by rw [List.mem_singleton.mp (show l ∈ [[]] from h)]; exact Nat.le_refl _
  | m + 1, l, h => by
    rw [lots_succ] at h
    rcases List.mem_append.mp h with h | h
    · have := len_lt h; omega
    · obtain ⟨q, hq, rfl⟩ := List.mem_map.mp h
      have := len_lt hq
      rw [List.length_append, List.length_singleton]; omega
theorem lots_le (m : Nat) (h : m ≤ 12) : (lots m).length ≤ 4096 := by
  unfold lots
  rw [subs_len, List.length_range]
  exact Nat.pow_le_pow_right (by decide) h (n := 2)
theorem srt_le {L : List (List Nat)} : (srtL L).length = L.length := (srtL_perm L).length_eq
section
variable {v : Bool} {c : Cl}
theorem e_var {en : En} {i : Nat} {d : D} (h : en.getD i none = some d) : evE v c (.var i) en = ret d := by
  show lift (en.getD i none) = _
  rw [h]; rfl
theorem e_len {en : En} {a : E} {d : D} {n : Nat} (e : evL v c [a] en = bnd (evE v c a en) fun x => bnd (ret []) fun ys => ret (x :: ys)) (h : evE v c a en = ret d) (hd : biV .len [d] = some (nd n)) : evE v c (.bi .len [a]) en = ret (nd n) := evE_bi1 e h hd
theorem len_tD (l : List Nat) : biV .len [tD l] = some (nd l.length) := by
  show some (PyData.int ((l.map nd).length : Int)) = _
  rw [List.length_map]; rfl
theorem len_T (xs : List D) : biV .len [.tuple xs] = some (nd xs.length) := rfl
theorem len_L (xs : List D) : biV .len [.list xs] = some (nd xs.length) := rfl
theorem arg1 {en : En} {a : E} {x : D} (e : evL v c [a] en = bnd (evE v c a en) fun x => bnd (ret []) fun ys => ret (x :: ys)) (h : evE v c a en = ret x) : evL v c [a] en = ret [x] := by rw [e, h]; rfl
theorem arg2 {en : En} {a b : E} {x y : D} (e : evL v c [a, b] en = bnd (evE v c a en) fun x => bnd (bnd (evE v c b en) fun y => bnd (ret []) fun ys => ret (y :: ys)) fun ys => ret (x :: ys)) (ha : evE v c a en = ret x) (hb : evE v c b en = ret y) : evL v c [a, b] en = ret [x, y] := by rw [e, ha, bnd_ret, hb]; rfl
variable {p : D} {r : List Nat → Nat} {m d : Nat}
/-- planes: a pair of a number and a tuple of things -/
structure Pd (p : D) (d m : Nat) : Prop where
  at0 : idxV p (.int 0) = some (nd d)
  at1 : ∃ xs : List D, idxV p (.int 1) = some (.tuple xs) ∧ xs.length = m
theorem run_lots (A : Pd p d m) (hm : m ≤ 12) {f : Nat} (hc : c f [tD (List.range m)] = ret (.list ((lots m).map tD))) : exL v c (bLots f) [some p] = ret (.ret (.list ((srtL (lots m)).map tD))) := by
  obtain ⟨xs, h1, h2⟩ := A.at1
  unfold bLots
  have e0 : evE v c (.idx (.var 0) (.int 1)) [some p] = ret (.tuple xs) := evE_idx (e_var rfl) rfl h1
  have e1 : evE v c (.bi .len [.idx (.var 0) (.int 1)]) [some p] = ret (nd m) := e_len rfl e0 (by rw [len_T, h2])
  have e2 : evE v c (.rng [.bi .len [.idx (.var 0) (.int 1)]]) [some p] = ret (.list ((List.range m).map nd)) := evE_rng rfl e1 (by omega)
  have e3 : evE v c (.bi .list [.rng [.bi .len [.idx (.var 0) (.int 1)]]]) [some p] = ret (.list ((List.range m).map nd)) := evE_bi1 rfl e2 rfl
  have e4 : evE v c (.bi .tuple [.bi .list [.rng [.bi .len [.idx (.var 0) (.int 1)]]]]) [some p] = ret (tD (List.range m)) := evE_bi1 rfl e3 rfl
  exact exL_ret (exS_ret (evE_bi1 rfl (evE_call (arg1 rfl e4) hc) (sortV_tD _)))
theorem run_free {f : Nat} {l : List Nat} (hc : c f [p, tD l] = ret (nd (r l))) : exL v c (bFree f) [some p, some (tD l)] = ret (.ret (.bool (decide (r l = l.length)))) := by
  unfold bFree
  exact exL_ret (exS_ret (evE_cmp (evE_call (arg2 rfl (e_var rfl) (e_var rfl)) hc) (e_len rfl (e_var rfl) (len_tD l)) (eq_nd _ _)))
theorem run_rounds (hm : m ≤ 12) {f2 f3 : Nat} (h2 : c f2 [p] = ret (.list ((srtL (lots m)).map tD))) (h3 : ∀ l, (∀ x ∈ l, x < m) → l.length ≤ 12 → c f3 [p, tD l] = ret (.bool (decide (r l = l.length)))) :
    exL v c (bRounds f2 f3) [some p, none, none, none] = ret (.ret (.tuple ((roundsL r m).map tD))) := by
  unfold bRounds
  rw [exL_next (en2 := [some p, some (.list []), none, none]) rfl]
  have step : ∀ (l : List Nat) (acc : List D) (j : Option D), l ∈ lots m → acc.length ≤ 10000 → exL v c [.ite (.not (.call f3 [.var 0, .var 2])) [.ite (.bi .all [.comp (.name 3) (.rng [.bi .len [.var 2]]) none (.call f3 [.var 0, .op .add (.slc (.var 2) none (some (.var 3))) (.slc (.var 2) (some (.op .add (.var 3) (.int 1))) none)])]) [.app 1 (.var 2)] []] []] [some p, some (.list acc), some (tD l), none] = ret (.next [some p, some (.list (acc ++ if circB r l = true then [tD l] else [])), some (tD l), none]) := by
    intro l acc j hl ha
    have hb := ((lots_mem m l).mp hl).2
    have hn := len_lt hl
    have e1 : evE v c (.not (.call f3 [.var 0, .var 2])) [some p, some (.list acc), some (tD l), none] = ret (.bool (!decide (r l = l.length))) := evE_not (evE_call (arg2 rfl (e_var rfl) (e_var rfl)) (h3 l hb (by omega)))
    have e2 : evE v c (.bi .all [.comp (.name 3) (.rng [.bi .len [.var 2]]) none (.call f3 [.var 0, .op .add (.slc (.var 2) none (some (.var 3))) (.slc (.var 2) (some (.op .add (.var 3) (.int 1))) none)])]) [some p, some (.list acc), some (tD l), none] = ret (.bool ((List.range l.length).all fun k => decide (r (l.eraseIdx k) = (l.eraseIdx k).length))) := by
      refine evE_bi1 rfl (evE_compM (g := nd) (h := fun k => .bool (decide (r (l.eraseIdx k) = (l.eraseIdx k).length))) (ws := List.range l.length) (evE_rng rfl (e_len rfl (e_var rfl) (len_tD l)) (by omega)) rfl (by simp; omega) fun k hk => ⟨_, rfl, ?_⟩) (all_map _ _)
      have hk := List.mem_range.mp hk
      refine evE_call (arg2 rfl (e_var rfl) (y := tD (l.eraseIdx k)) ?_) (h3 _ (fun x hx => hb x ((List.eraseIdx_sublist ..).subset hx)) (by rw [List.length_eraseIdx_of_lt hk]; omega))
      have s1 : evE v c (.slc (.var 2) none (some (.var 3))) [some p, some (.list acc), some (tD l), some (nd k)] = ret (.tuple ((l.take k).map nd)) := by
        have : evE v c (.slc (.var 2) none (some (.var 3))) [some p, some (.list acc), some (tD l), some (nd k)] = ret (.tuple (cut (l.map nd) none (some (k : Int)))) := rfl
        rw [this, cutT, List.map_take]
      have s2 : evE v c (.slc (.var 2) (some (.op .add (.var 3) (.int 1))) none) [some p, some (.list acc), some (tD l), some (nd k)] = ret (.tuple ((l.drop (k + 1)).map nd)) := by
        have : evE v c (.slc (.var 2) (some (.op .add (.var 3) (.int 1))) none) [some p, some (.list acc), some (tD l), some (nd k)] = ret (.tuple (cut (l.map nd) (some ((k + 1 : Nat) : Int)) none)) := rfl
        rw [this, cutD, List.map_drop]
      refine evE_op s1 s2 ?_
      rw [q_addT (by simp; omega), ← List.map_append, ← List.eraseIdx_eq_take_drop_succ]; rfl
    have tail : exS v c (.ite (.bi .all [.comp (.name 3) (.rng [.bi .len [.var 2]]) none (.call f3 [.var 0, .op .add (.slc (.var 2) none (some (.var 3))) (.slc (.var 2) (some (.op .add (.var 3) (.int 1))) none)])]) [.app 1 (.var 2)] []) [some p, some (.list acc), some (tD l), none] = ret (.next [some p, some (.list (acc ++ if ((List.range l.length).all fun k => decide (r (l.eraseIdx k) = (l.eraseIdx k).length)) = true then [tD l] else [])), some (tD l), none]) := by
      rw [exS_if e2 rfl]
      by_cases q : ((List.range l.length).all fun k => decide (r (l.eraseIdx k) = (l.eraseIdx k).length)) = true
      · rw [if_pos q, if_pos q]
        rw [exL_next (exS_app (e_var rfl) rfl (q_small (by omega)))]; rfl
      · rw [if_neg q, if_neg q, List.append_nil]; rfl
    unfold circB
    rw [exL_next (en2 := [some p, some (.list (acc ++ if ((!decide (r l = l.length)) && (List.range l.length).all fun k => decide (r (l.eraseIdx k) = (l.eraseIdx k).length)) = true then [tD l] else [])), some (tD l), none])]
    · rfl
    · rw [exS_if e1 rfl]
      by_cases q : r l = l.length
      · rw [decide_eq_true q]; simp only [Bool.not_true, Bool.false_and, Bool.false_eq_true, if_false, List.append_nil]; rfl
      · rw [decide_eq_false q, Bool.not_false, Bool.true_and, if_pos rfl, exL_next tail]; rfl
  have all : ∀ (ws : List (List Nat)) (acc : List D) (j : Option D), (∀ l ∈ ws, l ∈ lots m) → acc.length + ws.length ≤ 10000 → ∃ j', forL (fTurn v c (.name 2) [.ite (.not (.call f3 [.var 0, .var 2])) [.ite (.bi .all [.comp (.name 3) (.rng [.bi .len [.var 2]]) none (.call f3 [.var 0, .op .add (.slc (.var 2) none (some (.var 3))) (.slc (.var 2) (some (.op .add (.var 3) (.int 1))) none)])]) [.app 1 (.var 2)] []] []]) (ws.map tD) [some p, some (.list acc), j, none] = ret (.next [some p, some (.list (acc ++ (ws.filter (circB r)).map tD)), j', none]) := by
    intro ws
    induction ws with
    | nil => intro acc j _ _; exact ⟨j, by rw [List.filter_nil, List.map_nil, List.append_nil]; rfl⟩
    | cons l ws ih =>
      intro acc j h1 h2
      rw [List.length_cons] at h2
      obtain ⟨j2, e2⟩ := ih (acc ++ if circB r l = true then [tD l] else []) (some (tD l)) (fun l hl => h1 l (List.mem_cons_of_mem _ hl)) (by
        rw [List.length_append]
        split
        · rw [List.length_singleton]; omega
        · rw [List.length_nil]; omega)
      refine ⟨j2, (forL_next (step l acc j (h1 l (List.mem_cons_self ..)) (by omega))).trans (e2.trans ?_)⟩
      rw [List.append_assoc]
      cases q : circB r l with
      | true => rw [if_pos rfl, List.filter_cons_of_pos q]; rfl
      | false => rw [if_neg Bool.false_ne_true, List.filter_cons_of_neg (by simp [q])]; rfl
  obtain ⟨j', e'⟩ := all (srtL (lots m)) [] none (fun l hl => mem_srt.mp hl) (by rw [srt_le]; have := lots_le m hm; simp; omega)
  rw [exL_next (en2 := [some p, some (.list ((roundsL r m).map tD)), j', none])]
  · rfl
  · rw [exS_for (evE_call (arg1 rfl (e_var rfl)) h2) rfl]
    exact e'
theorem run_broken (hm : m ≤ 12) {f4 : Nat} (h4 : c f4 [p] = ret (.tuple ((roundsL r m).map tD))) : exL v c (bBroken f4) [some p, none] = ret (.ret (.tuple ((brokenL r m).map tD))) := by
  unfold bBroken
  have hl : (roundsL r m).length ≤ 4096 := Nat.le_trans (List.length_filter_le ..) (by rw [srt_le]; exact lots_le m hm)
  have e1 : evE v c (.dcp (.name 1) (.call f4 [.var 0]) none (.slc (.var 1) (some (.int 1)) none) (.bl true)) [some p, none] = ret (.dict (mergeD ((roundsL r m).map fun l => (tD l.tail, PyData.bool true)))) := by
    refine evE_dcpM (g := tD) (κ := fun l => tD l.tail) (h := fun _ => .bool true) (ws := roundsL r m) (en2 := fun l => [some p, some (tD l)]) (evE_call (arg1 rfl (e_var rfl)) h4) rfl (fun _ _ => rfl) (fun l _ => ?_) (fun _ _ => rfl) (keysOk_T fun q hq => ?_) (by omega)
    · have : evE v c (.slc (.var 1) (some (.int 1)) none) [some p, some (tD l)] = ret (.tuple (cut (l.map nd) (some ((1 : Nat) : Int)) none)) := rfl
      rw [this, cutD, ← List.map_drop, List.drop_one]; rfl
    · obtain ⟨l, _, rfl⟩ := List.mem_map.mp hq
      exact isTK_tD _
  refine exL_ret (exS_ret (evE_bi1 rfl (evE_bi1 rfl e1 (sorted_dict (keys_merge List.tail (fun _ => PyData.bool true) (roundsL r m)))) rfl))
theorem run_unbr (hm : m ≤ 12) {f2 f5 : Nat} (h2 : c f2 [p] = ret (.list ((srtL (lots m)).map tD))) (h5 : c f5 [p] = ret (.tuple ((brokenL r m).map tD))) : exL v c (bUnbr f2 f5) [some p, none, none, none, none] = ret (.ret (.tuple ((unbrL r m).map tD))) := by
  unfold bUnbr
  rw [exL_next (en2 := [some p, some (.tuple ((brokenL r m).map tD)), none, none, none]) (exS_asg (evE_call (arg1 rfl (e_var rfl)) h5) rfl)]
  have hb : (brokenL r m).length ≤ 4096 := by
    unfold brokenL
    rw [srt_le]
    have kl : ∀ (L acc : List (List Nat)), (L.foldl (fun acc x => if x ∈ acc then acc else acc ++ [x]) acc).length ≤ acc.length + L.length := by
      intro L
      induction L with
      | nil => intro acc; simp
      | cons x L ih =>
        intro acc
        rw [List.foldl_cons]
        refine Nat.le_trans (ih _) ?_
        split
        · rw [List.length_cons]; omega
        · rw [List.length_append, List.length_singleton, List.length_cons]; omega
    have := kl ((roundsL r m).map List.tail) []
    have hl : (roundsL r m).length ≤ 4096 := Nat.le_trans (List.length_filter_le ..) (by rw [srt_le]; exact lots_le m hm)
    unfold kd
    rw [List.length_map] at this
    simp only [List.length_nil] at this
    omega
  refine exL_ret (exS_ret (evE_bi1 rfl (evE_compF (g := tD) (h := tD) (p := freeB (brokenL r m)) (ws := srtL (lots m)) (evE_call (arg1 rfl (e_var rfl)) h2) rfl (by rw [srt_le]; have := lots_le m hm; omega) fun l hl => ⟨_, rfl, ?_, fun _ => rfl⟩) rfl))
  have hn := len_lt (mem_srt.mp hl)
  have hll : ∀ C ∈ brokenL r m, C.length ≤ 12 := fun C hC => by
    obtain ⟨T, h1, _, rfl⟩ := (mem_broken r).mp hC
    have := len_lt h1
    rw [List.length_tail]; omega
  refine evE_not (evE_bi1 rfl (evE_compM (g := tD) (h := fun C => .bool (C.all fun x => l.contains x)) (ws := brokenL r m) (e_var rfl) rfl (by omega) fun C hC => ⟨_, rfl, ?_⟩) (any_map _ _))
  exact evE_bi1 rfl (evE_compM (g := nd) (h := fun x => .bool (l.contains x)) (ws := C) (e_var rfl) rfl (by have := hll C hC; omega) fun x hx => ⟨_, rfl, evE_cmp (e_var rfl) (e_var rfl) (isin_nd x l)⟩) (all_map _ _)
/-- one step of the sums -/
theorem idx_ints {zs : List Int} {i : Nat} (h : i < zs.length) : idxV (.list (zs.map .int)) (nd i) = some (.int (zs.getD i 0)) := idx_rowT (t := false) h
theorem set_int {zs : List Int} {i : Nat} {x : Int} (h : i < zs.length) {k : Nat} {en : En} : asSet k en (zs.map .int) (.int x) (nd i) = ret (.next (en.set k (some (.list ((zs.set i x).map .int))))) := by
  rw [show nd i = .int (i : Int) from rfl, q_asSet (j := i) (ixN_nat (by rw [List.length_map]; exact h)), List.map_set]
theorem rep_list (a : List D) (k : Int) (h : k < 1000) (h0 : 0 ≤ k) (ha : a.length ≤ 10) : op2 .mul (.list a) (.int k) = some (.list (List.replicate k.toNat a).flatten) := by
  show (if _ then _ else _) = _
  refine if_pos ?_
  rw [Bool.and_eq_true, Bool.and_eq_true]
  refine ⟨⟨decide_eq_true (by omega), decide_eq_true (by omega)⟩, q_small ?_⟩
  have : a.length * k.toNat ≤ 10 * 1000 := Nat.mul_le_mul ha (by omega)
  omega
theorem zeros {n : Nat} (h : n < 1000) : op2 .mul (.list [.int 0]) (nd n) = some (.list ((List.replicate n (0 : Int)).map .int)) := by
  rw [show nd n = .int (n : Int) from rfl, rep_list _ _ (by omega) (by omega) (by decide), List.flatten_replicate_singleton, List.map_replicate, Int.toNat_natCast]
theorem sg_of (l : List Nat) (z : Int) : z + 1 - 2 * ((l.length : Int) % 2) = z + sg l := by unfold sg; omega
theorem run_poly (A : Pd p d m) (hd : d ≤ 100) (hm : m ≤ 12) (hr : ∀ S ∈ unbrL r m, S.length ≤ d) {f6 : Nat} (h6 : c f6 [p] = ret (.tuple ((unbrL r m).map tD))) : exL v c (bPoly f6) [some p, none, none] = ret (.ret (.tuple ((polyL r d m).map .int))) := by
  unfold bPoly
  have e0 : evE v c (.op .mul (.lst [.int 0]) (.op .add (.idx (.var 0) (.int 0)) (.int 1))) [some p, none, none] = ret (.list ((List.replicate (d + 1) (0 : Int)).map .int)) := by
    refine evE_op (x := .list [.int 0]) (y := nd (d + 1)) rfl (evE_op (x := nd d) (y := .int 1) (evE_idx (e_var rfl) rfl A.at0) rfl rfl) (zeros (by omega))
  rw [exL_next (exS_new e0)]
  have stp : ∀ (zs : List Int) (j : Option D) (l : List Nat), zs.length = d + 1 → l.length ≤ d → fTurn v c (.name 2) [.set 1 (.bi .len [.var 2]) (.op .sub (.op .add (.idx (.var 1) (.bi .len [.var 2])) (.int 1)) (.op .mul (.int 2) (.op .mod (.bi .len [.var 2]) (.int 2))))] (tD l) [some p, some (.list (zs.map .int)), j] = ret (.next [some p, some (.list ((addAt zs l.length (sg l)).map .int)), some (tD l)]) := by
    intro zs j l hz hl
    show exL v c [.set 1 (.bi .len [.var 2]) (.op .sub (.op .add (.idx (.var 1) (.bi .len [.var 2])) (.int 1)) (.op .mul (.int 2) (.op .mod (.bi .len [.var 2]) (.int 2))))] [some p, some (.list (zs.map .int)), some (tD l)] = _
    have n1 : evE v c (.bi .len [.var 2]) [some p, some (.list (zs.map .int)), some (tD l)] = ret (nd l.length) := e_len rfl (e_var rfl) (len_tD l)
    have n2 : evE v c (.op .sub (.op .add (.idx (.var 1) (.bi .len [.var 2])) (.int 1)) (.op .mul (.int 2) (.op .mod (.bi .len [.var 2]) (.int 2)))) [some p, some (.list (zs.map .int)), some (tD l)] = ret (.int (zs.getD l.length 0 + 1 - 2 * ((l.length : Int) % 2))) := by
      refine evE_op (evE_op (evE_idx (e_var rfl) n1 (idx_ints (by omega))) (y := .int 1) rfl rfl) (evE_op (x := .int 2) rfl (evE_op n1 (y := .int 2) rfl (op2_mod (by decide))) (op2_mul (by decide) ?_)) rfl
      have : (l.length : Int) % 2 = 0 ∨ (l.length : Int) % 2 = 1 := by omega
      rcases this with h | h <;> rw [h] <;> decide
    rw [exL_next (en2 := [some p, some (.list ((addAt zs l.length (sg l)).map .int)), some (tD l)])]
    · rfl
    · rw [q_set, n2, bnd_ret, n1, bnd_ret, q_lstAt rfl, lift_ok, bnd_ret, set_int (by omega), sg_of]; rfl
  obtain ⟨j', e', _⟩ := forL_st (J := Option D) (σ := List Int) (body := fTurn v c (.name 2) [.set 1 (.bi .len [.var 2]) (.op .sub (.op .add (.idx (.var 1) (.bi .len [.var 2])) (.int 1)) (.op .mul (.int 2) (.op .mod (.bi .len [.var 2]) (.int 2))))]) (g := tD) (fun zs j => [some p, some (.list (zs.map .int)), j]) (fun zs l => addAt zs l.length (sg l)) (fun zs => zs.length = d + 1) (unbrL r m) (List.replicate (d + 1) 0) none List.length_replicate (fun zs j l hz hl => by
    have hl := hr l hl
    refine ⟨some (tD l), ?_, by rw [addAt_len]; exact hz⟩
    exact stp zs j l hz hl)
  rw [exL_next (en2 := [some p, some (.list ((polyL r d m).map .int)), j'])]
  · rfl
  · rw [exS_for (evE_call (arg1 rfl (e_var rfl)) h6) rfl]
    exact e'
end
end Fz.Ma
/-! Mi: drawn planes. -/
namespace Fz.Ma
open PySem Fz
def bPlanes (f8 : Nat) : List S := [.asg (.tup [.name 3, .name 4]) (.tup [.op .add (.int 1) (.pick (.var 0) (.var 2)), .call f8 [.var 0, .lst [.int 1, .int 1, .int 2, .int 9]]]), .new 5 (.lst []), .for_ (.name 6) (.rng [.op .add (.int 1) (.pick (.var 0) (.var 1))]) [.asg (.name 7) (.comp (.name 8) (.rng [.var 3]) none (.op .sub (.pick (.var 0) (.op .add (.op .mul (.int 2) (.var 4)) (.int 1))) (.var 4))), .ite (.and (.cmp .ne (.var 5) (.lst [])) (.cmp .eq (.pick (.var 0) (.int 4)) (.int 0))) [.par [9, 10] [.read f8 (.var 0) (.var 5), .read f8 (.var 0) (.var 5)], .asg (.name 7) (.ite (.cmp .eq (.pick (.var 0) (.int 2)) (.int 0)) (.comp (.tup [.name 11, .name 13]) (.zip (.var 9) (.var 10) false) none (.op .add (.var 11) (.var 13))) (.comp (.name 11) (.var 9) none (.op .sub (.int 0) (.var 11))))] [], .ite (.or (.cmp .eq (.comp (.name 12) (.var 7) (some (.cmp .ne (.var 12) (.int 0))) (.var 12)) (.lst [])) (.cmp .gt (.bi .max [.comp (.name 12) (.var 7) none (.bi .abs [.var 12])]) (.int 9))) [.asg (.name 7) (.op .add (.lst [.int 1]) (.op .mul (.lst [.int 0]) (.op .sub (.var 3) (.int 1))))] [], .app 5 (.bi .tuple [.var 7])], .ret (.tup [.var 3, .bi .tuple [.var 5]])]
theorem ints_ex {P : Int → Prop} : ∀ {ys : List D}, (∀ y ∈ ys, ∃ x : Int, y = .int x ∧ P x) → ∃ xs : List Int, ys = xs.map .int ∧ ∀ x ∈ xs, P x
  | [], _ => ⟨[], rfl, fun _ h => nomatch h⟩
  | y :: ys, h => by
    obtain ⟨x, rfl, hx⟩ := h _ (List.mem_cons_self ..)
    obtain ⟨xs, rfl, hs⟩ := ints_ex (ys := ys) fun y hy => h y (List.mem_cons_of_mem _ hy)
    exact ⟨x :: xs, rfl, fun z hz => by
      rcases List.mem_cons.mp hz with rfl | hz
      · exact hx
      · exact hs z hz⟩
def HOf (c : Cl) (f : Nat) : Prop := ∀ (y : D) (xs : List D) (s : Src) (Q : D → Src → Prop), (y = .list xs) → 0 < xs.length → xs.length < 1000000 → (∀ (i : Nat) (d : D) (s : Src), xs[i]? = some d → Q d s) → Wp (c f [srcD, y]) s Q
structure Dr' (d : Nat) (R : List (List Int)) : Prop where
  len : ofLen d R
  bit : ∀ r ∈ R, ∀ x ∈ r, x.natAbs ≤ 9
def EP (a b d far : D) (R : List (List Int)) (j6 j7 j8 j9 j10 j11 j12 j13 : Option D) : En := [some srcD, some a, some b, some d, some far, some (.list (R.map tupI)), j6, j7, j8, j9, j10, j11, j12, j13]
def rowB (f8 : Nat) : List S := [.asg (.name 7) (.comp (.name 8) (.rng [.var 3]) none (.op .sub (.pick (.var 0) (.op .add (.op .mul (.int 2) (.var 4)) (.int 1))) (.var 4))), .ite (.and (.cmp .ne (.var 5) (.lst [])) (.cmp .eq (.pick (.var 0) (.int 4)) (.int 0))) [.par [9, 10] [.read f8 (.var 0) (.var 5), .read f8 (.var 0) (.var 5)], .asg (.name 7) (.ite (.cmp .eq (.pick (.var 0) (.int 2)) (.int 0)) (.comp (.tup [.name 11, .name 13]) (.zip (.var 9) (.var 10) false) none (.op .add (.var 11) (.var 13))) (.comp (.name 11) (.var 9) none (.op .sub (.int 0) (.var 11))))] [], .ite (.or (.cmp .eq (.comp (.name 12) (.var 7) (some (.cmp .ne (.var 12) (.int 0))) (.var 12)) (.lst [])) (.cmp .gt (.bi .max [.comp (.name 12) (.var 7) none (.bi .abs [.var 12])]) (.int 9))) [.asg (.name 7) (.op .add (.lst [.int 1]) (.op .mul (.lst [.int 0]) (.op .sub (.var 3) (.int 1))))] [], .app 5 (.bi .tuple [.var 7])]
theorem okRows (R : List (List Int)) : okD (.list (R.map tupI)) = true := okL (k := 1) (fun x hx => by
  obtain ⟨r, _, rfl⟩ := List.mem_map.mp hx
  exact ok_rowT true r) (by decide)
section
variable {v : Bool} {c : Cl}
theorem draw1 {d : Nat} {far : Int} (h0 : 1 ≤ far ∧ far ≤ 9) (d5 : d ≤ 100) {a b : D} {R : List (List Int)} {j6 j7 j8 j9 j10 j11 j12 j13 : Option D} {s : Src} {Q : D → Src → Prop} (k : ∀ xs : List Int, xs.length = d → (∀ x ∈ xs, x.natAbs ≤ 9) → ∀ s, Q (lstI xs) s) :
    Wp (evE v c (.comp (.name 8) (.rng [.var 3]) none (.op .sub (.pick (.var 0) (.op .add (.op .mul (.int 2) (.var 4)) (.int 1))) (.var 4))) (EP a b (nd d) (.int far) R j6 j7 j8 j9 j10 j11 j12 j13)) s Q := by
  refine wp_comp (d := .list ((List.range d).map nd)) (xs := (List.range d).map nd) (R := fun y => ∃ x : Int, y = .int x ∧ x.natAbs ≤ 9) (evE_rng rfl (e_var rfl) (by omega)) rfl (fun x hx s => ⟨_, rfl, ?_⟩) (by simp; omega) fun ys s hl hr => ?_
  · refine wp_op (wp_pickV (m := 2 * far + 1) (fun s => rfl) (fun s => ?_) (by omega) (by omega) fun x s h1 h2 => wp_eq (e_var rfl) ⟨_, rfl, x - far, rfl, by omega⟩)
    have : evE v c (.op .add (.op .mul (.int 2) (.var 4)) (.int 1)) ((EP a b (nd d) (.int far) R j6 j7 j8 j9 j10 j11 j12 j13).set 8 (some x)) = ret (.int (2 * far + 1)) := evE_op (evE_op (x := .int 2) (y := .int far) rfl (e_var rfl) (op2_mul (by decide) (Nat.lt_of_le_of_lt (m := 9) (by omega) (by decide)))) rfl rfl
    rw [this]; rfl
  · obtain ⟨xs, rfl, h⟩ := ints_ex hr
    exact k xs (by simpa using hl) h s
theorem draw2 {d : Nat} {far : D} {f8 : Nat} (H : HOf c f8) {a b : D} {R : List (List Int)} (A : Dr' d R) (few : R.length ≤ 1000) (d5 : d ≤ 100) {xs : List Int} (hx : xs.length = d) (bx : ∀ x ∈ xs, x.natAbs ≤ 9) {j6 j8 j9 j10 j11 j12 j13 : Option D} {s : Src} {Q : Rs → Src → Prop}
    (k : ∀ (ys : List Int) (i9 i10 : Option D) s, ys.length = d → (∀ y ∈ ys, y.natAbs ≤ 18) → Q (.next (EP a b (nd d) far R j6 (some (lstI ys)) j8 i9 i10 j11 j12 j13)) s) :
    Wp (exS v c (.ite (.and (.cmp .ne (.var 5) (.lst [])) (.cmp .eq (.pick (.var 0) (.int 4)) (.int 0))) [.par [9, 10] [.read f8 (.var 0) (.var 5), .read f8 (.var 0) (.var 5)], .asg (.name 7) (.ite (.cmp .eq (.pick (.var 0) (.int 2)) (.int 0)) (.comp (.tup [.name 11, .name 13]) (.zip (.var 9) (.var 10) false) none (.op .add (.var 11) (.var 13))) (.comp (.name 11) (.var 9) none (.op .sub (.int 0) (.var 11))))] []) (EP a b (nd d) far R j6 (some (lstI xs)) j8 j9 j10 j11 j12 j13)) s Q := by
  have b18 : ∀ x ∈ xs, x.natAbs ≤ 18 := fun x h => by have := bx x h; omega
  refine wp_if (wp_and (wp_eq (evE_cmp (e_var rfl) rfl (ne_nilL (okRows R))) ⟨_, rfl, fun ht => ?_, fun hf => ⟨false, by rw [hf]; rfl, ?_⟩⟩))
  · have hR : R ≠ [] := fun z => by subst z; simp at ht
    have pos : 0 < R.length := List.length_pos_iff.mpr hR
    refine wp_cmp (wp_pickV (m := 4) (fun s => rfl) (fun s => rfl) (by omega) (by omega) fun x s h1 h2 => wp_eq (a := .int 0) rfl ⟨_, rfl, _, rfl, ?_⟩)
    by_cases q : PyData.eqv (.int x) (.int 0) = true
    · rw [if_pos q]
      have rd : ∀ (en : En) (s : Src) (Q : D → Src → Prop), en.getD 0 none = some srcD → en.getD 5 none = some (.list (R.map tupI)) → (∀ r ∈ R, ∀ s, Q (tupI r) s) → Wp (evE v c (.read f8 (.var 0) (.var 5)) en) s Q := by
        intro en s Q e0 e5 k
        refine wp_read (e_var e0) (e_var e5) rfl (H _ _ _ _ rfl (by simpa using pos) (by simp; omega) fun i y s hy => ?_)
        obtain ⟨r, hr, rfl⟩ := List.mem_map.mp (List.mem_of_getElem? hy)
        exact k r hr s
      refine wp_cons (wp_par2 (wp_evL rfl (rd _ _ _ rfl rfl fun r1 h1 s => wp_evL rfl (rd _ _ _ rfl rfl fun r2 h2 s => wp_evN ⟨_, rfl, ?_⟩))))
      refine wp_cons (wp_name ?_)
      have l1 := A.len r1 h1
      have l2 := A.len r2 h2
      have ea : evE v c (.comp (.tup [.name 11, .name 13]) (.zip (.var 9) (.var 10) false) none (.op .add (.var 11) (.var 13))) (EP a b (nd d) far R j6 (some (lstI xs)) j8 (some (tupI r1)) (some (tupI r2)) j11 j12 j13) = ret (lstI (List.zipWith (· + ·) r1 r2)) := by
        refine (evE_compM (d := .list ((r1.zip r2).map fun w : Int × Int => PyData.tuple [.int w.1, .int w.2])) (g := fun w : Int × Int => .tuple [.int w.1, .int w.2]) (h := fun w => .int (w.1 + w.2)) (ws := r1.zip r2) (evE_zip (st := false) (x := tupI r1) (y := tupI r2) (as := r1) (bs := r2) (f := .int) (g := .int) (e_var rfl) (e_var rfl) rfl rfl (fun h => nomatch h)) rfl (by rw [List.length_zip]; omega) fun w hw => ⟨_, rfl, evE_op (e_var rfl) (e_var rfl) rfl⟩).trans ?_
        unfold lstI
        rw [List.map_zip_eq_zipWith, List.map_zipWith]; rfl
      have eb : evE v c (.comp (.name 11) (.var 9) none (.op .sub (.int 0) (.var 11))) (EP a b (nd d) far R j6 (some (lstI xs)) j8 (some (tupI r1)) (some (tupI r2)) j11 j12 j13) = ret (lstI (r1.map fun x => 0 - x)) := by
        refine (evE_compM (g := PyData.int) (h := fun x : Int => .int (0 - x)) (ws := r1) (d := tupI r1) (e_var rfl) rfl (by omega) fun w hw => ⟨_, rfl, evE_op (x := .int 0) (y := .int w) rfl (e_var rfl) rfl⟩).trans ?_
        unfold lstI
        rw [List.map_map]; rfl
      refine wp_ite (wp_cmp (wp_pickV (m := 2) (fun s => rfl) (fun s => rfl) (by omega) (by omega) fun y s h3 h4 => wp_eq (a := .int 0) rfl ⟨_, rfl, _, rfl, ?_⟩))
      by_cases q2 : PyData.eqv (.int y) (.int 0) = true
      · rw [if_pos q2]
        refine wp_eq ea (wp_nil (k _ _ _ s (by rw [List.length_zipWith]; omega) fun z hz => ?_))
        obtain ⟨i, hi, rfl⟩ := List.getElem_of_mem hz
        rw [List.getElem_zipWith]
        rw [List.length_zipWith] at hi
        have m1 := A.bit r1 h1 _ (List.getElem_mem (show i < r1.length by omega))
        have m2 := A.bit r2 h2 _ (List.getElem_mem (show i < r2.length by omega))
        omega
      · rw [if_neg q2]
        refine wp_eq eb (wp_nil (k _ _ _ s (by rw [List.length_map]; omega) fun z hz => ?_))
        obtain ⟨x, hx, rfl⟩ := List.mem_map.mp hz
        have := A.bit r1 h1 x hx
        omega
    · rw [if_neg q]
      exact wp_nil (k _ _ _ _ hx b18)
  · rw [if_neg Bool.false_ne_true]
    exact wp_nil (k _ _ _ _ hx b18)
theorem maxL_ge : ∀ (ns : List Int) (m : Int), m ≤ maxL m ns ∧ ∀ y ∈ ns, y ≤ maxL m ns
  | [], m => ⟨Int.le_refl _, fun _ h => nomatch h⟩
  | x :: r, m => by
    obtain ⟨h1, h2⟩ := maxL_ge r (if x > m then x else m)
    have e : maxL m (x :: r) = maxL (if x > m then x else m) r := rfl
    rw [e]
    have a1 : m ≤ (if x > m then x else m) := by split <;> omega
    have a2 : x ≤ (if x > m then x else m) := by split <;> omega
    refine ⟨Int.le_trans a1 h1, fun y hy => ?_⟩
    rcases List.mem_cons.mp hy with rfl | hy
    · exact Int.le_trans a2 h1
    · exact h2 y hy
theorem absI (x : Int) : biV .abs [.int x] = some (.int (x.natAbs : Int)) := by
  show some (PyData.int (if x < 0 then -x else x)) = _
  congr 2
  split <;> omega
theorem draw3 {d : Nat} (d0 : 1 ≤ d) (d5 : d ≤ 100) {far a b : D} {R : List (List Int)} {ys : List Int} (hy : ys.length = d) {j6 j8 j9 j10 j11 j12 j13 : Option D} :
    ∃ zs : List Int, zs.length = d ∧ (∀ z ∈ zs, z.natAbs ≤ 9) ∧ exS v c (.ite (.or (.cmp .eq (.comp (.name 12) (.var 7) (some (.cmp .ne (.var 12) (.int 0))) (.var 12)) (.lst [])) (.cmp .gt (.bi .max [.comp (.name 12) (.var 7) none (.bi .abs [.var 12])]) (.int 9))) [.asg (.name 7) (.op .add (.lst [.int 1]) (.op .mul (.lst [.int 0]) (.op .sub (.var 3) (.int 1))))] []) (EP a b (nd d) far R j6 (some (lstI ys)) j8 j9 j10 j11 j12 j13) = ret (.next (EP a b (nd d) far R j6 (some (lstI zs)) j8 j9 j10 j11 j12 j13)) := by
  have e1 : evE v c (.cmp .eq (.comp (.name 12) (.var 7) (some (.cmp .ne (.var 12) (.int 0))) (.var 12)) (.lst [])) (EP a b (nd d) far R j6 (some (lstI ys)) j8 j9 j10 j11 j12 j13) = ret (.bool ((ys.filter fun x => !(x == 0)).map PyData.int).isEmpty) := by
    refine evE_cmp (evE_compF (g := PyData.int) (h := PyData.int) (p := fun x : Int => !(x == 0)) (ws := ys) (e_var rfl) rfl (by omega) fun x hx => ⟨_, rfl, evE_cmp (x := .int x) (y := .int 0) (e_var rfl) rfl (i_ne x 0), fun _ => e_var rfl⟩) rfl (eq_nil ?_)
    exact okLi (ys.filter fun x => !(x == 0)) fun x => x
  obtain ⟨y0, yr, rfl⟩ : ∃ y0 yr, ys = y0 :: yr := by
    cases ys with
    | nil => simp at hy; omega
    | cons y0 yr => exact ⟨_, _, rfl⟩
  have e2 : evE v c (.cmp .gt (.bi .max [.comp (.name 12) (.var 7) none (.bi .abs [.var 12])]) (.int 9)) (EP a b (nd d) far R j6 (some (lstI (y0 :: yr))) j8 j9 j10 j11 j12 j13) = ret (.bool (decide (maxL (y0.natAbs : Int) (yr.map fun x => (x.natAbs : Int)) > 9))) := by
    refine evE_cmp (evE_bi1 rfl (evE_compM (g := PyData.int) (h := fun x => .int (x.natAbs : Int)) (ws := y0 :: yr) (e_var rfl) rfl (by omega) fun x hx => ⟨_, rfl, evE_bi1 rfl (e_var rfl) (absI x)⟩) (d := .int (maxL (y0.natAbs : Int) (yr.map fun x => (x.natAbs : Int)))) ?_) (y := .int 9) rfl rfl
    show (intsOf (yr.map fun x => PyData.int (x.natAbs : Int))).map _ = _
    have : yr.map (fun x => PyData.int (x.natAbs : Int)) = (yr.map Int.natAbs).map nd := by rw [List.map_map]; rfl
    rw [this, ints_nd, Option.map_some, List.map_map]; rfl
  have e := evE_or e1 e2
  rw [show (PyData.bool ((((y0 :: yr).filter fun x => !(x == 0)).map PyData.int).isEmpty || decide (maxL (y0.natAbs : Int) (yr.map fun x => (x.natAbs : Int)) > 9))) = PyData.bool ((((y0 :: yr).filter fun x => !(x == 0)).map PyData.int).isEmpty || decide (maxL (y0.natAbs : Int) (yr.map fun x => (x.natAbs : Int)) > 9)) from rfl] at e
  by_cases q : ((((y0 :: yr).filter fun x => !(x == 0)).map PyData.int).isEmpty || decide (maxL (y0.natAbs : Int) (yr.map fun x => (x.natAbs : Int)) > 9)) = true
  · refine ⟨1 :: List.replicate (d - 1) 0, by rw [List.length_cons, List.length_replicate]; omega, fun z hz => ?_, ?_⟩
    · rcases List.mem_cons.mp hz with rfl | hz
      · decide
      · rw [List.eq_of_mem_replicate hz]; decide
    · rw [exS_if e rfl, if_pos q, exL_next (exS_asg (d := lstI (1 :: List.replicate (d - 1) 0)) (evE_op (x := .list [.int 1]) (y := .list ((List.replicate (d - 1) (0 : Int)).map .int)) rfl (evE_op (x := .list [.int 0]) (y := nd (d - 1)) rfl (evE_op (x := nd d) (y := .int 1) (e_var rfl) rfl ?_) (zeros (by omega))) ?_) rfl)]
      · rfl
      · show some (PyData.int ((d : Int) - 1)) = some (PyData.int ((d - 1 : Nat) : Int))
        congr 2; omega
      · rw [q_addL (by simp; omega)]; rfl
  · refine ⟨y0 :: yr, hy, fun z hz => ?_, ?_⟩
    · have q2 : ¬ maxL (y0.natAbs : Int) (yr.map fun x => (x.natAbs : Int)) > 9 := fun w => q (by rw [decide_eq_true w, Bool.or_true])
      obtain ⟨h2, h3⟩ := maxL_ge (yr.map fun x => (x.natAbs : Int)) (y0.natAbs : Int)
      rcases List.mem_cons.mp hz with rfl | hz
      · omega
      · have := h3 _ (List.mem_map.mpr ⟨z, hz, rfl⟩)
        omega
    · rw [exS_if e rfl, if_neg q]; rfl
theorem draw_row {d : Nat} {far : Int} {f8 : Nat} (H : HOf c f8) (h0 : 1 ≤ far ∧ far ≤ 9) (d0 : 1 ≤ d) (d5 : d ≤ 100) {a b : D} {R : List (List Int)} (A : Dr' d R) (few : R.length ≤ 1000) {j6 j7 j8 j9 j10 j11 j12 j13 : Option D} {s : Src} :
    Wp (exL v c (rowB f8) (EP a b (nd d) (.int far) R j6 j7 j8 j9 j10 j11 j12 j13)) s fun r _ => ∃ (R' : List (List Int)) (i7 i9 i10 : Option D), R'.length = R.length + 1 ∧ Dr' d R' ∧ r = .next (EP a b (nd d) (.int far) R' j6 i7 j8 i9 i10 j11 j12 j13) := by
  unfold rowB
  refine wp_cons (wp_name (draw1 h0 d5 fun xs hx bx s => ?_))
  show Wp (exL v c _ (EP a b (nd d) (.int far) R j6 (some (lstI xs)) j8 j9 j10 j11 j12 j13)) s _
  refine wp_cons (draw2 H A few d5 hx bx fun ys i9 i10 s hy by_ => ?_)
  obtain ⟨zs, hz, bz, e⟩ := draw3 (v := v) (c := c) d0 d5 (far := .int far) (a := a) (b := b) (R := R) hy (j6 := j6) (j8 := j8) (j9 := i9) (j10 := i10) (j11 := j11) (j12 := j12) (j13 := j13)
  refine wp_next e ?_
  refine wp_next (exS_app (d := tupI zs) (evE_bi1 rfl (e_var rfl) rfl) rfl (q_small (by rw [List.length_map]; omega))) ?_
  refine wp_nil ⟨R ++ [zs], some (lstI zs), i9, i10, by rw [List.length_append]; rfl, ⟨fun r hr => ?_, fun r hr => ?_⟩, ?_⟩
  · rcases List.mem_append.mp hr with hr | hr
    · exact A.len r hr
    · rw [List.mem_singleton.mp hr]; exact hz
  · rcases List.mem_append.mp hr with hr | hr
    · exact A.bit r hr
    · rw [List.mem_singleton.mp hr]; exact bz
  · unfold EP
    rw [List.map_append]; rfl
theorem bPlanes_eq (f8 : Nat) : bPlanes f8 = [.asg (.tup [.name 3, .name 4]) (.tup [.op .add (.int 1) (.pick (.var 0) (.var 2)), .call f8 [.var 0, .lst [.int 1, .int 1, .int 2, .int 9]]]), .new 5 (.lst []), .for_ (.name 6) (.rng [.op .add (.int 1) (.pick (.var 0) (.var 1))]) (rowB f8), .ret (.tup [.var 3, .bi .tuple [.var 5]])] := rfl
theorem dr_nil {d : Nat} : Dr' d [] := ⟨(fun _ h => nomatch h), (fun _ h => nomatch h)⟩
theorem dr_pl {d : Nat} {R : List (List Int)} (A : Dr' d R) (d0 : 1 ≤ d) (d5 : d ≤ 5) (few : R.length ≤ 100) : Pl d R := ⟨d0, d5, A.len, few, fun r hr x hx => by
  have := A.bit r hr x hx
  show x.natAbs < 32
  omega⟩
/-- drawn planes: 1 to `deep` columns, 1 to `most` rows, |x| at most 9 -/
theorem run_planes {f8 most deep : Nat} (H : HOf c f8) (hm : 1 ≤ most ∧ most ≤ 20) (hd : 1 ≤ deep ∧ deep ≤ 5) {s : Src} {Q : Rs → Src → Prop} (k : ∀ (d : Nat) (R : List (List Int)) (s : Src), 1 ≤ d → d ≤ deep → 1 ≤ R.length → R.length ≤ most → Dr' d R → Q (.ret (plD d R)) s) :
    Wp (exL v c (bPlanes f8) [some srcD, some (nd most), some (nd deep), none, none, none, none, none, none, none, none, none, none, none]) s Q := by
  rw [bPlanes_eq]
  refine wp_cons (wp_asg (wp_tup2 rfl (wp_op (wp_eq (a := .int 1) rfl (wp_pickV (m := (deep : Int)) (fun s => rfl) (fun s => rfl) (by omega) (by omega) fun x s h1 h2 => ⟨_, rfl, wp_call (ds := [srcD, .list [.int 1, .int 1, .int 2, .int 9]]) rfl (H _ _ _ _ rfl (by decide) (by decide) fun i y s hy => ⟨_, rfl, ?_⟩)⟩)))))
  obtain ⟨x, rfl⟩ := Int.eq_ofNat_of_zero_le h1
  obtain ⟨far, rfl, hf⟩ : ∃ far : Int, y = .int far ∧ 1 ≤ far ∧ far ≤ 9 := by
    have := List.mem_of_getElem? hy
    simp only [List.mem_cons, List.not_mem_nil, or_false] at this
    rcases this with rfl | rfl | rfl | rfl <;> exact ⟨_, rfl, by decide, by decide⟩
  have e1 : (1 : Int) + (x : Int) = ((x + 1 : Nat) : Int) := by omega
  rw [e1]
  refine wp_next (exS_new (xs := []) rfl) ?_
  have hn : 1 ≤ x + 1 ∧ x + 1 ≤ deep := ⟨by omega, by omega⟩
  generalize x + 1 = d at hn
  refine wp_cons ?_
  rw [q_for]
  refine wp_bnd (wp_rng1 rfl (wp_op (wp_eq (a := .int 1) rfl (wp_pickV (m := (most : Int)) (fun s => rfl) (fun s => rfl) (by omega) (by omega) fun y s h3 h4 => ⟨_, rfl, ?_⟩))))
  obtain ⟨y, rfl⟩ := Int.eq_ofNat_of_zero_le h3
  refine ⟨y + 1, by show PyData.int (1 + (y : Int)) = .int ((y + 1 : Nat) : Int); congr 1; omega, by omega, wp_bnd (wp_lift rfl ?_)⟩
  refine wp_forL (fun k en => ∃ (R : List (List Int)) (j6 j7 j8 j9 j10 j11 j12 j13 : Option D), R.length = k ∧ Dr' d R ∧ en = EP (nd most) (nd deep) (nd d) (.int far) R j6 j7 j8 j9 j10 j11 j12 j13) _ 0 _ s ⟨[], none, none, none, none, none, none, none, none, rfl, dr_nil, rfl⟩ ?_ ?_
  · rintro i z en s hz ⟨R, j6, j7, j8, j9, j10, j11, j12, j13, hl, A, rfl⟩
    have hi : i < y + 1 := by
      have := (List.getElem?_eq_some_iff.mp hz).1
      simpa using this
    refine wp_bnd (wp_lift rfl ?_)
    show Wp (exL v c (rowB f8) (EP (nd most) (nd deep) (nd d) (.int far) R (some z) j7 j8 j9 j10 j11 j12 j13)) s _
    refine (draw_row H hf hn.1 (by omega) A (by omega)).mono ?_
    rintro r s ⟨R', i7, i9, i10, h5, h6, rfl⟩
    exact ⟨_, rfl, R', _, i7, j8, i9, i10, j11, j12, j13, by omega, h6, rfl⟩
  · rintro en s ⟨R, j6, j7, j8, j9, j10, j11, j12, j13, hl, A, rfl⟩
    have hl2 : R.length = y + 1 := by simpa using hl
    refine wp_cons (wp_retE (wp_eq (a := plD d R) ?_ (k d R s hn.1 hn.2 (by omega) (by omega) A)))
    exact evE_tup2 rfl (e_var rfl) (evE_bi1 rfl (e_var rfl) rfl)
end
end Fz.Ma
/-! Mj: what the laws about planes ask their own helpers: ranks of all lots, a lot less a plane, one of some things, a drawn order. -/
namespace Fz.Ma
open PySem Fz
theorem ne_self {d : D} {b k : Nat} (h : RO b k d) (hk : k ≤ 64) : cmp2 .ne d d = some false := by
  have e : PyData.eqv d d = true := eqv_refl d h.1
  have ok := h.okay hk
  cases d with
  | str s => show some (!decide (s = s)) = _; simp
  | none => rfl
  | bool b => cases b <;> rfl
  | int b => rw [q_neI]; simp
  | list b => change (if okD _ && okD _ then some (!PyData.eqv _ _) else none) = _; rw [ok, e]; rfl
  | tuple b => change (if okD _ && okD _ then some (!PyData.eqv _ _) else none) = _; rw [ok, e]; rfl
  | dict b => have hd := h.1; simp [PyData.canLay0] at hd
def bLotRank (f11 : Nat) : List S := [.ret (.call f11 [.comp (.name 2) (.var 1) none (.idx (.idx (.var 0) (.int 1)) (.var 2))])]
def bRanks (f12 f13 : Nat) : List S := [.ret (.dps (.comp (.name 1) (.call f12 [.bi .len [.idx (.var 0) (.int 1)]]) none (.tup [.var 1, .call f13 [.var 0, .var 1]])))]
def bLess : List S := [.ret (.bi .tuple [.comp (.name 2) (.var 0) (some (.cmp .ne (.var 2) (.var 1))) (.var 2)])]
def bOf : List S := [.ret (.idx (.var 1) (.pick (.var 0) (.bi .len [.var 1])))]
def bMixed : List S := [.new 2 (.bi .list [.var 1]), .mix 2 0 3]
theorem pairs_map {α : Type} (f g : α → D) : ∀ ws : List α, pairsOf (ws.map fun x => PyData.tuple [f x, g x]) = some (ws.map fun x => (f x, g x))
  | [] => rfl
  | x :: ws => by show (pairsOf (ws.map fun x => PyData.tuple [f x, g x])).map ((f x, g x) :: ·) = _; rw [pairs_map f g ws]; rfl
theorem dict_T {α : Type} (f : α → List Nat) (g : α → D) {ws : List α} (h : ws.length ≤ 1000000) : dictOf (ws.map fun x => (tD (f x), g x)) = some (.dict (mergeD (ws.map fun x => (tD (f x), g x)))) := by
  unfold dictOf
  refine if_pos ?_
  rw [Bool.and_eq_true, Bool.or_eq_true]
  refine ⟨.inr (List.all_eq_true.mpr fun q hq => ?_), q_small (by rw [List.length_map]; omega)⟩
  obtain ⟨x, _, rfl⟩ := List.mem_map.mp hq
  exact isTK_tD _
/-- numbers at lots -/
def numsD (m : Nat) (r : List Nat → Nat) : D := .dict ((lots m).map fun l => (tD l, nd (r l)))
theorem nums_at {m : Nat} {r : List Nat → Nat} {l : List Nat} (h : l ∈ lots m) : idxV (numsD m r) (tD l) = some (nd (r l)) := by
  unfold numsD
  rw [q_idxD, atD_map same_tD (g := fun l => nd (r l)) _ h]
theorem nums_sorted {m : Nat} {r : List Nat → Nat} : biV .sorted [numsD m r] = some (.list ((srtL (lots m)).map tD)) := sorted_dict (by rw [List.map_map]; rfl)
theorem nodup_lot {m : Nat} {l : List Nat} (h : l ∈ lots m) : l.Nodup := ((lots_mem m l).mp h).1.imp fun h => Nat.ne_of_lt h
theorem less_erase {l : List Nat} (h : l.Nodup) {i : Nat} (hi : i < l.length) : (l.filter fun x => !decide (x = l[i])) = l.eraseIdx i := by
  induction l generalizing i with
  | nil => exact absurd hi (Nat.not_lt_zero _)
  | cons x l ih =>
    obtain ⟨h1, h2⟩ := List.nodup_cons.mp h
    cases i with
    | zero =>
      rw [List.getElem_cons_zero, List.filter_cons_of_neg (by simp), List.eraseIdx_cons_zero]
      exact List.filter_eq_self.mpr fun y hy => by
        have : y ≠ x := fun e => h1 (e ▸ hy)
        simp [this]
    | succ i =>
      have hi' : i < l.length := by rw [List.length_cons] at hi; omega
      rw [List.getElem_cons_succ, List.eraseIdx_cons_succ, List.filter_cons_of_pos, ih h2 hi']
      have : x ≠ l[i] := fun e => h1 (e ▸ List.getElem_mem hi')
      simp [this]
theorem less_lot {m : Nat} {l : List Nat} (h : l ∈ lots m) (i : Nat) : (l.filter fun x => !decide (x = i)) ∈ lots m := by
  obtain ⟨a, b⟩ := (lots_mem m l).mp h
  exact (lots_mem m _).mpr ⟨a.sublist List.filter_sublist, fun x hx => b x (List.mem_filter.mp hx).1⟩
/-- the law's own word for a round -/
theorem circ_less {m : Nat} {l : List Nat} (h : l ∈ lots m) (r : List Nat → Nat) : ((!decide (r l = l.length)) && (l.filter fun i => !decide (r (l.filter fun x => !decide (x = i)) = l.length - 1)).isEmpty) = circB r l := by
  rw [Bool.eq_iff_iff, circB_iff, Bool.and_eq_true, Bool.not_eq_true', decide_eq_false_iff_not, List.isEmpty_iff, List.filter_eq_nil_iff]
  refine and_congr Iff.rfl ⟨fun q i hi => ?_, fun q i hi => ?_⟩
  · have := q l[i] (List.getElem_mem hi)
    rw [less_erase (nodup_lot h) hi] at this
    simpa using this
  · obtain ⟨k, hk, rfl⟩ := List.getElem_of_mem hi
    rw [less_erase (nodup_lot h) hk, q k hk]
    simp
theorem free_less (B : List (List Nat)) (l : List Nat) : (B.filter fun C => (C.filter fun x => !l.contains x).isEmpty).isEmpty = freeB B l := by
  rw [Bool.eq_iff_iff, freeB_iff, List.isEmpty_iff, List.filter_eq_nil_iff]
  refine forall_congr' fun C => forall_congr' fun hC => ?_
  rw [List.isEmpty_iff, List.filter_eq_nil_iff]
  refine not_congr (forall_congr' fun x => forall_congr' fun hx => ?_)
  simp
section
variable {v : Bool} {c : Cl}
theorem run_lotRank {d : Nat} {rows : List (List Int)} (A : Pl d rows) {f11 : Nat} (h : ∀ R : List (List Int), ofLen d R → small' 0 R → R.length ≤ 1000 → c f11 [rowsA false R] = ret (nd (rk (List.range d) (R.map colF)))) {l : List Nat} (hl : ∀ x ∈ l, x < rows.length) (hn : l.length ≤ 100) :
    exL v c (bLotRank f11) [some (plD d rows), some (tD l), none] = ret (.ret (nd (rkL d rows l))) := by
  unfold bLotRank
  have mem : ∀ x ∈ l, rows.getD x [] ∈ rows := fun x hx => by
    rw [List.getD_eq_getElem?_getD, List.getElem?_eq_getElem (hl x hx)]
    exact List.getElem_mem _
  have e := h (l.map fun x => rows.getD x []) (fun r hr => by
    obtain ⟨x, hx, rfl⟩ := List.mem_map.mp hr
    exact A.len _ (mem x hx)) (fun r hr => by
    obtain ⟨x, hx, rfl⟩ := List.mem_map.mp hr
    exact A.bit _ (mem x hx)) (by rw [List.length_map]; omega)
  rw [List.map_map] at e
  refine exL_ret (exS_ret (evE_call (arg1 rfl (evE_compM (g := nd) (h := fun x => tupI (rows.getD x [])) (ws := l) (e_var rfl) rfl (by omega) fun x hx => ⟨_, rfl, evE_idx (x := .tuple (rows.map tupI)) (evE_idx (x := plD d rows) (y := .int 1) (e_var rfl) rfl rfl) (e_var rfl) (idx_rows (hl x hx))⟩)) ?_))
  have e2 : rowsA false (l.map fun x => rows.getD x []) = .list (l.map fun x => tupI (rows.getD x [])) := by
    unfold rowsA
    rw [if_neg Bool.false_ne_true, List.map_map]; rfl
  rw [← e2]
  exact e
theorem run_ranks {p : D} {r : List Nat → Nat} {m d : Nat} (A : Pd p d m) (hm : m ≤ 12) {f12 f13 : Nat} (h12 : c f12 [nd m] = ret (.list ((lots m).map tD))) (h13 : ∀ l, (∀ x ∈ l, x < m) → l.length ≤ 12 → c f13 [p, tD l] = ret (nd (r l))) :
    exL v c (bRanks f12 f13) [some p, none] = ret (.ret (numsD m r)) := by
  obtain ⟨xs, h1, h2⟩ := A.at1
  have hl := lots_le m hm
  unfold bRanks
  have e1 : evE v c (.comp (.name 1) (.call f12 [.bi .len [.idx (.var 0) (.int 1)]]) none (.tup [.var 1, .call f13 [.var 0, .var 1]])) [some p, none] = ret (.list ((lots m).map fun l => .tuple [tD l, nd (r l)])) := by
    refine evE_compM (g := tD) (h := fun l => .tuple [tD l, nd (r l)]) (ws := lots m) (evE_call (arg1 rfl (e_len rfl (evE_idx (y := .int 1) (e_var rfl) rfl h1) (by rw [len_T, h2]))) h12) rfl (by omega) fun l hl => ⟨_, rfl, ?_⟩
    exact evE_tup2 rfl (e_var rfl) (evE_call (arg2 rfl (e_var rfl) (e_var rfl)) (h13 l ((lots_mem m l).mp hl).2 (by have := len_lt hl; omega)))
  refine exL_ret (exS_ret ?_)
  rw [q_dps, e1, bnd_ret, q_dpsL, pairs_map, Option.bind_some, dict_T (fun l => l) (fun l => nd (r l)) (by omega), lift_ok, mergeD_nodup same_tD (g := fun l => nd (r l)) (lots_nodup m)]; rfl
theorem run_less {l : List Nat} {i : Nat} (h : l.length ≤ 1000) : exL v c bLess [some (tD l), some (nd i), none] = ret (.ret (tD (l.filter fun x => !decide (x = i)))) := by
  unfold bLess
  exact exL_ret (exS_ret (evE_bi1 rfl (evE_compF (g := nd) (h := nd) (p := fun x => !decide (x = i)) (ws := l) (e_var rfl) rfl (by omega) fun x hx => ⟨_, rfl, evE_cmp (e_var rfl) (e_var rfl) (ne_nd x i), fun _ => e_var rfl⟩) rfl))
theorem run_of {xs : List D} (h0 : 0 < xs.length) (hl : xs.length < 1000000) {s : Src} {Q : Rs → Src → Prop} (k : ∀ (i : Nat) (d : D) (s : Src), xs[i]? = some d → Q (.ret d) s) : Wp (exL v c bOf [some srcD, some (.list xs)]) s Q := by
  unfold bOf
  have := wp_of (v := v) (c := c) (s := s) (xs := xs) (Q := fun d s => Q (.ret d) s) h0 (by omega) k
  refine wp_cons (wp_retE (wp_idx (wp_pure (a := .list xs) (fun s => rfl) (wp_pickV (m := (xs.length : Int)) (fun s => rfl) (fun s => rfl) (by omega) (by omega) fun x s1 h0 h1 => ?_))))
  obtain ⟨i, rfl⟩ := Int.eq_ofNat_of_zero_le h0
  have lt : i < xs.length := by omega
  exact ⟨xs[i], idxV_nat (List.getElem?_eq_getElem lt), k i xs[i] s1 (List.getElem?_eq_getElem lt)⟩
theorem run_mixed {α : Type} {g : α → D} {us : List α} (hm : us.length ≤ 1000) {s : Src} {Q : Rs → Src → Prop} (q : ∀ (rs : List α) (s : Src), rs.Perm us → Q (.ret (.list (rs.map g))) s) : Wp (exL v c bMixed [some srcD, some (.list (us.map g)), none, none]) s Q := by
  refine wp_cons (wp_new (wp_eq (a := .list (us.map g)) rfl ⟨_, rfl, ?_⟩))
  exact wp_cons (wp_mix (en := [some srcD, some (.list (us.map g)), some (.list (us.map g)), none]) (us := us) (g := g) rfl rfl (by omega) q)
end
end Fz.Ma
namespace Fz.K46
open PySem PySem.Spec PyProof.Rows L2 Fz
/-! the program as terms -/
/-- 0: lot_rank_of(planes, lot) : planes lot left found i c some row head x y -/
def b0 : List S := [.par [2, 3] [.comp (.name 4) (.var 1) none (.idx (.idx (.var 0) (.int 1)) (.var 4)), .int 0], .for_ (.name 5) (.rng [.idx (.var 0) (.int 0)]) [.asg (.name 6) (.comp (.name 7) (.var 2) (some (.cmp .ne (.idx (.var 7) (.var 5)) (.int 0))) (.var 7)), .ite (.cmp .ne (.var 6) (.lst [])) [.asg (.tup [.name 8, .name 3]) (.tup [.idx (.var 6) (.int 0), .op .add (.var 3) (.int 1)]), .asg (.name 2) (.comp (.name 7) (.var 2) none (.comp (.tup [.name 9, .name 10]) (.zip (.var 7) (.var 8) true) none (.op .sub (.op .mul (.var 9) (.idx (.var 8) (.var 5))) (.op .mul (.idx (.var 7) (.var 5)) (.var 10)))))] []], .ret (.var 3)]
/-- 1: lots_within(lot) : lot found i one -/
def b1 : List S := [.asg (.name 1) (.lst [.tup []]), .for_ (.name 2) (.var 0) [.asg (.name 1) (.op .add (.var 1) (.comp (.name 3) (.var 1) none (.tup [.star (.var 3), .var 2])))], .ret (.var 1)]
/-- 2: every_lot(planes) : planes -/
def b2 : List S := [.ret (.bi .sorted [.call 1 [.bi .tuple [.bi .list [.rng [.bi .len [.idx (.var 0) (.int 1)]]]]]])]
/-- 3: are_free_planes(planes, lot) : planes lot -/
def b3 : List S := [.ret (.cmp .eq (.call 0 [.var 0, .var 1]) (.bi .len [.var 1]))]
/-- 4: round_lots(planes) : planes found lot k -/
def b4 : List S := [.new 1 (.lst []), .for_ (.name 2) (.call 2 [.var 0]) [.ite (.not (.call 3 [.var 0, .var 2])) [.ite (.bi .all [.comp (.name 3) (.rng [.bi .len [.var 2]]) none (.call 3 [.var 0, .op .add (.slc (.var 2) none (some (.var 3))) (.slc (.var 2) (some (.op .add (.var 3) (.int 1))) none)])]) [.app 1 (.var 2)] []] []], .ret (.bi .tuple [.var 1])]
/-- 5: broken_rounds(planes) : planes lot -/
def b5 : List S := [.ret (.bi .tuple [.bi .sorted [.dcp (.name 1) (.call 4 [.var 0]) none (.slc (.var 1) (some (.int 1)) none) (.bl true)]])]
/-- 6: unbroken_lots(planes) : planes broken lot one i -/
def b6 : List S := [.asg (.name 1) (.call 5 [.var 0]), .ret (.bi .tuple [.comp (.name 2) (.call 2 [.var 0]) (some (.not (.bi .any [.comp (.name 3) (.var 1) none (.bi .all [.comp (.name 4) (.var 3) none (.cmp .isin (.var 4) (.var 2))])]))) (.var 2)])]
/-- 7: unbroken_polynomial(planes) : planes found lot -/
def b7 : List S := [.new 1 (.op .mul (.lst [.int 0]) (.op .add (.idx (.var 0) (.int 0)) (.int 1))), .for_ (.name 2) (.call 6 [.var 0]) [.set 1 (.bi .len [.var 2]) (.op .sub (.op .add (.idx (.var 1) (.bi .len [.var 2])) (.int 1)) (.op .mul (.int 2) (.op .mod (.bi .len [.var 2]) (.int 2))))], .ret (.bi .tuple [.var 1])]
/-- 8: _law_of(source, some) : source some -/
def b8 : List S := [.ret (.idx (.var 1) (.pick (.var 0) (.bi .len [.var 1])))]
/-- 9: _law_mixed(source, things) : source things others lap -/
def b9 : List S := [.new 2 (.bi .list [.var 1]), .mix 2 0 3]
/-- 10: _law_planes(source, most, deep) : source most deep d far rows lap row k one other a x b -/
def b10 : List S := [.asg (.tup [.name 3, .name 4]) (.tup [.op .add (.int 1) (.pick (.var 0) (.var 2)), .call 8 [.var 0, .lst [.int 1, .int 1, .int 2, .int 9]]]), .new 5 (.lst []), .for_ (.name 6) (.rng [.op .add (.int 1) (.pick (.var 0) (.var 1))]) [.asg (.name 7) (.comp (.name 8) (.rng [.var 3]) none (.op .sub (.pick (.var 0) (.op .add (.op .mul (.int 2) (.var 4)) (.int 1))) (.var 4))), .ite (.and (.cmp .ne (.var 5) (.lst [])) (.cmp .eq (.pick (.var 0) (.int 4)) (.int 0))) [.par [9, 10] [.read 8 (.var 0) (.var 5), .read 8 (.var 0) (.var 5)], .asg (.name 7) (.ite (.cmp .eq (.pick (.var 0) (.int 2)) (.int 0)) (.comp (.tup [.name 11, .name 13]) (.zip (.var 9) (.var 10) false) none (.op .add (.var 11) (.var 13))) (.comp (.name 11) (.var 9) none (.op .sub (.int 0) (.var 11))))] [], .ite (.or (.cmp .eq (.comp (.name 12) (.var 7) (some (.cmp .ne (.var 12) (.int 0))) (.var 12)) (.lst [])) (.cmp .gt (.bi .max [.comp (.name 12) (.var 7) none (.bi .abs [.var 12])]) (.int 9))) [.asg (.name 7) (.op .add (.lst [.int 1]) (.op .mul (.lst [.int 0]) (.op .sub (.var 3) (.int 1))))] [], .app 5 (.bi .tuple [.var 7])], .ret (.tup [.var 3, .bi .tuple [.var 5]])]
/-- 11: _law_rank(rows) : rows left found row c some head late x y -/
def b11 : List S := [.par [1, 2] [.comp (.name 3) (.var 0) none (.bi .list [.var 3]), .int 0], .for_ (.name 4) (.rng [.ite (.cmp .gt (.bi .len [.var 0]) (.int 0)) (.bi .len [.idx (.var 0) (.int 0)]) (.int 0)]) [.asg (.name 5) (.comp (.name 3) (.var 1) (some (.cmp .ne (.idx (.var 3) (.var 4)) (.int 0))) (.var 3)), .ite (.cmp .ne (.var 5) (.lst [])) [.parN [6, 2, 7] [false, false, true] [.idx (.var 5) (.int 0), .op .add (.var 2) (.int 1), .lst []], .for_ (.name 3) (.var 1) [.app 7 (.comp (.tup [.name 8, .name 9]) (.zip (.var 3) (.var 6) false) none (.op .sub (.op .mul (.var 8) (.idx (.var 6) (.var 4))) (.op .mul (.idx (.var 3) (.var 4)) (.var 9))))], .asg (.name 1) (.comp (.name 3) (.var 7) (some (.cmp .ne (.comp (.name 8) (.var 3) (some (.cmp .ne (.var 8) (.int 0))) (.var 8)) (.lst []))) (.var 3))] []], .ret (.var 2)]
/-- 12: _law_every(m) : m found k lot -/
def b12 : List S := [.asg (.name 1) (.lst [.tup []]), .for_ (.name 2) (.rng [.var 0]) [.asg (.name 1) (.op .add (.var 1) (.comp (.name 3) (.var 1) none (.op .add (.var 3) (.tup [.var 2]))))], .ret (.var 1)]
/-- 13: _law_lot_rank(planes, lot) : planes lot i -/
def b13 : List S := [.ret (.call 11 [.comp (.name 2) (.var 1) none (.idx (.idx (.var 0) (.int 1)) (.var 2))])]
/-- 14: _law_ranks(planes) : planes lot -/
def b14 : List S := [.ret (.dps (.comp (.name 1) (.call 12 [.bi .len [.idx (.var 0) (.int 1)]]) none (.tup [.var 1, .call 13 [.var 0, .var 1]])))]
/-- 15: _law_less(lot, i) : lot i one -/
def b15 : List S := [.ret (.bi .tuple [.comp (.name 2) (.var 0) (some (.cmp .ne (.var 2) (.var 1))) (.var 2)])]
/-- law : script source lap planes lot broken told counts order kept m ranks due rounds unbroken less some d rows i one number -/
def rest : List S := [.for_ (.name 2) (.rng [.int 3]) [.asg (.name 3) (.call 10 [.var 1, .idx (.lst [.int 3, .int 5, .int 6]) (.var 2), .int 4]), .asg (.tup [.tup [.name 17, .name 18], .name 9, .name 10]) (.tup [.var 3, .bi .repr [.var 3], .bi .len [.idx (.var 3) (.int 1)]]), .parN [11, 12] [false, true] [.call 14 [.var 3], .op .mul (.lst [.int 0]) (.op .add (.var 17) (.int 1))], .asg (.tup [.name 13, .name 14]) (.tup [.lst [], .lst []]), .for_ (.name 4) (.bi .sorted [.var 11]) [.asg (.name 15) (.comp (.name 19) (.var 4) (some (.cmp .ne (.idx (.var 11) (.call 15 [.var 4, .var 19])) (.op .sub (.bi .len [.var 4]) (.int 1)))) (.int 1)), .asg (.name 13) (.op .add (.var 13) (.op .mul (.lst [.var 4]) (.bi .int [.and (.cmp .ne (.idx (.var 11) (.var 4)) (.bi .len [.var 4])) (.cmp .eq (.var 15) (.lst []))]))), .set 12 (.idx (.var 11) (.var 4)) (.op .sub (.op .add (.idx (.var 12) (.idx (.var 11) (.var 4))) (.int 1)) (.op .mul (.int 2) (.op .mod (.bi .int [.bi .len [.var 4]]) (.int 2))))], .asg (.name 5) (.bi .sorted [.dps (.comp (.name 4) (.var 13) none (.tup [.slc (.var 4) (some (.int 1)) none, .int 0]))]), .for_ (.name 4) (.bi .sorted [.var 11]) [.asg (.name 16) (.comp (.name 20) (.var 5) (some (.cmp .eq (.comp (.name 19) (.var 20) (some (.cmp .notin (.var 19) (.var 4))) (.var 19)) (.lst []))) (.var 20)), .asg (.name 14) (.op .add (.var 14) (.op .mul (.lst [.var 4]) (.bi .int [.cmp .eq (.var 16) (.lst [])])))], .asg (.name 6) (.lst [.call 4 [.var 3], .call 5 [.var 3], .call 6 [.var 3]]), .ite (.cmp .ne (.bi .repr [.var 6]) (.bi .repr [.lst [.bi .tuple [.var 13], .bi .tuple [.var 5], .bi .tuple [.var 14]]])) [.ret (.bl false)] [], .ite (.cmp .ne (.bi .repr [.call 7 [.var 3]]) (.bi .repr [.bi .tuple [.var 12]])) [.ret (.bl false)] [], .asg (.name 7) (.comp (.name 19) (.rng [.op .add (.var 17) (.int 1)]) none (.bi .len [.comp (.name 4) (.var 14) (some (.cmp .eq (.bi .len [.var 4]) (.var 19))) (.var 4)])), .ite (.or (.cmp .ne (.var 7) (.comp (.name 21) (.var 12) none (.bi .abs [.var 21]))) (.cmp .ne (.comp (.name 4) (.var 14) (some (.cmp .ne (.idx (.var 11) (.var 4)) (.bi .len [.var 4]))) (.var 4)) (.lst []))) [.ret (.bl false)] [], .asg (.name 8) (.call 9 [.var 1, .bi .list [.rng [.var 10]]]), .ite (.or (.cmp .ne (.call 7 [.tup [.var 17, .bi .tuple [.comp (.name 19) (.var 8) none (.idx (.var 18) (.var 19))]]]) (.bi .tuple [.var 12])) (.cmp .ne (.bi .repr [.var 3]) (.var 9))) [.ret (.bl false)] []], .ret (.cmp .eq (.call 7 [.tup [.int 2, .tup [.tup [.int 1, .int 0], .tup [.int 0, .int 1], .tup [.int 1, .int 1]]]]) (.tup [.int 1, .neg (.int 3), .int 2]))]
def P : List Fn := [⟨2, 11, b0⟩, ⟨1, 4, b1⟩, ⟨1, 1, b2⟩, ⟨2, 2, b3⟩, ⟨1, 4, b4⟩, ⟨1, 2, b5⟩, ⟨1, 5, b6⟩, ⟨1, 3, b7⟩, ⟨2, 2, b8⟩, ⟨2, 4, b9⟩, ⟨3, 14, b10⟩, ⟨1, 10, b11⟩, ⟨1, 4, b12⟩, ⟨2, 3, b13⟩, ⟨1, 2, b14⟩, ⟨2, 3, b15⟩]
def depth : Nat := 10
end Fz.K46
/-! K46f: the law about broken rounds, planes by planes. -/
namespace Fz.K46x
open PySem Fz Fz.Ma Fz.K46
/-- what the defs tell of planes -/
structure Cp (c : Cl) (d : Nat) (rows : List (List Int)) : Prop where
  h14 : c 14 [plD d rows] = ret (numsD rows.length (rkL d rows))
  h4 : c 4 [plD d rows] = ret (.tuple ((roundsL (rkL d rows) rows.length).map tD))
  h5 : c 5 [plD d rows] = ret (.tuple ((brokenL (rkL d rows) rows.length).map tD))
  h6 : c 6 [plD d rows] = ret (.tuple ((unbrL (rkL d rows) rows.length).map tD))
  h7 : c 7 [plD d rows] = ret (.tuple ((polyL (rkL d rows) d rows.length).map .int))
structure Cs (c : Cl) : Prop where
  h10 : ∀ (most : Nat) (s : Src) (Q : D → Src → Prop), 1 ≤ most ∧ most ≤ 20 → (∀ (d : Nat) (R : List (List Int)) (s : Src), 1 ≤ d → d ≤ 4 → 1 ≤ R.length → R.length ≤ most → Dr' d R → Q (plD d R) s) → Wp (c 10 [srcD, nd most, nd 4]) s Q
  h15 : ∀ (l : List Nat) (i : Nat), l.length ≤ 12 → c 15 [tD l, nd i] = ret (tD (l.filter fun x => !decide (x = i)))
  h9 : ∀ (us : List Nat) (s : Src) (Q : D → Src → Prop), us.length ≤ 100 → (∀ (rs : List Nat) (s : Src), rs.Perm us → Q (.list (rs.map nd)) s) → Wp (c 9 [srcD, .list (us.map nd)]) s Q
  hp : ∀ (d : Nat) (R : List (List Int)), Pl d R → R.length ≤ 12 → Cp c d R
  hE : ∀ en, evE false c (.cmp .eq (.call 7 [.tup [.int 2, .tup [.tup [.int 1, .int 0], .tup [.int 0, .int 1], .tup [.int 1, .int 1]]]]) (.tup [.int 1, .neg (.int 3), .int 2])) en = ret (.bool true)
abbrev Y (a2 a3 a4 a5 a6 a7 a8 a9 a10 a11 a12 a13 a14 a15 a16 a17 a18 a19 a20 a21 : Option D) : En := [none, some srcD, a2, a3, a4, a5, a6, a7, a8, a9, a10, a11, a12, a13, a14, a15, a16, a17, a18, a19, a20, a21]
def sA : S := .asg (.name 3) (.call 10 [.var 1, .idx (.lst [.int 3, .int 5, .int 6]) (.var 2), .int 4])
def sB : S := .asg (.tup [.tup [.name 17, .name 18], .name 9, .name 10]) (.tup [.var 3, .bi .repr [.var 3], .bi .len [.idx (.var 3) (.int 1)]])
def sC : S := .parN [11, 12] [false, true] [.call 14 [.var 3], .op .mul (.lst [.int 0]) (.op .add (.var 17) (.int 1))]
def sD : S := .asg (.tup [.name 13, .name 14]) (.tup [.lst [], .lst []])
def bE : List S := [.asg (.name 15) (.comp (.name 19) (.var 4) (some (.cmp .ne (.idx (.var 11) (.call 15 [.var 4, .var 19])) (.op .sub (.bi .len [.var 4]) (.int 1)))) (.int 1)), .asg (.name 13) (.op .add (.var 13) (.op .mul (.lst [.var 4]) (.bi .int [.and (.cmp .ne (.idx (.var 11) (.var 4)) (.bi .len [.var 4])) (.cmp .eq (.var 15) (.lst []))]))), .set 12 (.idx (.var 11) (.var 4)) (.op .sub (.op .add (.idx (.var 12) (.idx (.var 11) (.var 4))) (.int 1)) (.op .mul (.int 2) (.op .mod (.bi .int [.bi .len [.var 4]]) (.int 2))))]
def sE : S := .for_ (.name 4) (.bi .sorted [.var 11]) bE
def sF : S := .asg (.name 5) (.bi .sorted [.dps (.comp (.name 4) (.var 13) none (.tup [.slc (.var 4) (some (.int 1)) none, .int 0]))])
def bG : List S := [.asg (.name 16) (.comp (.name 20) (.var 5) (some (.cmp .eq (.comp (.name 19) (.var 20) (some (.cmp .notin (.var 19) (.var 4))) (.var 19)) (.lst []))) (.var 20)), .asg (.name 14) (.op .add (.var 14) (.op .mul (.lst [.var 4]) (.bi .int [.cmp .eq (.var 16) (.lst [])])))]
def sG : S := .for_ (.name 4) (.bi .sorted [.var 11]) bG
def sH : S := .asg (.name 6) (.lst [.call 4 [.var 3], .call 5 [.var 3], .call 6 [.var 3]])
def sI : S := .ite (.cmp .ne (.bi .repr [.var 6]) (.bi .repr [.lst [.bi .tuple [.var 13], .bi .tuple [.var 5], .bi .tuple [.var 14]]])) [.ret (.bl false)] []
def sJ : S := .ite (.cmp .ne (.bi .repr [.call 7 [.var 3]]) (.bi .repr [.bi .tuple [.var 12]])) [.ret (.bl false)] []
def sK : S := .asg (.name 7) (.comp (.name 19) (.rng [.op .add (.var 17) (.int 1)]) none (.bi .len [.comp (.name 4) (.var 14) (some (.cmp .eq (.bi .len [.var 4]) (.var 19))) (.var 4)]))
def sL : S := .ite (.or (.cmp .ne (.var 7) (.comp (.name 21) (.var 12) none (.bi .abs [.var 21]))) (.cmp .ne (.comp (.name 4) (.var 14) (some (.cmp .ne (.idx (.var 11) (.var 4)) (.bi .len [.var 4]))) (.var 4)) (.lst []))) [.ret (.bl false)] []
def sM : S := .asg (.name 8) (.call 9 [.var 1, .bi .list [.rng [.var 10]]])
def sN : S := .ite (.or (.cmp .ne (.call 7 [.tup [.var 17, .bi .tuple [.comp (.name 19) (.var 8) none (.idx (.var 18) (.var 19))]]]) (.bi .tuple [.var 12])) (.cmp .ne (.bi .repr [.var 3]) (.var 9))) [.ret (.bl false)] []
def bodyL : List S := [sA, sB, sC, sD, sE, sF, sG, sH, sI, sJ, sK, sL, sM, sN]
def eE : E := .cmp .eq (.call 7 [.tup [.int 2, .tup [.tup [.int 1, .int 0], .tup [.int 0, .int 1], .tup [.int 1, .int 1]]]]) (.tup [.int 1, .neg (.int 3), .int 2])
theorem rest_eq : rest = [.for_ (.name 2) (.rng [.int 3]) bodyL, .ret eE] := rfl
theorem iI (b : Bool) : biV .int [.bool b] = some (.int (if b then 1 else 0)) := by cases b <;> rfl
theorem times_b (d : D) (b : Bool) : op2 .mul (.list [d]) (.int (if b then 1 else 0)) = some (.list (if b then [d] else [])) := by
  cases b with
  | true => rw [if_pos rfl, if_pos rfl, rep_list _ _ (by decide) (by decide) (Nat.le_of_ble_eq_true rfl)]; rfl
  | false => rw [if_neg Bool.false_ne_true, if_neg Bool.false_ne_true, rep_list _ _ (by decide) (by decide) (Nat.le_of_ble_eq_true rfl)]; rfl
section
variable {c : Cl} (C : Cs c) {d : Nat} {R : List (List Int)}
theorem okTD (L : List (List Nat)) : okD (.list (L.map tD)) = true := okL (k := 1) (fun x hx => by
  obtain ⟨l, _, rfl⟩ := List.mem_map.mp hx
  have := ok_rowT true (l.map fun x : Nat => (x : Int))
  unfold rowT at this
  rw [if_pos rfl, List.map_map] at this
  exact this) (by decide)
theorem okOnes {α : Type} (L : List α) : okD (.list (L.map fun _ => PyData.int 1)) = true := okLi L fun _ => 1
include C in
/-- one lot: its ranks, whether it is a round -/
theorem lapE {m : Nat} (hm : m ≤ 12) {r : List Nat → Nat} (hr : ∀ l, r l ≤ d) (d5 : d ≤ 100) {l : List Nat} (hl : l ∈ lots m) {rs : List (List Nat)} (hs : rs.length ≤ 10000) {zs : List Int} (hz : zs.length = d + 1) (a2 a3 a5 a6 a7 a8 a9 a10 a14 a15 a16 a17 a18 a19 a20 a21 : Option D) :
    exL false c bE (Y a2 a3 (some (tD l)) a5 a6 a7 a8 a9 a10 (some (numsD m r)) (some (.list (zs.map .int))) (some (.list (rs.map tD))) a14 a15 a16 a17 a18 a19 a20 a21) = ret (.next (Y a2 a3 (some (tD l)) a5 a6 a7 a8 a9 a10 (some (numsD m r)) (some (.list ((addAt zs (r l) (sg l)).map .int))) (some (.list ((rs ++ if circB r l then [l] else []).map tD))) a14 (some (.list ((l.filter fun i => !decide (r (l.filter fun x => !decide (x = i)) = l.length - 1)).map fun _ => .int 1))) a16 a17 a18 a19 a20 a21)) := by
  have hn := len_lt hl
  unfold bE
  have e15 : evE false c (.comp (.name 19) (.var 4) (some (.cmp .ne (.idx (.var 11) (.call 15 [.var 4, .var 19])) (.op .sub (.bi .len [.var 4]) (.int 1)))) (.int 1)) (Y a2 a3 (some (tD l)) a5 a6 a7 a8 a9 a10 (some (numsD m r)) (some (.list (zs.map .int))) (some (.list (rs.map tD))) a14 a15 a16 a17 a18 a19 a20 a21) = ret (.list ((l.filter fun i => !decide (r (l.filter fun x => !decide (x = i)) = l.length - 1)).map fun _ => .int 1)) := by
    refine evE_compF (g := nd) (h := fun _ => .int 1) (ws := l) (p := fun i => !decide (r (l.filter fun x => !decide (x = i)) = l.length - 1)) (e_var rfl) rfl (by omega) fun i hi => ⟨_, rfl, ?_, fun _ => rfl⟩
    have pos : 0 < l.length := List.length_pos_of_mem hi
    refine evE_cmp (evE_idx (e_var rfl) (evE_call (arg2 rfl (e_var rfl) (e_var rfl)) (C.h15 l i (by omega))) (nums_at (less_lot hl i))) (y := nd (l.length - 1)) (evE_op (x := nd l.length) (y := .int 1) (e_len rfl (e_var rfl) (len_tD l)) rfl ?_) (ne_nd _ _)
    show some (PyData.int ((l.length : Int) - 1)) = some (PyData.int ((l.length - 1 : Nat) : Int))
    congr 2; omega
  refine (exL_next (exS_asg e15 rfl)).trans ?_
  have e13 : exS false c (.asg (.name 13) (.op .add (.var 13) (.op .mul (.lst [.var 4]) (.bi .int [.and (.cmp .ne (.idx (.var 11) (.var 4)) (.bi .len [.var 4])) (.cmp .eq (.var 15) (.lst []))])))) (Y a2 a3 (some (tD l)) a5 a6 a7 a8 a9 a10 (some (numsD m r)) (some (.list (zs.map .int))) (some (.list (rs.map tD))) a14 (some (.list ((l.filter fun i => !decide (r (l.filter fun x => !decide (x = i)) = l.length - 1)).map fun _ => .int 1))) a16 a17 a18 a19 a20 a21) = ret (.next (Y a2 a3 (some (tD l)) a5 a6 a7 a8 a9 a10 (some (numsD m r)) (some (.list (zs.map .int))) (some (.list ((rs ++ if circB r l then [l] else []).map tD))) a14 (some (.list ((l.filter fun i => !decide (r (l.filter fun x => !decide (x = i)) = l.length - 1)).map fun _ => .int 1))) a16 a17 a18 a19 a20 a21)) := by
    refine exS_asg (d := .list ((rs ++ if circB r l then [l] else []).map tD)) (evE_op (x := .list (rs.map tD)) (y := .list (if circB r l then [tD l] else [])) (e_var rfl) (evE_op (x := .list [tD l]) (y := .int (if circB r l then 1 else 0)) rfl (evE_bi1 rfl (evE_and (evE_cmp (evE_idx (e_var rfl) (e_var rfl) (nums_at hl)) (e_len rfl (e_var rfl) (len_tD l)) (ne_nd _ _)) (evE_cmp (e_var rfl) (y := .list []) rfl (eq_nil (okOnes _)))) ?_) (times_b _ _)) ?_) rfl
    · have e := circ_less hl r
      rw [List.isEmpty_map, e]
      exact iI _
    · rw [q_addL (by rw [List.length_map]; split <;> simp <;> omega), List.map_append]
      cases circB r l <;> rfl
  refine (exL_next e13).trans ?_
  have e12 : exS false c (.set 12 (.idx (.var 11) (.var 4)) (.op .sub (.op .add (.idx (.var 12) (.idx (.var 11) (.var 4))) (.int 1)) (.op .mul (.int 2) (.op .mod (.bi .int [.bi .len [.var 4]]) (.int 2))))) (Y a2 a3 (some (tD l)) a5 a6 a7 a8 a9 a10 (some (numsD m r)) (some (.list (zs.map .int))) (some (.list ((rs ++ if circB r l then [l] else []).map tD))) a14 (some (.list ((l.filter fun i => !decide (r (l.filter fun x => !decide (x = i)) = l.length - 1)).map fun _ => .int 1))) a16 a17 a18 a19 a20 a21) = ret (.next (Y a2 a3 (some (tD l)) a5 a6 a7 a8 a9 a10 (some (numsD m r)) (some (.list ((addAt zs (r l) (sg l)).map .int))) (some (.list ((rs ++ if circB r l then [l] else []).map tD))) a14 (some (.list ((l.filter fun i => !decide (r (l.filter fun x => !decide (x = i)) = l.length - 1)).map fun _ => .int 1))) a16 a17 a18 a19 a20 a21)) := by
    have hrl := hr l
    have n1 : evE false c (.idx (.var 11) (.var 4)) (Y a2 a3 (some (tD l)) a5 a6 a7 a8 a9 a10 (some (numsD m r)) (some (.list (zs.map .int))) (some (.list ((rs ++ if circB r l then [l] else []).map tD))) a14 (some (.list ((l.filter fun i => !decide (r (l.filter fun x => !decide (x = i)) = l.length - 1)).map fun _ => .int 1))) a16 a17 a18 a19 a20 a21) = ret (nd (r l)) := evE_idx (e_var rfl) (e_var rfl) (nums_at hl)
    have n2 : evE false c (.op .sub (.op .add (.idx (.var 12) (.idx (.var 11) (.var 4))) (.int 1)) (.op .mul (.int 2) (.op .mod (.bi .int [.bi .len [.var 4]]) (.int 2)))) (Y a2 a3 (some (tD l)) a5 a6 a7 a8 a9 a10 (some (numsD m r)) (some (.list (zs.map .int))) (some (.list ((rs ++ if circB r l then [l] else []).map tD))) a14 (some (.list ((l.filter fun i => !decide (r (l.filter fun x => !decide (x = i)) = l.length - 1)).map fun _ => .int 1))) a16 a17 a18 a19 a20 a21) = ret (.int (zs.getD (r l) 0 + 1 - 2 * ((l.length : Int) % 2))) := by
      refine evE_op (evE_op (evE_idx (e_var rfl) n1 (idx_ints (by omega))) (y := .int 1) rfl rfl) (evE_op (x := .int 2) rfl (evE_op (x := nd l.length) (evE_bi1 rfl (e_len rfl (e_var rfl) (len_tD l)) rfl) (y := .int 2) rfl (op2_mod (by decide))) (op2_mul (by decide) ?_)) rfl
      have : (l.length : Int) % 2 = 0 ∨ (l.length : Int) % 2 = 1 := by omega
      rcases this with h | h <;> rw [h] <;> decide
    rw [q_set, n2, bnd_ret, n1, bnd_ret, q_lstAt rfl, lift_ok, bnd_ret, set_int (by omega), sg_of]; rfl
  rw [exL_next e12]; rfl
include C in
/-- all lots -/
theorem lineE {m : Nat} (hm : m ≤ 12) {r : List Nat → Nat} (hr : ∀ l, r l ≤ d) (d5 : d ≤ 100) (a2 a3 a4 a5 a6 a7 a8 a9 a10 a14 a15 a16 a17 a18 a19 a20 a21 : Option D) :
    ∃ b4 b15, exS false c sE (Y a2 a3 a4 a5 a6 a7 a8 a9 a10 (some (numsD m r)) (some (.list ((List.replicate (d + 1) (0 : Int)).map .int))) (some (.list [])) a14 a15 a16 a17 a18 a19 a20 a21) = ret (.next (Y a2 a3 b4 a5 a6 a7 a8 a9 a10 (some (numsD m r)) (some (.list ((dueL r d m).map .int))) (some (.list ((roundsL r m).map tD))) a14 b15 a16 a17 a18 a19 a20 a21)) := by
  have key : ∀ (ws : List (List Nat)) (rs : List (List Nat)) (zs : List Int) (b4 b15 : Option D), (∀ l ∈ ws, l ∈ lots m) → rs.length + ws.length ≤ 10000 → zs.length = d + 1 → ∃ b4' b15', forL (fTurn false c (.name 4) bE) (ws.map tD) (Y a2 a3 b4 a5 a6 a7 a8 a9 a10 (some (numsD m r)) (some (.list (zs.map .int))) (some (.list (rs.map tD))) a14 b15 a16 a17 a18 a19 a20 a21) = ret (.next (Y a2 a3 b4' a5 a6 a7 a8 a9 a10 (some (numsD m r)) (some (.list ((ws.foldl (fun zs x => addAt zs (r x) (sg x)) zs).map .int))) (some (.list ((rs ++ ws.filter (circB r)).map tD))) a14 b15' a16 a17 a18 a19 a20 a21)) := by
    intro ws
    induction ws with
    | nil => intro rs zs b4 b15 _ _ _; exact ⟨b4, b15, by rw [List.filter_nil, List.append_nil]; rfl⟩
    | cons l ws ih =>
      intro rs zs b4 b15 h1 h2 h3
      rw [List.length_cons] at h2
      have hl := h1 l (List.mem_cons_self ..)
      obtain ⟨x4, x15, e⟩ := ih (rs ++ if circB r l then [l] else []) (addAt zs (r l) (sg l)) (some (tD l)) (some (.list ((l.filter fun i => !decide (r (l.filter fun x => !decide (x = i)) = l.length - 1)).map fun _ => .int 1))) (fun l hl => h1 l (List.mem_cons_of_mem _ hl)) (by
        rw [List.length_append]
        split
        · rw [List.length_singleton]; omega
        · rw [List.length_nil]; omega) (by rw [addAt_len]; exact h3)
      refine ⟨x4, x15, (forL_next (lapE C hm hr d5 hl (by omega) h3 a2 a3 a5 a6 a7 a8 a9 a10 a14 b15 a16 a17 a18 a19 a20 a21)).trans (e.trans ?_)⟩
      rw [List.append_assoc, List.foldl_cons]
      cases q : circB r l with
      | true => rw [if_pos rfl, List.filter_cons_of_pos q]; rfl
      | false => rw [if_neg Bool.false_ne_true, List.filter_cons_of_neg (by simp [q])]; rfl
  obtain ⟨b4, b15, e⟩ := key (srtL (lots m)) [] (List.replicate (d + 1) 0) a4 a15 (fun l hl => mem_srt.mp hl) (by rw [srt_le]; have := lots_le m hm; simp; omega) List.length_replicate
  refine ⟨b4, b15, ?_⟩
  unfold sE
  rw [exS_for (evE_bi1 rfl (e_var rfl) nums_sorted) rfl]
  exact e
theorem kd_le (L : List (List Nat)) : (kd L).length ≤ L.length := by
  have kl : ∀ (L acc : List (List Nat)), (L.foldl (fun acc x => if x ∈ acc then acc else acc ++ [x]) acc).length ≤ acc.length + L.length := by
    intro L
    induction L with
    | nil => intro acc; simp
    | cons x L ih =>
      intro acc
      rw [List.foldl_cons]
      refine Nat.le_trans (ih _) ?_
      split
      · rw [List.length_cons]; omega
      · rw [List.length_append, List.length_singleton, List.length_cons]; omega
  have := kl L []
  unfold kd
  simpa using this
theorem rounds_le {r : List Nat → Nat} {m : Nat} (hm : m ≤ 12) : (roundsL r m).length ≤ 4096 := Nat.le_trans (List.length_filter_le ..) (by rw [srt_le]; exact lots_le m hm)
theorem unbr_le {r : List Nat → Nat} {m : Nat} (hm : m ≤ 12) : (unbrL r m).length ≤ 4096 := Nat.le_trans (List.length_filter_le ..) (by rw [srt_le]; exact lots_le m hm)
theorem broken_le {r : List Nat → Nat} {m : Nat} (hm : m ≤ 12) : (brokenL r m).length ≤ 4096 := by
  unfold brokenL
  rw [srt_le]
  exact Nat.le_trans (kd_le _) (by rw [List.length_map]; exact rounds_le hm)
theorem broken_len {r : List Nat → Nat} {m : Nat} {l : List Nat} (h : l ∈ brokenL r m) : l.length ≤ m ∧ ∀ x ∈ l, x < m := by
  obtain ⟨T, h1, _, rfl⟩ := (mem_broken r).mp h
  have := len_lt h1
  exact ⟨by rw [List.length_tail]; omega, fun x hx => ((lots_mem m T).mp h1).2 x (List.mem_of_mem_tail hx)⟩
theorem lineF {m : Nat} (hm : m ≤ 12) {r : List Nat → Nat} (a2 a3 a4 a5 a6 a7 a8 a9 a10 a11 a12 a14 a15 a16 a17 a18 a19 a20 a21 : Option D) :
    exS false c sF (Y a2 a3 a4 a5 a6 a7 a8 a9 a10 a11 a12 (some (.list ((roundsL r m).map tD))) a14 a15 a16 a17 a18 a19 a20 a21) = ret (.next (Y a2 a3 a4 (some (.list ((brokenL r m).map tD))) a6 a7 a8 a9 a10 a11 a12 (some (.list ((roundsL r m).map tD))) a14 a15 a16 a17 a18 a19 a20 a21)) := by
  have hl := rounds_le (r := r) hm
  have e1 : evE false c (.comp (.name 4) (.var 13) none (.tup [.slc (.var 4) (some (.int 1)) none, .int 0])) (Y a2 a3 a4 a5 a6 a7 a8 a9 a10 a11 a12 (some (.list ((roundsL r m).map tD))) a14 a15 a16 a17 a18 a19 a20 a21) = ret (.list ((roundsL r m).map fun l => .tuple [tD l.tail, .int 0])) := by
    refine evE_compM (g := tD) (h := fun l => .tuple [tD l.tail, .int 0]) (ws := roundsL r m) (e_var rfl) rfl (by omega) fun l hl => ⟨_, rfl, evE_tup2 rfl ?_ rfl⟩
    have : evE false c (.slc (.var 4) (some (.int 1)) none) ((Y a2 a3 a4 a5 a6 a7 a8 a9 a10 a11 a12 (some (.list ((roundsL r m).map tD))) a14 a15 a16 a17 a18 a19 a20 a21).set 4 (some (tD l))) = ret (.tuple (cut (l.map nd) (some ((1 : Nat) : Int)) none)) := rfl
    rw [this, cutD, ← List.map_drop, List.drop_one]; rfl
  unfold sF
  refine exS_asg (evE_bi1 rfl ?_ (sorted_dict (keys_merge List.tail (fun _ => PyData.int 0) (roundsL r m)))) rfl
  rw [q_dps, e1, bnd_ret, q_dpsL, pairs_map, Option.bind_some, dict_T List.tail (fun _ => .int 0) (by omega), lift_ok]
theorem lineG {m : Nat} (hm : m ≤ 12) {r : List Nat → Nat} (a2 a3 a4 a6 a7 a8 a9 a10 a12 a13 a15 a16 a17 a18 a19 a20 a21 : Option D) :
    ∃ b4 b16, exS false c sG (Y a2 a3 a4 (some (.list ((brokenL r m).map tD))) a6 a7 a8 a9 a10 (some (numsD m r)) a12 a13 (some (.list [])) a15 a16 a17 a18 a19 a20 a21) = ret (.next (Y a2 a3 b4 (some (.list ((brokenL r m).map tD))) a6 a7 a8 a9 a10 (some (numsD m r)) a12 a13 (some (.list ((unbrL r m).map tD))) a15 b16 a17 a18 a19 a20 a21)) := by
  have hb := broken_le (r := r) hm
  have lap : ∀ (l : List Nat) (us : List (List Nat)) (b16 : Option D), l ∈ lots m → us.length ≤ 10000 → ∃ b16', exL false c bG (Y a2 a3 (some (tD l)) (some (.list ((brokenL r m).map tD))) a6 a7 a8 a9 a10 (some (numsD m r)) a12 a13 (some (.list (us.map tD))) a15 b16 a17 a18 a19 a20 a21) = ret (.next (Y a2 a3 (some (tD l)) (some (.list ((brokenL r m).map tD))) a6 a7 a8 a9 a10 (some (numsD m r)) a12 a13 (some (.list ((us ++ if freeB (brokenL r m) l then [l] else []).map tD))) a15 b16' a17 a18 a19 a20 a21)) := by
    intro l us b16 hl hu
    refine ⟨some (.list (((brokenL r m).filter fun C => (C.filter fun x => !l.contains x).isEmpty).map tD)), ?_⟩
    unfold bG
    have e16 : evE false c (.comp (.name 20) (.var 5) (some (.cmp .eq (.comp (.name 19) (.var 20) (some (.cmp .notin (.var 19) (.var 4))) (.var 19)) (.lst []))) (.var 20)) (Y a2 a3 (some (tD l)) (some (.list ((brokenL r m).map tD))) a6 a7 a8 a9 a10 (some (numsD m r)) a12 a13 (some (.list (us.map tD))) a15 b16 a17 a18 a19 a20 a21) = ret (.list (((brokenL r m).filter fun C => (C.filter fun x => !l.contains x).isEmpty).map tD)) := by
      refine evE_compF (g := tD) (h := tD) (ws := brokenL r m) (p := fun C => (C.filter fun x => !l.contains x).isEmpty) (e_var rfl) rfl (by omega) fun C hC => ⟨_, rfl, ?_, fun _ => e_var rfl⟩
      have hn := (broken_len hC).1
      have := eq_nil (okL_nd (C.filter fun x => !l.contains x))
      rw [List.isEmpty_map] at this
      exact evE_cmp (evE_compF (g := nd) (h := nd) (ws := C) (p := fun x => !l.contains x) (e_var rfl) rfl (by omega) fun x hx => ⟨_, rfl, evE_cmp (e_var rfl) (e_var rfl) (notin_nd x l), fun _ => e_var rfl⟩) (y := .list []) rfl this
    refine (exL_next (exS_asg e16 rfl)).trans ?_
    have := eq_nil (okTD ((brokenL r m).filter fun C => (C.filter fun x => !l.contains x).isEmpty))
    rw [List.isEmpty_map, free_less] at this
    refine (exL_next (exS_asg (d := .list ((us ++ if freeB (brokenL r m) l then [l] else []).map tD)) (evE_op (x := .list (us.map tD)) (y := .list (if freeB (brokenL r m) l then [tD l] else [])) (e_var rfl) (evE_op (x := .list [tD l]) (y := .int (if freeB (brokenL r m) l then 1 else 0)) rfl (evE_bi1 rfl (evE_cmp (e_var rfl) (y := .list []) rfl this) (iI _)) (times_b _ _)) (by
      rw [q_addL (by rw [List.length_map]; split <;> simp <;> omega), List.map_append]
      cases freeB (brokenL r m) l <;> rfl)) rfl)).trans ?_
    rfl
  have key : ∀ (ws : List (List Nat)) (us : List (List Nat)) (b4 b16 : Option D), (∀ l ∈ ws, l ∈ lots m) → us.length + ws.length ≤ 10000 → ∃ b4' b16', forL (fTurn false c (.name 4) bG) (ws.map tD) (Y a2 a3 b4 (some (.list ((brokenL r m).map tD))) a6 a7 a8 a9 a10 (some (numsD m r)) a12 a13 (some (.list (us.map tD))) a15 b16 a17 a18 a19 a20 a21) = ret (.next (Y a2 a3 b4' (some (.list ((brokenL r m).map tD))) a6 a7 a8 a9 a10 (some (numsD m r)) a12 a13 (some (.list ((us ++ ws.filter (freeB (brokenL r m))).map tD))) a15 b16' a17 a18 a19 a20 a21)) := by
    intro ws
    induction ws with
    | nil => intro us b4 b16 _ _; exact ⟨b4, b16, by rw [List.filter_nil, List.append_nil]; rfl⟩
    | cons l ws ih =>
      intro us b4 b16 h1 h2
      rw [List.length_cons] at h2
      obtain ⟨z, ez⟩ := lap l us b16 (h1 l (List.mem_cons_self ..)) (by omega)
      obtain ⟨x4, x16, e⟩ := ih (us ++ if freeB (brokenL r m) l then [l] else []) (some (tD l)) z (fun l hl => h1 l (List.mem_cons_of_mem _ hl)) (by
        rw [List.length_append]
        split
        · rw [List.length_singleton]; omega
        · rw [List.length_nil]; omega)
      refine ⟨x4, x16, (forL_next ez).trans (e.trans ?_)⟩
      rw [List.append_assoc]
      cases q : freeB (brokenL r m) l with
      | true => rw [if_pos rfl, List.filter_cons_of_pos q]; rfl
      | false => rw [if_neg Bool.false_ne_true, List.filter_cons_of_neg (by simp [q])]; rfl
  obtain ⟨b4, b16, e⟩ := key (srtL (lots m)) [] a4 a16 (fun l hl => mem_srt.mp hl) (by rw [srt_le]; have := lots_le m hm; simp; omega)
  refine ⟨b4, b16, ?_⟩
  unfold sG
  rw [exS_for (evE_bi1 rfl (e_var rfl) nums_sorted) rfl]
  exact e
end
end Fz.K46x
/-! K46g: the law about broken rounds: what is told and what is due. -/
namespace Fz.K46x
open PySem Fz Fz.Ma Fz.K46
theorem arg3 {v : Bool} {c : Cl} {en : En} {a b e : E} {x y z : D} (q : evL v c [a, b, e] en = bnd (evE v c a en) fun x => bnd (bnd (evE v c b en) fun y => bnd (bnd (evE v c e en) fun z => bnd (ret []) fun ys => ret (z :: ys)) fun ys => ret (y :: ys)) fun ys => ret (x :: ys)) (ha : evE v c a en = ret x) (hb : evE v c b en = ret y) (he : evE v c e en = ret z) : evL v c [a, b, e] en = ret [x, y, z] := by rw [q, ha, bnd_ret, hb, bnd_ret, he]; rfl
theorem sum_abs {α : Type} (f : α → Int) : ∀ L : List α, (∀ x ∈ L, (f x).natAbs ≤ 1) → (L.map f).sum.natAbs ≤ L.length
  | [], _ => by simp
  | x :: L, h => by
    have h1 := h x (List.mem_cons_self ..)
    have h2 := sum_abs f L fun y hy => h y (List.mem_cons_of_mem _ hy)
    rw [List.map_cons, List.sum_cons, List.length_cons]
    omega
theorem due_small {r : List Nat → Nat} {d m : Nat} (hm : m ≤ 12) (hr : ∀ l, r l ≤ d) : ∀ x ∈ dueL r d m, x.natAbs < 2 ^ 13 := fun x hx => by
  rw [dueL_at (k := 0) hr] at hx
  obtain ⟨k, _, rfl⟩ := List.mem_map.mp hx
  have := sum_abs (wt r k) (lots m) fun S _ => by
    unfold wt sg
    split
    · have : (S.length : Int) % 2 = 0 ∨ (S.length : Int) % 2 = 1 := by omega
      omega
    · decide
  have := lots_le m hm
  show _ < 8192
  omega
theorem due_len {r : List Nat → Nat} {d m : Nat} (hr : ∀ l, r l ≤ d) : (dueL r d m).length = d + 1 := by rw [dueL_at (k := 0) hr]; simp
theorem ro_due {r : List Nat → Nat} {d m : Nat} (hm : m ≤ 12) (d5 : d ≤ 5) (hr : ∀ l, r l ≤ d) : RO 105 1 (.tuple ((dueL r d m).map .int)) := ro_ints (n := 13) (m := 6) (dueL r d m) (fun x => x) (due_small hm hr) (by decide) (by rw [due_len hr]; omega)
theorem ro_lots {m : Nat} (hm : m ≤ 12) {L : List (List Nat)} (h : ∀ l ∈ L, l.length ≤ m ∧ ∀ x ∈ l, x < m) (hl : L.length ≤ 4096) : RO 1200131 2 (.tuple (L.map tD)) := ro_tuple (b := 291) (k := 1) (n := 4096) (fun x hx => by
  obtain ⟨l, hl, rfl⟩ := List.mem_map.mp hx
  obtain ⟨h1, h2⟩ := h l hl
  exact ro_tD (m := 12) (fun x hx => by have := h2 x hx; omega) (by omega)) (by rw [List.length_map]; exact hl)
theorem ro_planes {d : Nat} {R : List (List Int)} (A : Pl d R) : RO 10100 3 (plD d R) := by
  have h : ∀ x ∈ [nd d, PyData.tuple (R.map tupI)], RO 5003 2 x := fun x hx => by
    rcases List.mem_cons.mp hx with rfl | hx
    · have := ro_nd (x := d) (by have := A.d5; omega)
      exact ⟨this.1, Nat.le_trans this.2.1 (by decide), this.2.2.1, Nat.le_trans this.2.2.2 (by decide)⟩
    · rw [List.mem_singleton.mp hx]
      exact ro_tuple (b := 48) (k := 1) (n := 100) (fun y hy => by
        obtain ⟨r, hr, rfl⟩ := List.mem_map.mp hy
        have := ro_ints (n := 5) (m := 5) r (fun x => x) (fun w hw => A.bit r hr w hw) (by decide) (by rw [A.len r hr]; exact A.d5)
        exact ⟨this.1, this.2.1, this.2.2.1, Nat.le_trans this.2.2.2 (by decide)⟩) (by rw [List.length_map]; exact A.few)
  have := ro_tuple (n := 2) h (Nat.le_of_ble_eq_true rfl)
  exact ⟨this.1, this.2.1, this.2.2.1, Nat.le_trans this.2.2.2 (by decide)⟩
section
variable {c : Cl} (C : Cs c) {d : Nat} {R : List (List Int)} (A : Pl d R) (few : R.length ≤ 12)
theorem rk_d (l : List Nat) : rkL d R l ≤ d := by
  have := rk_le (List.range d) (l.map (ρ R))
  rw [List.length_range] at this
  exact this
theorem mtd : Mtd (rkL d R) (fun l e => inSp (List.range d) (l.map (ρ R)) (ρ R e)) := mtd_of (List.range d) (ρ R)
theorem lot_ok {m : Nat} {l : List Nat} (h : l ∈ lots m) : l.length ≤ m ∧ ∀ x ∈ l, x < m := ⟨len_lt h, ((lots_mem m l).mp h).2⟩
include C A few
/-- what the program tells is what is due -/
theorem linesHL (a2 a4 a6 a7 a8 a9 a10 a15 a16 a18 a19 a20 a21 : Option D) {r : List S} {Q : Rs → Src → Prop} {s : Src}
    (k : ∀ b6 b7, Wp (exL false c r (Y a2 (some (plD d R)) a4 (some (.list ((brokenL (rkL d R) R.length).map tD))) b6 b7 a8 a9 a10 (some (numsD R.length (rkL d R))) (some (.list ((dueL (rkL d R) d R.length).map .int))) (some (.list ((roundsL (rkL d R) R.length).map tD))) (some (.list ((unbrL (rkL d R) R.length).map tD))) a15 a16 (some (nd d)) a18 a19 a20 a21)) s Q) :
    Wp (exL false c (sH :: sI :: sJ :: sK :: sL :: r) (Y a2 (some (plD d R)) a4 (some (.list ((brokenL (rkL d R) R.length).map tD))) a6 a7 a8 a9 a10 (some (numsD R.length (rkL d R))) (some (.list ((dueL (rkL d R) d R.length).map .int))) (some (.list ((roundsL (rkL d R) R.length).map tD))) (some (.list ((unbrL (rkL d R) R.length).map tD))) a15 a16 (some (nd d)) a18 a19 a20 a21)) s Q := by
  have P := C.hp d R A few
  have M := mtd (d := d) (R := R)
  have hr := rk_d (d := d) (R := R)
  have pd := poly_due M (m := R.length) hr
  have e6 : exS false c sH (Y a2 (some (plD d R)) a4 (some (.list ((brokenL (rkL d R) R.length).map tD))) a6 a7 a8 a9 a10 (some (numsD R.length (rkL d R))) (some (.list ((dueL (rkL d R) d R.length).map .int))) (some (.list ((roundsL (rkL d R) R.length).map tD))) (some (.list ((unbrL (rkL d R) R.length).map tD))) a15 a16 (some (nd d)) a18 a19 a20 a21) = ret (.next (Y a2 (some (plD d R)) a4 (some (.list ((brokenL (rkL d R) R.length).map tD))) (some (.list [.tuple ((roundsL (rkL d R) R.length).map tD), .tuple ((brokenL (rkL d R) R.length).map tD), .tuple ((unbrL (rkL d R) R.length).map tD)])) a7 a8 a9 a10 (some (numsD R.length (rkL d R))) (some (.list ((dueL (rkL d R) d R.length).map .int))) (some (.list ((roundsL (rkL d R) R.length).map tD))) (some (.list ((unbrL (rkL d R) R.length).map tD))) a15 a16 (some (nd d)) a18 a19 a20 a21)) := by
    refine exS_asg (d := .list [.tuple ((roundsL (rkL d R) R.length).map tD), .tuple ((brokenL (rkL d R) R.length).map tD), .tuple ((unbrL (rkL d R) R.length).map tD)]) ?_ rfl
    rw [q_lst, arg3 rfl (evE_call (arg1 rfl (e_var rfl)) P.h4) (evE_call (arg1 rfl (e_var rfl)) P.h5) (evE_call (arg1 rfl (e_var rfl)) P.h6)]; rfl
  refine wp_next e6 ?_
  have ro6 : RO 3600402 3 (.list [.tuple ((roundsL (rkL d R) R.length).map tD), .tuple ((brokenL (rkL d R) R.length).map tD), .tuple ((unbrL (rkL d R) R.length).map tD)]) := ro_list (b := 1200131) (k := 2) (n := 3) (fun x hx => by
    rcases List.mem_cons.mp hx with rfl | hx
    · exact ro_lots few (fun l hl => lot_ok ((mem_rounds _).mp hl).1) (rounds_le few)
    · rcases List.mem_cons.mp hx with rfl | hx
      · exact ro_lots few (fun l hl => broken_len hl) (broken_le few)
      · rw [List.mem_singleton.mp hx]
        exact ro_lots few (fun l hl => lot_ok (mem_srt.mp (List.mem_filter.mp hl).1)) (unbr_le few)) (Nat.le_of_ble_eq_true rfl)
  refine wp_skip (evE_ne_repr (arg1 rfl (e_var rfl)) (arg1 rfl ?_) ro6 (by decide) (by decide)) ?_
  · rw [q_lst, arg3 rfl (evE_bi1 rfl (e_var rfl) (d := .tuple ((roundsL (rkL d R) R.length).map tD)) rfl) (evE_bi1 rfl (e_var rfl) (d := .tuple ((brokenL (rkL d R) R.length).map tD)) rfl) (evE_bi1 rfl (e_var rfl) (d := .tuple ((unbrL (rkL d R) R.length).map tD)) rfl)]; rfl
  have roD := ro_due few A.d5 hr
  refine wp_skip (evE_ne_repr (d := .tuple ((dueL (rkL d R) d R.length).map .int)) (arg1 rfl (evE_call (arg1 rfl (e_var rfl)) (by rw [P.h7, pd]))) (arg1 rfl (evE_bi1 rfl (e_var rfl) rfl)) roD (by decide) (by decide)) ?_
  -- counts
  have hu := unbr_le (r := rkL d R) few
  have ul : ∀ l ∈ unbrL (rkL d R) R.length, l ∈ lots R.length := fun l hl => mem_srt.mp (List.mem_filter.mp hl).1
  have e7 : ∀ b6, exS false c sK (Y a2 (some (plD d R)) a4 (some (.list ((brokenL (rkL d R) R.length).map tD))) b6 a7 a8 a9 a10 (some (numsD R.length (rkL d R))) (some (.list ((dueL (rkL d R) d R.length).map .int))) (some (.list ((roundsL (rkL d R) R.length).map tD))) (some (.list ((unbrL (rkL d R) R.length).map tD))) a15 a16 (some (nd d)) a18 a19 a20 a21) = ret (.next (Y a2 (some (plD d R)) a4 (some (.list ((brokenL (rkL d R) R.length).map tD))) b6 (some (.list (((dueL (rkL d R) d R.length).map fun x => if x < 0 then -x else x).map .int))) a8 a9 a10 (some (numsD R.length (rkL d R))) (some (.list ((dueL (rkL d R) d R.length).map .int))) (some (.list ((roundsL (rkL d R) R.length).map tD))) (some (.list ((unbrL (rkL d R) R.length).map tD))) a15 a16 (some (nd d)) a18 a19 a20 a21)) := fun b6 => by
    have cd := counts_due M (m := R.length) hr
    refine exS_asg (d := .list (((dueL (rkL d R) d R.length).map fun x => if x < 0 then -x else x).map .int)) ?_ rfl
    rw [← cd, List.map_map]
    refine evE_compM (g := nd) (h := fun k => .int (((unbrL (rkL d R) R.length).filter fun l => decide (l.length = k)).length : Int)) (ws := List.range (d + 1)) (evE_rng (n := d + 1) rfl (evE_op (x := nd d) (y := .int 1) (e_var rfl) rfl rfl) (by have := A.d5; omega)) rfl (by have := A.d5; simp; omega) fun k hk => ⟨_, rfl, ?_⟩
    refine evE_bi1 rfl (evE_compF (g := tD) (h := tD) (p := fun l => decide (l.length = k)) (ws := unbrL (rkL d R) R.length) (e_var rfl) rfl (by omega) fun l hl => ⟨_, rfl, evE_cmp (e_len rfl (e_var rfl) (len_tD l)) (e_var rfl) (eq_nd _ _), fun _ => e_var rfl⟩) ?_
    rw [len_L, List.length_map]; rfl
  refine wp_next (e7 _) ?_
  refine wp_skip ?_ (k _ _)
  have x1 : ∀ en : En, en.getD 7 none = some (.list (((dueL (rkL d R) d R.length).map fun x => if x < 0 then -x else x).map .int)) → en.getD 12 none = some (.list ((dueL (rkL d R) d R.length).map .int)) → en.length = 22 → evE false c (.cmp .ne (.var 7) (.comp (.name 21) (.var 12) none (.bi .abs [.var 21]))) en = ret (.bool false) := fun en h7 h12 hl => by
    refine evE_cmp (e_var h7) (evE_compM (g := PyData.int) (h := fun x => .int (if x < 0 then -x else x)) (ws := dueL (rkL d R) d R.length) (e_var h12) rfl (by rw [due_len hr]; have := A.d5; omega) fun x hx => ⟨_, rfl, evE_bi1 rfl (e_var ?_) q_absI⟩) ?_
    · rw [List.getD_eq_getElem?_getD, List.getElem?_set_self (by omega)]; rfl
    · rw [List.map_map]
      exact ne_sameL (okLi (dueL (rkL d R) d R.length) fun x => if x < 0 then -x else x)
  refine evE_or (u := false) (x1 _ rfl rfl rfl) ?_
  have fe : (unbrL (rkL d R) R.length).filter (fun l => !decide (rkL d R l = l.length)) = [] := List.filter_eq_nil_iff.mpr fun l hl => by
    rw [unbr_free M hl]; simp
  have e3 : ∀ en : En, en.getD 11 none = some (numsD R.length (rkL d R)) → en.getD 14 none = some (.list ((unbrL (rkL d R) R.length).map tD)) → (∀ l : List Nat, (en.set 4 (some (tD l))).getD 11 none = some (numsD R.length (rkL d R)) ∧ (en.set 4 (some (tD l))).getD 4 none = some (tD l)) → evE false c (.comp (.name 4) (.var 14) (some (.cmp .ne (.idx (.var 11) (.var 4)) (.bi .len [.var 4]))) (.var 4)) en = ret (.list (((unbrL (rkL d R) R.length).filter fun l => !decide (rkL d R l = l.length)).map tD)) := fun en h11 h14 hq =>
    evE_compF (g := tD) (h := tD) (p := fun l => !decide (rkL d R l = l.length)) (ws := unbrL (rkL d R) R.length) (e_var h14) rfl (by omega) fun l hl => ⟨_, rfl, evE_cmp (evE_idx (e_var (hq l).1) (e_var (hq l).2) (nums_at (ul l hl))) (e_len rfl (e_var (hq l).2) (len_tD l)) (ne_nd _ _), fun _ => e_var (hq l).2⟩
  refine evE_cmp (e3 _ rfl rfl fun l => ⟨rfl, rfl⟩) (y := .list []) rfl ?_
  rw [fe]; rfl
/-- the planes in another order -/
theorem lineN {rs : List Nat} (p : rs.Perm (List.range R.length)) (a2 a4 a5 a6 a7 a10 a11 a13 a14 a15 a16 a19 a20 a21 : Option D) :
    exS false c sN (Y a2 (some (plD d R)) a4 a5 a6 a7 (some (.list (rs.map nd))) (some (.str (plD d R).shown)) a10 a11 (some (.list ((dueL (rkL d R) d R.length).map .int))) a13 a14 a15 a16 (some (nd d)) (some (.tuple (R.map tupI))) a19 a20 a21) = ret (.next (Y a2 (some (plD d R)) a4 a5 a6 a7 (some (.list (rs.map nd))) (some (.str (plD d R).shown)) a10 a11 (some (.list ((dueL (rkL d R) d R.length).map .int))) a13 a14 a15 a16 (some (nd d)) (some (.tuple (R.map tupI))) a19 a20 a21)) := by
  have hl : rs.length = R.length := by rw [p.length_eq, List.length_range]
  have hb : ∀ x ∈ rs, x < R.length := fun x hx => List.mem_range.mp (p.mem_iff.mp hx)
  have mem : ∀ x ∈ rs, R.getD x [] ∈ R := fun x hx => by
    rw [List.getD_eq_getElem?_getD, List.getElem?_eq_getElem (hb x hx)]
    exact List.getElem_mem _
  have A2 : Pl d (rs.map fun x => R.getD x []) := ⟨A.d0, A.d5, fun r hr => by
    obtain ⟨x, hx, rfl⟩ := List.mem_map.mp hr
    exact A.len _ (mem x hx), by rw [List.length_map, hl]; exact A.few, fun r hr => by
    obtain ⟨x, hx, rfl⟩ := List.mem_map.mp hr
    exact A.bit _ (mem x hx)⟩
  have P := C.hp d _ A2 (by rw [List.length_map, hl]; exact few)
  have hr := rk_d (d := d) (R := R)
  have hr2 := rk_d (d := d) (R := rs.map fun x => R.getD x [])
  have pd := poly_due (mtd (d := d) (R := rs.map fun x => R.getD x [])) (m := R.length) hr2
  have h7 := P.h7
  rw [List.length_map, hl, pd] at h7
  have pm : ((List.range R.length).map fun i => rs.getD i 0) = rs := by
    refine List.ext_getElem (by simp [hl]) fun i h1 h2 => ?_
    rw [List.getElem_map, List.getElem_range, List.getD_eq_getElem?_getD, List.getElem?_eq_getElem h2]; rfl
  have dp := due_perm (mtd (d := d) (R := R)) (m := R.length) (r2 := rkL d (rs.map fun x => R.getD x [])) (π := fun i => rs.getD i 0) hr hr2 (fun l hl2 => by
    unfold rkL
    rw [List.map_map]
    congr 1
    refine List.map_congr_left fun x hx => ?_
    have hx := hl2 x hx
    show colF ((rs.map fun x => R.getD x []).getD x []) = colF (R.getD (rs.getD x 0) [])
    rw [List.getD_eq_getElem?_getD, List.getElem?_map, List.getElem?_eq_getElem (by omega), Option.map_some, Option.getD_some, List.getD_eq_getElem?_getD (l := rs), List.getElem?_eq_getElem (by omega), Option.getD_some]) (by rw [pm]; exact p)
  rw [dp] at h7
  unfold sN
  have e : ∀ en : En, en.getD 3 none = some (plD d R) → en.getD 8 none = some (.list (rs.map nd)) → en.getD 9 none = some (.str (plD d R).shown) → en.getD 12 none = some (.list ((dueL (rkL d R) d R.length).map .int)) → en.getD 17 none = some (nd d) → (∀ i : Nat, (en.set 19 (some (nd i))).getD 18 none = some (.tuple (R.map tupI)) ∧ (en.set 19 (some (nd i))).getD 19 none = some (nd i)) → evE false c (.or (.cmp .ne (.call 7 [.tup [.var 17, .bi .tuple [.comp (.name 19) (.var 8) none (.idx (.var 18) (.var 19))]]]) (.bi .tuple [.var 12])) (.cmp .ne (.bi .repr [.var 3]) (.var 9))) en = ret (.bool false) := by
    intro en h3 h8 h9 h12 h17 hq
    refine evE_or (t := false) (u := false) ?_ ?_
    · refine evE_cmp (x := .tuple ((dueL (rkL d R) d R.length).map .int)) (y := .tuple ((dueL (rkL d R) d R.length).map .int)) (evE_call (arg1 rfl (x := plD d (rs.map fun x => R.getD x [])) (evE_tup2 rfl (e_var h17) (evE_bi1 rfl (x := .list (rs.map fun i => tupI (R.getD i []))) (evE_compM (g := nd) (h := fun i => tupI (R.getD i [])) (ws := rs) (e_var h8) rfl (by omega) fun i hi => ⟨_, rfl, evE_idx (e_var (hq i).1) (e_var (hq i).2) (idx_rows (hb i hi))⟩) ?_))) h7) (evE_bi1 rfl (e_var h12) rfl) (ne_self (ro_due few A.d5 hr) (by decide))
      rw [List.map_map]; rfl
    · exact evE_cmp (evE_bi1 rfl (e_var h3) ((ro_planes A).repr (by decide) (by decide))) (e_var h9) (ne_str _)
  rw [exS_if (e _ rfl rfl rfl rfl rfl fun i => ⟨rfl, rfl⟩) rfl, if_neg Bool.false_ne_true]; rfl
end
end Fz.K46x
namespace Fz.K46x
open PySem Fz Fz.Ma Fz.K46
def Shp (en : En) : Prop := ∃ a2 a3 a4 a5 a6 a7 a8 a9 a10 a11 a12 a13 a14 a15 a16 a17 a18 a19 a20 a21, en = Y a2 a3 a4 a5 a6 a7 a8 a9 a10 a11 a12 a13 a14 a15 a16 a17 a18 a19 a20 a21
section
variable {c : Cl} (C : Cs c)
include C
theorem lap {x : Nat} (hx : x < 3) (a3 a4 a5 a6 a7 a8 a9 a10 a11 a12 a13 a14 a15 a16 a17 a18 a19 a20 a21 : Option D) (s : Src) : Wp (exL false c bodyL (Y (some (nd x)) a3 a4 a5 a6 a7 a8 a9 a10 a11 a12 a13 a14 a15 a16 a17 a18 a19 a20 a21)) s fun r _ => ∃ en2, r = .next en2 ∧ Shp en2 := by
  unfold bodyL
  obtain ⟨most, hm, em⟩ : ∃ most : Nat, (1 ≤ most ∧ most ≤ 6) ∧ evL false c [.var 1, .idx (.lst [.int 3, .int 5, .int 6]) (.var 2), .int 4] (Y (some (nd x)) a3 a4 a5 a6 a7 a8 a9 a10 a11 a12 a13 a14 a15 a16 a17 a18 a19 a20 a21) = ret [srcD, nd most, nd 4] := by
    rcases (show x = 0 ∨ x = 1 ∨ x = 2 by omega) with rfl | rfl | rfl
    · exact ⟨3, by decide, rfl⟩
    · exact ⟨5, by decide, rfl⟩
    · exact ⟨6, by decide, rfl⟩
  refine wp_cons (wp_name (wp_call em (C.h10 most _ _ ⟨hm.1, by omega⟩ fun d R s d1 d4 r1 rm A0 => ?_)))
  have A := dr_pl A0 d1 (by omega) (by omega)
  have few : R.length ≤ 12 := by omega
  have P := C.hp d R A few
  have hr := rk_d (d := d) (R := R)
  show Wp (exL false c _ (Y (some (nd x)) (some (plD d R)) a4 a5 a6 a7 a8 a9 a10 a11 a12 a13 a14 a15 a16 a17 a18 a19 a20 a21)) s _
  have eB : exS false c sB (Y (some (nd x)) (some (plD d R)) a4 a5 a6 a7 a8 a9 a10 a11 a12 a13 a14 a15 a16 a17 a18 a19 a20 a21) = ret (.next (Y (some (nd x)) (some (plD d R)) a4 a5 a6 a7 a8 (some (.str (plD d R).shown)) (some (nd R.length)) a11 a12 a13 a14 a15 a16 (some (nd d)) (some (.tuple (R.map tupI))) a19 a20 a21)) := by
    refine exS_asg (d := .tuple [plD d R, .str (plD d R).shown, nd R.length]) ?_ rfl
    rw [q_tup, arg3 rfl (e_var rfl) (evE_bi1 rfl (e_var rfl) ((ro_planes A).repr (by decide) (by decide))) (e_len rfl (evE_idx (x := plD d R) (y := .int 1) (d := .tuple (R.map tupI)) (e_var rfl) rfl rfl) (n := R.length) (by rw [len_T, List.length_map]))]; rfl
  refine wp_next eB ?_
  have eC : exS false c sC (Y (some (nd x)) (some (plD d R)) a4 a5 a6 a7 a8 (some (.str (plD d R).shown)) (some (nd R.length)) a11 a12 a13 a14 a15 a16 (some (nd d)) (some (.tuple (R.map tupI))) a19 a20 a21) = ret (.next (Y (some (nd x)) (some (plD d R)) a4 a5 a6 a7 a8 (some (.str (plD d R).shown)) (some (nd R.length)) (some (numsD R.length (rkL d R))) (some (.list ((List.replicate (d + 1) (0 : Int)).map .int))) a13 a14 a15 a16 (some (nd d)) (some (.tuple (R.map tupI))) a19 a20 a21)) := by
    unfold sC
    rw [q_parN, arg2 rfl (evE_call (arg1 rfl (e_var rfl)) P.h14) (evE_op (x := .list [.int 0]) (y := nd (d + 1)) rfl (evE_op (x := nd d) (y := .int 1) (e_var rfl) rfl rfl) (zeros (by omega))), bnd_ret]; rfl
  refine wp_next eC ?_
  refine wp_next (en2 := Y (some (nd x)) (some (plD d R)) a4 a5 a6 a7 a8 (some (.str (plD d R).shown)) (some (nd R.length)) (some (numsD R.length (rkL d R))) (some (.list ((List.replicate (d + 1) (0 : Int)).map .int))) (some (.list [])) (some (.list [])) a15 a16 (some (nd d)) (some (.tuple (R.map tupI))) a19 a20 a21) rfl ?_
  obtain ⟨b4, b15, eE'⟩ := lineE C few hr (by omega) (some (nd x)) (some (plD d R)) a4 a5 a6 a7 a8 (some (.str (plD d R).shown)) (some (nd R.length)) (some (.list [])) a15 a16 (some (nd d)) (some (.tuple (R.map tupI))) a19 a20 a21
  refine wp_next eE' (wp_next (lineF few (r := rkL d R) ..) ?_)
  obtain ⟨c4, b16, eG⟩ := lineG (c := c) few (r := rkL d R) (some (nd x)) (some (plD d R)) b4 a6 a7 a8 (some (.str (plD d R).shown)) (some (nd R.length)) (some (.list ((dueL (rkL d R) d R.length).map .int))) (some (.list ((roundsL (rkL d R) R.length).map tD))) b15 a16 (some (nd d)) (some (.tuple (R.map tupI))) a19 a20 a21
  refine wp_next eG ?_
  refine linesHL C A few _ _ _ _ _ _ _ _ _ _ _ _ _ fun b6 b7 => ?_
  have em2 : evL false c [.var 1, .bi .list [.rng [.var 10]]] (Y (some (nd x)) (some (plD d R)) c4 (some (.list ((brokenL (rkL d R) R.length).map tD))) b6 b7 a8 (some (.str (plD d R).shown)) (some (nd R.length)) (some (numsD R.length (rkL d R))) (some (.list ((dueL (rkL d R) d R.length).map .int))) (some (.list ((roundsL (rkL d R) R.length).map tD))) (some (.list ((unbrL (rkL d R) R.length).map tD))) b15 b16 (some (nd d)) (some (.tuple (R.map tupI))) a19 a20 a21) = ret [srcD, .list ((List.range R.length).map nd)] :=
    arg2 rfl (e_var rfl) (evE_bi1 rfl (evE_rng rfl (e_var rfl) (by omega)) rfl)
  refine wp_cons (wp_name (wp_call em2 (C.h9 _ _ _ (by simp; omega) fun rs s p => ?_)))
  exact wp_next (lineN C A few p _ _ _ _ _ _ _ _ _ _ _ _ _ _) (wp_nil ⟨_, rfl, _, _, _, _, _, _, _, _, _, _, _, _, _, _, _, _, _, _, _, _, rfl⟩)
theorem whole (s : Src) : Wp (exL false c rest (Y none none none none none none none none none none none none none none none none none none none none)) s fun r _ => r = .ret (.bool true) := by
  rw [rest_eq]
  refine wp_cons (wp_for (xs := (List.range 3).map nd) (fun _ en => Shp en) (wp_eq (a := .list ((List.range 3).map nd)) rfl ⟨rfl, _, _, _, _, _, _, _, _, _, _, _, _, _, _, _, _, _, _, _, _, rfl⟩) ?_ ?_)
  · rintro i y en s hy ⟨a2, a3, a4, a5, a6, a7, a8, a9, a10, a11, a12, a13, a14, a15, a16, a17, a18, a19, a20, a21, rfl⟩
    obtain ⟨x, hx, rfl⟩ := List.mem_map.mp (List.mem_of_getElem? hy)
    exact ⟨_, rfl, lap C (List.mem_range.mp hx) ..⟩
  · rintro en s ⟨a2, a3, a4, a5, a6, a7, a8, a9, a10, a11, a12, a13, a14, a15, a16, a17, a18, a19, a20, a21, rfl⟩
    exact wp_cons (wp_retE (wp_eq (C.hE _) rfl))
end
abbrev cN (k : Nat) : Cl := callN false P k
theorem pd_of {d : Nat} {R : List (List Int)} : Pd (plD d R) d R.length := ⟨rfl, _, rfl, by rw [List.length_map]⟩
section
variable {d : Nat} {R : List (List Int)} (A : Pl d R) (few : R.length ≤ 12)
include A
theorem c0 (k : Nat) {l : List Nat} (hl : ∀ x ∈ l, x < R.length) (hn : l.length ≤ 100) : cN (k + 1) 0 [plD d R, tD l] = ret (nd (rkL d R l)) := callN_eq (fn := ⟨2, 11, b0⟩) rfl rfl (run_rank A hl hn)
theorem c3 (k : Nat) {l : List Nat} (hl : ∀ x ∈ l, x < R.length) (hn : l.length ≤ 12) : cN (k + 2) 3 [plD d R, tD l] = ret (.bool (decide (rkL d R l = l.length))) := callN_eq (fn := ⟨2, 2, b3⟩) rfl rfl (run_free (c0 A k hl (by omega)))
include few
omit A in
theorem c1 (k : Nat) : cN (k + 1) 1 [tD (List.range R.length)] = ret (.list ((lots R.length).map tD)) := callN_eq (fn := ⟨1, 4, b1⟩) rfl rfl (run_within (by simp; omega))
omit A in
theorem c2 (k : Nat) : cN (k + 2) 2 [plD d R] = ret (.list ((srtL (lots R.length)).map tD)) := callN_eq (fn := ⟨1, 1, b2⟩) rfl rfl (run_lots pd_of few (c1 few k))
theorem c4 (k : Nat) : cN (k + 3) 4 [plD d R] = ret (.tuple ((roundsL (rkL d R) R.length).map tD)) := callN_eq (fn := ⟨1, 4, b4⟩) rfl rfl (run_rounds few (c2 few k) fun l h1 h2 => c3 A k h1 h2)
theorem c5 (k : Nat) : cN (k + 4) 5 [plD d R] = ret (.tuple ((brokenL (rkL d R) R.length).map tD)) := callN_eq (fn := ⟨1, 2, b5⟩) rfl rfl (run_broken few (c4 A few k))
theorem c6 (k : Nat) : cN (k + 5) 6 [plD d R] = ret (.tuple ((unbrL (rkL d R) R.length).map tD)) := callN_eq (fn := ⟨1, 5, b6⟩) rfl rfl (run_unbr few (c2 few (k + 2)) (c5 A few k))
theorem c7 (k : Nat) : cN (k + 6) 7 [plD d R] = ret (.tuple ((polyL (rkL d R) d R.length).map .int)) := callN_eq (fn := ⟨1, 3, b7⟩) rfl rfl (run_poly pd_of (by have := A.d5; omega) few (fun S hS => by
  have := unbr_free (mtd (d := d) (R := R)) hS
  have := rk_d (d := d) (R := R) S
  omega) (c6 A few k))
theorem c13 (k : Nat) {l : List Nat} (hl : ∀ x ∈ l, x < R.length) (hn : l.length ≤ 12) : cN (k + 2) 13 [plD d R, tD l] = ret (nd (rkL d R l)) := callN_eq (fn := ⟨2, 3, b13⟩) rfl rfl (run_lotRank A (fun R' h1 h2 h3 => callN_eq (fn := ⟨1, 10, b11⟩) rfl rfl (run_lawRank A.d5 (t := false) h1 h2 h3)) hl (by omega))
theorem c14 (k : Nat) : cN (k + 3) 14 [plD d R] = ret (numsD R.length (rkL d R)) := callN_eq (fn := ⟨1, 2, b14⟩) rfl rfl (run_ranks pd_of few (callN_eq (fn := ⟨1, 4, b12⟩) rfl rfl (run_every few)) fun l h1 h2 => c13 A few k h1 h2)
end
theorem hof (k : Nat) : HOf (cN (k + 1)) 8 := fun y xs s Q e h0 hl q => by
  subst e
  exact wp_callN (fn := ⟨2, 2, b8⟩) rfl rfl (run_of h0 hl q)
theorem cs (k : Nat) : Cs (cN (k + 6)) where
  h10 := fun most s Q hm q => wp_callN (fn := ⟨3, 14, b10⟩) rfl rfl (run_planes (hof (k + 4)) hm (deep := 4) (by decide) fun d R s h1 h2 h3 h4 A => q d R s h1 h2 h3 h4 A)
  h15 := fun l i h => callN_eq (fn := ⟨2, 3, b15⟩) rfl rfl (run_less (by omega))
  h9 := fun us s Q hu q => wp_callN (fn := ⟨2, 4, b9⟩) rfl rfl (run_mixed (by omega) q)
  hp := fun d R A few => ⟨c14 A few (k + 3), c4 A few (k + 3), c5 A few (k + 2), c6 A few (k + 1), c7 A few k⟩
  hE := fun en => eq_ret fun s => by kernel_rfl
end Fz.K46x
namespace Fz.K46
open PySem Fz
theorem says : Says false (callN false P depth) rest 20 := by
  intro s
  obtain ⟨r, s', e, e2⟩ := Fz.K46x.whole (Fz.K46x.cs 4) s
  subst e2
  exact ⟨s', e⟩
end Fz.K46
namespace Fz.K46
open PySem PySem.Spec PyProof.Rows L2 Fz
abbrev top (i : Nat) : Stmt := PySem.Challenge.pw_signedplanes_k46_whole_broken_rounds.main.body.getD i (.Pass ⟨0, 0, 0, 0⟩)
def L : Lk := ⟨["lot_rank_of", "lots_within", "every_lot", "are_free_planes", "round_lots", "broken_rounds", "unbroken_lots", "unbroken_polynomial", "_law_of", "_law_mixed", "_law_planes", "_law_rank", "_law_every", "_law_lot_rank", "_law_ranks", "_law_less"], "_law_pick", [8]⟩
abbrev FnP (K : PySem.W.Frag) (x : Str) (st : Stmt) (f : Addr) (fd : FuncData) : Prop := L2.FunD K x x (defArgs st) (defBody st) (defScope st) [] [] f fd
theorem m0 : mDef 60 L ⟨2, 11, b0⟩ ["planes", "lot", "left", "found", "i", "c", "some", "row", "head", "x", "y"] ["planes", "lot"] (defScope (top 1)) (defBody (top 1)) = true := by kernel_rfl
theorem m1 : mDef 60 L ⟨1, 4, b1⟩ ["lot", "found", "i", "one"] ["lot"] (defScope (top 3)) (defBody (top 3)) = true := by kernel_rfl
theorem m2 : mDef 60 L ⟨1, 1, b2⟩ ["planes"] ["planes"] (defScope (top 4)) (defBody (top 4)) = true := by kernel_rfl
theorem m3 : mDef 60 L ⟨2, 2, b3⟩ ["planes", "lot"] ["planes", "lot"] (defScope (top 5)) (defBody (top 5)) = true := by kernel_rfl
theorem m4 : mDef 60 L ⟨1, 4, b4⟩ ["planes", "found", "lot", "k"] ["planes"] (defScope (top 6)) (defBody (top 6)) = true := by kernel_rfl
theorem m5 : mDef 60 L ⟨1, 2, b5⟩ ["planes", "lot"] ["planes"] (defScope (top 7)) (defBody (top 7)) = true := by kernel_rfl
theorem m6 : mDef 60 L ⟨1, 5, b6⟩ ["planes", "broken", "lot", "one", "i"] ["planes"] (defScope (top 8)) (defBody (top 8)) = true := by kernel_rfl
theorem m7 : mDef 60 L ⟨1, 3, b7⟩ ["planes", "found", "lot"] ["planes"] (defScope (top 9)) (defBody (top 9)) = true := by kernel_rfl
theorem m8 : mDef 60 L ⟨2, 2, b8⟩ ["source", "some"] ["source", "some"] (defScope (top 13)) (defBody (top 13)) = true := by kernel_rfl
theorem r8 : mRead 60 L ⟨2, 2, b8⟩ ["source", "some"] ["source", "some"] (defScope (top 13)) (defBody (top 13)) = true := by kernel_rfl
theorem m9 : mDef 60 L ⟨2, 4, b9⟩ ["source", "things", "others", "lap"] ["source", "things"] (defScope (top 14)) (defBody (top 14)) = true := by kernel_rfl
theorem m10 : mDef 60 L ⟨3, 14, b10⟩ ["source", "most", "deep", "d", "far", "rows", "lap", "row", "k", "one", "other", "a", "x", "b"] ["source", "most", "deep"] (defScope (top 15)) (defBody (top 15)) = true := by kernel_rfl
theorem m11 : mDef 60 L ⟨1, 10, b11⟩ ["rows", "left", "found", "row", "c", "some", "head", "late", "x", "y"] ["rows"] (defScope (top 16)) (defBody (top 16)) = true := by kernel_rfl
theorem m12 : mDef 60 L ⟨1, 4, b12⟩ ["m", "found", "k", "lot"] ["m"] (defScope (top 17)) (defBody (top 17)) = true := by kernel_rfl
theorem m13 : mDef 60 L ⟨2, 3, b13⟩ ["planes", "lot", "i"] ["planes", "lot"] (defScope (top 18)) (defBody (top 18)) = true := by kernel_rfl
theorem m14 : mDef 60 L ⟨1, 2, b14⟩ ["planes", "lot"] ["planes"] (defScope (top 19)) (defBody (top 19)) = true := by kernel_rfl
theorem m15 : mDef 60 L ⟨2, 3, b15⟩ ["lot", "i", "one"] ["lot", "i"] (defScope (top 20)) (defBody (top 20)) = true := by kernel_rfl
theorem mLawIs : mLaw 60 L "_law_source" rest ["script", "source", "lap", "planes", "lot", "broken", "told", "counts", "order", "kept", "m", "ranks", "due", "rounds", "unbroken", "less", "some", "d", "rows", "i", "one", "number"] 20 (defScope (top 21)) (defBody (top 21)) = true := by kernel_rfl
section
variable {Pg : Program} {w : World} {K : PySem.W.Frag} {mg : Str → Option Value} {base : Heap} {f : Addr} {fd : FuncData}
theorem scPick : FnScope ["source", "most", "cells", "others", "lap", "stirred"] ["source", "most"] (defScope (top 12)) := scB_ok (by kernel_rfl)
theorem scSrc : FnScope ["script", "stirred", "cell", "cells"] ["script"] (defScope (top 11)) := scB_ok (by kernel_rfl)
theorem ok_pick (F : FnP K "_law_pick" (top 12) f fd) (gI : mg "int" = none) (gN : mg "len" = none) : FnG Pg w K mg base 1 f fd ["source", "most"] (spPick false) := by
  refine funD_okG F scPick (fun vs H Q ⟨_, _, _, _, e, _⟩ => by rw [e]; rfl) fun cdv A outer s H vs Q hr hgu h => ⟨tPick0 K, ?_, ?_⟩
  · have hu := hu_of hr
    have e0 := scPick.nd
    exact (pss_cons (ps_if (pt_cmpR op_lt (pv 1) pe_int (nomark _)) (pss_one (ps_ret pe_int)) pss_nil)
      (pss_cons (ps_set (i := 2) e0 rfl (Or.inl rfl) (pe_dget hu (pv 0) pe_str (fun _ _ => rfl)))
      (pss_cons (ps_while PassesOwn.never (PW.pt (pw_and (pt_cmpR op_lt (pe_dget hu (pv 0) pe_str (fun _ _ => rfl)) pe_int (nomark _)) (pw_and1 (pt_cmpR op_gt (pe_callB call_len rfl gN boot_len (pa_cons (pv 2) pa_nil)) pe_int (nomark _))))) (pss_one (ps_dput hu (pv 0) pe_str (pe_bm0 PySem.F.plainAttrs_list PySem.F.slot_list_pop PySem.F.type_list_pop mt_pop (pv 2)) rfl)))
      (pss_cons (ps_set (i := 3) e0 rfl (Or.inl rfl) (pe_dget hu (pv 0) pe_str (fun _ _ => rfl)))
      (pss_cons (ps_if (pt_cmpR op_gt (pv 3) pe_int (nomark _)) (pss_cons (ps_dput hu (pv 0) pe_str (pe_op op_fdiv (pv 3) (pv 1)) rfl)
      (pss_one (ps_ret (pe_op op_mod (pe_callTy call_int1 rfl gI (by decide +kernel) (pa_cons (pv 3) pa_nil)) (pv 1))))) pss_nil)
      (pss_cons (ps_dput hu (pv 0) pe_str (pe_op op_add (pe_dget hu (pv 0) pe_str (fun _ _ => rfl)) pe_int) rfl)
      (pss_cons (ps_set (i := 4) e0 rfl (Or.inl rfl) (pe_dget hu (pv 0) pe_str (fun _ _ => rfl)))
      (pss_cons (ps_set (i := 5) e0 rfl (Or.inl rfl) (pe_op op_mod (pe_callTy call_int1 rfl gI (by decide +kernel) (pa_cons (pe_op op_add (pe_dget hu (pv 0) pe_str (fun _ _ => rfl)) (pe_op op_mul (pv 4) pe_int)) pa_nil)) pe_int))
      (pss_cons (ps_set (i := 5) e0 rfl (Or.inl rfl) (pe_op op_mod (pe_callTy call_int1 rfl gI (by decide +kernel) (pa_cons (pe_op op_add (pe_op op_mul (pv 5) (pv 5)) (pe_op op_mul (pv 4) pe_int)) pa_nil)) pe_int))
      (pss_one (ps_ret (pe_op op_mod (pe_callTy call_int1 rfl gI (by decide +kernel) (pa_cons (pe_op op_fdiv (pv 5) pe_int) pa_nil)) (pv 1)))))))))))))
  · obtain ⟨sp, cc, sr, m, e, q⟩ := h
    cases e
    exact pick0_reads (D := ⟨fun _ H' => Q .non H', Q, fun _ _ => False, fun _ _ => False⟩) ⟨sp, cc, sr, m, rfl, q⟩
theorem ok_src (F : FnP K "_law_source" (top 11) f fd) (gI : mg "int" = none) (gA : mg "abs" = none) : FnG Pg w K mg base 1 f fd ["script"] (spSrc K) := by
  refine funD_okG F scSrc (fun vs H Q ⟨_, _, e, _⟩ => by rw [e]; rfl) fun cdv A outer s H vs Q hr hgu h => ⟨tSrcA K, ?_, ?_⟩
  · have hu := hu_of hr
    have e0 := scSrc.nd
    exact (pss_cons (ps_set (i := 1) e0 rfl (Or.inl rfl) pe_int)
      (pss_cons (ps_for PassesOwn.never rfl (pi_list (pv 0)) (pg_name e0 (i := 2) rfl (Or.inl rfl) (Or.inl rfl)) (pss_one (ps_set (i := 1) e0 rfl (Or.inl rfl) (pe_op op_mod (pe_callTy call_int1 rfl gI (by decide +kernel) (pa_cons (pe_op op_add (pe_op op_add (pe_op op_mul (pv 1) pe_int) (pe_op op_mul (pv 2) pe_int)) pe_int) pa_nil)) pe_int))))
      (pss_cons (ps_setLc (i := 3) rfl e0 rfl rfl (sw_true rfl rfl rfl rfl) (pi_list (pv 0)) (blkOk_by (own := [("cell", 2)]) (by kernel_rfl)) (fun _ _ _ _ _ => pg_name e0 (i := 2) rfl (Or.inl rfl) (Or.inr rfl)) (fun _ _ _ _ _ => pts_nil) (fun _ _ _ _ _ => pe_callB call_abs rfl gA (by decide +kernel) (pa_cons (pv 2) pa_nil)) (fun _ => rfl))
      (pss_one (ps_ret (pe_disp (pps_cons pe_str (pe_revL (pv 3)) (pps_cons pe_str pe_int (pps_cons pe_str (pv 1) (pps_cons pe_str pe_int pps_nil)))) rfl rfl (by decide) (by decide)))))))
  · obtain ⟨a, ns, e, q⟩ := h
    cases e
    exact srcA_reads (D := ⟨fun _ H' => Q .non H', Q, fun _ _ => False, fun _ _ => False⟩) ⟨a, ns, rfl, q⟩
end
def dd (x : Str) (st : Stmt) : He.DefD := ⟨(x, none), x, x, defArgs st, defBody st, defScope st, [], []⟩
def fn : List He.DefD := [dd "lot_rank_of" (top 1), dd "lots_within" (top 3), dd "every_lot" (top 4), dd "are_free_planes" (top 5), dd "round_lots" (top 6), dd "broken_rounds" (top 7), dd "unbroken_lots" (top 8), dd "unbroken_polynomial" (top 9), dd "_law_of" (top 13), dd "_law_mixed" (top 14), dd "_law_planes" (top 15), dd "_law_rank" (top 16), dd "_law_every" (top 17), dd "_law_lot_rank" (top 18), dd "_law_ranks" (top 19), dd "_law_less" (top 20), dd "_law_pick" (top 12), dd "_law_source" (top 11), dd "law" (top 21)]
def fa : List He.Fa := [.glo "lot_rank_of", .glo "lots_within", .glo "every_lot", .glo "are_free_planes", .glo "round_lots", .glo "broken_rounds", .glo "unbroken_lots", .glo "unbroken_polynomial", .glo "_law_of", .glo "_law_mixed", .glo "_law_planes", .glo "_law_rank", .glo "_law_every", .glo "_law_lot_rank", .glo "_law_ranks", .glo "_law_less", .glo "_law_pick", .glo "_law_source", .glo "law", .free "len", .free "abs", .free "tuple", .free "list", .free "int", .free "bool", .free "sum", .free "any", .free "all", .free "max", .free "min", .free "repr", .free "sorted", .free "range", .free "enumerate", .free "zip", .free "isinstance", .free "str", .free "dict", .free "set", .free "type"]
abbrev R : PySem.W.OpenRow := PySem.W.OpenLaw.row PySem.Challenge.rw_signedplanes_k46_whole_broken_rounds
abbrev hk : PySem.W.Hook := He.hookD 4 fa fn
def ob (s : PySem.W.SharedT) : He.AlD := He.obsDG 4 fa fn (HandSHeadRun.getT s)
theorem ob_eq (s : PySem.W.SharedT) : ob s = hk.obs s.abs := He.obsDG_eq (HandSHeadRun.getT_eq s)
theorem run (w : World) : HandSHeadRun.RunEq R (PySem.W.view R.prog [21]) hk ob 4000 ["lot_rank_of", "lots_within", "every_lot", "are_free_planes", "round_lots", "broken_rounds", "unbroken_lots", "unbroken_polynomial", "_law_source", "_law_pick", "_law_of", "_law_mixed", "_law_planes", "_law_rank", "_law_every", "_law_lot_rank", "_law_ranks", "_law_less"] w := by
  intro os
  kernel_rfl
theorem facts {Pg : Program} {w : World} {K : PySem.W.Frag} {h : Heap} {mg : Str → Option Value} {f : Addr} (X : K.In h) (G : h.Ns mainGlobals mg) (hfa : mg ("law" : Str) = some (.ref f)) (c : He.SaysD fa fn K) (says : Says false (callN false P depth) rest 20) :
    ∃ fd : FuncData, (∀ (s : Shared) (v : Value), BindsTo s fd ⟨[v], []⟩ [("script", v)]) ∧ ∀ base : Heap, K.In base → base.Ns mainGlobals mg → FnG Pg w K mg base (depth + 3) f fd ["script"] (spLaw K) := by
  obtain ⟨fd0, F0⟩ := c.def_ 0 (d := dd "lot_rank_of" (top 1)) rfl
  have g0 := He.glo_ok X G (c.fact 0 (f := .glo "lot_rank_of") rfl)
  have b0_ : Binds K fd0 ["planes", "lot"] [] := L2.FunD.bindsN F0 fun _ _ _ _ _ _ us hl => match us, hl with | [_, _], _ => rfl
  obtain ⟨fd1, F1⟩ := c.def_ 1 (d := dd "lots_within" (top 3)) rfl
  have g1 := He.glo_ok X G (c.fact 1 (f := .glo "lots_within") rfl)
  have b1_ : Binds K fd1 ["lot"] [] := L2.FunD.bindsN F1 fun _ _ _ _ _ _ us hl => match us, hl with | [_], _ => rfl
  obtain ⟨fd2, F2⟩ := c.def_ 2 (d := dd "every_lot" (top 4)) rfl
  have g2 := He.glo_ok X G (c.fact 2 (f := .glo "every_lot") rfl)
  have b2_ : Binds K fd2 ["planes"] [] := L2.FunD.bindsN F2 fun _ _ _ _ _ _ us hl => match us, hl with | [_], _ => rfl
  obtain ⟨fd3, F3⟩ := c.def_ 3 (d := dd "are_free_planes" (top 5)) rfl
  have g3 := He.glo_ok X G (c.fact 3 (f := .glo "are_free_planes") rfl)
  have b3_ : Binds K fd3 ["planes", "lot"] [] := L2.FunD.bindsN F3 fun _ _ _ _ _ _ us hl => match us, hl with | [_, _], _ => rfl
  obtain ⟨fd4, F4⟩ := c.def_ 4 (d := dd "round_lots" (top 6)) rfl
  have g4 := He.glo_ok X G (c.fact 4 (f := .glo "round_lots") rfl)
  have b4_ : Binds K fd4 ["planes"] [] := L2.FunD.bindsN F4 fun _ _ _ _ _ _ us hl => match us, hl with | [_], _ => rfl
  obtain ⟨fd5, F5⟩ := c.def_ 5 (d := dd "broken_rounds" (top 7)) rfl
  have g5 := He.glo_ok X G (c.fact 5 (f := .glo "broken_rounds") rfl)
  have b5_ : Binds K fd5 ["planes"] [] := L2.FunD.bindsN F5 fun _ _ _ _ _ _ us hl => match us, hl with | [_], _ => rfl
  obtain ⟨fd6, F6⟩ := c.def_ 6 (d := dd "unbroken_lots" (top 8)) rfl
  have g6 := He.glo_ok X G (c.fact 6 (f := .glo "unbroken_lots") rfl)
  have b6_ : Binds K fd6 ["planes"] [] := L2.FunD.bindsN F6 fun _ _ _ _ _ _ us hl => match us, hl with | [_], _ => rfl
  obtain ⟨fd7, F7⟩ := c.def_ 7 (d := dd "unbroken_polynomial" (top 9)) rfl
  have g7 := He.glo_ok X G (c.fact 7 (f := .glo "unbroken_polynomial") rfl)
  have b7_ : Binds K fd7 ["planes"] [] := L2.FunD.bindsN F7 fun _ _ _ _ _ _ us hl => match us, hl with | [_], _ => rfl
  obtain ⟨fd8, F8⟩ := c.def_ 8 (d := dd "_law_of" (top 13)) rfl
  have g8 := He.glo_ok X G (c.fact 8 (f := .glo "_law_of") rfl)
  have b8_ : Binds K fd8 ["source", "some"] [] := L2.FunD.bindsN F8 fun _ _ _ _ _ _ us hl => match us, hl with | [_, _], _ => rfl
  obtain ⟨fd9, F9⟩ := c.def_ 9 (d := dd "_law_mixed" (top 14)) rfl
  have g9 := He.glo_ok X G (c.fact 9 (f := .glo "_law_mixed") rfl)
  have b9_ : Binds K fd9 ["source", "things"] [] := L2.FunD.bindsN F9 fun _ _ _ _ _ _ us hl => match us, hl with | [_, _], _ => rfl
  obtain ⟨fd10, F10⟩ := c.def_ 10 (d := dd "_law_planes" (top 15)) rfl
  have g10 := He.glo_ok X G (c.fact 10 (f := .glo "_law_planes") rfl)
  have b10_ : Binds K fd10 ["source", "most", "deep"] [] := L2.FunD.bindsN F10 fun _ _ _ _ _ _ us hl => match us, hl with | [_, _, _], _ => rfl
  obtain ⟨fd11, F11⟩ := c.def_ 11 (d := dd "_law_rank" (top 16)) rfl
  have g11 := He.glo_ok X G (c.fact 11 (f := .glo "_law_rank") rfl)
  have b11_ : Binds K fd11 ["rows"] [] := L2.FunD.bindsN F11 fun _ _ _ _ _ _ us hl => match us, hl with | [_], _ => rfl
  obtain ⟨fd12, F12⟩ := c.def_ 12 (d := dd "_law_every" (top 17)) rfl
  have g12 := He.glo_ok X G (c.fact 12 (f := .glo "_law_every") rfl)
  have b12_ : Binds K fd12 ["m"] [] := L2.FunD.bindsN F12 fun _ _ _ _ _ _ us hl => match us, hl with | [_], _ => rfl
  obtain ⟨fd13, F13⟩ := c.def_ 13 (d := dd "_law_lot_rank" (top 18)) rfl
  have g13 := He.glo_ok X G (c.fact 13 (f := .glo "_law_lot_rank") rfl)
  have b13_ : Binds K fd13 ["planes", "lot"] [] := L2.FunD.bindsN F13 fun _ _ _ _ _ _ us hl => match us, hl with | [_, _], _ => rfl
  obtain ⟨fd14, F14⟩ := c.def_ 14 (d := dd "_law_ranks" (top 19)) rfl
  have g14 := He.glo_ok X G (c.fact 14 (f := .glo "_law_ranks") rfl)
  have b14_ : Binds K fd14 ["planes"] [] := L2.FunD.bindsN F14 fun _ _ _ _ _ _ us hl => match us, hl with | [_], _ => rfl
  obtain ⟨fd15, F15⟩ := c.def_ 15 (d := dd "_law_less" (top 20)) rfl
  have g15 := He.glo_ok X G (c.fact 15 (f := .glo "_law_less") rfl)
  have b15_ : Binds K fd15 ["lot", "i"] [] := L2.FunD.bindsN F15 fun _ _ _ _ _ _ us hl => match us, hl with | [_, _], _ => rfl
  obtain ⟨fd16, F16⟩ := c.def_ 16 (d := dd "_law_pick" (top 12)) rfl
  have g16 := He.glo_ok X G (c.fact 16 (f := .glo "_law_pick") rfl)
  have b16_ : Binds K fd16 ["source", "most"] [] := L2.FunD.bindsN F16 fun _ _ _ _ _ _ us hl => match us, hl with | [_, _], _ => rfl
  obtain ⟨fd17, F17⟩ := c.def_ 17 (d := dd "_law_source" (top 11)) rfl
  have g17 := He.glo_ok X G (c.fact 17 (f := .glo "_law_source") rfl)
  have b17_ : Binds K fd17 ["script"] [] := L2.FunD.bindsN F17 fun _ _ _ _ _ _ us hl => match us, hl with | [_], _ => rfl
  obtain ⟨fd18, F18⟩ := c.def_ 18 (d := dd "law" (top 21)) rfl
  have g18 := He.glo_ok X G (c.fact 18 (f := .glo "law") rfl)
  have h0 := He.free_ok X G (c.fact 19 (f := .free "len") rfl)
  have h1 := He.free_ok X G (c.fact 20 (f := .free "abs") rfl)
  have h2 := He.free_ok X G (c.fact 21 (f := .free "tuple") rfl)
  have h3 := He.free_ok X G (c.fact 22 (f := .free "list") rfl)
  have h4 := He.free_ok X G (c.fact 23 (f := .free "int") rfl)
  have h5 := He.free_ok X G (c.fact 24 (f := .free "bool") rfl)
  have h6 := He.free_ok X G (c.fact 25 (f := .free "sum") rfl)
  have h7 := He.free_ok X G (c.fact 26 (f := .free "any") rfl)
  have h8 := He.free_ok X G (c.fact 27 (f := .free "all") rfl)
  have h9 := He.free_ok X G (c.fact 28 (f := .free "max") rfl)
  have h10 := He.free_ok X G (c.fact 29 (f := .free "min") rfl)
  have h11 := He.free_ok X G (c.fact 30 (f := .free "repr") rfl)
  have h12 := He.free_ok X G (c.fact 31 (f := .free "sorted") rfl)
  have h13 := He.free_ok X G (c.fact 32 (f := .free "range") rfl)
  have h14 := He.free_ok X G (c.fact 33 (f := .free "enumerate") rfl)
  have h15 := He.free_ok X G (c.fact 34 (f := .free "zip") rfl)
  have h16 := He.free_ok X G (c.fact 35 (f := .free "isinstance") rfl)
  have h17 := He.free_ok X G (c.fact 36 (f := .free "str") rfl)
  have h18 := He.free_ok X G (c.fact 37 (f := .free "dict") rfl)
  have h19 := He.free_ok X G (c.fact 38 (f := .free "set") rfl)
  have h20 := He.free_ok X G (c.fact 39 (f := .free "type") rfl)
  have fx : ∀ x ∈ frees, mg x = none := by
    intro x hx
    rcases List.mem_cons.mp hx with rfl | hx
    · exact h0
    rcases List.mem_cons.mp hx with rfl | hx
    · exact h1
    rcases List.mem_cons.mp hx with rfl | hx
    · exact h2
    rcases List.mem_cons.mp hx with rfl | hx
    · exact h3
    rcases List.mem_cons.mp hx with rfl | hx
    · exact h4
    rcases List.mem_cons.mp hx with rfl | hx
    · exact h5
    rcases List.mem_cons.mp hx with rfl | hx
    · exact h6
    rcases List.mem_cons.mp hx with rfl | hx
    · exact h7
    rcases List.mem_cons.mp hx with rfl | hx
    · exact h8
    rcases List.mem_cons.mp hx with rfl | hx
    · exact h9
    rcases List.mem_cons.mp hx with rfl | hx
    · exact h10
    rcases List.mem_cons.mp hx with rfl | hx
    · exact h11
    rcases List.mem_cons.mp hx with rfl | hx
    · exact h12
    rcases List.mem_cons.mp hx with rfl | hx
    · exact h13
    rcases List.mem_cons.mp hx with rfl | hx
    · exact h14
    rcases List.mem_cons.mp hx with rfl | hx
    · exact h15
    rcases List.mem_cons.mp hx with rfl | hx
    · exact h16
    rcases List.mem_cons.mp hx with rfl | hx
    · exact h17
    rcases List.mem_cons.mp hx with rfl | hx
    · exact h18
    rcases List.mem_cons.mp hx with rfl | hx
    · exact h19
    rcases List.mem_cons.mp hx with rfl | hx
    · exact h20
    cases hx
  have bl := L2.FunD.bindsA (ps := ["script"]) F18 fun _ _ _ _ _ _ us hl => match us, hl with | [_], _ => rfl
  cases hfa.symm.trans g18
  refine ⟨fd18, fun s v => bl s [v] rfl, fun base _ _ => ?_⟩
  have pk : Bd Pg w K mg base 1 L.pick (spPick false) := ⟨_, fd16, _, g16, F16.kp, b16_, ok_pick F16 h4 h0⟩
  have so : Bd Pg w K mg base 1 "_law_source" (spSrc K) := ⟨_, fd17, _, g17, F17.kp, b17_, ok_src F17 h4 h1⟩
  have hP := prog_all (v := false) (P := P) (L := L) (m := 60) fx pk (fun f x e => by
    match f, e with
    | 0, e => cases e; exact ⟨_, _, _, _, _, fd0, _, _, rfl, g0, F0, b0_, m0, by decide⟩
    | 1, e => cases e; exact ⟨_, _, _, _, _, fd1, _, _, rfl, g1, F1, b1_, m1, by decide⟩
    | 2, e => cases e; exact ⟨_, _, _, _, _, fd2, _, _, rfl, g2, F2, b2_, m2, by decide⟩
    | 3, e => cases e; exact ⟨_, _, _, _, _, fd3, _, _, rfl, g3, F3, b3_, m3, by decide⟩
    | 4, e => cases e; exact ⟨_, _, _, _, _, fd4, _, _, rfl, g4, F4, b4_, m4, by decide⟩
    | 5, e => cases e; exact ⟨_, _, _, _, _, fd5, _, _, rfl, g5, F5, b5_, m5, by decide⟩
    | 6, e => cases e; exact ⟨_, _, _, _, _, fd6, _, _, rfl, g6, F6, b6_, m6, by decide⟩
    | 7, e => cases e; exact ⟨_, _, _, _, _, fd7, _, _, rfl, g7, F7, b7_, m7, by decide⟩
    | 8, e => cases e; exact ⟨_, _, _, _, _, fd8, _, _, rfl, g8, F8, b8_, m8, fun _ => r8⟩
    | 9, e => cases e; exact ⟨_, _, _, _, _, fd9, _, _, rfl, g9, F9, b9_, m9, by decide⟩
    | 10, e => cases e; exact ⟨_, _, _, _, _, fd10, _, _, rfl, g10, F10, b10_, m10, by decide⟩
    | 11, e => cases e; exact ⟨_, _, _, _, _, fd11, _, _, rfl, g11, F11, b11_, m11, by decide⟩
    | 12, e => cases e; exact ⟨_, _, _, _, _, fd12, _, _, rfl, g12, F12, b12_, m12, by decide⟩
    | 13, e => cases e; exact ⟨_, _, _, _, _, fd13, _, _, rfl, g13, F13, b13_, m13, by decide⟩
    | 14, e => cases e; exact ⟨_, _, _, _, _, fd14, _, _, rfl, g14, F14, b14_, m14, by decide⟩
    | 15, e => cases e; exact ⟨_, _, _, _, _, fd15, _, _, rfl, g15, F15, b15_, m15, by decide⟩
    | _ + 16, e => cases e) depth
  exact law_ok fx pk so hP F18 mLawIs says
end Fz.K46
open PySem PySem.W PySem.Calls PyProof.Rows
theorem PySem.Challenge.cw_signedplanes_k46_whole_broken_rounds_holds : PySem.Challenge.rw_signedplanes_k46_whole_broken_rounds.Holds := by
  w_on; o_law
  refine HandSHeadRun.head_any (r := OpenLaw.row PySem.Challenge.rw_signedplanes_k46_whole_broken_rounds) (q := view (OpenLaw.row PySem.Challenge.rw_signedplanes_k46_whole_broken_rounds).prog [21]) (H := Fz.K46.hk) (ob := Fz.K46.ob) (M := 4000) (loose := ["lot_rank_of", "lots_within", "every_lot", "are_free_planes", "round_lots", "broken_rounds", "unbroken_lots", "unbroken_polynomial", "_law_source", "_law_pick", "_law_of", "_law_mixed", "_law_planes", "_law_rank", "_law_every", "_law_lot_rank", "_law_ranks", "_law_less"]) (d := HandSHeadRun.topDef (OpenLaw.row PySem.Challenge.rw_signedplanes_k46_whole_broken_rounds).prog 21) (kwd := []) Fz.K46.ob_eq
    (by kernel_rfl) (fun s => by kernel_rfl) Fz.K46.run (by kernel_rfl) (by kernel_rfl) (by kernel_rfl) (by rfl) (by first | assumption | decide +kernel) (by decide +kernel) ⟨rfl, rfl, rfl, rfl, rfl, by decide +kernel⟩ ?hw ?hc
  case hw => w_witness2
  case hc =>
    refine Fz.walk_ofG (l := PySem.Challenge.rw_signedplanes_k46_whole_broken_rounds) (n := 63) (k := Fz.K46.depth + 3) (x := "script") rfl (by decide) (by kernel_rfl) ⟨rfl, by decide, by decide⟩ ?F
    intro w mg fa h Y G hmg0
    obtain ⟨K, KX, c⟩ := Y
    have hmg : mg ("law" : PySem.Str) = some (.ref fa) := by
      have e : (HandSHeadRun.topDef (OpenLaw.row PySem.Challenge.rw_signedplanes_k46_whole_broken_rounds).prog 21).name = ("law" : PySem.Str) := by kernel_rfl
      rw [← e]
      exact hmg0
    obtain ⟨fd, hb, hF⟩ := Fz.K46.facts (Pg := (PySem.Challenge.rw_signedplanes_k46_whole_broken_rounds).prog) (w := w) KX G hmg c Fz.K46.says
    exact ⟨K, fd, Fz.spLaw K, KX, hb, fun H a ns hl _ hS => ⟨a, ns, rfl, hS, Nat.le_trans hl (by decide), fun _ => rfl⟩, hF⟩
