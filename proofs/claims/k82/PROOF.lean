import PyProof.Rows.All
import Wide.All
import OpenK.AllK
import Wide.FinOn
import HandS.ForMost
import HandS.NoneIn
import HandS.TupMul
import HandS.Flow
import HandS.Star
import HandS.Conv
import HandS.TupAny
import HandS.Walk
import HandS.Style
import HandS.Wide
import HandS.Dict
import HandS.Deep
import HandS.SortInts
import HandS.IsInst
import PyProof.WalksMore
import HandS.NamedTupSort
import HandS.DictTup
import KE.KDictCopyH
import KE.GoesEnum
import KE.GoesZip
import KE.GoesMore
import KE.KDictKeyed
import HandS.HeadHook1
import HandS.Defaults
import HandS.HeadHook2
import HandS.Words
import HandS.Ends
import PyProof.ReprLen
import HandS.HeadEnd
import HandS.Head0
import HandS.Head1
import HandS.Head2
import HandS.More
import HandS.WordsDict
import PySem.Challenge.RW_signedplanes_k82_whole_regions_by_great
set_option Elab.async false
set_option linter.all false
set_option maxRecDepth 100000
set_option maxHeartbeats 0
/-! Fz: a small language over plain data, and its value. A program's text is laid over it by a look; see the later parts. -/
namespace Fz
open PySem

abbrev D := PyData
abbrev En := List (Option D)

/-- the law's source: what is left of the cells (the next one first), the present one, the number mixed, how often -/
structure Src where
  cells : List Int
  left : Int
  mixed : Int
  turn : Int

inductive O2 where
  | add | sub | mul | fdiv | mod | pow
  deriving DecidableEq
inductive Cm where
  | eq | ne | lt | le | gt | ge | isin | notin | isN | notN
  deriving DecidableEq
inductive Bi where
  | len | abs | tuple | list | int | bool | sum | any | all | max | min | repr | sorted
  deriving DecidableEq
inductive Mt where
  | index | count
  deriving DecidableEq
inductive Ty where
  | int | bool | str | list | tuple | dict
  deriving DecidableEq
inductive Tg where
  | name (i : Nat)
  | tup (ts : List Tg)

inductive E where
  | non
  | bl (b : Bool)
  | int (i : Int)
  | str (s : Str)
  | var (i : Nat)
  | op (o : O2) (a b : E)
  | neg (a : E)
  | not (a : E)
  | and (a b : E)
  | or (a b : E)
  | ite (c a b : E)
  | cmp (o : Cm) (a b : E)
  | chain (o1 o2 : Cm) (a b c : E)
  | tup (es : List E)
  | lst (es : List E)
  | star (a : E)
  | idx (a b : E)
  | slc (a : E) (lo hi : Option E)
  | rev (a : E)
  | call (f : Nat) (args : List E)
  | pick (a b : E)
  | bi (b : Bi) (args : List E)
  | meth (m : Mt) (a b : E)
  | isi (a : E) (tys : List Ty)
  | rng (args : List E)
  | enum (a : E)
  | zip (a b : E) (strict : Bool)
  | comp (t : Tg) (it : E) (ifs : Option E) (elt : E)
  | comp2 (t : Tg) (it : E) (t2 : Tg) (it2 : E) (elt : E)
  | dps (a : E)
  | dzip (a b : E) (strict : Bool)

inductive S where
  | asg (t : Tg) (e : E)
  | new (i : Nat) (e : E)
  | par (is : List Nat) (es : List E)
  | parN (is : List Nat) (ns : List Bool) (es : List E)
  | app (i : Nat) (e : E)
  | ext (i : Nat) (e : E)
  | pop (t : Tg) (j : Nat) (k : Option E)
  | set (i : Nat) (k e : E)
  | aug (i : Nat) (o : O2) (e : E)
  | ret (e : E)
  | ite (c : E) (a b : List S)
  | for_ (t : Tg) (it : E) (body : List S)
  | whl (c : E) (body : List S)
  | pass
  | mix (j i lap : Nat)

abbrev M (α : Type) := Src → Option (α × Src)
abbrev Cl := Nat → List D → M D

/-! ### values -/
def small (n : Nat) : Bool := decide (n ≤ 16000000)
def seqOf : D → Option (List D)
  | .list xs => some xs
  | .tuple xs => some xs
  | _ => none
def truth : D → Option Bool
  | .none => some false
  | .bool b => some b
  | .int i => some (i != 0)
  | .str s => if small s.length then some ((s.length : Int) != 0) else none
  | .list xs => some (!xs.isEmpty)
  | .tuple xs => some (!xs.isEmpty)
  | .dict _ => none
def intsOf : List D → Option (List Int)
  | [] => some []
  | .int i :: r => (intsOf r).map (i :: ·)
  | _ :: _ => none
/-- the truth of bools and ints -/
def trsOf : List D → Option (List Bool)
  | [] => some []
  | .bool b :: r => (trsOf r).map (b :: ·)
  | .int i :: r => (trsOf r).map ((i != 0) :: ·)
  | _ :: _ => none
def blsOf : List D → Option (List Bool)
  | [] => some []
  | .bool b :: r => (blsOf r).map (b :: ·)
  | _ :: _ => none
/-- the bits that a product, a divisor may have -/
def mulOk (i j : Int) : Bool := decide (i.natAbs.log2 + j.natAbs.log2 < 900000)
def divOk (j : Int) : Bool := decide (j ≠ 0) && decide (j.natAbs.log2 < 8000)

def op2 : O2 → D → D → Option D
  | .add, .int i, .int j => some (.int (i + j))
  | .add, .list a, .list b => if small (a.length + b.length) then some (.list (a ++ b)) else none
  | .add, .tuple a, .tuple b => if small (a.length + b.length) then some (.tuple (a ++ b)) else none
  | .sub, .int i, .int j => some (.int (i - j))
  | .mul, .int i, .int j => if mulOk i j then some (.int (i * j)) else none
  | .mul, .list a, .int k => if decide (k < 2 ^ 20) && decide (-(2 ^ 20) < k) && small (a.length * k.toNat) then some (.list (List.replicate k.toNat a).flatten) else none
  | .mul, .tuple a, .int k => if decide (1 ≤ k) && decide (k ≤ 1000) && decide (a.length ≤ 1000) && !a.isEmpty then some (.tuple (List.replicate k.toNat a).flatten) else none
  | .fdiv, .int i, .int j => if divOk j then some (.int (i.fdiv j)) else none
  | .mod, .int i, .int j => if decide (j ≠ 0) then some (.int (i.fmod j)) else none
  | .pow, .int i, .int j => if decide (0 ≤ j) && decide (j ≤ 1000000) && decide (i.natAbs < 2 ^ 64) then some (.int (i ^ j.toNat)) else none
  | _, _, _ => none

/-! dicts: keys are ints, or tuples of ints -/
def sameK : D → D → Bool
  | .int i, .int j => decide (i = j)
  | .tuple a, .tuple b => match intsOf a, intsOf b with
    | some x, some y => decide (x = y)
    | _, _ => false
  | _, _ => false
def isIK : D → Bool
  | .int _ => true
  | _ => false
def isTK : D → Bool
  | .tuple a => (intsOf a).isSome
  | _ => false
def atD (kvs : List (D × D)) (k : D) : Option D := (kvs.find? fun p => sameK p.1 k).map (·.2)
def hasD (kvs : List (D × D)) (k : D) : Bool := kvs.any fun p => sameK p.1 k
def putD (kvs : List (D × D)) (k v : D) : List (D × D) := if hasD kvs k then kvs.map fun p => if sameK p.1 k then (p.1, v) else p else kvs ++ [(k, v)]
def mergeD (ps : List (D × D)) : List (D × D) := ps.foldl (fun acc p => putD acc p.1 p.2) []
/-- a key that is like the dict's keys -/
def likeK (kvs : List (D × D)) (k : D) : Bool := match kvs with
  | [] => false
  | p :: _ => (isIK p.1 && isIK k) || (isTK p.1 && isTK k)
def dictOf (ps : List (D × D)) : Option D := if (ps.all (fun p => isIK p.1) || ps.all (fun p => isTK p.1)) && small ps.length then some (.dict (mergeD ps)) else none
def dictT (ps : List (D × D)) : Option D := if ps.all (fun p => isTK p.1) && small ps.length then some (.dict (mergeD ps)) else none
def pairsOf : List D → Option (List (D × D))
  | [] => some []
  | .tuple [k, v] :: r => (pairsOf r).map ((k, v) :: ·)
  | _ :: _ => none
/-- data whose equality the rules tell -/
def okD (d : D) : Bool := SeqAt.shaped d
def memD (d : D) (xs : List D) : Bool := xs.any fun z => PyData.eqv z d
def isNonD : D → Bool
  | .none => true
  | _ => false
def cmp2 : Cm → D → D → Option Bool
  | .eq, .str a, .str b => some (decide (a = b))
  | .ne, .str a, .str b => some (!decide (a = b))
  | .eq, a, b => if okD a && okD b then some (PyData.eqv a b) else none
  | .ne, a, b => if okD a && okD b then some (!PyData.eqv a b) else none
  | .lt, .int i, .int j => some (decide (i < j))
  | .le, .int i, .int j => some (decide (i ≤ j))
  | .gt, .int i, .int j => some (decide (j < i))
  | .ge, .int i, .int j => some (decide (j ≤ i))
  | .isin, d, .list xs => if okD d && okD (.list xs) then some (memD d xs) else none
  | .notin, d, .list xs => if okD d && okD (.list xs) then some (!memD d xs) else none
  | .isin, d, .tuple xs => if okD d && okD (.tuple xs) then some (memD d xs) else none
  | .notin, d, .tuple xs => if okD d && okD (.tuple xs) then some (!memD d xs) else none
  | .isin, d, .dict kvs => if likeK kvs d then some (hasD kvs d) else none
  | .notin, d, .dict kvs => if likeK kvs d then some (!hasD kvs d) else none
  | .isN, d, .none => some (isNonD d)
  | .notN, d, .none => some (!isNonD d)
  | .isN, .bool a, .bool b => some (decide (a = b))
  | .notN, .bool a, .bool b => some (!decide (a = b))
  | _, _, _ => none

def item (xs : List D) (i : Int) : Option D := L2.atI xs i
def cut (xs : List D) (lo hi : Option Int) : List D := (xs.drop (HT.sIx xs.length 0 lo)).take (HT.sIx xs.length xs.length hi - HT.sIx xs.length 0 lo)
def rngL (lo : Int) (n : Nat) : List D := (List.range n).map fun i => .int (lo + (i : Nat))
def inR (i : Int) : Bool := decide (-(2 ^ 40) ≤ i) && decide (i ≤ 2 ^ 40)
def rngV : List D → Option (List D)
  | [.int j] => if inR j then some (rngL 0 j.toNat) else none
  | [.int i, .int j] => if inR i && inR j then some (rngL i (j - i).toNat) else none
  | _ => none
def enumL : Nat → List D → List D
  | _, [] => []
  | k, x :: r => .tuple [.int (k : Nat), x] :: enumL (k + 1) r
def zipL : List D → List D → List D
  | x :: r, y :: q => .tuple [x, y] :: zipL r q
  | _, _ => []
def maxL : Int → List Int → Int
  | m, [] => m
  | m, x :: r => maxL (if x > m then x else m) r
def minL : Int → List Int → Int
  | m, [] => m
  | m, x :: r => minL (if x < m then x else m) r
def insI (x : Int) : List Int → List Int
  | [] => [x]
  | y :: r => if x < y then x :: y :: r else y :: insI x r
def sortI : List Int → List Int
  | [] => []
  | x :: r => insI x (sortI r)
/-- the order upon lists of ints -/
def lexI : List Int → List Int → Bool
  | [], [] => false
  | [], _ :: _ => true
  | _ :: _, [] => false
  | x :: xs, y :: ys => if x = y then lexI xs ys else decide (x < y)
def insT (x : List Int) : List (List Int) → List (List Int)
  | [] => [x]
  | y :: r => if lexI x y then x :: y :: r else y :: insT x r
def sortT : List (List Int) → List (List Int)
  | [] => []
  | x :: r => insT x (sortT r)
/-- tuples of ints, none empty -/
def tupsOf : List D → Option (List (List Int))
  | [] => some []
  | .tuple ds :: r => (intsOf ds).bind fun ns => if ns.isEmpty then none else (tupsOf r).map (ns :: ·)
  | _ :: _ => none
def sortV (xs : List D) : Option D := match intsOf xs with
  | some ns => some (.list ((sortI ns).map .int))
  | none => (tupsOf xs).map fun nss => .list ((sortT nss).map fun ns => .tuple (ns.map .int))
def isTy : D → Ty → Bool
  | .int _, .int => true
  | .bool _, .int => true
  | .bool _, .bool => true
  | .str _, .str => true
  | .list _, .list => true
  | .tuple _, .tuple => true
  | _, _ => false

def biV : Bi → List D → Option D
  | .len, [.list xs] => some (.int xs.length)
  | .len, [.tuple xs] => some (.int xs.length)
  | .len, [.dict kvs] => if !kvs.isEmpty && kvs.all (fun p => isIK p.1) then some (.int kvs.length) else none
  | .len, [.str s] => if small s.length then some (.int s.length) else none
  | .abs, [.int i] => some (.int (if i < 0 then -i else i))
  | .tuple, [.list xs] => some (.tuple xs)
  | .tuple, [.tuple xs] => some (.tuple xs)
  | .list, [.list xs] => some (.list xs)
  | .list, [.tuple xs] => some (.list xs)
  | .int, [.int i] => some (.int i)
  | .int, [.bool b] => some (.int (if b then 1 else 0))
  | .bool, [.int i] => some (.bool (i != 0))
  | .bool, [.bool b] => some (.bool b)
  | .sum, [.list xs] => (intsOf xs).map fun ns => .int ns.sum
  | .sum, [.tuple xs] => (intsOf xs).map fun ns => .int ns.sum
  | .any, [.list xs] => (trsOf xs).map fun bs => .bool (bs.any id)
  | .all, [.list xs] => (trsOf xs).map fun bs => .bool (bs.all id)
  | .any, [.tuple xs] => (trsOf xs).map fun bs => .bool (bs.any id)
  | .all, [.tuple xs] => (trsOf xs).map fun bs => .bool (bs.all id)
  | .max, [.int i, .int j] => some (.int (if j > i then j else i))
  | .min, [.int i, .int j] => some (.int (if j < i then j else i))
  | .max, [.list (.int x :: xs)] => (intsOf xs).map fun ns => .int (maxL x ns)
  | .min, [.list (.int x :: xs)] => (intsOf xs).map fun ns => .int (minL x ns)
  | .max, [.tuple (.int x :: xs)] => (intsOf xs).map fun ns => .int (maxL x ns)
  | .min, [.tuple (.int x :: xs)] => (intsOf xs).map fun ns => .int (minL x ns)
  | .repr, [d] => if okD d && d.showable && small d.shown.length then some (.str d.shown) else none
  | .sorted, [.list xs] => sortV xs
  | .sorted, [.dict kvs] => (tupsOf (kvs.map (·.1))).bind fun nss => if nss.isEmpty then none else some (.list ((sortT nss).map fun ns => .tuple (ns.map .int)))
  | .sorted, [.tuple xs] => (intsOf xs).map fun ns => .list ((sortI ns).map .int)
  | _, _ => none

/-! ### the source -/
def drain : List Int → Int → List Int × Int
  | [], l => ([], l)
  | c :: r, l => if l < 2 then drain r c else (c :: r, l)
/-- a pick: v tells which of the two ways the law has it -/
def pickS (v : Bool) (s : Src) (m : Int) : Int × Src :=
  if m < 2 then
    if v then (0, { s with left := s.left / 1 }) else (0, s)
  else
    let (cs, l) := drain s.cells s.left
    if l > 1 then (l % m, { s with cells := cs, left := l / m })
    else
      let t := s.turn + 1
      let x := (s.mixed + t * 104729) % 998244353
      let y := (x * x + t * 17) % 2147483647
      (y / 16 % m, { cells := cs, left := l, mixed := if v then y else s.mixed, turn := t })
def pickM (v : Bool) (m : Int) : M D := fun s => if m < 1073741824 then let r := pickS v s m; some (.int r.1, r.2) else none
/-- what stands for the source -/
def srcD : D := .dict [(.none, .none)]
def isSrc : D → Bool
  | .dict [(.none, .none)] => true
  | _ => false

/-! ### targets -/
mutual
def tgSet : Tg → D → En → Option En
  | .name i, d, en => some (en.set i (some d))
  | .tup ts, .tuple ds, en => tgSets ts ds en
  | .tup ts, .list ds, en => tgSets ts ds en
  | .tup _, _, _ => none
def tgSets : List Tg → List D → En → Option En
  | [], [], en => some en
  | t :: ts, d :: ds, en => (tgSet t d en).bind fun e => tgSets ts ds e
  | _, _, _ => none
end

/-! ### expressions -/
def ret {α : Type} (a : α) : M α := fun s => some (a, s)
def bnd {α β : Type} (x : M α) (f : α → M β) : M β := fun s => match x s with
  | some (a, s1) => f a s1
  | none => none
def lift {α : Type} (x : Option α) : M α := fun s => match x with
  | some a => some (a, s)
  | none => none
def mapL (f : D → M (Option D)) : List D → M (List D)
  | [] => ret []
  | x :: r => bnd (f x) fun y => bnd (mapL f r) fun ys => ret (match y with
    | some d => d :: ys
    | none => ys)
def catL (f : D → M (List D)) : List D → M (List D)
  | [] => ret []
  | x :: r => bnd (f x) fun y => bnd (catL f r) fun ys => ret (y ++ ys)
def intOpt : Option D → Option (Option Int)
  | none => some none
  | some (.int i) => some (some i)
  | some _ => none
def slcV (a : D) (lo hi : Option Int) : Option D := match a with
  | .list xs => some (.list (cut xs lo hi))
  | .tuple xs => some (.tuple (cut xs lo hi))
  | _ => none
def revV : D → Option D
  | .list xs => some (.list xs.reverse)
  | .tuple xs => some (.tuple xs.reverse)
  | _ => none
def idxV : D → D → Option D
  | .list xs, .int i => item xs i
  | .tuple xs, .int i => item xs i
  | .dict kvs, k => atD kvs k
  | _, _ => none
def methV : Mt → D → D → Option D
  | .index, .list xs, d => if okD d && okD (.list xs) then (xs.findIdx? fun z => PyData.eqv z d).map fun j => .int (j : Nat) else none
  | _, _, _ => none
def sizeOk (d : List D) : Option (List D) := if small d.length then some d else none

section
variable (v : Bool) (c : Cl)
mutual
def evE : E → En → M D
  | .non, _ => ret .none
  | .bl b, _ => ret (.bool b)
  | .int i, _ => ret (.int i)
  | .str s, _ => ret (.str s)
  | .var i, en => lift (en.getD i none)
  | .op o a b, en => bnd (evE a en) fun x => bnd (evE b en) fun y => lift (op2 o x y)
  | .neg a, en => bnd (evE a en) fun x => lift (match x with | .int i => some (.int (-i)) | _ => none)
  | .not a, en => bnd (evE a en) fun x => lift ((truth x).map fun b => .bool (!b))
  | .and a b, en => bnd (evE a en) fun x => bnd (lift (truth x)) fun t => if t then evE b en else ret x
  | .or a b, en => bnd (evE a en) fun x => bnd (lift (truth x)) fun t => if t then ret x else evE b en
  | .ite q a b, en => bnd (evE q en) fun x => bnd (lift (truth x)) fun t => if t then evE a en else evE b en
  | .cmp o a b, en => bnd (evE a en) fun x => bnd (evE b en) fun y => lift ((cmp2 o x y).map .bool)
  | .chain o1 o2 a b q, en => bnd (evE a en) fun x => bnd (evE b en) fun y => bnd (lift (cmp2 o1 x y)) fun t =>
      if t then bnd (evE q en) fun z => lift ((cmp2 o2 y z).map .bool) else ret (.bool false)
  | .tup es, en => bnd (evL es en) fun ds => lift ((sizeOk ds).map .tuple)
  | .lst es, en => bnd (evL es en) fun ds => lift ((sizeOk ds).map .list)
  | .star _, _ => fun _ => none
  | .idx a b, en => bnd (evE a en) fun x => bnd (evE b en) fun y => lift (idxV x y)
  | .slc a lo hi, en => bnd (evE a en) fun x => bnd (evO lo en) fun y => bnd (evO hi en) fun z => lift ((intOpt y).bind fun i => (intOpt z).bind fun j => slcV x i j)
  | .rev a, en => bnd (evE a en) fun x => lift (revV x)
  | .call f args, en => bnd (evL args en) fun ds => c f ds
  | .pick a b, en => bnd (evE a en) fun x => bnd (evE b en) fun y => match y with
      | .int m => if isSrc x then pickM v m else fun _ => none
      | _ => fun _ => none
  | .bi b args, en => bnd (evL args en) fun ds => lift (biV b ds)
  | .meth m a b, en => bnd (evE a en) fun x => bnd (evE b en) fun y => lift (methV m x y)
  | .isi a tys, en => bnd (evE a en) fun x => ret (.bool (tys.any fun t => isTy x t))
  | .rng args, en => bnd (evL args en) fun ds => lift ((rngV ds).bind fun l => (sizeOk l).map .list)
  | .enum a, en => bnd (evE a en) fun x => lift ((seqOf x).map fun xs => .list (enumL 0 xs))
  | .zip a b st, en => bnd (evE a en) fun x => bnd (evE b en) fun y => lift ((seqOf x).bind fun xs => (seqOf y).bind fun ys =>
      if !st || xs.length == ys.length then some (.list (zipL xs ys)) else none)
  | .comp t it ifs elt, en => bnd (evE it en) fun x => bnd (lift (seqOf x)) fun xs => bnd (mapL (fun d => bnd (lift (tgSet t d en)) fun en2 => bnd (evT ifs en2) fun ok =>
      if ok then bnd (evE elt en2) fun y => ret (some y) else ret none) xs) fun ys => lift ((sizeOk ys).map .list)
  | .comp2 t it t2 it2 elt, en => bnd (evE it en) fun x => bnd (lift (seqOf x)) fun xs => bnd (catL (fun d => bnd (lift (tgSet t d en)) fun en2 =>
      bnd (evE it2 en2) fun x2 => bnd (lift (seqOf x2)) fun xs2 => mapL (fun d2 => bnd (lift (tgSet t2 d2 en2)) fun en3 => bnd (evE elt en3) fun y => ret (some y)) xs2) xs) fun ys => lift ((sizeOk ys).map .list)
  | .dps a, en => bnd (evE a en) fun x => lift (match x with
      | .list xs => (pairsOf xs).bind dictOf
      | _ => none)
  | .dzip a b st, en => bnd (evE a en) fun x => bnd (evE b en) fun y => lift ((seqOf x).bind fun xs => (seqOf y).bind fun ys =>
      if (!st || xs.length == ys.length) && xs.all isTK then dictT (xs.zip ys) else none)
def evL : List E → En → M (List D)
  | [], _ => ret []
  | .star a :: r, en => bnd (evE a en) fun x => bnd (lift (seqOf x)) fun xs => bnd (evL r en) fun ys => ret (xs ++ ys)
  | e :: r, en => bnd (evE e en) fun x => bnd (evL r en) fun ys => ret (x :: ys)
def evO : Option E → En → M (Option D)
  | none, _ => ret none
  | some e, en => bnd (evE e en) fun x => ret (some x)
def evT : Option E → En → M Bool
  | none, _ => ret true
  | some e, en => bnd (evE e en) fun x => lift (truth x)
end

/-! ### statements -/
inductive Rs where
  | next (en : En)
  | ret (d : D)
def aug2 : O2 → D → D → Option D
  | .add, .int i, .int j => some (.int (i + j))
  | .sub, .int i, .int j => some (.int (i - j))
  | _, _, _ => none
def lstAt (en : En) (i : Nat) : Option (List D) := match en.getD i none with
  | some (.list xs) => some xs
  | _ => none
def forL (body : D → En → M Rs) : List D → En → M Rs
  | [], en => ret (.next en)
  | x :: r, en => bnd (body x en) fun q => match q with
    | .next en2 => forL body r en2
    | .ret d => ret (.ret d)
def whlL (test : En → M Bool) (body : En → M Rs) : Nat → En → M Rs
  | 0, _ => fun _ => none
  | n + 1, en => bnd (test en) fun t => if t then bnd (body en) fun q => match q with
    | .next en2 => whlL test body n en2
    | .ret d => ret (.ret d)
    else ret (.next en)
def popAt (xs : List D) (k : Option D) : Option (D × List D) := match k with
  | none => (xs.getLast?).map fun d => (d, xs.dropLast)
  | some (.int i) => (L2.ixN xs.length i).bind fun j => (xs[j]?).map fun d => (d, xs.eraseIdx j)
  | some _ => none
/-- the new ones are lists -/
def newsOk : List Bool → List D → Bool
  | [], [] => true
  | true :: bs, .list _ :: ds => newsOk bs ds
  | false :: bs, _ :: ds => newsOk bs ds
  | _, _ => false
/-- the turns that a while may take -/
def wFuel : Nat := 1000000
/-- all are taken from a list, by picks, one after the other -/
def mixL (v : Bool) : Nat → List D → M (List D)
  | 0, _ => ret []
  | n + 1, xs => bnd (pickM v xs.length) fun d => bnd (lift (popAt xs (some d))) fun p => bnd (mixL v n p.2) fun ys => ret (p.1 :: ys)
def setsV : List Nat → List D → En → Option En
  | [], [], en => some en
  | i :: is, d :: ds, en => setsV is ds (en.set i (some d))
  | _, _, _ => none

mutual
def exS : S → En → M Rs
  | .asg t e, en => bnd (evE v c e en) fun d => bnd (lift (tgSet t d en)) fun en2 => ret (.next en2)
  | .new i e, en => bnd (evE v c e en) fun d => match d with
      | .list xs => ret (.next (en.set i (some (.list xs))))
      | _ => fun _ => none
  | .par is es, en => bnd (evL v c es en) fun ds => bnd (lift (setsV is ds en)) fun en2 => ret (.next en2)
  | .parN is ns es, en => bnd (evL v c es en) fun ds => if newsOk ns ds then bnd (lift (setsV is ds en)) fun en2 => ret (.next en2) else fun _ => none
  | .app i e, en => bnd (evE v c e en) fun d => bnd (lift (lstAt en i)) fun xs => if small (xs.length + 1) then ret (.next (en.set i (some (.list (xs ++ [d]))))) else fun _ => none
  | .ext i e, en => bnd (evE v c e en) fun d => bnd (lift (lstAt en i)) fun xs => match d with
      | .list ys => if small (xs.length + ys.length) then ret (.next (en.set i (some (.list (xs ++ ys))))) else fun _ => none
      | _ => fun _ => none
  | .pop t j k, en => bnd (evO v c k en) fun kd => bnd (lift (lstAt en j)) fun xs => bnd (lift (popAt xs kd)) fun p => bnd (lift (tgSet t p.1 (en.set j (some (.list p.2))))) fun en2 => ret (.next en2)
  | .set i k e, en => bnd (evE v c e en) fun d => bnd (evE v c k en) fun kd => bnd (lift (lstAt en i)) fun xs => match kd with
      | .int z => match L2.ixN xs.length z with
        | some j => ret (.next (en.set i (some (.list (xs.set j d)))))
        | none => fun _ => none
      | _ => fun _ => none
  | .aug i o e, en => bnd (lift (en.getD i none)) fun x => bnd (evE v c e en) fun y => bnd (lift (aug2 o x y)) fun z => ret (.next (en.set i (some z)))
  | .ret e, en => bnd (evE v c e en) fun d => ret (.ret d)
  | .ite q a b, en => bnd (evE v c q en) fun x => bnd (lift (truth x)) fun t => if t then exL a en else exL b en
  | .for_ t it body, en => bnd (evE v c it en) fun x => bnd (lift (seqOf x)) fun xs => forL (fun d en2 => bnd (lift (tgSet t d en2)) fun en3 => exL body en3) xs en
  | .whl q body, en => whlL (fun en2 => bnd (evE v c q en2) fun x => lift (truth x)) (fun en2 => exL body en2) wFuel en
  | .pass, en => ret (.next en)
  | .mix j i _, en => bnd (lift (en.getD i none)) fun x => bnd (lift (lstAt en j)) fun xs => if isSrc x && small xs.length then bnd (mixL v xs.length xs) fun ys => ret (.ret (.list ys)) else fun _ => none
def exL : List S → En → M Rs
  | [], en => ret (.next en)
  | s :: r, en => bnd (exS s en) fun q => match q with
    | .next en2 => exL r en2
    | .ret d => ret (.ret d)
end
end

/-! ### programs -/
structure Fn where
  np : Nat
  nl : Nat
  body : List S
def startEn (np nl : Nat) (ds : List D) : En := ds.map some ++ List.replicate (nl - np) none
def callN (v : Bool) (P : List Fn) : Nat → Cl
  | 0, _, _ => fun _ => none
  | n + 1, f, ds => match P[f]? with
    | some fn => if ds.length = fn.np then bnd (exL v (callN v P n) fn.body (startEn fn.np fn.nl ds)) fun q => match q with
        | .next _ => ret .none
        | .ret d => ret d
      else fun _ => none
    | none => fun _ => none
end Fz
/-! FzB: data over the abstract heap; the relation between slots and the little language's environment; readings. -/
namespace Fz
open PySem PySem.Spec PyProof.Rows L2

/-! ### data in what is frozen -/
mutual
inductive Rp (K : PySem.W.Frag) (sp : Addr) (F : Hp) : V → D → Prop
  | non : Rp K sp F .non .none
  | bl (b : Bool) : Rp K sp F (.bl b) (.bool b)
  | int (i : Int) : Rp K sp F (.int i) (.int i)
  | str (x : Str) : Rp K sp F (.str x) (.str x)
  | lst {a : Addr} {vs : List V} {ds : List D} : F a = some (.lst vs) → RpA K sp F vs ds → Rp K sp F (.ref a) (.list ds)
  | tup {a : Addr} {vs : List V} {ds : List D} : F a = some (.tup vs) → RpA K sp F vs ds → Rp K sp F (.ref a) (.tuple ds)
  | src : Rp K sp F (.ref sp) srcD
  | dct {a : Addr} {kws : List (List L2.Key × V)} {kvs : List (D × D)} : F a = some (.dT kws) → RpK K sp F kws kvs → Rp K sp F (.ref a) (.dict kvs)
  | dck {a : Addr} {kws : List (L2.Key × V)} {kvs : List (D × D)} : F a = some (.dK kws) → RpI K sp F kws kvs → Rp K sp F (.ref a) (.dict kvs)
inductive RpA (K : PySem.W.Frag) (sp : Addr) (F : Hp) : List V → List D → Prop
  | nil : RpA K sp F [] []
  | cons {v : V} {vs : List V} {d : D} {ds : List D} : Rp K sp F v d → RpA K sp F vs ds → RpA K sp F (v :: vs) (d :: ds)
/-- keys that are tuples of ints -/
inductive RpK (K : PySem.W.Frag) (sp : Addr) (F : Hp) : List (List L2.Key × V) → List (D × D) → Prop
  | nil : RpK K sp F [] []
  | cons {ns : List Int} {v : V} {d : D} {kws : List (List L2.Key × V)} {kvs : List (D × D)} : Rp K sp F v d → RpK K sp F kws kvs → RpK K sp F ((ns.map .inl, v) :: kws) ((.tuple (ns.map .int), d) :: kvs)
/-- keys that are ints -/
inductive RpI (K : PySem.W.Frag) (sp : Addr) (F : Hp) : List (L2.Key × V) → List (D × D) → Prop
  | nil : RpI K sp F [] []
  | cons {n : Int} {v : V} {d : D} {kws : List (L2.Key × V)} {kvs : List (D × D)} : Rp K sp F v d → RpI K sp F kws kvs → RpI K sp F ((.inl n, v) :: kws) ((.int n, d) :: kvs)
end
section
variable {K : PySem.W.Frag} {sp cc : Addr} {F F' H H' : Hp}
theorem sqT_mono {a : Addr} {xs : List V} (e : Same H H') (h : SqT K H a xs) : SqT K H' a xs := by
  rcases h with (h | ⟨o, h⟩) | h
  · exact .inl (.inl (e _ _ h))
  · exact .inl (.inr ⟨o, e _ _ h⟩)
  · exact .inr h
theorem sqT_same {a : Addr} {xs : List V} (e : Same H H') (h : H a = some (.tup xs)) : SqT K H' a xs := SqT.of (e _ _ h)
mutual
theorem Rp.mono (e : Same F F') : ∀ {v : V} {d : D}, Rp K sp F v d → Rp K sp F' v d
  | _, _, .non => .non
  | _, _, .bl b => .bl b
  | _, _, .int i => .int i
  | _, _, .str x => .str x
  | _, _, .lst h a => .lst (e _ _ h) (RpA.mono e a)
  | _, _, .tup h a => .tup (e _ _ h) (RpA.mono e a)
  | _, _, .src => .src
  | _, _, .dct h a => .dct (e _ _ h) (RpK.mono e a)
  | _, _, .dck h a => .dck (e _ _ h) (RpI.mono e a)
theorem RpA.mono (e : Same F F') : ∀ {vs : List V} {ds : List D}, RpA K sp F vs ds → RpA K sp F' vs ds
  | _, _, .nil => .nil
  | _, _, .cons h a => .cons (Rp.mono e h) (RpA.mono e a)
theorem RpK.mono (e : Same F F') : ∀ {kws : List (List L2.Key × V)} {kvs : List (D × D)}, RpK K sp F kws kvs → RpK K sp F' kws kvs
  | _, _, .nil => .nil
  | _, _, .cons h a => .cons (Rp.mono e h) (RpK.mono e a)
theorem RpI.mono (e : Same F F') : ∀ {kws : List (L2.Key × V)} {kvs : List (D × D)}, RpI K sp F kws kvs → RpI K sp F' kws kvs
  | _, _, .nil => .nil
  | _, _, .cons h a => .cons (Rp.mono e h) (RpI.mono e a)
end
theorem Rp.isSrc {v : V} (h : Rp K sp F v srcD) : v = .ref sp := by
  unfold srcD at h
  cases h with
  | src => rfl
  | dct _ a => cases a
  | dck _ a => cases a
theorem RpA.length : ∀ {vs : List V} {ds : List D}, RpA K sp F vs ds → vs.length = ds.length
  | _, _, .nil => rfl
  | _, _, .cons _ a => congrArg (· + 1) a.length
theorem RpA.append : ∀ {vs : List V} {ds : List D} {us : List V} {es : List D}, RpA K sp F vs ds → RpA K sp F us es → RpA K sp F (vs ++ us) (ds ++ es)
  | _, _, _, _, .nil, b => b
  | _, _, _, _, .cons h a, b => .cons h (a.append b)
theorem RpA.get : ∀ {vs : List V} {ds : List D} {i : Nat} {d : D}, RpA K sp F vs ds → ds[i]? = some d → ∃ v, vs[i]? = some v ∧ Rp K sp F v d
  | _, _, 0, _, .cons h _, e => ⟨_, rfl, by simp at e; exact e ▸ h⟩
  | _, _, i + 1, d, .cons _ a, e => by
    obtain ⟨v, h1, h2⟩ := RpA.get (i := i) (d := d) a (by simpa using e)
    exact ⟨v, by simpa using h1, h2⟩
  | _, _, i, _, .nil, e => by simp at e
theorem RpA.getV : ∀ {vs : List V} {ds : List D} {i : Nat} {v : V}, RpA K sp F vs ds → vs[i]? = some v → ∃ d, ds[i]? = some d ∧ Rp K sp F v d
  | _, _, 0, _, .cons h _, e => ⟨_, rfl, by simp at e; exact e ▸ h⟩
  | _, _, i + 1, v, .cons _ a, e => by
    obtain ⟨d, h1, h2⟩ := RpA.getV (i := i) (v := v) a (by simpa using e)
    exact ⟨d, by simpa using h1, h2⟩
  | _, _, i, _, .nil, e => by simp at e
theorem RpA.set {v : V} {d : D} (h : Rp K sp F v d) : ∀ {vs : List V} {ds : List D} (i : Nat), RpA K sp F vs ds → RpA K sp F (vs.set i v) (ds.set i d)
  | _, _, _, .nil => .nil
  | _, _, 0, .cons _ a => .cons h a
  | _, _, i + 1, .cons q a => .cons q (RpA.set h i a)
theorem RpA.drop : ∀ {vs : List V} {ds : List D} (n : Nat), RpA K sp F vs ds → RpA K sp F (vs.drop n) (ds.drop n)
  | _, _, 0, a => a
  | _, _, _ + 1, .nil => .nil
  | _, _, n + 1, .cons _ a => RpA.drop n a
theorem RpA.take : ∀ {vs : List V} {ds : List D} (n : Nat), RpA K sp F vs ds → RpA K sp F (vs.take n) (ds.take n)
  | _, _, 0, _ => .nil
  | _, _, _ + 1, .nil => .nil
  | _, _, n + 1, .cons h a => .cons h (RpA.take n a)
theorem RpA.erase : ∀ {vs : List V} {ds : List D} (n : Nat), RpA K sp F vs ds → RpA K sp F (vs.eraseIdx n) (ds.eraseIdx n)
  | _, _, _, .nil => .nil
  | _, _, 0, .cons _ a => a
  | _, _, n + 1, .cons h a => .cons h (RpA.erase n a)
theorem RpA.rev {vs : List V} {ds : List D} (a : RpA K sp F vs ds) : RpA K sp F vs.reverse ds.reverse := by
  induction vs generalizing ds with
  | nil => cases a; exact .nil
  | cons v vs ih =>
    cases a with
    | cons h a =>
      rw [List.reverse_cons, List.reverse_cons]
      exact (ih a).append (.cons h .nil)
theorem RpA.flat {vs : List V} {ds : List D} (a : RpA K sp F vs ds) : ∀ n : Nat, RpA K sp F (List.replicate n vs).flatten (List.replicate n ds).flatten
  | 0 => by simpa using RpA.nil
  | n + 1 => by
    rw [List.replicate_succ, List.replicate_succ, List.flatten_cons, List.flatten_cons]
    exact a.append (RpA.flat a n)
mutual
theorem Rp.dp : ∀ {v : V} {d : D}, Rp K sp F v d → d.canLay0 = true → Dp K F v d
  | _, _, .non, _ => .non
  | _, _, .bl b, _ => .bl b
  | _, _, .int i, _ => .int i
  | _, _, .str x, _ => .str x
  | _, _, .lst h a, c => .lst (SqL.of h) (RpA.dp a (by simpa [PyData.canLay0] using c))
  | _, _, .tup h a, c => .tup (SqT.of h) (RpA.dp a (by simpa [PyData.canLay0] using c))
  | _, _, .src, c => by simp [srcD, PyData.canLay0] at c
  | _, _, .dct _ _, c => by simp [PyData.canLay0] at c
  | _, _, .dck _ _, c => by simp [PyData.canLay0] at c
theorem RpA.dp : ∀ {vs : List V} {ds : List D}, RpA K sp F vs ds → PyData.canLayAll0 ds = true → DpAll K F vs ds
  | _, _, .nil, _ => .nil
  | _, _, .cons h a, c => by
    have c' := Bool.and_eq_true_iff.mp (show (_ && _) = true by simpa [PyData.canLayAll0] using c)
    exact .cons (Rp.dp h c'.1) (RpA.dp a c'.2)
end
mutual
theorem Dp_mono (e : Same F F') : ∀ {v : V} {d : D}, Dp K F v d → Dp K F' v d
  | _, _, .non => .non
  | _, _, .bl b => .bl b
  | _, _, .int i => .int i
  | _, _, .str x => .str x
  | _, _, .lst h a => .lst (e.seq h) (DpA_mono e a)
  | _, _, .tup h a => .tup (sqT_mono e h) (DpA_mono e a)
theorem DpA_mono (e : Same F F') : ∀ {vs : List V} {ds : List D}, DpAll K F vs ds → DpAll K F' vs ds
  | _, _, .nil => .nil
  | _, _, .cons h a => .cons (Dp_mono e h) (DpA_mono e a)
end
theorem RpA.ints : ∀ {vs : List V} {ds : List D} {ns : List Int}, RpA K sp F vs ds → intsOf ds = some ns → vs = ns.map V.int
  | _, _, _, .nil, e => by simp [intsOf] at e; subst e; rfl
  | _, _, ns, .cons (.int i) a, e => by
    obtain ⟨ms, e1, rfl⟩ := Option.map_eq_some_iff.mp (show (intsOf _).map _ = some ns from e)
    rw [RpA.ints a e1]; rfl
  | _, _, ns, .cons .non a, e => nomatch e
  | _, _, ns, .cons (.bl _) a, e => nomatch e
  | _, _, ns, .cons (.str _) a, e => nomatch e
  | _, _, ns, .cons (.lst _ _) a, e => nomatch e
  | _, _, ns, .cons (.tup _ _) a, e => nomatch e
  | _, _, ns, .cons .src a, e => nomatch e
  | _, _, ns, .cons (.dct _ _) a, e => nomatch e
  | _, _, ns, .cons (.dck _ _) a, e => nomatch e
theorem RpA.bls : ∀ {vs : List V} {ds : List D} {ns : List Bool}, RpA K sp F vs ds → blsOf ds = some ns → vs = ns.map V.bl
  | _, _, _, .nil, e => by simp [blsOf] at e; subst e; rfl
  | _, _, ns, .cons (.bl i) a, e => by
    obtain ⟨ms, e1, rfl⟩ := Option.map_eq_some_iff.mp (show (blsOf _).map _ = some ns from e)
    rw [RpA.bls a e1]; rfl
  | _, _, ns, .cons .non a, e => nomatch e
  | _, _, ns, .cons (.int _) a, e => nomatch e
  | _, _, ns, .cons (.str _) a, e => nomatch e
  | _, _, ns, .cons (.lst _ _) a, e => nomatch e
  | _, _, ns, .cons (.tup _ _) a, e => nomatch e
  | _, _, ns, .cons .src a, e => nomatch e
  | _, _, ns, .cons (.dct _ _) a, e => nomatch e
  | _, _, ns, .cons (.dck _ _) a, e => nomatch e
theorem RpA.ofInts : ∀ ns : List Int, RpA K sp F (ns.map V.int) (ns.map .int)
  | [] => .nil
  | n :: r => .cons (.int n) (RpA.ofInts r)
theorem intsOf_map : ∀ ns : List Int, intsOf (ns.map .int) = some ns
  | [] => rfl
  | n :: r => by simp [intsOf, intsOf_map r]

/-! ### the source, steps, the relation -/
/-- what stands for the source in the abstract heap -/
def SrcAt (sp cc : Addr) (H : Hp) (s : Src) : Prop :=
  H sp = some (.dK [(.inr "cells", .ref cc), (.inr "left", .int s.left), (.inr "mixed", .int s.mixed), (.inr "turn", .int s.turn)]) ∧ H cc = some (.lst (s.cells.reverse.map V.int))
/-- something stands there that is no tuple -/
abbrev NT (H : Hp) (b : Addr) : Prop := H b ≠ none ∧ ∀ us : List V, H b ≠ some (.tup us)
theorem nt_of {H : Hp} {b : Addr} {o : HO} (h : H b = some o) (n : ∀ us, o ≠ .tup us) : NT H b := ⟨by rw [h]; simp, fun us z => n us (by rw [h] at z; exact Option.some.inj z)⟩
/-- what evaluation does: more is frozen, new things stand, the source turns -/
structure Fw (sp cc : Addr) (F H F' H' : Hp) (s' : Src) : Prop where
  fr : Same F F'
  sub : Same F' H'
  keep : ∀ b o, H b = some o → b ≠ sp → b ≠ cc → H' b = some o
  src : SrcAt sp cc H' s'
  new : ∀ b, F b = none → NT H b → F' b = none
structure Rl (K : PySem.W.Frag) (sp cc : Addr) (g : List Nat) (en : En) (σ : L2.St) (F H : Hp) (s : Src) : Prop where
  sub : Same F H
  src : SrcAt sp cc H s
  fsp : F sp = none
  fcc : F cc = none
  len : en.length = σ.length
  val : ∀ i d, en.getD i none = some d → i ∉ g → ∃ v, σ[i]? = some (some v) ∧ Rp K sp F v d
  own : ∀ i, i ∈ g → ∀ d, en.getD i none = some d → ∃ a vs ds, d = .list ds ∧ σ[i]? = some (some (.ref a)) ∧ H a = some (.lst vs) ∧ F a = none ∧ RpA K sp F vs ds ∧ a ≠ sp ∧ a ≠ cc
  dis : ∀ i j a, i ∈ g → j ∈ g → en.getD i none ≠ none → en.getD j none ≠ none → σ[i]? = some (some (.ref a)) → σ[j]? = some (some (.ref a)) → i = j
theorem SrcAt.ne {s : Src} (h : SrcAt sp cc H s) : sp ≠ cc := fun e => by
  have h2 := h.2
  rw [← e, h.1] at h2
  cases h2
theorem Fw.refl {s : Src} (h : Same F H) (q : SrcAt sp cc H s) : Fw sp cc F H F H s := ⟨Same.refl _, h, fun _ _ e _ _ => e, q, fun _ e _ => e⟩
theorem Fw.trans {F1 H1 F2 H2 : Hp} {s1 s2 : Src} (a : Fw sp cc F H F1 H1 s1) (b : Fw sp cc F1 H1 F2 H2 s2) : Fw sp cc F H F2 H2 s2 where
  fr := a.fr.trans b.fr
  sub := b.sub
  keep := fun p o e n1 n2 => b.keep p o (a.keep p o e n1 n2) n1 n2
  src := b.src
  new := fun p e n => b.new p (a.new p e n) (by
    cases q : H p with
    | none => exact absurd q n.1
    | some o =>
      by_cases h1 : p = sp
      · subst h1; exact nt_of a.src.1 nofun
      · by_cases h2 : p = cc
        · subst h2; exact nt_of a.src.2 nofun
        · exact nt_of (a.keep p o q h1 h2) fun us z => n.2 us (by rw [q, z]))
theorem Rl.step {g : List Nat} {en : En} {σ : L2.St} {s s' : Src} (R : Rl K sp cc g en σ F H s) (f : Fw sp cc F H F' H' s') : Rl K sp cc g en σ F' H' s' where
  sub := f.sub
  src := f.src
  fsp := f.new sp R.fsp (nt_of R.src.1 nofun)
  fcc := f.new cc R.fcc (nt_of R.src.2 nofun)
  len := R.len
  val := fun i d e n => let ⟨v, h1, h2⟩ := R.val i d e n; ⟨v, h1, h2.mono f.fr⟩
  own := fun i hi d e => by
    obtain ⟨a, vs, ds, h1, h2, h3, h4, h5, h6, h7⟩ := R.own i hi d e
    exact ⟨a, vs, ds, h1, h2, f.keep a _ h3 h6 h7, f.new a h4 (nt_of h3 nofun), h5.mono f.fr, h6, h7⟩
  dis := R.dis

/-- what may be read: a list as it stands now, other data as it is frozen -/
def Rb (K : PySem.W.Frag) (sp cc : Addr) (F H : Hp) (x : V) : D → Prop
  | .list ds => ∃ a vs, x = .ref a ∧ H a = some (.lst vs) ∧ a ≠ sp ∧ a ≠ cc ∧ RpA K sp F vs ds
  | d => Rp K sp F x d
theorem Rb.of_not {x : V} {d : D} (h : Rb K sp cc F H x d) (n : ∀ ds, d ≠ .list ds) : Rp K sp F x d := by
  cases d <;> first | exact h | exact absurd rfl (n _)
theorem Rb.int {x : V} {i : Int} (h : Rb K sp cc F H x (.int i)) : x = .int i := by
  cases (show Rp K sp F x (.int i) from h) <;> rfl
theorem Rb.bool {x : V} {b : Bool} (h : Rb K sp cc F H x (.bool b)) : x = .bl b := by
  cases (show Rp K sp F x (.bool b) from h) <;> rfl
theorem Rb.str {x : V} {z : Str} (h : Rb K sp cc F H x (.str z)) : x = .str z := by
  cases (show Rp K sp F x (.str z) from h) <;> rfl
theorem Rb.none {x : V} (h : Rb K sp cc F H x .none) : x = .non := by
  cases (show Rp K sp F x .none from h) <;> rfl
theorem Rb.tuple {x : V} {ds : List D} (h : Rb K sp cc F H x (.tuple ds)) : ∃ a vs, x = .ref a ∧ F a = some (.tup vs) ∧ RpA K sp F vs ds := by
  cases (show Rp K sp F x (.tuple ds) from h) with
  | tup h1 a => exact ⟨_, _, rfl, h1, a⟩
theorem Rp.tuple {x : V} {ds : List D} (h : Rp K sp F x (.tuple ds)) : ∃ a vs, x = .ref a ∧ F a = some (.tup vs) ∧ RpA K sp F vs ds := by
  cases h with
  | tup h a => exact ⟨_, _, rfl, h, a⟩
theorem Rp.int' {x : V} {i : Int} (h : Rp K sp F x (.int i)) : x = .int i := by
  cases h <;> rfl
theorem Rp.b {x : V} {d : D} {s : Src} (h : Rp K sp F x d) (e : Same F H) (f1 : F sp = Option.none) (f2 : F cc = Option.none) : Rb K sp cc F H x d := by
  cases h with
  | @lst a0 vs0 ds0 h a => exact ⟨a0, vs0, rfl, e _ _ h, (fun z => by rw [z, f1] at h; cases h), (fun z => by rw [z, f2] at h; cases h), a⟩
  | non => exact Rp.non
  | bl b => exact Rp.bl b
  | int i => exact Rp.int i
  | str z => exact Rp.str z
  | src => exact Rp.src
  | tup h a => exact Rp.tup h a
  | dct h a => exact Rp.dct h a
  | dck h a => exact Rp.dck h a
theorem Rb.step {x : V} {d : D} {s' : Src} (h : Rb K sp cc F H x d) (f : Fw sp cc F H F' H' s') : Rb K sp cc F' H' x d := by
  cases d with
  | list ds =>
    obtain ⟨a, vs, e, h1, n1, n2, h2⟩ := h
    exact ⟨a, vs, e, f.keep _ _ h1 n1 n2, n1, n2, h2.mono f.fr⟩
  | _ => exact Rp.mono f.fr h
theorem Rb.dp {x : V} {d : D} (h : Rb K sp cc F H x d) (e : Same F H) (c : d.canLay0 = true) : Dp K H x d := by
  cases d with
  | list ds =>
    obtain ⟨a, vs, rfl, h1, n1, n2, h2⟩ := h
    exact .lst (SqL.of h1) (DpA_mono e (h2.dp (by simpa [PyData.canLay0] using c)))
  | _ => exact Dp_mono e (Rp.dp h c)
end

/-! ### laws of the monad -/
theorem bnd_some {α β : Type} {x : M α} {f : α → M β} {s : Src} {r : β × Src} (h : bnd x f s = some r) : ∃ a s1, x s = some (a, s1) ∧ f a s1 = some r := by
  unfold bnd at h
  cases e : x s with
  | none => rw [e] at h; cases h
  | some p =>
    obtain ⟨a, s1⟩ := p
    rw [e] at h
    exact ⟨a, s1, rfl, h⟩
theorem lift_some {α : Type} {x : Option α} {s : Src} {a : α} {s1 : Src} (h : lift x s = some (a, s1)) : x = some a ∧ s1 = s := by
  unfold lift at h
  cases x with
  | none => cases h
  | some b => cases h; exact ⟨rfl, rfl⟩
theorem bnd_lift {α β : Type} {x : Option α} {f : α → M β} {s : Src} {r : β × Src} (h : bnd (lift x) f s = some r) : ∃ a, x = some a ∧ f a s = some r := by
  cases x with
  | none => cases h
  | some a => exact ⟨a, rfl, h⟩
theorem ret_some {α : Type} {x a : α} {s s1 : Src} (h : ret x s = some (a, s1)) : x = a ∧ s1 = s := by
  cases h; exact ⟨rfl, rfl⟩

/-! ### what an expression's value keeps hold of: names that are no longer one's own behind it -/
def Tg.slots : Tg → List Nat
  | .name i => [i]
  | .tup ts => slotsL ts
where
  slotsL : List Tg → List Nat
    | [] => []
    | t :: r => t.slots ++ slotsL r
mutual
def lk : E → List Nat
  | .var i => [i]
  | .op _ a b => lkB a ++ lkB b
  | .neg a => lkB a
  | .not a => lkB a
  | .and a b => lk a ++ lk b
  | .or a b => lk a ++ lk b
  | .ite q a b => lkB q ++ (lk a ++ lk b)
  | .cmp _ a b => lkB a ++ lkB b
  | .chain _ _ a b c => lkB a ++ (lkB b ++ lkB c)
  | .tup es => lkL es
  | .lst es => lkL es
  | .star a => lkB a
  | .idx a b => lkB a ++ lkB b
  | .slc a lo hi => lkB a ++ (lkO lo ++ lkO hi)
  | .rev a => lkB a
  | .call _ args => lkL args
  | .pick a b => lk a ++ lk b
  | .bi _ args => lkBL args
  | .meth _ a b => lkB a ++ lkB b
  | .isi a _ => lkB a
  | .rng args => lkBL args
  | .enum a => lk a
  | .zip a b _ => lk a ++ lk b
  | .comp t it ifs elt => lkB it ++ ((lkO ifs ++ lk elt).filter fun i => !t.slots.contains i)
  | .comp2 t it t2 it2 elt => lkB it ++ ((lkB it2 ++ lk elt).filter fun i => !(t.slots ++ t2.slots).contains i)
  | .dps a => lkB a
  | .dzip a b _ => lkB a ++ lkB b
  | _ => []
def lkB : E → List Nat
  | .var _ => []
  | .op _ a b => lkB a ++ lkB b
  | .neg a => lkB a
  | .not a => lkB a
  | .and a b => lk a ++ lk b
  | .or a b => lk a ++ lk b
  | .ite q a b => lkB q ++ (lk a ++ lk b)
  | .cmp _ a b => lkB a ++ lkB b
  | .chain _ _ a b c => lkB a ++ (lkB b ++ lkB c)
  | .tup es => lkL es
  | .lst es => lkL es
  | .star a => lkB a
  | .idx a b => lkB a ++ lkB b
  | .slc a lo hi => lkB a ++ (lkO lo ++ lkO hi)
  | .rev a => lkB a
  | .call _ args => lkL args
  | .pick a b => lk a ++ lk b
  | .bi _ args => lkBL args
  | .meth _ a b => lkB a ++ lkB b
  | .isi a _ => lkB a
  | .rng args => lkBL args
  | .enum a => lkB a
  | .zip a b _ => lkB a ++ lkB b
  | .comp t it ifs elt => lkB it ++ ((lkO ifs ++ lk elt).filter fun i => !t.slots.contains i)
  | .comp2 t it t2 it2 elt => lkB it ++ ((lkB it2 ++ lk elt).filter fun i => !(t.slots ++ t2.slots).contains i)
  | .dps a => lkB a
  | .dzip a b _ => lkB a ++ lkB b
  | _ => []
def lkL : List E → List Nat
  | [] => []
  | .star a :: r => lkB a ++ lkL r
  | e :: r => lk e ++ lkL r
def lkBL : List E → List Nat
  | [] => []
  | e :: r => lkB e ++ lkBL r
def lkO : Option E → List Nat
  | none => []
  | some e => lkB e
end

/-! ### the look's surroundings; readings -/
/-- a block's names and how it stores -/
structure Sx where
  N : List Str
  sc : Scope
  fn : Str → Bool
/-- what stands fixed: the written part, the source's two objects -/
structure Gx where
  K : PySem.W.Frag
  sp : Addr
  cc : Addr
  v : Bool
  c : Cl
section
variable (G : Gx)
def Off (g l : List Nat) : Prop := ∀ i ∈ l, i ∉ g
theorem Off.l {g a b : List Nat} (h : Off g (a ++ b)) : Off g a := fun i hi => h i (List.mem_append_left _ hi)
theorem Off.r {g a b : List Nat} (h : Off g (a ++ b)) : Off g b := fun i hi => h i (List.mem_append_right _ hi)
def RdV (e : E) : TE := fun σ H Q => ∃ g en F s d s', Rl G.K G.sp G.cc g en σ F H s ∧ Off g (lk e) ∧ evE G.v G.c e en s = some (d, s') ∧
  ∀ x F' H', Fw G.sp G.cc F H F' H' s' → Rp G.K G.sp F' x d → Q x H'
def RdB (e : E) : TE := fun σ H Q => ∃ g en F s d s', Rl G.K G.sp G.cc g en σ F H s ∧ Off g (lkB e) ∧ evE G.v G.c e en s = some (d, s') ∧
  ∀ x F' H', Fw G.sp G.cc F H F' H' s' → Rb G.K G.sp G.cc F' H' x d → Q x H'
/-- a value behind an expression that makes it: a list stands new and is not frozen yet -/
def Rn (K : PySem.W.Frag) (sp : Addr) (H F' H' : Hp) (x : V) : D → Prop
  | .list ds => ∃ p vs, x = .ref p ∧ H p = none ∧ F' p = none ∧ H' p = some (.lst vs) ∧ RpA K sp F' vs ds
  | d => Rp K sp F' x d
def RdN (e : E) : TE := fun σ H Q => ∃ g en F s d s', Rl G.K G.sp G.cc g en σ F H s ∧ Off g (lk e) ∧ evE G.v G.c e en s = some (d, s') ∧
  ∀ x F' H', Fw G.sp G.cc F H F' H' s' → Rn G.K G.sp H F' H' x d → Q x H'
def RdT (e : E) : TT := fun σ H Q => ∃ g en F s d s' b, Rl G.K G.sp G.cc g en σ F H s ∧ Off g (lkB e) ∧ evE G.v G.c e en s = some (d, s') ∧ truth d = some b ∧
  ∀ F' H', Fw G.sp G.cc F H F' H' s' → Q b H'
def RdL (es : List E) : TA := fun σ H Q => ∃ g en F s ds s', Rl G.K G.sp G.cc g en σ F H s ∧ Off g (lkL es) ∧ evL G.v G.c es en s = some (ds, s') ∧
  ∀ xs F' H', Fw G.sp G.cc F H F' H' s' → RpA G.K G.sp F' xs ds → Q xs H'
def RbA (K : PySem.W.Frag) (sp cc : Addr) (F H : Hp) : List V → List D → Prop
  | [], [] => True
  | x :: xs, d :: ds => Rb K sp cc F H x d ∧ RbA K sp cc F H xs ds
  | _, _ => False
def RdBL (es : List E) : TA := fun σ H Q => ∃ g en F s ds s', Rl G.K G.sp G.cc g en σ F H s ∧ Off g (lkBL es) ∧ evL G.v G.c es en s = some (ds, s') ∧
  ∀ xs F' H', Fw G.sp G.cc F H F' H' s' → RbA G.K G.sp G.cc F' H' xs ds → Q xs H'
end
theorem pe_imp {X : Cx} {e : Expr} {t t' : TE} (h : PE X e t) (i : ∀ σ H Q, t' σ H Q → t σ H Q) : PE X e t' := ⟨fun pins s σ H Q I q => h.run pins s σ H Q I (i _ _ _ q)⟩
theorem pt_imp {X : Cx} {e : Expr} {t t' : TT} (h : PT X e t) (i : ∀ σ H Q, t' σ H Q → t σ H Q) : PT X e t' := ⟨fun pins s σ H Q I q => h.run pins s σ H Q I (i _ _ _ q)⟩
theorem pa_imp {X : Cx} {e : List Expr} {t t' : TA} (h : PA X e t) (i : ∀ σ H Q, t' σ H Q → t σ H Q) : PA X e t' := ⟨fun pos pins s σ H Q I q => h.run pos pins s σ H Q I (i _ _ _ q)⟩
theorem ps_imp {X : Cx} {e : Stmt} {t t' : TS} (h : PS X e t) (i : ∀ D σ H, t' D σ H → t D σ H) : PS X e t' := ⟨fun pins s σ H Q I q => h.run pins s σ H Q I (i _ _ _ q)⟩

section
variable {K : PySem.W.Frag} {sp cc : Addr} {F H F' H' : Hp} {s : Src}
/-- a new thing is laid and frozen -/
theorem Fw.lay {p : Addr} {o : HO} (e : Same F H) (q : SrcAt sp cc H s) (hp : H p = none) : Fw sp cc F H (upd F p o) (upd H p o) s := by
  have fp : F p = none := by
    cases z : F p with
    | none => rfl
    | some u => rw [e _ _ z] at hp; cases hp
  have ne : ∀ b u, F b = some u → b ≠ p := fun b u z y => by rw [y, fp] at z; cases z
  have neH : ∀ b u, H b = some u → b ≠ p := fun b u z y => by rw [y, hp] at z; cases z
  refine ⟨fun b u z => ?_, fun b u z => ?_, fun b u z _ _ => ?_, ⟨?_, ?_⟩, fun b z n => ?_⟩
  · rw [upd_ne (ne b u z)]; exact z
  · by_cases hb : b = p
    · subst hb; rw [upd_same] at z ⊢; exact z
    · rw [upd_ne hb] at z ⊢; exact e b u z
  · rw [upd_ne (neH b u z)]; exact z
  · rw [upd_ne (neH _ _ q.1)]; exact q.1
  · rw [upd_ne (neH _ _ q.2)]; exact q.2
  · have hb : b ≠ p := fun y => by subst y; exact n.1 hp
    rw [upd_ne hb]; exact z
/-- a new thing is laid, not frozen -/
theorem Fw.put {p : Addr} {o : HO} (e : Same F H) (q : SrcAt sp cc H s) (hp : H p = none) : Fw sp cc F H F (upd H p o) s := by
  have neH : ∀ b u, H b = some u → b ≠ p := fun b u z y => by rw [y, hp] at z; cases z
  refine ⟨Same.refl _, fun b u z => ?_, fun b u z _ _ => ?_, ⟨?_, ?_⟩, fun b z n => z⟩
  · rw [upd_ne (neH _ _ (e b u z))]; exact e b u z
  · rw [upd_ne (neH b u z)]; exact z
  · rw [upd_ne (neH _ _ q.1)]; exact q.1
  · rw [upd_ne (neH _ _ q.2)]; exact q.2
/-- a new list is frozen -/
theorem Fw.freeze {p : Addr} {vs : List V} (f : Fw sp cc F H F' H' s) (hp : H p = none) (fp : F' p = none) (hl : H' p = some (.lst vs)) : Fw sp cc F H (upd F' p (.lst vs)) H' s := by
  have ne : ∀ b u, F' b = some u → b ≠ p := fun b u z y => by rw [y, fp] at z; cases z
  refine ⟨fun b u z => ?_, fun b u z => ?_, f.keep, f.src, fun b z n => ?_⟩
  · rw [upd_ne (ne b u (f.fr b u z))]; exact f.fr b u z
  · by_cases hb : b = p
    · subst hb; rw [upd_same] at z; rw [← z]; exact hl
    · rw [upd_ne hb] at z; exact f.sub b u z
  · have hb : b ≠ p := fun y => by subst y; exact n.1 hp
    rw [upd_ne hb]; exact f.new b z n
theorem Same.upd' {p : Addr} {o : HO} (fp : F p = none) : Same F (upd F p o) := fun b u z => by
  rw [upd_ne (fun y => by rw [y, fp] at z; cases z)]; exact z
end
section
variable {X : Cx} {G : Gx} {e : E} {ex : Expr}
/-- a new value, frozen -/
theorem Rn.freeze {K : PySem.W.Frag} {sp cc : Addr} {F H F' H' : Hp} {s : Src} {x : V} {d : D} (f : Fw sp cc F H F' H' s) (h : Rn K sp H F' H' x d) : ∃ F2, Fw sp cc F H F2 H' s ∧ Rp K sp F2 x d := by
  cases d with
  | list ds =>
    obtain ⟨p, vs, rfl, hp, fp, hl, ha⟩ := h
    exact ⟨_, f.freeze hp fp hl, .lst upd_same (ha.mono (Same.upd' fp))⟩
  | _ => exact ⟨_, f, h⟩
theorem V_of_N (h : PE X ex (RdN G e)) : PE X ex (RdV G e) := by
  refine pe_imp h fun σ H Q ⟨g, en, F, s, d, s', R, o, he, k⟩ => ?_
  refine ⟨g, en, F, s, d, s', R, o, he, fun x F' H' f hn => ?_⟩
  obtain ⟨F2, f2, r⟩ := hn.freeze f
  exact k _ _ _ f2 r
theorem B_of_V (h : PE X ex (RdV G e)) (hl : lkB e = lk e) : PE X ex (RdB G e) := by
  refine pe_imp h fun σ H Q ⟨g, en, F, s, d, s', R, o, he, k⟩ => ?_
  refine ⟨g, en, F, s, d, s', R, hl ▸ o, he, fun x F' H' f hx => k _ _ _ f (hx.b (s := s) f.sub (R.step f).fsp (R.step f).fcc)⟩
end
end Fz
/-! FzCt: tuple * 1. -/
namespace Fz
open PySem PySem.Spec PyProof.Rows L2
open AutoSeq1 (wpAny_loadPart')
theorem tuple_mul1 (l : Addr) (items : Array Value) (n : Nat) (dd : Option Addr) (sl : Array (Option Value)) (u : Tok) :
    Meets (Builtin.«tuple.__mul__» ⟨[.ref l, .int 1 u], []⟩) (fun _ R s => s.heap.get? l = some { cls := .type "tuple", dict := dd, data := .seq items n, slots := sl } ∧
      R (.ok (.ret (Value.ref l))) s) :=
  .of_wp fun prog w A R s h => by
    obtain ⟨hp, g, d, tk, os⟩ := s
    obtain ⟨hl, h⟩ := h
    have f1 := AutoSeq1.idx_int
    have hT : Shared.TypeIs ⟨hp, g, d, tk, os⟩ (.ref l) "tuple" := ⟨_, hl, rfl⟩
    have c0 : (decide ((1 : Int) < -(2 ^ 63)) || decide ((1 : Int) ≥ 2 ^ 63)) = false := by decide
    have c1 : (items.isEmpty || (1 : Int) == 1) = true := by simp
    wp_walk using wpAny_loadPart' hl, wpAny_typeOf hT
    exact ⟨_, rfl, h⟩
section
variable {X : Cx}
theorem op_repT1 : OpR X (binaryOp .Mult) (fun x y H Q => ∃ l xs, x = .ref l ∧ y = .int 1 ∧ SqT X.K H l xs ∧ Q (.ref l) H) := by
  intro pins s σ H x y v u Q I rx ry h
  obtain ⟨l, xs, rfl, rfl, hT, q⟩ := h
  cases rx
  obtain ⟨t, rfl⟩ := ry
  obtain ⟨its, r, ⟨⟨cls, dd, data, sl⟩, ho, hc, n, hd⟩, hs⟩ := I.tuple hT
  simp only at hc hd
  subst hc hd
  exact wpAny_binaryOp_repeat_ref (T := "tuple") (U := "int") (by decide) ⟨_, ho, rfl⟩ (fun s' => typeIs_int s' 1 t) noFill_tuple_mul F.fills_int_mul F.slot_int_rmul repeat_tuple F.slot_int_index.lookup
    (call_meets F.slot_int_rmul (typeIs_int s 1 t) F.entry_int_rmul (F.args_int_rmul_2 _ _) (int_rmul_tuple 1 t l its.toArray n dd sl)
      ⟨ho, rfl, ⟨_, ho, rfl⟩, call_meets F.slot_tuple_mul ⟨_, ho, rfl⟩ F.entry_tuple_mul (F.args_tuple_mul_2 _ _) (tuple_mul1 l its.toArray n dd sl t) ⟨ho, ⟨.ref l, H, I, rfl, q⟩⟩⟩)
end
end Fz
/-! FzC: expressions: each form of the little language over its text. -/
namespace Fz
open PySem PySem.Spec PyProof.Rows L2

/-- the four readings of an expression -/
structure OkE (X : Cx) (G : Gx) (e : E) (ex : Expr) : Prop where
  B : PE X ex (RdB G e)
  V : PE X ex (RdV G e)
  T : PT X ex (RdT G e)
/-- .. of one that makes its value -/
structure OkN (X : Cx) (G : Gx) (e : E) (ex : Expr) : Prop extends OkE X G e ex where
  N : PE X ex (RdN G e)
def plainT (ex : Expr) : Prop := ∀ (env : Env) (whole : Sem Value), isTrue ex env whole = (do let v ← whole; standAt ex.pos; holding [v] (truthy v))

theorem small_le {n : Nat} (h : small n = true) : n ≤ sizeLine := by
  have h1 : n ≤ 16000000 := of_decide_eq_true h
  rw [sizeLine_eq]; omega
theorem small_lt {n : Nat} (h : small n = true) : n < sizeLine := by
  have h1 : n ≤ 16000000 := of_decide_eq_true h
  rw [sizeLine_eq]; omega

section
variable {X : Cx} {G : Gx} (hK : X.K = G.K)
include hK
theorem truV {F H : Hp} {x : V} {d : D} {b : Bool} (h : Rb G.K G.sp G.cc F H x d) (e : Same F H) (t : truth d = some b) : TruV X.K x H b := by
  cases d with
  | none => rw [h.none]; cases t; rfl
  | bool c => rw [h.bool]; cases t; rfl
  | int i => rw [h.int]; cases t; rfl
  | str z =>
    rw [h.str]
    have t' : (if small z.length then some ((z.length : Int) != 0) else Option.none) = some b := t
    by_cases q : small z.length = true
    · rw [if_pos q] at t'
      cases t'
      exact ⟨small_le q, rfl⟩
    · rw [if_neg q] at t'; cases t'
  | list ds =>
    obtain ⟨a, vs, rfl, h1, n1, n2, h2⟩ := h
    cases t
    refine .inl ⟨vs, SqL.of h1, ?_⟩
    have := h2.length
    cases vs <;> cases ds <;> first | rfl | (simp at this)
  | tuple ds =>
    obtain ⟨a, vs, rfl, h1, h2⟩ := h.tuple
    cases t
    refine .inr (.inl ⟨vs, hK ▸ sqT_same e h1, ?_⟩)
    have := h2.length
    cases vs <;> cases ds <;> first | rfl | (simp at this)
  | dict kvs => cases t
theorem T_of_B {e : E} {ex : Expr} (h : PE X ex (RdB G e)) (p : plainT ex) : PT X ex (RdT G e) := by
  refine pt_imp (pt_truth h (p X.env)) fun σ H Q ⟨g, en, F, s, d, s', b, R, o, he, t, k⟩ => ?_
  exact ⟨g, en, F, s, d, s', R, o, he, fun x F' H' f hx => ⟨b, truV hK hx f.sub t, k F' H' f⟩⟩
omit hK
theorem okN {e : E} {ex : Expr} (hK : X.K = G.K) (h : PE X ex (RdN G e)) (hl : lkB e = lk e) (p : plainT ex) : OkN X G e ex :=
  have v := V_of_N h
  have b := B_of_V v hl
  ⟨⟨b, v, T_of_B hK b p⟩, h⟩
theorem okV {e : E} {ex : Expr} (hK : X.K = G.K) (h : PE X ex (RdV G e)) (hl : lkB e = lk e) (p : plainT ex) : OkE X G e ex :=
  have b := B_of_V h hl
  ⟨b, h, T_of_B hK b p⟩

/-! ### constants and names -/
theorem rl_same {g : List Nat} {en : En} {σ : L2.St} {F H : Hp} {s : Src} (R : Rl G.K G.sp G.cc g en σ F H s) : Fw G.sp G.cc F H F H s := Fw.refl R.sub R.src
theorem ok_non {j pos} (hK : X.K = G.K) : OkE X G .non (.Constant .none j pos) :=
  okV hK (pe_imp pe_non fun σ H Q ⟨g, en, F, s, d, s', R, o, he, k⟩ => by cases he; exact k _ _ _ (rl_same R) .non) rfl fun _ _ => rfl
theorem ok_bl {b j pos} (hK : X.K = G.K) : OkE X G (.bl b) (.Constant (.bool b) j pos) :=
  okV hK (pe_imp pe_bl fun σ H Q ⟨g, en, F, s, d, s', R, o, he, k⟩ => by cases he; exact k _ _ _ (rl_same R) (.bl b)) rfl fun _ _ => rfl
theorem ok_int {i j pos} (hK : X.K = G.K) : OkE X G (.int i) (.Constant (.int i) j pos) :=
  okV hK (pe_imp pe_int fun σ H Q ⟨g, en, F, s, d, s', R, o, he, k⟩ => by cases he; exact k _ _ _ (rl_same R) (.int i)) rfl fun _ _ => rfl
theorem ok_str {x j pos} (hK : X.K = G.K) : OkE X G (.str x) (.Constant (.str x) j pos) :=
  okV hK (pe_imp pe_str fun σ H Q ⟨g, en, F, s, d, s', R, o, he, k⟩ => by cases he; exact k _ _ _ (rl_same R) (.str x)) rfl fun _ _ => rfl
theorem ok_var {i : Nat} {x : Str} {pos : Pos} (hK : X.K = G.K) (hN : X.N[i]? = some x) (hv : Vis X.env.scope x) (hd : (x == ("__debug__" : Str)) = false) (hcd : (x == ("__classdict__" : Str)) = false) : OkE X G (.var i) (.Name x pos) := by
  have b : PE X (.Name x pos) (RdB G (.var i)) := by
    refine pe_imp (pe_var hN hv hd hcd) fun σ H Q ⟨g, en, F, s, d, s', R, o, he, k⟩ => ?_
    obtain ⟨h1, rfl⟩ := lift_some (show lift (en.getD i none) s = some (d, s') from he)
    by_cases hi : i ∈ g
    · obtain ⟨a, vs, ds, rfl, h2, h3, h4, h5, h6, h7⟩ := R.own i hi d h1
      exact ⟨_, h2, k _ _ _ (rl_same R) ⟨a, vs, rfl, h3, h6, h7, h5⟩⟩
    · obtain ⟨v, h2, h3⟩ := R.val i d h1 hi
      exact ⟨v, h2, k _ _ _ (rl_same R) (h3.b (s := s') R.sub R.fsp R.fcc)⟩
  refine ⟨b, ?_, T_of_B hK b fun _ _ => rfl⟩
  refine pe_imp (pe_var hN hv hd hcd) fun σ H Q ⟨g, en, F, s, d, s', R, o, he, k⟩ => ?_
  obtain ⟨h1, rfl⟩ := lift_some (show lift (en.getD i none) s = some (d, s') from he)
  obtain ⟨v, h2, h3⟩ := R.val i d h1 (o i (List.mem_singleton.mpr rfl))
  exact ⟨v, h2, k _ _ _ (rl_same R) h3⟩

theorem Fw.noneBack {sp cc : Addr} {F H F' H' : Hp} {s : Src} {p : Addr} (f : Fw sp cc F H F' H' s) (e : H' p = none) : H p = none := by
  cases q : H p with
  | none => rfl
  | some u =>
    by_cases n1 : p = sp
    · rw [n1, f.src.1] at e; cases e
    · by_cases n2 : p = cc
      · rw [n2, f.src.2] at e; cases e
      · rw [f.keep p u q n1 n2] at e; cases e
theorem Rn.back {K : PySem.W.Frag} {sp cc : Addr} {F H F' H' F2 H2 : Hp} {s : Src} {x : V} {d : D} (h : Rn K sp H' F2 H2 x d) (f : Fw sp cc F H F' H' s) : Rn K sp H F2 H2 x d := by
  cases d with
  | list ds =>
    obtain ⟨p, vs, e1, e2, e3⟩ := h
    exact ⟨p, vs, e1, f.noneBack e2, e3⟩
  | _ => exact h
/-! ### two values in a row -/
/-- what two operands have come to -/
theorem two {a b : E} {g : List Nat} {en : En} {σ : L2.St} {F H : Hp} {s s1 s2 : Src} {d1 d2 : D} (R : Rl G.K G.sp G.cc g en σ F H s) (o : Off g (lkB a ++ lkB b)) (h1 : evE G.v G.c a en s = some (d1, s1)) (h2 : evE G.v G.c b en s1 = some (d2, s2))
    {k : V → V → Hp → Prop} (hk : ∀ x y F' H', Fw G.sp G.cc F H F' H' s2 → Rb G.K G.sp G.cc F' H' x d1 → Rb G.K G.sp G.cc F' H' y d2 → k x y H') :
    RdB G a σ H fun x H1 => RdB G b σ H1 fun y H2 => k x y H2 :=
  ⟨g, en, F, s, d1, s1, R, o.l, h1, fun x F1 H1 f1 r1 => ⟨g, en, F1, s1, d2, s2, R.step f1, o.r, h2, fun y F2 H2 f2 r2 => hk x y F2 H2 (f1.trans f2) (r1.step f2) r2⟩⟩

/-- an operation upon data: new F, new H -/
def rOp (o : D → D → Option D) : R2 := fun x y H Q => ∃ F s d1 d2 d, Same F H ∧ SrcAt G.sp G.cc H s ∧ F G.sp = none ∧ F G.cc = none ∧ Rb G.K G.sp G.cc F H x d1 ∧ Rb G.K G.sp G.cc F H y d2 ∧ o d1 d2 = some d ∧
  ∀ z F' H', Fw G.sp G.cc F H F' H' s → Rn G.K G.sp H F' H' z d → Q z H'
theorem rn_of {H F' H' : Hp} {x : V} {d : D} (h : Rp G.K G.sp F' x d) (n : ∀ ds, d ≠ .list ds) : Rn G.K G.sp H F' H' x d := by
  cases d <;> first | exact h | exact absurd rfl (n _)
theorem wide_ok {i j : Int} (h : mulOk i j = true) : IntMulOk i j := by
  have h2 : i.natAbs.log2 + j.natAbs.log2 < 900000 := of_decide_eq_true h
  exact CMulW.ok (show i.natAbs.log2 + j.natAbs.log2 < 1000000 by omega)
def O2.op : O2 → Operator
  | .add => .Add
  | .sub => .Sub
  | .mul => .Mult
  | .fdiv => .FloorDiv
  | .mod => .Mod
  | .pow => .Pow
theorem if_some {α : Type} {c : Bool} {a b : α} (h : (if c = true then some a else none) = some b) : c = true ∧ a = b := by
  cases c with
  | true => exact ⟨rfl, Option.some.inj h⟩
  | false => cases h
theorem new_list {F H : Hp} {s : Src} {vs : List V} {ds : List D} {Q : VK} (e : Same F H) (q : SrcAt G.sp G.cc H s) (f1 : F G.sp = none) (f2 : F G.cc = none) (ha : RpA G.K G.sp F vs ds)
    (k : ∀ z F' H', Fw G.sp G.cc F H F' H' s → Rn G.K G.sp H F' H' z (.list ds) → Q z H') (p : Addr) (hp : H p = none) : Q (.ref p) (upd H p (.lst vs)) := by
  have fp : F p = none := by
    cases z : F p with
    | none => rfl
    | some u => rw [e _ _ z] at hp; cases hp
  exact k _ F _ (Fw.put e q hp) ⟨p, vs, rfl, hp, fp, upd_same, ha⟩
theorem new_tup {F H : Hp} {s : Src} {vs : List V} {ds : List D} {Q : VK} (e : Same F H) (q : SrcAt G.sp G.cc H s) (ha : RpA G.K G.sp F vs ds)
    (k : ∀ z F' H', Fw G.sp G.cc F H F' H' s → Rn G.K G.sp H F' H' z (.tuple ds) → Q z H') (p : Addr) (hp : H p = none) : Q (.ref p) (upd H p (.tup vs)) := by
  have fp : F p = none := by
    cases z : F p with
    | none => rfl
    | some u => rw [e _ _ z] at hp; cases hp
  exact k _ _ _ (Fw.lay e q hp) (.tup upd_same (ha.mono (Same.upd' fp)))
theorem op_ok (o : O2) (hK : X.K = G.K) : OpR X (binaryOp o.op) (rOp (G := G) (op2 o)) := by
  intro pins s σ H x y v u Q I rx ry ⟨F, sr, d1, d2, d, e, q, f1, f2, hx, hy, ho, k⟩
  have twoI : ∀ {i j : Int}, d1 = .int i → d2 = .int j → x = .int i ∧ y = .int j := fun {i j} e1 e2 => by
    subst e1 e2; exact ⟨hx.int, hy.int⟩
  have fin : ∀ {i : Int}, d = .int i → Q (.int i) H := fun {i} e1 => by subst e1; exact k _ _ _ (Fw.refl e q) (.int i)
  cases o with
  | add =>
    unfold op2 at ho
    split at ho <;> first | (simp only [reduceCtorEq] at *; done) | skip
    · rename_i i j _
      obtain ⟨rfl, rfl⟩ := twoI rfl rfl
      exact op_add pins s σ H _ _ v u Q I rx ry ⟨i, j, rfl, rfl, fin (Option.some.inj ho).symm⟩
    · rename_i a b _
      obtain ⟨hs, rfl⟩ := if_some ho
      obtain ⟨p1, vs, rfl, h1, n1, n2, h2⟩ := hx
      obtain ⟨p2, us, rfl, h3, n3, n4, h4⟩ := hy
      refine op_cat pins s σ H _ _ v u Q I rx ry ⟨p1, p2, vs, us, rfl, rfl, h1, h3, by rw [h2.length, h4.length]; exact small_le hs, fun p hp => new_list e q f1 f2 (h2.append h4) k p hp⟩
    · rename_i a b _
      obtain ⟨hs, rfl⟩ := if_some ho
      obtain ⟨p1, vs, rfl, h1, h2⟩ := hx.tuple
      obtain ⟨p2, us, rfl, h3, h4⟩ := hy.tuple
      refine op_catA pins s σ H _ _ v u Q I rx ry ⟨p1, p2, vs, us, rfl, rfl, hK ▸ sqT_same e h1, hK ▸ sqT_same e h3, by rw [h2.length, h4.length]; exact small_le hs, fun z => ?_, fun _ z => ?_, fun _ _ p hp => new_tup e q (h2.append h4) k p hp⟩
      · subst z
        cases h2
        exact k _ _ _ (Fw.refl e q) (.tup h3 h4)
      · subst z
        cases h4
        refine k _ _ _ (Fw.refl e q) ?_
        rw [List.append_nil]
        exact .tup h1 h2
  | sub =>
    unfold op2 at ho
    split at ho <;> first | (simp only [reduceCtorEq] at *; done) | skip
    rename_i i j _
    obtain ⟨rfl, rfl⟩ := twoI rfl rfl
    exact op_sub pins s σ H _ _ v u Q I rx ry ⟨i, j, rfl, rfl, fin (Option.some.inj ho).symm⟩
  | mul =>
    unfold op2 at ho
    split at ho <;> first | (simp only [reduceCtorEq] at *; done) | skip
    · rename_i i j _
      obtain ⟨hs, rfl⟩ := if_some ho
      obtain ⟨rfl, rfl⟩ := twoI rfl rfl
      have r : OpR X (binaryOp .Mult) (rI (fun i j => mulOk i j = true) fun i j => .int (i * j)) := opI fun _ _ _ _ _ _ _ hc q => mul_int q (wide_ok hc)
      exact r pins s σ H _ _ v u Q I rx ry ⟨i, j, rfl, rfl, hs, fin rfl⟩
    · rename_i a j _
      obtain ⟨hs, rfl⟩ := if_some ho
      obtain ⟨p1, vs, rfl, h1, n1, n2, h2⟩ := hx
      obtain rfl := hy.int
      simp only [Bool.and_eq_true, decide_eq_true_eq] at hs
      refine op_rep pins s σ H _ _ v u Q I rx ry ⟨p1, j, vs, rfl, rfl, h1, by omega, by omega, by rw [h2.length]; exact small_le hs.2, fun p hp => new_list e q f1 f2 (h2.flat j.toNat) k p hp⟩
    · rename_i a j _
      obtain ⟨hs, rfl⟩ := if_some ho
      obtain ⟨p1, vs, rfl, h1, h2⟩ := hx.tuple
      obtain rfl := hy.int
      simp only [Bool.and_eq_true, decide_eq_true_eq] at hs
      obtain ⟨⟨⟨q1, q2⟩, q3⟩, q4⟩ := hs
      by_cases j1 : j = 1
      · subst j1
        refine op_repT1 pins s σ H _ _ v u Q I rx ry ⟨p1, vs, rfl, rfl, hK ▸ sqT_same e h1, k _ _ _ (Fw.refl e q) ?_⟩
        have e1 : (List.replicate (1 : Int).toNat a).flatten = a := by
          show (List.replicate 1 a).flatten = a
          simp
        rw [e1]
        exact .tup h1 h2
      · have hne : vs ≠ [] := fun z => by
          subst z
          cases h2
          cases q4
        refine op_repT pins s σ H _ _ v u Q I rx ry ⟨p1, j, vs, rfl, rfl, hK ▸ sqT_same e h1, hne, by omega, q2, by rw [h2.length]; exact q3, fun p hp => new_tup e q (h2.flat j.toNat) k p hp⟩
  | fdiv =>
    unfold op2 at ho
    split at ho <;> first | (simp only [reduceCtorEq] at *; done) | skip
    rename_i i j _
    obtain ⟨hs, rfl⟩ := if_some ho
    obtain ⟨rfl, rfl⟩ := twoI rfl rfl
    have r : OpR X (binaryOp .FloorDiv) (rI (fun _ j => divOk j = true) fun i j => .int (i.fdiv j)) := opI fun _ j _ _ _ _ _ hc q => by
      obtain ⟨h1, h2⟩ := Bool.and_eq_true_iff.mp hc
      have h3 : j.natAbs.log2 < 8000 := of_decide_eq_true h2
      exact floordiv_int (of_decide_eq_true h1) q (.inl (PyProof.noPylong_of_log2 (by omega)))
    exact r pins s σ H _ _ v u Q I rx ry ⟨i, j, rfl, rfl, hs, fin rfl⟩
  | mod =>
    unfold op2 at ho
    split at ho <;> first | (simp only [reduceCtorEq] at *; done) | skip
    rename_i i j _
    obtain ⟨hs, rfl⟩ := if_some ho
    obtain ⟨rfl, rfl⟩ := twoI rfl rfl
    exact op_modN pins s σ H _ _ v u Q I rx ry ⟨i, j, rfl, rfl, of_decide_eq_true hs, fin rfl⟩
  | pow =>
    unfold op2 at ho
    split at ho <;> first | (simp only [reduceCtorEq] at *; done) | skip
    rename_i i j _
    obtain ⟨hs, rfl⟩ := if_some ho
    obtain ⟨rfl, rfl⟩ := twoI rfl rfl
    simp only [Bool.and_eq_true, decide_eq_true_eq] at hs
    exact op_pow pins s σ H _ _ v u Q I rx ry ⟨i, j, rfl, rfl, ⟨hs.1.1, hs.1.2, hs.2⟩, fin rfl⟩
theorem ok_op {o : O2} {a b : E} {ea eb : Expr} {pos : Pos} (hK : X.K = G.K) (ha : PE X ea (RdB G a)) (hb : PE X eb (RdB G b)) : OkN X G (.op o a b) (.BinOp ea o.op eb pos) := by
  refine okN hK (pe_imp (pe_op (op_ok o hK) ha hb) fun σ H Q ⟨g, en, F, s, d, s', R, off, he, k⟩ => ?_) rfl fun _ _ => rfl
  obtain ⟨d1, s1, h1, h⟩ := bnd_some he
  obtain ⟨d2, s2, h2, h⟩ := bnd_some h
  obtain ⟨h3, rfl⟩ := lift_some h
  exact two R off h1 h2 fun x y F' H' f r1 r2 => ⟨F', s', d1, d2, d, f.sub, f.src, (R.step f).fsp, (R.step f).fcc, r1, r2, h3, fun z F2 H2 f2 hz => k _ _ _ (f.trans f2) (hz.back f)⟩
end
end Fz
/-! FzCd: dicts whose keys are ints or tuples of ints, as data. -/
namespace Fz
open PySem PySem.Spec PyProof.Rows L2
theorem map_inl : ∀ {a b : List Int}, a.map (Sum.inl : Int → L2.Key) = b.map Sum.inl → a = b
  | [], [], _ => rfl
  | [], _ :: _, h => by cases h
  | _ :: _, [], h => by cases h
  | x :: r, y :: q, h => by
    rw [List.map_cons, List.map_cons] at h
    obtain ⟨h1, h2⟩ := List.cons.inj h
    rw [Sum.inl.inj h1, map_inl h2]
theorem atD_cons (p : D × D) (r : List (D × D)) (k : D) : atD (p :: r) k = if sameK p.1 k then some p.2 else atD r k := by
  unfold atD
  rw [List.find?_cons]
  cases sameK p.1 k <;> rfl
theorem hasD_cons (p : D × D) (r : List (D × D)) (k : D) : hasD (p :: r) k = (sameK p.1 k || hasD r k) := rfl
section
variable {K : PySem.W.Frag} {sp cc : Addr} {F H : Hp}
theorem rpK_val : ∀ {kws : List (List L2.Key × V)} {kvs : List (D × D)}, RpK K sp F kws kvs → ∀ (ds : List D) (ns : List Int), intsOf ds = some ns →
    (∀ d, atD kvs (.tuple ds) = some d → ∃ v, valV kws (ns.map (Sum.inl : Int → L2.Key)) = some v ∧ Rp K sp F v d) ∧ (valV kws (ns.map (Sum.inl : Int → L2.Key))).isSome = hasD kvs (.tuple ds)
  | _, _, .nil, ds, ns, e => ⟨fun d h => (by cases h), rfl⟩
  | _, _, .cons (ns := ms) (v := v) (d := d0) (kws := kws) (kvs := kvs) h a, ds, ns, e => by
    obtain ⟨h1, h2⟩ := rpK_val a ds ns e
    have es : sameK (.tuple (ms.map .int)) (.tuple ds) = decide (ms = ns) := by
      show (match intsOf (ms.map .int), intsOf ds with | some x, some y => decide (x = y) | _, _ => false) = _
      rw [intsOf_map, e]
    rw [hasD_cons]
    simp only [atD_cons]
    rw [es]
    by_cases q : ms = ns
    · subst q
      have e1 : valV ((ms.map (Sum.inl : Int → L2.Key), v) :: kws) (ms.map Sum.inl) = some v := valV_pos rfl
      rw [e1, decide_eq_true rfl]
      refine ⟨fun d hd => ⟨v, rfl, ?_⟩, rfl⟩
      rw [if_pos rfl] at hd
      cases hd
      exact h
    · have e1 : valV ((ms.map (Sum.inl : Int → L2.Key), v) :: kws) (ns.map Sum.inl) = valV kws (ns.map Sum.inl) := valV_neg fun z => q (map_inl z)
      rw [e1, decide_eq_false q]
      exact ⟨h1, h2⟩
theorem rpI_val : ∀ {kws : List (L2.Key × V)} {kvs : List (D × D)}, RpI K sp F kws kvs → ∀ (n : Int),
    (∀ d, atD kvs (.int n) = some d → ∃ v, valV kws (Sum.inl n : L2.Key) = some v ∧ Rp K sp F v d) ∧ (valV kws (Sum.inl n : L2.Key)).isSome = hasD kvs (.int n)
  | _, _, .nil, n => ⟨fun d h => (by cases h), rfl⟩
  | _, _, .cons (n := m) (v := v) (d := d0) (kws := kws) (kvs := kvs) h a, n => by
    obtain ⟨h1, h2⟩ := rpI_val a n
    have es : sameK (.int m) (.int n) = decide (m = n) := rfl
    rw [hasD_cons]
    simp only [atD_cons]
    rw [es]
    by_cases q : m = n
    · subst q
      have e1 : valV (((Sum.inl m : L2.Key), v) :: kws) (Sum.inl m) = some v := valV_pos rfl
      rw [e1, decide_eq_true rfl]
      refine ⟨fun d hd => ⟨v, rfl, ?_⟩, rfl⟩
      rw [if_pos rfl] at hd
      cases hd
      exact h
    · have e1 : valV (((Sum.inl m : L2.Key), v) :: kws) (Sum.inl n) = valV kws (Sum.inl n) := valV_neg fun z => q (Sum.inl.inj z)
      rw [e1, decide_eq_false q]
      exact ⟨h1, h2⟩
theorem kV_ints (ns : List Int) : (ns.map (Sum.inl : Int → L2.Key)).map kV = ns.map V.int := by
  rw [List.map_map]; rfl
/-- a key that is a tuple of ints stands in the heap -/
theorem key_tup {y : V} {ds : List D} {ns : List Int} (r : Rb K sp cc F H y (.tuple ds)) (e : Same F H) (hi : intsOf ds = some ns) : ∃ b, y = .ref b ∧ H b = some (.tup ((ns.map (Sum.inl : Int → L2.Key)).map kV)) := by
  obtain ⟨b, vs, rfl, h, a⟩ := r.tuple
  refine ⟨b, rfl, ?_⟩
  rw [kV_ints, ← a.ints hi]
  exact e _ _ h
theorem same_tup {ns : List Int} {k : D} (h : sameK (.tuple (ns.map .int)) k = true) : ∃ ds, k = .tuple ds ∧ intsOf ds = some ns := by
  cases k with
  | tuple ds =>
    refine ⟨ds, rfl, ?_⟩
    have h : (match intsOf (ns.map .int), intsOf ds with | some x, some y => decide (x = y) | _, _ => false) = true := h
    rw [intsOf_map] at h
    cases q : intsOf ds with
    | none => rw [q] at h; cases h
    | some ms => rw [q] at h; rw [of_decide_eq_true h]
  | _ => cases h
theorem atD_mem {kvs : List (D × D)} {k d : D} (h : atD kvs k = some d) : ∃ p ∈ kvs, sameK p.1 k = true := by
  unfold atD at h
  obtain ⟨p, hp, _⟩ := Option.map_eq_some_iff.mp h
  exact ⟨p, List.mem_of_find?_eq_some hp, by simpa using List.find?_some hp⟩
theorem rpK_key : ∀ {kws : List (List L2.Key × V)} {kvs : List (D × D)}, RpK K sp F kws kvs → ∀ p ∈ kvs, ∃ ns : List Int, p.1 = .tuple (ns.map .int)
  | _, _, .nil, p, h => by cases h
  | _, _, .cons (ns := ns) _ a, p, h => by
    rcases List.mem_cons.mp h with rfl | h
    · exact ⟨ns, rfl⟩
    · exact rpK_key a p h
theorem rpI_key : ∀ {kws : List (L2.Key × V)} {kvs : List (D × D)}, RpI K sp F kws kvs → ∀ p ∈ kvs, ∃ n : Int, p.1 = .int n
  | _, _, .nil, p, h => by cases h
  | _, _, .cons (n := n) _ a, p, h => by
    rcases List.mem_cons.mp h with rfl | h
    · exact ⟨n, rfl⟩
    · exact rpI_key a p h
theorem atD_rep {x y : V} {kvs : List (D × D)} {k d : D} (r : Rb K sp cc F H x (.dict kvs)) (ry : Rb K sp cc F H y k) (e : Same F H) (h : atD kvs k = some d) : ∃ a v, x = .ref a ∧ DGet H a y (some v) ∧ Rp K sp F v d := by
  have r : Rp K sp F x (.dict kvs) := r
  obtain ⟨p, hp, hs⟩ := atD_mem h
  cases r with
  | src => cases hp with
    | head => cases hs
    | tail _ hp => cases hp
  | @dct a kws kvs hF a0 =>
    obtain ⟨ns, en⟩ := rpK_key a0 p hp
    rw [en] at hs
    obtain ⟨ds, rfl, hi⟩ := same_tup hs
    obtain ⟨b, rfl, hb⟩ := key_tup ry e hi
    obtain ⟨v, hv, rv⟩ := (rpK_val a0 ds ns hi).1 d h
    exact ⟨a, v, rfl, hv ▸ DGet.t (e _ _ hF) hb, rv⟩
  | @dck a kws kvs hF a0 =>
    obtain ⟨n, en⟩ := rpI_key a0 p hp
    rw [en] at hs
    cases k with
    | int m =>
      obtain ⟨v, hv, rv⟩ := (rpI_val a0 m).1 d h
      refine ⟨a, v, rfl, ?_, rv⟩
      rw [ry.int, ← hv]
      exact DGet.k (k := Sum.inl m) (e _ _ hF)
    | _ => cases hs
theorem hasD_rep {x y : V} {kvs : List (D × D)} {k : D} (r : Rb K sp cc F H x (.dict kvs)) (ry : Rb K sp cc F H y k) (e : Same F H) (h : likeK kvs k = true) : ∃ a o, x = .ref a ∧ DGet H a y o ∧ o.isSome = hasD kvs k := by
  have r : Rp K sp F x (.dict kvs) := r
  cases r with
  | src => cases k <;> cases h
  | @dct a kws kvs hF a0 =>
    cases kvs with
    | nil => cases h
    | cons p r =>
      obtain ⟨ns, en⟩ := rpK_key a0 p (List.mem_cons_self ..)
      have h : ((isIK p.1 && isIK k) || (isTK p.1 && isTK k)) = true := h
      rw [en] at h
      have h : isTK k = true := by
        have : isTK (.tuple (ns.map PyData.int)) = true := by
          show (intsOf (ns.map .int)).isSome = true
          rw [intsOf_map]; rfl
        rw [this] at h
        simpa [isIK] using h
      cases k with
      | tuple ds =>
        obtain ⟨ms, hi⟩ := Option.isSome_iff_exists.mp (show (intsOf ds).isSome = true from h)
        obtain ⟨b, rfl, hb⟩ := key_tup ry e hi
        exact ⟨a, _, rfl, DGet.t (e _ _ hF) hb, (rpK_val a0 ds ms hi).2⟩
      | _ => cases h
  | @dck a kws kvs hF a0 =>
    cases kvs with
    | nil => cases h
    | cons p r =>
      obtain ⟨n, en⟩ := rpI_key a0 p (List.mem_cons_self ..)
      have h : ((isIK p.1 && isIK k) || (isTK p.1 && isTK k)) = true := h
      rw [en] at h
      have h : isIK k = true := by simpa [isIK, isTK] using h
      cases k with
      | int m =>
        refine ⟨a, _, rfl, ?_, (rpI_val a0 m).2⟩
        rw [ry.int]
        exact DGet.k (k := Sum.inl m) (e _ _ hF)
      | _ => cases h
end
end Fz
/-! FzD: expressions, more: signs, not, and, or, comparisons, displays, items, cuts. -/
namespace Fz
open PySem PySem.Spec PyProof.Rows L2
section
variable {X : Cx} {G : Gx}
/-- one operand -/
theorem one {a : E} {g : List Nat} {en : En} {σ : L2.St} {F H : Hp} {s s1 : Src} {d : D} (R : Rl G.K G.sp G.cc g en σ F H s) (o : Off g (lkB a)) (h1 : evE G.v G.c a en s = some (d, s1))
    {k : V → Hp → Prop} (hk : ∀ x F' H', Fw G.sp G.cc F H F' H' s1 → Rb G.K G.sp G.cc F' H' x d → k x H') : RdB G a σ H k := ⟨g, en, F, s, d, s1, R, o, h1, hk⟩
theorem oneT {a : E} {g : List Nat} {en : En} {σ : L2.St} {F H : Hp} {s s1 : Src} {d : D} {b : Bool} (R : Rl G.K G.sp G.cc g en σ F H s) (o : Off g (lkB a)) (h1 : evE G.v G.c a en s = some (d, s1)) (h2 : truth d = some b)
    {k : Bool → Hp → Prop} (hk : ∀ F' H', Fw G.sp G.cc F H F' H' s1 → k b H') : RdT G a σ H k := ⟨g, en, F, s, d, s1, b, R, o, h1, h2, hk⟩
theorem ok_neg {a : E} {ea : Expr} {pos : Pos} (hK : X.K = G.K) (ha : PE X ea (RdB G a)) : OkE X G (.neg a) (.UnaryOp .USub ea pos) := by
  refine okV hK (pe_imp (pe_un un_neg ha) fun σ H Q ⟨g, en, F, s, d, s', R, off, he, k⟩ => ?_) rfl fun _ _ => rfl
  obtain ⟨d1, s1, h1, h⟩ := bnd_some he
  obtain ⟨h2, rfl⟩ := lift_some h
  refine one R off h1 fun x F' H' f r => ?_
  cases d1 with
  | int i => cases h2; exact ⟨i, r.int, k _ _ _ f (.int (-i))⟩
  | _ => cases h2
theorem ok_not {a : E} {ea : Expr} {pos : Pos} (hK : X.K = G.K) (ha : OkE X G a ea) : OkE X G (.not a) (.UnaryOp .Not ea pos) := by
  have v : PE X (.UnaryOp .Not ea pos) (RdV G (.not a)) := by
    refine pe_imp (pe_notT ha.B) fun σ H Q ⟨g, en, F, s, d, s', R, off, he, k⟩ => ?_
    obtain ⟨d1, s1, h1, h⟩ := bnd_some he
    obtain ⟨h2, rfl⟩ := lift_some h
    obtain ⟨b, h3, rfl⟩ := Option.map_eq_some_iff.mp h2
    exact one R off h1 fun x F' H' f r => ⟨b, truV hK r f.sub h3, k _ _ _ f (.bl (!b))⟩
  refine ⟨B_of_V v rfl, v, ?_⟩
  refine pt_imp (pt_not ha.T) fun σ H Q ⟨g, en, F, s, d, s', b, R, off, he, ht, k⟩ => ?_
  obtain ⟨d1, s1, h1, h⟩ := bnd_some he
  obtain ⟨h2, rfl⟩ := lift_some h
  obtain ⟨c, h3, rfl⟩ := Option.map_eq_some_iff.mp h2
  cases ht
  exact oneT (a := a) R off h1 h3 (k := fun c H1 => Q (!c) H1) fun F' H' f => k _ _ f
theorem lkB_sub : ∀ (a : E) (i : Nat), i ∈ lkB a → i ∈ lk a
  | .var _, i, h => by simp [lkB] at h
  | .non, _, h | .bl _, _, h | .int _, _, h | .str _, _, h | .op .., _, h | .neg _, _, h | .not _, _, h | .and .., _, h | .or .., _, h | .ite .., _, h | .cmp .., _, h | .chain .., _, h | .tup _, _, h | .lst _, _, h | .star _, _, h
  | .idx .., _, h | .slc .., _, h | .rev _, _, h | .call .., _, h | .pick .., _, h | .bi .., _, h | .meth .., _, h | .isi .., _, h | .rng _, _, h | .comp .., _, h | .comp2 .., _, h | .dps .., _, h | .dzip .., _, h => h
  | .enum a, i, h => lkB_sub a i h
  | .zip a b _, i, h => List.mem_append.mpr ((List.mem_append.mp (show i ∈ lkB a ++ lkB b from h)).imp (lkB_sub a i) (lkB_sub b i))
theorem off_B {g : List Nat} {a : E} (o : Off g (lk a)) : Off g (lkB a) := fun i hi => o i (lkB_sub a i hi)
/-- a row of and's, or's: the rest behind the first -/
structure OkW (X : Cx) (G : Gx) (op : BoolOp) (e : E) (es : List Expr) : Prop where
  V : ∀ pos, PE X (.BoolOp op es pos) (RdV G e)
  W : ∀ pos, PW X (.BoolOp op es pos) (RdT G e)
theorem pw_imp {e : Expr} {t t' : TT} (h : PW X e t) (i : ∀ σ H Q, t' σ H Q → t σ H Q) : PW X e t' := ⟨fun w pins s σ H Q I q => h.run w pins s σ H Q I (i _ _ _ q)⟩
theorem okW_one {op : BoolOp} {e : E} {ex : Expr} (h : OkE X G e ex) : OkW X G op e [ex] :=
  ⟨fun _ => pe_one h.V, fun _ => by
    cases op with
    | And => exact pw_and1 h.T
    | Or => exact pw_or1 h.T⟩
theorem okW_and {a b : E} {ea eb : Expr} {rest : List Expr} (hK : X.K = G.K) (ha : OkE X G a ea) (hb : OkW X G .And b (eb :: rest)) : OkW X G .And (.and a b) (ea :: eb :: rest) := by
  refine ⟨fun pos => ?_, fun pos => ?_⟩
  · refine pe_imp (pe_andT ha.V (hb.V pos)) fun σ H Q ⟨g, en, F, s, d, s', R, off, he, k⟩ => ?_
    obtain ⟨d1, s1, h1, h⟩ := bnd_some he
    obtain ⟨t, s2, h2', h⟩ := bnd_some h
    obtain ⟨h2, rfl⟩ := lift_some h2'
    refine ⟨g, en, F, s, d1, s2, R, off.l, h1, fun x F' H' f r => ⟨t, truV hK (r.b (s := s2) f.sub (R.step f).fsp (R.step f).fcc) f.sub h2, ?_⟩⟩
    cases t with
    | true =>
      rw [if_pos rfl] at h ⊢
      exact ⟨g, en, F', s2, d, s', R.step f, off.r, h, fun y F2 H2 f2 r2 => k _ _ _ (f.trans f2) r2⟩
    | false =>
      rw [if_neg Bool.false_ne_true] at h ⊢
      obtain ⟨rfl, rfl⟩ := ret_some h
      exact k _ _ _ f r
  · refine pw_imp (pw_and ha.T (hb.W pos)) fun σ H Q ⟨g, en, F, s, d, s', c, R, off, he, ht, k⟩ => ?_
    obtain ⟨d1, s1, h1, h⟩ := bnd_some he
    obtain ⟨t, s2, h2', h⟩ := bnd_some h
    obtain ⟨h2, rfl⟩ := lift_some h2'
    refine oneT R (off_B off.l) h1 h2 fun F' H' f => ?_
    cases t with
    | true =>
      rw [if_pos rfl] at h ⊢
      exact oneT (R.step f) (off_B off.r) h ht fun F2 H2 f2 => k _ _ (f.trans f2)
    | false =>
      rw [if_neg Bool.false_ne_true] at h ⊢
      obtain ⟨rfl, rfl⟩ := ret_some h
      rw [h2] at ht
      cases ht
      exact k _ _ f
theorem okW_or {a b : E} {ea eb : Expr} {rest : List Expr} (hK : X.K = G.K) (ha : OkE X G a ea) (hb : OkW X G .Or b (eb :: rest)) : OkW X G .Or (.or a b) (ea :: eb :: rest) := by
  refine ⟨fun pos => ?_, fun pos => ?_⟩
  · refine pe_imp (pe_orT ha.V (hb.V pos)) fun σ H Q ⟨g, en, F, s, d, s', R, off, he, k⟩ => ?_
    obtain ⟨d1, s1, h1, h⟩ := bnd_some he
    obtain ⟨t, s2, h2', h⟩ := bnd_some h
    obtain ⟨h2, rfl⟩ := lift_some h2'
    refine ⟨g, en, F, s, d1, s2, R, off.l, h1, fun x F' H' f r => ⟨t, truV hK (r.b (s := s2) f.sub (R.step f).fsp (R.step f).fcc) f.sub h2, ?_⟩⟩
    cases t with
    | false =>
      rw [if_neg Bool.false_ne_true] at h ⊢
      exact ⟨g, en, F', s2, d, s', R.step f, off.r, h, fun y F2 H2 f2 r2 => k _ _ _ (f.trans f2) r2⟩
    | true =>
      rw [if_pos rfl] at h ⊢
      obtain ⟨rfl, rfl⟩ := ret_some h
      exact k _ _ _ f r
  · refine pw_imp (pw_or ha.T (hb.W pos)) fun σ H Q ⟨g, en, F, s, d, s', c, R, off, he, ht, k⟩ => ?_
    obtain ⟨d1, s1, h1, h⟩ := bnd_some he
    obtain ⟨t, s2, h2', h⟩ := bnd_some h
    obtain ⟨h2, rfl⟩ := lift_some h2'
    refine oneT R (off_B off.l) h1 h2 fun F' H' f => ?_
    cases t with
    | false =>
      rw [if_neg Bool.false_ne_true] at h ⊢
      exact oneT (R.step f) (off_B off.r) h ht fun F2 H2 f2 => k _ _ (f.trans f2)
    | true =>
      rw [if_pos rfl] at h ⊢
      obtain ⟨rfl, rfl⟩ := ret_some h
      rw [h2] at ht
      cases ht
      exact k _ _ f
theorem okE_of_W {op : BoolOp} {e : E} {es : List Expr} {pos : Pos} (h : OkW X G op e es) (hl : lkB e = lk e) : OkE X G e (.BoolOp op es pos) := ⟨B_of_V (h.V pos) hl, h.V pos, (h.W pos).pt⟩

theorem ok_ite {q a b : E} {eq ea eb : Expr} {pos : Pos} (hK : X.K = G.K) (hq : OkE X G q eq) (ha : OkE X G a ea) (hb : OkE X G b eb) : OkE X G (.ite q a b) (.IfExp eq ea eb pos) := by
  have v : PE X (.IfExp eq ea eb pos) (RdV G (.ite q a b)) := by
    refine pe_imp (pe_ifExp hq.T ha.V hb.V) fun σ H Q ⟨g, en, F, s, d, s', R, off, he, k⟩ => ?_
    obtain ⟨d1, s1, h1, h⟩ := bnd_some he
    obtain ⟨t, s2, h2', h⟩ := bnd_some h
    obtain ⟨h2, rfl⟩ := lift_some h2'
    refine oneT R off.l h1 h2 fun F' H' f => ?_
    cases t with
    | true =>
      rw [if_pos rfl] at h ⊢
      exact ⟨g, en, F', s2, d, s', R.step f, off.r.l, h, fun y F2 H2 f2 r2 => k _ _ _ (f.trans f2) r2⟩
    | false =>
      rw [if_neg Bool.false_ne_true] at h ⊢
      exact ⟨g, en, F', s2, d, s', R.step f, off.r.r, h, fun y F2 H2 f2 r2 => k _ _ _ (f.trans f2) r2⟩
  refine ⟨B_of_V v rfl, v, ⟨fun pins st σ H Q I ⟨g, en, F, s, d, s', c, R, off, he, ht, k⟩ => ?_⟩⟩
  obtain ⟨d1, s1, h1, h⟩ := bnd_some he
  obtain ⟨t, s2, h2', h⟩ := bnd_some h
  obtain ⟨h2, rfl⟩ := lift_some h2'
  show wpAny (model X.prog X.w) X.A (isTrue eq X.env (eval eq X.env) >>= fun z => if z then isTrue ea X.env (eval ea X.env) else isTrue eb X.env (eval eb X.env)) _ _ _
  refine wpAny_bind (thn (hq.T.run pins st σ H _ I (oneT R off.l h1 h2 (k := fun z H1 => if z = true then RdT G a σ H1 Q else RdT G b σ H1 Q) fun F' H' f => ?_)) fun z st2 ⟨H2, I2, q2⟩ => ?_)
  · cases t with
    | true =>
      rw [if_pos rfl] at h ⊢
      exact oneT (R.step f) (off_B off.r.l) h ht fun F2 H2 f2 => k _ _ (f.trans f2)
    | false =>
      rw [if_neg Bool.false_ne_true] at h ⊢
      exact oneT (R.step f) (off_B off.r.r) h ht fun F2 H2 f2 => k _ _ (f.trans f2)
  · cases z with
    | true => exact ha.T.run pins st2 σ H2 Q I2 q2
    | false => exact hb.T.run pins st2 σ H2 Q I2 q2

/-! ### comparisons -/
def Cm.op : Cm → CmpOp
  | .eq => .Eq
  | .ne => .NotEq
  | .lt => .Lt
  | .le => .LtE
  | .gt => .Gt
  | .ge => .GtE
  | .isin => .In
  | .notin => .NotIn
  | .isN => .Is
  | .notN => .IsNot
def rCm (o : D → D → Option Bool) : R2 := fun x y H Q => ∃ F d1 d2 b, Same F H ∧ Rb G.K G.sp G.cc F H x d1 ∧ Rb G.K G.sp G.cc F H y d2 ∧ o d1 d2 = some b ∧ Q (.bl b) H
theorem inTup (hu : X.A.units + 65 < cLine) : OpR X (compareOp .In) (fun x y H Q => ∃ d ds, Dp X.K H x d ∧ Dp X.K H y (.tuple ds) ∧ SeqAt.shaped d = true ∧ SeqAt.shaped (.tuple ds) = true ∧ Q (.bl (ds.any fun z => PyData.eqv z d)) H) := by
  intro pins s σ H x y v u Q I rx ry ⟨d, ds, hd, he, sd, se, q⟩
  obtain ⟨as, r1⟩ := Dp.reads I d x v hd rx
  obtain ⟨bs, r2⟩ := Dp.reads I (.tuple ds) y u he ry
  exact SeqAt.in_tuple_reads r2 r1 (SeqAt.canLay_of_shaped se) (SeqAt.canLay_of_shaped sd) (room_in_shaped sd hu) ⟨.bl _, H, I, rfl, q⟩
theorem notInTup (hu : X.A.units + 65 < cLine) : OpR X (compareOp .NotIn) (fun x y H Q => ∃ d ds, Dp X.K H x d ∧ Dp X.K H y (.tuple ds) ∧ SeqAt.shaped d = true ∧ SeqAt.shaped (.tuple ds) = true ∧ Q (.bl (!ds.any fun z => PyData.eqv z d)) H) := by
  intro pins s σ H x y v u Q I rx ry ⟨d, ds, hd, he, sd, se, q⟩
  obtain ⟨as, r1⟩ := Dp.reads I d x v hd rx
  obtain ⟨bs, r2⟩ := Dp.reads I (.tuple ds) y u he ry
  exact SeqAt.notIn_tuple_reads r2 r1 (SeqAt.canLay_of_shaped se) (SeqAt.canLay_of_shaped sd) (room_in_shaped sd hu) ⟨.bl _, H, I, rfl, q⟩
theorem non_iff {F H : Hp} {x : V} {d : D} (h : Rb G.K G.sp G.cc F H x d) : decide (x = .non) = isNonD d := by
  cases d with
  | none => rw [h.none]; rfl
  | bool b => rw [h.bool]; rfl
  | int i => rw [h.int]; rfl
  | str z => rw [h.str]; rfl
  | list ds => obtain ⟨a, vs, rfl, _⟩ := h; rfl
  | tuple ds => obtain ⟨a, vs, rfl, _⟩ := h.tuple; rfl
  | dict kvs =>
    have h2 : Rp G.K G.sp F x (.dict kvs) := h
    cases h2 <;> rfl
theorem cm_ok (o : Cm) (hK : X.K = G.K) (hu : X.A.units + 65 < cLine) : OpR X (compareOp o.op) (rCm (G := G) (cmp2 o)) := by
  intro pins s σ H x y v u Q I rx ry ⟨F, d1, d2, b, e, hx, hy, ho, k⟩
  have dx : okD d1 = true → Dp X.K H x d1 := fun h => hK ▸ hx.dp e (SeqAt.canLay_of_shaped h)
  have dy : okD d2 = true → Dp X.K H y d2 := fun h => hK ▸ hy.dp e (SeqAt.canLay_of_shaped h)
  have two' : ∀ {c : Bool}, (if (okD d1 && okD d2) = true then some c else none) = some b → okD d1 = true ∧ okD d2 = true ∧ c = b := fun {c} h => by
    obtain ⟨h1, h2⟩ := if_some h
    exact ⟨(Bool.and_eq_true_iff.mp h1).1, (Bool.and_eq_true_iff.mp h1).2, h2⟩
  cases o with
  | eq =>
    by_cases hs : ∃ z1 z2, d1 = .str z1 ∧ d2 = .str z2
    · obtain ⟨z1, z2, rfl, rfl⟩ := hs
      cases ho
      refine op_eq pins s σ H x y v u Q I rx ry ?_
      rw [hx.str, hy.str]
      exact ⟨rfl, by simpa using k⟩
    have ho : (if (okD d1 && okD d2) = true then some (PyData.eqv d1 d2) else none) = some b := by
      rw [← ho]
      cases d1 <;> cases d2 <;> first | rfl | exact absurd ⟨_, _, rfl, rfl⟩ hs
    obtain ⟨h1, h2, rfl⟩ := two' (show (if (okD d1 && okD d2) = true then some (PyData.eqv d1 d2) else none) = some b from ho)
    exact op_eqD (by omega) pins s σ H x y v u Q I rx ry ⟨d1, d2, dx h1, dy h2, h1, h2, k⟩
  | ne =>
    by_cases hs : ∃ z1 z2, d1 = .str z1 ∧ d2 = .str z2
    · obtain ⟨z1, z2, rfl, rfl⟩ := hs
      cases ho
      refine op_ne pins s σ H x y v u Q I rx ry ?_
      rw [hx.str, hy.str]
      exact ⟨rfl, by simpa using k⟩
    have ho : (if (okD d1 && okD d2) = true then some (!PyData.eqv d1 d2) else none) = some b := by
      rw [← ho]
      cases d1 <;> cases d2 <;> first | rfl | exact absurd ⟨_, _, rfl, rfl⟩ hs
    obtain ⟨h1, h2, rfl⟩ := two' (show (if (okD d1 && okD d2) = true then some (!PyData.eqv d1 d2) else none) = some b from ho)
    exact op_neD (by omega) pins s σ H x y v u Q I rx ry ⟨d1, d2, dx h1, dy h2, h1, h2, k⟩
  | lt =>
    unfold cmp2 at ho
    split at ho <;> first | (simp only [reduceCtorEq] at *; done) | skip
    rename_i i j _
    have z := Option.some.inj ho; subst z
    exact op_lt pins s σ H x y v u Q I rx ry ⟨i, j, hx.int, hy.int, k⟩
  | le =>
    unfold cmp2 at ho
    split at ho <;> first | (simp only [reduceCtorEq] at *; done) | skip
    rename_i i j _
    have z := Option.some.inj ho; subst z
    exact op_le pins s σ H x y v u Q I rx ry ⟨i, j, hx.int, hy.int, k⟩
  | gt =>
    unfold cmp2 at ho
    split at ho <;> first | (simp only [reduceCtorEq] at *; done) | skip
    rename_i i j _
    have z := Option.some.inj ho; subst z
    exact op_gt pins s σ H x y v u Q I rx ry ⟨i, j, hx.int, hy.int, k⟩
  | ge =>
    unfold cmp2 at ho
    split at ho <;> first | (simp only [reduceCtorEq] at *; done) | skip
    rename_i i j _
    have z := Option.some.inj ho; subst z
    exact op_ge pins s σ H x y v u Q I rx ry ⟨i, j, hx.int, hy.int, k⟩
  | isin =>
    unfold cmp2 at ho
    split at ho <;> first | (simp only [reduceCtorEq] at *; done) | skip
    · obtain ⟨h1, h2, rfl⟩ := two' ho
      exact op_inD hu pins s σ H x y v u Q I rx ry ⟨_, _, dx h1, dy h2, h1, h2, k⟩
    · obtain ⟨h1, h2, rfl⟩ := two' ho
      exact inTup hu pins s σ H x y v u Q I rx ry ⟨_, _, dx h1, dy h2, h1, h2, k⟩
    · obtain ⟨h1, h2⟩ := if_some ho
      subst h2
      obtain ⟨a, r, rfl, g, er⟩ := hasD_rep hy hx e h1
      cases ry
      exact d_in (by omega) I g rx fun s' I' => ⟨.bl _, H, I', rfl, er ▸ k⟩
  | notin =>
    unfold cmp2 at ho
    split at ho <;> first | (simp only [reduceCtorEq] at *; done) | skip
    · obtain ⟨h1, h2, rfl⟩ := two' ho
      exact op_notInD hu pins s σ H x y v u Q I rx ry ⟨_, _, dx h1, dy h2, h1, h2, k⟩
    · obtain ⟨h1, h2, rfl⟩ := two' ho
      exact notInTup hu pins s σ H x y v u Q I rx ry ⟨_, _, dx h1, dy h2, h1, h2, k⟩
    · obtain ⟨h1, h2⟩ := if_some ho
      subst h2
      obtain ⟨a, r, rfl, g, er⟩ := hasD_rep hy hx e h1
      cases ry
      exact d_notIn (by omega) I g rx fun s' I' => ⟨.bl _, H, I', rfl, er ▸ k⟩
  | isN =>
    unfold cmp2 at ho
    split at ho <;> first | (simp only [reduceCtorEq] at *; done) | skip
    · have e : b = decide (x = .non) := by rw [non_iff hx]; exact (Option.some.inj ho).symm
      exact op_isN pins s σ H x y v u Q I rx ry ⟨hy.none, e ▸ k⟩
    · rw [hx.bool] at rx
      rw [hy.bool] at ry
      exact op_isBl pins s σ H _ _ v u Q I rx ry ⟨_, _, rfl, rfl, (Option.some.inj ho) ▸ k⟩
  | notN =>
    unfold cmp2 at ho
    split at ho <;> first | (simp only [reduceCtorEq] at *; done) | skip
    · have e : b = !decide (x = .non) := by rw [non_iff hx]; exact (Option.some.inj ho).symm
      exact op_notN pins s σ H x y v u Q I rx ry ⟨hy.none, e ▸ k⟩
    · rw [hx.bool] at rx
      rw [hy.bool] at ry
      exact op_notBl pins s σ H _ _ v u Q I rx ry ⟨_, _, rfl, rfl, (Option.some.inj ho) ▸ k⟩
theorem ok_cmp {o : Cm} {a b : E} {ea eb : Expr} {pos : Pos} (hK : X.K = G.K) (hu : X.A.units + 65 < cLine) (hm : behindInMarks o.op eb = false) (ha : PE X ea (RdB G a)) (hb : PE X eb (RdB G b)) : OkE X G (.cmp o a b) (.Compare ea [o.op] [eb] pos) := by
  have v : PE X (.Compare ea [o.op] [eb] pos) (RdV G (.cmp o a b)) := by
    refine pe_imp (pe_cmpR (cm_ok o hK hu) ha hb hm) fun σ H Q ⟨g, en, F, s, d, s', R, off, he, k⟩ => ?_
    obtain ⟨d1, s1, h1, h⟩ := bnd_some he
    obtain ⟨d2, s2, h2, h⟩ := bnd_some h
    obtain ⟨h3, rfl⟩ := lift_some h
    obtain ⟨b', h4, rfl⟩ := Option.map_eq_some_iff.mp h3
    exact two R off h1 h2 fun x y F' H' f r1 r2 => ⟨F', d1, d2, b', f.sub, r1, r2, h4, k _ _ _ f (.bl b')⟩
  refine ⟨B_of_V v rfl, v, ?_⟩
  refine pt_imp (pt_cmpR (cm_ok o hK hu) ha hb hm) fun σ H Q ⟨g, en, F, s, d, s', c, R, off, he, ht, k⟩ => ?_
  obtain ⟨d1, s1, h1, h⟩ := bnd_some he
  obtain ⟨d2, s2, h2, h⟩ := bnd_some h
  obtain ⟨h3, rfl⟩ := lift_some h
  obtain ⟨b', h4, rfl⟩ := Option.map_eq_some_iff.mp h3
  cases ht
  exact two R off h1 h2 fun x y F' H' f r1 r2 => ⟨F', d1, d2, c, f.sub, r1, r2, h4, c, rfl, k _ _ f⟩
theorem ok_chain {o1 o2 : Cm} {a b c : E} {ea eb ec : Expr} {pos : Pos} (hK : X.K = G.K) (hu : X.A.units + 65 < cLine) (hm : lastMarks [o1.op, o2.op] [eb, ec] = false) (ha : PE X ea (RdB G a)) (hb : PE X eb (RdB G b)) (hc : PE X ec (RdB G c)) :
    OkE X G (.chain o1 o2 a b c) (.Compare ea [o1.op, o2.op] [eb, ec] pos) := by
  have core : ∀ {σ : L2.St} {H : Hp} {g : List Nat} {en : En} {F : Hp} {s s' : Src} {d : D} {Q : VK}, Rl G.K G.sp G.cc g en σ F H s → Off g (lkB a ++ (lkB b ++ lkB c)) → evE G.v G.c (.chain o1 o2 a b c) en s = some (d, s') →
      (∀ t F' H', d = .bool t → Fw G.sp G.cc F H F' H' s' → Q (.bl t) H') → tChain (rCm (G := G) (cmp2 o1)) (rCm (G := G) (cmp2 o2)) (RdB G a) (RdB G b) (RdB G c) σ H Q := by
    intro σ H g en F s s' d Q R off he k
    obtain ⟨d1, s1, h1, h⟩ := bnd_some he
    obtain ⟨d2, s2, h2, h⟩ := bnd_some h
    obtain ⟨t, s3, h3', h⟩ := bnd_some h
    obtain ⟨h3, rfl⟩ := lift_some h3'
    have off2 : Off g (lkB a ++ lkB b) := fun i hi => (List.mem_append.mp hi).elim (off.l i) (off.r.l i)
    refine two R off2 h1 h2 fun x y F' H' f r1 r2 => ⟨F', d1, d2, t, f.sub, r1, r2, h3, t, rfl, ?_⟩
    cases t with
    | true =>
      rw [if_pos rfl] at h ⊢
      obtain ⟨d3, s4, h4, h⟩ := bnd_some h
      obtain ⟨h5, rfl⟩ := lift_some h
      obtain ⟨b', h6, rfl⟩ := Option.map_eq_some_iff.mp h5
      exact one (R.step f) off.r.r h4 fun z F2 H2 f2 r3 => ⟨F2, d2, d3, b', f2.sub, r2.step f2, r3, h6, k b' _ _ rfl (f.trans f2)⟩
    | false =>
      rw [if_neg Bool.false_ne_true] at h ⊢
      obtain ⟨rfl, rfl⟩ := ret_some h
      exact k false _ _ rfl f
  have v : PE X (.Compare ea [o1.op, o2.op] [eb, ec] pos) (RdV G (.chain o1 o2 a b c)) := pe_imp (pe_chain (cm_ok o1 hK hu) (cm_ok o2 hK hu) ha hb hc hm) fun σ H Q ⟨g, en, F, s, d, s', R, off, he, k⟩ =>
    core R off he fun t F' H' e f => by subst e; exact k _ _ _ f (.bl t)
  refine ⟨B_of_V v rfl, v, ?_⟩
  refine pt_imp (pt_chain (cm_ok o1 hK hu) (cm_ok o2 hK hu) ha hb hc hm) fun σ H Q ⟨g, en, F, s, d, s', c', R, off, he, ht, k⟩ => ?_
  exact core R off he fun t F' H' e f => by subst e; cases ht; exact ⟨c', rfl, k _ _ f⟩
end
end Fz
/-! FzE: argument lists, displays, items, cuts, built-ins. -/
namespace Fz
open PySem PySem.Spec PyProof.Rows L2
def isStarE : E → Bool
  | .star _ => true
  | _ => false
def isStarX : Expr → Bool
  | .Starred .. => true
  | _ => false
def isSliceX : Expr → Bool
  | .Slice .. => true
  | _ => false
theorem starEach_no {e : Expr} (h : isStarX e = false) (es : List Expr) (env : Env) : starEach (e :: es) env = (false, eval e env) :: starEach es env := by
  cases e <;> first | rfl | cases h
theorem any_no {pos : Pos} {env : Env} : ∀ {es : List Expr}, es.all (fun e => !isStarX e) = true → (backTo pos (starEach es env)).any (·.1) = false
  | [], _ => rfl
  | e :: es, h => by
    have h2 := Bool.and_eq_true_iff.mp (show (!isStarX e && es.all fun e => !isStarX e) = true from h)
    have h3 : isStarX e = false := by simpa using h2.1
    rw [starEach_no h3]
    exact any_no (es := es) h2.2
section
variable {X : Cx} {G : Gx}
theorem evL_cons {v : Bool} {c : Cl} {a : E} (h : isStarE a = false) (r : List E) (en : En) : evL v c (a :: r) en = bnd (evE v c a en) fun x => bnd (evL v c r en) fun ys => ret (x :: ys) := by
  cases a <;> first | rfl | cases h
theorem lkL_cons {a : E} (h : isStarE a = false) (r : List E) : lkL (a :: r) = lk a ++ lkL r := by
  cases a <;> first | rfl | cases h
theorem okA_nil : PA X [] (RdL G []) := pa_imp pa_nil fun σ H Q ⟨g, en, F, s, ds, s', R, off, he, k⟩ => by
  obtain ⟨rfl, rfl⟩ := ret_some he
  exact k _ _ _ (rl_same R) .nil
theorem okA_cons {a : E} {ea : Expr} {es : List E} {exs : List Expr} (h1 : isStarE a = false) (h2 : isStarX ea = false) (ha : PE X ea (RdV G a)) (hr : PA X exs (RdL G es)) : PA X (ea :: exs) (RdL G (a :: es)) := by
  refine pa_imp (pa_cons ha hr (starEach_no h2 _ _)) fun σ H Q ⟨g, en, F, s, ds, s', R, off, he, k⟩ => ?_
  rw [evL_cons h1] at he
  rw [lkL_cons h1] at off
  obtain ⟨d1, s1, q1, h⟩ := bnd_some he
  obtain ⟨ds2, s2, q2, h⟩ := bnd_some h
  obtain ⟨rfl, rfl⟩ := ret_some h
  exact ⟨g, en, F, s, d1, s1, R, off.l, q1, fun x F1 H1 f1 r1 => ⟨g, en, F1, s1, ds2, s', R.step f1, off.r, q2, fun xs F2 H2 f2 r2 => k _ _ _ (f1.trans f2) (.cons (r1.mono f2.fr) r2)⟩⟩
theorem okA_star {a : E} {ea : Expr} {p : Pos} {es : List E} {exs : List Expr} (hK : X.K = G.K) (ha : PE X ea (RdB G a)) (hr : PA X exs (RdL G es)) : PA X (.Starred ea p :: exs) (RdL G (.star a :: es)) := by
  refine pa_imp (StX.pa_star ha hr) fun σ H Q ⟨g, en, F, s, ds, s', R, off, he, k⟩ => ?_
  obtain ⟨d1, s2, q1, h1⟩ := bnd_some he
  obtain ⟨xs1, q2, h2⟩ := bnd_lift h1
  obtain ⟨ds2, s3, q3, h3⟩ := bnd_some h2
  obtain ⟨rfl, rfl⟩ := ret_some h3
  refine one R off.l q1 fun x F1 H1 f1 r1 => ?_
  have fin : ∀ {vs : List V}, RpA G.K G.sp F1 vs xs1 → RdL G es σ H1 fun ys H2 => Q (vs ++ ys) H2 := fun {vs} ra => ⟨g, en, F1, s2, ds2, s', R.step f1, off.r, q3, fun ys F2 H2 f2 r2 => k _ _ _ (f1.trans f2) ((ra.mono f2.fr).append r2)⟩
  cases d1 with
  | list xs =>
    cases q2
    obtain ⟨p', vs, rfl, e1, n1, n2, ra⟩ := r1
    exact ⟨p', vs, rfl, .inr (SqL.of e1), fin ra⟩
  | tuple xs =>
    cases q2
    obtain ⟨p', vs, rfl, e1, ra⟩ := r1.tuple
    exact ⟨p', vs, rfl, .inl (hK ▸ sqT_same f1.sub e1), fin ra⟩
  | _ => cases q2
theorem okBA_nil : PA X [] (RdBL G []) := pa_imp pa_nil fun σ H Q ⟨g, en, F, s, ds, s', R, off, he, k⟩ => by
  obtain ⟨rfl, rfl⟩ := ret_some he
  exact k _ _ _ (rl_same R) trivial
theorem okBA_cons {a : E} {ea : Expr} {es : List E} {exs : List Expr} (h1 : isStarE a = false) (h2 : isStarX ea = false) (ha : PE X ea (RdB G a)) (hr : PA X exs (RdBL G es)) : PA X (ea :: exs) (RdBL G (a :: es)) := by
  refine pa_imp (pa_cons ha hr (starEach_no h2 _ _)) fun σ H Q ⟨g, en, F, s, ds, s', R, off, he, k⟩ => ?_
  rw [evL_cons h1] at he
  obtain ⟨d1, s1, q1, h⟩ := bnd_some he
  obtain ⟨ds2, s2, q2, h⟩ := bnd_some h
  obtain ⟨rfl, rfl⟩ := ret_some h
  exact ⟨g, en, F, s, d1, s1, R, off.l, q1, fun x F1 H1 f1 r1 => ⟨g, en, F1, s1, ds2, s', R.step f1, off.r, q2, fun xs F2 H2 f2 r2 => k _ _ _ (f1.trans f2) ⟨r1.step f2, r2⟩⟩⟩

/-! ### displays -/
theorem ok_lst {es : List E} {exs : List Expr} {pos : Pos} (hK : X.K = G.K) (ha : PA X exs (RdL G es)) : OkN X G (.lst es) (.List exs pos) := by
  refine okN hK (pe_imp (pe_lst ha) fun σ H Q ⟨g, en, F, s, d, s', R, off, he, k⟩ => ?_) rfl fun _ _ => rfl
  obtain ⟨ds, s1, h1, h⟩ := bnd_some he
  obtain ⟨h2, rfl⟩ := lift_some h
  obtain ⟨ds', h3, rfl⟩ := Option.map_eq_some_iff.mp h2
  obtain ⟨hs, rfl⟩ := if_some h3
  refine ⟨g, en, F, s, ds, s', R, off, h1, fun xs F1 H1 f1 r1 => ⟨by rw [r1.length]; exact small_le hs, fun p hp => ?_⟩⟩
  exact new_list f1.sub f1.src (R.step f1).fsp (R.step f1).fcc r1 (fun z F2 H2 f2 hz => k _ _ _ (f1.trans f2) (hz.back f1)) p hp
theorem ok_tup {es : List E} {exs : List Expr} {n : Nat} {pos : Pos} (hK : X.K = G.K) (ha : PA X exs (RdL G es)) : OkN X G (.tup es) (.Tuple exs n pos) := by
  refine okN hK (pe_imp (pe_tup ha) fun σ H Q ⟨g, en, F, s, d, s', R, off, he, k⟩ => ?_) rfl fun _ _ => rfl
  obtain ⟨ds, s1, h1, h⟩ := bnd_some he
  obtain ⟨h2, rfl⟩ := lift_some h
  obtain ⟨ds', h3, rfl⟩ := Option.map_eq_some_iff.mp h2
  obtain ⟨hs, rfl⟩ := if_some h3
  refine ⟨g, en, F, s, ds, s', R, off, h1, fun xs F1 H1 f1 r1 => ⟨by rw [r1.length]; exact small_le hs, fun p hp => ?_⟩⟩
  exact new_tup f1.sub f1.src r1 (fun z F2 H2 f2 hz => k _ _ _ (f1.trans f2) (hz.back f1)) p hp

/-! ### items, cuts -/
theorem atI_rep {K : PySem.W.Frag} {sp : Addr} {F : Hp} {vs : List V} {ds : List D} {i : Int} {d : D} (h : RpA K sp F vs ds) (e : item ds i = some d) : ∃ v, atI vs i = some v ∧ Rp K sp F v d := by
  unfold item atI at *
  rw [h.length]
  obtain ⟨j, e1, e2⟩ := Option.bind_eq_some_iff.mp e
  obtain ⟨v, e3, r⟩ := h.get e2
  exact ⟨v, by rw [e1]; exact e3, r⟩
theorem plainIx_of {b : Expr} (h : isSliceX b = false) : PlainIx b := by
  cases b <;> first | exact fun _ _ => rfl | cases h
theorem ok_idx {a b : E} {ea eb : Expr} {pos : Pos} (hK : X.K = G.K) (hu : X.A.units + 65 < cLine) (hs : isSliceX eb = false) (ha : PE X ea (RdB G a)) (hb : PE X eb (RdB G b)) : OkE X G (.idx a b) (.Subscript ea eb pos) := by
  refine okV hK ⟨fun pins st σ H Q I ⟨g, en, F, s, d, s', R, off, he, k⟩ => ?_⟩ rfl fun _ _ => rfl
  obtain ⟨d1, s1, h1, h⟩ := bnd_some he
  obtain ⟨d2, s2, h2, h⟩ := bnd_some h
  obtain ⟨h3, rfl⟩ := lift_some h
  by_cases hd : ∃ kvs, d1 = .dict kvs
  · obtain ⟨kvs, rfl⟩ := hd
    refine (pe_dget (pos := pos) (by omega) ha hb (plainIx_of hs)).run pins st σ H Q I (two R off h1 h2 fun x y F' H' f r1 r2 => ?_)
    obtain ⟨p, v, rfl, gt, rv⟩ := atD_rep r1 r2 f.sub (show atD kvs d2 = some d from h3)
    exact ⟨p, v, rfl, gt, k _ _ _ f rv⟩
  · refine (pe_ix (pos := pos) ix_seq ha hb (plainIx_of hs)).run pins st σ H Q I (two R off h1 h2 fun x y F' H' f r1 r2 => ?_)
    cases d1 with
    | list xs => cases d2 with
      | int i =>
        obtain ⟨p, vs, rfl, e1, n1, n2, ra⟩ := r1
        obtain ⟨v, e2, rv⟩ := atI_rep ra h3
        exact .inl ⟨p, vs, i, v, rfl, r2.int, SqL.of e1, e2, k _ _ _ f rv⟩
      | _ => cases h3
    | tuple xs => cases d2 with
      | int i =>
        obtain ⟨p, vs, rfl, e1, ra⟩ := r1.tuple
        obtain ⟨v, e2, rv⟩ := atI_rep ra h3
        exact .inr (.inl ⟨p, vs, i, v, rfl, r2.int, hK ▸ sqT_same f.sub e1, e2, k _ _ _ f rv⟩)
      | _ => cases h3
    | dict kvs => exact absurd ⟨_, rfl⟩ hd
    | _ => cases d2 <;> cases h3
theorem cutV_rep {K : PySem.W.Frag} {sp : Addr} {F : Hp} {vs : List V} {ds : List D} (h : RpA K sp F vs ds) (lo hi : Option Int) : RpA K sp F (cutV vs lo hi) (cut ds lo hi) := by
  unfold cutV cut
  rw [h.length]
  exact (h.drop _).take _
/-- a slice's end -/
def RdO (G : Gx) (o : Option E) : TO := fun σ H Q => ∃ g en F s od s' oi, Rl G.K G.sp G.cc g en σ F H s ∧ Off g (lkO o) ∧ evO G.v G.c o en s = some (od, s') ∧ intOpt od = some oi ∧
  ∀ F' H', Fw G.sp G.cc F H F' H' s' → Q oi H'
theorem po_imp {o : Option Expr} {t t' : TO} (h : PO X o t) (i : ∀ σ H Q, t' σ H Q → t σ H Q) : PO X o t' := ⟨fun pins s σ H Q I q => h.run pins s σ H Q I (i _ _ _ q)⟩
theorem okO_none : PO X none (RdO G none) := po_imp po_none fun σ H Q ⟨g, en, F, s, od, s', oi, R, off, he, hi, k⟩ => by
  obtain ⟨rfl, rfl⟩ := ret_some he
  cases hi
  exact k _ _ (rl_same R)
theorem okO_some {e : E} {ex : Expr} (h : PE X ex (RdB G e)) : PO X (some ex) (RdO G (some e)) := po_imp (po_some h) fun σ H Q ⟨g, en, F, s, od, s', oi, R, off, he, hi, k⟩ => by
  obtain ⟨d1, s1, h1, h⟩ := bnd_some he
  obtain ⟨rfl, rfl⟩ := ret_some h
  refine one R off h1 fun x F' H' f r => ?_
  cases d1 with
  | int i => cases hi; exact ⟨i, r.int, k _ _ f⟩
  | _ => cases hi
theorem ok_slc {a : E} {ea : Expr} {lo hi : Option E} {elo ehi : Option Expr} {p2 pos : Pos} (hK : X.K = G.K) (ha : PE X ea (RdB G a)) (hl : PO X elo (RdO G lo)) (hh : PO X ehi (RdO G hi)) : OkN X G (.slc a lo hi) (.Subscript ea (.Slice elo ehi none p2) pos) := by
  refine okN hK (pe_imp (pe_slice (sl_list.or sl_tupA) ha hl hh) fun σ H Q ⟨g, en, F, s, d, s', R, off, he, k⟩ => ?_) rfl fun _ _ => rfl
  obtain ⟨d1, s1, h1, h⟩ := bnd_some he
  obtain ⟨o1, s2, h2, h⟩ := bnd_some h
  obtain ⟨o2, s3, h3, h⟩ := bnd_some h
  obtain ⟨h4, rfl⟩ := lift_some h
  obtain ⟨i, e1, h5⟩ := Option.bind_eq_some_iff.mp h4
  obtain ⟨j, e2, h6⟩ := Option.bind_eq_some_iff.mp h5
  refine one R off.l h1 fun x F1 H1 f1 r1 => ⟨g, en, F1, s1, o1, s2, i, R.step f1, off.r.l, h2, e1, fun F2 H2 f2 => ⟨g, en, F2, s2, o2, s', j, (R.step f1).step f2, off.r.r, h3, e2, fun F3 H3 f3 => ?_⟩⟩
  have f := (f1.trans f2).trans f3
  have r := (r1.step f2).step f3
  have R3 := R.step f
  cases d1 with
  | list xs =>
    cases h6
    obtain ⟨p, vs, rfl, e1, n1, n2, ra⟩ := r
    exact .inl ⟨p, vs, rfl, SqL.of e1, fun q hq => new_list f.sub f.src R3.fsp R3.fcc (cutV_rep ra i j) (fun z F4 H4 f4 hz => k _ _ _ (f.trans f4) (hz.back f)) q hq⟩
  | tuple xs =>
    cases h6
    obtain ⟨p, vs, rfl, e1, ra⟩ := r.tuple
    refine .inr ⟨p, vs, rfl, hK ▸ sqT_same f.sub e1, fun hw => k _ _ _ f ?_, fun _ q hq => new_tup f.sub f.src (cutV_rep ra i j) (fun z F4 H4 f4 hz => k _ _ _ (f.trans f4) (hz.back f)) q hq⟩
    have e3 : cut xs i j = xs := by
      have hl := ra.length
      rw [hl] at hw
      unfold cut
      rw [hw.1, hw.2]
      simp
    show Rp _ _ _ _ (.tuple (cut xs i j))
    rw [e3]
    exact .tup e1 ra
  | _ => cases h6
end
end Fz
/-! FzEt: sum, max, min of a tuple of ints. -/
namespace Fz
open PySem PySem.Spec PyProof.Rows L2
section
variable {prog : Program} {w : World} {A : Around} {E : Value → Shared → Prop} {s : Shared} {l : Addr}
theorem iterT {items : Array Value} {Q : Value → Shared → Prop} (hl : s.heap.IsTuple l items)
    (h : ∀ z : Shared, z = { s with heap := s.heap.push { cls := .type "tuple_iterator", data := .fields #[.ref l, .int 0 0] } } →
      (z.heap.IsTupleIter s.heap.objs.size l 0 ∧ z.heap.IsTuple l items) → (∀ b ∈ [s.heap.objs.size, l], b < z.heap.objs.size) → l ≠ s.heap.objs.size → Q (.ref s.heap.objs.size) z) : wpAny (model prog w) A (pyIter (.ref l)) Q E s := by
  have lt : l < s.heap.objs.size := by obtain ⟨_, e, _⟩ := hl; exact Heap.lt_size e
  refine wpAny_pyIter_tuple hl (h _ rfl ⟨⟨_, Heap.get?_push_size _ rfl, rfl, rfl⟩, hl.at fun o e => Heap.get?_push_of_some _ e⟩ (fun b hb => ?_) (Nat.ne_of_lt lt))
  have sz : (s.heap.push { cls := .type "tuple_iterator", data := .fields #[.ref l, .int 0 0] }).objs.size = s.heap.objs.size + 1 := Heap.size_push ..
  show b < (s.heap.push { cls := .type "tuple_iterator", data := .fields #[.ref l, .int 0 0] }).objs.size
  rw [sz]
  simp only [List.mem_cons, List.not_mem_nil, or_false] at hb
  rcases hb with rfl | rfl
  · exact Nat.lt_succ_self _
  · exact Nat.lt_succ_of_lt lt
theorem keptT {h' : Heap} (hk : ∀ b o, b ∉ [s.heap.objs.size] → (s.heap.push { cls := .type "tuple_iterator", data := .fields #[.ref l, .int 0 0] }).get? b = some o → h'.get? b = some o) :
    ∀ b o, s.heap.get? b = some o → h'.get? b = some o := fun b o e => hk b o (fun hm => by
  have : b = s.heap.objs.size := by simpa using hm
  exact absurd (this ▸ Heap.lt_size e) (Nat.lt_irrefl _)) (Heap.get?_push_of_some _ e)
variable {its : List Value} {ns : List Int} {Q : Value → Shared → Prop}
theorem sumT_raw (hh : A.handled = none) (hl : s.heap.IsTuple l its.toArray) (hi : IntsAre its ns)
    (h : ∀ h' tk t', (∀ b o, s.heap.get? b = some o → h'.get? b = some o) → Q (.int ns.sum t') { s with heap := h', toks := tk }) : wpAny (model prog w) A (call (.builtin "sum") [.ref l]) Q E s := by
  obtain ⟨xs, e⟩ := hi.allInts.items
  have hn : numsOf (intItems xs).toList = ns := by rw [← e]; exact hi.numsOf
  rw [nums_intItems] at hn
  rw [e] at hl
  refine call_sum_walkG (iterT hl fun z ez st hfp hlI => ?_)
  subst ez
  refine ⟨_, _, _, _, _, _, numAt xs, rfl, Walks.tuple (A := A.in1) hh _ l hlI (intItems xs), st, hfp, (fun _ _ => intItems_at), fun h' tk t' hk => ?_⟩
  have q := h h' tk t' (keptT hk)
  have sz : (intItems xs).size = xs.size := by simp [intItems]
  rw [sz, preSum_eq, List.take_of_length_le (by simp), hn]
  exact q
theorem maxT_raw (hh : A.handled = none) (hl : s.heap.IsTuple l its.toArray) (hi : IntsAre its ns) (hne : 0 < ns.length)
    (h : ∀ h' tk M t', (∀ b o, s.heap.get? b = some o → h'.get? b = some o) → M ∈ ns → (∀ a, a ∈ ns → a ≤ M) → Q (.int M t') { s with heap := h', toks := tk }) : wpAny (model prog w) A (call (.builtin "max") [.ref l]) Q E s := by
  obtain ⟨xs, e⟩ := hi.allInts.items
  have hn : numsOf (intItems xs).toList = ns := by rw [← e]; exact hi.numsOf
  rw [nums_intItems] at hn
  subst hn
  rw [e] at hl
  have sz : (intItems xs).size = xs.size := by simp [intItems]
  have hsz : 0 < xs.size := by simpa using hne
  refine call_max_walk (iterT hl fun z ez st hfp hlI => ?_)
  subst ez
  refine ⟨_, _, _, _, _, _, _, rfl, Walks.tuple (A := A.in1) hh _ l hlI (intItems xs), st, hfp, by rw [sz]; exact hsz, CmpOf.ints_gt (numAt xs) (fun _ _ => intItems_at), fun v h' tk hP hk => ?_⟩
  rw [sz] at hP
  obtain ⟨t, rfl⟩ := intItems_at hP
  obtain ⟨h1, h2⟩ := argBest_gt (numAt xs) (xs.size - 1)
  refine h h' tk _ t (keptT hk) ?_ fun a ha => ?_
  · rw [numAt_eq]; exact PySem.getD_mem (by rw [List.length_map, Array.length_toList]; omega)
  · obtain ⟨j, hj, rfl⟩ := mem_getD ha
    rw [List.length_map, Array.length_toList] at hj
    rw [← numAt_eq]; exact h2 j (by omega)
theorem minT_raw (hh : A.handled = none) (hl : s.heap.IsTuple l its.toArray) (hi : IntsAre its ns) (hne : 0 < ns.length)
    (h : ∀ h' tk M t', (∀ b o, s.heap.get? b = some o → h'.get? b = some o) → M ∈ ns → (∀ a, a ∈ ns → M ≤ a) → Q (.int M t') { s with heap := h', toks := tk }) : wpAny (model prog w) A (call (.builtin "min") [.ref l]) Q E s := by
  obtain ⟨xs, e⟩ := hi.allInts.items
  have hn : numsOf (intItems xs).toList = ns := by rw [← e]; exact hi.numsOf
  rw [nums_intItems] at hn
  subst hn
  rw [e] at hl
  have sz : (intItems xs).size = xs.size := by simp [intItems]
  have hsz : 0 < xs.size := by simpa using hne
  refine call_min_walk (iterT hl fun z ez st hfp hlI => ?_)
  subst ez
  refine ⟨_, _, _, _, _, _, _, rfl, Walks.tuple (A := A.in1) hh _ l hlI (intItems xs), st, hfp, by rw [sz]; exact hsz, CmpOf.ints_lt (numAt xs) (fun _ _ => intItems_at), fun v h' tk hP hk => ?_⟩
  rw [sz] at hP
  obtain ⟨t, rfl⟩ := intItems_at hP
  obtain ⟨h1, h2⟩ := argBest_lt (numAt xs) (xs.size - 1)
  refine h h' tk _ t (keptT hk) ?_ fun a ha => ?_
  · rw [numAt_eq]; exact PySem.getD_mem (by rw [List.length_map, Array.length_toList]; omega)
  · obtain ⟨j, hj, rfl⟩ := mem_getD ha
    rw [List.length_map, Array.length_toList] at hj
    rw [← numAt_eq]; exact h2 j (by omega)
end
section
variable {X : Cx}
theorem cr_sumT (hc : X.calm = true) : CallR X (.builtin "sum") (fun vs H Q => ∃ (a : Addr) (ns : List Int), vs = [V.ref a] ∧ SqT X.K H a (ns.map V.int) ∧ Q (.int ns.sum) H) := by
  intro pins s σ H vs us Q I r ⟨a, ns, e, hs, q⟩
  subst e
  obtain ⟨its, rv, hl, _⟩ := I.tuple hs
  rw [Vals.ref1 r]
  exact sumT_raw (I.ok.hd hc) hl rv.ints fun h' tk t' hk => ⟨.int _, H, I.kept hk, ⟨_, rfl⟩, q⟩
theorem cr_maxT (hc : X.calm = true) : CallR X (.builtin "max") (fun vs H Q => ∃ (a : Addr) (ns : List Int), vs = [V.ref a] ∧ SqT X.K H a (ns.map V.int) ∧ 0 < ns.length ∧ ∀ m, m ∈ ns → (∀ y, y ∈ ns → y ≤ m) → Q (.int m) H) := by
  intro pins s σ H vs us Q I r ⟨a, ns, e, hs, hne, q⟩
  subst e
  obtain ⟨its, rv, hl, _⟩ := I.tuple hs
  rw [Vals.ref1 r]
  exact maxT_raw (I.ok.hd hc) hl rv.ints hne fun h' tk m t' hk h1 h2 => ⟨.int _, H, I.kept hk, ⟨_, rfl⟩, q m h1 h2⟩
theorem cr_minT (hc : X.calm = true) : CallR X (.builtin "min") (fun vs H Q => ∃ (a : Addr) (ns : List Int), vs = [V.ref a] ∧ SqT X.K H a (ns.map V.int) ∧ 0 < ns.length ∧ ∀ m, m ∈ ns → (∀ y, y ∈ ns → m ≤ y) → Q (.int m) H) := by
  intro pins s σ H vs us Q I r ⟨a, ns, e, hs, hne, q⟩
  subst e
  obtain ⟨its, rv, hl, _⟩ := I.tuple hs
  rw [Vals.ref1 r]
  exact minT_raw (I.ok.hd hc) hl rv.ints hne fun h' tk m t' hk h1 h2 => ⟨.int _, H, I.kept hk, ⟨_, rfl⟩, q m h1 h2⟩
end
/-- a bool's or an int's truth -/
inductive TrAll : List V → List Bool → Prop
  | nil : TrAll [] []
  | bl (b : Bool) {vs : List V} {bs : List Bool} : TrAll vs bs → TrAll (.bl b :: vs) (b :: bs)
  | int (i : Int) {vs : List V} {bs : List Bool} : TrAll vs bs → TrAll (.int i :: vs) ((i != 0) :: bs)
theorem TrAll.len : ∀ {vs : List V} {bs : List Bool}, TrAll vs bs → vs.length = bs.length
  | _, _, .nil => rfl
  | _, _, .bl _ h => congrArg (· + 1) h.len
  | _, _, .int _ h => congrArg (· + 1) h.len
theorem TrAll.at : ∀ {vs : List V} {bs : List Bool} {i : Nat} {v : V}, TrAll vs bs → vs[i]? = some v → (v = .bl (bs.getD i false)) ∨ ∃ k, v = .int k ∧ bs.getD i false = (k != 0)
  | _, _, 0, v, .bl b _, e => .inl (by cases e; rfl)
  | _, _, 0, v, .int k _, e => .inr ⟨k, by cases e; rfl, rfl⟩
  | _, _, i + 1, v, .bl b h, e => h.at (i := i) (by simpa using e)
  | _, _, i + 1, v, .int k h, e => h.at (i := i) (by simpa using e)
  | _, _, i, v, .nil, e => by simp at e
theorem RpA.trs {K : PySem.W.Frag} {sp : Addr} {F : Hp} : ∀ {vs : List V} {ds : List D} {bs : List Bool}, RpA K sp F vs ds → trsOf ds = some bs → TrAll vs bs
  | _, _, _, .nil, e => by simp [trsOf] at e; subst e; exact .nil
  | _, _, ns, .cons (.bl b) a, e => by
    obtain ⟨ms, e1, rfl⟩ := Option.map_eq_some_iff.mp (show (trsOf _).map _ = some ns from e)
    exact .bl b (RpA.trs a e1)
  | _, _, ns, .cons (.int i) a, e => by
    obtain ⟨ms, e1, rfl⟩ := Option.map_eq_some_iff.mp (show (trsOf _).map _ = some ns from e)
    exact .int i (RpA.trs a e1)
  | _, _, ns, .cons .non a, e => nomatch e
  | _, _, ns, .cons (.str _) a, e => nomatch e
  | _, _, ns, .cons (.lst _ _) a, e => nomatch e
  | _, _, ns, .cons (.tup _ _) a, e => nomatch e
  | _, _, ns, .cons .src a, e => nomatch e
theorem truth_of {prog : Program} {w : World} {A : Around} {vs : List V} {its : List Value} {bs : List Bool} (rv : Vals vs its) (h : TrAll vs bs) : TruthOf prog w A (fun i v => its.toArray[i]? = some v) (fun i => bs.getD i false) := fun i v s Q E hv hq => by
  have hv2 : its[i]? = some v := by simpa using hv
  have hlt : i < vs.length := by rw [rv.length]; exact (List.getElem?_eq_some_iff.mp hv2).1
  obtain ⟨u, hu, ru⟩ := rv.get (show vs[i]? = some vs[i] by simp [hlt])
  have uv : u = v := by rw [hv2] at hu; exact (Option.some.inj hu).symm
  subst uv
  have hq2 : Q (bs.getD i false) s := hq
  rcases h.at (show vs[i]? = some vs[i] by simp [hlt]) with e | ⟨k, e, eb⟩
  · rw [e] at ru
    cases ru
    exact wpAny_truthy_bool hq2
  · rw [e] at ru
    obtain ⟨t, rfl⟩ := ru
    rw [eb] at hq2
    exact truthy_int hq2
section
variable {X : Cx}
def rTr (K : PySem.W.Frag) (f : List Bool → Bool) : List V → Hp → VK → Prop := fun xs H Q => ∃ (a : Addr) (vs : List V) (bs : List Bool), xs = [V.ref a] ∧ (SqL K H a vs ∨ SqT K H a vs) ∧ TrAll vs bs ∧ Q (.bl (f bs)) H
theorem cr_anyG (hc : X.calm = true) : CallR X (.builtin "any") (rTr X.K fun bs => bs.any id) := by
  intro pins s σ H xs us Q I r ⟨a, vs, bs, e, hs, ht, q⟩
  subst e
  rw [Vals.ref1 r]
  rcases hs with hs | hs
  · obtain ⟨its, rv, hl, _⟩ := I.list hs
    refine call_any_walk (iter_any hl.isList fun z ez st hne => ?_)
    subst ez
    refine ⟨_, _, _, _, _, _, _, rfl, Walks.list (A := X.A.in1) (I.ok.hd hc) _ a hne its.toArray, st, truth_of rv ht, fun h' tk hk => ⟨.bl _, H, I.kept fun b o eo => hk b o (fun hm => ?_) (Heap.get?_push_of_some _ eo), ?_, q⟩⟩
    · exact absurd (Heap.lt_size eo) (by rw [List.mem_singleton.mp hm]; exact Nat.lt_irrefl _)
    · show Value.bool _ = Value.bool (bs.any id)
      rw [← L2.any_range, List.size_toArray, ← rv.length, ht.len]
  · obtain ⟨its, rv, hl, _⟩ := I.tuple hs
    refine call_any_walk (iterT hl fun z ez st _ hne => ?_)
    subst ez
    refine ⟨_, _, _, _, _, _, _, rfl, Walks.tuple (A := X.A.in1) (I.ok.hd hc) _ a hne its.toArray, st, truth_of rv ht, fun h' tk hk => ⟨.bl _, H, I.kept (keptT hk), ?_, q⟩⟩
    show Value.bool _ = Value.bool (bs.any id)
    rw [← L2.any_range, List.size_toArray, ← rv.length, ht.len]
theorem cr_allG (hc : X.calm = true) : CallR X (.builtin "all") (rTr X.K fun bs => bs.all id) := by
  intro pins s σ H xs us Q I r ⟨a, vs, bs, e, hs, ht, q⟩
  subst e
  rw [Vals.ref1 r]
  rcases hs with hs | hs
  · obtain ⟨its, rv, hl, _⟩ := I.list hs
    refine call_all_walk (iter_any hl.isList fun z ez st hne => ?_)
    subst ez
    refine ⟨_, _, _, _, _, _, _, rfl, Walks.list (A := X.A.in1) (I.ok.hd hc) _ a hne its.toArray, st, truth_of rv ht, fun h' tk hk => ⟨.bl _, H, I.kept fun b o eo => hk b o (fun hm => ?_) (Heap.get?_push_of_some _ eo), ?_, q⟩⟩
    · exact absurd (Heap.lt_size eo) (by rw [List.mem_singleton.mp hm]; exact Nat.lt_irrefl _)
    · show Value.bool _ = Value.bool (bs.all id)
      rw [← L2.all_range, List.size_toArray, ← rv.length, ht.len]
  · obtain ⟨its, rv, hl, _⟩ := I.tuple hs
    refine call_all_walk (iterT hl fun z ez st _ hne => ?_)
    subst ez
    refine ⟨_, _, _, _, _, _, _, rfl, Walks.tuple (A := X.A.in1) (I.ok.hd hc) _ a hne its.toArray, st, truth_of rv ht, fun h' tk hk => ⟨.bl _, H, I.kept (keptT hk), ?_, q⟩⟩
    show Value.bool _ = Value.bool (bs.all id)
    rw [← L2.all_range, List.size_toArray, ← rv.length, ht.len]
end
end Fz
/-! FzEr: a tuple turned round, sorted ints of a tuple, isinstance, the place of a value. -/
namespace Fz
open PySem PySem.Spec PyProof.Rows L2
section
variable {prog : Program} {w : World} {A : Around} {E : Value → Shared → Prop} {s : Shared}
theorem back_places (n : Nat) : Builtin.Slice.slicePlaces ((n : Int) - 1) (-1) (-1) = n := by
  unfold Builtin.Slice.slicePlaces
  rw [if_neg (by decide)]
  by_cases hn : (n : Int) - 1 > -1
  · rw [if_pos hn, show -(-1 : Int) = 1 from rfl, Int.ediv_one]
    omega
  · rw [if_neg hn]
    omega
theorem back_pick (xs : Array Value) : ((List.range xs.size).filterMap fun (m : Nat) => xs[(((xs.size : Int) - 1) + (m : Int) * (-1)).toNat]?).toArray = xs.toList.reverse.toArray := by
  have e0 := PySem.W.krv_pick xs
  unfold slicePick at e0
  rw [← e0]
  have e1 : sliceBounds none none (some (-1)) xs.size = ((xs.size : Int) - 1, -1, -1) := by
    simp [sliceBounds]
  rw [e1]
  show _ = ((sliceRange ((xs.size : Int) - 1) (-1) (-1)).filterMap fun x => xs[x]?).toArray
  rw [PySem.W.krv_sliceRange, List.filterMap_map]
  congr 1
  have all : ∀ (l : List Nat), (∀ m ∈ l, m < xs.size) → l.filterMap (fun (m : Nat) => xs[(((xs.size : Int) - 1) + (m : Int) * (-1)).toNat]?) = l.filterMap ((fun x => xs[x]?) ∘ fun k => xs.size - 1 - k) := by
    intro l
    induction l with
    | nil => intro _; rfl
    | cons m l ih =>
      intro hl
      have hm := hl m (List.mem_cons_self ..)
      have e : xs[(((xs.size : Int) - 1) + (m : Int) * (-1)).toNat]? = ((fun x => xs[x]?) ∘ fun k => xs.size - 1 - k) m := by
        show _ = xs[xs.size - 1 - m]?
        congr 1
        omega
      rw [List.filterMap_cons, List.filterMap_cons, e, ih fun x hx => hl x (List.mem_cons_of_mem _ hx)]
  exact all _ fun m hm => List.mem_range.mp hm
theorem back_applied {sl : Addr} {vs : Value} {n : Nat} {Q : Int × Int × Nat → Shared → Prop} (hs : s.heap.IsSliceOf sl .none .none vs) (ps : IsPart vs (some (-1))) (h : Q ((n : Int) - 1, -1, n) s) :
    wpAny (model prog w) A (Builtin.Slice.sliceApplied (.ref sl) (pure (n : Int))) Q E s := by
  obtain ⟨o, ho, _, hd⟩ := hs
  unfold Builtin.Slice.sliceApplied Builtin.Slice.sliceFields
  refine wpAny_bind (wpAny_bind (wpAny_field ho hd (x := .none) rfl (wpAny_bind (wpAny_field ho hd (x := .none) rfl (wpAny_bind (wpAny_field ho hd (x := vs) rfl (wpAny_pure ?_)))))))
  refine wpAny_bind (HT.slicePart_ ps ?_)
  show wpAny (model prog w) A (if ((-1 : Int) == 0) = true then _ else _) Q E s
  rw [if_neg (by decide)]
  refine wpAny_bind (PyProof.Rows.slicePart_none (wpAny_bind (PyProof.Rows.slicePart_none (wpAny_bind (wpAny_pure ?_)))))
  show wpAny (model prog w) A (pure ((n : Int) - 1, (-1 : Int), Builtin.Slice.slicePlaces ((n : Int) - 1) (-1) (-1))) Q E s
  rw [back_places]
  exact wpAny_pure h
theorem back_tuple {t sl : Addr} {items : Array Value} {vs : Value} {Q : Value → Shared → Prop} (ht : IsTup s.heap t items) (hs : s.heap.IsSliceOf sl .none .none vs) (ps : IsPart vs (some (-1)))
    (h : Q (.ref s.heap.objs.size) { s with heap := s.heap.push { cls := .type "tuple", data := .seq items.toList.reverse.toArray } }) (hz : items.size ≤ sizeLine) : wpAny (model prog w) A (getItem (.ref t) (.ref sl)) Q E s := by
  have hok : PySem.sizeOk (.seq items.toList.reverse.toArray) := by
    show items.toList.reverse.toArray.size ≤ sizeLine
    rw [List.size_toArray, List.length_reverse, Array.length_toList]
    exact hz
  obtain ⟨o, ho, hc, hd⟩ := id hs
  have ty : s.TypeIs (.ref sl) "slice" := ⟨o, ho, hc⟩
  unfold getItem
  try with_reducible refine wpAny_holding ?_
  first | (refine wpAny_bind (wpAny_pure ?_)) | skip
  refine wpAny_bind (wpAny_sequenceKey ht.typeIs (by decide) (wpAny_bind (wpAny_callSpecial?_slot (name := Str.ofString "__getitem__") ht.typeIs PyProof.Rows.slot_tuple_getitem
    (wpAny_call_entry PyProof.Rows.slot_tuple_getitem ht.typeIs PyProof.Rows.entry_tuple_getitem ?_ (PyProof.Rows.args_tuple_getitem _ _)))))
  show wpAny (model prog w) _ (Builtin.Tuple.tupleItemsOf (.ref t) >>= _) _ _ s
  refine wpAny_bind (tupleItemsOf_ ht (wpAny_bind (wpAny_typeOf ty ?_)))
  rw [if_pos (by decide)]
  refine wpAny_bind (back_applied (n := items.size) hs ps ?_)
  have no : ¬ ((((items.size : Int) - 1) == 0 && (-1 : Int) == 1 && items.size == items.size) = true) := by simp
  show wpAny (model prog w) A.in1 (if ((((items.size : Int) - 1) == 0 && (-1 : Int) == 1 && items.size == items.size) = true) then _ else _) _ _ s
  rw [if_neg no, back_pick]
  first
    | exact wpAny_bind (m := Builtin.Tuple.tupleExact _) (wpAny_newObj_type (wpAny_pure ⟨_, rfl, wpAny_pure h⟩) hok)
    | exact wpAny_bind (m := Builtin.Tuple.tupleExact _) (wpAny_newObj_type (wpAny_bind (wpAny_pure (wpAny_pure ⟨_, rfl, wpAny_pure h⟩))) hok)
    | exact wpAny_bind (wpAny_bind (m := Builtin.Tuple.tupleExact _) (wpAny_newObj_type (wpAny_pure (wpAny_pure ⟨_, rfl, wpAny_pure h⟩)) hok))
    | exact wpAny_bind (wpAny_bind (m := Builtin.Tuple.tupleExact _) (wpAny_newObj_type (wpAny_pure ⟨_, rfl, wpAny_pure h⟩) hok))
theorem collectT {l : Addr} {vs : List Value} {Q : List Value → Shared → Prop} (hl : s.heap.IsTuple l vs.toArray)
    (h : Q vs { s with heap := (s.heap.push (seqObj "list" #[] 0)).update s.heap.objs.size (Obj.mapSeq (· ++ vs.toArray)) }) (hz : vs.length ≤ sizeLine) : wpAny (model prog w) A (collect (.ref l)) Q E s := by
  obtain ⟨o, ho, hc, n, hd⟩ := id hl
  have ho' : (s.heap.push (seqObj "list" #[] 0)).get? l = some o := Heap.get?_push_of_some _ ho
  have own : (s.heap.push (seqObj "list" #[] 0)).get? s.heap.objs.size = some (seqObj "list" #[] 0) := Heap.get?_push_size _ rfl
  unfold collect
  refine wpAny_bind (wpAny_runValue (codeAny_builtin entry_proto_collect' ?_))
  show wpAny (model prog w) _ (do again (.builtin "list.__iadd__" ⟨[← newList [], .ref l], []⟩)) _ _ s
  refine wpAny_bind (wpAny_newList (wpAny_pure ⟨Code.quiet_builtin _ (by decide +kernel), codeAny_builtin entry_list_iadd' ?_⟩))
  show wpAny (model prog w) _ (Builtin.List.listExtendWith (.ref s.heap.objs.size) (.ref l) (.ref s.heap.objs.size)) _ _ { s with heap := s.heap.push (seqObj "list" #[] 0) }
  unfold Builtin.List.listExtendWith
  refine wpAny_bind (wpAny_typeOf (T := "tuple") ⟨o, ho', hc⟩ ?_)
  have tt : (Value.type "tuple" == Value.type "tuple") = true := by rfl
  rw [if_pos (by rw [tt, Bool.or_true])]
  refine wpAny_bind (listItems_at ho' hd (wpAny_bind (listItems_at (xs := #[]) (n := 0) own rfl ?_)))
  rw [if_neg (by simp)]
  have room : (#[] ++ vs.toArray).size ≤ sizeLine + 1 := by
    simp only [Array.size_append, List.size_toArray, List.length_nil]; omega
  refine wpAny_bind (listUpdate_at (xs := #[]) (n := 0) own rfl (wpAny_pure ?_) (Nat.zero_le _) room)
  show wpAny (model prog w) A (do let o ← load s.heap.objs.size
                                  match o.data with | .seq xs _ => pure xs.toList | _ => unsupported "internal:collect") Q E { s with heap := (s.heap.push (seqObj "list" #[] 0)).update s.heap.objs.size (Obj.mapSeq (· ++ vs.toArray)) }
  refine wpAny_bind (wpAny_load (get?_update_seq own _) ?_)
  show wpAny (model prog w) A (pure ((#[] : Array Value) ++ vs.toArray).toList) Q E _
  have e : ((#[] : Array Value) ++ vs.toArray).toList = vs := by simp
  rw [e]
  exact wpAny_pure h
theorem sortedT_ord {l : Addr} {vs : List Value} {ltv : Value → Value → Bool} {Q : Value → Shared → Prop} (O : SrtO.Swo ltv) (hl : s.heap.IsTuple l vs.toArray) (hz : vs.length ≤ sizeLine)
    (hS : 2 ≤ vs.length → ∀ (h₁ : Heap) (a : Addr), h₁.get? a = some (seqObj "list" vs.toArray 0) → SrtO.SortableO prog w A.in1.in1 { s with heap := h₁ } a vs ltv)
    (h : ∀ out : List Value, SrtO.Srtd ltv out → SrtO.Stb ltv out vs → Q (.ref (s.heap.objs.size + 1)) { s with heap := sortedAll s.heap vs out.toArray }) : wpAny (model prog w) A (call (.builtin "sorted") [.ref l]) Q E s := by
  refine Calls.call_function_entry kind_sorted plain_sorted entry_sorted (args_sorted1 _) ?_
  unfold Builtin.«sorted»
  refine wpAny_bind (m := checkCount "sorted" 1 1 _) (wpAny_pure (wpAny_bind (collectT hl (wpAny_bind (wpAny_newList ?_ hz)) hz)))
  have size1 : ((s.heap.push (seqObj "list" #[] 0)).update s.heap.objs.size (Obj.mapSeq (· ++ vs.toArray))).objs.size = s.heap.objs.size + 1 := by rw [Heap.size_update, size_push']
  have newL : (((s.heap.push (seqObj "list" #[] 0)).update s.heap.objs.size (Obj.mapSeq (· ++ vs.toArray))).push (seqObj "list" vs.toArray 0)).get? (s.heap.objs.size + 1) = some (seqObj "list" vs.toArray 0) := by
    rw [← size1]; exact Heap.get?_push_size _ rfl
  show wpAny (model prog w) _ _ _ _ { s with heap := ((s.heap.push (seqObj "list" #[] 0)).update s.heap.objs.size (Obj.mapSeq (· ++ vs.toArray))).push (seqObj "list" vs.toArray 0) }
  rw [size1]
  exact wpAny_bind (wpAny_holding (wpAny_call_entry slot_list_sort ⟨_, newL, rfl⟩ entry_list_sort (SrtO.list_sort_ord O newL hz (fun h2 => hS h2 _ _ newL) fun out hs hb => ⟨_, rfl, wpAny_pure ⟨_, rfl, h out hs hb⟩⟩) (args_list_sort _)))
end
section
variable {X : Cx} {G : Gx}
/-- t[::-1], t a tuple -/
def tRevT (K : PySem.W.Frag) (te : TE) : TE := fun σ H Q => te σ H fun x H1 => ∃ a xs, x = .ref a ∧ SqT K H1 a xs ∧ ∀ p, H1 p = none → Q (.ref p) (upd H1 p (.tup xs.reverse))
theorem pe_revT {e : Expr} {te : TE} {k : Nat} {p1 p2 p3 pos : Pos} (he : PE X e te) : PE X (.Subscript e (.Slice none none (some (.UnaryOp .USub (.Constant (.int 1) k p1) p2)) p3) pos) (tRevT X.K te) := by
  refine ⟨fun pins s σ H Q I h => Subscript_ (thn (he.run pins s σ H _ I h) fun v s1 ⟨x, H1, I1, r1, a, xs, ex, hx, q⟩ => ?_)⟩
  subst ex
  cases r1
  have st : PO X (some (.UnaryOp .USub (.Constant (.int 1) k p1) p2)) (tPart (tUn (rU fun i => .int (-i)) (tC (.int 1)))) := po_some (pe_un un_neg pe_int)
  refine wpAny_Slice (thn (po_none.run pins s1 σ H1 (fun o H2 => o = none ∧ H2 = H1) I1 ⟨rfl, rfl⟩) fun vl s2 ⟨l, H2, I2, pl, el, e2⟩ => ?_)
  subst el e2
  refine thn (po_none.run pins s2 σ H2 (fun o H3 => o = none ∧ H3 = H2) I2 ⟨rfl, rfl⟩) fun vu s3 ⟨u, H3, I3, pu, eu, e3⟩ => ?_
  subst eu e3
  refine thn (st.run pins s3 σ H3 (fun o H4 => o = some (-1) ∧ H4 = H3) I3 ⟨1, rfl, -1, rfl, rfl, rfl⟩) fun vs s4 ⟨o, H4, I4, ps, eo, e4⟩ => ?_
  subst eo e4
  have J : Inv X pins σ H4 { s4 with heap := s4.heap.push { cls := .type "slice", data := .fields #[vl, vu, vs] } } := I4.kept (t' := s4.toks) fun b ob z => Heap.get?_push_of_some _ z
  obtain ⟨its, r, ht, hz⟩ := J.tuple hx
  have len := r.length
  have vn : vl = .none := by cases pl; rfl
  have un : vu = .none := by cases pu; rfl
  subst vn un
  show wpAny (model X.prog X.w) X.A (subscriptTail e (.Slice none none (some (.UnaryOp .USub (.Constant (.int 1) k p1) p2)) p3) (.ref a) (.ref s4.heap.objs.size)) (EP X pins σ Q) X.xe { s4 with heap := s4.heap.push { cls := .type "slice", data := .fields #[.none, .none, vs] } }
  refine tail_any (ops := [.ref a, .ref s4.heap.objs.size]) ht.typeIs (PyProof.Rows.slot_tuple_getitem.lookup) ?_ (by with_unfolding_all rfl)
  refine back_tuple ht (Heap.IsSliceOf.new _ .none .none vs) ps ?_ (by rw [List.size_toArray]; omega)
  refine ⟨.ref _, _, J.laid (t' := s4.toks) (o := .tup xs.reverse) (fun b ob z => Heap.get?_push_of_some _ z) (Nat.le_refl _) ?_, rfl, q _ (J.hok.fresh (Nat.le_refl _))⟩
  exact ⟨by rw [List.length_reverse]; exact hz, _, r.reverse, _, Heap.get?_push_size _ rfl, rfl, _, rfl⟩
theorem ok_revL {a : E} {ea : Expr} {kk : Nat} {p1 p2 p3 pos : Pos} (hK : X.K = G.K) (ha : PE X ea (RdB G a)) :
    OkN X G (.rev a) (.Subscript ea (.Slice none none (some (.UnaryOp .USub (.Constant (.int 1) kk p1) p2)) p3) pos) := by
  refine okN hK ⟨fun pins st σ H Q I ⟨g, en, F, s, d, s', R, off, he, k⟩ => ?_⟩ rfl fun _ _ => rfl
  obtain ⟨d1, s1, h1, h⟩ := bnd_some he
  obtain ⟨h4, rfl⟩ := lift_some h
  cases d1 with
  | list xs =>
    cases h4
    refine (pe_revL ha).run pins st σ H Q I (one R off h1 fun x F1 H1 f r => ?_)
    obtain ⟨p, vs, rfl, e1, n1, n2, ra⟩ := r
    exact ⟨p, vs, rfl, SqL.of e1, fun q hq => new_list f.sub f.src (R.step f).fsp (R.step f).fcc ra.rev (fun z F4 H4 f4 hz => k _ _ _ (f.trans f4) (hz.back f)) q hq⟩
  | tuple xs =>
    cases h4
    refine (pe_revT ha).run pins st σ H Q I (one R off h1 fun x F1 H1 f r => ?_)
    obtain ⟨p, vs, rfl, e1, ra⟩ := r.tuple
    exact ⟨p, vs, rfl, hK ▸ sqT_same f.sub e1, fun q hq => new_tup f.sub f.src ra.rev (fun z F4 H4 f4 hz => k _ _ _ (f.trans f4) (hz.back f)) q hq⟩
  | _ => cases h4
/-- sorted(t), t a tuple of ints -/
def rSortIT (K : PySem.W.Frag) : List V → Hp → VK → Prop := fun vs H Q => ∃ (a : Addr) (ns : List Int), vs = [V.ref a] ∧ SqT K H a (ns.map V.int) ∧
  ∀ (ns' : List Int) (p : Addr), ns'.Perm ns → ns'.Pairwise (· ≤ ·) → H p = none → Q (.ref p) (upd H p (.lst (ns'.map V.int)))
theorem cr_sortIT : CallR X (.builtin "sorted") (rSortIT X.K) := by
  intro pins s σ H vs us Q I r ⟨a, ns, ev, hs, q⟩
  subst ev
  obtain ⟨its, rv, hl, hz⟩ := I.tuple hs
  rw [Vals.ref1 r]
  have hi := rv.ints
  refine sortedT_ord SrtO.swo_int hl (by rw [← rv.length]; exact hz) (fun h2 h₁ a' _ => SrtO.ints_sortable hi h2) fun out h1 h2 => ?_
  obtain ⟨k1, k2, k3⟩ := SrtO.ints_out hi h1 h2
  obtain ⟨ep, at_⟩ := PyProof.Rows.sortedAll_at s.heap its out.toArray
  have len : ((out.map SrtO.iv).map V.int).length ≤ sizeLine := by rw [List.length_map, k2.length_eq]; rw [List.length_map] at hz; exact hz
  exact ⟨.ref _, upd H (s.heap.objs.size + 1) (.lst ((out.map SrtO.iv).map V.int)), I.laid (t' := s.toks) (fun _ _ => PyProof.Rows.sortedAll_old) (Nat.le_succ _) ⟨len, out, ep, vals_of_ints k1, at_⟩, rfl, q _ _ k2 k3 (I.hok.fresh (Nat.le_succ _))⟩
/-! ### isinstance -/
def Ty.name : Ty → String
  | .int => "int"
  | .bool => "bool"
  | .str => "str"
  | .list => "list"
  | .tuple => "tuple"
  | .dict => "dict"
def tyOf : D → String
  | .none => "NoneType"
  | .bool _ => "bool"
  | .int _ => "int"
  | .str _ => "str"
  | .list _ => "list"
  | .tuple _ => "tuple"
  | .dict _ => "dict"
theorem tyOf_kit (d : D) (t : Ty) (h : t ≠ .dict) : kitB (tyOf d) t.name = some (isTy d t) := by
  cases d <;> cases t <;> first | exact absurd rfl h | (simp only [tyOf, Ty.name, isTy]; decide +kernel)
theorem tyx_of {F H : Hp} {s : Src} {x : V} {d : D} (hK : X.K = G.K) (r : Rb G.K G.sp G.cc F H x d) (e : Same F H) (q : SrcAt G.sp G.cc H s) : TyX X.K H x (.type (tyOf d)) := by
  cases d with
  | none => rw [r.none]; exact .base .non
  | bool b => rw [r.bool]; exact .base (.bl b)
  | int i => rw [r.int]; exact .base (.int i)
  | str z => rw [r.str]; exact .base (.str z)
  | list ds =>
    obtain ⟨a, vs, rfl, h1, _⟩ := r
    exact .base (.lst h1)
  | tuple ds =>
    obtain ⟨a, vs, rfl, h1, _⟩ := r.tuple
    rcases sqT_same e h1 with (h | ⟨o, h⟩) | ⟨o, its, n, h, hc, _⟩
    · exact .base (.tup h)
    · exact .fTuple h
    · exact .kTuple (hK ▸ h) hc
  | dict kvs =>
    cases (show Rp G.K G.sp F x (.dict kvs) from r) with
    | src => exact .base (.dK q.1)
    | dct h _ => exact .base (.dT (e _ _ h))
    | dck h _ => exact .base (.dK (e _ _ h))
theorem ok_isi {a : E} {t : Ty} {ea : Expr} {p p2 pos : Pos} {y : Str} (hK : X.K = G.K) (ht : t ≠ .dict) (hy : y = Str.ofString t.name) (hg : Gl X "isinstance") (hm : X.mg "isinstance" = none) (hg2 : Gl X y) (hm2 : X.mg y = none) (hs : isStarX ea = false) (ha : PE X ea (RdB G a)) :
    OkE X G (.isi a [t]) (.Call (.Name "isinstance" p) [ea, .Name y p2] [] pos) := by
  have pt : PE X (.Name y p2) (tC (.ty t.name)) := pe_bltn hg2 hm2 (u := .type t.name) (by subst hy; cases t <;> decide +kernel) rfl (by subst hy; cases t <;> decide) (by subst hy; cases t <;> decide)
  refine okV hK (pe_imp (pe_callB (id := "isinstance") call_isi hg hm (by decide +kernel) (pa_cons ha (pa_cons pt pa_nil (by rfl)) (starEach_no hs _ _)) (by decide) (by decide) (starEach_no hs _ _) (by rfl)) fun σ H Q ⟨g, en, F, s, d, s', R, off, he, k⟩ => ?_) rfl fun _ _ => rfl
  obtain ⟨d1, s1, h1, h2⟩ := bnd_some he
  obtain ⟨rfl, rfl⟩ := ret_some h2
  refine one R off h1 fun x F1 H1 f r => ?_
  have e : ([t].any fun t => isTy d1 t) = isTy d1 t := by simp
  rw [e] at k
  exact ⟨x, .ty t.name, .type (tyOf d1), .type t.name, isTy d1 t, rfl, .ty _, tyx_of hK r f.sub f.src, kit_ty (tyOf_kit d1 t ht), k _ F1 H1 f (.bl _)⟩
/-! ### the place of a value in a list -/
theorem if_some2 {α : Type} {c : Bool} {x : Option α} {b : α} (h : (if c = true then x else none) = some b) : c = true ∧ x = some b := by
  cases c with
  | true => exact ⟨rfl, h⟩
  | false => cases h
theorem ok_index {a b : E} {nx : Str} {np : Pos} {eb : Expr} {apos cpos : Pos} (hK : X.K = G.K) (hu : X.A.units + 65 < cLine) (hs : isStarX eb = false) (hline : (apos.endLine == cpos.line) = true) (ha : PE X (.Name nx np) (RdB G a)) (hb : PE X eb (RdB G b)) :
    OkE X G (.meth .index a b) (.Call (.Attribute (.Name nx np) "index" apos) [eb] [] cpos) := by
  have pe := pe_bm (cpos := cpos) (apos := apos) PySem.F.plainAttrs_list PySem.F.slot_list_index PySem.F.type_list_index (mt_indexD (X := X) hu) ha (pa_cons hb pa_nil (starEach_no hs _ _)) (by rfl) (by rw [starEach_no hs]; rfl) hline (starEach_no hs _ _) (by rfl)
  refine okV hK (pe_imp pe fun σ H Q ⟨g, en, F, s, d, s', R, off, he, k⟩ => ?_) rfl fun _ _ => rfl
  obtain ⟨d1, s1, h1, h⟩ := bnd_some he
  obtain ⟨d2, s2, h2, h⟩ := bnd_some h
  obtain ⟨h3, rfl⟩ := lift_some h
  refine one R off.l h1 fun x F1 H1 f1 r1 => ?_
  cases d1 with
  | list xs =>
    have h3 : (if okD d2 && okD (.list xs) then (xs.findIdx? fun z => PyData.eqv z d2).map fun j => PyData.int (j : Nat) else none) = some d := h3
    obtain ⟨ok, h4⟩ := if_some2 h3
    rw [Bool.and_eq_true] at ok
    obtain ⟨j, hj, rfl⟩ := Option.map_eq_some_iff.mp h4
    obtain ⟨p, vs, rfl, e1, n1, n2, ra⟩ := id r1
    refine ⟨.inl ⟨rfl, _, SqL.of e1⟩, g, en, F1, s1, d2, s', R.step f1, off.r, h2, fun y F2 H2 f2 r2 => ?_⟩
    obtain ⟨hlt, hz, hno⟩ := List.findIdx?_eq_some_iff_getElem.mp hj
    have c1 := SeqAt.canLay_of_shaped ok.2
    refine ⟨p, y, d2, xs, j, xs[j], rfl, rfl, hK ▸ (r1.step f2).dp f2.sub c1, hK ▸ r2.dp f2.sub (SeqAt.canLay_of_shaped ok.1), ok.2, ok.1, List.getElem?_eq_getElem hlt, hz, fun m z' hm hz' => ?_, k _ F2 H2 (f1.trans f2) (.int _)⟩
    have hm2 : m < xs.length := Nat.lt_trans hm hlt
    rw [List.getElem?_eq_getElem hm2] at hz'
    cases hz'
    simpa using hno m hm
  | _ => cases h3
end
end Fz
/-! FzEs: sorted lists of tuples of ints, of any length. -/
namespace Fz
open PySem PySem.Spec PyProof.Rows L2
/-! ### the order upon lists of ints -/
theorem lexI_eq : ∀ xs ys : List Int, HT.lexLt xs ys = lexI xs ys
  | [], [] => rfl
  | [], _ :: _ => rfl
  | _ :: _, [] => rfl
  | x :: xs, y :: ys => by
    show (if x = y then HT.lexLt xs ys else decide (x < y)) = (if x = y then lexI xs ys else decide (x < y))
    rw [lexI_eq xs ys]
theorem lexI_anti : ∀ xs ys : List Int, lexI xs ys = false → lexI ys xs = false → xs = ys
  | [], [], _, _ => rfl
  | [], _ :: _, h, _ => by cases h
  | _ :: _, [], _, h => by cases h
  | x :: xs, y :: ys, h1, h2 => by
    have h1 : (if x = y then lexI xs ys else decide (x < y)) = false := h1
    have h2 : (if y = x then lexI ys xs else decide (y < x)) = false := h2
    by_cases e : x = y
    · rw [if_pos e] at h1
      rw [if_pos e.symm] at h2
      rw [e, lexI_anti xs ys h1 h2]
    · rw [if_neg e] at h1
      rw [if_neg (Ne.symm e)] at h2
      have a := of_decide_eq_false h1
      have b := of_decide_eq_false h2
      omega
theorem lexI_irrefl (xs : List Int) : lexI xs xs = false := by
  induction xs with
  | nil => rfl
  | cons x xs ih => show (if x = x then lexI xs xs else _) = false; rw [if_pos rfl, ih]
theorem lexI_tr (xs ys zs : List Int) (h1 : lexI ys xs = false) (h2 : lexI zs ys = false) : lexI zs xs = false := by
  rw [← lexI_eq] at h1 h2 ⊢
  exact NtL.lex_tr xs ys zs h1 h2
theorem lexI_asym (xs ys : List Int) (h : lexI xs ys = true) : lexI ys xs = false := by
  rw [← lexI_eq] at h ⊢
  exact NtL.lex_asym xs ys h
abbrev LeT (a b : List Int) : Prop := lexI b a = false
theorem insT_perm (x : List Int) : ∀ l, (insT x l).Perm (x :: l)
  | [] => List.Perm.refl _
  | y :: r => by
    unfold insT
    by_cases h : lexI x y = true
    · rw [if_pos h]
    · rw [if_neg h]
      exact ((insT_perm x r).cons y).trans (List.Perm.swap x y r)
theorem sortT_perm : ∀ l, (sortT l).Perm l
  | [] => List.Perm.refl _
  | x :: r => (insT_perm x _).trans ((sortT_perm r).cons x)
theorem insT_sorted (x : List Int) : ∀ l, l.Pairwise LeT → (insT x l).Pairwise LeT
  | [], _ => List.pairwise_singleton _ _
  | y :: r, h => by
    obtain ⟨h1, h2⟩ := List.pairwise_cons.mp h
    unfold insT
    by_cases q : lexI x y = true
    · rw [if_pos q]
      refine List.pairwise_cons.mpr ⟨fun z hz => ?_, h⟩
      rcases List.mem_cons.mp hz with rfl | hz
      · exact lexI_asym _ _ q
      · exact lexI_tr _ _ _ (lexI_asym _ _ q) (h1 z hz)
    · rw [if_neg q]
      refine List.pairwise_cons.mpr ⟨fun z hz => ?_, insT_sorted x r h2⟩
      rcases List.mem_cons.mp ((insT_perm x r).mem_iff.mp hz) with rfl | hz
      · simpa using q
      · exact h1 z hz
theorem sortT_sorted : ∀ l, (sortT l).Pairwise LeT
  | [] => List.Pairwise.nil
  | x :: r => insT_sorted x _ (sortT_sorted r)
theorem sortT_uniq : ∀ {l m : List (List Int)}, l.Pairwise LeT → m.Pairwise LeT → l.Perm m → l = m
  | [], m, _, _, p => (List.nil_perm.mp p).symm
  | x :: l, [], _, _, p => (List.perm_nil.mp p)
  | x :: l, y :: m, h1, h2, p => by
    obtain ⟨a1, a2⟩ := List.pairwise_cons.mp h1
    obtain ⟨b1, b2⟩ := List.pairwise_cons.mp h2
    have e : x = y := by
      have hx : x ∈ y :: m := p.mem_iff.mp (List.mem_cons_self ..)
      have hy : y ∈ x :: l := p.mem_iff.mpr (List.mem_cons_self ..)
      rcases List.mem_cons.mp hx with e | hx
      · exact e
      · rcases List.mem_cons.mp hy with e | hy
        · exact e.symm
        · exact lexI_anti _ _ (b1 x hx) (a1 y hy)
    subst e
    rw [sortT_uniq a2 b2 (List.Perm.cons_inv p)]
section
variable {prog : Program} {w : World} {A : Around} {E : Value → Shared → Prop} {s : Shared}
/-- what a comparison of tuples tells, fin where they end -/
def lexZ (fin : Bool) : List Int → List Int → Bool
  | [], _ => fin
  | _ :: _, [] => fin
  | x :: xs, y :: ys => if x = y then lexZ fin xs ys else decide (x < y)
theorem lexZ_eq : ∀ xs ys : List Int, lexZ (decide (xs.length < ys.length)) xs ys = lexI xs ys
  | [], [] => rfl
  | [], _ :: _ => by show decide (0 < _ + 1) = true; exact decide_eq_true (Nat.succ_pos _)
  | _ :: _, [] => by show decide (_ + 1 < 0) = false; exact decide_eq_false (Nat.not_lt_zero _)
  | x :: xs, y :: ys => by
    have e : decide ((x :: xs).length < (y :: ys).length) = decide (xs.length < ys.length) := by
      simp only [List.length_cons, Nat.add_lt_add_iff_right]
    rw [e]
    show (if x = y then lexZ _ xs ys else decide (x < y)) = (if x = y then lexI xs ys else decide (x < y))
    rw [lexZ_eq xs ys]
theorem kat_int {b fin : Bool} {Q : Bool → Shared → Prop} : ∀ {xs ys : List Value} {ns ms : List Int} (i : Nat), IntsAre xs ns → IntsAre ys ms → Q (lexZ fin ns ms) s → PySem.W.KatLex prog w A b fin Q (xs.zip ys) i s
  | [], ys, _, ms, i, .nil, hy, h => PySem.W.kat_nil h
  | _ :: _, [], _, _, i, .cons _ _ _, .nil, h => PySem.W.kat_nil h
  | _ :: xs, _ :: ys, _, _, i, .cons (vs := _) (ns := ns) p t hx, .cons (vs := _) (ns := ms) q u hy, h => by
    show PySem.W.KatLex prog w A b fin Q ((Value.int p t, Value.int q u) :: xs.zip ys) i s
    have h : Q (if p = q then lexZ fin ns ms else decide (p < q)) s := h
    refine PySem.W.kat_cons (wpAny_eqBool_int ?_)
    by_cases e : p = q
    · rw [if_pos e] at h
      rw [show (p == q) = true from beq_iff_eq.mpr e]
      exact PySem.W.kat_yes (kat_int (i + 1) hx hy h)
    · rw [if_neg e] at h
      rw [show (p == q) = false from beq_eq_false_iff_ne.mpr e]
      exact PySem.W.kat_no (TS.oneLt_ints _ h)
/-- a tuple that holds these ints -/
def TupI (h : Heap) (v : Value) (ns : List Int) : Prop := ∃ (a : Addr) (its : Array Value), v = .ref a ∧ IsTup h a its ∧ IntsAre its.toList ns
theorem tupI_cmp {vs : List Value} {k : Value → List Int} (hv : ∀ v ∈ vs, TupI s.heap v (k v)) : SrtO.Cmp prog w A s (tuples' true) (fun p => p.1 ∈ vs) (SrtO.lt2 fun v u => HT.lexLt (k v) (k u)) := by
  intro p q hp hq
  obtain ⟨a, xs, ea, ⟨o, ho, _, n, hd⟩, hi⟩ := hv _ hp
  obtain ⟨b, ys, eb, ⟨o2, ho2, _, n2, hd2⟩, hj⟩ := hv _ hq
  show wpAny (model prog w) A (keyLt' (tuples' true) p.1 q.1) (fun r s' => s' = s ∧ r = HT.lexLt (k p.1) (k q.1)) (fun _ _ => False) s
  rw [lexI_eq]
  generalize k p.1 = ns at hi ⊢
  generalize k q.1 = ms at hj ⊢
  rw [ea, eb]
  refine PySem.W.kat_lt ho hd ho2 hd2 (kat_int 0 hi hj ⟨rfl, ?_⟩)
  have e : decide (xs.size < ys.size) = decide (ns.length < ms.length) := by
    rw [← hi.length, ← hj.length, Array.length_toList, Array.length_toList]
  rw [e, lexZ_eq]
theorem tupI_firsts {h : Heap} {k : Value → List Int} : ∀ vs : List Value, (∀ v ∈ vs, TupI h v (k v) ∧ k v ≠ []) → ∃ fs, PySem.W.KatTups h vs fs ∧ fs.length = vs.length ∧ ∀ f ∈ fs, ∃ n t, f = Value.int n t
  | [], _ => ⟨[], PySem.W.KatTups.nil, rfl, fun f hf => by cases hf⟩
  | v :: vs, x => by
    obtain ⟨fs, q1, q2, q3⟩ := tupI_firsts vs fun u hu => x u (List.mem_cons_of_mem _ hu)
    obtain ⟨⟨a, its, ea, ⟨o, ho, hc, n, hd⟩, hi⟩, hne⟩ := x v (List.mem_cons_self ..)
    subst ea
    generalize k (Value.ref a) = ns at hi hne
    cases hl : its.toList with
    | nil =>
      rw [hl] at hi
      cases hi
      exact absurd rfl hne
    | cons y ys =>
      rw [hl] at hi
      cases hi with
      | cons m t _ =>
        refine ⟨.int m t :: fs, PySem.W.KatTups.cons ho hc hd ?_ q1, by rw [List.length_cons, List.length_cons, q2], fun f hf => ?_⟩
        · have z := congrArg (fun l : List Value => l[0]?) hl
          simpa using z
        · rcases List.mem_cons.mp hf with rfl | hf
          · exact ⟨m, t, rfl⟩
          · exact q3 f hf
theorem tupI_sortable {a : Addr} {vs : List Value} {k : Value → List Int} (h0 : 0 < vs.length) (hp : ∀ v ∈ vs, TupI s.heap v (k v) ∧ k v ≠ []) (ha : ∀ o, s.heap.get? a = some o → o.cls ≠ .type "tuple") : SrtO.SortableO prog w A s a vs fun v u => HT.lexLt (k v) (k u) := by
  intro h' keep
  have hp' : ∀ v ∈ vs, TupI h' v (k v) ∧ k v ≠ [] := fun v hm => by
    obtain ⟨⟨b, its, eb, ⟨o, ho, hc, n, hd⟩, hi⟩, hne⟩ := hp v hm
    exact ⟨⟨b, its, eb, ⟨o, keep b o (fun z => by subst z; exact ha o ho hc) ho, hc, n, hd⟩, hi⟩, hne⟩
  obtain ⟨fs, q1, q2, q3⟩ := tupI_firsts vs hp'
  refine ⟨tuples' true, fun Q E hq => ?_, tupI_cmp fun v hm => (hp' v hm).1⟩
  refine PySem.W.kat_kind (T := .type "int") q1 (by omega) (fun f hm => ?_) (by rfl) ?_
  · obtain ⟨x, t, rfl⟩ := q3 f hm
    exact PySem.W.Looks.now
  · have e : (Value.type "int" != Value.type "tuple") = true := by first | decide +kernel | rfl | decide
    rw [e]
    exact hq
end
/-! ### sorted, by what is held -/
section
variable {X : Cx}
/-- tuples of ints, one by one -/
inductive TupsI (K : PySem.W.Frag) (H : Hp) : List V → List (List Int) → Prop
  | nil : TupsI K H [] []
  | cons {a : Addr} {ns : List Int} {xs : List V} {nss : List (List Int)} : SqT K H a (ns.map V.int) → TupsI K H xs nss → TupsI K H (.ref a :: xs) (ns :: nss)
def rSortTI (K : PySem.W.Frag) : List V → Hp → VK → Prop := fun vs H Q => ∃ (a : Addr) (xs : List V) (nss : List (List Int)), vs = [V.ref a] ∧ SqL K H a xs ∧ TupsI K H xs nss ∧ (∀ ns ∈ nss, ns ≠ []) ∧
  ∀ (ys : List V) (p : Addr), (∀ y ∈ ys, y ∈ xs) → TupsI K H ys (sortT nss) → H p = none → Q (.ref p) (upd H p (.lst ys))
def heldI (h : Heap) : Value → List Int
  | .ref a => match h.get? a with
    | some o => (match o.data with
      | .seq its _ => its.toList.map SrtO.iv
      | _ => [])
    | none => []
  | _ => []
theorem heldI_of {h : Heap} {a : Addr} {its : Array Value} {ns : List Int} (t : IsTup h a its) (i : IntsAre its.toList ns) : heldI h (.ref a) = ns := by
  obtain ⟨o, ho, hc, n, hd⟩ := t
  have e : heldI h (.ref a) = its.toList.map SrtO.iv := by
    simp only [heldI, ho, hd]
  rw [e]
  generalize its.toList = l at i
  induction i with
  | nil => rfl
  | cons m t _ ih => rw [List.map_cons, ih]; rfl
theorem tups_real {pins : List (Addr × Obj)} {σ : L2.St} {H : Hp} {s : Shared} (I : Inv X pins σ H s) : ∀ {xs : List V} {nss : List (List Int)} {us : List Value}, TupsI X.K H xs nss → Vals xs us → us.map (heldI s.heap) = nss ∧ (∀ u ∈ us, TupI s.heap u (heldI s.heap u)) ∧ (∀ u ∈ us, ∃ a, u = .ref a ∧ V.ref a ∈ xs ∧ SqT X.K H a ((heldI s.heap u).map V.int))
  | _, _, _, .nil, .nil => ⟨rfl, (fun u hu => nomatch hu), (fun u hu => nomatch hu)⟩
  | _, _, _, .cons (a := a) (ns := ns) h t, .cons r rt => by
    obtain ⟨q1, q2, q3⟩ := tups_real I t rt
    cases r
    obtain ⟨its, rv, tp, _⟩ := I.tuple h
    have hi : IntsAre its.toArray.toList ns := by simpa using rv.ints
    have e := heldI_of tp hi
    refine ⟨by rw [List.map_cons, e, q1], fun u hu => ?_, fun u hu => ?_⟩
    · rcases List.mem_cons.mp hu with rfl | hu
      · exact ⟨a, _, rfl, tp, e ▸ hi⟩
      · exact q2 u hu
    · rcases List.mem_cons.mp hu with rfl | hu
      · exact ⟨a, rfl, List.mem_cons_self .., e ▸ h⟩
      · obtain ⟨b, e1, e2, e3⟩ := q3 u hu
        exact ⟨b, e1, List.mem_cons_of_mem _ e2, e3⟩
theorem tups_back {K : PySem.W.Frag} {H : Hp} {h : Heap} {xs : List V} : ∀ out : List Value, (∀ u ∈ out, ∃ a, u = .ref a ∧ V.ref a ∈ xs ∧ SqT K H a ((heldI h u).map V.int)) → ∃ ys : List V, Vals ys out ∧ (∀ y ∈ ys, y ∈ xs) ∧ TupsI K H ys (out.map (heldI h)) ∧ ys.length = out.length
  | [], _ => ⟨[], .nil, (fun y hy => nomatch hy), .nil, rfl⟩
  | u :: r, hh => by
    obtain ⟨ys, v1, v2, v3, v4⟩ := tups_back r fun z hz => hh z (List.mem_cons_of_mem _ hz)
    obtain ⟨a, rfl, m, t⟩ := hh u (List.mem_cons_self ..)
    refine ⟨.ref a :: ys, .cons rfl v1, fun y hy => ?_, .cons t v3, by rw [List.length_cons, List.length_cons, v4]⟩
    rcases List.mem_cons.mp hy with rfl | hy
    · exact m
    · exact v2 y hy
theorem cr_sortTI : CallR X (.builtin "sorted") (rSortTI X.K) := by
  intro pins s σ H vs us Q I r ⟨a, xs, nss, ev, hs, ht, hne, q⟩
  subst ev
  obtain ⟨its, rv, hl, hz⟩ := I.list hs
  rw [Vals.ref1 r]
  obtain ⟨e1, e2, e3⟩ := tups_real I ht rv
  have ne : ∀ u ∈ its, heldI s.heap u ≠ [] := fun u hu => hne _ (by rw [← e1]; exact List.mem_map.mpr ⟨u, hu, rfl⟩)
  refine SrtO.sorted_ord (NtL.swo_lexL (heldI s.heap)) hl.isList (by rw [← rv.length]; exact hz) (fun h2 h₁ b hb kk => ?_) fun out h1 h2 => ?_
  · refine tupI_sortable (s := { s with heap := h₁ }) (by omega) (fun u hu => ⟨?_, ne u hu⟩) fun o e => ?_
    · obtain ⟨c, jts, ec, ⟨o, ho, hc, n, hd⟩, hi⟩ := e2 u hu
      exact ⟨c, jts, ec, ⟨o, (kk c o ho).2, hc, n, hd⟩, hi⟩
    · have e' : some o = some (seqObj "list" its.toArray 0) := e.symm.trans hb
      cases e'
      intro c
      exact absurd (Value.type.inj c) (by decide)
  · obtain ⟨ep, at_⟩ := PyProof.Rows.sortedAll_at s.heap its out.toArray
    obtain ⟨ys, v1, v2, v3, v4⟩ := tups_back (H := H) (K := X.K) (h := s.heap) (xs := xs) out fun u hu => e3 u (h2.perm.mem_iff.mp hu)
    have es : out.map (heldI s.heap) = sortT nss := by
      refine sortT_uniq ?_ (sortT_sorted nss) ((h2.perm.map _).trans ?_)
      · refine List.pairwise_map.mpr (h1.imp fun {x y} z => ?_)
        show lexI _ _ = false
        rw [← lexI_eq]; exact z
      · rw [e1]; exact (sortT_perm nss).symm
    rw [es] at v3
    have len : ys.length ≤ sizeLine := by
      rw [v4, h2.perm.length_eq, ← rv.length]; exact hz
    exact ⟨.ref _, upd H (s.heap.objs.size + 1) (.lst ys), I.laid (t' := s.toks) (fun _ _ => PyProof.Rows.sortedAll_old) (Nat.le_succ _) ⟨len, out, ep, v1, at_⟩, rfl, q ys _ v2 v3 (I.hok.fresh (Nat.le_succ _))⟩
end
end Fz
/-! FzEd: sorted(d), d a dict whose keys are tuples of ints; its length. -/
namespace Fz
open PySem PySem.Spec PyProof.Rows L2
section
variable {prog : Program} {w : World} {A : Around} {E : Value → Shared → Prop} {s : Shared} {d : Addr} {es : Array DictEntry} {ep : Nat}
theorem collectD {R : List Value → Shared → Prop} (hh : A.handled = none) (lo : (d == sysModules) = false) (hm : s.heap.DictRaw d es ep) (hn : es.size ≤ sizeLine)
    (h : ∀ (h' : Heap) (tk : Nat), (∀ b o, s.heap.get? b = some o → h'.get? b = some o) → s.heap.objs.size < h'.objs.size → R (es.toList.map (·.key)) { s with heap := h', toks := tk }) :
    wpAny (model prog w) A (collect (.ref d)) R E s := by
  have hd : d < s.heap.objs.size := hm.lt_size
  unfold collect
  refine wpAny_bind (wpAny_runValue (codeAny_builtin entry_proto_collect' ?_))
  rw [Around.under_plainId PySem.F.plain_proto_collect _]
  show wpAny _ A.in1 (newList [] >>= fun l => again (.builtin "list.__iadd__" ⟨[l, .ref d], []⟩)) _ _ s
  refine wpAny_bind (wpAny_newObj_type ?_)
  refine wpAny_pure ⟨plainId_quiet PySem.F.plain_list_iadd _, codeAny_builtin entry_list_iadd' ?_⟩
  rw [Around.under_plainId PySem.F.plain_list_iadd _]
  have hS₁ : (s.heap.push { cls := .type "list", data := .seq ([] : List Value).toArray }).get? s.heap.objs.size = some { cls := .type "list", data := .seq #[] } := Heap.get?_push_size _ rfl
  show wpAny _ A.in1 (Builtin.List.listExtendWith (.ref s.heap.objs.size) (.ref d) (.ref s.heap.objs.size)) _ _ _
  have key := PySem.W.kdl_extend (prog := prog) (w := w) (A := A) (s := { s with heap := s.heap.push { cls := .type "list", data := .seq ([] : List Value).toArray } })
    (R := fun (q : Result) (s' : Shared) => ∃ (h' : Heap) (tk : Nat) (acc' : Array Value) (c' : Nat), q = .ok (.ret (.ref s.heap.objs.size)) ∧ s' = { s with heap := h', toks := tk } ∧
      (∀ b o, s.heap.get? b = some o → h'.get? b = some o) ∧ h'.get? s.heap.objs.size = some { cls := .type "list", dict := none, data := .seq acc' c', slots := #[] } ∧ acc'.toList = es.toList.map (·.key))
    (PySem.KdlSrc.rawDict (es := es) (ep := ep) lo) hh (hm.push _) s.heap.objs.size (Nat.ne_of_gt hd) (Nat.ne_of_gt hd) (.ref s.heap.objs.size) 0 hS₁
    (fun h' tk acc' c' hk hS' hacc => ⟨h', tk, acc', c', rfl, rfl, fun b o e => hk b o (Nat.ne_of_lt (Heap.lt_size e)) (Heap.get?_push_of_some _ e), hS', by
      refine List.ext_getElem (by rw [Array.length_toList, List.length_map, Array.length_toList]; exact hacc.1) fun i h1 h2 => ?_
      have hi : i < acc'.size := by simpa using h1
      obtain ⟨hj, e⟩ := hacc.2 i acc'[i] (by simp [hi])
      rw [List.getElem_map, Array.getElem_toList, Array.getElem_toList, e]⟩) hn
  refine wpAny_mono key (fun fin s' x => ?_) fun e s' x => ?_
  · cases fin with
    | done f =>
      obtain ⟨h', tk, acc', c', e, rfl, hk, hS', hacc⟩ := x
      cases e
      show wpAny _ A (load s.heap.objs.size >>= _) _ _ _
      refine wpAny_bind (wpAny_load hS' ?_)
      refine wpAny_pure ?_
      show R acc'.toList _
      rw [hacc]
      exact h h' tk hk (Heap.lt_size hS')
    | again c₁ =>
      refine ⟨x.1, codeAny_mono x.2 fun q s₂ y => ?_⟩
      obtain ⟨h', tk, acc', c', rfl, rfl, hk, hS', hacc⟩ := y
      show wpAny _ A (load s.heap.objs.size >>= _) _ _ _
      refine wpAny_bind (wpAny_load hS' ?_)
      refine wpAny_pure ?_
      show R acc'.toList _
      rw [hacc]
      exact h h' tk hk (Heap.lt_size hS')
  · obtain ⟨_, _, _, _, e', _⟩ := x
    cases e'
theorem sortedD_ord {vs : List Value} {ltv : Value → Value → Bool} {Q : Value → Shared → Prop} (hh : A.handled = none) (O : SrtO.Swo ltv) (lo : (d == sysModules) = false) (hm : s.heap.DictRaw d es ep) (hv : es.toList.map (·.key) = vs) (hz : vs.length ≤ sizeLine)
    (hS : 2 ≤ vs.length → ∀ (s₁ : Shared) (a : Addr), (∀ b o, s.heap.get? b = some o → b ≠ a ∧ s₁.heap.get? b = some o) → s₁.heap.get? a = some (seqObj "list" vs.toArray 0) → SrtO.SortableO prog w A.in1.in1 s₁ a vs ltv)
    (h : ∀ (out : List Value) (L : Addr) (h' : Heap) (tk e : Nat), SrtO.Srtd ltv out → SrtO.Stb ltv out vs → s.heap.objs.size ≤ L → (∀ b o, s.heap.get? b = some o → h'.get? b = some o) → h'.get? L = some (seqObj "list" out.toArray e) → Q (.ref L) { s with heap := h', toks := tk }) :
    wpAny (model prog w) A (call (.builtin "sorted") [.ref d]) Q E s := by
  refine Calls.call_function_entry kind_sorted plain_sorted entry_sorted (args_sorted1 _) ?_
  unfold Builtin.«sorted»
  have hn : es.size ≤ sizeLine := by rw [← hv] at hz; simpa using hz
  refine wpAny_bind (m := checkCount "sorted" 1 1 _) (wpAny_pure (wpAny_bind (collectD hh lo hm hn fun h1 tk hk le => wpAny_bind (wpAny_newList ?_ (by rw [hv]; exact hz)))))
  rw [hv]
  have newL : (h1.push (seqObj "list" vs.toArray 0)).get? h1.objs.size = some (seqObj "list" vs.toArray 0) := Heap.get?_push_size _ rfl
  show wpAny (model prog w) _ _ _ _ { s with heap := h1.push (seqObj "list" vs.toArray 0), toks := tk }
  have nb : ∀ b o, s.heap.get? b = some o → b ≠ h1.objs.size := fun b o e => Nat.ne_of_lt (Heap.lt_size (hk b o e))
  refine wpAny_bind (wpAny_holding (wpAny_call_entry slot_list_sort ⟨_, newL, rfl⟩ entry_list_sort (SrtO.list_sort_ord O newL hz (fun h2 => hS h2 _ _ (fun b o e => ⟨nb b o e, Heap.get?_push_of_some _ (hk b o e)⟩) newL) fun out h2 h3 => ⟨_, rfl, wpAny_pure ⟨_, rfl, ?_⟩⟩) (args_list_sort _)))
  obtain ⟨e, at_⟩ := PyProof.Rows.sortedHeap_at (out := out.toArray) newL
  refine h out h1.objs.size _ tk e h2 h3 (Nat.le_of_lt le) (fun b o q => ?_) at_
  rw [PyProof.Rows.sortedHeap_old (nb b o q) (Heap.lt_size (Heap.get?_push_of_some (seqObj "list" vs.toArray 0) (hk b o q)))]
  exact Heap.get?_push_of_some _ (hk b o q)
end
section
variable {X : Cx}
/-- tuples of ints that stand in the heap, one by one -/
inductive TupsH (H : Hp) : List V → List (List Int) → Prop
  | nil : TupsH H [] []
  | cons {a : Addr} {ns : List Int} {xs : List V} {nss : List (List Int)} : H a = some (.tup (ns.map V.int)) → TupsH H xs nss → TupsH H (.ref a :: xs) (ns :: nss)
theorem TupsH.I {K : PySem.W.Frag} {H : Hp} : ∀ {xs : List V} {nss : List (List Int)}, TupsH H xs nss → TupsI K H xs nss
  | _, _, .nil => .nil
  | _, _, .cons h t => .cons (SqT.of h) t.I
theorem TupsH.mem {H : Hp} : ∀ {xs : List V} {nss : List (List Int)}, TupsH H xs nss → ∀ a, V.ref a ∈ xs → ∃ ns : List Int, H a = some (.tup (ns.map V.int))
  | _, _, .nil, a, h => nomatch h
  | _, _, .cons (ns := ns) h t, a, hm => by
    rcases List.mem_cons.mp hm with e | hm
    · cases e; exact ⟨ns, h⟩
    · exact t.mem a hm
theorem tupsH_of {K : PySem.W.Frag} {pins : List (Addr × Obj)} {σ : L2.St} {H : Hp} {s : Shared} (hK : X.K = K) (I : Inv X pins σ H s) {xs : List V} {nss0 : List (List Int)} (h0 : TupsH H xs nss0) : ∀ (ys : List V) (nss : List (List Int)), (∀ y ∈ ys, y ∈ xs) → TupsI K H ys nss → TupsH H ys nss
  | [], [], _, .nil => .nil
  | .ref a :: _, ns :: _, hm, .cons h t => by
    obtain ⟨ms, e⟩ := h0.mem a (hm _ (List.mem_cons_self ..))
    have e2 := I.tuple_inj (SqT.of e) (hK ▸ h)
    refine .cons ?_ (tupsH_of hK I h0 _ _ (fun y hy => hm y (List.mem_cons_of_mem _ hy)) t)
    rw [e, e2]
def rSortDT : List V → Hp → VK → Prop := fun vs H Q => ∃ (a : Addr) (kws : List (List L2.Key × V)) (nss : List (List Int)), vs = [V.ref a] ∧ H a = some (.dT kws) ∧ kws.map (·.1) = nss.map (fun ns => ns.map Sum.inl) ∧ (∀ ns ∈ nss, ns ≠ []) ∧
  ∀ (ys : List V) (p : Addr), TupsH H ys (sortT nss) → H p = none → Q (.ref p) (upd H p (.lst ys))
theorem keys_tups {H : Hp} : ∀ {kws : List (List L2.Key × V)} {xs : List (List L2.Key × Addr × Value)} {nss : List (List Int)}, KT H kws xs → kws.map (·.1) = nss.map (fun ns => ns.map Sum.inl) →
    TupsH H (xs.map fun x => V.ref x.2.1) nss
  | _, _, [], .nil, _ => .nil
  | _, _, _ :: _, .nil, e => by cases e
  | _, _, [], .cons _ _, e => by cases e
  | _, _, ns :: nss, .cons ⟨h1, h2, _⟩ t, e => by
    rw [List.map_cons, List.map_cons] at e
    obtain ⟨e1, e2⟩ := List.cons.inj e
    refine .cons ?_ (keys_tups t e2)
    rw [h2, e1, kV_ints]
theorem vals_refs : ∀ as : List Addr, Vals (as.map V.ref) (as.map Value.ref)
  | [] => .nil
  | a :: r => .cons rfl (vals_refs r)
theorem cr_sortDT (hh : X.A.handled = none) : CallR X (.builtin "sorted") rSortDT := by
  intro pins s σ H vs us Q I r ⟨a, kws, nss, ev, ha, hk, hne, q⟩
  subst ev
  obtain ⟨len, lo, xs, pr, o, es, ep, ho, ex, hdat, hes, nd⟩ := (show ObjOk X.prog X.w H s.heap a (.dT kws) from I.hok a _ ha)
  have hm : s.heap.DictRaw a es ep := ⟨o, ho, ex, hdat⟩
  have th := keys_tups pr hk
  have rv : Vals (xs.map fun x => V.ref x.2.1) (xs.map fun x => Value.ref x.2.1) := by
    have := vals_refs (xs.map fun x => x.2.1)
    rw [List.map_map, List.map_map] at this
    exact this
  have ek : es.toList.map (·.key) = xs.map fun x => Value.ref x.2.1 := by
    rw [hes, List.map_map]; rfl
  generalize hits : (xs.map fun x => Value.ref x.2.1) = its at rv ek
  generalize hvs : (xs.map fun x => V.ref x.2.1) = vs at rv th
  have hz : its.length ≤ sizeLine := by
    rw [← hits, List.length_map, ← Paired.length pr]; exact len
  rw [Vals.ref1 r]
  obtain ⟨e1, e2, e3⟩ := tups_real I (th.I (K := X.K)) rv
  have ne : ∀ u ∈ its, heldI s.heap u ≠ [] := fun u hu => hne _ (by rw [← e1]; exact List.mem_map.mpr ⟨u, hu, rfl⟩)
  refine sortedD_ord hh (NtL.swo_lexL (heldI s.heap)) lo hm ek hz (fun h2 s₁ b kk hb => ?_) fun out L h' tk e h1 h2 le keep at_ => ?_
  · refine tupI_sortable (s := s₁) (by omega) (fun u hu => ⟨?_, ne u hu⟩) fun o e => ?_
    · obtain ⟨c, jts, ec, ⟨o, ho, hc, n, hd⟩, hi⟩ := e2 u hu
      exact ⟨c, jts, ec, ⟨o, (kk c o ho).2, hc, n, hd⟩, hi⟩
    · have e' : some o = some (seqObj "list" its.toArray 0) := e.symm.trans hb
      cases e'
      intro c
      exact absurd (Value.type.inj c) (by decide)
  · obtain ⟨ys, v1, v2, v3, v4⟩ := tups_back (H := H) (K := X.K) (h := s.heap) (xs := vs) out fun u hu => e3 u (h2.perm.mem_iff.mp hu)
    have es' : out.map (heldI s.heap) = sortT nss := by
      refine sortT_uniq ?_ (sortT_sorted nss) ((h2.perm.map _).trans ?_)
      · refine List.pairwise_map.mpr (h1.imp fun {x y} z => ?_)
        show lexI _ _ = false
        rw [← lexI_eq]; exact z
      · rw [e1]; exact (sortT_perm nss).symm
    rw [es'] at v3
    have ln : ys.length ≤ sizeLine := by
      rw [v4, h2.perm.length_eq]; exact hz
    exact ⟨.ref _, upd H L (.lst ys), I.laid (t' := tk) keep le ⟨ln, out, e, v1, at_⟩, rfl, q ys _ (tupsH_of rfl I th _ _ v2 v3) (I.hok.fresh le)⟩
/-- tuples that stand are frozen -/
def frT (F H : Hp) (xs : List V) : Hp := fun b => match F b with
  | some o => some o
  | none => if V.ref b ∈ xs then H b else none
theorem frT_fw {sp cc : Addr} {F H : Hp} {s : Src} {xs : List V} (e : Same F H) (q : SrcAt sp cc H s) (h : ∀ b, V.ref b ∈ xs → ∃ us, H b = some (.tup us)) : Fw sp cc F H (frT F H xs) H s := by
  refine ⟨fun b o z => ?_, fun b o z => ?_, fun b o z _ _ => z, q, fun b z n => ?_⟩
  · unfold frT; rw [z]
  · unfold frT at z
    cases y : F b with
    | some u => rw [y] at z; exact z ▸ e b u y
    | none =>
      rw [y] at z
      by_cases m : V.ref b ∈ xs
      · rwa [if_pos m] at z
      · rw [if_neg m] at z; cases z
  · unfold frT; rw [z]
    by_cases m : V.ref b ∈ xs
    · obtain ⟨us, hu⟩ := h b m
      exact absurd hu (n.2 us)
    · exact if_neg m
theorem frT_at {F H : Hp} {xs : List V} (e : Same F H) {b : Addr} {o : HO} (m : V.ref b ∈ xs) (h : H b = some o) : frT F H xs b = some o := by
  unfold frT
  cases y : F b with
  | some u => exact (e b u y).symm.trans h
  | none => exact (if_pos m).trans h
theorem tupsH_rp {K : PySem.W.Frag} {sp : Addr} {F H : Hp} (e : Same F H) (xs : List V) : ∀ (ys : List V) (nss : List (List Int)), (∀ y ∈ ys, y ∈ xs) → TupsH H ys nss → RpA K sp (frT F H xs) ys (nss.map fun ns => .tuple (ns.map .int))
  | [], [], _, .nil => .nil
  | .ref _ :: _, ns :: _, hm, .cons h t => .cons (.tup (frT_at e (hm _ (List.mem_cons_self ..)) h) (RpA.ofInts ns)) (tupsH_rp e xs _ _ (fun y hy => hm y (List.mem_cons_of_mem _ hy)) t)
theorem tupsH_all {H : Hp} : ∀ {ys : List V} {nss : List (List Int)}, TupsH H ys nss → ∀ b, V.ref b ∈ ys → ∃ us, H b = some (.tup us)
  | _, _, .nil, b, h => nomatch h
  | _, _, .cons h t, b, hm => by
    rcases List.mem_cons.mp hm with e | hm
    · cases e; exact ⟨_, h⟩
    · exact tupsH_all t b hm
/-- the keys of a dict, as data -/
theorem dct_keys {K : PySem.W.Frag} {sp : Addr} {F : Hp} : ∀ {kws : List (List L2.Key × V)} {kvs : List (D × D)} {nss : List (List Int)}, RpK K sp F kws kvs → tupsOf (kvs.map (·.1)) = some nss → kws.map (·.1) = nss.map (fun ns => ns.map Sum.inl) ∧ ∀ ns ∈ nss, ns ≠ []
  | _, _, nss, .nil, h => by cases h; exact ⟨rfl, fun ns h => nomatch h⟩
  | _, _, nss, .cons (ns := ms) _ a, h => by
    obtain ⟨ns, e1, e2⟩ := Option.bind_eq_some_iff.mp (show (intsOf (ms.map .int)).bind _ = some nss from h)
    rw [intsOf_map] at e1
    cases e1
    by_cases q : ms.isEmpty = true
    · rw [if_pos q] at e2; cases e2
    · rw [if_neg q] at e2
      obtain ⟨mss, e3, rfl⟩ := Option.map_eq_some_iff.mp e2
      obtain ⟨t1, t2⟩ := dct_keys a e3
      refine ⟨by rw [List.map_cons, List.map_cons, t1], fun ns hm => ?_⟩
      rcases List.mem_cons.mp hm with rfl | hm
      · intro z
        rw [z] at q
        exact q rfl
      · exact t2 ns hm
theorem dck_keys {K : PySem.W.Frag} {sp : Addr} {F : Hp} {kws : List (L2.Key × V)} {kvs : List (D × D)} {nss : List (List Int)} (a : RpI K sp F kws kvs) (h : tupsOf (kvs.map (·.1)) = some nss) : nss = [] := by
  cases a with
  | nil => cases h; rfl
  | cons _ _ => cases h
theorem rpI_len {K : PySem.W.Frag} {sp : Addr} {F : Hp} : ∀ {kws : List (L2.Key × V)} {kvs : List (D × D)}, RpI K sp F kws kvs → kws.length = kvs.length
  | _, _, .nil => rfl
  | _, _, .cons _ a => congrArg (· + 1) (rpI_len a)
end
end Fz
/-! FzF: built-in functions and types by data. -/
namespace Fz
open PySem PySem.Spec PyProof.Rows L2
def Bi.name : Bi → String
  | .len => "len"
  | .abs => "abs"
  | .tuple => "tuple"
  | .list => "list"
  | .int => "int"
  | .bool => "bool"
  | .sum => "sum"
  | .any => "any"
  | .all => "all"
  | .max => "max"
  | .min => "min"
  | .repr => "repr"
  | .sorted => "sorted"
def Bi.isT : Bi → Bool
  | .tuple => true
  | .list => true
  | .int => true
  | .bool => true
  | _ => false
def Bi.val (b : Bi) : Value := if b.isT then .type b.name else .builtin b.name
def Bi.str (b : Bi) : Str := Str.ofString b.name
theorem Bi.boot (b : Bi) : bootBuiltins b.str = some b.val := by
  cases b <;> decide +kernel
section
variable {X : Cx} {G : Gx}
/-- a call of a built-in upon data -/
def rBi (o : List D → Option D) : List V → Hp → VK → Prop := fun xs H Q => ∃ F s ds d, Same F H ∧ SrcAt G.sp G.cc H s ∧ F G.sp = none ∧ F G.cc = none ∧ RbA G.K G.sp G.cc F H xs ds ∧ o ds = some d ∧
  ∀ z F' H', Fw G.sp G.cc F H F' H' s → Rn G.K G.sp H F' H' z d → Q z H'
theorem rbA_one {F H : Hp} {xs : List V} {d : D} (h : RbA G.K G.sp G.cc F H xs [d]) : ∃ x, xs = [x] ∧ Rb G.K G.sp G.cc F H x d := by
  cases xs with
  | nil => exact h.elim
  | cons x xs =>
    cases xs with
    | nil => exact ⟨x, rfl, h.1⟩
    | cons _ _ => exact h.2.elim
theorem rbA_two {F H : Hp} {xs : List V} {d e : D} (h : RbA G.K G.sp G.cc F H xs [d, e]) : ∃ x y, xs = [x, y] ∧ Rb G.K G.sp G.cc F H x d ∧ Rb G.K G.sp G.cc F H y e := by
  cases xs with
  | nil => exact h.elim
  | cons x xs =>
    obtain ⟨y, rfl, h2⟩ := rbA_one h.2
    exact ⟨x, y, rfl, h.1, h2⟩
theorem maxL_best : ∀ (ns : List Int) (m : Int), (maxL m ns = m ∨ maxL m ns ∈ ns) ∧ m ≤ maxL m ns ∧ ∀ y ∈ ns, y ≤ maxL m ns
  | [], m => ⟨.inl rfl, Int.le_refl _, fun _ h => nomatch h⟩
  | x :: r, m => by
    obtain ⟨h1, h2, h3⟩ := maxL_best r (if x > m then x else m)
    show (maxL (if x > m then x else m) r = m ∨ _) ∧ _ ∧ _
    have e : maxL m (x :: r) = maxL (if x > m then x else m) r := rfl
    rw [e]
    generalize maxL (if x > m then x else m) r = q at h1 h2 h3 ⊢
    refine ⟨?_, ?_, fun y hy => ?_⟩
    · rcases h1 with h1 | h1
      · by_cases hx : x > m
        · rw [if_pos hx] at h1; exact .inr (by rw [h1]; exact List.mem_cons_self ..)
        · rw [if_neg hx] at h1; exact .inl h1
      · exact .inr (List.mem_cons_of_mem _ h1)
    · split at h2 <;> omega
    · rcases List.mem_cons.mp hy with rfl | hy
      · split at h2 <;> omega
      · exact h3 y hy
theorem minL_best : ∀ (ns : List Int) (m : Int), (minL m ns = m ∨ minL m ns ∈ ns) ∧ minL m ns ≤ m ∧ ∀ y ∈ ns, minL m ns ≤ y
  | [], m => ⟨.inl rfl, Int.le_refl _, fun _ h => nomatch h⟩
  | x :: r, m => by
    obtain ⟨h1, h2, h3⟩ := minL_best r (if x < m then x else m)
    have e : minL m (x :: r) = minL (if x < m then x else m) r := rfl
    rw [e]
    generalize minL (if x < m then x else m) r = q at h1 h2 h3 ⊢
    refine ⟨?_, ?_, fun y hy => ?_⟩
    · rcases h1 with h1 | h1
      · by_cases hx : x < m
        · rw [if_pos hx] at h1; exact .inr (by rw [h1]; exact List.mem_cons_self ..)
        · rw [if_neg hx] at h1; exact .inl h1
      · exact .inr (List.mem_cons_of_mem _ h1)
    · split at h2 <;> omega
    · rcases List.mem_cons.mp hy with rfl | hy
      · split at h2 <;> omega
      · exact h3 y hy
theorem maxL_is {ns : List Int} {x0 m : Int} (hm : m ∈ x0 :: ns) (hle : ∀ y, y ∈ x0 :: ns → y ≤ m) : m = maxL x0 ns := by
  obtain ⟨b1, b2, b3⟩ := maxL_best ns x0
  refine Int.le_antisymm ?_ (hle _ ?_)
  · rcases List.mem_cons.mp hm with rfl | hm
    · exact b2
    · exact b3 m hm
  · rcases b1 with b1 | b1
    · rw [b1]; exact List.mem_cons_self ..
    · exact List.mem_cons_of_mem _ b1
theorem minL_is {ns : List Int} {x0 m : Int} (hm : m ∈ x0 :: ns) (hle : ∀ y, y ∈ x0 :: ns → m ≤ y) : m = minL x0 ns := by
  obtain ⟨b1, b2, b3⟩ := minL_best ns x0
  refine Int.le_antisymm (hle _ ?_) ?_
  · rcases b1 with b1 | b1
    · rw [b1]; exact List.mem_cons_self ..
    · exact List.mem_cons_of_mem _ b1
  · rcases List.mem_cons.mp hm with rfl | hm
    · exact b2
    · exact b3 m hm
theorem insI_perm (x : Int) : ∀ l : List Int, (insI x l).Perm (x :: l)
  | [] => .refl _
  | y :: r => by
    unfold insI
    split
    · exact .refl _
    · exact ((insI_perm x r).cons y).trans (.swap x y r)
theorem sortI_perm : ∀ l : List Int, (sortI l).Perm l
  | [] => .refl _
  | x :: r => (insI_perm x (sortI r)).trans ((sortI_perm r).cons x)
theorem insI_sorted (x : Int) : ∀ l : List Int, l.Pairwise (· ≤ ·) → (insI x l).Pairwise (· ≤ ·)
  | [], _ => by simp [insI]
  | y :: r, h => by
    obtain ⟨h1, h2⟩ := List.pairwise_cons.mp h
    unfold insI
    split
    · rename_i hxy
      refine List.pairwise_cons.mpr ⟨fun z hz => ?_, h⟩
      rcases List.mem_cons.mp hz with rfl | hz
      · omega
      · have := h1 z hz; omega
    · rename_i hxy
      refine List.pairwise_cons.mpr ⟨fun z hz => ?_, insI_sorted x r h2⟩
      rcases List.mem_cons.mp ((insI_perm x r).mem_iff.mp hz) with rfl | hz
      · omega
      · exact h1 z hz
theorem sortI_sorted : ∀ l : List Int, (sortI l).Pairwise (· ≤ ·)
  | [] => .nil
  | x :: r => insI_sorted x _ (sortI_sorted r)
theorem sorted_uniq {l m : List Int} (h1 : l.Pairwise (· ≤ ·)) (h2 : m.Pairwise (· ≤ ·)) (p : l.Perm m) : l = m :=
  List.Perm.eq_of_pairwise (fun a b _ _ h h' => Int.le_antisymm h h') h1 h2 p
theorem depth_ok {d : D} (h : okD d = true) : d.depth ≤ 64 := SeqAt.depth_of_shaped h
theorem repr_ok (hK : X.K = G.K) (hg : X.A.guards = some []) (hu : X.A.units + 66 < cLine) {F H : Hp} {s : Shared} {σ : L2.St} {pins : List (Addr × Obj)} {x : V} {u : Value} {d : D} {Q : VK} (I : Inv X pins σ H s) (e : Same F H) (rx : RelV x u) (hx : Rb G.K G.sp G.cc F H x d) (h1 : okD d = true) (h2 : d.showable = true)
    (h3 : small d.shown.length = true) (k : Q (.str d.shown) H) : wpAny (model X.prog X.w) X.A (call (.builtin "repr") [u]) (EP X pins σ Q) X.xe s := by
  have c := SeqAt.canLay_of_shaped h1
  have dp : Dp X.K H x d := hK ▸ hx.dp e c
  obtain ⟨as, rd⟩ := Dp.reads I d x u dp rx
  have hd := depth_ok h1
  have fin : ∀ h' tk t, (∀ b o, s.heap.get? b = some o → h'.get? b = some o) → EP X pins σ Q (.str d.shown t) { s with heap := h', toks := tk } := fun h' tk t hk => ⟨.str d.shown, H, I.kept hk, ⟨t, rfl⟩, k⟩
  cases rd with
  | none => exact PySem.P.repr_of_none (fin s.heap _ _ fun _ _ z => z)
  | bool b =>
    refine PySem.P.repr_of_bool ?_
    have := fin s.heap (s.toks + 1) s.toks fun _ _ z => z
    cases b <;> simpa [PyData.shown] using this
  | int i t => exact PySem.P.repr_of_int (by simpa [PyData.showable] using h2) (fin s.heap _ _ fun _ _ z => z)
  | str z t => exact PySem.P.repr_of_str (fin s.heap _ _ fun _ _ z => z) (hsz := small_le h3)
  | list a1 a2 a3 a4 => exact repr_of_reads' (Reads.list a1 a2 a3 a4) h2 (PyData.noDict_hsm (PyData.hasDict_of_canLay _ c)) hg (by omega) (fun _ _ z => z) (fun h' u tk hk => fin h' tk u hk) (small_le h3)
  | tuple a1 a2 a3 a4 => exact repr_of_reads' (Reads.tuple a1 a2 a3 a4) h2 (PyData.noDict_hsm (PyData.hasDict_of_canLay _ c)) hg (by omega) (fun _ _ z => z) (fun h' u tk hk => fin h' tk u hk) (small_le h3)
  | dict => simp [PyData.canLay0] at c
/-- the data of tuples of ints -/
theorem tups_of (hK : X.K = G.K) {F H : Hp} (e : Same F H) : ∀ {vs : List V} {xs : List D} {nss : List (List Int)}, RpA G.K G.sp F vs xs → tupsOf xs = some nss → TupsI X.K H vs nss ∧ ∀ ns ∈ nss, ns ≠ []
  | _, _, nss, .nil, h => by cases h; exact ⟨.nil, fun ns h => nomatch h⟩
  | _, _, nss, .cons (.tup (ds := ds) h1 h2) a, h => by
    obtain ⟨ns, e1, e2⟩ := Option.bind_eq_some_iff.mp (show (intsOf ds).bind _ = some nss from h)
    by_cases q : ns.isEmpty = true
    · rw [if_pos q] at e2; cases e2
    · rw [if_neg q] at e2
      obtain ⟨mss, e3, rfl⟩ := Option.map_eq_some_iff.mp e2
      obtain ⟨t1, t2⟩ := tups_of hK e a e3
      have h3 := sqT_same (K := G.K) e h1
      rw [h2.ints e1, ← hK] at h3
      refine ⟨.cons h3 t1, fun ms hm => ?_⟩
      rcases List.mem_cons.mp hm with rfl | hm
      · intro z
        rw [z] at q
        exact q rfl
      · exact t2 ms hm
  | _, _, nss, .cons .non a, h => nomatch h
  | _, _, nss, .cons (.bl _) a, h => nomatch h
  | _, _, nss, .cons (.int _) a, h => nomatch h
  | _, _, nss, .cons (.str _) a, h => nomatch h
  | _, _, nss, .cons (.lst _ _) a, h => nomatch h
  | _, _, nss, .cons .src a, h => nomatch h
  | _, _, nss, .cons (.dct _ _) a, h => nomatch h
  | _, _, nss, .cons (.dck _ _) a, h => nomatch h
theorem tupsOf_mem : ∀ {xs : List D} {nss : List (List Int)} {d : D}, tupsOf xs = some nss → d ∈ xs → ∃ (ds : List D) (ns : List Int), d = .tuple ds ∧ intsOf ds = some ns
  | [], _, _, _, hd => nomatch hd
  | x :: r, nss, d, h, hd => by
    cases x with
    | tuple ds =>
      obtain ⟨ns, e1, e2⟩ := Option.bind_eq_some_iff.mp (show (intsOf ds).bind _ = some nss from h)
      rcases List.mem_cons.mp hd with rfl | hd
      · exact ⟨ds, ns, rfl, e1⟩
      · by_cases q : ns.isEmpty = true
        · rw [if_pos q] at e2; cases e2
        · rw [if_neg q] at e2
          obtain ⟨mss, e3, _⟩ := Option.map_eq_some_iff.mp e2
          exact tupsOf_mem e3 hd
    | _ => cases h
theorem tups_rp (hK : X.K = G.K) {pins : List (Addr × Obj)} {σ : L2.St} {F H : Hp} {s : Shared} (I : Inv X pins σ H s) (e : Same F H) {vs : List V} {xs : List D} {nss : List (List Int)} (ra : RpA G.K G.sp F vs xs) (hn : tupsOf xs = some nss) :
    ∀ (ws : List V) (mss : List (List Int)), (∀ y ∈ ws, y ∈ vs) → TupsI X.K H ws mss → RpA G.K G.sp F ws (mss.map fun ns => .tuple (ns.map .int))
  | [], [], _, .nil => .nil
  | .ref a :: _, ns :: _, hm, .cons h t => by
    obtain ⟨i, hi, e2⟩ := List.mem_iff_getElem.mp (hm _ (List.mem_cons_self ..))
    obtain ⟨d, e3, r⟩ := ra.getV (show vs[i]? = some (V.ref a) by rw [← e2]; exact List.getElem?_eq_getElem hi)
    obtain ⟨ds, ms, rfl, e4⟩ := tupsOf_mem hn (List.mem_of_getElem? e3)
    obtain ⟨b, us, eb, h1, h2⟩ := r.tuple
    cases eb
    rw [h2.ints e4] at h1
    have h3 := sqT_same (K := G.K) e h1
    rw [← hK] at h3
    have e5 := I.tuple_inj h3 h
    rw [e5] at h1
    exact .cons (.tup h1 (RpA.ofInts ns)) (tups_rp hK I e ra hn _ _ (fun y hy => hm y (List.mem_cons_of_mem _ hy)) t)
theorem bi_ok (b : Bi) (hK : X.K = G.K) (hc : X.calm = true) (hg : X.A.guards = some []) (hu : X.A.units + 66 < cLine) : CallR X b.val (rBi (G := G) (biV b)) := by
  intro pins s σ H xs us Q I r ⟨F, sr, ds, d, e, q, f1, f2, hx, ho, k⟩
  have rf := Fw.refl e q
  cases b with
  | len =>
    unfold biV at ho
    split at ho <;> first | (simp only [reduceCtorEq] at *; done) | skip
    · rename_i ys _
      obtain ⟨x, rfl, h⟩ := rbA_one hx
      cases ho
      obtain ⟨p, vs, rfl, e1, n1, n2, ra⟩ := h
      exact call_len pins s σ H _ us Q I r ⟨_, vs.length, rfl, .inl ⟨vs, SqL.of e1, rfl⟩, ra.length ▸ k _ _ _ rf (.int _)⟩
    · rename_i ys _
      obtain ⟨x, rfl, h⟩ := rbA_one hx
      cases ho
      obtain ⟨p, vs, rfl, e1, ra⟩ := h.tuple
      exact call_len pins s σ H _ us Q I r ⟨_, vs.length, rfl, .inr ⟨vs, hK ▸ sqT_same e e1, rfl⟩, ra.length ▸ k _ _ _ rf (.int _)⟩
    · rename_i kvs _
      obtain ⟨x, rfl, h⟩ := rbA_one hx
      obtain ⟨hs, rfl⟩ := if_some ho
      rw [Bool.and_eq_true] at hs
      cases (show Rp G.K G.sp F x (.dict kvs) from h) with
      | src => cases hs.2
      | dct hF a0 =>
        cases a0 with
        | nil => cases hs.1
        | cons _ _ => cases hs.2
      | dck hF a0 =>
        rw [Vals.ref1 r]
        exact d_len I (.inl (e _ _ hF)) fun t s' I' => ⟨.int _, H, I', ⟨t, rfl⟩, rpI_len a0 ▸ k _ _ _ rf (.int _)⟩
    · rename_i z _
      obtain ⟨x, rfl, h⟩ := rbA_one hx
      obtain ⟨hs, rfl⟩ := if_some ho
      rw [h.str] at r
      exact call_len pins s σ H _ us Q I r ⟨_, z.length, rfl, ⟨small_le hs, rfl⟩, k _ _ _ rf (.int _)⟩
  | abs =>
    unfold biV at ho
    split at ho <;> first | (simp only [reduceCtorEq] at *; done) | skip
    rename_i i _
    obtain ⟨x, rfl, h⟩ := rbA_one hx
    cases ho
    rw [h.int] at r
    exact call_abs pins s σ H _ us Q I r ⟨i, rfl, k _ _ _ rf (.int _)⟩
  | tuple =>
    unfold biV at ho
    split at ho <;> first | (simp only [reduceCtorEq] at *; done) | skip
    · rename_i ys _
      obtain ⟨x, rfl, h⟩ := rbA_one hx
      cases ho
      obtain ⟨p, vs, rfl, e1, n1, n2, ra⟩ := h
      exact call_tuple_of pins s σ H _ us Q I r ⟨p, vs, rfl, .inl ⟨SqL.of e1, fun l hl => new_tup e q ra k l hl⟩⟩
    · rename_i ys _
      obtain ⟨x, rfl, h⟩ := rbA_one hx
      cases ho
      obtain ⟨p, vs, rfl, e1, ra⟩ := h.tuple
      exact call_tuple_of pins s σ H _ us Q I r ⟨p, vs, rfl, .inr ⟨hK ▸ sqT_same e e1, k _ _ _ rf (.tup e1 ra)⟩⟩
  | list =>
    unfold biV at ho
    split at ho <;> first | (simp only [reduceCtorEq] at *; done) | skip
    · rename_i ys _
      obtain ⟨x, rfl, h⟩ := rbA_one hx
      cases ho
      obtain ⟨p, vs, rfl, e1, n1, n2, ra⟩ := h
      exact call_list_of pins s σ H _ us Q I r ⟨p, vs, rfl, .inl (SqL.of e1), fun l hl => new_list e q f1 f2 ra k l hl⟩
    · rename_i ys _
      obtain ⟨x, rfl, h⟩ := rbA_one hx
      cases ho
      obtain ⟨p, vs, rfl, e1, ra⟩ := h.tuple
      exact call_list_of pins s σ H _ us Q I r ⟨p, vs, rfl, .inr (hK ▸ sqT_same e e1), fun l hl => new_list e q f1 f2 ra k l hl⟩
  | int =>
    unfold biV at ho
    split at ho <;> first | (simp only [reduceCtorEq] at *; done) | skip
    · rename_i i _
      obtain ⟨x, rfl, h⟩ := rbA_one hx
      cases ho
      rw [h.int] at r
      exact call_int1 pins s σ H _ us Q I r (.inl ⟨i, rfl, k _ _ _ rf (.int _)⟩)
    · rename_i i _
      obtain ⟨x, rfl, h⟩ := rbA_one hx
      cases ho
      rw [h.bool] at r
      exact call_int1 pins s σ H _ us Q I r (.inr ⟨i, rfl, k _ _ _ rf (.int _)⟩)
  | bool =>
    unfold biV at ho
    split at ho <;> first | (simp only [reduceCtorEq] at *; done) | skip
    · rename_i i _
      obtain ⟨x, rfl, h⟩ := rbA_one hx
      cases ho
      rw [h.int] at r
      exact call_bool1 pins s σ H _ us Q I r (.inl ⟨i, rfl, k _ _ _ rf (.bl _)⟩)
    · rename_i i _
      obtain ⟨x, rfl, h⟩ := rbA_one hx
      cases ho
      rw [h.bool] at r
      exact call_bool1 pins s σ H _ us Q I r (.inr ⟨i, rfl, k _ _ _ rf (.bl _)⟩)
  | sum =>
    unfold biV at ho
    split at ho <;> first | (simp only [reduceCtorEq] at *; done) | skip
    · rename_i ys _
      obtain ⟨ns, hn, rfl⟩ := Option.map_eq_some_iff.mp ho
      obtain ⟨x, rfl, h⟩ := rbA_one hx
      obtain ⟨p, vs, rfl, e1, n1, n2, ra⟩ := h
      rw [ra.ints hn] at e1
      exact cr_sum hc pins s σ H _ us Q I r ⟨p, ns, rfl, SqL.of e1, k _ _ _ rf (.int _)⟩
    · rename_i ys _
      obtain ⟨ns, hn, rfl⟩ := Option.map_eq_some_iff.mp ho
      obtain ⟨x, rfl, h⟩ := rbA_one hx
      obtain ⟨p, vs, rfl, e1, ra⟩ := h.tuple
      rw [ra.ints hn] at e1
      exact cr_sumT hc pins s σ H _ us Q I r ⟨p, ns, rfl, hK ▸ sqT_same e e1, k _ _ _ rf (.int _)⟩
  | any =>
    unfold biV at ho
    split at ho <;> first | (simp only [reduceCtorEq] at *; done) | skip
    · rename_i ys _
      obtain ⟨bs, hn, rfl⟩ := Option.map_eq_some_iff.mp ho
      obtain ⟨x, rfl, h⟩ := rbA_one hx
      obtain ⟨p, vs, rfl, e1, n1, n2, ra⟩ := h
      exact cr_anyG hc pins s σ H _ us Q I r ⟨p, vs, bs, rfl, .inl (SqL.of e1), ra.trs hn, k _ _ _ rf (.bl _)⟩
    · rename_i ys _
      obtain ⟨bs, hn, rfl⟩ := Option.map_eq_some_iff.mp ho
      obtain ⟨x, rfl, h⟩ := rbA_one hx
      obtain ⟨p, vs, rfl, e1, ra⟩ := h.tuple
      exact cr_anyG hc pins s σ H _ us Q I r ⟨p, vs, bs, rfl, .inr (hK ▸ sqT_same e e1), ra.trs hn, k _ _ _ rf (.bl _)⟩
  | all =>
    unfold biV at ho
    split at ho <;> first | (simp only [reduceCtorEq] at *; done) | skip
    · rename_i ys _
      obtain ⟨bs, hn, rfl⟩ := Option.map_eq_some_iff.mp ho
      obtain ⟨x, rfl, h⟩ := rbA_one hx
      obtain ⟨p, vs, rfl, e1, n1, n2, ra⟩ := h
      exact cr_allG hc pins s σ H _ us Q I r ⟨p, vs, bs, rfl, .inl (SqL.of e1), ra.trs hn, k _ _ _ rf (.bl _)⟩
    · rename_i ys _
      obtain ⟨bs, hn, rfl⟩ := Option.map_eq_some_iff.mp ho
      obtain ⟨x, rfl, h⟩ := rbA_one hx
      obtain ⟨p, vs, rfl, e1, ra⟩ := h.tuple
      exact cr_allG hc pins s σ H _ us Q I r ⟨p, vs, bs, rfl, .inr (hK ▸ sqT_same e e1), ra.trs hn, k _ _ _ rf (.bl _)⟩
  | max =>
    unfold biV at ho
    split at ho <;> first | (simp only [reduceCtorEq] at *; done) | skip
    · rename_i i j _
      obtain ⟨x, y, rfl, h1, h2⟩ := rbA_two hx
      cases ho
      rw [h1.int, h2.int] at r
      exact call_max2 hc pins s σ H _ us Q I r ⟨i, j, rfl, k _ _ _ rf (.int _)⟩
    · rename_i x0 ys _
      obtain ⟨ns, hn, rfl⟩ := Option.map_eq_some_iff.mp ho
      obtain ⟨x, rfl, h⟩ := rbA_one hx
      obtain ⟨p, vs, rfl, e1, n1, n2, ra⟩ := h
      have hv : vs = (x0 :: ns).map V.int := ra.ints (by simp [intsOf, hn])
      rw [hv] at e1
      exact cr_max hc pins s σ H _ us Q I r ⟨p, x0 :: ns, rfl, SqL.of e1, by simp, fun m hm hle => maxL_is hm hle ▸ k _ _ _ rf (.int _)⟩
    · rename_i x0 ys _
      obtain ⟨ns, hn, rfl⟩ := Option.map_eq_some_iff.mp ho
      obtain ⟨x, rfl, h⟩ := rbA_one hx
      obtain ⟨p, vs, rfl, e1, ra⟩ := h.tuple
      have hv : vs = (x0 :: ns).map V.int := ra.ints (by simp [intsOf, hn])
      rw [hv] at e1
      exact cr_maxT hc pins s σ H _ us Q I r ⟨p, x0 :: ns, rfl, hK ▸ sqT_same e e1, by simp, fun m hm hle => maxL_is hm hle ▸ k _ _ _ rf (.int _)⟩
  | min =>
    unfold biV at ho
    split at ho <;> first | (simp only [reduceCtorEq] at *; done) | skip
    · rename_i i j _
      obtain ⟨x, y, rfl, h1, h2⟩ := rbA_two hx
      cases ho
      rw [h1.int, h2.int] at r
      exact call_min2 hc pins s σ H _ us Q I r ⟨i, j, rfl, k _ _ _ rf (.int _)⟩
    · rename_i x0 ys _
      obtain ⟨ns, hn, rfl⟩ := Option.map_eq_some_iff.mp ho
      obtain ⟨x, rfl, h⟩ := rbA_one hx
      obtain ⟨p, vs, rfl, e1, n1, n2, ra⟩ := h
      have hv : vs = (x0 :: ns).map V.int := ra.ints (by simp [intsOf, hn])
      rw [hv] at e1
      exact cr_min hc pins s σ H _ us Q I r ⟨p, x0 :: ns, rfl, SqL.of e1, by simp, fun m hm hle => minL_is hm hle ▸ k _ _ _ rf (.int _)⟩
    · rename_i x0 ys _
      obtain ⟨ns, hn, rfl⟩ := Option.map_eq_some_iff.mp ho
      obtain ⟨x, rfl, h⟩ := rbA_one hx
      obtain ⟨p, vs, rfl, e1, ra⟩ := h.tuple
      have hv : vs = (x0 :: ns).map V.int := ra.ints (by simp [intsOf, hn])
      rw [hv] at e1
      exact cr_minT hc pins s σ H _ us Q I r ⟨p, x0 :: ns, rfl, hK ▸ sqT_same e e1, by simp, fun m hm hle => minL_is hm hle ▸ k _ _ _ rf (.int _)⟩
  | repr =>
    unfold biV at ho
    split at ho <;> first | (simp only [reduceCtorEq] at *; done) | skip
    rename_i d0 _
    obtain ⟨hs, rfl⟩ := if_some ho
    obtain ⟨x, rfl, h⟩ := rbA_one hx
    obtain ⟨u, rfl, ru⟩ := vals1 r
    simp only [Bool.and_eq_true] at hs
    exact repr_ok hK hg hu I e ru h hs.1.1 hs.1.2 hs.2 (k _ _ _ rf (.str _))
  | sorted =>
    unfold biV at ho
    split at ho <;> first | (simp only [reduceCtorEq] at *; done) | skip
    · rename_i ys _
      obtain ⟨x, rfl, h⟩ := rbA_one hx
      obtain ⟨p, vs, rfl, e1, n1, n2, ra⟩ := h
      unfold sortV at ho
      split at ho
      · rename_i ns hn
        cases ho
        rw [ra.ints hn] at e1
        refine cr_sortedI pins s σ H _ us Q I r ⟨p, ns, rfl, SqL.of e1, fun ns' p' pm sr' hp => ?_⟩
        rw [sorted_uniq sr' (sortI_sorted ns) (pm.trans (sortI_perm ns).symm)]
        exact new_list e q f1 f2 (RpA.ofInts (sortI ns)) k p' hp
      · obtain ⟨nss, hn, rfl⟩ := Option.map_eq_some_iff.mp ho
        obtain ⟨t1, t2⟩ := tups_of hK e ra hn
        refine cr_sortTI pins s σ H _ us Q I r ⟨p, vs, nss, rfl, SqL.of e1, t1, t2, fun ws p' hm ht hp => ?_⟩
        exact new_list e q f1 f2 (tups_rp hK I e ra hn ws _ hm ht) k p' hp
    · rename_i kvs _
      obtain ⟨x, rfl, h⟩ := rbA_one hx
      obtain ⟨nss, hn, h2⟩ := Option.bind_eq_some_iff.mp ho
      by_cases q0 : nss.isEmpty = true
      · rw [if_pos q0] at h2; cases h2
      rw [if_neg q0] at h2
      cases h2
      cases (show Rp G.K G.sp F x (.dict kvs) from h) with
      | src => cases hn
      | dck hF a0 =>
        rw [dck_keys a0 hn] at q0
        exact absurd rfl q0
      | dct hF a0 =>
        obtain ⟨t1, t2⟩ := dct_keys a0 hn
        refine cr_sortDT (I.ok.hd hc) pins s σ H _ us Q I r ⟨_, _, nss, rfl, e _ _ hF, t1, t2, fun ys p' ht hp => ?_⟩
        have fw := frT_fw (xs := ys) e q (tupsH_all ht)
        have g1 : frT F H ys G.sp = none := fw.new _ f1 (nt_of q.1 nofun)
        have g2 : frT F H ys G.cc = none := fw.new _ f2 (nt_of q.2 nofun)
        exact new_list fw.sub fw.src g1 g2 (tupsH_rp e ys ys _ (fun y hy => hy) ht) (fun z F' H' f' hz => k z F' H' (fw.trans f') hz) p' hp
    · rename_i ys _
      obtain ⟨ns, hn, rfl⟩ := Option.map_eq_some_iff.mp ho
      obtain ⟨x, rfl, h⟩ := rbA_one hx
      obtain ⟨p, vs, rfl, e1, ra⟩ := h.tuple
      rw [ra.ints hn] at e1
      refine cr_sortIT pins s σ H _ us Q I r ⟨p, ns, rfl, hK ▸ sqT_same e e1, fun ns' p' pm sr' hp => ?_⟩
      rw [sorted_uniq sr' (sortI_sorted ns) (pm.trans (sortI_perm ns).symm)]
      exact new_list e q f1 f2 (RpA.ofInts (sortI ns)) k p' hp
end
end Fz
/-! FzG: targets, what is walked, comprehensions. -/
namespace Fz
open PySem PySem.Spec PyProof.Rows L2
/-! ### environments that agree -/
def Agree (A : List Nat) (a b : En) : Prop := a.length = b.length ∧ ∀ i, i ∉ A → a.getD i none = b.getD i none
theorem agree_set {A : List Nat} {a b : En} (h : Agree A a b) (i : Nat) (x : Option D) : Agree (A.filter fun j => j != i) (a.set i x) (b.set i x) := by
  refine ⟨by simpa using h.1, fun j hj => ?_⟩
  by_cases e : j = i
  · subst e
    by_cases hl : j < a.length
    · have hl2 : j < b.length := h.1 ▸ hl
      simp [List.getD_eq_getElem?_getD, List.getElem?_set_self hl, List.getElem?_set_self hl2]
    · have hl2 : ¬ j < b.length := h.1 ▸ hl
      rw [List.getD_eq_getElem?_getD, List.getD_eq_getElem?_getD, List.getElem?_eq_none (by rw [List.length_set]; omega), List.getElem?_eq_none (by rw [List.length_set]; omega)]
  · have hA : j ∉ A := fun q => hj (List.mem_filter.mpr ⟨q, by simpa using e⟩)
    have := h.2 j hA
    simp only [List.getD_eq_getElem?_getD] at this ⊢
    rw [List.getElem?_set_ne (Ne.symm e), List.getElem?_set_ne (Ne.symm e)]
    exact this
theorem Agree.eq {a b : En} (h : Agree [] a b) : a = b := by
  refine List.ext_getElem? fun i => ?_
  have := h.2 i (by simp)
  simp only [List.getD_eq_getElem?_getD] at this
  by_cases hl : i < a.length
  · have hl2 : i < b.length := h.1 ▸ hl
    rw [List.getElem?_eq_getElem hl, List.getElem?_eq_getElem hl2] at this ⊢
    simpa using this
  · have hl2 : ¬ i < b.length := h.1 ▸ hl
    rw [List.getElem?_eq_none (by omega), List.getElem?_eq_none (by omega)]
theorem Agree.sub {A B : List Nat} {a b : En} (h : Agree A a b) (s : ∀ i ∈ A, i ∈ B) : Agree B a b := ⟨h.1, fun i hi => h.2 i fun q => hi (s i q)⟩
mutual
theorem tgSet_agree : ∀ (t : Tg) (d : D) (A : List Nat) (en en' e1 : En), Agree A en' en → tgSet t d en = some e1 → ∃ e1', tgSet t d en' = some e1' ∧ Agree (A.filter fun j => !t.slots.contains j) e1' e1
  | .name i, d, A, en, en', e1, h, e => by
    have e2 : en.set i (some d) = e1 := by simpa [tgSet] using e
    subst e2
    refine ⟨en'.set i (some d), by simp [tgSet], (agree_set h i (some d)).sub fun j hj => ?_⟩
    obtain ⟨h1, h2⟩ := List.mem_filter.mp hj
    refine List.mem_filter.mpr ⟨h1, ?_⟩
    have : j ≠ i := by simpa using h2
    simp [Tg.slots, this]
  | .tup ts, d, A, en, en', e1, h, e => by
    cases d with
    | tuple ds => exact tgSets_agree ts ds A en en' e1 h (by simpa [tgSet] using e)
    | list ds => exact tgSets_agree ts ds A en en' e1 h (by simpa [tgSet] using e)
    | _ => simp [tgSet] at e
theorem tgSets_agree : ∀ (ts : List Tg) (ds : List D) (A : List Nat) (en en' e1 : En), Agree A en' en → tgSets ts ds en = some e1 → ∃ e1', tgSets ts ds en' = some e1' ∧ Agree (A.filter fun j => !(Tg.slots.slotsL ts).contains j) e1' e1
  | [], ds, A, en, en', e1, h, e => by
    cases ds with
    | nil =>
      have e2 : en = e1 := by simpa [tgSets] using e
      subst e2
      exact ⟨en', by simp [tgSets], h.sub fun j hj => List.mem_filter.mpr ⟨hj, by simp [Tg.slots.slotsL]⟩⟩
    | cons _ _ => simp [tgSets] at e
  | t :: ts, ds, A, en, en', e1, h, e => by
    cases ds with
    | nil => simp [tgSets] at e
    | cons d ds =>
      obtain ⟨ea, h1, h2⟩ := Option.bind_eq_some_iff.mp (show (tgSet t d en).bind (fun x => tgSets ts ds x) = some e1 by simpa [tgSets] using e)
      obtain ⟨ea', h3, h4⟩ := tgSet_agree t d A en en' ea h h1
      obtain ⟨eb', h5, h6⟩ := tgSets_agree ts ds _ ea ea' e1 h4 h2
      refine ⟨eb', ?_, h6.sub fun j hj => ?_⟩
      · have : (tgSet t d en').bind (fun x => tgSets ts ds x) = some eb' := by rw [h3]; exact h5
        simpa [tgSets] using this
      · obtain ⟨a1, a2⟩ := List.mem_filter.mp hj
        obtain ⟨a3, a4⟩ := List.mem_filter.mp a1
        refine List.mem_filter.mpr ⟨a3, ?_⟩
        simp only [Bool.not_eq_true', List.contains_eq_mem, decide_eq_false_iff_not] at a2 a4 ⊢
        simp only [Tg.slots.slotsL, List.mem_append, not_or]
        exact ⟨a4, a2⟩
end
def wipeE (en : En) : List Nat → En
  | [] => en
  | v :: vs => (wipeE en vs).set v none
theorem wipeE_len (en : En) : ∀ vs, (wipeE en vs).length = en.length
  | [] => rfl
  | v :: vs => by unfold wipeE; rw [List.length_set, wipeE_len en vs]
theorem wipeE_out {en : En} {i : Nat} : ∀ {vs : List Nat}, i ∉ vs → (wipeE en vs).getD i none = en.getD i none
  | [], _ => rfl
  | v :: vs, h => by
    have h1 : i ≠ v := fun e => h (by rw [e]; exact List.mem_cons_self ..)
    have h2 : i ∉ vs := fun q => h (List.mem_cons_of_mem _ q)
    unfold wipeE
    rw [List.getD_eq_getElem?_getD, List.getElem?_set_ne (Ne.symm h1), ← List.getD_eq_getElem?_getD]
    exact wipeE_out h2
theorem wipeE_in {en : En} {i : Nat} {d : D} : ∀ {vs : List Nat}, (wipeE en vs).getD i none = some d → i ∉ vs ∧ en.getD i none = some d
  | [], h => ⟨by simp, h⟩
  | v :: vs, h => by
    unfold wipeE at h
    by_cases e : i = v
    · subst e
      exfalso
      by_cases hl : i < (wipeE en vs).length
      · rw [List.getD_eq_getElem?_getD, List.getElem?_set_self hl] at h; cases h
      · rw [List.getD_eq_getElem?_getD, List.getElem?_eq_none (by simpa using Nat.le_of_not_lt hl)] at h; cases h
    · rw [List.getD_eq_getElem?_getD, List.getElem?_set_ne (Ne.symm e), ← List.getD_eq_getElem?_getD] at h
      obtain ⟨h1, h2⟩ := wipeE_in h
      exact ⟨by simp [e, h1], h2⟩
theorem tgSet_wipe {t : Tg} {d : D} {en e1 : En} (h : tgSet t d en = some e1) : tgSet t d (wipeE en t.slots) = some e1 := by
  obtain ⟨e1', h1, h2⟩ := tgSet_agree t d t.slots en (wipeE en t.slots) e1 ⟨wipeE_len _ _, fun i hi => wipeE_out hi⟩ h
  have : e1' = e1 := (h2.sub fun j hj => by
    obtain ⟨a, b⟩ := List.mem_filter.mp hj
    simp [a] at b).eq
  rw [h1, this]
theorem wipe_set {σ : L2.St} {i : Nat} {x : Option V} : ∀ {vs : List Nat}, i ∈ vs → wipe (σ.set i x) vs = wipe σ vs
  | v :: vs, h => by
    unfold wipe
    by_cases e : i = v
    · subst e
      by_cases hv : i ∈ vs
      · rw [wipe_set hv]
      · have : ∀ (us : List Nat), i ∉ us → wipe (σ.set i x) us = (wipe σ us).set i x := by
          intro us
          induction us with
          | nil => intro _; rfl
          | cons u us ih =>
            intro hu
            have h1 : u ≠ i := fun e => hu (by rw [e]; exact List.mem_cons_self ..)
            unfold wipe
            rw [ih fun q => hu (List.mem_cons_of_mem _ q), List.set_comm _ _ (Ne.symm h1)]
        rw [this vs hv, List.set_set]
    · have hv : i ∈ vs := by
        rcases List.mem_cons.mp h with q | q
        · exact absurd q e
        · exact q
      rw [wipe_set hv]
section
variable {K : PySem.W.Frag} {sp cc : Addr} {F H : Hp} {s : Src} {g : List Nat} {en : En} {σ : L2.St}
theorem Rl.congr {g' : List Nat} (R : Rl K sp cc g en σ F H s) (h : ∀ i, i ∈ g ↔ i ∈ g') : Rl K sp cc g' en σ F H s where
  sub := R.sub
  src := R.src
  fsp := R.fsp
  fcc := R.fcc
  len := R.len
  val := fun i d e n => R.val i d e fun q => n ((h i).mp q)
  own := fun i hi => R.own i ((h i).mpr hi)
  dis := fun i j a hi hj => R.dis i j a ((h i).mpr hi) ((h j).mpr hj)
/-- a slot that holds data now -/
theorem Rl.setF {i : Nat} {x : V} {d : D} (R : Rl K sp cc g en σ F H s) (r : Rp K sp F x d) : Rl K sp cc (g.filter fun j => j != i) (en.set i (some d)) (σ.set i (some x)) F H s where
  sub := R.sub
  src := R.src
  fsp := R.fsp
  fcc := R.fcc
  len := by simpa using R.len
  val := fun j d' e n => by
    by_cases hj : j = i
    · subst hj
      by_cases hl : j < en.length
      · rw [List.getD_eq_getElem?_getD, List.getElem?_set_self hl] at e
        cases e
        exact ⟨x, List.getElem?_set_self (R.len ▸ hl), r⟩
      · rw [List.getD_eq_getElem?_getD, List.getElem?_eq_none (by simpa using Nat.le_of_not_lt hl)] at e; cases e
    · rw [List.getD_eq_getElem?_getD, List.getElem?_set_ne (Ne.symm hj), ← List.getD_eq_getElem?_getD] at e
      rw [List.getElem?_set_ne (Ne.symm hj)]
      exact R.val j d' e fun q => n (List.mem_filter.mpr ⟨q, by simpa using hj⟩)
  own := fun j hm d' e => by
    obtain ⟨h1, h2⟩ := List.mem_filter.mp hm
    have hj : j ≠ i := by simpa using h2
    rw [List.getD_eq_getElem?_getD, List.getElem?_set_ne (Ne.symm hj), ← List.getD_eq_getElem?_getD] at e
    rw [List.getElem?_set_ne (Ne.symm hj)]
    exact R.own j h1 d' e
  dis := fun j k a hj hk ej ek sj sk => by
    obtain ⟨h1, h2⟩ := List.mem_filter.mp hj
    obtain ⟨h3, h4⟩ := List.mem_filter.mp hk
    have nj : j ≠ i := by simpa using h2
    have nk : k ≠ i := by simpa using h4
    rw [List.getD_eq_getElem?_getD, List.getElem?_set_ne (Ne.symm nj), ← List.getD_eq_getElem?_getD] at ej
    rw [List.getD_eq_getElem?_getD, List.getElem?_set_ne (Ne.symm nk), ← List.getD_eq_getElem?_getD] at ek
    rw [List.getElem?_set_ne (Ne.symm nj)] at sj
    rw [List.getElem?_set_ne (Ne.symm nk)] at sk
    exact R.dis j k a h1 h3 ej ek sj sk
theorem Rl.wipe (R : Rl K sp cc g en σ F H s) (vs : List Nat) : Rl K sp cc (g.filter fun j => !vs.contains j) (wipeE en vs) (wipe σ vs) F H s where
  sub := R.sub
  src := R.src
  fsp := R.fsp
  fcc := R.fcc
  len := by rw [wipeE_len, wipe_length, R.len]
  val := fun j d e n => by
    obtain ⟨h1, h2⟩ := wipeE_in e
    rw [wipe_out h1]
    exact R.val j d h2 fun q => n (List.mem_filter.mpr ⟨q, by simpa using h1⟩)
  own := fun j hm d e => by
    obtain ⟨h1, h2⟩ := wipeE_in e
    rw [wipe_out h1]
    exact R.own j (List.mem_filter.mp hm).1 d h2
  dis := fun j k a hj hk ej ek sj sk => by
    obtain ⟨h1, h2⟩ := List.mem_filter.mp hj
    obtain ⟨h3, h4⟩ := List.mem_filter.mp hk
    have nj : j ∉ vs := by simpa using h2
    have nk : k ∉ vs := by simpa using h4
    rw [wipe_out nj] at sj
    rw [wipe_out nk] at sk
    rw [wipeE_out nj] at ej
    rw [wipeE_out nk] at ek
    exact R.dis j k a h1 h3 ej ek sj sk
end
/-! ### targets -/
section
variable (G : Gx)
def RdG (t : Tg) : TG := fun x σ H Q => ∃ g en F s d en2, Rl G.K G.sp G.cc g en σ F H s ∧ Rp G.K G.sp F x d ∧ tgSet t d en = some en2 ∧
  ∀ σ2, Rl G.K G.sp G.cc (g.filter fun j => !t.slots.contains j) en2 σ2 F H s → (∀ vs : List Nat, (∀ i ∈ t.slots, i ∈ vs) → wipe σ2 vs = wipe σ vs) → Q σ2 H
def RdGs (ts : List Tg) : TGs := fun xs σ H Q => ∃ g en F s ds en2, Rl G.K G.sp G.cc g en σ F H s ∧ RpA G.K G.sp F xs ds ∧ tgSets ts ds en = some en2 ∧
  ∀ σ2, Rl G.K G.sp G.cc (g.filter fun j => !(Tg.slots.slotsL ts).contains j) en2 σ2 F H s → (∀ vs : List Nat, (∀ i ∈ Tg.slots.slotsL ts, i ∈ vs) → wipe σ2 vs = wipe σ vs) → Q σ2 H
end
theorem pg_imp {X : Cx} {e : Expr} {t t' : TG} (h : PG X e t) (i : ∀ v σ H Q, t' v σ H Q → t v σ H Q) : PG X e t' := ⟨fun pins s σ H v u Q I r q => h.run pins s σ H v u Q I r (i _ _ _ _ q)⟩
theorem pgs_imp {X : Cx} {es : List Expr} {t t' : TGs} (h : PGs X es t) (i : ∀ v σ H Q, t' v σ H Q → t v σ H Q) : PGs X es t' := ⟨fun pins s σ H v u Q I r q => h.run pins s σ H v u Q I r (i _ _ _ _ q)⟩
theorem assignEach_no {e : Expr} (h : isStarX e = false) (es : List Expr) (env : Env) : assignEach (e :: es) env = (false, assign e env) :: assignEach es env := by
  cases e <;> first | rfl | cases h
theorem assignEach_all {env : Env} : ∀ {es : List Expr}, es.all (fun e => !isStarX e) = true → (assignEach es env).length = es.length ∧ (assignEach es env).findIdx? (·.1) = none
  | [], _ => ⟨rfl, rfl⟩
  | e :: es, h => by
    have h2 := Bool.and_eq_true_iff.mp (show (!isStarX e && es.all fun e => !isStarX e) = true from h)
    have h3 : isStarX e = false := by simpa using h2.1
    obtain ⟨a, b⟩ := assignEach_all (env := env) h2.2
    rw [assignEach_no h3]
    refine ⟨by simp [a], ?_⟩
    rw [List.findIdx?_cons, b]; rfl
section
variable {X : Cx} {G : Gx}
theorem okG_name {i : Nat} {x : Str} {pos : Pos} (hN : X.N.Nodup) (hi : X.N[i]? = some x) (hx : Loc X.env.scope x) (hf : X.fn x = true ∨ X.env.scope.names.lookup x = some .local) : PG X (.Name x pos) (RdG G (.name i)) := by
  refine pg_imp (pg_name hN hi hx hf) fun v σ H Q ⟨g, en, F, s, d, en2, R, r, e, k⟩ => ?_
  have e2 : en.set i (some d) = en2 := by simpa [tgSet] using e
  subst e2
  refine k _ ((R.setF (i := i) r).congr fun j => ?_) fun vs hv => wipe_set (hv i (by simp [Tg.slots]))
  simp [Tg.slots, List.mem_filter]
theorem okGs_nil : PGs X [] (RdGs G []) := pgs_imp pgs_nil fun v σ H Q ⟨g, en, F, s, ds, en2, R, r, e, k⟩ => by
  cases r with
  | nil =>
    have e2 : en = en2 := by simpa [tgSets] using e
    subst e2
    exact ⟨rfl, k σ (R.congr fun j => by simp [Tg.slots.slotsL, List.mem_filter]) fun _ _ => rfl⟩
  | cons _ _ => simp [tgSets] at e
theorem okGs_cons {t : Tg} {ts : List Tg} {e : Expr} {es : List Expr} (hs : isStarX e = false) (h1 : PG X e (RdG G t)) (h2 : PGs X es (RdGs G ts)) : PGs X (e :: es) (RdGs G (t :: ts)) := by
  refine pgs_imp (pgs_cons h1 h2 (by rw [assignEach_no hs]; rfl)) fun xs σ H Q ⟨g, en, F, s, ds, en2, R, r, e, k⟩ => ?_
  cases r with
  | nil => simp [tgSets] at e
  | @cons v vs d ds r rs =>
    obtain ⟨ea, q1, q2⟩ := Option.bind_eq_some_iff.mp (show (tgSet t d en).bind (fun x => tgSets ts ds x) = some en2 by simpa [tgSets] using e)
    refine ⟨v, vs, rfl, g, en, F, s, d, ea, R, r, q1, fun σ2 R2 w2 => ⟨_, ea, F, s, ds, en2, R2, rs, q2, fun σ3 R3 w3 => k σ3 (R3.congr fun j => ?_) fun us hu => ?_⟩⟩
    · simp only [List.mem_filter, Tg.slots.slotsL, Bool.not_eq_true', List.contains_eq_mem, decide_eq_false_iff_not, List.mem_append, not_or]
      constructor
      · rintro ⟨⟨a, b⟩, c⟩; exact ⟨a, b, c⟩
      · rintro ⟨a, b, c⟩; exact ⟨⟨a, b⟩, c⟩
    · rw [w3 us fun i hi => hu i (by simp [Tg.slots.slotsL, hi]), w2 us fun i hi => hu i (by simp [Tg.slots.slotsL, hi])]
theorem pg_or {tg : Expr} {t1 t2 : TG} (h1 : PG X tg t1) (h2 : PG X tg t2) : PG X tg (fun v σ H Q => t1 v σ H Q ∨ t2 v σ H Q) := ⟨fun pins s σ H v u Q I r q => by
  rcases q with q | q
  · exact h1.run pins s σ H v u Q I r q
  · exact h2.run pins s σ H v u Q I r q⟩
theorem tgSets_len : ∀ (ts : List Tg) (ds : List D) (en en2 : En), tgSets ts ds en = some en2 → ds.length = ts.length := by
  intro ts
  induction ts with
  | nil => intro ds en en2 e; cases ds with
    | nil => rfl
    | cons _ _ => simp [tgSets] at e
  | cons t ts ih => intro ds en en2 e; cases ds with
    | nil => simp [tgSets] at e
    | cons d ds =>
      obtain ⟨ea, q1, q2⟩ := Option.bind_eq_some_iff.mp (show (tgSet t d en).bind (fun x => tgSets ts ds x) = some en2 by simpa [tgSets] using e)
      simp [ih ds ea en2 q2]
theorem okG_tup {ts : List Tg} {es : List Expr} {n : Nat} {pos : Pos} (hK : X.K = G.K) (hc : X.calm = true) (hs : es.all (fun e => !isStarX e) = true) (hl : es.length = ts.length) (h : PGs X es (RdGs G ts)) : PG X (.Tuple es n pos) (RdG G (.tup ts)) := by
  obtain ⟨h1, h2⟩ := assignEach_all (env := X.env) hs
  refine pg_imp (pg_or (pg_tup hc h h1 h2) (pg_unl hc h h1 h2)) fun v σ H Q ⟨g, en, F, s, d, en2, R, r, e, k⟩ => ?_
  cases d with
  | tuple ds =>
    obtain ⟨a, vs, rfl, ha, ra⟩ := r.tuple
    have e2 : tgSets ts ds en = some en2 := by simpa [tgSet] using e
    refine .inl ⟨a, vs, rfl, hK ▸ sqT_same R.sub ha, ?_, g, en, F, s, ds, en2, R, ra, e2, k⟩
    rw [ra.length, tgSets_len _ _ _ _ e2, hl]
  | list ds =>
    have e2 : tgSets ts ds en = some en2 := by simpa [tgSet] using e
    cases r with
    | @lst a vs _ ha ra =>
      refine .inr ⟨a, vs, rfl, SqL.of (R.sub _ _ ha), ?_, g, en, F, s, ds, en2, R, ra, e2, k⟩
      rw [ra.length, tgSets_len _ _ _ _ e2, hl]
  | _ => simp [tgSet] at e
end
end Fz
/-! FzH: what a for or a comprehension walks; list comprehensions. -/
namespace Fz
open PySem PySem.Spec PyProof.Rows L2
section
variable (G : Gx)
/-- what a turn yields -/
def Yd (F1 : Hp) (xs : List D) : Nat → Hp → V → Hp → Prop := fun i H x H' => ∃ d, xs[i]? = some d ∧
  ∀ F s, Same F1 F → Same F H → SrcAt G.sp G.cc H s → F G.sp = none → F G.cc = none → ∃ F', Fw G.sp G.cc F H F' H' s ∧ Rp G.K G.sp F' x d
def RdI (it : E) : TI := fun σ H R => ∃ g en F s d xs s', Rl G.K G.sp G.cc g en σ F H s ∧ Off g (lkB it) ∧ evE G.v G.c it en s = some (d, s') ∧ seqOf d = some xs ∧
  ∀ J F' H' Gd, Fw G.sp G.cc F H F' H' s' → Walk J xs.length Gd (Yd G F' xs) → (Off g (lk it) → ∀ H'', Same F' H'' → Gd H'') → (∀ F'' H'' s'', Fw G.sp G.cc F' H' F'' H'' s'' → Gd H'') → R J H'
end
theorem pi_imp {X : Cx} {tg e : Expr} {t t' : TI} (h : PI X tg e t) (i : ∀ σ H Q, t' σ H Q → t σ H Q) : PI X tg e t' := ⟨fun pins s σ H R I q => h.run pins s σ H R I (i _ _ _ q)⟩
section
variable {X : Cx} {G : Gx}
theorem yd_at {F1 : Hp} {vs : List V} {xs : List D} (ra : RpA G.K G.sp F1 vs xs) {i : Nat} {H H' : Hp} {x : V} (e : H' = H) (hx : vs[i]? = some x) : Yd G F1 xs i H x H' := by
  obtain ⟨d, e1, r⟩ := ra.getV hx
  subst e
  exact ⟨d, e1, fun F s h1 h2 h3 _ _ => ⟨F, Fw.refl h2 h3, r.mono h1⟩⟩
theorem okI_seq {it : E} {tg ex : Expr} (hK : X.K = G.K) (h : OkE X G it ex) : PI X tg ex (RdI G it) := by
  refine ⟨fun pins st σ H R I ⟨g, en, F, s, d, xs, s', Rr, off, he, hq, k⟩ => ?_⟩
  by_cases ho : Off g (lk it)
  · cases d with
    | list ys =>
      cases hq
      refine (pi_list (tg := tg) h.V).run pins st σ H R I ⟨g, en, F, s, _, s', Rr, ho, he, fun x F1 H1 f r => ?_⟩
      cases r with
      | @lst a vs ds e ra =>
        refine ⟨a, rfl, ⟨vs, SqL.of (f.sub _ _ e)⟩, k _ F1 H1 (fun H'' => SqL X.K H'' a vs) f ?_ (fun _ H'' hs => SqL.of (hs _ _ e)) (fun F'' H'' s'' f2 => SqL.of (f2.sub _ _ (f2.fr _ _ e)))⟩
        rw [← ra.length]
        exact (walk_list (K := X.K)).mono (fun _ z => z) fun i H x H' _ _ y => yd_at ra y.1 y.2
    | tuple ys =>
      cases hq
      refine (pi_tup (tg := tg) h.V).run pins st σ H R I ⟨g, en, F, s, _, s', Rr, ho, he, fun x F1 H1 f r => ?_⟩
      obtain ⟨a, vs, rfl, e, ra⟩ := r.tuple
      refine ⟨a, rfl, ⟨vs, hK ▸ sqT_same f.sub e⟩, k _ F1 H1 (fun H'' => SqT X.K H'' a vs) f ?_ (fun _ H'' hs => hK ▸ sqT_same hs e) (fun F'' H'' s'' f2 => hK ▸ sqT_same (f2.fr.trans f2.sub) e)⟩
      rw [← ra.length]
      exact (walk_tup (K := X.K)).mono (fun _ z => z) fun i H x H' _ _ y => yd_at ra y.1 y.2
    | _ => cases hq
  · cases d with
    | list ys =>
      cases hq
      refine (pi_list (tg := tg) h.B).run pins st σ H R I ⟨g, en, F, s, _, s', Rr, off, he, fun x F1 H1 f r => ?_⟩
      obtain ⟨a, vs, rfl, e, n1, n2, ra⟩ := r
      refine ⟨a, rfl, ⟨vs, SqL.of e⟩, k _ F1 H1 (fun H'' => SqL X.K H'' a vs) f ?_ (fun z => absurd z ho) (fun F'' H'' s'' f2 => SqL.of (f2.keep _ _ e n1 n2))⟩
      rw [← ra.length]
      exact (walk_list (K := X.K)).mono (fun _ z => z) fun i H x H' _ _ y => yd_at ra y.1 y.2
    | tuple ys =>
      cases hq
      refine (pi_tup (tg := tg) h.B).run pins st σ H R I ⟨g, en, F, s, _, s', Rr, off, he, fun x F1 H1 f r => ?_⟩
      obtain ⟨a, vs, rfl, e, ra⟩ := r.tuple
      refine ⟨a, rfl, ⟨vs, hK ▸ sqT_same f.sub e⟩, k _ F1 H1 (fun H'' => SqT X.K H'' a vs) f ?_ (fun z => absurd z ho) (fun F'' H'' s'' f2 => hK ▸ sqT_same (f2.fr.trans f2.sub) e)⟩
      rw [← ra.length]
      exact (walk_tup (K := X.K)).mono (fun _ z => z) fun i H x H' _ _ y => yd_at ra y.1 y.2
    | _ => cases hq
theorem rngL_get {lo : Int} {n i : Nat} (h : i < n) : (rngL lo n)[i]? = some (.int (lo + (i : Nat))) := by
  unfold rngL
  rw [List.getElem?_map, List.getElem?_range h]; rfl
theorem rngL_len {lo : Int} {n : Nat} : (rngL lo n).length = n := by unfold rngL; simp
theorem walk_rng {lo : Int} {n : Nat} {F1 : Hp} : Walk (Itr lo n) (rngL lo n).length (fun _ => True) (Yd G F1 (rngL lo n)) := by
  rw [rngL_len]
  refine walk_range.mono (fun _ _ => trivial) fun i H x H' hi _ y => ?_
  obtain ⟨rfl, rfl⟩ := y
  exact ⟨_, rngL_get hi, fun F s h1 h2 h3 _ _ => ⟨F, Fw.refl h2 h3, .int _⟩⟩
theorem inR_ok {i : Int} (h : inR i = true) : -(2 ^ 62) ≤ i ∧ i < 2 ^ 62 := by
  obtain ⟨h1, h2⟩ := Bool.and_eq_true_iff.mp h
  have h1 : -(2 ^ 40) ≤ i := of_decide_eq_true h1
  have h2 : i ≤ 2 ^ 40 := of_decide_eq_true h2
  omega
theorem okI_rng1 {a : E} {tg ex : Expr} {p pos : Pos} (hsa : isStarE a = false) (hg : Gl X "range") (hm : X.mg "range" = none) (hs : isStarX ex = false) (ha : PA X [ex] (RdBL G [a])) : PI X tg (.Call (.Name "range" p) [ex] [] pos) (RdI G (.rng [a])) := by
  refine pi_imp (pi_range1 hg hm ha (by rw [starEach_no hs]; rfl)) fun σ H R ⟨g, en, F, s, d, xs, s', Rr, off, he, hq, k⟩ => ?_
  obtain ⟨ds, s1, h1, h⟩ := bnd_some he
  obtain ⟨h2, rfl⟩ := lift_some h
  obtain ⟨l, h3, h4⟩ := Option.bind_eq_some_iff.mp h2
  obtain ⟨l2, h5, rfl⟩ := Option.map_eq_some_iff.mp h4
  obtain ⟨_, rfl⟩ := if_some h5
  cases hq
  refine ⟨g, en, F, s, ds, s', Rr, off, h1, fun vs F1 H1 f r => ?_⟩
  unfold rngV at h3
  split at h3 <;> first | (simp only [reduceCtorEq] at *; done) | skip
  · rename_i j
    obtain ⟨hj, rfl⟩ := if_some h3
    obtain ⟨x, rfl, hx⟩ := rbA_one r
    obtain ⟨b1, b2⟩ := inR_ok hj
    exact ⟨j, by rw [hx.int], b1, b2, k _ F1 H1 _ f walk_rng (fun _ _ _ => trivial) fun _ _ _ _ => trivial⟩
  · rename_i i j
    exfalso
    rw [evL_cons hsa] at h1
    obtain ⟨d1, s2, q1, q⟩ := bnd_some h1
    obtain ⟨d2, s3, q2, q⟩ := bnd_some q
    obtain ⟨e1, _⟩ := ret_some q
    obtain ⟨e2, _⟩ := ret_some q2
    rw [← e2] at e1
    simp at e1
theorem okI_rng2 {a b : E} {tg ex ey : Expr} {p pos : Pos} (hsa : isStarE a = false) (hsb : isStarE b = false) (hg : Gl X "range") (hm : X.mg "range" = none) (hs : isStarX ex = false) (hs2 : isStarX ey = false) (ha : PA X [ex, ey] (RdBL G [a, b])) :
    PI X tg (.Call (.Name "range" p) [ex, ey] [] pos) (RdI G (.rng [a, b])) := by
  refine pi_imp (pi_range2 hg hm ha (by rw [starEach_no hs, starEach_no hs2]; rfl) (by rw [starEach_no hs2]; rfl)) fun σ H R ⟨g, en, F, s, d, xs, s', Rr, off, he, hq, k⟩ => ?_
  obtain ⟨ds, s1, h1, h⟩ := bnd_some he
  obtain ⟨h2, rfl⟩ := lift_some h
  obtain ⟨l, h3, h4⟩ := Option.bind_eq_some_iff.mp h2
  obtain ⟨l2, h5, rfl⟩ := Option.map_eq_some_iff.mp h4
  obtain ⟨_, rfl⟩ := if_some h5
  cases hq
  refine ⟨g, en, F, s, ds, s', Rr, off, h1, fun vs F1 H1 f r => ?_⟩
  unfold rngV at h3
  split at h3 <;> first | (simp only [reduceCtorEq] at *; done) | skip
  · rename_i j
    exfalso
    rw [evL_cons hsa] at h1
    obtain ⟨d1, s2, q1, q⟩ := bnd_some h1
    obtain ⟨d2, s3, q2, q⟩ := bnd_some q
    obtain ⟨e1, _⟩ := ret_some q
    rw [evL_cons hsb] at q2
    obtain ⟨d3, s4, q3, q⟩ := bnd_some q2
    obtain ⟨d4, s5, q4, q⟩ := bnd_some q
    obtain ⟨e2, _⟩ := ret_some q
    rw [← e2] at e1
    simp at e1
  · rename_i i j
    obtain ⟨hj, rfl⟩ := if_some h3
    obtain ⟨hi, hj⟩ := Bool.and_eq_true_iff.mp hj
    obtain ⟨x, y, rfl, hx, hy⟩ := rbA_two r
    obtain ⟨b1, b2⟩ := inR_ok hi
    obtain ⟨b3, b4⟩ := inR_ok hj
    exact ⟨i, j, by rw [hx.int, hy.int], ⟨b1, b2, b3, b4⟩, k _ F1 H1 _ f walk_rng (fun _ _ _ => trivial) fun _ _ _ _ => trivial⟩

/-! ### list comprehensions -/
/-- a tracked list that is not frozen is changed -/
theorem Fw.mutD {sp cc : Addr} {F H F' H' : Hp} {s : Src} {p : Addr} {o : HO} (f : Fw sp cc F H F' H' s) (hp : H p = none) (fp : F' p = none) (n1 : p ≠ sp) (n2 : p ≠ cc) : Fw sp cc F H F' (upd H' p o) s where
  fr := f.fr
  sub := fun b u z => by rw [upd_ne (fun y => by rw [y, fp] at z; cases z)]; exact f.sub b u z
  keep := fun b u z h1 h2 => by rw [upd_ne (fun y => by rw [y, hp] at z; cases z)]; exact f.keep b u z h1 h2
  src := ⟨by rw [upd_ne (Ne.symm n1)]; exact f.src.1, by rw [upd_ne (Ne.symm n2)]; exact f.src.2⟩
  new := f.new
def RdTO (G : Gx) (o : Option E) : TT := fun σ H Q => ∃ g en F s s' b, Rl G.K G.sp G.cc g en σ F H s ∧ Off g (lkO o) ∧ evT G.v G.c o en s = some (b, s') ∧ ∀ F' H', Fw G.sp G.cc F H F' H' s' → Q b H'
theorem pts_imp {es : List Expr} {t t' : TT} (h : PTs X es t) (i : ∀ σ H Q, t' σ H Q → t σ H Q) : PTs X es t' := ⟨fun pins s σ H Q I q => h.run pins s σ H Q I (i _ _ _ q)⟩
theorem okT_none : PTs X [] (RdTO G none) := pts_imp pts_nil fun σ H Q ⟨g, en, F, s, s', b, R, off, he, k⟩ => by
  obtain ⟨rfl, rfl⟩ := ret_some he
  exact k _ _ (rl_same R)
theorem okT_some {e : E} {ex : Expr} (h : PT X ex (RdT G e)) : PTs X [ex] (RdTO G (some e)) := pts_imp (pts_one h) fun σ H Q ⟨g, en, F, s, s', b, R, off, he, k⟩ => by
  obtain ⟨d, s1, h1, h2⟩ := bnd_some he
  obtain ⟨h3, rfl⟩ := lift_some h2
  exact oneT R off h1 h3 k
/-- a turn of a comprehension -/
def turnC (v : Bool) (c : Cl) (t : Tg) (ifs : Option E) (elt : E) (en : En) : D → M (Option D) := fun d => bnd (lift (tgSet t d en)) fun en2 => bnd (evT v c ifs en2) fun ok =>
  if ok then bnd (evE v c elt en2) fun y => ret (some y) else ret none
theorem ok_comp {t : Tg} {it elt : E} {ifs : Option E} {tx ix ex : Expr} {ifx : List Expr} {scope : Scope} {own : List (Str × Nat)} {pos : Pos} (hK : X.K = G.K) (hc : X.calm = true) (hN : X.N.Nodup) (hi : PI X tx ix (RdI G it)) (ok : BlkOk X.N X.env.scope scope own)
    (hown : own.map (·.2) = t.slots)
    (hg : ∀ (s : Shared) (H : Hp) (C : Addr) (cl : List (Str × Addr)) (fp : List Addr), PG (X.blk s H scope (compEnvC scope cl C X.env) fp) tx (RdG G t))
    (ht : ∀ (s : Shared) (H : Hp) (C : Addr) (cl : List (Str × Addr)) (fp : List Addr), PTs (X.blk s H scope (compEnvC scope cl C X.env) fp) ifx (RdTO G ifs))
    (he : ∀ (s : Shared) (H : Hp) (C : Addr) (cl : List (Str × Addr)) (fp : List Addr), PE (X.blk s H scope (compEnvC scope cl C X.env) fp) ex (RdV G elt))
    (hs : ∀ x, foldedSetIterable ix X.env x = pure x) : OkN X G (.comp t it ifs elt) (.ListComp ex [⟨tx, ix, ifx, 0⟩] scope pos) ∧
      ∀ σ H Q, RdN G (.comp t it ifs elt) σ H Q → tLc (RdI G it) (RdG G t) (RdTO G ifs) (RdV G elt) (own.map (·.2)) σ H Q := by
  have core : ∀ σ H Q, RdN G (.comp t it ifs elt) σ H Q → tLc (RdI G it) (RdG G t) (RdTO G ifs) (RdV G elt) (own.map (·.2)) σ H Q := by
    rintro σ H Q ⟨g, en, F, s, d, s', R, off, hev, k⟩
    obtain ⟨d1, s1, h1, hr⟩ := bnd_some hev
    obtain ⟨xs, h2, hr2⟩ := bnd_lift hr
    obtain ⟨ys, s2, h3, hr3⟩ := bnd_some hr2
    obtain ⟨h4, rfl⟩ := lift_some hr3
    obtain ⟨ys', h5, rfl⟩ := Option.map_eq_some_iff.mp h4
    obtain ⟨hsz, rfl⟩ := if_some h5
    have h3 : mapL (turnC G.v G.c t ifs elt en) xs s1 = some (ys, s') := h3
    rw [hown]
    refine ⟨g, en, F, s, d1, xs, s1, R, off.l, h1, h2, fun J F1 H1 Gd f1 wk _ gp A hA => ?_⟩
    have nA : A ≠ G.sp ∧ A ≠ G.cc := ⟨(fun e => by rw [e, f1.src.1] at hA; cases hA), (fun e => by rw [e, f1.src.2] at hA; cases hA)⟩
    have fA : F1 A = none := by
      cases z : F1 A with
      | none => rfl
      | some u => rw [f1.sub _ _ z] at hA; cases hA
    refine lc_it wk (fun i H' => ∃ Fi si acc vs rest, Fw G.sp G.cc F1 H1 Fi H' si ∧ mapL (turnC G.v G.c t ifs elt en) (xs.drop i) si = some (rest, s') ∧ ys = acc ++ rest ∧ H' A = some (.lst vs) ∧ Fi A = none ∧ RpA G.K G.sp Fi vs acc)
      ⟨F1, s1, [], [], ys, Fw.put f1.sub f1.src hA, h3, rfl, upd_same, fA, .nil⟩ (fun i H' _ ⟨Fi, si, acc, vs, rest, fw, _⟩ => gp _ _ _ fw) ?_ ?_
    · rintro i x Hi Hj hlt ⟨Fi, si, acc, vs, rest, fw, hm, hy, hD, hF, ra⟩ ⟨d, hd, hstep⟩
      have Ri := (R.step f1).step fw
      obtain ⟨Fj, fj, rx⟩ := hstep Fi si fw.fr fw.sub fw.src Ri.fsp Ri.fcc
      have hdrop : xs.drop i = d :: xs.drop (i + 1) := by
        obtain ⟨hl, e⟩ := List.getElem?_eq_some_iff.mp hd
        rw [List.drop_eq_getElem_cons hl, e]
      rw [hdrop] at hm
      obtain ⟨yo, sa, m1, m2⟩ := bnd_some (show bnd (turnC G.v G.c t ifs elt en d) (fun y => bnd (mapL (turnC G.v G.c t ifs elt en) (xs.drop (i + 1))) fun ys => ret (match y with | some d => d :: ys | none => ys)) si = some (rest, s') from hm)
      obtain ⟨rest2, sb, m3, m4⟩ := bnd_some m2
      obtain ⟨er, rfl⟩ := ret_some m4
      obtain ⟨en2, t1, t2⟩ := bnd_lift m1
      obtain ⟨okb, sc, t3, t4⟩ := bnd_some t2
      have Rj := Ri.step fj
      have Rw := Rj.wipe t.slots
      refine ⟨_, _, Fj, si, d, en2, Rw, rx, tgSet_wipe t1, fun σ2 R2 hw => ⟨?_, ?_⟩⟩
      · rw [hw t.slots fun _ z => z]
        have idem : ∀ us : List Nat, (∀ i ∈ us, i ∈ t.slots) → wipe (wipe σ t.slots) us = wipe σ t.slots := by
          intro us
          induction us with
          | nil => intro _; rfl
          | cons u us ih =>
            intro hu
            show (wipe (wipe σ t.slots) us).set u none = _
            rw [ih fun i hi => hu i (List.mem_cons_of_mem _ hi)]
            refine List.ext_getElem? fun j => ?_
            by_cases hj : u = j
            · subst hj
              have hn : ∀ x, (wipe σ t.slots)[u]? ≠ some (some x) := fun x hx => (wipe_some hx).2 (hu u (List.mem_cons_self ..))
              by_cases hl : u < (wipe σ t.slots).length
              · rw [List.getElem?_set_self hl]
                rw [List.getElem?_eq_getElem hl] at hn ⊢
                cases q : (wipe σ t.slots)[u] with
                | none => rfl
                | some x => exact absurd (by rw [q]) (hn x)
              · rw [List.getElem?_eq_none (by rw [List.length_set]; omega), List.getElem?_eq_none (by omega)]
            · rw [List.getElem?_set_ne hj]
        exact idem t.slots fun _ z => z
      · have offs : Off ((g.filter fun j => !t.slots.contains j).filter fun j => !t.slots.contains j) (lkO ifs ++ lk elt) := fun i hi hm => by
          obtain ⟨a1, a2⟩ := List.mem_filter.mp hm
          obtain ⟨a3, _⟩ := List.mem_filter.mp a1
          exact off.r i (List.mem_filter.mpr ⟨hi, a2⟩) a3
        refine ⟨_, en2, Fj, si, sc, okb, R2, offs.l, t3, fun F3 H3 f3 => ?_⟩
        have keepA : ∀ {Hx : Hp} {Fx : Hp} {sx : Src}, Fw G.sp G.cc Fi Hi Fx Hx sx → Hx A = some (.lst vs) ∧ Fx A = none := fun {Hx Fx sx} fx => ⟨fx.keep _ _ hD nA.1 nA.2, fx.new _ hF (nt_of hD nofun)⟩
        cases okb with
        | true =>
          rw [if_pos rfl] at t4
          refine iteT ?_
          obtain ⟨y, sd, t5, t6⟩ := bnd_some t4
          obtain ⟨rfl, rfl⟩ := ret_some t6
          refine ⟨_, en2, F3, sc, y, sa, R2.step f3, offs.r, t5, fun yv F4 H4 f4 ry => ?_⟩
          have fall := (fj.trans f3).trans f4
          obtain ⟨b1, b2⟩ := keepA fall
          refine ⟨vs, b1, ?_, F4, sa, acc ++ [y], vs ++ [yv], rest2, (fw.trans fall).mutD hA b2 nA.1 nA.2, m3, ?_, upd_same, b2, (ra.mono fall.fr).append (.cons ry .nil)⟩
          · have h1 := ra.length
            have h2 := small_lt hsz
            rw [hy, List.length_append] at h2
            omega
          · rw [hy, ← er, List.append_assoc]; rfl
        | false =>
          rw [if_neg Bool.false_ne_true] at t4
          refine iteF ?_
          obtain ⟨rfl, rfl⟩ := ret_some t4
          have fall := fj.trans f3
          obtain ⟨b1, b2⟩ := keepA fall
          exact ⟨F3, sa, acc, vs, rest2, fw.trans fall, m3, by rw [hy, ← er], b1, b2, ra.mono fall.fr⟩
    · rintro H' ⟨Fi, si, acc, vs, rest, fw, hm, hy, hD, hF, ra⟩
      rw [List.drop_length] at hm
      obtain ⟨e1, e2⟩ := ret_some (show ret [] si = some (rest, s') from hm)
      subst e1 e2
      rw [List.append_nil] at hy
      subst hy
      exact k _ Fi H' (f1.trans fw) ⟨A, vs, rfl, f1.noneBack hA, hF, hD, ra⟩
  exact ⟨okN hK (pe_imp (pe_lc hc hN hi ok hg ht he hs) core) rfl fun _ _ => rfl, core⟩
end
end Fz
/-! FzHa: what an iterator over a list or a tuple draws; enumerate of either. -/
namespace Fz
open PySem PySem.Spec PyProof.Rows L2
/-- a list or a tuple -/
def Sq (b : Bool) (K : PySem.W.Frag) (H : Hp) (a : Addr) (xs : List V) : Prop := if b then SqT K H a xs else SqL K H a xs
/-- an iterator over it -/
def ItAt (b : Bool) (h : Heap) (it a : Addr) (i : Nat) : Prop := if b then h.IsTupleIter it a i else h.IsListIter it a i
def itO (b : Bool) (a : Addr) : Obj := if b then { cls := .type "tuple_iterator", data := .fields #[.ref a, .int 0 0] } else { cls := .type "list_iterator", data := .fields #[.ref a, .int 0 0] }
theorem ItAt.at {b : Bool} {h h' : Heap} {it a : Addr} {i : Nat} (x : ItAt b h it a i) (e : ∀ o, h.get? it = some o → h'.get? it = some o) : ItAt b h' it a i := by
  cases b with
  | true => exact Heap.IsTupleIter.at (show h.IsTupleIter it a i from x) e
  | false => exact Heap.IsListIter.at (show h.IsListIter it a i from x) e
theorem ItAt.obj {b : Bool} {h : Heap} {it a : Addr} {i : Nat} (x : ItAt b h it a i) : ∃ o, h.get? it = some o ∧ ∀ v, o.data ≠ .cell v := by
  cases b with
  | true => obtain ⟨o, e, _, d⟩ := (show h.IsTupleIter it a i from x); exact ⟨o, e, fun v q => by rw [d] at q; cases q⟩
  | false => obtain ⟨o, e, _, d⟩ := (show h.IsListIter it a i from x); exact ⟨o, e, fun v q => by rw [d] at q; cases q⟩
theorem ItAt.mk {b : Bool} {h : Heap} {it a : Addr} (e : h.get? it = some (itO b a)) : ItAt b h it a 0 := by
  cases b with
  | true => exact ⟨_, e, rfl, rfl⟩
  | false => exact ⟨_, e, rfl, rfl⟩
def SqAt (b : Bool) (h : Heap) (a : Addr) (items : Array Value) : Prop := if b then h.IsTuple a items else h.IsList a items
theorem sq_get {X : Cx} {pins : List (Addr × Obj)} {s : Shared} {σ : L2.St} {H : Hp} {b : Bool} {a : Addr} {xs : List V} (I : Inv X pins σ H s) (h : Sq b X.K H a xs) : ∃ its : List Value, Vals xs its ∧ SqAt b s.heap a its.toArray := by
  cases b with
  | true => obtain ⟨its, rv, p, _⟩ := I.tuple (show SqT X.K H a xs from h); exact ⟨its, rv, p⟩
  | false => obtain ⟨its, rv, p, _⟩ := I.list (show SqL X.K H a xs from h); exact ⟨its, rv, p.isList⟩
theorem sq_inj {X : Cx} {pins : List (Addr × Obj)} {s : Shared} {σ : L2.St} {H : Hp} {b : Bool} {a : Addr} {xs ys : List V} (I : Inv X pins σ H s) (h : Sq b X.K H a xs) (g : Sq b X.K H a ys) : xs = ys := by
  cases b with
  | true => exact I.tuple_inj (show SqT X.K H a xs from h) g
  | false => exact I.list_inj (show SqL X.K H a xs from h) g
theorem sq_lt {b : Bool} {h : Heap} {a : Addr} {items : Array Value} (x : SqAt b h a items) : a < h.objs.size := by
  cases b with
  | true => obtain ⟨_, e, _⟩ := (show h.IsTuple a items from x); exact Heap.lt_size e
  | false => obtain ⟨_, e, _⟩ := (show h.IsList a items from x); exact Heap.lt_size e
/-- what it draws -/
def StI (b : Bool) (it a : Addr) (items : Array Value) : Nat → Heap → Prop := fun i h => ItAt b h it a i ∧ SqAt b h a items
theorem draws {prog : Program} {w : World} {A : Around} (hh : A.handled = none) (b : Bool) (it a : Addr) (ne : a ≠ it) (items : Array Value) : Draws prog w A it [it, a] items.size (fun i v => items[i]? = some v) (StI b it a items) := by
  cases b with
  | true => exact Draws.tuple hh it a ne items
  | false => exact Draws.list hh it a ne items
theorem begins (b : Bool) (a : Addr) (items : Array Value) : Begins (.ref a) (itO b a) fun h => SqAt b h a items := by
  cases b with
  | true => exact begins_tuple a items
  | false => exact begins_list a items
theorem meets_enum {v : Value} {o : Obj} {Hs : Heap → Prop} (B : Begins v o Hs) : Meets (Builtin.«enumerate.__new__» ⟨[.type "enumerate", v], []⟩) (fun _ R s => Hs s.heap ∧ R (.ok (.ret (.ref (s.heap.push o).objs.size)))
    { s with heap := (s.heap.push o).push { cls := .type "enumerate", data := .fields #[.none, .bool false, .ref s.heap.objs.size, rawInt 0, .none, .none] } }) := .of_wp fun prog w A R s h => by
  obtain ⟨hp, g, d, tk, os⟩ := s
  obtain ⟨h1, h⟩ := h
  have hsub := sub_enumerate
  have q1 : ∀ {A' : Around} {E : Value → Shared → Prop} {Q : Value → Shared → Prop}, Q (.ref hp.objs.size) ⟨hp.push o, g, d, tk, os⟩ → wpAny (model prog w) A' (pyIter v) Q E ⟨hp, g, d, tk, os⟩ := fun q => B.iter prog w _ _ _ _ h1 q
  wp_walk using q1
  refine wpAny_stack_any fun st => wpAny_pure ?_
  split
  · rename_i c _ _ _ _ _
    cases (c == Value.type "enumerate") <;> (wp_walk using q1) <;> exact ⟨_, rfl, h⟩
  · wp_walk using q1
    exact ⟨_, rfl, h⟩
theorem call_enum {prog : Program} {w : World} {A : Around} {E : Value → Shared → Prop} {s : Shared} {v : Value} {o : Obj} {Hs : Heap → Prop} {Q : Value → Shared → Prop} (B : Begins v o Hs) (h1 : Hs s.heap)
    (h : ∀ h', IsEnum h' (s.heap.objs.size + 1) s.heap.objs.size 0 .none → h'.get? s.heap.objs.size = some o → (∀ b o, s.heap.get? b = some o → h'.get? b = some o) → Q (.ref (s.heap.objs.size + 1)) { s with heap := h' }) :
    wpAny (model prog w) A (call (.type "enumerate") [v]) Q E s := by
  refine callType_new F.called_enumerate (by decide) (F.typeCall_enumerate_1 _) (F.newCall_enumerate_1 _) (fun obj => F.args_object_init_2 obj _) F.entry_enumerate_new (meets_enum B) ⟨h1, ?_⟩
  have sz : (s.heap.push o).objs.size = s.heap.objs.size + 1 := Heap.size_push ..
  have here := Heap.get?_push_size (s.heap.push o) (o := { cls := .type "enumerate", data := .fields #[.none, .bool false, .ref s.heap.objs.size, rawInt 0, .none, .none] }) rfl
  show _ ∧ _
  rw [sz] at here ⊢
  exact ⟨⟨_, here, rfl⟩, h _ here (Heap.get?_push_of_some _ (Heap.get?_push_size _ B.free)) fun b o x => Heap.get?_push_of_some _ (Heap.get?_push_of_some _ x)⟩
/-- what a turn of enumerate gives -/
def ItE (b : Bool) (K : PySem.W.Frag) (a : Addr) : It := ⟨fun i H => ∃ (xs : List V) (x : V), Sq b K H a xs ∧ xs[i]? = some x,
  fun i H v H' => ∃ T x, v = .ref T ∧ H T = none ∧ H' = upd H T (.tup [.int (i : Nat), x]) ∧ ∀ xs, Sq b K H a xs → xs[i]? = some x, fun i H => ∃ xs : List V, Sq b K H a xs ∧ xs.length = i⟩
theorem turn_enumG {P : Program} {w : World} {K : PySem.W.Frag} {elts : List Expr} {kk : Nat} {tpos : Pos} (b : Bool) (a e it : Addr) (na : a ≠ it) (nb : a ≠ e) :
    Turn P w K (.Tuple elts kk tpos) (ItE b K a) [e, it] e (fun i h => (∃ old, IsEnum h e it ((i : Nat) : Int) old) ∧ ItAt b h it a i ∧ e ≠ it) where
  mem := by simp
  obj := fun i h st c hc => by
    obtain ⟨⟨old, he⟩, hi, _⟩ := st
    have z : c = e ∨ c = it := by simpa using hc
    rcases z with z | z
    · rw [z]; exact ⟨_, he, fun v q => nomatch q⟩
    · rw [z]; exact hi.obj
  keep := fun i h h' st k => let ⟨⟨old, he⟩, hi, hne⟩ := st; ⟨⟨old, k e (by simp) _ he⟩, hi.at fun o q => k it (by simp) o q, hne⟩
  item := by
    intro X hP hw hK hc i pins s σ H E I hf st ⟨xs, x, hq, hx⟩
    subst hP hw hK
    obtain ⟨⟨old, he⟩, hit, hne⟩ := st
    obtain ⟨its, rv, p⟩ := sq_get I hq
    obtain ⟨u, hu, ru⟩ := rv.get hx
    have hel : e < s.heap.objs.size := Heap.lt_size he
    have hil : it < s.heap.objs.size := let ⟨_, q, _⟩ := hit.obj; Heap.lt_size q
    have Dr := draws (prog := X.prog) (w := X.w) (A := X.A.in1) (I.ok.hd hc) b it a na its.toArray
    have hlt : i < its.toArray.size := by rw [List.size_toArray]; exact (List.getElem?_eq_some_iff.mp hu).1
    refine wpAny_pyNext_enum_itemC Dr he ⟨hit, p⟩ hlt hne (by simp; exact ⟨hne, Ne.symm nb⟩) fun z h' tk hz ho hit' hT hsz hk => ?_
    have zu : z = u := by
      have : its.toArray[i]? = some u := by simpa using hu
      rw [this] at hz; exact (Option.some.inj hz).symm
    subst zu
    refine ⟨_, rfl, wpAny_letOwnedTupleGo_enum (s := { s with heap := h', toks := tk + 1 }) ho fun h2 he' sb => ?_⟩
    have hT2 : h2.get? s.heap.objs.size = some { cls := .type "tuple", data := .seq #[.int i tk, z] } := (sb.2 _ (Nat.ne_of_gt hel)).trans hT
    have new : ObjOk X.prog X.w (upd H s.heap.objs.size (.tup [.int (i : Nat), x])) h2 s.heap.objs.size (.tup [.int (i : Nat), x]) := ⟨(by decide : 2 ≤ sizeLine), [.int i tk, z], .cons ⟨_, rfl⟩ (.cons ru .nil), ⟨_, hT2, rfl, _, rfl⟩⟩
    have I1 : Inv X pins σ (upd H s.heap.objs.size (.tup [.int (i : Nat), x])) { s with heap := h2, toks := tk + 1 } :=
      I.turnedNew (ch := [e, it]) (fun c o hb q => (sb.2 c (fun y => hb (by simp [y]))).trans (hk c o (fun y => hb (by simp [y])) (fun y => hb (by simp [y])) q)) hf (Nat.le_refl _) new
    refine ⟨.ref s.heap.objs.size, _, I1, rfl, ⟨_, x, rfl, I.hok.fresh (Nat.le_refl _), rfl, fun ys hy => sq_inj I hy hq ▸ hx⟩, ⟨⟨z, ?_⟩, hit'.1.at fun o q => (sb.2 it (Ne.symm hne)).trans q, hne⟩, fun c hb => ?_⟩
    · have e1 : ((i + 1 : Nat) : Int) = (i : Int) + 1 := by omega
      rw [e1]; exact he'
    · have lt : c < s.heap.objs.size := by
        have y : c = e ∨ c = it := by simpa using hb
        rcases y with y | y <;> (rw [y]; assumption)
      rw [upd_ne (Nat.ne_of_lt lt)]
      exact (hf c hb).1
  done := by
    intro X hP hw hK hc i pins s σ H E I hf st ⟨xs, hq, hx⟩
    subst hP hw hK
    obtain ⟨⟨old, he⟩, hit, hne⟩ := st
    obtain ⟨its, rv, p⟩ := sq_get I hq
    obtain ⟨f0, f1, f2, f3, f4, f5⟩ := hf it (by simp)
    have Dr := draws (prog := X.prog) (w := X.w) (A := X.A.in1) (I.ok.hd hc) b it a na its.toArray
    have hl := rv.length
    have sz : its.toArray.size = i := by rw [List.size_toArray]; omega
    exact wpAny_pyNext_enum_endD Dr he (by rw [sz]; exact ⟨hit, p⟩) fun h' eb => ⟨rfl, I.turned (t' := s.toks) (fun c o hb q => eb c o hb q) f0 f1 f3 f4 f5⟩
  self := fun A i s Q E st h => let ⟨⟨_, he⟩, _⟩ := st; wpAny_pyIter_enum he h
section
variable {X : Cx} {G : Gx}
def iEnumG (K : PySem.W.Frag) (ta : TA) : TI := fun σ H R => ta σ H fun vs H1 => ∃ b a xs, vs = [.ref a] ∧ Sq b K H1 a xs ∧ R (ItE b K a) H1
theorem pi_enumG {e : Expr} {ta : TA} {p pos tpos : Pos} {elts : List Expr} {kk : Nat} (hg : Gl X "enumerate") (hm : X.mg "enumerate" = none) (ha : PA X [e] ta) (hs : starEach [e] X.env = [(false, eval e X.env)]) :
    PI X (.Tuple elts kk tpos) (.Call (.Name "enumerate" p) [e] [] pos) (iEnumG X.K ta) := by
  refine ⟨fun pins s σ H R I h => Call_ (ld_blt I hg hm boot_enumerate (PyProof.Rows.callWith_type1 (thn (ha.run pos pins s σ H _ I h) fun us s1 ⟨vs, H1, I1, r1, b, a, xs, ex, hq, q⟩ => ?_) hs rfl))⟩
  subst ex
  cases r1 with
  | cons r rr =>
    cases rr
    cases r
    obtain ⟨its, rv, p'⟩ := sq_get I1 hq
    have la := sq_lt p'
    refine call_enum (begins b a its.toArray) p' fun h' he ho hk => wpAny_pyIter_enum he ?_
    have I2 : Inv X pins σ H1 { s1 with heap := h' } := I1.kept (t' := s1.toks) hk
    refine ⟨s1.heap.objs.size + 1, [s1.heap.objs.size + 1, s1.heap.objs.size], _, _, H1, rfl, I2, turn_enumG b a (s1.heap.objs.size + 1) s1.heap.objs.size (Nat.ne_of_lt la) (Nat.ne_of_lt (Nat.lt_succ_of_lt la)), ⟨⟨.none, he⟩, .mk ho, Nat.succ_ne_self _⟩, fun c hb => ?_, q⟩
    have le : s1.heap.objs.size ≤ c := by
      have y : c = s1.heap.objs.size + 1 ∨ c = s1.heap.objs.size := by simpa using hb
      rcases y with y | y <;> rw [y]
      · exact Nat.le_succ _
      · exact Nat.le_refl _
    exact I1.fpOk le (I1.hok.fresh le)
theorem enumL_get : ∀ (ys : List D) (k i : Nat), (enumL k ys)[i]? = ys[i]?.map fun d => .tuple [.int ((k + i : Nat) : Int), d]
  | [], k, i => by simp [enumL]
  | y :: r, k, 0 => by simp [enumL]
  | y :: r, k, i + 1 => by
    have e : k + 1 + i = k + (i + 1) := by omega
    rw [enumL, List.getElem?_cons_succ, List.getElem?_cons_succ, enumL_get r (k + 1) i, e]
theorem enumL_len : ∀ (ys : List D) (k : Nat), (enumL k ys).length = ys.length
  | [], _ => rfl
  | y :: r, k => by rw [enumL, List.length_cons, List.length_cons, enumL_len r]
theorem walk_enumG {b : Bool} {a : Addr} {F1 : Hp} {vs : List V} {ys : List D} (ra : RpA G.K G.sp F1 vs ys) : Walk (ItE b G.K a) (enumL 0 ys).length (fun H => Sq b G.K H a vs) (Yd G F1 (enumL 0 ys)) := by
  rw [enumL_len, ← ra.length]
  refine ⟨fun i H hi q => ⟨vs, vs[i], q, by simp [hi]⟩, fun H q => ⟨vs, q, rfl⟩, fun i H v H' hi q ⟨T, x, e1, e2, e3, e4⟩ => ?_⟩
  obtain ⟨d, hd, rx⟩ := ra.getV (e4 vs q)
  subst e1 e3
  refine ⟨_, by rw [enumL_get, hd]; rfl, fun F s h1 h2 h3 _ _ => ⟨_, Fw.lay h2 h3 e2, .tup upd_same (.cons ?_ (.cons (rx.mono (h1.trans (Same.upd' (h2.free e2)))) .nil))⟩⟩
  rw [Nat.zero_add]
  exact .int _
theorem okI_enum {a : E} {ex : Expr} {p pos tpos : Pos} {elts : List Expr} {kk : Nat} (hK : X.K = G.K) (hg : Gl X "enumerate") (hm : X.mg "enumerate" = none) (hs : isStarX ex = false) (h : OkE X G a ex) : PI X (.Tuple elts kk tpos) (.Call (.Name "enumerate" p) [ex] [] pos) (RdI G (.enum a)) := by
  have hs2 : starEach [ex] X.env = [(false, eval ex X.env)] := by rw [starEach_no hs]; rfl
  refine ⟨fun pins st σ H R I ⟨g, en, F, s, d, xs, s', Rr, off, he, hq, k⟩ => ?_⟩
  obtain ⟨d1, s1, h1, h2⟩ := bnd_some he
  obtain ⟨h3, rfl⟩ := lift_some h2
  obtain ⟨ys, h4, rfl⟩ := Option.map_eq_some_iff.mp h3
  cases hq
  by_cases ho : Off g (lk a)
  · refine (pi_enumG hg hm (pa_cons h.V pa_nil (starEach_no hs _ _)) hs2).run pins st σ H R I ⟨g, en, F, s, d1, s', Rr, ho, h1, fun x F1 H1 f r => ?_⟩
    cases d1 with
    | list zs =>
      cases h4
      cases r with
      | @lst ad vs ds e ra => exact ⟨false, ad, vs, rfl, SqL.of (f.sub _ _ e), hK ▸ k _ F1 H1 _ f (walk_enumG ra) (fun _ H'' hs => SqL.of (hs _ _ e)) (fun F'' H'' s'' f2 => SqL.of (f2.sub _ _ (f2.fr _ _ e)))⟩
    | tuple zs =>
      cases h4
      obtain ⟨ad, vs, rfl, e, ra⟩ := r.tuple
      exact ⟨true, ad, vs, rfl, hK ▸ sqT_same f.sub e, hK ▸ k _ F1 H1 _ f (walk_enumG ra) (fun _ H'' hs => sqT_same hs e) (fun F'' H'' s'' f2 => sqT_same (f2.fr.trans f2.sub) e)⟩
    | _ => cases h4
  · refine (pi_enumG hg hm (pa_cons h.B pa_nil (starEach_no hs _ _)) hs2).run pins st σ H R I ⟨g, en, F, s, d1, s', Rr, off, h1, fun x F1 H1 f r => ?_⟩
    cases d1 with
    | list zs =>
      cases h4
      obtain ⟨ad, vs, rfl, e, n1, n2, ra⟩ := r
      exact ⟨false, ad, vs, rfl, SqL.of e, hK ▸ k _ F1 H1 _ f (walk_enumG ra) (fun z => absurd z ho) (fun F'' H'' s'' f2 => SqL.of (f2.keep _ _ e n1 n2))⟩
    | tuple zs =>
      cases h4
      obtain ⟨ad, vs, rfl, e, ra⟩ := r.tuple
      exact ⟨true, ad, vs, rfl, hK ▸ sqT_same f.sub e, hK ▸ k _ F1 H1 _ f (walk_enumG ra) (fun z => absurd z ho) (fun F'' H'' s'' f2 => sqT_same (f2.fr.trans f2.sub) e)⟩
    | _ => cases h4
end
end Fz
/-! FzHb: zip of two, lists or tuples, strict or not. -/
namespace Fz
open PySem PySem.Spec PyProof.Rows L2
abbrev IsZS (st : Bool) (h : Heap) (z TI TO : Addr) (f : Value) : Prop := h.get? z = some { cls := .type "zip", dict := none, data := .fields #[f, .bool false, .bool st, .ref TI, .ref TO], slots := #[] }
section
variable {prog : Program} {w : World} {A : Around} {E : Value → Shared → Prop} {s : Shared} {z TI TO i1 i2 : Addr} {fp1 fp2 : List Addr} {n i : Nat} {P1 P2 : Nat → Value → Prop} {St1 St2 : Nat → Heap → Prop} {a1 a2 : Value}
theorem drawOr {it : Addr} {fp : List Addr} {n i : Nat} {P : Nat → Value → Prop} {St : Nat → Heap → Prop} {s : Shared} {Q : Option Value → Shared → Prop} (Dr : Draws prog w A it fp n P St) (hi : i < n) (st : St i s.heap)
    (k : ∀ x h' tk, P i x → St (i + 1) h' → Heap.SameBut it s.heap h' → Q (some x) { s with heap := h', toks := tk }) : wpAny (model prog w) A (Builtin.SmallTypes.nextOrEnd (.ref it)) Q E s := by
  unfold Builtin.SmallTypes.nextOrEnd
  exact wpAny_bind (wpAny_attempt (Dr.item i _ _ _ hi st fun x h' tk hx hs hb => wpAny_pure (k x h' tk hx hs hb)))
theorem drawEnd {it : Addr} {fp : List Addr} {n : Nat} {P : Nat → Value → Prop} {St : Nat → Heap → Prop} {s : Shared} {Q : Option Value → Shared → Prop} (Dr : Draws prog w A it fp n P St) (st : St n s.heap)
    (k : ∀ h', Heap.ExtBut it s.heap h' → Q none { s with heap := h' }) : wpAny (model prog w) A (Builtin.SmallTypes.nextOrEnd (.ref it)) Q E s := by
  unfold Builtin.SmallTypes.nextOrEnd
  refine wpAny_bind (wpAny_attempt (Dr.done s _ _ st fun h' e hb ⟨o, ho, hc⟩ => ?_))
  refine wpAny_bind (wpAny_isInstance (T := "StopIteration") (b := true) ⟨o, ho, hc⟩ isSubtype_stop ?_)
  exact wpAny_pure (k h' hb)
theorem zs_item {Q : Value → Shared → Prop} (S : ZipSep2 z TI TO i1 i2 fp1 fp2) (D1 : Draws prog w A i1 fp1 n P1 St1) (D2 : Draws prog w A i2 fp2 n P2 St2) (hz : IsZS true s.heap z TI TO .none) (hTI : IsTupOf2 s.heap TI (.ref i1) (.ref i2)) (hTO : IsTupOf2 s.heap TO a1 a2)
    (s1 : St1 i s.heap) (s2 : St2 i s.heap) (hi : i < n)
    (k : ∀ x1 x2 h' tk, P1 i x1 → P2 i x2 → IsZS true h' z TI TO (rawInt s.heap.objs.size) → IsTupOf2 h' TO x1 x2 → St1 (i + 1) h' → St2 (i + 1) h' → IsTupOf2 h' s.heap.objs.size x1 x2 → h'.objs.size = s.heap.objs.size + 1 →
      (∀ c o, c ≠ z → c ≠ TO → c ≠ i1 → c ≠ i2 → s.heap.get? c = some o → h'.get? c = some o) → Q (.ref s.heap.objs.size) { s with heap := h', toks := tk }) :
    wpAny (model prog w) A (Builtin.«zip.__next__» ⟨[.ref z], []⟩) (fun fin s' => ∃ v, fin = .done (.ret v) ∧ Q v s') E s := by
  obtain ⟨hp, g, d, t0, os⟩ := s
  show wpAny _ _ (field (.ref z) 2 >>= _) _ _ _
  refine wpAny_bind (wpAny_field hz rfl (x := .bool true) rfl ?_)
  show wpAny _ _ (field (.ref z) 3 >>= _) _ _ _
  refine wpAny_bind (wpAny_field hz rfl (x := .ref TI) rfl (wpAny_bind (wpAny_seqItems hTI rfl ?_)))
  show wpAny _ _ (Builtin.SmallTypes.ownedTupleIsFree (.ref z) >>= _) _ _ _
  refine wpAny_bind ?_
  unfold Builtin.SmallTypes.ownedTupleIsFree
  refine wpAny_bind (wpAny_field hz rfl (x := .none) rfl (wpAny_pure ?_))
  simp only [if_true]
  refine wpAny_bind (wpAny_rule (wpAny_bind (wpAny_field hz rfl (x := .ref TO) rfl (wpAny_bind (wpAny_setField_rec hz (by simp) fun g0 k0 b0 => ?_)))))
  have hz0 : IsZS true g0 z TI TO .ellipsis := k0
  have hs0 : Heap.SameBut z hp g0 := b0
  clear k0 b0
  refine wpAny_bind ?_
  simp only [List.zipIdx_cons, List.zipIdx_nil, List.forIn_cons, List.forIn_nil]
  refine wpAny_bind (wpAny_bind (wpAny_onRaise ?_))
  show wpAny _ _ (Builtin.SmallTypes.nextOrEnd (.ref i1)) _ _ ⟨g0, g, d, t0, os⟩
  refine drawOr D1 hi (D1.over s1 hs0 S.zf1) fun x1 p1 t1 hx1 n1 q1 => ?_
  have hp1 : Heap.SameBut i1 g0 p1 := q1
  clear q1
  have u1 : IsTupOf2 p1 TO a1 a2 := hp1.extBut _ _ S.Ti1 (hs0.extBut _ _ S.TOz hTO)
  refine wpAny_bind (wpAny_seqItems (s := ⟨p1, g, d, t1, os⟩) u1 rfl (wpAny_bind (updateSeq_IsTupOf2 (s := ⟨p1, g, d, t1, os⟩) u1 fun g1 c1 e1 => ?_)))
  have hT1 : IsTupOf2 g1 TO x1 a2 := c1
  have hs1 : Heap.SameBut TO p1 g1 := e1
  clear c1 e1
  refine wpAny_bind (wpAny_letGo (wpAny_pure (wpAny_bind (wpAny_bind (wpAny_onRaise ?_)))))
  show wpAny _ _ (Builtin.SmallTypes.nextOrEnd (.ref i2)) _ _ ⟨g1, g, d, t1, os⟩
  refine drawOr D2 hi (D2.over (D2.over (D2.over s2 hs0 S.zf2) hp1 S.sep1_2) hs1 S.Tf2) fun x2 p2 t2 hx2 n2 q2 => ?_
  have hp2 : Heap.SameBut i2 g1 p2 := q2
  clear q2
  have u2 : IsTupOf2 p2 TO x1 a2 := hp2.extBut _ _ S.Ti2 hT1
  refine wpAny_bind (wpAny_seqItems (s := ⟨p2, g, d, t2, os⟩) u2 rfl (wpAny_bind (updateSeq_IsTupOf2 (s := ⟨p2, g, d, t2, os⟩) u2 fun g2 c2 e2 => ?_)))
  have hT2 : IsTupOf2 g2 TO x1 x2 := c2
  have hs2 : Heap.SameBut TO p2 g2 := e2
  clear c2 e2
  refine wpAny_bind (wpAny_letGo (wpAny_pure (wpAny_pure ?_)))
  refine wpAny_bind (wpAny_seqItems (s := ⟨g2, g, d, t2, os⟩) hT2 rfl (wpAny_bind (wpAny_newTuple ?_)))
  have sz : g2.objs.size = hp.objs.size := by rw [hs2.1, hp2.1, hs1.1, hp1.1, hs0.1]
  have zz : IsZS true g2 z TI TO .ellipsis := hs2.extBut _ _ S.TOz.symm (hp2.extBut _ _ S.zi2 (hs1.extBut _ _ S.TOz.symm (hp1.extBut _ _ S.zi1 hz0)))
  have kk : ∀ c o, c ≠ z → c ≠ TO → c ≠ i1 → c ≠ i2 → hp.get? c = some o → g2.get? c = some o := fun c o cz cT c1 c2 e => hs2.extBut _ _ cT (hp2.extBut _ _ c2 (hs1.extBut _ _ cT (hp1.extBut _ _ c1 (hs0.extBut _ _ cz e))))
  have j1 : St1 (i + 1) g2 := D1.over (D1.over (D1.over n1 hs1 S.Tf1) hp2 S.sep2_1) hs2 S.Tf1
  have j2 : St2 (i + 1) g2 := D2.over n2 hs2 S.Tf2
  have lt : z < g2.objs.size := Heap.lt_size zz
  show wpAny _ _ (Builtin.SmallTypes.ownedTupleHandOut (.ref z) (.ref g2.objs.size) >>= _) _ _ ⟨g2.push { cls := .type "tuple", data := .seq #[x1, x2] }, g, d, t2, os⟩
  refine wpAny_bind ?_
  unfold Builtin.SmallTypes.ownedTupleHandOut
  have z6 : IsZS true (g2.push { cls := .type "tuple", data := .seq #[x1, x2] }) z TI TO .ellipsis := Heap.get?_push_of_some _ zz
  refine wpAny_bind (wpAny_setField_rec z6 (by simp) fun h7 c7 e7 => ?_)
  have z7 : IsZS true h7 z TI TO (rawInt g2.objs.size) := c7
  have m7 : Heap.SameBut z (g2.push { cls := .type "tuple", data := .seq #[x1, x2] }) h7 := e7
  clear c7 e7
  refine wpAny_setField_rec z7 (by simp) fun h8 c8 e8 => ?_
  have z8 : IsZS true h8 z TI TO (rawInt g2.objs.size) := c8
  have m8 : Heap.SameBut z h7 h8 := e8
  clear c8 e8
  have up : ∀ c o, c ≠ z → g2.get? c = some o → h8.get? c = some o := fun c o c1 e => m8.extBut _ _ c1 (m7.extBut _ _ c1 (Heap.get?_push_of_some _ e))
  have t8 : IsTupOf2 h8 g2.objs.size x1 x2 := m8.extBut _ _ (Nat.ne_of_gt lt) (m7.extBut _ _ (Nat.ne_of_gt lt) (Heap.get?_push_size _ rfl))
  have l8 : h8.objs.size = g2.objs.size + 1 := by rw [m8.1, m7.1, Heap.size_push]
  rw [sz] at z8 t8 l8
  refine wpAny_pure ⟨_, rfl, ?_⟩
  show Q (.ref g2.objs.size) ⟨h8, g, d, t2, os⟩
  rw [sz]
  exact k x1 x2 h8 t2 hx1 hx2 z8 (up _ _ S.TOz hT2) (D1.frame _ _ _ j1 fun b hb o e => up b o (fun q => S.zf1 (q ▸ hb)) e) (D2.frame _ _ _ j2 fun b hb o e => up b o (fun q => S.zf2 (q ▸ hb)) e) t8 l8 fun c o cz cT c1 c2 e => up c o cz (kk c o cz cT c1 c2 e)
theorem zs_end {Q : Fin → Shared → Prop} (hh : A.handled = none) (S : ZipSep2 z TI TO i1 i2 fp1 fp2) (D1 : Draws prog w A i1 fp1 n P1 St1) (D2 : Draws prog w A i2 fp2 n P2 St2) (hz : IsZS true s.heap z TI TO .none) (hTI : IsTupOf2 s.heap TI (.ref i1) (.ref i2)) (hTO : IsTupOf2 s.heap TO a1 a2)
    (s1 : St1 n s.heap) (s2 : St2 n s.heap)
    (k : ∀ h' tk e, (∀ c o, c ≠ z → c ≠ TO → c ≠ i1 → c ≠ i2 → s.heap.get? c = some o → h'.get? c = some o) → (∃ o, h'.get? e = some o ∧ o.cls = .type "StopIteration") → E (.ref e) { s with heap := h', toks := tk }) :
    wpAny (model prog w) A (Builtin.«zip.__next__» ⟨[.ref z], []⟩) Q E s := by
  obtain ⟨hp, g, d, t0, os⟩ := s
  show wpAny _ _ (field (.ref z) 2 >>= _) _ _ _
  refine wpAny_bind (wpAny_field hz rfl (x := .bool true) rfl ?_)
  show wpAny _ _ (field (.ref z) 3 >>= _) _ _ _
  refine wpAny_bind (wpAny_field hz rfl (x := .ref TI) rfl (wpAny_bind (wpAny_seqItems hTI rfl ?_)))
  show wpAny _ _ (Builtin.SmallTypes.ownedTupleIsFree (.ref z) >>= _) _ _ _
  refine wpAny_bind ?_
  unfold Builtin.SmallTypes.ownedTupleIsFree
  refine wpAny_bind (wpAny_field hz rfl (x := .none) rfl (wpAny_pure ?_))
  simp only [if_true]
  refine wpAny_bind (wpAny_rule (wpAny_bind (wpAny_field hz rfl (x := .ref TO) rfl (wpAny_bind (wpAny_setField_rec hz (by simp) fun g0 k0 b0 => ?_)))))
  have hz0 : IsZS true g0 z TI TO .ellipsis := k0
  have hs0 : Heap.SameBut z hp g0 := b0
  clear k0 b0
  refine wpAny_bind ?_
  simp only [List.zipIdx_cons, List.zipIdx_nil, List.forIn_cons, List.forIn_nil]
  refine wpAny_bind (wpAny_bind (wpAny_onRaise ?_))
  show wpAny _ _ (Builtin.SmallTypes.nextOrEnd (.ref i1)) _ _ ⟨g0, g, d, t0, os⟩
  refine drawEnd D1 (D1.over s1 hs0 S.zf1) fun p1 q1 => ?_
  have hp1 : Heap.ExtBut i1 g0 p1 := q1
  clear q1
  have hz1 : IsZS true p1 z TI TO .ellipsis := hp1 _ _ S.zi1 hz0
  refine wpAny_bind (wpAny_setField_rec (s := ⟨p1, g, d, t0, os⟩) hz1 (by simp) fun g1 c1 e1 => ?_)
  have hs1 : Heap.SameBut z p1 g1 := e1
  clear c1 e1
  refine wpAny_bind ?_
  show wpAny _ _ (forIn [(Value.ref i2, 1)] PUnit.unit _ >>= _) _ _ _
  simp only [List.forIn_cons, List.forIn_nil]
  refine wpAny_bind (wpAny_bind (wpAny_bind (drawEnd D2 (D2.over (D2.frame _ _ _ (D2.over s2 hs0 S.zf2) fun b hb o e => hp1 b o (fun q => S.sep1_2 (q ▸ hb)) e) hs1 S.zf2) fun p2 q2 => ?_)))
  have hp2 : Heap.ExtBut i2 g1 p2 := q2
  clear q2
  rw [if_neg (show ¬ ((none : Option Value).isSome = true) from Bool.false_ne_true)]
  refine wpAny_pure (wpAny_pure (wpAny_bind (wpAny_rule ?_)))
  show wpAny _ _ (newExc (.type "StopIteration") [] >>= _) _ _ ⟨p2, g, d, t0, os⟩
  refine wpAny_bind ?_
  simp only [newExc, newTuple]
  refine wpAny_bind (wpAny_newObj_type (wpAny_bind (m := firstArgMember _ _) (wpAny_of_eq (a := Value.none) (by first | rfl | (simp only [firstArgMember]; rfl)) (wpAny_newObj_type ?_ (by size_fits)))) (by size_fits))
  simp only [raiseNew]
  refine wpAny_bind (wpAny_handled ?_)
  rw [hh]
  refine wpAny_bind (wpAny_pure (wpAny_throw (k _ t0 _ (fun c o cz cT c1 c2 e => ?_) ⟨_, Heap.get?_push_size _ rfl, rfl⟩)))
  exact Heap.get?_push_of_some _ (Heap.get?_push_of_some _ (hp2 _ _ c2 (hs1.extBut _ _ cz (hp1 _ _ c1 (hs0.extBut _ _ cz e)))))
theorem zsNext_item {Q : Option Value → Shared → Prop} (S : ZipSep2 z TI TO i1 i2 fp1 fp2) (D1 : Draws prog w A.in1 i1 fp1 n P1 St1) (D2 : Draws prog w A.in1 i2 fp2 n P2 St2) (hz : IsZS true s.heap z TI TO .none) (hTI : IsTupOf2 s.heap TI (.ref i1) (.ref i2)) (hTO : IsTupOf2 s.heap TO a1 a2)
    (s1 : St1 i s.heap) (s2 : St2 i s.heap) (hi : i < n)
    (k : ∀ x1 x2 h' tk, P1 i x1 → P2 i x2 → IsZS true h' z TI TO (rawInt s.heap.objs.size) → IsTupOf2 h' TO x1 x2 → St1 (i + 1) h' → St2 (i + 1) h' → IsTupOf2 h' s.heap.objs.size x1 x2 → h'.objs.size = s.heap.objs.size + 1 →
      (∀ c o, c ≠ z → c ≠ TO → c ≠ i1 → c ≠ i2 → s.heap.get? c = some o → h'.get? c = some o) → Q (some (.ref s.heap.objs.size)) { s with heap := h', toks := tk }) : wpAny (model prog w) A (pyNext (.ref z)) Q E s := by
  have hT : s.TypeIs (.ref z) "zip" := ⟨_, hz, rfl⟩
  unfold pyNext
  exact wpAny_bind (wpAny_attempt (wpAny_callSpecial?_slot (name := Str.ofString "__next__") hT F.slot_zip_next (wpAny_call_entry F.slot_zip_next hT F.entry_zip_next
    (zs_item S D1 D2 hz hTI hTO s1 s2 hi fun x1 x2 h' tk y1 y2 b1 b2 d1 d2 b5 b6 b7 => wpAny_pure (k x1 x2 h' tk y1 y2 b1 b2 d1 d2 b5 b6 b7)) (F.args_zip_next_1 _))))
theorem zsNext_end {Q : Option Value → Shared → Prop} (hh : A.handled = none) (S : ZipSep2 z TI TO i1 i2 fp1 fp2) (D1 : Draws prog w A.in1 i1 fp1 n P1 St1) (D2 : Draws prog w A.in1 i2 fp2 n P2 St2) (hz : IsZS true s.heap z TI TO .none) (hTI : IsTupOf2 s.heap TI (.ref i1) (.ref i2)) (hTO : IsTupOf2 s.heap TO a1 a2)
    (s1 : St1 n s.heap) (s2 : St2 n s.heap) (k : ∀ h' tk, (∀ c o, c ≠ z → c ≠ TO → c ≠ i1 → c ≠ i2 → s.heap.get? c = some o → h'.get? c = some o) → Q none { s with heap := h', toks := tk }) : wpAny (model prog w) A (pyNext (.ref z)) Q E s := by
  have hT : s.TypeIs (.ref z) "zip" := ⟨_, hz, rfl⟩
  unfold pyNext
  refine wpAny_bind (wpAny_attempt (wpAny_callSpecial?_slot (name := Str.ofString "__next__") hT F.slot_zip_next (wpAny_call_entry F.slot_zip_next hT F.entry_zip_next (zs_end hh S D1 D2 hz hTI hTO s1 s2 fun h' tk e hk ⟨o, ho, hc⟩ => ?_) (F.args_zip_next_1 _))))
  exact wpAny_bind (wpAny_isInstance (T := "StopIteration") (b := true) ⟨o, ho, hc⟩ isSubtype_stop (wpAny_pure (k _ _ hk)))
theorem zsIter {f0 : Value} {Q : Value → Shared → Prop} (hz : IsZS true s.heap z TI TO f0) (h : Q (.ref z) s) : wpAny (model prog w) A (pyIter (.ref z)) Q E s := by
  have hT : s.TypeIs (.ref z) "zip" := ⟨_, hz, rfl⟩
  refine wpAny_pyIter_slot hT F.slot_zip_iter (wpAny_call_entry F.slot_zip_iter hT F.entry_zip_iter ?_ (F.args_zip_iter_1 _))
  show wpAny _ _ (PySem.ret (Value.ref z)) _ _ s
  exact wpAny_pure ⟨_, rfl, "zip", _, hT, F.slot_zip_next.lookup, h⟩
theorem zsGo {elts : List Expr} {x1} {pos : Pos} {T : Addr} {Q : Unit → Shared → Prop} (hz : IsZS true s.heap z TI TO (rawInt T)) (k : ∀ h', IsZS true h' z TI TO .none → Heap.SameBut z s.heap h' → Q () { s with heap := h' }) : wpAny (model prog w) A (letOwnedTupleGo (.Tuple elts x1 pos) (.ref z) (.ref T)) Q E s := by
  unfold letOwnedTupleGo
  refine wpAny_bind (wpAny_load hz ?_)
  show wpAny _ _ (if (["enumerate", "zip", "dict_itemiterator", "dict_reverseitemiterator", "odict_iterator", "itertools.zip_longest", "itertools.pairwise"].contains "zip" && (#[rawInt T, .bool false, .bool true, .ref TI, .ref TO] : Array Value)[0]? == some (rawInt T)) = true then _ else _) Q E s
  rw [if_pos (by simp)]
  refine wpAny_bind (wpAny_rule ?_)
  show wpAny _ _ (setField (.ref z) 0 .none) Q E s
  exact wpAny_setField_rec hz (by simp) fun h' hz' hs' => k h' hz' hs'
end
end Fz
/-! FzHc: making a strict zip. -/
namespace Fz
open PySem PySem.Spec PyProof.Rows L2
abbrev kwS : List (Str × Value) := [("strict", .bool true)]
abbrev hT2 (h : Heap) (o1 o2 : Obj) : Heap := ((h.push o1).push o2).push { cls := .type "tuple", data := .seq #[.ref h.objs.size, .ref (h.push o1).objs.size] }
abbrev hO2 (h : Heap) (o1 o2 : Obj) : Heap := (hT2 h o1 o2).push { cls := .type "tuple", data := .seq #[.none, .none] }
abbrev hZ2 (h : Heap) (o1 o2 : Obj) : Heap := (hO2 h o1 o2).push { cls := .type "zip", data := .fields #[.none, .bool false, .bool true, .ref ((h.push o1).push o2).objs.size, .ref (hT2 h o1 o2).objs.size] }
theorem tc_zip (a b : Value) : checkTypeCall "zip" ⟨[a, b], kwS⟩ = pure () := by kernel_rfl
theorem nc_zip (a b : Value) : checkBuiltinCall "zip.__new__" ⟨[.type "zip", a, b], kwS⟩ = pure () := by kernel_rfl
theorem ao_zip (a b c : Value) : argsOk "object.__init__" ⟨[a, b, c], kwS⟩ := by unfold argsOk; kernel_rfl
theorem meets_zipS {v1 v2 : Value} {o1 o2 : Obj} {H1 H2 : Heap → Prop} (B1 : Begins v1 o1 H1) (B2 : Begins v2 o2 H2) :
    Meets (Builtin.«zip.__new__» ⟨[.type "zip", v1, v2], kwS⟩) (fun _ R s => (H1 s.heap ∧ H2 s.heap) ∧ R (.ok (.ret (.ref (hO2 s.heap o1 o2).objs.size))) { s with heap := hZ2 s.heap o1 o2 }) := .of_wp fun prog w A R s h => by
  obtain ⟨hp, g, d, tk, os⟩ := s
  obtain ⟨⟨h1, h2⟩, h⟩ := h
  have hsub := sub_zip
  have q1 : ∀ {A' : Around} {E : Value → Shared → Prop} {Q : Value → Shared → Prop}, Q (.ref hp.objs.size) ⟨hp.push o1, g, d, tk, os⟩ → wpAny (model prog w) A' (pyIter v1) Q E ⟨hp, g, d, tk, os⟩ := fun q => B1.iter prog w _ _ _ _ h1 q
  have q2 : ∀ {A' : Around} {E : Value → Shared → Prop} {Q : Value → Shared → Prop}, Q (.ref (hp.push o1).objs.size) ⟨(hp.push o1).push o2, g, d, tk, os⟩ → wpAny (model prog w) A' (pyIter v2) Q E ⟨hp.push o1, g, d, tk, os⟩ :=
    fun q => B2.iter prog w _ _ _ _ (B2.keeps _ _ h2 fun b o' e => Heap.get?_push_of_some _ e) q
  wp_walk using q1, q2
  exact ⟨_, rfl, h⟩
section
variable {prog : Program} {w : World} {A : Around} {E : Value → Shared → Prop} {s : Shared}
theorem oinit_kw {T newId : String} {self : Value} {rest : List Value} {kw : List (Str × Value)} (hl : typeLookup (.type T) "__init__" = pure (some (.builtin "object.__init__"))) (hm : Bind.madeBy (.type T) = pure (some newId)) (hne : (some newId != some "object.__new__") = true) :
    Meets (Builtin.«object.__init__» ⟨self :: rest, kw⟩) (fun _ R s => s.TypeIs self T ∧ R (.ok (.ret .none)) s) := Meets.of_wp fun prog w A R s ⟨hT, hq⟩ => by
  cases rest with
  | nil => cases kw with
    | nil => exact wpAny_pure ⟨_, rfl, hq⟩
    | cons q kw =>
      repeat (any_goals (first | assumption | wp_step))
      all_goals exact ⟨_, rfl, hq⟩
  | cons a rest =>
    repeat (any_goals (first | assumption | wp_step))
    all_goals exact ⟨_, rfl, hq⟩
theorem call_kwT {T newId initId : String} {Bn Bi : Builtin} {args : List Value} {kw : List (Str × Value)} {Sp : PySem.Spec} {Q Q₁ : Value → Shared → Prop} (ft : TypeCalled T newId initId) (hct : checkTypeCall T ⟨args, kw⟩ = pure ()) (hcn : checkBuiltinCall newId ⟨.type T :: args, kw⟩ = pure ())
    (entryN : entryFor table newId = some Bn) (entryI : entryFor table initId = some Bi) (g : Meets (Bn ⟨.type T :: args, kw⟩) Sp) (h : Sp A.in1 (wants Q₁ E) s)
    (hnext : ∀ obj s₁, Q₁ obj s₁ → s₁.TypeIs obj T ∧ argsOk initId ⟨obj :: args, kw⟩ ∧ ∃ Si, Meets (Bi ⟨obj :: args, kw⟩) Si ∧ Si A.in1 (wants (fun r s₂ => r = .none ∧ Q obj s₂) E) s₁) : wpAny (model prog w) A (call (.type T) args kw) Q E s := by
  obtain ⟨c, tl, hmro⟩ := ft.mro
  have hmade := ft.made
  have hsub := ft.sub
  refine wpAny_call (codeAny_of_tree ?_)
  show wpAny _ _ (callAny (.type T) _) _ _ _
  refine wpAny_pure ⟨Code.quiet_builtin _ (by decide +kernel), codeAny_builtin F.entry_type_call ?_⟩
  have w0 : (Code.builtin "type.__call__" ⟨.type T :: args, kw⟩).weight = 0 := rfl
  have u1 : (Code.builtin "type.__call__" ⟨.type T :: args, kw⟩).cUnits = 1 := rfl
  rw [Around.under_plain w0 u1]
  have h1 := ft.notType
  have h2 := ft.canCreate
  repeat (any_goals (first | assumption | wp_step))
  refine codeAny_mono (codeAny_call_builtin ft.plain entryN (wpAny_of_eq hcn (g prog w A.in1 _ s h))) fun r s₁ hr => ?_
  cases r with
  | error e => exact hr
  | ok fl =>
    cases fl with
    | ret obj =>
      obtain ⟨hT, hok, Si, gi, hsi⟩ := hnext _ _ hr
      have hli := ft.init.lookup
      have hbi := ft.init.bind obj
      repeat (any_goals (first | assumption | wp_step))
      refine codeAny_mono (codeAny_call_builtin ft.init.plain entryI (ft.init.check _ _ _ _ _ _ _ _ hT hok (gi prog w A.in1 _ s₁ hsi))) fun r₂ s₂ hr₂ => ?_
      cases r₂ with
      | error e => exact hr₂
      | ok fl₂ =>
        cases fl₂ with
        | ret r =>
          obtain ⟨rfl, hq⟩ := hr₂
          repeat (any_goals (first | assumption | wp_step))
        | _ => exact hr₂.elim
    | _ => exact hr.elim
end
end Fz
/-! FzHd: for .. in zip(a, b), zip(a, b, strict=True). -/
namespace Fz
open PySem PySem.Spec PyProof.Rows L2
section
variable {prog : Program} {w : World} {A : Around} {E : Value → Shared → Prop} {s : Shared}
theorem call_zipS {v1 v2 : Value} {o1 o2 : Obj} {H1 H2 : Heap → Prop} {Q : Value → Shared → Prop} (B1 : Begins v1 o1 H1) (B2 : Begins v2 o2 H2) (h1 : H1 s.heap) (h2 : H2 s.heap)
    (k : ∀ h', IsZS true h' (s.heap.objs.size + 4) (s.heap.objs.size + 2) (s.heap.objs.size + 3) .none → IsTupOf2 h' (s.heap.objs.size + 2) (.ref s.heap.objs.size) (.ref (s.heap.objs.size + 1)) → IsTupOf2 h' (s.heap.objs.size + 3) .none .none →
      h'.get? s.heap.objs.size = some o1 → h'.get? (s.heap.objs.size + 1) = some o2 → (∀ c o, s.heap.get? c = some o → h'.get? c = some o) → Q (.ref (s.heap.objs.size + 4)) { s with heap := h' }) :
    wpAny (model prog w) A (call (.type "zip") [v1, v2] kwS) Q E s := by
  refine call_kwT (Q₁ := fun obj s₁ => s₁.TypeIs obj "zip" ∧ Q obj s₁) F.called_zip (tc_zip _ _) (nc_zip _ _) F.entry_zip_new F.entry_object_init (meets_zipS B1 B2) ⟨⟨h1, h2⟩, ?_⟩
    fun obj s₁ hq => ⟨hq.1, ao_zip obj _ _, _, oinit_kw F.called_zip.init.lookup F.called_zip.made (by decide), hq.1, rfl, hq.2⟩
  have y1 : (s.heap.push o1).objs.size = s.heap.objs.size + 1 := by rw [Heap.size_push]
  have y2 : ((s.heap.push o1).push o2).objs.size = s.heap.objs.size + 2 := by rw [Heap.size_push, y1]
  have y3 : (hT2 s.heap o1 o2).objs.size = s.heap.objs.size + 3 := by rw [Heap.size_push, y2]
  have y4 : (hO2 s.heap o1 o2).objs.size = s.heap.objs.size + 4 := by rw [Heap.size_push, y3]
  have gZ : (hZ2 s.heap o1 o2).get? (hO2 s.heap o1 o2).objs.size = some _ := Heap.get?_push_size _ rfl
  have gO : (hZ2 s.heap o1 o2).get? (hT2 s.heap o1 o2).objs.size = some _ := Heap.get?_push_of_some _ (Heap.get?_push_size _ rfl)
  have gT : (hZ2 s.heap o1 o2).get? ((s.heap.push o1).push o2).objs.size = some _ := Heap.get?_push_of_some _ (Heap.get?_push_of_some _ (Heap.get?_push_size _ rfl))
  have up : ∀ {c : Addr} {o : Obj}, ((s.heap.push o1).push o2).get? c = some o → (hZ2 s.heap o1 o2).get? c = some o := fun e => Heap.get?_push_of_some _ (Heap.get?_push_of_some _ (Heap.get?_push_of_some _ e))
  have g1 : (hZ2 s.heap o1 o2).get? s.heap.objs.size = some o1 := up (Heap.get?_push_of_some _ (Heap.get?_push_size _ B1.free))
  have g2 : (hZ2 s.heap o1 o2).get? (s.heap.push o1).objs.size = some o2 := up (Heap.get?_push_size _ B2.free)
  rw [y4, y3, y2] at gZ
  rw [y3] at gO
  rw [y2, y1] at gT
  rw [y1] at g2
  show _ ∧ _
  rw [y4]
  exact ⟨⟨_, gZ, rfl⟩, k _ gZ gT gO g1 g2 fun c o e => up (Heap.get?_push_of_some _ (Heap.get?_push_of_some _ e))⟩
theorem callWith_kwT {M : Model} {A : Around} {env : Env} {E : Value → Shared → Prop} {s : Shared} {pos : Pos} {T : String} {e : Expr} {rest : List Expr} {kws : List Keyword} {Q : Value → Shared → Prop}
    (h : wpAny M A (spliced (backTo pos (starEach (e :: rest) env))) (fun vs z => wpAny M A (evalAll ((backToKw pos (keywordEach kws env)).map (·.2))) (fun kvs y => wpAny M A (call (.type T) vs (((backToKw pos (keywordEach kws env)).filterMap (·.1)).zip kvs)) Q E y) E z) E s)
    (he : backTo pos (starEach (e :: rest) env) = (false, eval e env) :: backTo pos (starEach rest env)) (hplain : (backTo pos (starEach (e :: rest) env)).any (·.1) = false)
    (hall : (backToKw pos (keywordEach kws env)).all (·.1.isSome) = true) (hkw : (backToKw pos (keywordEach kws env)).any (·.1.isNone) = false) :
    wpAny M A (callWith pos (.type T) [] (backTo pos (starEach (e :: rest) env)) (backToKw pos (keywordEach kws env))) Q E s := by
  have q : wpAny M A (evalArgs (.type T) true (backTo pos (starEach (e :: rest) env)) (backToKw pos (keywordEach kws env))) (fun a z => wpAny M A (call (.type T) ([] ++ a.pos) a.kw) Q E z) E s := by
    rw [he] at h ⊢
    exact evalArgs_kwB hall h
  unfold callWith
  refine wpAny_bind (wpAny_holding (wpAny_mono q (fun a z hz => wpAny_bind (wpAny_standAt ?_)) fun _ _ x => x))
  simp only [hplain, hkw, Bool.or_false]
  exact wpAny_bind (wpAny_pure (wpAny_bind (wpAny_mono hz (fun r y hr => wpAny_bind (wpAny_holding (wpAny_point (wpAny_pure hr)))) fun _ _ x => x)))
end
/-- what a turn of zip gives -/
def ItZ (st b1 b2 : Bool) (K : PySem.W.Frag) (a1 a2 : Addr) : It := ⟨fun i H => ∃ (xs ys : List V) (x y : V), Sq b1 K H a1 xs ∧ Sq b2 K H a2 ys ∧ xs[i]? = some x ∧ ys[i]? = some y ∧ (st = true → xs.length = ys.length),
  fun i H v H' => ∃ T x y, v = .ref T ∧ H T = none ∧ H' = upd H T (.tup [x, y]) ∧ (∀ xs, Sq b1 K H a1 xs → xs[i]? = some x) ∧ ∀ ys, Sq b2 K H a2 ys → ys[i]? = some y,
  fun i H => ∃ xs ys : List V, Sq b1 K H a1 xs ∧ Sq b2 K H a2 ys ∧ i ≤ xs.length ∧ i ≤ ys.length ∧ (i = xs.length ∨ i = ys.length) ∧ (st = true → xs.length = ys.length)⟩
theorem turn_zipG {P : Program} {w : World} {K : PySem.W.Frag} {elts : List Expr} {kk : Nat} {tpos : Pos} (st b1 b2 : Bool) {a1 a2 z TI TO i1 i2 : Addr} (S : ZipSep2 z TI TO i1 i2 [i1, a1] [i2, a2]) (na : a1 ≠ i1) (nb : a2 ≠ i2) :
    Turn P w K (.Tuple elts kk tpos) (ItZ st b1 b2 K a1 a2) [z, TI, TO, i1, i2] z (fun i h => IsZS st h z TI TO .none ∧ IsTupOf2 h TI (.ref i1) (.ref i2) ∧ (∃ x y, IsTupOf2 h TO x y) ∧ ItAt b1 h i1 a1 i ∧ ItAt b2 h i2 a2 i) where
  mem := by simp
  obj := fun i h q c hc => by
    obtain ⟨hz, hTI, ⟨x, y, hTO⟩, h1, h2⟩ := q
    have y : c = z ∨ c = TI ∨ c = TO ∨ c = i1 ∨ c = i2 := by simpa using hc
    rcases y with y | y | y | y | y
    · rw [y]; exact ⟨_, hz, fun v q => nomatch q⟩
    · rw [y]; exact ⟨_, hTI, fun v q => nomatch q⟩
    · rw [y]; exact ⟨_, hTO, fun v q => nomatch q⟩
    · rw [y]; exact h1.obj
    · rw [y]; exact h2.obj
  keep := fun i h h' q k => by
    obtain ⟨hz, hTI, ⟨x, y, hTO⟩, h1, h2⟩ := q
    exact ⟨k z (by simp) _ hz, k TI (by simp) _ hTI, ⟨x, y, k TO (by simp) _ hTO⟩, h1.at fun o q => k i1 (by simp) o q, h2.at fun o q => k i2 (by simp) o q⟩
  item := by
    intro X hP hw hK hc i pins s σ H E I hf q ⟨xs, ys, x, y, hqx, hqy, hx, hy, hl⟩
    subst hP hw hK
    obtain ⟨hz, hTI, ⟨x0, y0, hTO⟩, h1, h2'⟩ := q
    obtain ⟨its, rv, p⟩ := sq_get I hqx
    obtain ⟨its2, rv2, p2⟩ := sq_get I hqy
    obtain ⟨u, hu, ru⟩ := rv.get hx
    obtain ⟨u2, hu2, ru2⟩ := rv2.get hy
    have hi1 : i < its.toArray.size := by rw [List.size_toArray]; exact (List.getElem?_eq_some_iff.mp hu).1
    have hi2 : i < its2.toArray.size := by rw [List.size_toArray]; exact (List.getElem?_eq_some_iff.mp hu2).1
    have D1 := draws (prog := X.prog) (w := X.w) (A := X.A.in1) (I.ok.hd hc) b1 i1 a1 na its.toArray
    have D2 := draws (prog := X.prog) (w := X.w) (A := X.A.in1) (I.ok.hd hc) b2 i2 a2 nb its2.toArray
    have hzl : z < s.heap.objs.size := Heap.lt_size hz
    have fin : ∀ (v1 v2 : Value) (h' : Heap) (tk : Tok), its.toArray[i]? = some v1 → its2.toArray[i]? = some v2 → IsZS st h' z TI TO (rawInt s.heap.objs.size) → IsTupOf2 h' TO v1 v2 → StI b1 i1 a1 its.toArray (i + 1) h' → StI b2 i2 a2 its2.toArray (i + 1) h' → IsTupOf2 h' s.heap.objs.size v1 v2 →
        (∀ c o, c ≠ z → c ≠ TO → c ≠ i1 → c ≠ i2 → s.heap.get? c = some o → h'.get? c = some o) →
        (fun r y => ∃ u, r = some u ∧ wpAny (model X.prog X.w) X.A (letOwnedTupleGo (.Tuple elts kk tpos) (.ref z) u) (fun _ y => ∃ x H', Inv X pins σ H' y ∧ RelV x u ∧ (ItZ st b1 b2 X.K a1 a2).yld i H x H' ∧
          (IsZS st y.heap z TI TO .none ∧ IsTupOf2 y.heap TI (.ref i1) (.ref i2) ∧ (∃ x y', IsTupOf2 y.heap TO x y') ∧ ItAt b1 y.heap i1 a1 (i + 1) ∧ ItAt b2 y.heap i2 a2 (i + 1)) ∧ ∀ b ∈ [z, TI, TO, i1, i2], H' b = none) E y : Option Value → Shared → Prop)
          (some (.ref s.heap.objs.size)) { s with heap := h', toks := tk } := fun v1 v2 h' tk e1 e2 zq TOq n1 n2 hT hk => by
      have v1u : v1 = u := by
        have q : its.toArray[i]? = some u := by simpa using hu
        rw [q] at e1; exact (Option.some.inj e1).symm
      have v2u : v2 = u2 := by
        have q : its2.toArray[i]? = some u2 := by simpa using hu2
        rw [q] at e2; exact (Option.some.inj e2).symm
      subst v1u v2u
      refine ⟨_, rfl, ?_⟩
      have rest : ∀ h2 : Heap, IsZS st h2 z TI TO .none → Heap.SameBut z h' h2 → (∃ x H', Inv X pins σ H' { s with heap := h2, toks := tk } ∧ RelV x (.ref s.heap.objs.size) ∧ (ItZ st b1 b2 X.K a1 a2).yld i H x H' ∧
          (IsZS st h2 z TI TO .none ∧ IsTupOf2 h2 TI (.ref i1) (.ref i2) ∧ (∃ x y', IsTupOf2 h2 TO x y') ∧ ItAt b1 h2 i1 a1 (i + 1) ∧ ItAt b2 h2 i2 a2 (i + 1)) ∧ ∀ b ∈ [z, TI, TO, i1, i2], H' b = none) := fun h2 zz sb => by
        have hT2 : h2.get? s.heap.objs.size = some { cls := .type "tuple", data := .seq #[v1, v2] } := (sb.2 _ (Nat.ne_of_gt hzl)).trans hT
        have new : ObjOk X.prog X.w (upd H s.heap.objs.size (.tup [x, y])) h2 s.heap.objs.size (.tup [x, y]) := ⟨(by decide : 2 ≤ sizeLine), [v1, v2], .cons ru (.cons ru2 .nil), ⟨_, hT2, rfl, _, rfl⟩⟩
        have J : Inv X pins σ (upd H s.heap.objs.size (.tup [x, y])) { s with heap := h2, toks := tk } := I.turnedNew (ch := [z, TI, TO, i1, i2])
          (fun c o hb q => (sb.2 c (fun m => hb (by simp [m]))).trans (hk c o (fun m => hb (by simp [m])) (fun m => hb (by simp [m])) (fun m => hb (by simp [m])) (fun m => hb (by simp [m])) q)) hf (Nat.le_refl _) new
        refine ⟨.ref s.heap.objs.size, _, J, rfl, ⟨_, x, y, rfl, I.hok.fresh (Nat.le_refl _), rfl, fun l hl => sq_inj I hl hqx ▸ hx, fun l hl => sq_inj I hl hqy ▸ hy⟩, ⟨zz, (sb.2 _ S.TIz).trans (hk _ _ S.TIz S.TITO S.TIi1 S.TIi2 hTI), ⟨v1, v2, (sb.2 _ S.TOz).trans TOq⟩,
          n1.1.at fun o q => (sb.2 _ (Ne.symm S.zi1)).trans q, n2.1.at fun o q => (sb.2 _ (Ne.symm S.zi2)).trans q⟩, fun c hcm => ?_⟩
        have lt : c < s.heap.objs.size := by
          have m : c = z ∨ c = TI ∨ c = TO ∨ c = i1 ∨ c = i2 := by simpa using hcm
          rcases m with m | m | m | m | m <;> rw [m]
          · exact hzl
          · exact Heap.lt_size hTI
          · exact Heap.lt_size hTO
          · obtain ⟨_, e, _⟩ := h1.obj; exact Heap.lt_size e
          · obtain ⟨_, e, _⟩ := h2'.obj; exact Heap.lt_size e
        rw [upd_ne (Nat.ne_of_lt lt)]
        exact (hf c hcm).1
      cases st with
      | true => exact zsGo (s := { s with heap := h', toks := tk }) zq fun h2 zz sb => rest h2 zz sb
      | false => exact wpAny_letOwnedTupleGo_zip (s := { s with heap := h', toks := tk }) zq fun h2 zz sb => rest h2 zz sb
    cases st with
    | true =>
      have sz : its2.toArray.size = its.toArray.size := by
        rw [List.size_toArray, List.size_toArray, ← rv2.length, ← rv.length, hl rfl]
      rw [sz] at D2
      exact zsNext_item S D1 D2 hz hTI hTO ⟨h1, p⟩ ⟨h2', p2⟩ hi1 fun v1 v2 h' tk e1 e2 zq TOq n1 n2 hT _ hk => fin v1 v2 h' tk e1 e2 zq TOq n1 n2 hT hk
    | false => exact wpAny_pyNext_zipD2_item S D1 D2 hz hTI hTO ⟨h1, p⟩ ⟨h2', p2⟩ hi1 hi2 fun v1 v2 h' tk e1 e2 zq TOq n1 n2 hT _ hk => fin v1 v2 h' tk e1 e2 zq TOq n1 n2 hT hk
  done := by
    intro X hP hw hK hc i pins s σ H E I hf q ⟨xs, ys, hqx, hqy, l1, l2, hend, hl⟩
    subst hP hw hK
    obtain ⟨hz, hTI, ⟨x0, y0, hTO⟩, h1, h2⟩ := q
    obtain ⟨its, rv, p⟩ := sq_get I hqx
    obtain ⟨its2, rv2, p2⟩ := sq_get I hqy
    have D1 := draws (prog := X.prog) (w := X.w) (A := X.A.in1) (I.ok.hd hc) b1 i1 a1 na its.toArray
    have D2 := draws (prog := X.prog) (w := X.w) (A := X.A.in1) (I.ok.hd hc) b2 i2 a2 nb its2.toArray
    have z1 : its.toArray.size = xs.length := by rw [List.size_toArray, rv.length]
    have z2 : its2.toArray.size = ys.length := by rw [List.size_toArray, rv2.length]
    have fin : ∀ h' tk, (∀ c o, c ≠ z → c ≠ TO → c ≠ i1 → c ≠ i2 → s.heap.get? c = some o → h'.get? c = some o) → Inv X pins σ H { s with heap := h', toks := tk } := fun h' tk hk =>
      I.turnedL (ch := [z, TI, TO, i1, i2]) (fun c o hb q => hk c o (fun m => hb (by simp [m])) (fun m => hb (by simp [m])) (fun m => hb (by simp [m])) (fun m => hb (by simp [m])) q) hf
    cases st with
    | true =>
      have e1 : i = its.toArray.size := by have := hl rfl; omega
      have e2 : its2.toArray.size = its.toArray.size := by have := hl rfl; omega
      rw [e2] at D2
      exact zsNext_end (I.ok.hd hc) S D1 D2 hz hTI hTO (e1 ▸ ⟨h1, p⟩) (e1 ▸ ⟨h2, p2⟩) fun h' tk hk => ⟨rfl, fin h' tk hk⟩
    | false => exact wpAny_pyNext_zipD2_end S D1 D2 hz hTI hTO ⟨h1, p⟩ ⟨h2, p2⟩ (by omega) (by omega) (by omega) fun h' tk hk => ⟨rfl, fin h' tk hk⟩
  self := fun A i s Q E q h => by
    cases st with
    | true => exact zsIter q.1 h
    | false => exact wpAny_pyIter_zip q.1 h
end Fz
/-! FzHe: zip as what a for or a comprehension walks. -/
namespace Fz
open PySem PySem.Spec PyProof.Rows L2
theorem not2 {a b c : Nat} (h1 : a ≠ b) (h2 : a ≠ c) : a ∉ [b, c] := fun h => by
  rcases List.mem_cons.mp h with e | h
  · exact h1 e
  · exact h2 (List.mem_singleton.mp h)
theorem sep_new {n a1 a2 : Nat} (h1 : a1 < n) (h2 : a2 < n) : ZipSep2 (n + 4) (n + 2) (n + 3) n (n + 1) [n, a1] [n + 1, a2] where
  TIz := (by omega : (n + 2 : Nat) ≠ n + 4)
  TOz := (by omega : (n + 3 : Nat) ≠ n + 4)
  TITO := (by omega : (n + 2 : Nat) ≠ n + 3)
  TIi1 := (by omega : (n + 2 : Nat) ≠ n)
  mem1 := by simp
  zf1 := not2 (by omega) (by omega)
  Tf1 := not2 (by omega) (by omega)
  TIi2 := (by omega : (n + 2 : Nat) ≠ n + 1)
  mem2 := by simp
  zf2 := not2 (by omega) (by omega)
  Tf2 := not2 (by omega) (by omega)
  sep1_2 := not2 (by omega) (by omega)
  sep2_1 := not2 (by omega) (by omega)
section
variable {X : Cx} {G : Gx}
def iZipG (st : Bool) (K : PySem.W.Frag) (ta : TA) : TI := fun σ H R => ta σ H fun vs H1 => ∃ b1 b2 a1 a2 xs ys, vs = [.ref a1, .ref a2] ∧ Sq b1 K H1 a1 xs ∧ Sq b2 K H1 a2 ys ∧ R (ItZ st b1 b2 K a1 a2) H1
theorem zip_made {st b1 b2 : Bool} {elts : List Expr} {kk : Nat} {tpos : Pos} {pins : List (Addr × Obj)} {σ : L2.St} {H1 : Hp} {s1 : Shared} {R : It → Hp → Prop} {a1 a2 : Addr} {its its2 : List Value} (I1 : Inv X pins σ H1 s1) (p1 : SqAt b1 s1.heap a1 its.toArray) (p2 : SqAt b2 s1.heap a2 its2.toArray) (q : R (ItZ st b1 b2 X.K a1 a2) H1)
    {h' : Heap} (hz : IsZS st h' (s1.heap.objs.size + 4) (s1.heap.objs.size + 2) (s1.heap.objs.size + 3) .none) (hTI : IsTupOf2 h' (s1.heap.objs.size + 2) (.ref s1.heap.objs.size) (.ref (s1.heap.objs.size + 1))) (hTO : IsTupOf2 h' (s1.heap.objs.size + 3) .none .none)
    (g1 : h'.get? s1.heap.objs.size = some (itO b1 a1)) (g2 : h'.get? (s1.heap.objs.size + 1) = some (itO b2 a2)) (hk : ∀ c o, s1.heap.get? c = some o → h'.get? c = some o) :
    PIE X pins σ (.Tuple elts kk tpos) R (.ref (s1.heap.objs.size + 4)) { s1 with heap := h' } := by
  have l1 := sq_lt p1
  have l2 := sq_lt p2
  have J : Inv X pins σ H1 { s1 with heap := h' } := I1.kept (t' := s1.toks) hk
  refine ⟨s1.heap.objs.size + 4, [s1.heap.objs.size + 4, s1.heap.objs.size + 2, s1.heap.objs.size + 3, s1.heap.objs.size, s1.heap.objs.size + 1], _, _, H1, rfl, J,
    turn_zipG st b1 b2 (sep_new (n := s1.heap.objs.size) l1 l2) (Nat.ne_of_lt l1) (Nat.ne_of_lt (Nat.lt_succ_of_lt l2)), ⟨hz, hTI, ⟨_, _, hTO⟩, .mk g1, .mk g2⟩, fun c hc => ?_, q⟩
  have y : c = s1.heap.objs.size + 4 ∨ c = s1.heap.objs.size + 2 ∨ c = s1.heap.objs.size + 3 ∨ c = s1.heap.objs.size ∨ c = s1.heap.objs.size + 1 := by simpa using hc
  have le : s1.heap.objs.size ≤ c := by
    rcases y with y | y | y | y | y <;> rw [y] <;> first | exact Nat.le_add_right _ _ | exact Nat.le_refl _
  exact I1.fpOk le (I1.hok.fresh le)
theorem pi_zipN {e e2 : Expr} {ta : TA} {p pos tpos : Pos} {elts : List Expr} {kk : Nat} (hg : Gl X "zip") (hm : X.mg "zip" = none) (ha : PA X [e, e2] ta) (hs : starEach [e, e2] X.env = (false, eval e X.env) :: starEach [e2] X.env) (hpl : (backTo pos (starEach [e2] X.env)).any (·.1) = false) :
    PI X (.Tuple elts kk tpos) (.Call (.Name "zip" p) [e, e2] [] pos) (iZipG false X.K ta) := by
  refine ⟨fun pins s σ H R I h => Call_ (ld_blt I hg hm PyProof.Rows.boot_zip (PyProof.Rows.callWith_type1 (thn (ha.run pos pins s σ H _ I h) fun us s1 ⟨vs, H1, I1, r1, b1, b2, a1, a2, xs, ys, ex, hqx, hqy, q⟩ => ?_) hs hpl))⟩
  subst ex
  obtain ⟨w1, w2, rfl, r, r'⟩ := vals2 r1
  cases r
  cases r'
  obtain ⟨its, rv, p1⟩ := sq_get I1 hqx
  obtain ⟨its2, rv2, p2⟩ := sq_get I1 hqy
  exact zip_begins2 (begins b1 a1 its.toArray) (begins b2 a2 its2.toArray) p1 p2 fun h' hz hTI hTO g1 g2 _ hk => wpAny_pyIter_zip hz (zip_made I1 p1 p2 q hz hTI hTO g1 g2 hk)
theorem pi_zipS {e e2 : Expr} {ta : TA} {p pos tpos p3 kpos : Pos} {elts : List Expr} {kk j : Nat} (hg : Gl X "zip") (hm : X.mg "zip" = none) (ha : PA X [e, e2] ta) (hs : starEach [e, e2] X.env = (false, eval e X.env) :: starEach [e2] X.env) (hpl : (backTo pos (starEach [e, e2] X.env)).any (·.1) = false) :
    PI X (.Tuple elts kk tpos) (.Call (.Name "zip" p) [e, e2] [⟨some "strict", .Constant (.bool true) j p3, kpos⟩] pos) (iZipG true X.K ta) := by
  have pk : PK X [⟨some "strict", .Constant (.bool true) j p3, kpos⟩] (tCons (tC (.bl true)) tNil) := pk_cons pe_bl pk_nil
  refine ⟨fun pins s σ H R I h => wpAny_Call_Name_kw (ld_blt I hg hm PyProof.Rows.boot_zip (callWith_kwT (thn (ha.run pos pins s σ H _ I h) fun us s1 ⟨vs, H1, I1, r1, b1, b2, a1, a2, xs, ys, ex, hqx, hqy, q⟩ =>
    thn (pk.run pos pins s1 σ H1 (fun zs H2 => zs = [.bl true] ∧ H2 = H1) I1 ⟨rfl, rfl⟩) fun ws s2 ⟨zs, H2, I2, r2, e3, e4⟩ => ?_) (by rw [hs]; rfl) hpl rfl rfl))⟩
  subst ex e3 e4
  obtain ⟨w1, w2, rfl, r, r'⟩ := vals2 r1
  cases r
  cases r'
  obtain ⟨w3, rfl, r3⟩ := vals1 r2
  cases r3
  obtain ⟨its, rv, p1⟩ := sq_get I2 hqx
  obtain ⟨its2, rv2, p2⟩ := sq_get I2 hqy
  exact call_zipS (begins b1 a1 its.toArray) (begins b2 a2 its2.toArray) p1 p2 fun h' hz hTI hTO g1 g2 hk => zsIter hz (zip_made I2 p1 p2 q hz hTI hTO g1 g2 hk)
theorem zipL_get : ∀ (xs ys : List D) (i : Nat) (d e : D), xs[i]? = some d → ys[i]? = some e → (zipL xs ys)[i]? = some (.tuple [d, e])
  | x :: r, y :: q, 0, d, e, h1, h2 => by cases h1; cases h2; rfl
  | x :: r, y :: q, i + 1, d, e, h1, h2 => by
    rw [zipL, List.getElem?_cons_succ]
    exact zipL_get r q i d e h1 h2
  | [], _, i, d, e, h1, _ => by simp at h1
  | _ :: _, [], i, d, e, _, h2 => by simp at h2
theorem zipL_len : ∀ (xs ys : List D), (zipL xs ys).length = min xs.length ys.length
  | x :: r, y :: q => by rw [zipL, List.length_cons, List.length_cons, List.length_cons, zipL_len r q]; omega
  | [], ys => by simp [zipL]
  | _ :: _, [] => by simp [zipL]
theorem walk_zipG {st b1 b2 : Bool} {a1 a2 : Addr} {F1 : Hp} {vs us : List V} {xs ys : List D} (ra : RpA G.K G.sp F1 vs xs) (rb : RpA G.K G.sp F1 us ys) (hst : st = true → xs.length = ys.length) :
    Walk (ItZ st b1 b2 G.K a1 a2) (zipL xs ys).length (fun H => Sq b1 G.K H a1 vs ∧ Sq b2 G.K H a2 us) (Yd G F1 (zipL xs ys)) := by
  have la := ra.length
  have lb := rb.length
  rw [zipL_len]
  refine ⟨fun i H hi q => ⟨vs, us, vs[i]'(by omega), us[i]'(by omega), q.1, q.2, by simp, by simp, fun z => by rw [la, lb, hst z]⟩, fun H q => ⟨vs, us, q.1, q.2, by omega, by omega, by omega, fun z => by rw [la, lb, hst z]⟩, fun i H v H' hi q ⟨T, x, y, e1, e2, e3, e4, e5⟩ => ?_⟩
  obtain ⟨d, hd, rx⟩ := ra.getV (e4 vs q.1)
  obtain ⟨e, he, ry⟩ := rb.getV (e5 us q.2)
  subst e1 e3
  refine ⟨_, zipL_get xs ys i d e hd he, fun F s h1 h2 h3 _ _ => ⟨_, Fw.lay h2 h3 e2, .tup upd_same ?_⟩⟩
  have m := h1.trans (Same.upd' (h2.free e2) (o := .tup [x, y]))
  exact .cons (rx.mono m) (.cons (ry.mono m) .nil)
/-- a list or a tuple, read -/
theorem sq_of {K : PySem.W.Frag} {sp cc : Addr} {F H : Hp} {x : V} {d : D} {ys : List D} (h : Rb K sp cc F H x d) (e : Same F H) (hs : seqOf d = some ys) : ∃ b a vs, x = .ref a ∧ Sq b K H a vs ∧ RpA K sp F vs ys := by
  cases d with
  | list zs =>
    cases hs
    obtain ⟨a, vs, rfl, q, _, _, ra⟩ := h
    exact ⟨false, a, vs, rfl, SqL.of q, ra⟩
  | tuple zs =>
    cases hs
    obtain ⟨a, vs, rfl, q, ra⟩ := h.tuple
    exact ⟨true, a, vs, rfl, sqT_same e q, ra⟩
  | _ => cases hs
/-- .. that is frozen, or as it is kept -/
theorem sq_ofP {K : PySem.W.Frag} {sp : Addr} {F : Hp} {x : V} {d : D} {ys : List D} (h : Rp K sp F x d) (hs : seqOf d = some ys) : ∃ b a vs, x = .ref a ∧ (∀ H', Same F H' → Sq b K H' a vs) ∧ RpA K sp F vs ys := by
  cases d with
  | list zs =>
    cases hs
    cases h with
    | lst q ra => exact ⟨false, _, _, rfl, fun H' e => SqL.of (e _ _ q), ra⟩
  | tuple zs =>
    cases hs
    obtain ⟨a, vs, rfl, q, ra⟩ := h.tuple
    exact ⟨true, a, vs, rfl, fun H' e => sqT_same e q, ra⟩
  | _ => cases hs
theorem sq_ofB {K : PySem.W.Frag} {sp cc : Addr} {F H : Hp} {x : V} {d : D} {ys : List D} (h : Rb K sp cc F H x d) (e : Same F H) (hs : seqOf d = some ys) : ∃ b a vs, x = .ref a ∧ (∀ F' H' s', Fw sp cc F H F' H' s' → Sq b K H' a vs) ∧ RpA K sp F vs ys := by
  cases d with
  | list zs =>
    cases hs
    obtain ⟨a, vs, rfl, q, n1, n2, ra⟩ := h
    exact ⟨false, a, vs, rfl, fun F' H' s' f => SqL.of (f.keep _ _ q n1 n2), ra⟩
  | tuple zs =>
    cases hs
    obtain ⟨a, vs, rfl, q, ra⟩ := h.tuple
    exact ⟨true, a, vs, rfl, fun F' H' s' f => sqT_same (f.fr.trans f.sub) q, ra⟩
  | _ => cases hs
theorem okI_zip {st : Bool} {a b : E} {ea eb : Expr} {p pos tpos p3 kpos : Pos} {elts : List Expr} {kk j : Nat} (hK : X.K = G.K) (hg : Gl X "zip") (hm : X.mg "zip" = none) (h1 : isStarX ea = false) (h2 : isStarX eb = false) (ha : OkE X G a ea) (hb : OkE X G b eb) :
    PI X (.Tuple elts kk tpos) (.Call (.Name "zip" p) [ea, eb] (if st then [⟨some "strict", .Constant (.bool true) j p3, kpos⟩] else []) pos) (RdI G (.zip a b st)) := by
  have hs : starEach [ea, eb] X.env = (false, eval ea X.env) :: starEach [eb] X.env := starEach_no h1 _ _
  have n2 : (backTo pos (starEach [eb] X.env)).any (·.1) = false := by rw [starEach_no h2]; rfl
  have n1 : (backTo pos (starEach [ea, eb] X.env)).any (·.1) = false := by rw [starEach_no h1, starEach_no h2]; rfl
  have pz : ∀ {ta : TA}, PA X [ea, eb] ta → PI X (.Tuple elts kk tpos) (.Call (.Name "zip" p) [ea, eb] (if st then [⟨some "strict", .Constant (.bool true) j p3, kpos⟩] else []) pos) (iZipG st X.K ta) := fun {ta} h => by
    cases st with
    | true => exact pi_zipS hg hm h hs n1
    | false => exact pi_zipN hg hm h hs n2
  refine ⟨fun pins sh σ H R I ⟨g, en, F, s, d, xs, s', Rr, off, he, hq, k⟩ => ?_⟩
  obtain ⟨d1, s1, e1, e2⟩ := bnd_some he
  obtain ⟨d2, s2, e3, e4⟩ := bnd_some e2
  obtain ⟨e5, rfl⟩ := lift_some e4
  obtain ⟨ys, q1, e6⟩ := Option.bind_eq_some_iff.mp e5
  obtain ⟨zs, q2, e7⟩ := Option.bind_eq_some_iff.mp e6
  obtain ⟨hst, rfl⟩ := if_some e7
  cases hq
  have hst2 : st = true → ys.length = zs.length := fun z => by
    rw [z] at hst
    simpa using hst
  by_cases ho : Off g (lk a ++ lk b)
  · refine (pz (pa_cons ha.V (pa_cons hb.V pa_nil (starEach_no h2 _ _)) hs)).run pins sh σ H R I ⟨g, en, F, s, d1, s1, Rr, ho.l, e1, fun x F1 H1 f1 r1 => ⟨g, en, F1, s1, d2, s', Rr.step f1, ho.r, e3, fun y F2 H2 f2 r2 => ?_⟩⟩
    obtain ⟨b1, a1, vs, rfl, c1, ra⟩ := sq_ofP (r1.mono f2.fr) q1
    obtain ⟨b2, a2, us, rfl, c2, rb⟩ := sq_ofP r2 q2
    have f := f1.trans f2
    exact ⟨b1, b2, a1, a2, vs, us, rfl, hK ▸ c1 _ f.sub, hK ▸ c2 _ f.sub, hK ▸ k _ F2 H2 _ f (walk_zipG ra rb hst2) (fun _ H'' z => ⟨c1 _ z, c2 _ z⟩) fun F'' H'' s'' f3 => ⟨c1 _ (f3.fr.trans f3.sub), c2 _ (f3.fr.trans f3.sub)⟩⟩
  · refine (pz (pa_cons ha.B (pa_cons hb.B pa_nil (starEach_no h2 _ _)) hs)).run pins sh σ H R I ⟨g, en, F, s, d1, s1, Rr, off.l, e1, fun x F1 H1 f1 r1 => ⟨g, en, F1, s1, d2, s', Rr.step f1, off.r, e3, fun y F2 H2 f2 r2 => ?_⟩⟩
    obtain ⟨b1, a1, vs, rfl, c1, ra⟩ := sq_ofB (r1.step f2) f2.sub q1
    obtain ⟨b2, a2, us, rfl, c2, rb⟩ := sq_ofB r2 f2.sub q2
    have f := f1.trans f2
    have z := Fw.refl f2.sub f2.src
    exact ⟨b1, b2, a1, a2, vs, us, rfl, hK ▸ c1 _ _ _ z, hK ▸ c2 _ _ _ z, hK ▸ k _ F2 H2 _ f (walk_zipG ra rb hst2) (fun z => absurd z ho) fun F'' H'' s'' f3 => ⟨c1 _ _ _ f3, c2 _ _ _ f3⟩⟩
end
end Fz
/-! FzHf: a strict zip that is walked by another iterator: its tuple may be out still. -/
namespace Fz
open PySem PySem.Spec PyProof.Rows L2
abbrev IsZG (h : Heap) (z TI TO : Addr) (f : Value) (fl : Bool) : Prop := h.get? z = some { cls := .type "zip", dict := none, data := .fields #[f, .bool fl, .bool true, .ref TI, .ref TO], slots := #[] }
/-- no tuple is out, or one was -/
def OwnV (f : Value) : Prop := f = .none ∨ ∃ T : Addr, f = rawInt T
section
variable {prog : Program} {w : World} {A : Around} {E : Value → Shared → Prop} {s : Shared} {z TI TO i1 i2 : Addr} {fp1 fp2 : List Addr} {n i : Nat} {P1 P2 : Nat → Value → Prop} {St1 St2 : Nat → Heap → Prop} {a1 a2 : Value} {f0 : Value} {fl : Bool}
theorem aliveG {a : Addr} {Q : Option Obj → Shared → Prop} (h : Q (s.heap.get? a) s) : wpAny (model prog w) A (loadIfAlive a) Q E s := fun _ _ _ => h
theorem isFreeG {Q : Bool → Shared → Prop} (hz : IsZG s.heap z TI TO f0 fl) (hf : OwnV f0) (kf : Q true s) (kh : ∀ (T : Addr) h', f0 = rawInt T → IsZG h' z TI TO f0 true → Heap.SameBut z s.heap h' → Q false { s with heap := h' }) :
    wpAny (model prog w) A (Builtin.SmallTypes.ownedTupleIsFree (.ref z)) Q E s := by
  unfold Builtin.SmallTypes.ownedTupleIsFree
  rcases hf with rfl | ⟨T, rfl⟩
  · exact wpAny_bind (wpAny_field hz rfl (x := .none) rfl (wpAny_pure kf))
  · refine wpAny_bind (wpAny_field hz rfl (x := rawInt T) rfl ?_)
    show wpAny _ _ (loadIfAlive ((T : Int).toNat) >>= _) _ _ _
    rw [Int.toNat_natCast]
    refine wpAny_bind (aliveG ?_)
    cases hT : s.heap.get? T with
    | none =>
      simp only [Option.isNone_none, if_true]
      exact wpAny_pure kf
    | some oT =>
      simp only [Option.isNone_some, Bool.false_eq_true, if_false]
      refine wpAny_bind (wpAny_field hz rfl (x := .bool fl) rfl ?_)
      cases fl with
      | true =>
        rw [if_neg (show ¬ ((Value.bool true != Value.bool true) = true) from Bool.false_ne_true)]
        exact wpAny_pure (kh T s.heap rfl hz (Heap.SameBut.refl _ _))
      | false =>
        rw [if_pos (show (Value.bool false != Value.bool true) = true from rfl)]
        exact wpAny_bind (wpAny_setField_rec hz (by simp) fun h1 hz1 hs1 => wpAny_pure (kh T h1 rfl hz1 hs1))
theorem zg_item {Q : Value → Shared → Prop} (S : ZipSep2 z TI TO i1 i2 fp1 fp2) (D1 : Draws prog w A i1 fp1 n P1 St1) (D2 : Draws prog w A i2 fp2 n P2 St2) (hz : IsZG s.heap z TI TO f0 fl) (hf : OwnV f0) (hTI : IsTupOf2 s.heap TI (.ref i1) (.ref i2)) (hTO : IsTupOf2 s.heap TO a1 a2)
    (s1 : St1 i s.heap) (s2 : St2 i s.heap) (hi : i < n)
    (k : ∀ x1 x2 h' tk, P1 i x1 → P2 i x2 → (∃ f0 fl, IsZG h' z TI TO f0 fl ∧ OwnV f0) → (∃ a b, IsTupOf2 h' TO a b) → St1 (i + 1) h' → St2 (i + 1) h' → IsTupOf2 h' s.heap.objs.size x1 x2 → h'.objs.size = s.heap.objs.size + 1 →
      (∀ c o, c ≠ z → c ≠ TO → c ≠ i1 → c ≠ i2 → s.heap.get? c = some o → h'.get? c = some o) → Q (.ref s.heap.objs.size) { s with heap := h', toks := tk }) :
    wpAny (model prog w) A (Builtin.«zip.__next__» ⟨[.ref z], []⟩) (fun fin s' => ∃ v, fin = .done (.ret v) ∧ Q v s') E s := by
  obtain ⟨hp, g, d, t0, os⟩ := s
  show wpAny _ _ (field (.ref z) 2 >>= _) _ _ _
  refine wpAny_bind (wpAny_field hz rfl (x := .bool true) rfl ?_)
  show wpAny _ _ (field (.ref z) 3 >>= _) _ _ _
  refine wpAny_bind (wpAny_field hz rfl (x := .ref TI) rfl (wpAny_bind (wpAny_seqItems hTI rfl ?_)))
  show wpAny _ _ (Builtin.SmallTypes.ownedTupleIsFree (.ref z) >>= _) _ _ _
  refine wpAny_bind (isFreeG hz hf ?free fun T h1 hT hz1 hs1 => ?held)
  case free =>
    simp only [if_true]
    refine wpAny_bind (wpAny_rule (wpAny_bind (wpAny_field hz rfl (x := .ref TO) rfl (wpAny_bind (wpAny_setField_rec hz (by simp) fun g0 k0 b0 => ?_)))))
    have hz0 : IsZG g0 z TI TO .ellipsis fl := k0
    have hs0 : Heap.SameBut z hp g0 := b0
    clear k0 b0
    refine wpAny_bind ?_
    simp only [List.zipIdx_cons, List.zipIdx_nil, List.forIn_cons, List.forIn_nil]
    refine wpAny_bind (wpAny_bind (wpAny_onRaise ?_))
    show wpAny _ _ (Builtin.SmallTypes.nextOrEnd (.ref i1)) _ _ ⟨g0, g, d, t0, os⟩
    refine drawOr D1 hi (D1.over s1 hs0 S.zf1) fun x1 p1 t1 hx1 n1 q1 => ?_
    have hp1 : Heap.SameBut i1 g0 p1 := q1
    clear q1
    have u1 : IsTupOf2 p1 TO a1 a2 := hp1.extBut _ _ S.Ti1 (hs0.extBut _ _ S.TOz hTO)
    refine wpAny_bind (wpAny_seqItems (s := ⟨p1, g, d, t1, os⟩) u1 rfl (wpAny_bind (updateSeq_IsTupOf2 (s := ⟨p1, g, d, t1, os⟩) u1 fun g1 c1 e1 => ?_)))
    have hT1 : IsTupOf2 g1 TO x1 a2 := c1
    have hs1 : Heap.SameBut TO p1 g1 := e1
    clear c1 e1
    refine wpAny_bind (wpAny_letGo (wpAny_pure (wpAny_bind (wpAny_bind (wpAny_onRaise ?_)))))
    show wpAny _ _ (Builtin.SmallTypes.nextOrEnd (.ref i2)) _ _ ⟨g1, g, d, t1, os⟩
    refine drawOr D2 hi (D2.over (D2.over (D2.over s2 hs0 S.zf2) hp1 S.sep1_2) hs1 S.Tf2) fun x2 p2 t2 hx2 n2 q2 => ?_
    have hp2 : Heap.SameBut i2 g1 p2 := q2
    clear q2
    have u2 : IsTupOf2 p2 TO x1 a2 := hp2.extBut _ _ S.Ti2 hT1
    refine wpAny_bind (wpAny_seqItems (s := ⟨p2, g, d, t2, os⟩) u2 rfl (wpAny_bind (updateSeq_IsTupOf2 (s := ⟨p2, g, d, t2, os⟩) u2 fun g2 c2 e2 => ?_)))
    have hT2 : IsTupOf2 g2 TO x1 x2 := c2
    have hs2 : Heap.SameBut TO p2 g2 := e2
    clear c2 e2
    refine wpAny_bind (wpAny_letGo (wpAny_pure (wpAny_pure ?_)))
    refine wpAny_bind (wpAny_seqItems (s := ⟨g2, g, d, t2, os⟩) hT2 rfl (wpAny_bind (wpAny_newTuple ?_)))
    have sz : g2.objs.size = hp.objs.size := by rw [hs2.1, hp2.1, hs1.1, hp1.1, hs0.1]
    have zz : IsZG g2 z TI TO .ellipsis fl := hs2.extBut _ _ S.TOz.symm (hp2.extBut _ _ S.zi2 (hs1.extBut _ _ S.TOz.symm (hp1.extBut _ _ S.zi1 hz0)))
    have kk : ∀ c o, c ≠ z → c ≠ TO → c ≠ i1 → c ≠ i2 → hp.get? c = some o → g2.get? c = some o := fun c o cz cT c1 c2 e => hs2.extBut _ _ cT (hp2.extBut _ _ c2 (hs1.extBut _ _ cT (hp1.extBut _ _ c1 (hs0.extBut _ _ cz e))))
    have j1 : St1 (i + 1) g2 := D1.over (D1.over (D1.over n1 hs1 S.Tf1) hp2 S.sep2_1) hs2 S.Tf1
    have j2 : St2 (i + 1) g2 := D2.over n2 hs2 S.Tf2
    have lt : z < g2.objs.size := Heap.lt_size zz
    show wpAny _ _ (Builtin.SmallTypes.ownedTupleHandOut (.ref z) (.ref g2.objs.size) >>= _) _ _ ⟨g2.push { cls := .type "tuple", data := .seq #[x1, x2] }, g, d, t2, os⟩
    refine wpAny_bind ?_
    unfold Builtin.SmallTypes.ownedTupleHandOut
    have z6 : IsZG (g2.push { cls := .type "tuple", data := .seq #[x1, x2] }) z TI TO .ellipsis fl := Heap.get?_push_of_some _ zz
    refine wpAny_bind (wpAny_setField_rec z6 (by simp) fun h7 c7 e7 => ?_)
    have z7 : IsZG h7 z TI TO (rawInt g2.objs.size) fl := c7
    have m7 : Heap.SameBut z (g2.push { cls := .type "tuple", data := .seq #[x1, x2] }) h7 := e7
    clear c7 e7
    refine wpAny_setField_rec z7 (by simp) fun h8 c8 e8 => ?_
    have z8 : IsZG h8 z TI TO (rawInt g2.objs.size) false := c8
    have m8 : Heap.SameBut z h7 h8 := e8
    clear c8 e8
    have up : ∀ c o, c ≠ z → g2.get? c = some o → h8.get? c = some o := fun c o c1 e => m8.extBut _ _ c1 (m7.extBut _ _ c1 (Heap.get?_push_of_some _ e))
    have t8 : IsTupOf2 h8 g2.objs.size x1 x2 := m8.extBut _ _ (Nat.ne_of_gt lt) (m7.extBut _ _ (Nat.ne_of_gt lt) (Heap.get?_push_size _ rfl))
    have l8 : h8.objs.size = g2.objs.size + 1 := by rw [m8.1, m7.1, Heap.size_push]
    rw [sz] at z8 t8 l8
    refine wpAny_pure ⟨_, rfl, ?_⟩
    show Q (.ref g2.objs.size) ⟨h8, g, d, t2, os⟩
    rw [sz]
    exact k x1 x2 h8 t2 hx1 hx2 ⟨_, _, z8, .inr ⟨_, rfl⟩⟩ ⟨_, _, up _ _ S.TOz hT2⟩ (D1.frame _ _ _ j1 fun b hb o e => up b o (fun q => S.zf1 (q ▸ hb)) e) (D2.frame _ _ _ j2 fun b hb o e => up b o (fun q => S.zf2 (q ▸ hb)) e) t8 l8 fun c o cz cT c1 c2 e => up c o cz (kk c o cz cT c1 c2 e)
  case held =>
    simp only [Bool.false_eq_true, if_false]
    refine wpAny_bind ?_
    rw [← Array.forIn_toList]
    simp only [List.forIn_cons, List.forIn_nil]
    refine wpAny_bind (wpAny_bind (wpAny_holding ?_))
    show wpAny _ _ (Builtin.SmallTypes.nextOrEnd (.ref i1)) _ _ ⟨h1, g, d, t0, os⟩
    refine drawOr D1 hi (D1.over s1 hs1 S.zf1) fun x1 p1 t1 hx1 n1 q1 => ?_
    have hp1 : Heap.SameBut i1 h1 p1 := q1
    refine wpAny_pure ?_
    refine wpAny_bind (wpAny_bind (wpAny_holding ?_))
    show wpAny _ _ (Builtin.SmallTypes.nextOrEnd (.ref i2)) _ _ ⟨p1, g, d, t1, os⟩
    refine drawOr D2 hi (D2.over (D2.over s2 hs1 S.zf2) hp1 S.sep1_2) fun x2 p2 t2 hx2 n2 q2 => ?_
    have hp2 : Heap.SameBut i2 p1 p2 := q2
    refine wpAny_pure (wpAny_pure ?_)
    show wpAny _ _ (newTuple [x1, x2] >>= _) _ _ ⟨p2, g, d, t2, os⟩
    refine wpAny_bind (wpAny_newTuple ?_)
    have sz : p2.objs.size = hp.objs.size := by rw [hp2.1, hp1.1, hs1.1]
    have zz : IsZG p2 z TI TO f0 true := hp2.extBut _ _ S.zi2 (hp1.extBut _ _ S.zi1 hz1)
    have kk : ∀ c o, c ≠ z → c ≠ TO → c ≠ i1 → c ≠ i2 → hp.get? c = some o → p2.get? c = some o := fun c o cz _ c1 c2 e => hp2.extBut _ _ c2 (hp1.extBut _ _ c1 (hs1.extBut _ _ cz e))
    have uT : IsTupOf2 p2 TO a1 a2 := hp2.extBut _ _ S.Ti2 (hp1.extBut _ _ S.Ti1 (hs1.extBut _ _ S.TOz hTO))
    have j1 : St1 (i + 1) p2 := D1.over n1 hp2 S.sep2_1
    have t8 : IsTupOf2 (p2.push { cls := .type "tuple", data := .seq #[x1, x2] }) p2.objs.size x1 x2 := Heap.get?_push_size _ rfl
    have l8 : (p2.push { cls := .type "tuple", data := .seq #[x1, x2] }).objs.size = p2.objs.size + 1 := Heap.size_push ..
    refine wpAny_pure ⟨_, rfl, ?_⟩
    show Q (.ref p2.objs.size) ⟨p2.push { cls := .type "tuple", data := .seq #[x1, x2] }, g, d, t2, os⟩
    rw [sz] at t8 l8 ⊢
    exact k x1 x2 _ t2 hx1 hx2 ⟨_, _, Heap.get?_push_of_some _ zz, .inr ⟨T, hT⟩⟩ ⟨_, _, Heap.get?_push_of_some _ uT⟩ (D1.frame _ _ _ j1 fun b hb o e => Heap.get?_push_of_some _ e) (D2.frame _ _ _ n2 fun b hb o e => Heap.get?_push_of_some _ e) t8 l8
      fun c o cz cT c1 c2 e => Heap.get?_push_of_some _ (kk c o cz cT c1 c2 e)
theorem zg_end {Q : Fin → Shared → Prop} (hh : A.handled = none) (S : ZipSep2 z TI TO i1 i2 fp1 fp2) (D1 : Draws prog w A i1 fp1 n P1 St1) (D2 : Draws prog w A i2 fp2 n P2 St2) (hz : IsZG s.heap z TI TO f0 fl) (hf : OwnV f0) (hTI : IsTupOf2 s.heap TI (.ref i1) (.ref i2)) (hTO : IsTupOf2 s.heap TO a1 a2)
    (s1 : St1 n s.heap) (s2 : St2 n s.heap)
    (k : ∀ h' tk e, (∀ c o, c ≠ z → c ≠ TO → c ≠ i1 → c ≠ i2 → s.heap.get? c = some o → h'.get? c = some o) → (∃ o, h'.get? e = some o ∧ o.cls = .type "StopIteration") → E (.ref e) { s with heap := h', toks := tk }) :
    wpAny (model prog w) A (Builtin.«zip.__next__» ⟨[.ref z], []⟩) Q E s := by
  obtain ⟨hp, g, d, t0, os⟩ := s
  show wpAny _ _ (field (.ref z) 2 >>= _) _ _ _
  refine wpAny_bind (wpAny_field hz rfl (x := .bool true) rfl ?_)
  show wpAny _ _ (field (.ref z) 3 >>= _) _ _ _
  refine wpAny_bind (wpAny_field hz rfl (x := .ref TI) rfl (wpAny_bind (wpAny_seqItems hTI rfl ?_)))
  show wpAny _ _ (Builtin.SmallTypes.ownedTupleIsFree (.ref z) >>= _) _ _ _
  refine wpAny_bind (isFreeG hz hf ?free fun T h1 hT hz1 hs1 => ?held)
  case free =>
    simp only [if_true]
    refine wpAny_bind (wpAny_rule (wpAny_bind (wpAny_field hz rfl (x := .ref TO) rfl (wpAny_bind (wpAny_setField_rec hz (by simp) fun g0 k0 b0 => ?_)))))
    have hz0 : IsZG g0 z TI TO .ellipsis fl := k0
    have hs0 : Heap.SameBut z hp g0 := b0
    clear k0 b0
    refine wpAny_bind ?_
    simp only [List.zipIdx_cons, List.zipIdx_nil, List.forIn_cons, List.forIn_nil]
    refine wpAny_bind (wpAny_bind (wpAny_onRaise ?_))
    show wpAny _ _ (Builtin.SmallTypes.nextOrEnd (.ref i1)) _ _ ⟨g0, g, d, t0, os⟩
    refine drawEnd D1 (D1.over s1 hs0 S.zf1) fun p1 q1 => ?_
    have hp1 : Heap.ExtBut i1 g0 p1 := q1
    clear q1
    have hz1 : IsZG p1 z TI TO .ellipsis fl := hp1 _ _ S.zi1 hz0
    refine wpAny_bind (wpAny_setField_rec (s := ⟨p1, g, d, t0, os⟩) hz1 (by simp) fun g1 c1 e1 => ?_)
    have hs1 : Heap.SameBut z p1 g1 := e1
    clear c1 e1
    refine wpAny_bind ?_
    show wpAny _ _ (forIn [(Value.ref i2, 1)] PUnit.unit _ >>= _) _ _ _
    simp only [List.forIn_cons, List.forIn_nil]
    refine wpAny_bind (wpAny_bind (wpAny_bind (drawEnd D2 (D2.over (D2.frame _ _ _ (D2.over s2 hs0 S.zf2) fun b hb o e => hp1 b o (fun q => S.sep1_2 (q ▸ hb)) e) hs1 S.zf2) fun p2 q2 => ?_)))
    have hp2 : Heap.ExtBut i2 g1 p2 := q2
    clear q2
    rw [if_neg (show ¬ ((none : Option Value).isSome = true) from Bool.false_ne_true)]
    refine wpAny_pure (wpAny_pure (wpAny_bind (wpAny_rule ?_)))
    show wpAny _ _ (newExc (.type "StopIteration") [] >>= _) _ _ ⟨p2, g, d, t0, os⟩
    refine wpAny_bind ?_
    simp only [newExc, newTuple]
    refine wpAny_bind (wpAny_newObj_type (wpAny_bind (m := firstArgMember _ _) (wpAny_of_eq (a := Value.none) (by first | rfl | (simp only [firstArgMember]; rfl)) (wpAny_newObj_type ?_ (by size_fits)))) (by size_fits))
    simp only [raiseNew]
    refine wpAny_bind (wpAny_handled ?_)
    rw [hh]
    refine wpAny_bind (wpAny_pure (wpAny_throw (k _ t0 _ (fun c o cz cT c1 c2 e => ?_) ⟨_, Heap.get?_push_size _ rfl, rfl⟩)))
    exact Heap.get?_push_of_some _ (Heap.get?_push_of_some _ (hp2 _ _ c2 (hs1.extBut _ _ cz (hp1 _ _ c1 (hs0.extBut _ _ cz e)))))
  case held =>
    simp only [Bool.false_eq_true, if_false]
    refine wpAny_bind ?_
    rw [← Array.forIn_toList]
    simp only [List.forIn_cons, List.forIn_nil]
    refine wpAny_bind (wpAny_bind (wpAny_holding ?_))
    show wpAny _ _ (Builtin.SmallTypes.nextOrEnd (.ref i1)) _ _ ⟨h1, g, d, t0, os⟩
    refine drawEnd D1 (D1.over s1 hs1 S.zf1) fun p1 q1 => ?_
    have hp1 : Heap.ExtBut i1 h1 p1 := q1
    refine wpAny_bind ?_
    show wpAny _ _ (forIn [(Value.ref i2, 1)] PUnit.unit _ >>= _) _ _ _
    simp only [List.forIn_cons, List.forIn_nil]
    refine wpAny_bind (wpAny_bind (wpAny_bind (drawEnd D2 (D2.frame _ _ _ (D2.over s2 hs1 S.zf2) fun b hb o e => hp1 b o (fun q => S.sep1_2 (q ▸ hb)) e) fun p2 q2 => ?_)))
    have hp2 : Heap.ExtBut i2 p1 p2 := q2
    rw [if_neg (show ¬ ((none : Option Value).isSome = true) from Bool.false_ne_true)]
    refine wpAny_pure (wpAny_pure (wpAny_bind (wpAny_rule ?_)))
    show wpAny _ _ (newExc (.type "StopIteration") [] >>= _) _ _ ⟨p2, g, d, t0, os⟩
    refine wpAny_bind ?_
    simp only [newExc, newTuple]
    refine wpAny_bind (wpAny_newObj_type (wpAny_bind (m := firstArgMember _ _) (wpAny_of_eq (a := Value.none) (by first | rfl | (simp only [firstArgMember]; rfl)) (wpAny_newObj_type ?_ (by size_fits)))) (by size_fits))
    simp only [raiseNew]
    refine wpAny_bind (wpAny_handled ?_)
    rw [hh]
    refine wpAny_bind (wpAny_pure (wpAny_throw (k _ t0 _ (fun c o cz cT c1 c2 e => ?_) ⟨_, Heap.get?_push_size _ rfl, rfl⟩)))
    exact Heap.get?_push_of_some _ (Heap.get?_push_of_some _ (hp2 _ _ c2 (hp1 _ _ c1 (hs1.extBut _ _ cz e))))
end
end Fz
/-! FzHg: enumerate over a strict zip: the next one. -/
namespace Fz
open PySem PySem.Spec PyProof.Rows L2
section
variable {prog : Program} {w : World} {A : Around} {E : Value → Shared → Prop} {s : Shared} {e z TI TO i1 i2 : Addr} {fp1 fp2 : List Addr} {n i : Nat} {P1 P2 : Nat → Value → Prop} {St1 St2 : Nat → Heap → Prop}
/-- a zip that is walked, behind i turns -/
def ZS (z TI TO i1 i2 : Addr) (St1 St2 : Nat → Heap → Prop) (i : Nat) (h : Heap) : Prop := (∃ f0 fl, IsZG h z TI TO f0 fl ∧ OwnV f0) ∧ IsTupOf2 h TI (.ref i1) (.ref i2) ∧ (∃ a b, IsTupOf2 h TO a b) ∧ St1 i h ∧ St2 i h
/-- e is none of its things -/
structure Apt (e z TI TO : Addr) (fp1 fp2 : List Addr) : Prop where
  ez : e ≠ z
  eTI : e ≠ TI
  eTO : e ≠ TO
  e1 : e ∉ fp1
  e2 : e ∉ fp2
theorem ZS.up {h h' : Heap} (S : ZipSep2 z TI TO i1 i2 fp1 fp2) (a : Apt e z TI TO fp1 fp2) (D1 : Draws prog w A i1 fp1 n P1 St1) (D2 : Draws prog w A i2 fp2 n P2 St2) (x : ZS z TI TO i1 i2 St1 St2 i h) (k : ∀ b o, b ≠ e → h.get? b = some o → h'.get? b = some o) : ZS z TI TO i1 i2 St1 St2 i h' := by
  obtain ⟨⟨f0, fl, h1, h2⟩, h3, ⟨p, q, h4⟩, h5, h6⟩ := x
  exact ⟨⟨f0, fl, k _ _ (Ne.symm a.ez) h1, h2⟩, k _ _ (Ne.symm a.eTI) h3, ⟨p, q, k _ _ (Ne.symm a.eTO) h4⟩, D1.frame _ _ _ h5 fun b hb o y => k b o (fun q => a.e1 (q ▸ hb)) y, D2.frame _ _ _ h6 fun b hb o y => k b o (fun q => a.e2 (q ▸ hb)) y⟩
theorem zg_of {Q : Value → Shared → Prop} (S : ZipSep2 z TI TO i1 i2 fp1 fp2) (D1 : Draws prog w A.in1 i1 fp1 n P1 St1) (D2 : Draws prog w A.in1 i2 fp2 n P2 St2) (x : ZS z TI TO i1 i2 St1 St2 i s.heap) (hi : i < n)
    (k : ∀ x1 x2 h' tk, P1 i x1 → P2 i x2 → ZS z TI TO i1 i2 St1 St2 (i + 1) h' → IsTupOf2 h' s.heap.objs.size x1 x2 → h'.objs.size = s.heap.objs.size + 1 →
      (∀ c o, c ≠ z → c ≠ TO → c ≠ i1 → c ≠ i2 → s.heap.get? c = some o → h'.get? c = some o) → Q (.ref s.heap.objs.size) { s with heap := h', toks := tk }) : wpAny (model prog w) A (Builtin.SmallTypes.nextOf (.ref z)) Q E s := by
  obtain ⟨⟨f0, fl, hz, hf⟩, hTI, ⟨p, q, hTO⟩, s1, s2⟩ := x
  have hT : s.TypeIs (.ref z) "zip" := ⟨_, hz, rfl⟩
  unfold Builtin.SmallTypes.nextOf
  exact wpAny_bind (wpAny_callSpecial?_slot (name := Str.ofString "__next__") hT F.slot_zip_next (wpAny_call_entry F.slot_zip_next hT F.entry_zip_next
    (zg_item S D1 D2 hz hf hTI hTO s1 s2 hi fun x1 x2 h' tk y1 y2 b1 b2 d1 d2 b5 b6 b7 => wpAny_pure (k x1 x2 h' tk y1 y2 ⟨b1, b7 _ _ S.TIz S.TITO S.TIi1 S.TIi2 hTI, b2, d1, d2⟩ b5 b6 b7)) (F.args_zip_next_1 _)))
theorem zg_stop {Q : Value → Shared → Prop} (hh : A.handled = none) (S : ZipSep2 z TI TO i1 i2 fp1 fp2) (D1 : Draws prog w A.in1 i1 fp1 n P1 St1) (D2 : Draws prog w A.in1 i2 fp2 n P2 St2) (x : ZS z TI TO i1 i2 St1 St2 n s.heap)
    (k : ∀ h' tk e, (∀ c o, c ≠ z → c ≠ TO → c ≠ i1 → c ≠ i2 → s.heap.get? c = some o → h'.get? c = some o) → (∃ o, h'.get? e = some o ∧ o.cls = .type "StopIteration") → E (.ref e) { s with heap := h', toks := tk }) : wpAny (model prog w) A (Builtin.SmallTypes.nextOf (.ref z)) Q E s := by
  obtain ⟨⟨f0, fl, hz, hf⟩, hTI, ⟨p, q, hTO⟩, s1, s2⟩ := x
  have hT : s.TypeIs (.ref z) "zip" := ⟨_, hz, rfl⟩
  unfold Builtin.SmallTypes.nextOf
  exact wpAny_bind (wpAny_callSpecial?_slot (name := Str.ofString "__next__") hT F.slot_zip_next (wpAny_call_entry F.slot_zip_next hT F.entry_zip_next
    (zg_end hh S D1 D2 hz hf hTI hTO s1 s2 k) (F.args_zip_next_1 _)))
theorem ez_item {c : Int} {old : Value} {Q : Value → Shared → Prop} (S : ZipSep2 z TI TO i1 i2 fp1 fp2) (a : Apt e z TI TO fp1 fp2) (D1 : Draws prog w A.in1 i1 fp1 n P1 St1) (D2 : Draws prog w A.in1 i2 fp2 n P2 St2) (he : IsEnum s.heap e z c old) (x : ZS z TI TO i1 i2 St1 St2 i s.heap) (hi : i < n)
    (hQ : ∀ x1 x2 h' tk, P1 i x1 → P2 i x2 → IsEnumOut h' e z (c + 1) (.ref s.heap.objs.size) (s.heap.objs.size + 1) → ZS z TI TO i1 i2 St1 St2 (i + 1) h' → IsTupOf2 h' s.heap.objs.size x1 x2 →
      h'.get? (s.heap.objs.size + 1) = some { cls := .type "tuple", data := .seq #[.int c tk, .ref s.heap.objs.size] } → h'.objs.size = s.heap.objs.size + 2 →
      (∀ b o, b ≠ e → b ≠ z → b ≠ TO → b ≠ i1 → b ≠ i2 → s.heap.get? b = some o → h'.get? b = some o) → Q (.ref (s.heap.objs.size + 1)) { s with heap := h', toks := tk + 1 }) :
    wpAny (model prog w) A (Builtin.«enumerate.__next__» ⟨[.ref e], []⟩) (fun fin s' => ∃ v, fin = .done (.ret v) ∧ Q v s') E s := by
  obtain ⟨hp, g, d, tk₀, os⟩ := s
  have ei1 : e ≠ i1 := fun q => a.e1 (q ▸ S.mem1)
  have ei2 : e ≠ i2 := fun q => a.e2 (q ▸ S.mem2)
  show wpAny _ _ (field (.ref e) 2 >>= _) _ _ _
  refine wpAny_bind (wpAny_field he rfl (x := .ref z) rfl ?_)
  refine wpAny_bind (zg_of S D1 D2 x hi fun x1 x2 h₁ tk y1 y2 zs₁ hP hsz₁ hk₁ => ?_)
  have he₁ : IsEnum h₁ e z c old := hk₁ e _ a.ez a.eTO ei1 ei2 he
  show wpAny _ _ (field (.ref e) 3 >>= _) _ _ ⟨h₁, g, d, tk, os⟩
  refine wpAny_bind (wpAny_field he₁ rfl (x := rawInt c) rfl ?_)
  show wpAny _ _ (field (.ref e) 4 >>= _) _ _ ⟨h₁, g, d, tk, os⟩
  refine wpAny_bind (wpAny_field he₁ rfl (x := .none) rfl ?_)
  show wpAny _ _ (mkInt c >>= _) _ _ ⟨h₁, g, d, tk, os⟩
  refine wpAny_bind (wpAny_mkInt ?_)
  show wpAny _ _ (setField (.ref e) 3 (rawInt (c + 1)) >>= _) _ _ ⟨h₁, g, d, tk + 1, os⟩
  refine wpAny_bind (wpAny_setField_rec he₁ (by simp) fun h₂ he₂ hs₂ => ?_)
  replace hs₂ : Heap.SameBut e h₁ h₂ := hs₂
  replace he₂ : IsEnum h₂ e z (c + 1) old := he₂
  show wpAny _ _ (setField (.ref e) 4 .none >>= _) _ _ ⟨h₂, g, d, tk + 1, os⟩
  refine wpAny_bind (wpAny_setField_rec he₂ (by simp) fun h₃ he₃ hs₃ => ?_)
  replace hs₃ : Heap.SameBut e h₂ h₃ := hs₃
  replace he₃ : IsEnum h₃ e z (c + 1) old := he₃
  show wpAny _ _ (newTuple [.int c tk, .ref hp.objs.size] >>= _) _ _ ⟨h₃, g, d, tk + 1, os⟩
  refine wpAny_bind (wpAny_newTuple ?_)
  have he₄ : IsEnum (h₃.push { cls := .type "tuple", data := .seq #[.int c tk, .ref hp.objs.size] }) e z (c + 1) old := Heap.get?_push_of_some _ he₃
  generalize hh₄ : h₃.push { cls := .type "tuple", data := .seq #[.int c tk, .ref hp.objs.size] } = h₄ at he₄
  have hsz : h₃.objs.size = hp.objs.size + 1 := by rw [hs₃.1, hs₂.1, hsz₁]
  have hel : e < hp.objs.size := Heap.lt_size he
  have up₄ : ∀ b o, b ≠ e → h₁.get? b = some o → h₄.get? b = some o := fun b o hbe y => by
    rw [← hh₄]; exact Heap.get?_push_of_some _ (hs₃.extBut b o hbe (hs₂.extBut b o hbe y))
  have ht₄ : h₄.get? (hp.objs.size + 1) = some { cls := .type "tuple", data := .seq #[.int c tk, .ref hp.objs.size] } := by rw [← hh₄, ← hsz]; exact Heap.get?_push_size _ rfl
  have hz₄ : h₄.objs.size = hp.objs.size + 2 := by rw [← hh₄, Heap.size_push, hsz]
  show wpAny _ _ (Builtin.SmallTypes.ownedTupleIsFree (.ref e) >>= _) _ _ ⟨h₄, g, d, tk + 1, os⟩
  rw [hsz]
  refine wpAny_bind ?_
  unfold Builtin.SmallTypes.ownedTupleIsFree
  refine wpAny_bind (wpAny_field he₄ rfl (x := .none) rfl (wpAny_pure ?_))
  simp only [if_true]
  refine wpAny_bind (wpAny_rule ?_)
  refine wpAny_bind (wpAny_field he₄ rfl (x := old) rfl ?_)
  refine wpAny_bind (wpAny_setField_rec he₄ (by simp) fun h₅ he₅ hs₅ => ?_)
  replace hs₅ : Heap.SameBut e h₄ h₅ := hs₅
  replace he₅ : IsEnum h₅ e z (c + 1) (.ref hp.objs.size) := he₅
  show wpAny _ _ (Builtin.SmallTypes.ownedTupleHandOut (.ref e) (.ref (hp.objs.size + 1)) >>= _) _ _ ⟨h₅, g, d, tk + 1, os⟩
  refine wpAny_bind ?_
  unfold Builtin.SmallTypes.ownedTupleHandOut
  refine wpAny_bind (wpAny_setField_rec he₅ (by simp) fun h₆ he₆ hs₆ => ?_)
  replace hs₆ : Heap.SameBut e h₅ h₆ := hs₆
  replace he₆ : IsEnumOut h₆ e z (c + 1) (.ref hp.objs.size) (hp.objs.size + 1) := he₆
  refine wpAny_setField_rec he₆ (by simp) fun h₇ he₇ hs₇ => ?_
  replace hs₇ : Heap.SameBut e h₆ h₇ := hs₇
  replace he₇ : IsEnumOut h₇ e z (c + 1) (.ref hp.objs.size) (hp.objs.size + 1) := he₇
  have up₇ : ∀ b o, b ≠ e → h₁.get? b = some o → h₇.get? b = some o := fun b o hbe y => hs₇.extBut b o hbe (hs₆.extBut b o hbe (hs₅.extBut b o hbe (up₄ b o hbe y)))
  refine wpAny_bind (wpAny_letGo (wpAny_pure ⟨_, rfl, hQ x1 x2 h₇ tk y1 y2 he₇ (ZS.up S a D1 D2 zs₁ up₇) (up₇ _ _ (Nat.ne_of_gt hel) hP) ?_ ?_ ?_⟩))
  · have ne : hp.objs.size + 1 ≠ e := Nat.ne_of_gt (Nat.lt_succ_of_lt hel)
    exact hs₇.extBut _ _ ne (hs₆.extBut _ _ ne (hs₅.extBut _ _ ne ht₄))
  · rw [hs₇.1, hs₆.1, hs₅.1, hz₄]
  · exact fun b o c1 c2 c3 c4 c5 y => up₇ b o c1 (hk₁ b o c2 c3 c4 c5 y)
theorem ezNext_item {c : Int} {old : Value} {Q : Option Value → Shared → Prop} (S : ZipSep2 z TI TO i1 i2 fp1 fp2) (a : Apt e z TI TO fp1 fp2) (D1 : Draws prog w A.in1.in1 i1 fp1 n P1 St1) (D2 : Draws prog w A.in1.in1 i2 fp2 n P2 St2) (he : IsEnum s.heap e z c old) (x : ZS z TI TO i1 i2 St1 St2 i s.heap) (hi : i < n)
    (hQ : ∀ x1 x2 h' tk, P1 i x1 → P2 i x2 → IsEnumOut h' e z (c + 1) (.ref s.heap.objs.size) (s.heap.objs.size + 1) → ZS z TI TO i1 i2 St1 St2 (i + 1) h' → IsTupOf2 h' s.heap.objs.size x1 x2 →
      h'.get? (s.heap.objs.size + 1) = some { cls := .type "tuple", data := .seq #[.int c tk, .ref s.heap.objs.size] } → h'.objs.size = s.heap.objs.size + 2 →
      (∀ b o, b ≠ e → b ≠ z → b ≠ TO → b ≠ i1 → b ≠ i2 → s.heap.get? b = some o → h'.get? b = some o) → Q (some (.ref (s.heap.objs.size + 1))) { s with heap := h', toks := tk + 1 }) :
    wpAny (model prog w) A (pyNext (.ref e)) Q E s := by
  have hT : s.TypeIs (.ref e) "enumerate" := ⟨_, he, rfl⟩
  unfold pyNext
  exact wpAny_bind (wpAny_attempt (wpAny_callSpecial?_slot (name := Str.ofString "__next__") hT F.slot_enumerate_next
    (wpAny_call_entry F.slot_enumerate_next hT F.entry_enumerate_next
      (ez_item S a D1 D2 he x hi fun x1 x2 h' tk b1 b2 b3 b4 b5 b6 b7 b8 => wpAny_pure (hQ x1 x2 h' tk b1 b2 b3 b4 b5 b6 b7 b8)) (F.args_enumerate_next_1 _))))
theorem ezNext_end {c : Int} {old : Value} {Q : Option Value → Shared → Prop} (hh : A.handled = none) (S : ZipSep2 z TI TO i1 i2 fp1 fp2) (D1 : Draws prog w A.in1.in1 i1 fp1 n P1 St1) (D2 : Draws prog w A.in1.in1 i2 fp2 n P2 St2) (he : IsEnum s.heap e z c old) (x : ZS z TI TO i1 i2 St1 St2 n s.heap)
    (hQ : ∀ h' tk, (∀ b o, b ≠ z → b ≠ TO → b ≠ i1 → b ≠ i2 → s.heap.get? b = some o → h'.get? b = some o) → Q none { s with heap := h', toks := tk }) : wpAny (model prog w) A (pyNext (.ref e)) Q E s := by
  have hT : s.TypeIs (.ref e) "enumerate" := ⟨_, he, rfl⟩
  unfold pyNext
  refine wpAny_bind (wpAny_attempt (wpAny_callSpecial?_slot (name := Str.ofString "__next__") hT F.slot_enumerate_next
    (wpAny_call_entry F.slot_enumerate_next hT F.entry_enumerate_next ?_ (F.args_enumerate_next_1 _))))
  show wpAny _ _ (field (.ref e) 2 >>= _) _ _ _
  refine wpAny_bind (wpAny_field he rfl (x := .ref z) rfl ?_)
  refine wpAny_bind (zg_stop hh S D1 D2 x fun h' tk e' hk ⟨o, ho, hc⟩ => ?_)
  refine wpAny_bind (wpAny_isInstance (T := "StopIteration") (b := true) ⟨o, ho, hc⟩ isSubtype_stop ?_)
  exact wpAny_pure (hQ _ _ hk)
end
end Fz
/-! FzHh: for i, (a, b) in enumerate(zip(x, y, strict=True)). -/
namespace Fz
open PySem PySem.Spec PyProof.Rows L2
/-- two things are laid, beside what an iterator changes -/
theorem Inv.turnedNew2 {X : Cx} {pins : List (Addr × Obj)} {s : Shared} {σ : L2.St} {H : Hp} {h' : Heap} {t' : Nat} {ch : List Addr} {x y : V} {u1 u2 : Value} {c : Int} {tk : Nat} (I : Inv X pins σ H s) (r1 : RelV x u1) (r2 : RelV y u2)
    (k : ∀ b o, b ∉ ch → s.heap.get? b = some o → h'.get? b = some o) (hf : ∀ b ∈ ch, FpOk X pins H b) (hl : ∀ b ∈ ch, b < s.heap.objs.size)
    (hP : h'.get? s.heap.objs.size = some { cls := .type "tuple", data := .seq #[u1, u2] }) (hT : h'.get? (s.heap.objs.size + 1) = some { cls := .type "tuple", data := .seq #[.int c tk, .ref s.heap.objs.size] }) :
    Inv X pins σ (upd (upd H s.heap.objs.size (.tup [x, y])) (s.heap.objs.size + 1) (.tup [.int c, .ref s.heap.objs.size])) { s with heap := h', toks := t' } := by
  have new1 : ObjOk X.prog X.w (upd H s.heap.objs.size (.tup [x, y])) (s.heap.push { cls := .type "tuple", data := .seq #[u1, u2] }) s.heap.objs.size (.tup [x, y]) :=
    ⟨(by decide : 2 ≤ sizeLine), [u1, u2], .cons r1 (.cons r2 .nil), ⟨_, Heap.get?_push_size _ rfl, rfl, _, rfl⟩⟩
  have I1 : Inv X pins σ (upd H s.heap.objs.size (.tup [x, y])) { s with heap := s.heap.push { cls := .type "tuple", data := .seq #[u1, u2] }, toks := s.toks } := I.laid (fun b u q => Heap.get?_push_of_some _ q) (Nat.le_refl _) new1
  have sz : (s.heap.push { cls := .type "tuple", data := .seq #[u1, u2] }).objs.size = s.heap.objs.size + 1 := Heap.size_push ..
  have new2 : ObjOk X.prog X.w (upd (upd H s.heap.objs.size (.tup [x, y])) (s.heap.objs.size + 1) (.tup [.int c, .ref s.heap.objs.size])) h' (s.heap.objs.size + 1) (.tup [.int c, .ref s.heap.objs.size]) :=
    ⟨(by decide : 2 ≤ sizeLine), [.int c tk, .ref s.heap.objs.size], .cons ⟨_, rfl⟩ (.cons rfl .nil), ⟨_, hT, rfl, _, rfl⟩⟩
  refine I1.turnedNew (ch := ch) (fun b o hb q => ?_) (fun b hb => ⟨by rw [upd_ne (Nat.ne_of_lt (hl b hb))]; exact (hf b hb).1, (hf b hb).2⟩) (by rw [sz]; exact Nat.le_refl _) new2
  by_cases hbs : b = s.heap.objs.size
  · subst hbs
    have q2 : (s.heap.push { cls := .type "tuple", data := .seq #[u1, u2] }).get? s.heap.objs.size = some { cls := .type "tuple", data := .seq #[u1, u2] } := Heap.get?_push_size _ rfl
    rw [q2] at q
    rw [← q]; exact hP
  · have lt : b < s.heap.objs.size := by
      have l := Heap.lt_size q
      rw [sz] at l
      exact Nat.lt_of_le_of_ne (Nat.le_of_lt_succ l) hbs
    have q3 : s.heap.get? b = some o := by
      rw [← q]
      exact (Heap.get?_push_ne _ _ _ hbs).symm
    exact k b o hb q3
/-- what a turn gives -/
def ItEZ (b1 b2 : Bool) (K : PySem.W.Frag) (a1 a2 : Addr) : It := ⟨fun i H => ∃ (xs ys : List V) (x y : V), Sq b1 K H a1 xs ∧ Sq b2 K H a2 ys ∧ xs[i]? = some x ∧ ys[i]? = some y ∧ xs.length = ys.length,
  fun i H v H' => ∃ P T x y, v = .ref T ∧ H P = none ∧ H T = none ∧ T ≠ P ∧ H' = upd (upd H P (.tup [x, y])) T (.tup [.int (i : Nat), .ref P]) ∧ (∀ xs, Sq b1 K H a1 xs → xs[i]? = some x) ∧ ∀ ys, Sq b2 K H a2 ys → ys[i]? = some y,
  fun i H => ∃ xs ys : List V, Sq b1 K H a1 xs ∧ Sq b2 K H a2 ys ∧ i = xs.length ∧ i = ys.length⟩
theorem turn_ezG {P : Program} {w : World} {K : PySem.W.Frag} {elts : List Expr} {kk : Nat} {tpos : Pos} (b1 b2 : Bool) {a1 a2 e z TI TO i1 i2 : Addr} (S : ZipSep2 z TI TO i1 i2 [i1, a1] [i2, a2]) (a : Apt e z TI TO [i1, a1] [i2, a2]) (na : a1 ≠ i1) (nb : a2 ≠ i2) :
    Turn P w K (.Tuple elts kk tpos) (ItEZ b1 b2 K a1 a2) [e, z, TI, TO, i1, i2] e (fun i h => (∃ old, IsEnum h e z ((i : Nat) : Int) old) ∧ (∃ f0 fl, IsZG h z TI TO f0 fl ∧ OwnV f0) ∧ IsTupOf2 h TI (.ref i1) (.ref i2) ∧ (∃ x y, IsTupOf2 h TO x y) ∧ ItAt b1 h i1 a1 i ∧ ItAt b2 h i2 a2 i) where
  mem := by simp
  obj := fun i h q c hc => by
    obtain ⟨⟨old, he⟩, ⟨f0, fl, hz, _⟩, hTI, ⟨x, y, hTO⟩, h1, h2⟩ := q
    have y : c = e ∨ c = z ∨ c = TI ∨ c = TO ∨ c = i1 ∨ c = i2 := by simpa using hc
    rcases y with y | y | y | y | y | y
    · rw [y]; exact ⟨_, he, fun v q => nomatch q⟩
    · rw [y]; exact ⟨_, hz, fun v q => nomatch q⟩
    · rw [y]; exact ⟨_, hTI, fun v q => nomatch q⟩
    · rw [y]; exact ⟨_, hTO, fun v q => nomatch q⟩
    · rw [y]; exact h1.obj
    · rw [y]; exact h2.obj
  keep := fun i h h' q k => by
    obtain ⟨⟨old, he⟩, ⟨f0, fl, hz, hf⟩, hTI, ⟨x, y, hTO⟩, h1, h2⟩ := q
    exact ⟨⟨old, k e (by simp) _ he⟩, ⟨f0, fl, k z (by simp) _ hz, hf⟩, k TI (by simp) _ hTI, ⟨x, y, k TO (by simp) _ hTO⟩, h1.at fun o q => k i1 (by simp) o q, h2.at fun o q => k i2 (by simp) o q⟩
  item := by
    intro X hP hw hK hc i pins s σ H E I hf q ⟨xs, ys, x, y, hqx, hqy, hx, hy, hl⟩
    subst hP hw hK
    obtain ⟨⟨old, he⟩, hz, hTI, hTO, h1, h2'⟩ := q
    obtain ⟨its, rv, p⟩ := sq_get I hqx
    obtain ⟨its2, rv2, p2⟩ := sq_get I hqy
    obtain ⟨u, hu, ru⟩ := rv.get hx
    obtain ⟨u2, hu2, ru2⟩ := rv2.get hy
    have hi1 : i < its.toArray.size := by rw [List.size_toArray]; exact (List.getElem?_eq_some_iff.mp hu).1
    have D1 := draws (prog := X.prog) (w := X.w) (A := X.A.in1.in1) (I.ok.hd hc) b1 i1 a1 na its.toArray
    have D2 := draws (prog := X.prog) (w := X.w) (A := X.A.in1.in1) (I.ok.hd hc) b2 i2 a2 nb its2.toArray
    have sz2 : its2.toArray.size = its.toArray.size := by rw [List.size_toArray, List.size_toArray, ← rv2.length, ← rv.length, hl]
    rw [sz2] at D2
    have zs : ZS z TI TO i1 i2 (StI b1 i1 a1 its.toArray) (StI b2 i2 a2 its2.toArray) i s.heap := ⟨hz, hTI, hTO, ⟨h1, p⟩, ⟨h2', p2⟩⟩
    have lt : ∀ c ∈ [e, z, TI, TO, i1, i2], c < s.heap.objs.size := fun c hcm => by
      have m : c = e ∨ c = z ∨ c = TI ∨ c = TO ∨ c = i1 ∨ c = i2 := by simpa using hcm
      rcases m with m | m | m | m | m | m <;> rw [m]
      · exact Heap.lt_size he
      · obtain ⟨f0, fl, q, _⟩ := hz; exact Heap.lt_size q
      · exact Heap.lt_size hTI
      · obtain ⟨q1, q2, q⟩ := hTO; exact Heap.lt_size q
      · obtain ⟨_, q, _⟩ := h1.obj; exact Heap.lt_size q
      · obtain ⟨_, q, _⟩ := h2'.obj; exact Heap.lt_size q
    refine ezNext_item S a D1 D2 he zs hi1 fun v1 v2 h' tk e1 e2 ho zs' hP hT hsz hk => ?_
    have hel := lt e (by simp)
    have v1u : v1 = u := by
      have : its.toArray[i]? = some u := by simpa using hu
      rw [this] at e1; exact (Option.some.inj e1).symm
    have v2u : v2 = u2 := by
      have : its2.toArray[i]? = some u2 := by simpa using hu2
      rw [this] at e2; exact (Option.some.inj e2).symm
    subst v1u v2u
    refine ⟨_, rfl, wpAny_letOwnedTupleGo_enum (s := { s with heap := h', toks := tk + 1 }) ho fun h2 he' sb => ?_⟩
    have hP2 := (sb.2 _ (Nat.ne_of_gt hel)).trans hP
    have hT2 := (sb.2 _ (Nat.ne_of_gt (Nat.lt_succ_of_lt hel))).trans hT
    have J := Inv.turnedNew2 (h' := h2) (t' := tk + 1) (ch := [e, z, TI, TO, i1, i2]) I ru ru2
      (fun c o hb q => (sb.2 c (fun m => hb (by simp [m]))).trans (hk c o (fun m => hb (by simp [m])) (fun m => hb (by simp [m])) (fun m => hb (by simp [m])) (fun m => hb (by simp [m])) (fun m => hb (by simp [m])) q)) hf lt hP2 hT2
    have zs2 := ZS.up (h' := h2) S a D1 D2 zs' fun b o hbe q => (sb.2 b hbe).trans q
    obtain ⟨q1, q2, q3, q4, q5⟩ := zs2
    refine ⟨.ref (s.heap.objs.size + 1), _, J, rfl, ⟨s.heap.objs.size, s.heap.objs.size + 1, x, y, rfl, I.hok.fresh (Nat.le_refl _), I.hok.fresh (Nat.le_succ _), Nat.succ_ne_self _, rfl, fun l hl => sq_inj I hl hqx ▸ hx, fun l hl => sq_inj I hl hqy ▸ hy⟩, ⟨⟨.ref s.heap.objs.size, ?_⟩, q1, q2, q3, q4.1, q5.1⟩, fun c hcm => ?_⟩
    · have e3 : ((i + 1 : Nat) : Int) = (i : Int) + 1 := by omega
      rw [e3]; exact he'
    · have l := lt c hcm
      rw [upd_ne (Nat.ne_of_lt (Nat.lt_succ_of_lt l)), upd_ne (Nat.ne_of_lt l)]
      exact (hf c hcm).1
  done := by
    intro X hP hw hK hc i pins s σ H E I hf q ⟨xs, ys, hqx, hqy, l1, l2⟩
    subst hP hw hK
    obtain ⟨⟨old, he⟩, hz, hTI, hTO, h1, h2⟩ := q
    obtain ⟨its, rv, p⟩ := sq_get I hqx
    obtain ⟨its2, rv2, p2⟩ := sq_get I hqy
    have D1 := draws (prog := X.prog) (w := X.w) (A := X.A.in1.in1) (I.ok.hd hc) b1 i1 a1 na its.toArray
    have D2 := draws (prog := X.prog) (w := X.w) (A := X.A.in1.in1) (I.ok.hd hc) b2 i2 a2 nb its2.toArray
    have z1 : its.toArray.size = i := by rw [List.size_toArray, ← rv.length, l1]
    have z2 : its2.toArray.size = i := by rw [List.size_toArray, ← rv2.length, l2]
    rw [z1] at D1
    rw [z2] at D2
    have zs : ZS z TI TO i1 i2 (StI b1 i1 a1 its.toArray) (StI b2 i2 a2 its2.toArray) i s.heap := ⟨hz, hTI, hTO, ⟨h1, p⟩, ⟨h2, p2⟩⟩
    exact ezNext_end (I.ok.hd hc) S D1 D2 he zs fun h' tk hk => ⟨rfl, I.turnedL (ch := [e, z, TI, TO, i1, i2]) (fun c o hb q => hk c o (fun m => hb (by simp [m])) (fun m => hb (by simp [m])) (fun m => hb (by simp [m])) (fun m => hb (by simp [m])) q) hf⟩
  self := fun A i s Q E q h => let ⟨⟨_, he⟩, _⟩ := q; wpAny_pyIter_enum he h
end Fz
/-! FzHi: making enumerate(zip(x, y, strict=True)), and walking it. -/
namespace Fz
open PySem PySem.Spec PyProof.Rows L2
abbrev enO (z : Addr) : Obj := { cls := .type "enumerate", data := .fields #[.none, .bool false, .ref z, rawInt 0, .none, .none] }
theorem meets_enumZ {z TI TO : Addr} : Meets (Builtin.«enumerate.__new__» ⟨[.type "enumerate", .ref z], []⟩) (fun _ R s => IsZS true s.heap z TI TO .none ∧ R (.ok (.ret (.ref s.heap.objs.size)))
    { s with heap := s.heap.push (enO z) }) := .of_wp fun prog w A R s h => by
  obtain ⟨hp, g, d, tk, os⟩ := s
  obtain ⟨h1, h⟩ := h
  have hsub := sub_enumerate
  have q1 : ∀ {A' : Around} {E : Value → Shared → Prop} {Q : Value → Shared → Prop}, Q (.ref z) ⟨hp, g, d, tk, os⟩ → wpAny (model prog w) A' (pyIter (.ref z)) Q E ⟨hp, g, d, tk, os⟩ := fun q => zsIter (s := ⟨hp, g, d, tk, os⟩) h1 q
  wp_walk using q1
  refine wpAny_stack_any fun st => wpAny_pure ?_
  split
  · rename_i c _ _ _ _ _
    cases (c == Value.type "enumerate") <;> (wp_walk using q1) <;> exact ⟨_, rfl, h⟩
  · wp_walk using q1
    exact ⟨_, rfl, h⟩
theorem call_enumZ {prog : Program} {w : World} {A : Around} {E : Value → Shared → Prop} {s : Shared} {z TI TO : Addr} {Q : Value → Shared → Prop} (h1 : IsZS true s.heap z TI TO .none)
    (h : ∀ h', IsEnum h' s.heap.objs.size z 0 .none → (∀ b o, s.heap.get? b = some o → h'.get? b = some o) → Q (.ref s.heap.objs.size) { s with heap := h' }) :
    wpAny (model prog w) A (call (.type "enumerate") [.ref z]) Q E s := by
  refine callType_new F.called_enumerate (by decide) (F.typeCall_enumerate_1 _) (F.newCall_enumerate_1 _) (fun obj => F.args_object_init_2 obj _) F.entry_enumerate_new meets_enumZ ⟨h1, ?_⟩
  have here : (s.heap.push (enO z)).get? s.heap.objs.size = some (enO z) := Heap.get?_push_size _ rfl
  exact ⟨⟨_, here, rfl⟩, h _ here fun b o x => Heap.get?_push_of_some _ x⟩
section
variable {X : Cx} {G : Gx}
/-- the zip, as a value -/
theorem zipV {e e2 : Expr} {ta : TA} {p pos p3 kpos : Pos} {j : Nat} (hg : Gl X "zip") (hm : X.mg "zip" = none) (ha : PA X [e, e2] ta) (hs : starEach [e, e2] X.env = (false, eval e X.env) :: starEach [e2] X.env) (hpl : (backTo pos (starEach [e, e2] X.env)).any (·.1) = false)
    {pins : List (Addr × Obj)} {s : Shared} {σ : L2.St} {H : Hp} {Q : Value → Shared → Prop} {W : Bool → Bool → Addr → Addr → Hp → Prop} (I : Inv X pins σ H s)
    (h : ta σ H fun vs H1 => ∃ b1 b2 a1 a2 xs ys, vs = [.ref a1, .ref a2] ∧ Sq b1 X.K H1 a1 xs ∧ Sq b2 X.K H1 a2 ys ∧ W b1 b2 a1 a2 H1)
    (k : ∀ b1 b2 a1 a2 H1 s2 h' (its its2 : List Value), Inv X pins σ H1 s2 → W b1 b2 a1 a2 H1 → SqAt b1 s2.heap a1 its.toArray → SqAt b2 s2.heap a2 its2.toArray → IsZS true h' (s2.heap.objs.size + 4) (s2.heap.objs.size + 2) (s2.heap.objs.size + 3) .none →
      IsTupOf2 h' (s2.heap.objs.size + 2) (.ref s2.heap.objs.size) (.ref (s2.heap.objs.size + 1)) → IsTupOf2 h' (s2.heap.objs.size + 3) .none .none → h'.get? s2.heap.objs.size = some (itO b1 a1) → h'.get? (s2.heap.objs.size + 1) = some (itO b2 a2) →
      (∀ c o, s2.heap.get? c = some o → h'.get? c = some o) → Q (.ref (s2.heap.objs.size + 4)) { s2 with heap := h' }) :
    wpAny (model X.prog X.w) X.A (eval (.Call (.Name "zip" p) [e, e2] [⟨some "strict", .Constant (.bool true) j p3, kpos⟩] pos) X.env) Q X.xe s := by
  have pk : PK X [⟨some "strict", .Constant (.bool true) j p3, kpos⟩] (tCons (tC (.bl true)) tNil) := pk_cons pe_bl pk_nil
  refine wpAny_Call_Name_kw (ld_blt I hg hm PyProof.Rows.boot_zip (callWith_kwT (thn (ha.run pos pins s σ H _ I h) fun us s1 ⟨vs, H1, I1, r1, b1, b2, a1, a2, xs, ys, ex, hqx, hqy, q⟩ =>
    thn (pk.run pos pins s1 σ H1 (fun zs H2 => zs = [.bl true] ∧ H2 = H1) I1 ⟨rfl, rfl⟩) fun ws s2 ⟨zs, H2, I2, r2, e3, e4⟩ => ?_) (by rw [hs]; rfl) hpl rfl rfl))
  subst ex e3 e4
  obtain ⟨w1, w2, rfl, r, r'⟩ := vals2 r1
  cases r
  cases r'
  obtain ⟨w3, rfl, r3⟩ := vals1 r2
  cases r3
  obtain ⟨its, rv, p1⟩ := sq_get I2 hqx
  obtain ⟨its2, rv2, p2⟩ := sq_get I2 hqy
  exact call_zipS (begins b1 a1 its.toArray) (begins b2 a2 its2.toArray) p1 p2 fun h' hz hTI hTO g1 g2 hk => k b1 b2 a1 a2 _ s2 h' its its2 I2 q p1 p2 hz hTI hTO g1 g2 hk
theorem sep_apt {n a1 a2 : Nat} (h1 : a1 < n) (h2 : a2 < n) (m : Nat) (hm : n + 5 ≤ m) : Apt m (n + 4) (n + 2) (n + 3) [n, a1] [n + 1, a2] where
  ez := (by omega : (m : Nat) ≠ n + 4)
  eTI := (by omega : (m : Nat) ≠ n + 2)
  eTO := (by omega : (m : Nat) ≠ n + 3)
  e1 := not2 (by omega) (by omega)
  e2 := not2 (by omega) (by omega)
def iEZ (K : PySem.W.Frag) (ta : TA) : TI := fun σ H R => ta σ H fun vs H1 => ∃ b1 b2 a1 a2 xs ys, vs = [.ref a1, .ref a2] ∧ Sq b1 K H1 a1 xs ∧ Sq b2 K H1 a2 ys ∧ R (ItEZ b1 b2 K a1 a2) H1
theorem pi_ez {e e2 : Expr} {ta : TA} {p pos p3 kpos pE posE tpos : Pos} {elts : List Expr} {kk j : Nat} (hg : Gl X "zip") (hm : X.mg "zip" = none) (hgE : Gl X "enumerate") (hmE : X.mg "enumerate" = none) (ha : PA X [e, e2] ta) (hs : starEach [e, e2] X.env = (false, eval e X.env) :: starEach [e2] X.env) (hpl : (backTo pos (starEach [e, e2] X.env)).any (·.1) = false) :
    PI X (.Tuple elts kk tpos) (.Call (.Name "enumerate" pE) [.Call (.Name "zip" p) [e, e2] [⟨some "strict", .Constant (.bool true) j p3, kpos⟩] pos] [] posE) (iEZ X.K ta) := by
  refine ⟨fun pins s σ H R I h => Call_ (ld_blt I hgE hmE boot_enumerate (PyProof.Rows.callWith_type1 (Calls.spliced_cons (zipV (W := fun b1 b2 a1 a2 H1 => R (ItEZ b1 b2 X.K a1 a2) H1) hg hm ha hs hpl I h fun b1 b2 a1 a2 H1 s2 h' its its2 I2 q p1 p2 hz hTI hTO g1 g2 hk => Calls.spliced_nil ?_)) rfl rfl))⟩
  have l1 := sq_lt p1
  have l2 := sq_lt p2
  have lz : s2.heap.objs.size + 4 < h'.objs.size := Heap.lt_size hz
  refine call_enumZ (s := { s2 with heap := h' }) hz fun h3 he hk3 => wpAny_pyIter_enum he ?_
  have J : Inv X pins σ H1 { s2 with heap := h3 } := I2.kept (t' := s2.toks) fun b o q => hk3 b o (hk b o q)
  refine ⟨h'.objs.size, [h'.objs.size, s2.heap.objs.size + 4, s2.heap.objs.size + 2, s2.heap.objs.size + 3, s2.heap.objs.size, s2.heap.objs.size + 1], _, _, H1, rfl, J,
    turn_ezG b1 b2 (sep_new (n := s2.heap.objs.size) l1 l2) (sep_apt (n := s2.heap.objs.size) l1 l2 h'.objs.size lz) (Nat.ne_of_lt l1) (Nat.ne_of_lt (Nat.lt_succ_of_lt l2)), ⟨⟨.none, he⟩, ⟨.none, false, hk3 _ _ hz, .inl rfl⟩, hk3 _ _ hTI, ⟨_, _, hk3 _ _ hTO⟩, .mk (hk3 _ _ g1), .mk (hk3 _ _ g2)⟩, fun c hc => ?_, q⟩
  have y : c = h'.objs.size ∨ c = s2.heap.objs.size + 4 ∨ c = s2.heap.objs.size + 2 ∨ c = s2.heap.objs.size + 3 ∨ c = s2.heap.objs.size ∨ c = s2.heap.objs.size + 1 := by simpa using hc
  have le : s2.heap.objs.size ≤ c := by
    rcases y with y | y | y | y | y | y <;> rw [y] <;> first | exact Nat.le_of_lt (Nat.lt_of_le_of_lt (Nat.le_add_right _ 4) lz) | exact Nat.le_add_right _ _ | exact Nat.le_refl _
  exact I2.fpOk le (I2.hok.fresh le)
theorem walk_ez {b1 b2 : Bool} {a1 a2 : Addr} {F1 : Hp} {vs us : List V} {xs ys : List D} (ra : RpA G.K G.sp F1 vs xs) (rb : RpA G.K G.sp F1 us ys) (hst : xs.length = ys.length) :
    Walk (ItEZ b1 b2 G.K a1 a2) (enumL 0 (zipL xs ys)).length (fun H => Sq b1 G.K H a1 vs ∧ Sq b2 G.K H a2 us) (Yd G F1 (enumL 0 (zipL xs ys))) := by
  have la := ra.length
  have lb := rb.length
  rw [enumL_len, zipL_len]
  refine ⟨fun i H hi q => ⟨vs, us, vs[i]'(by omega), us[i]'(by omega), q.1, q.2, by simp, by simp, by rw [la, lb, hst]⟩, fun H q => ⟨vs, us, q.1, q.2, by omega, by omega⟩, fun i H v H' hi q ⟨P, T, x, y, e1, e2, e2', ne, e3, e4, e5⟩ => ?_⟩
  obtain ⟨d, hd, rx⟩ := ra.getV (e4 vs q.1)
  obtain ⟨e, he, ry⟩ := rb.getV (e5 us q.2)
  subst e1 e3
  refine ⟨_, by rw [enumL_get, zipL_get xs ys i d e hd he]; rfl, fun F s h1 h2 h3 _ _ => ?_⟩
  have fP := h2.free e2
  have fw1 : Fw G.sp G.cc F H (upd F P (.tup [x, y])) (upd H P (.tup [x, y])) s := Fw.lay h2 h3 e2
  have e2T : (upd H P (.tup [x, y])) T = none := by rw [upd_ne ne]; exact e2'
  have fT : (upd F P (.tup [x, y])) T = none := fw1.sub.free e2T
  refine ⟨_, fw1.trans (Fw.lay fw1.sub fw1.src e2T), .tup upd_same (.cons ?_ (.cons ?_ .nil))⟩
  · rw [Nat.zero_add]; exact .int _
  · have m1 := h1.trans ((Same.upd' fP (o := .tup [x, y])).trans (Same.upd' fT (o := .tup [.int (i : Nat), .ref P])))
    refine .tup ?_ (.cons (rx.mono m1) (.cons (ry.mono m1) .nil))
    rw [upd_ne (Ne.symm ne)]
    exact upd_same
theorem okI_ez {a b : E} {ea eb : Expr} {p pos p3 kpos pE posE tpos : Pos} {elts : List Expr} {kk j : Nat} (hK : X.K = G.K) (hg : Gl X "zip") (hm : X.mg "zip" = none) (hgE : Gl X "enumerate") (hmE : X.mg "enumerate" = none) (h1 : isStarX ea = false) (h2 : isStarX eb = false) (ha : OkE X G a ea) (hb : OkE X G b eb) :
    PI X (.Tuple elts kk tpos) (.Call (.Name "enumerate" pE) [.Call (.Name "zip" p) [ea, eb] [⟨some "strict", .Constant (.bool true) j p3, kpos⟩] pos] [] posE) (RdI G (.enum (.zip a b true))) := by
  have hs : starEach [ea, eb] X.env = (false, eval ea X.env) :: starEach [eb] X.env := starEach_no h1 _ _
  have n1 : (backTo pos (starEach [ea, eb] X.env)).any (·.1) = false := by rw [starEach_no h1, starEach_no h2]; rfl
  have pz : ∀ {ta : TA}, PA X [ea, eb] ta → PI X (.Tuple elts kk tpos) (.Call (.Name "enumerate" pE) [.Call (.Name "zip" p) [ea, eb] [⟨some "strict", .Constant (.bool true) j p3, kpos⟩] pos] [] posE) (iEZ X.K ta) := fun {ta} h => pi_ez hg hm hgE hmE h hs n1
  refine ⟨fun pins sh σ H R I ⟨g, en, F, s, d, xs, s', Rr, off, he, hq, k⟩ => ?_⟩
  obtain ⟨dz, sz, ez, ez2⟩ := bnd_some he
  obtain ⟨ez3, rfl⟩ := lift_some ez2
  obtain ⟨lz, ez4, rfl⟩ := Option.map_eq_some_iff.mp ez3
  obtain ⟨d1, s1, e1, e2⟩ := bnd_some ez
  obtain ⟨d2, s2, e3, e4⟩ := bnd_some e2
  obtain ⟨e5, rfl⟩ := lift_some e4
  obtain ⟨ys, q1, e6⟩ := Option.bind_eq_some_iff.mp e5
  obtain ⟨zs, q2, e7⟩ := Option.bind_eq_some_iff.mp e6
  obtain ⟨hst, rfl⟩ := if_some e7
  cases ez4
  cases hq
  have hst2 : ys.length = zs.length := by simpa using hst
  by_cases ho : Off g (lk a ++ lk b)
  · refine (pz (pa_cons ha.V (pa_cons hb.V pa_nil (starEach_no h2 _ _)) hs)).run pins sh σ H R I ⟨g, en, F, s, d1, s1, Rr, ho.l, e1, fun x F1 H1 f1 r1 => ⟨g, en, F1, s1, d2, s', Rr.step f1, ho.r, e3, fun y F2 H2 f2 r2 => ?_⟩⟩
    obtain ⟨b1, a1, vs, rfl, c1, ra⟩ := sq_ofP (r1.mono f2.fr) q1
    obtain ⟨b2, a2, us, rfl, c2, rb⟩ := sq_ofP r2 q2
    have f := f1.trans f2
    exact ⟨b1, b2, a1, a2, vs, us, rfl, hK ▸ c1 _ f.sub, hK ▸ c2 _ f.sub, hK ▸ k _ F2 H2 _ f (walk_ez ra rb hst2) (fun _ H'' z => ⟨c1 _ z, c2 _ z⟩) fun F'' H'' s'' f3 => ⟨c1 _ (f3.fr.trans f3.sub), c2 _ (f3.fr.trans f3.sub)⟩⟩
  · refine (pz (pa_cons ha.B (pa_cons hb.B pa_nil (starEach_no h2 _ _)) hs)).run pins sh σ H R I ⟨g, en, F, s, d1, s1, Rr, off.l, e1, fun x F1 H1 f1 r1 => ⟨g, en, F1, s1, d2, s', Rr.step f1, off.r, e3, fun y F2 H2 f2 r2 => ?_⟩⟩
    obtain ⟨b1, a1, vs, rfl, c1, ra⟩ := sq_ofB (r1.step f2) f2.sub q1
    obtain ⟨b2, a2, us, rfl, c2, rb⟩ := sq_ofB r2 f2.sub q2
    have f := f1.trans f2
    have z := Fw.refl f2.sub f2.src
    exact ⟨b1, b2, a1, a2, vs, us, rfl, hK ▸ c1 _ _ _ z, hK ▸ c2 _ _ _ z, hK ▸ k _ F2 H2 _ f (walk_ez ra rb hst2) (fun z => absurd z ho) fun F'' H'' s'' f3 => ⟨c1 _ _ _ f3, c2 _ _ _ f3⟩⟩
end
end Fz
/-! FzHj: a plain zip whose tuple may be out still; dict(zip(..)). -/
namespace Fz
open PySem PySem.Spec PyProof.Rows L2
abbrev IsZN (h : Heap) (z TI TO : Addr) (f : Value) (fl : Bool) : Prop := h.get? z = some { cls := .type "zip", dict := none, data := .fields #[f, .bool fl, .bool false, .ref TI, .ref TO], slots := #[] }
section
variable {prog : Program} {w : World} {A : Around} {E : Value → Shared → Prop} {s : Shared} {z TI TO i1 i2 : Addr} {fp1 fp2 : List Addr} {n1 n2 i : Nat} {P1 P2 : Nat → Value → Prop} {St1 St2 : Nat → Heap → Prop} {a1 a2 : Value} {f0 : Value} {fl : Bool}
theorem isFreeN {Q : Bool → Shared → Prop} (hz : IsZN s.heap z TI TO f0 fl) (hf : OwnV f0) (kf : Q true s) (kh : ∀ (T : Addr) h', f0 = rawInt T → IsZN h' z TI TO f0 true → Heap.SameBut z s.heap h' → Q false { s with heap := h' }) :
    wpAny (model prog w) A (Builtin.SmallTypes.ownedTupleIsFree (.ref z)) Q E s := by
  unfold Builtin.SmallTypes.ownedTupleIsFree
  rcases hf with rfl | ⟨T, rfl⟩
  · exact wpAny_bind (wpAny_field hz rfl (x := .none) rfl (wpAny_pure kf))
  · refine wpAny_bind (wpAny_field hz rfl (x := rawInt T) rfl ?_)
    show wpAny _ _ (loadIfAlive ((T : Int).toNat) >>= _) _ _ _
    rw [Int.toNat_natCast]
    refine wpAny_bind (aliveG ?_)
    cases hT : s.heap.get? T with
    | none =>
      simp only [Option.isNone_none, if_true]
      exact wpAny_pure kf
    | some oT =>
      simp only [Option.isNone_some, Bool.false_eq_true, if_false]
      refine wpAny_bind (wpAny_field hz rfl (x := .bool fl) rfl ?_)
      cases fl with
      | true =>
        rw [if_neg (show ¬ ((Value.bool true != Value.bool true) = true) from Bool.false_ne_true)]
        exact wpAny_pure (kh T s.heap rfl hz (Heap.SameBut.refl _ _))
      | false =>
        rw [if_pos (show (Value.bool false != Value.bool true) = true from rfl)]
        exact wpAny_bind (wpAny_setField_rec hz (by simp) fun h1 hz1 hs1 => wpAny_pure (kh T h1 rfl hz1 hs1))
theorem zn_item {Q : Value → Shared → Prop} (S : ZipSep2 z TI TO i1 i2 fp1 fp2) (D1 : Draws prog w A i1 fp1 n1 P1 St1) (D2 : Draws prog w A i2 fp2 n2 P2 St2) (hz : IsZN s.heap z TI TO f0 fl) (hf : OwnV f0) (hTI : IsTupOf2 s.heap TI (.ref i1) (.ref i2)) (hTO : IsTupOf2 s.heap TO a1 a2)
    (s1 : St1 i s.heap) (s2 : St2 i s.heap) (hi : i < n1) (hi2 : i < n2)
    (k : ∀ x1 x2 h' tk, P1 i x1 → P2 i x2 → (∃ f0 fl, IsZN h' z TI TO f0 fl ∧ OwnV f0) → (∃ a b, IsTupOf2 h' TO a b) → St1 (i + 1) h' → St2 (i + 1) h' → IsTupOf2 h' s.heap.objs.size x1 x2 → h'.objs.size = s.heap.objs.size + 1 →
      (∀ c o, c ≠ z → c ≠ TO → c ≠ i1 → c ≠ i2 → s.heap.get? c = some o → h'.get? c = some o) → Q (.ref s.heap.objs.size) { s with heap := h', toks := tk }) :
    wpAny (model prog w) A (Builtin.«zip.__next__» ⟨[.ref z], []⟩) (fun fin s' => ∃ v, fin = .done (.ret v) ∧ Q v s') E s := by
  obtain ⟨hp, g, d, t0, os⟩ := s
  show wpAny _ _ (field (.ref z) 2 >>= _) _ _ _
  refine wpAny_bind (wpAny_field hz rfl (x := .bool false) rfl ?_)
  show wpAny _ _ (field (.ref z) 3 >>= _) _ _ _
  refine wpAny_bind (wpAny_field hz rfl (x := .ref TI) rfl (wpAny_bind (wpAny_seqItems hTI rfl ?_)))
  show wpAny _ _ (Builtin.SmallTypes.ownedTupleIsFree (.ref z) >>= _) _ _ _
  refine wpAny_bind (isFreeN hz hf ?free fun T h1 hT hz1 hs1 => ?held)
  case free =>
    simp only [if_true]
    refine wpAny_bind (wpAny_rule (wpAny_bind (wpAny_field hz rfl (x := .ref TO) rfl (wpAny_bind (wpAny_setField_rec hz (by simp) fun g0 k0 b0 => ?_)))))
    have hz0 : IsZN g0 z TI TO .ellipsis fl := k0
    have hs0 : Heap.SameBut z hp g0 := b0
    clear k0 b0
    refine wpAny_bind ?_
    simp only [List.zipIdx_cons, List.zipIdx_nil, List.forIn_cons, List.forIn_nil]
    refine wpAny_bind (wpAny_bind (wpAny_onRaise ?_))
    show wpAny _ _ (Builtin.SmallTypes.nextOf (.ref i1) >>= _) _ _ ⟨g0, g, d, t0, os⟩
    refine wpAny_bind (D1.item i _ _ _ hi (D1.over s1 hs0 S.zf1) fun x1 p1 t1 hx1 m1 q1 => wpAny_pure ?_)
    have hp1 : Heap.SameBut i1 g0 p1 := q1
    clear q1
    have u1 : IsTupOf2 p1 TO a1 a2 := hp1.extBut _ _ S.Ti1 (hs0.extBut _ _ S.TOz hTO)
    refine wpAny_bind (wpAny_seqItems (s := ⟨p1, g, d, t1, os⟩) u1 rfl (wpAny_bind (updateSeq_IsTupOf2 (s := ⟨p1, g, d, t1, os⟩) u1 fun g1 c1 e1 => ?_)))
    have hT1 : IsTupOf2 g1 TO x1 a2 := c1
    have hs1 : Heap.SameBut TO p1 g1 := e1
    clear c1 e1
    refine wpAny_bind (wpAny_letGo (wpAny_pure (wpAny_bind (wpAny_bind (wpAny_onRaise ?_)))))
    show wpAny _ _ (Builtin.SmallTypes.nextOf (.ref i2) >>= _) _ _ ⟨g1, g, d, t1, os⟩
    refine wpAny_bind (D2.item i _ _ _ hi2 (D2.over (D2.over (D2.over s2 hs0 S.zf2) hp1 S.sep1_2) hs1 S.Tf2) fun x2 p2 t2 hx2 m2 q2 => wpAny_pure ?_)
    have hp2 : Heap.SameBut i2 g1 p2 := q2
    clear q2
    have u2 : IsTupOf2 p2 TO x1 a2 := hp2.extBut _ _ S.Ti2 hT1
    refine wpAny_bind (wpAny_seqItems (s := ⟨p2, g, d, t2, os⟩) u2 rfl (wpAny_bind (updateSeq_IsTupOf2 (s := ⟨p2, g, d, t2, os⟩) u2 fun g2 c2 e2 => ?_)))
    have hT2 : IsTupOf2 g2 TO x1 x2 := c2
    have hs2 : Heap.SameBut TO p2 g2 := e2
    clear c2 e2
    refine wpAny_bind (wpAny_letGo (wpAny_pure (wpAny_pure ?_)))
    refine wpAny_bind (wpAny_seqItems (s := ⟨g2, g, d, t2, os⟩) hT2 rfl (wpAny_bind (wpAny_newTuple ?_)))
    have sz : g2.objs.size = hp.objs.size := by rw [hs2.1, hp2.1, hs1.1, hp1.1, hs0.1]
    have zz : IsZN g2 z TI TO .ellipsis fl := hs2.extBut _ _ S.TOz.symm (hp2.extBut _ _ S.zi2 (hs1.extBut _ _ S.TOz.symm (hp1.extBut _ _ S.zi1 hz0)))
    have kk : ∀ c o, c ≠ z → c ≠ TO → c ≠ i1 → c ≠ i2 → hp.get? c = some o → g2.get? c = some o := fun c o cz cT c1 c2 e => hs2.extBut _ _ cT (hp2.extBut _ _ c2 (hs1.extBut _ _ cT (hp1.extBut _ _ c1 (hs0.extBut _ _ cz e))))
    have j1 : St1 (i + 1) g2 := D1.over (D1.over (D1.over m1 hs1 S.Tf1) hp2 S.sep2_1) hs2 S.Tf1
    have j2 : St2 (i + 1) g2 := D2.over m2 hs2 S.Tf2
    have lt : z < g2.objs.size := Heap.lt_size zz
    show wpAny _ _ (Builtin.SmallTypes.ownedTupleHandOut (.ref z) (.ref g2.objs.size) >>= _) _ _ ⟨g2.push { cls := .type "tuple", data := .seq #[x1, x2] }, g, d, t2, os⟩
    refine wpAny_bind ?_
    unfold Builtin.SmallTypes.ownedTupleHandOut
    have z6 : IsZN (g2.push { cls := .type "tuple", data := .seq #[x1, x2] }) z TI TO .ellipsis fl := Heap.get?_push_of_some _ zz
    refine wpAny_bind (wpAny_setField_rec z6 (by simp) fun h7 c7 e7 => ?_)
    have z7 : IsZN h7 z TI TO (rawInt g2.objs.size) fl := c7
    have m7 : Heap.SameBut z (g2.push { cls := .type "tuple", data := .seq #[x1, x2] }) h7 := e7
    clear c7 e7
    refine wpAny_setField_rec z7 (by simp) fun h8 c8 e8 => ?_
    have z8 : IsZN h8 z TI TO (rawInt g2.objs.size) false := c8
    have m8 : Heap.SameBut z h7 h8 := e8
    clear c8 e8
    have up : ∀ c o, c ≠ z → g2.get? c = some o → h8.get? c = some o := fun c o c1 e => m8.extBut _ _ c1 (m7.extBut _ _ c1 (Heap.get?_push_of_some _ e))
    have t8 : IsTupOf2 h8 g2.objs.size x1 x2 := m8.extBut _ _ (Nat.ne_of_gt lt) (m7.extBut _ _ (Nat.ne_of_gt lt) (Heap.get?_push_size _ rfl))
    have l8 : h8.objs.size = g2.objs.size + 1 := by rw [m8.1, m7.1, Heap.size_push]
    rw [sz] at z8 t8 l8
    refine wpAny_pure ⟨_, rfl, ?_⟩
    show Q (.ref g2.objs.size) ⟨h8, g, d, t2, os⟩
    rw [sz]
    exact k x1 x2 h8 t2 hx1 hx2 ⟨_, _, z8, .inr ⟨_, rfl⟩⟩ ⟨_, _, up _ _ S.TOz hT2⟩ (D1.frame _ _ _ j1 fun b hb o e => up b o (fun q => S.zf1 (q ▸ hb)) e) (D2.frame _ _ _ j2 fun b hb o e => up b o (fun q => S.zf2 (q ▸ hb)) e) t8 l8 fun c o cz cT c1 c2 e => up c o cz (kk c o cz cT c1 c2 e)
  case held =>
    simp only [Bool.false_eq_true, if_false]
    refine wpAny_bind ?_
    rw [← Array.forIn_toList]
    simp only [List.forIn_cons, List.forIn_nil]
    refine wpAny_bind (wpAny_bind (wpAny_holding ?_))
    show wpAny _ _ (Builtin.SmallTypes.nextOf (.ref i1) >>= _) _ _ ⟨h1, g, d, t0, os⟩
    refine wpAny_bind (D1.item i _ _ _ hi (D1.over s1 hs1 S.zf1) fun x1 p1 t1 hx1 m1 q1 => wpAny_pure ?_)
    have hp1 : Heap.SameBut i1 h1 p1 := q1
    refine wpAny_pure ?_
    refine wpAny_bind (wpAny_bind (wpAny_holding ?_))
    show wpAny _ _ (Builtin.SmallTypes.nextOf (.ref i2) >>= _) _ _ ⟨p1, g, d, t1, os⟩
    refine wpAny_bind (D2.item i _ _ _ hi2 (D2.over (D2.over s2 hs1 S.zf2) hp1 S.sep1_2) fun x2 p2 t2 hx2 m2 q2 => wpAny_pure ?_)
    have hp2 : Heap.SameBut i2 p1 p2 := q2
    refine wpAny_pure (wpAny_pure ?_)
    show wpAny _ _ (newTuple [x1, x2] >>= _) _ _ ⟨p2, g, d, t2, os⟩
    refine wpAny_bind (wpAny_newTuple ?_)
    have sz : p2.objs.size = hp.objs.size := by rw [hp2.1, hp1.1, hs1.1]
    have zz : IsZN p2 z TI TO f0 true := hp2.extBut _ _ S.zi2 (hp1.extBut _ _ S.zi1 hz1)
    have kk : ∀ c o, c ≠ z → c ≠ TO → c ≠ i1 → c ≠ i2 → hp.get? c = some o → p2.get? c = some o := fun c o cz _ c1 c2 e => hp2.extBut _ _ c2 (hp1.extBut _ _ c1 (hs1.extBut _ _ cz e))
    have uT : IsTupOf2 p2 TO a1 a2 := hp2.extBut _ _ S.Ti2 (hp1.extBut _ _ S.Ti1 (hs1.extBut _ _ S.TOz hTO))
    have j1 : St1 (i + 1) p2 := D1.over m1 hp2 S.sep2_1
    have t8 : IsTupOf2 (p2.push { cls := .type "tuple", data := .seq #[x1, x2] }) p2.objs.size x1 x2 := Heap.get?_push_size _ rfl
    have l8 : (p2.push { cls := .type "tuple", data := .seq #[x1, x2] }).objs.size = p2.objs.size + 1 := Heap.size_push ..
    refine wpAny_pure ⟨_, rfl, ?_⟩
    show Q (.ref p2.objs.size) ⟨p2.push { cls := .type "tuple", data := .seq #[x1, x2] }, g, d, t2, os⟩
    rw [sz] at t8 l8 ⊢
    exact k x1 x2 _ t2 hx1 hx2 ⟨_, _, Heap.get?_push_of_some _ zz, .inr ⟨T, hT⟩⟩ ⟨_, _, Heap.get?_push_of_some _ uT⟩ (D1.frame _ _ _ j1 fun b hb o e => Heap.get?_push_of_some _ e) (D2.frame _ _ _ m2 fun b hb o e => Heap.get?_push_of_some _ e) t8 l8
      fun c o cz cT c1 c2 e => Heap.get?_push_of_some _ (kk c o cz cT c1 c2 e)
theorem zn_end {Q : Fin → Shared → Prop} (S : ZipSep2 z TI TO i1 i2 fp1 fp2) (D1 : Draws prog w A i1 fp1 n1 P1 St1) (D2 : Draws prog w A i2 fp2 n2 P2 St2) (hz : IsZN s.heap z TI TO f0 fl) (hf : OwnV f0) (hTI : IsTupOf2 s.heap TI (.ref i1) (.ref i2)) (hTO : IsTupOf2 s.heap TO a1 a2)
    (s1 : St1 i s.heap) (s2 : St2 i s.heap) (le1 : i ≤ n1) (le2 : i ≤ n2) (hend : i = n1 ∨ i = n2)
    (k : ∀ h' tk e, (∀ c o, c ≠ z → c ≠ TO → c ≠ i1 → c ≠ i2 → s.heap.get? c = some o → h'.get? c = some o) → (∃ o, h'.get? e = some o ∧ o.cls = .type "StopIteration") → E (.ref e) { s with heap := h', toks := tk }) :
    wpAny (model prog w) A (Builtin.«zip.__next__» ⟨[.ref z], []⟩) Q E s := by
  obtain ⟨hp, g, d, t0, os⟩ := s
  show wpAny _ _ (field (.ref z) 2 >>= _) _ _ _
  refine wpAny_bind (wpAny_field hz rfl (x := .bool false) rfl ?_)
  show wpAny _ _ (field (.ref z) 3 >>= _) _ _ _
  refine wpAny_bind (wpAny_field hz rfl (x := .ref TI) rfl (wpAny_bind (wpAny_seqItems hTI rfl ?_)))
  show wpAny _ _ (Builtin.SmallTypes.ownedTupleIsFree (.ref z) >>= _) _ _ _
  refine wpAny_bind (isFreeN hz hf ?free fun T h1 hT hz1 hs1 => ?held)
  case free =>
    simp only [if_true]
    refine wpAny_bind (wpAny_rule (wpAny_bind (wpAny_field hz rfl (x := .ref TO) rfl (wpAny_bind (wpAny_setField_rec hz (by simp) fun g0 k0 b0 => ?_)))))
    have hz0 : IsZN g0 z TI TO .ellipsis fl := k0
    have hs0 : Heap.SameBut z hp g0 := b0
    clear k0 b0
    refine wpAny_bind ?_
    simp only [List.zipIdx_cons, List.zipIdx_nil, List.forIn_cons, List.forIn_nil]
    refine wpAny_bind (wpAny_bind (wpAny_onRaise ?_))
    show wpAny _ _ (Builtin.SmallTypes.nextOf (.ref i1) >>= _) _ _ ⟨g0, g, d, t0, os⟩
    by_cases hi : i < n1
    · refine wpAny_bind (D1.item i _ _ _ hi (D1.over s1 hs0 S.zf1) fun x1 p1 t1 hx1 m1 q1 => wpAny_pure ?_)
      have hp1 : Heap.SameBut i1 g0 p1 := q1
      clear q1
      have u1 : IsTupOf2 p1 TO a1 a2 := hp1.extBut _ _ S.Ti1 (hs0.extBut _ _ S.TOz hTO)
      refine wpAny_bind (wpAny_seqItems (s := ⟨p1, g, d, t1, os⟩) u1 rfl (wpAny_bind (updateSeq_IsTupOf2 (s := ⟨p1, g, d, t1, os⟩) u1 fun g1 c1 e1 => ?_)))
      have hs1 : Heap.SameBut TO p1 g1 := e1
      clear c1 e1
      refine wpAny_bind (wpAny_letGo (wpAny_pure (wpAny_bind (wpAny_bind (wpAny_onRaise ?_)))))
      show wpAny _ _ (Builtin.SmallTypes.nextOf (.ref i2) >>= _) _ _ ⟨g1, g, d, t1, os⟩
      have e2 : i = n2 := by omega
      refine wpAny_bind (D2.done ⟨g1, g, d, t1, os⟩ _ _ (e2 ▸ D2.over (D2.over (D2.over s2 hs0 S.zf2) hp1 S.sep1_2) hs1 S.Tf2) fun q e hq ⟨oe, hoe, hce⟩ => ?_)
      have hq : Heap.ExtBut i2 g1 q := hq
      have hoe : q.get? e = some oe := hoe
      have hzq : IsZN q z TI TO .ellipsis fl := hq _ _ S.zi2 (hs1.extBut _ _ S.TOz.symm (hp1.extBut _ _ S.zi1 hz0))
      have nez : e ≠ z := fun x => by
        rw [x, hzq] at hoe
        cases hoe
        simp at hce
      refine wpAny_setField_rec (s := ⟨q, g, d, t1, os⟩) hzq (by simp) fun r c2 hr => ?_
      have hr : Heap.SameBut z q r := hr
      exact k r t1 e (fun c o cz cT k1 k2 x => hr.extBut _ _ cz (hq _ _ k2 (hs1.extBut _ _ cT (hp1.extBut _ _ k1 (hs0.extBut _ _ cz x))))) ⟨oe, hr.extBut _ _ nez hoe, hce⟩
    · have e1 : i = n1 := by omega
      refine wpAny_bind (D1.done ⟨g0, g, d, t0, os⟩ _ _ (e1 ▸ D1.over s1 hs0 S.zf1) fun q e hq ⟨oe, hoe, hce⟩ => ?_)
      have hq : Heap.ExtBut i1 g0 q := hq
      have hoe : q.get? e = some oe := hoe
      have hzq : IsZN q z TI TO .ellipsis fl := hq _ _ S.zi1 hz0
      have nez : e ≠ z := fun x => by
        rw [x, hzq] at hoe
        cases hoe
        simp at hce
      refine wpAny_setField_rec (s := ⟨q, g, d, t0, os⟩) hzq (by simp) fun r c2 hr => ?_
      have hr : Heap.SameBut z q r := hr
      exact k r t0 e (fun c o cz cT k1 k2 x => hr.extBut _ _ cz (hq _ _ k1 (hs0.extBut _ _ cz x))) ⟨oe, hr.extBut _ _ nez hoe, hce⟩
  case held =>
    simp only [Bool.false_eq_true, if_false]
    refine wpAny_bind ?_
    rw [← Array.forIn_toList]
    simp only [List.forIn_cons, List.forIn_nil]
    refine wpAny_bind (wpAny_bind (wpAny_holding ?_))
    show wpAny _ _ (Builtin.SmallTypes.nextOf (.ref i1) >>= _) _ _ ⟨h1, g, d, t0, os⟩
    by_cases hi : i < n1
    · refine wpAny_bind (D1.item i _ _ _ hi (D1.over s1 hs1 S.zf1) fun x1 p1 t1 hx1 m1 q1 => wpAny_pure (wpAny_pure ?_))
      have hp1 : Heap.SameBut i1 h1 p1 := q1
      refine wpAny_bind (wpAny_bind (wpAny_holding ?_))
      show wpAny _ _ (Builtin.SmallTypes.nextOf (.ref i2) >>= _) _ _ ⟨p1, g, d, t1, os⟩
      have e2 : i = n2 := by omega
      refine wpAny_bind (D2.done ⟨p1, g, d, t1, os⟩ _ _ (e2 ▸ D2.over (D2.over s2 hs1 S.zf2) hp1 S.sep1_2) fun q e hq he => ?_)
      have hq : Heap.ExtBut i2 p1 q := hq
      exact k q t1 e (fun c o cz cT k1 k2 x => hq _ _ k2 (hp1.extBut _ _ k1 (hs1.extBut _ _ cz x))) he
    · have e1 : i = n1 := by omega
      refine wpAny_bind (D1.done ⟨h1, g, d, t0, os⟩ _ _ (e1 ▸ D1.over s1 hs1 S.zf1) fun q e hq he => ?_)
      have hq : Heap.ExtBut i1 h1 q := hq
      exact k q t0 e (fun c o cz cT k1 k2 x => hq _ _ k1 (hs1.extBut _ _ cz x)) he
end
end Fz
/-! FzHk: dict(zip(x, y)), dict(pairs) with keys that are tuples of ints. -/
namespace Fz
open PySem PySem.Spec PyProof.Rows L2
section
variable {prog : Program} {w : World} {A : Around} {E : Value → Shared → Prop} {s : Shared} {z TI TO i1 i2 : Addr} {fp1 fp2 : List Addr} {n1 n2 i : Nat} {P1 P2 : Nat → Value → Prop} {St1 St2 : Nat → Heap → Prop} {a1 a2 : Value} {f0 : Value} {fl : Bool}
/-- a plain zip that stands at its i-th item -/
def ZNS (z TI TO i1 i2 : Addr) (St1 St2 : Nat → Heap → Prop) (i : Nat) (h : Heap) : Prop := (∃ f0 fl, IsZN h z TI TO f0 fl ∧ OwnV f0) ∧ IsTupOf2 h TI (.ref i1) (.ref i2) ∧ (∃ a b, IsTupOf2 h TO a b) ∧ St1 i h ∧ St2 i h
theorem znNext {Q : Option Value → Shared → Prop} (S : ZipSep2 z TI TO i1 i2 fp1 fp2) (D1 : Draws prog w A.in1 i1 fp1 n1 P1 St1) (D2 : Draws prog w A.in1 i2 fp2 n2 P2 St2) (x : ZNS z TI TO i1 i2 St1 St2 i s.heap) (h1 : i < n1) (h2 : i < n2)
    (k : ∀ x1 x2 h' tk, P1 i x1 → P2 i x2 → ZNS z TI TO i1 i2 St1 St2 (i + 1) h' → IsTupOf2 h' s.heap.objs.size x1 x2 →
      (∀ c o, c ≠ z → c ≠ TO → c ≠ i1 → c ≠ i2 → s.heap.get? c = some o → h'.get? c = some o) → Q (some (.ref s.heap.objs.size)) { s with heap := h', toks := tk }) : wpAny (model prog w) A (pyNext (.ref z)) Q E s := by
  obtain ⟨⟨f0, fl, hz, hf⟩, hTI, ⟨p, q, hTO⟩, s1, s2⟩ := x
  have hT : s.TypeIs (.ref z) "zip" := ⟨_, hz, rfl⟩
  unfold pyNext
  exact wpAny_bind (wpAny_attempt (wpAny_callSpecial?_slot (name := Str.ofString "__next__") hT F.slot_zip_next (wpAny_call_entry F.slot_zip_next hT F.entry_zip_next
    (zn_item S D1 D2 hz hf hTI hTO s1 s2 h1 h2 fun x1 x2 h' tk y1 y2 b1 b2 d1 d2 b5 b6 b7 => wpAny_pure (k x1 x2 h' tk y1 y2 ⟨b1, b7 _ _ S.TIz S.TITO S.TIi1 S.TIi2 hTI, b2, d1, d2⟩ b5 b7)) (F.args_zip_next_1 _))))
theorem znStop {Q : Option Value → Shared → Prop} (S : ZipSep2 z TI TO i1 i2 fp1 fp2) (D1 : Draws prog w A.in1 i1 fp1 n1 P1 St1) (D2 : Draws prog w A.in1 i2 fp2 n2 P2 St2) (x : ZNS z TI TO i1 i2 St1 St2 i s.heap) (l1 : i ≤ n1) (l2 : i ≤ n2) (hend : i = n1 ∨ i = n2)
    (k : ∀ h' tk, (∀ c o, c ≠ z → c ≠ TO → c ≠ i1 → c ≠ i2 → s.heap.get? c = some o → h'.get? c = some o) → Q none { s with heap := h', toks := tk }) : wpAny (model prog w) A (pyNext (.ref z)) Q E s := by
  obtain ⟨⟨f0, fl, hz, hf⟩, hTI, ⟨p, q, hTO⟩, s1, s2⟩ := x
  have hT : s.TypeIs (.ref z) "zip" := ⟨_, hz, rfl⟩
  unfold pyNext
  refine wpAny_bind (wpAny_attempt (wpAny_callSpecial?_slot (name := Str.ofString "__next__") hT F.slot_zip_next (wpAny_call_entry F.slot_zip_next hT F.entry_zip_next (zn_end S D1 D2 hz hf hTI hTO s1 s2 l1 l2 hend fun h' tk e hk ⟨o, ho, hc⟩ => ?_) (F.args_zip_next_1 _))))
  exact wpAny_bind (wpAny_isInstance (T := "StopIteration") (b := true) ⟨o, ho, hc⟩ isSubtype_stop (wpAny_pure (k _ _ hk)))
end
/-- zip(x, y) over lists and tuples, as dict's argument -/
theorem argZip {prog : Program} {w : World} {z TI TO i1 i2 l1 l2 : Addr} (b1 b2 : Bool) (S : ZipSep2 z TI TO i1 i2 [i1, l1] [i2, l2]) (ne1 : l1 ≠ i1) (ne2 : l2 ≠ i2) (xs ys : Array Value) :
    PairArg prog w "zip" z [z, TI, TO, i1, i2, l1, l2] [z, TO, i1, i2] (min xs.size ys.size) (fun i k v => xs[i]? = some k ∧ ys[i]? = some v)
      (fun h => IsZip h z TI TO .none ∧ IsTupOf2 h TI (.ref i1) (.ref i2) ∧ (∃ a b, IsTupOf2 h TO a b) ∧ StI b1 i1 l1 xs 0 h ∧ StI b2 i2 l2 ys 0 h) where
  type := fun s ok => ⟨_, ok.1, rfl⟩
  notDict := by decide
  keep := fun h h' ok hk => by
    obtain ⟨hz, hTI, ⟨a, b, hTO⟩, h1, h2⟩ := ok
    exact ⟨hk _ _ hz, hk _ _ hTI, ⟨a, b, hk _ _ hTO⟩, ⟨h1.1.at fun o e => hk _ o e, (begins b1 l1 xs).keeps _ _ h1.2 hk⟩, ⟨h2.1.at fun o e => hk _ o e, (begins b2 l2 ys).keeps _ _ h2.2 hk⟩⟩
  there := fun h ok b hb => by
    obtain ⟨hz, hTI, ⟨a, c, hTO⟩, h1, h2⟩ := ok
    obtain ⟨o1, e1, _⟩ := h1.1.obj
    obtain ⟨o2, e2, _⟩ := h2.1.obj
    have lk : ∀ (b : Bool) (l : Addr) (it : Array Value), SqAt b h l it → ∃ o, h.get? l = some o := fun b l it q => by
      cases b with
      | true => obtain ⟨o, e, _⟩ := (show h.IsTuple l it from q); exact ⟨o, e⟩
      | false => obtain ⟨o, e, _⟩ := (show h.IsList l it from q); exact ⟨o, e⟩
    simp only [List.mem_cons, List.not_mem_nil, or_false] at hb
    rcases hb with rfl | rfl | rfl | rfl | rfl | rfl | rfl
    · exact ⟨_, hz⟩
    · exact ⟨_, hTI⟩
    · exact ⟨_, hTO⟩
    · exact ⟨_, e1⟩
    · exact ⟨_, e2⟩
    · exact lk _ _ _ h1.2
    · exact lk _ _ _ h2.2
  sub := fun b hb => by simp at hb ⊢; rcases hb with rfl | rfl | rfl | rfl <;> simp
  noKeys := fun A s Q E hA ok h => getAttrOr_miss_zip ok.1 rfl rfl rfl zip_no_keys (by decide +kernel) hA h
  iter := fun A s d Q E hA ok hd hdf h => by
    obtain ⟨hz, hTI, ⟨a, b, hTO⟩, h1, h2⟩ := ok
    simp only [List.mem_cons, List.not_mem_nil, or_false, not_or] at hdf
    obtain ⟨dz, dTI, dTO, di1, di2, dl1, dl2⟩ := hdf
    have D1 := draws (prog := prog) (w := w) (A := A.in1) hA b1 i1 l1 ne1 xs
    have D2 := draws (prog := prog) (w := w) (A := A.in1) hA b2 i2 l2 ne2 ys
    refine wpAny_pyIter_zip hz (h z [z, TO, i1, i2] (ZNS z TI TO i1 i2 (StI b1 i1 l1 xs) (StI b2 i2 l2 ys)) s.heap s.toks ?_ ⟨⟨.none, false, hz, .inl rfl⟩, hTI, ⟨a, b, hTO⟩, h1, h2⟩ (fun _ _ e => e) fun b hb => .inl hb)
    exact {
      off := fun hm => by
        simp only [List.mem_cons, List.not_mem_nil, or_false] at hm
        rcases hm with e | e | e | e
        · exact dz e
        · exact dTO e
        · exact di1 e
        · exact di2 e
      frame := fun i h₁ h₂ st hk => by
        obtain ⟨⟨f0, fl, q1, q2⟩, q3, ⟨p, q, q4⟩, q5, q6⟩ := st
        refine ⟨⟨f0, fl, hk _ _ (Ne.symm dz) q1, q2⟩, hk _ _ (Ne.symm dTI) q3, ⟨p, q, hk _ _ (Ne.symm dTO) q4⟩, D1.frame _ _ _ q5 fun b hb o e => hk b o (fun y => ?_) e, D2.frame _ _ _ q6 fun b hb o e => hk b o (fun y => ?_) e⟩
        · subst y
          simp only [List.mem_cons, List.not_mem_nil, or_false] at hb
          rcases hb with e | e
          · exact di1 e
          · exact dl1 e
        · subst y
          simp only [List.mem_cons, List.not_mem_nil, or_false] at hb
          rcases hb with e | e
          · exact di2 e
          · exact dl2 e
      item := fun i s₁ Q₁ E₁ hi st _ hQ => znNext S D1 D2 st (Nat.lt_of_lt_of_le hi (Nat.min_le_left ..)) (Nat.lt_of_lt_of_le hi (Nat.min_le_right ..)) fun x1 x2 h' tk y1 y2 st' ht hk =>
        hQ s₁.heap.objs.size _ _ h' tk ⟨y1, y2⟩ (.inl ⟨_, ht, rfl, _, rfl⟩) st' fun c o hc e => hk c o (fun x => hc (by simp [x])) (fun x => hc (by simp [x])) (fun x => hc (by simp [x])) (fun x => hc (by simp [x])) e
      done := fun s₁ Q₁ E₁ st hQ => znStop S D1 D2 st (Nat.min_le_left ..) (Nat.min_le_right ..) (by
        rcases Nat.le_total xs.size ys.size with h | h
        · exact .inl (Nat.min_eq_left h)
        · exact .inr (Nat.min_eq_right h)) fun h' tk hk => hQ h' tk fun c o hc e => hk c o (fun x => hc (by simp [x])) (fun x => hc (by simp [x])) (fun x => hc (by simp [x])) (fun x => hc (by simp [x])) e }
/-! ### what the dict holds -/
def mergeV (kws : List (List L2.Key × V)) : List (List L2.Key × V) := kws.foldl (fun acc p => putK acc p.1 p.2) []
theorem kt_merge {H : Hp} : ∀ {kws : List (List L2.Key × V)} {ps : List (List L2.Key × Addr × Value)} {acc : List (List L2.Key × V)} {xs : List (List L2.Key × Addr × Value)}, KT H kws ps → KT H acc xs →
    KT H (kws.foldl (fun acc p => putK acc p.1 p.2) acc) (storedAllH xs ps)
  | _, _, _, _, .nil, r => r
  | _, _, acc, xs, .cons (a := p) (b := q) ⟨e1, e2, e3⟩ t, r => by
    show KT H (List.foldl _ (putK acc p.1 p.2) _) (storedAllH (storedH xs q.1 q.2.1 q.2.2) _)
    rw [← e1]
    exact kt_merge t (r.put p.1 e2 e3)
theorem mergeV_len (kws : List (List L2.Key × V)) : (mergeV kws).length ≤ kws.length := by
  have h : ∀ (kws acc : List (List L2.Key × V)), (kws.foldl (fun acc p => putK acc p.1 p.2) acc).length ≤ acc.length + kws.length := by
    intro kws
    induction kws with
    | nil => intro acc; exact Nat.le_refl _
    | cons p r ih =>
      intro acc
      have h1 := ih (putK acc p.1 p.2)
      have h2 := length_putK acc p.1 p.2
      simp only [List.foldl_cons, List.length_cons]
      omega
  have := h kws []
  simpa [mergeV] using this
section
variable {K : PySem.W.Frag} {sp : Addr} {F : Hp}
theorem intsOf_is : ∀ {ds : List D} {ns : List Int}, intsOf ds = some ns → ds = ns.map .int
  | [], ns, h => by cases h; rfl
  | .int i :: r, ns, h => by
    obtain ⟨ms, e, rfl⟩ := Option.map_eq_some_iff.mp (show (intsOf r).map (i :: ·) = some ns from h)
    rw [intsOf_is e]; rfl
  | .none :: _, _, h => by cases h
  | .bool _ :: _, _, h => by cases h
  | .str _ :: _, _, h => by cases h
  | .list _ :: _, _, h => by cases h
  | .tuple _ :: _, _, h => by cases h
  | .dict _ :: _, _, h => by cases h
theorem rpK_repl {v : V} {d : D} (rv : Rp K sp F v d) (ns : List Int) : ∀ {kws : List (List L2.Key × V)} {kvs : List (D × D)}, RpK K sp F kws kvs →
    RpK K sp F (kws.map fun kv => if kv.1 = ns.map Sum.inl then (kv.1, v) else kv) (kvs.map fun p => if sameK p.1 (.tuple (ns.map .int)) then (p.1, d) else p)
  | _, _, .nil => .nil
  | _, _, .cons (ns := ms) (v := v0) (d := d0) h a => by
    have es : sameK (.tuple (ms.map .int)) (.tuple (ns.map .int)) = decide (ms = ns) := by
      show (match intsOf (ms.map .int), intsOf (ns.map .int) with | some x, some y => decide (x = y) | _, _ => false) = _
      rw [intsOf_map, intsOf_map]
    rw [List.map_cons, List.map_cons]
    by_cases q : ms = ns
    · subst q
      rw [if_pos rfl]
      have e : (if sameK (PyData.tuple (ms.map .int), d0).1 (.tuple (ms.map .int)) = true then ((PyData.tuple (ms.map .int), d0).1, d) else (PyData.tuple (ms.map .int), d0)) = (PyData.tuple (ms.map .int), d) := by
        show (if sameK (.tuple (ms.map .int)) (.tuple (ms.map .int)) = true then _ else _) = _
        rw [es, decide_eq_true rfl, if_pos rfl]
      rw [e]
      exact .cons rv (rpK_repl rv ms a)
    · rw [if_neg (fun z => q (map_inl z))]
      have e : (if sameK (PyData.tuple (ms.map .int), d0).1 (.tuple (ns.map .int)) = true then ((PyData.tuple (ms.map .int), d0).1, d) else (PyData.tuple (ms.map .int), d0)) = (PyData.tuple (ms.map .int), d0) := by
        show (if sameK (.tuple (ms.map .int)) (.tuple (ns.map .int)) = true then _ else _) = _
        rw [es, decide_eq_false q, if_neg Bool.false_ne_true]
      rw [e]
      exact .cons h (rpK_repl rv ns a)
theorem rpK_snoc {v : V} {d : D} (rv : Rp K sp F v d) (ns : List Int) : ∀ {kws : List (List L2.Key × V)} {kvs : List (D × D)}, RpK K sp F kws kvs → RpK K sp F (kws ++ [(ns.map Sum.inl, v)]) (kvs ++ [(.tuple (ns.map .int), d)])
  | _, _, .nil => .cons rv .nil
  | _, _, .cons h a => .cons h (rpK_snoc rv ns a)
theorem rpK_put {v : V} {d : D} (rv : Rp K sp F v d) (ns : List Int) {kws : List (List L2.Key × V)} {kvs : List (D × D)} (a : RpK K sp F kws kvs) : RpK K sp F (putK kws (ns.map Sum.inl) v) (putD kvs (.tuple (ns.map .int)) d) := by
  have e : (kws.any fun kv => decide (kv.1 = ns.map (Sum.inl : Int → L2.Key))) = hasD kvs (.tuple (ns.map .int)) := by
    rw [valV_any]; exact (rpK_val a _ ns (intsOf_map ns)).2
  unfold putK putD
  rw [e]
  by_cases q : hasD kvs (.tuple (ns.map .int)) = true
  · rw [if_pos q, if_pos q]; exact rpK_repl rv ns a
  · rw [if_neg q, if_neg q]; exact rpK_snoc rv ns a
theorem rpK_fold : ∀ (kws : List (List L2.Key × V)) (ps : List (D × D)) {acc : List (List L2.Key × V)} {kvs : List (D × D)}, RpK K sp F kws ps → RpK K sp F acc kvs →
    RpK K sp F (kws.foldl (fun acc p => putK acc p.1 p.2) acc) (ps.foldl (fun acc p => putD acc p.1 p.2) kvs)
  | [], [], _, _, .nil, r => r
  | _ :: kws, _ :: ps, _, _, .cons (ns := ns) h a, r => rpK_fold kws ps a (rpK_put h ns r)
theorem rpK_merge {kws : List (List L2.Key × V)} {ps : List (D × D)} (a : RpK K sp F kws ps) : RpK K sp F (mergeV kws) (mergeD ps) := rpK_fold kws ps a .nil
end
section
variable {X : Cx}
/-- a dict is laid -/
theorem dict_laid {pins : List (Addr × Obj)} {σ : L2.St} {H : Hp} {s : Shared} {h' : Heap} {tk : Nat} {d : Addr} {kws : List (List L2.Key × V)} {ps : List (List L2.Key × Addr × Value)} (I : Inv X pins σ H s) (kt : KT H kws ps) (hl : kws.length ≤ sizeLine) (hd0 : s.heap.objs.size ≤ d)
    (hd : h'.DictOfH (tupleKind (mixKind X.prog X.w)) d (storedAllH [] ps)) (keep : ∀ b o, s.heap.get? b = some o → h'.get? b = some o) :
    Inv X pins σ (upd H d (.dT (mergeV kws))) { s with heap := h', toks := tk } := by
  have hm : (d == sysModules) = false := beq_eq_false_iff_ne.mpr (Nat.ne_of_gt (Nat.lt_of_lt_of_le I.big hd0))
  have hf := I.hok.fresh hd0
  obtain ⟨o, es, ep, e1, e2, e3, e4, _, e6⟩ := hd
  refine I.laid keep hd0 ?_
  refine ⟨Nat.le_trans (mergeV_len kws) hl, hm, storedAllH [] ps, ?_, o, es, ep, e1, e2, e3, e4, e6⟩
  refine KT.keeps (kt_merge kt .nil) fun b ys q => ?_
  rw [upd_ne (ne_of_none q hf)]; exact q
theorem keys_stay {pins : List (Addr × Obj)} {σ : L2.St} {H : Hp} {s s2 : Shared} {wr : List Addr} (I : Inv X pins σ H s) (keep : ∀ b o, s.heap.get? b = some o → s2.heap.get? b = some o) (le : s.heap.objs.size ≤ s2.heap.objs.size) (hw : ∀ b ∈ wr, s.heap.objs.size ≤ b) :
    ∀ {kws : List (List L2.Key × V)} {ps : List (List L2.Key × Addr × Value)}, KT H kws ps → KeysStay (tupleKind (mixKind X.prog X.w)) s2.heap s2.heap.objs.size wr ps := by
  intro kws ps kt h' hk x hx
  induction kt with
  | nil => cases hx
  | cons h t ih =>
    rcases List.mem_cons.mp hx with rfl | hx
    · obtain ⟨e1, e2, _⟩ := h
      obtain ⟨o, its, n, q1, q2, q3, q4⟩ := key_of I.hok e2
      rw [← e1]
      have lt := Heap.lt_size q1
      exact ⟨o, its, n, hk _ _ (Nat.ne_of_lt (Nat.lt_of_lt_of_le lt le)) (fun m => absurd (hw _ m) (Nat.not_le_of_lt lt)) (keep _ _ q1), q2, q3, q4⟩
    · exact ih hx
end
end Fz
/-! FzHm: dict(zip(x, y)), dict(pairs), read. -/
namespace Fz
open PySem PySem.Spec PyProof.Rows L2
def refA : Value → Addr
  | .ref a => a
  | _ => 0
def mkPs : List (List Int) → List Value → List Value → List (List L2.Key × Addr × Value)
  | ns :: nss, k :: ks, v :: vs => (ns.map Sum.inl, refA k, v) :: mkPs nss ks vs
  | _, _, _ => []
theorem mkPs_len : ∀ (nss : List (List Int)) (ks vs : List Value), nss.length = ks.length → (mkPs nss ks vs).length = min ks.length vs.length
  | [], [], vs, _ => by simp [mkPs]
  | _ :: _, _ :: _, [], _ => by simp [mkPs]
  | _ :: nss, _ :: ks, _ :: vs, h => by
    show (mkPs nss ks vs).length + 1 = _
    rw [mkPs_len nss ks vs (by simpa using h), List.length_cons, List.length_cons, Nat.succ_min_succ]
  | [], _ :: _, _, h => by cases h
  | _ :: _, [], _, h => by cases h
theorem mkPs_get {H : Hp} : ∀ {xs : List V} {nss : List (List Int)} {ks vs : List Value} (i : Nat) (k v : Value), TupsH H xs nss → Vals xs ks → ks[i]? = some k → vs[i]? = some v → ∃ key b, (mkPs nss ks vs)[i]? = some (key, b, v) ∧ k = .ref b
  | _, _, _, _, i, k, v, .nil, .nil, h, _ => by simp at h
  | _, _, _, [], i, k, v, _, _, _, h => by simp at h
  | _, ns :: _, _, u :: _, 0, k, v, .cons (a := a) h t, .cons r rt, h1, h2 => by
    cases r
    simp at h1 h2
    subst h1 h2
    exact ⟨ns.map Sum.inl, a, rfl, rfl⟩
  | _, _, _, _ :: _, i + 1, k, v, .cons h t, .cons r rt, h1, h2 => by
    obtain ⟨key, b, e1, e2⟩ := mkPs_get i k v t rt (by simpa using h1) (by simpa using h2)
    exact ⟨key, b, by simpa [mkPs] using e1, e2⟩
theorem mkPs_kt {H : Hp} : ∀ {xs ys : List V} {nss : List (List Int)} {ks vs : List Value}, TupsH H xs nss → Vals xs ks → Vals ys vs → KT H ((nss.map fun ns => ns.map Sum.inl).zip ys) (mkPs nss ks vs)
  | _, _, _, _, _, .nil, .nil, _ => .nil
  | _, _, _, _, _, .cons _ _, .cons _ _, .nil => by
    show Paired _ [] []
    exact .nil
  | _, _, _, _, _, .cons (a := a) (ns := ns) h t, .cons r rt, .cons q qt => by
    cases r
    exact .cons ⟨rfl, by rw [kV_ints]; exact h, q⟩ (mkPs_kt t rt qt)
section
variable {X : Cx} {G : Gx}
theorem sq_len {pins : List (Addr × Obj)} {s : Shared} {σ : L2.St} {H : Hp} {b : Bool} {a : Addr} {xs : List V} (I : Inv X pins σ H s) (h : Sq b X.K H a xs) : xs.length ≤ sizeLine := by
  cases b with
  | true => obtain ⟨_, _, _, hz⟩ := I.tuple h; exact hz
  | false => obtain ⟨_, _, _, hz⟩ := I.list h; exact hz
theorem tups_len {H : Hp} : ∀ {xs : List V} {nss : List (List Int)}, TupsH H xs nss → nss.length = xs.length
  | _, _, .nil => rfl
  | _, _, .cons _ t => congrArg (· + 1) (tups_len t)
def tDZip (K : PySem.W.Frag) (ta : TA) : TE := fun σ H Q => ta σ H fun vs H1 => ∃ b1 b2 a1 a2 xs ys nss, vs = [.ref a1, .ref a2] ∧ Sq b1 K H1 a1 xs ∧ Sq b2 K H1 a2 ys ∧ TupsH H1 xs nss ∧
  ∀ p, H1 p = none → Q (.ref p) (upd H1 p (.dT (mergeV ((nss.map fun ns => ns.map Sum.inl).zip ys))))
theorem pe_dzip {e e2 : Expr} {ta : TA} {p pos pD posD : Pos} (hc : X.calm = true) (hu : X.A.units + 65 < cLine) (hg : Gl X "zip") (hm : X.mg "zip" = none) (hgD : Gl X "dict") (hmD : X.mg "dict" = none) (ha : PA X [e, e2] ta) (hs : starEach [e, e2] X.env = (false, eval e X.env) :: starEach [e2] X.env) (hpl : (backTo pos (starEach [e2] X.env)).any (·.1) = false) :
    PE X (.Call (.Name "dict" pD) [.Call (.Name "zip" p) [e, e2] [] pos] [] posD) (tDZip X.K ta) := by
  refine ⟨fun pins s σ H Q I h => Call_ (ld_blt I hgD hmD PyProof.Rows.boot_dict (PyProof.Rows.callWith_type1 (Calls.spliced_cons (Call_ (ld_blt I hg hm PyProof.Rows.boot_zip (PyProof.Rows.callWith_type1 (thn (ha.run pos pins s σ H _ I h) fun us s1 ⟨vs, H1, I1, r1, b1, b2, a1, a2, xs, ys, nss, ex, hqx, hqy, ht, q⟩ => ?_) hs hpl)))) rfl rfl))⟩
  subst ex
  obtain ⟨w1, w2, rfl, r, r'⟩ := vals2 r1
  cases r
  cases r'
  have hz := sq_len I1 hqx
  obtain ⟨its, rv, p1⟩ := sq_get I1 hqx
  obtain ⟨its2, rv2, p2⟩ := sq_get I1 hqy
  refine zip_begins2 (begins b1 a1 its.toArray) (begins b2 a2 its2.toArray) p1 p2 fun h' hz' hTI hTO g1 g2 hsz hk => Calls.spliced_nil ?_
  have l1 := sq_lt p1
  have l2 := sq_lt p2
  have J : Inv X pins σ H1 { s1 with heap := h' } := I1.kept (t' := s1.toks) hk
  have kt := mkPs_kt ht rv rv2
  have hlen : (mkPs nss its its2).length = min its.length its2.length := mkPs_len nss its its2 ((tups_len ht).trans rv.length)
  refine call_dict_pairsH (knd := tupleKind (mixKind X.prog X.w)) (ps := mkPs nss its its2) (s := { s1 with heap := h' }) (argZip b1 b2 (sep_new (n := s1.heap.objs.size) l1 l2) (Nat.ne_of_lt l1) (Nat.ne_of_lt (Nat.lt_succ_of_lt l2)) its.toArray its2.toArray) (I1.ok.hd hc) ?_
    ⟨hz', hTI, ⟨_, _, hTO⟩, ⟨.mk g1, (begins b1 a1 its.toArray).keeps _ _ p1 hk⟩, ⟨.mk g2, (begins b2 a2 its2.toArray).keeps _ _ p2 hk⟩⟩ ⟨by rw [hlen]; simp, fun i key v ⟨x1, x2⟩ => ?_⟩ ?_ ?_ fun h2 tk hd hk2 => ?_
  · show X.A.units + 1 + 1 < cLine
    omega
  · have x1 : its[i]? = some key := by simpa using x1
    have x2 : its2[i]? = some v := by simpa using x2
    exact mkPs_get i key v ht rv x1 x2
  · refine keys_stay (s2 := { s1 with heap := h' }) I1 hk (by show s1.heap.objs.size ≤ h'.objs.size; omega) (fun b hb => ?_) kt
    simp only [List.mem_cons, List.not_mem_nil, or_false] at hb
    rcases hb with rfl | rfl | rfl | rfl <;> omega
  · rw [List.size_toArray, List.size_toArray]
    have := rv.length
    omega
  · have kk : ∀ b o, s1.heap.get? b = some o → h2.get? b = some o := fun b o z => hk2 b o (fun m => by
      have lt : (b : Nat) < s1.heap.objs.size := Heap.lt_size z
      simp only [List.mem_cons, List.not_mem_nil, or_false] at m
      rcases m with m | m | m | m <;> (rw [m] at lt; exact absurd lt (by first | exact Nat.lt_irrefl _ | exact Nat.not_lt_of_le (Nat.le_add_right _ _)))) (hk b o z)
    have hz2 : ((nss.map fun ns => ns.map (Sum.inl : Int → L2.Key)).zip ys).length ≤ sizeLine := by
      rw [List.length_zip, List.length_map, tups_len ht]; omega
    have hf : H1 h'.objs.size = none := I1.hok.fresh (by show s1.heap.objs.size ≤ h'.objs.size; omega)
    exact ⟨.ref _, _, dict_laid (s := s1) (tk := tk) I1 kt hz2 (by show s1.heap.objs.size ≤ h'.objs.size; omega) hd kk, rfl, q _ hf⟩
/-- dict(pairs), the keys tuples of ints that stand -/
inductive PairsT (K : PySem.W.Frag) (H : Hp) : List V → List (List Int) → List V → Prop
  | nil : PairsT K H [] [] []
  | cons {t b : Addr} {ns : List Int} {y : V} {xs ys : List V} {nss : List (List Int)} : SqT K H t [.ref b, y] → H b = some (.tup (ns.map V.int)) → PairsT K H xs nss ys → PairsT K H (.ref t :: xs) (ns :: nss) (y :: ys)
theorem pairsT_real {pins : List (Addr × Obj)} {σ : L2.St} {H : Hp} {s : Shared} (I : Inv X pins σ H s) : ∀ {xs ys : List V} {nss : List (List Int)}, PairsT X.K H xs nss ys →
    ∃ (ts : List Addr) (ps : List (List L2.Key × Addr × Value)), xs = ts.map V.ref ∧ ts.length = ps.length ∧ KT H ((nss.map fun ns => ns.map Sum.inl).zip ys) ps ∧ nss.length = ps.length ∧ ys.length = ps.length ∧
      ∀ (j : Nat) (q : List L2.Key × Addr × Value), ps[j]? = some q → ∃ t, ts[j]? = some t ∧ s.heap.IsTuple t #[.ref q.2.1, q.2.2]
  | _, _, _, .nil => ⟨[], [], rfl, rfl, .nil, rfl, rfl, fun j q e => by simp at e⟩
  | _, _, _, .cons (t := t) (b := b) (ns := ns) h h2 r => by
    obtain ⟨ts, ps, e1, e2, kt, e3, e4, hp⟩ := pairsT_real I r
    obtain ⟨its, rv, ht, _⟩ := I.tuple h
    obtain ⟨u, v, ei, ru, ry⟩ := vals2 rv
    cases ru
    subst ei
    refine ⟨t :: ts, (ns.map Sum.inl, b, v) :: ps, by rw [e1]; rfl, by simp [e2], .cons ⟨rfl, by rw [kV_ints]; exact h2, ry⟩ kt, by simp [e3], by simp [e4], fun j q e => ?_⟩
    cases j with
    | zero =>
      have e' : (ns.map Sum.inl, b, v) = q := Option.some.inj e
      subst e'
      exact ⟨t, rfl, ht⟩
    | succ j =>
      obtain ⟨t', x1, x2⟩ := hp j q (by simpa using e)
      exact ⟨t', by simpa using x1, x2⟩
theorem call_dictT (hc : X.calm = true) (hu : X.A.units + 65 < cLine) : CallR X (.type "dict") (fun xs H Q => ∃ (a : Addr) (vs ys : List V) (nss : List (List Int)), xs = [.ref a] ∧ SqL X.K H a vs ∧ PairsT X.K H vs nss ys ∧
    ∀ p, H p = none → Q (.ref p) (upd H p (.dT (mergeV ((nss.map fun ns => ns.map Sum.inl).zip ys))))) := by
  intro pins s σ H xs us Q I r ⟨a, vs, ys, nss, ex, hq, hp, q⟩
  subst ex
  obtain ⟨u, eu, rx⟩ := vals1 r
  subst eu
  cases rx
  obtain ⟨its, rv, pl, hz⟩ := I.list hq
  obtain ⟨ts, ps, e1, e2, kt, e3, e4, hpt⟩ := pairsT_real I hp
  subst e1
  have ei := refs_at rv
  subst ei
  obtain ⟨o, n, ho, hcl, hd, hdat⟩ := pl
  rw [List.length_map] at hz
  have ar := PairArg.list (prog := X.prog) (w := X.w) a ((ts.map Value.ref).toArray) (fun j => (ts[j]?).getD 0) (ps.map fun q => (Value.ref q.2.1, q.2.2))
  refine call_dict_pairsH (knd := tupleKind (mixKind X.prog X.w)) (ps := ps) ar (I.ok.hd hc) (by show X.A.units + 1 + 1 < cLine; omega) ⟨⟨o, n, ho, hcl, hd, hdat⟩, by simp [e2], fun j k v e => ?_⟩ ⟨by simp, fun i key v e => ?_⟩ ?_ (by simp; omega) fun h2 tk hd' hk2 => ?_
  · rw [List.getElem?_map] at e
    obtain ⟨q, e5, e6⟩ := Option.map_eq_some_iff.mp e
    cases e6
    obtain ⟨t, x1, x2⟩ := hpt j q e5
    have x3 : (ts[j]?).getD 0 = t := by rw [x1]; rfl
    refine ⟨by simp [x1], .inl ?_⟩
    show s.heap.IsTuple ((ts[j]?).getD 0) _
    rw [x3]; exact x2
  · have e : (ps.map fun q => (Value.ref q.2.1, q.2.2))[i]? = some (key, v) := e
    rw [List.getElem?_map] at e
    obtain ⟨q, e5, e6⟩ := Option.map_eq_some_iff.mp e
    cases e6
    exact ⟨q.1, q.2.1, e5, rfl⟩
  · exact keys_stay (s2 := s) I (fun _ _ z => z) (Nat.le_refl _) (fun b hb => by cases hb) kt
  · have hz2 : ((nss.map fun ns => ns.map (Sum.inl : Int → L2.Key)).zip ys).length ≤ sizeLine := by
      rw [List.length_zip, List.length_map]; omega
    exact ⟨.ref _, _, dict_laid (s := s) (tk := tk) I kt hz2 (Nat.le_refl _) hd' (fun b o z => hk2 b o (by simp) z), rfl, q _ (I.hok.fresh (Nat.le_refl _))⟩
theorem tks_of {K : PySem.W.Frag} {sp : Addr} {F H : Hp} (e : Same F H) : ∀ {vs : List V} {xs : List D}, RpA K sp F vs xs → xs.all isTK = true → ∃ nss : List (List Int), TupsH H vs nss ∧ xs = nss.map fun ns => .tuple (ns.map .int)
  | _, _, .nil, _ => ⟨[], .nil, rfl⟩
  | _, _, .cons (d := d) r a, h => by
    rw [List.all_cons, Bool.and_eq_true] at h
    obtain ⟨nss, t, e2⟩ := tks_of e a h.2
    cases d with
    | tuple ds =>
      obtain ⟨ns, hi⟩ := Option.isSome_iff_exists.mp (show (intsOf ds).isSome = true from h.1)
      obtain ⟨b, us, rfl, hF, ra⟩ := r.tuple
      have := intsOf_is hi
      subst this
      rw [ra.ints hi] at hF
      exact ⟨ns :: nss, .cons (e _ _ hF) t, by rw [e2]; rfl⟩
    | _ => cases h.1
theorem zip_rpK {K : PySem.W.Frag} {sp : Addr} {F : Hp} : ∀ {us : List V} {ys : List D} (nss : List (List Int)), RpA K sp F us ys → RpK K sp F ((nss.map fun ns => ns.map Sum.inl).zip us) ((nss.map fun ns => PyData.tuple (ns.map .int)).zip ys)
  | _, _, [], _ => .nil
  | _, _, _ :: _, .nil => .nil
  | _, _, _ :: nss, .cons r a => .cons r (zip_rpK nss a)
/-- a new dict, as data -/
theorem new_dict {F H : Hp} {s : Src} {kws : List (List L2.Key × V)} {ps : List (D × D)} {Q : VK} (e : Same F H) (q : SrcAt G.sp G.cc H s) (a : RpK G.K G.sp F kws ps)
    (k : ∀ z F' H', Fw G.sp G.cc F H F' H' s → Rp G.K G.sp F' z (.dict (mergeD ps)) → Q z H') (p : Addr) (hp : H p = none) : Q (.ref p) (upd H p (.dT (mergeV kws))) := by
  have fp : F p = none := by
    cases z : F p with
    | none => rfl
    | some u => rw [e _ _ z] at hp; cases hp
  exact k _ _ _ (Fw.lay e q hp) (.dct upd_same ((rpK_merge a).mono (Same.upd' fp)))
theorem ok_dzip {a b : E} {ea eb : Expr} {p pos pD posD : Pos} (hK : X.K = G.K) (hc : X.calm = true) (hu : X.A.units + 65 < cLine) (hg : Gl X "zip") (hm : X.mg "zip" = none) (hgD : Gl X "dict") (hmD : X.mg "dict" = none) (h1 : isStarX ea = false) (h2 : isStarX eb = false) (ha : PE X ea (RdB G a)) (hb : PE X eb (RdB G b)) :
    OkE X G (.dzip a b false) (.Call (.Name "dict" pD) [.Call (.Name "zip" p) [ea, eb] [] pos] [] posD) := by
  have hs : starEach [ea, eb] X.env = (false, eval ea X.env) :: starEach [eb] X.env := starEach_no h1 _ _
  have n1 : (backTo pos (starEach [eb] X.env)).any (·.1) = false := by rw [starEach_no h2]; rfl
  refine okV hK (pe_imp (pe_dzip hc hu hg hm hgD hmD (pa_cons ha (pa_cons hb pa_nil (starEach_no h2 _ _)) hs) hs n1) fun σ H Q ⟨g, en, F, s, d, s', R, off, he, k⟩ => ?_) rfl fun _ _ => rfl
  obtain ⟨d1, s1, e1, e2⟩ := bnd_some he
  obtain ⟨d2, s2, e3, e4⟩ := bnd_some e2
  obtain ⟨e5, rfl⟩ := lift_some e4
  obtain ⟨xs, q1, e6⟩ := Option.bind_eq_some_iff.mp e5
  obtain ⟨ys, q2, e7⟩ := Option.bind_eq_some_iff.mp e6
  obtain ⟨hst, e8⟩ := if_some2 e7
  rw [Bool.and_eq_true] at hst
  obtain ⟨_, e9⟩ := if_some e8
  subst e9
  refine ⟨g, en, F, s, d1, s1, R, off.l, e1, fun x F1 H1 f1 r1 => ⟨g, en, F1, s1, d2, s', R.step f1, off.r, e3, fun y F2 H2 f2 r2 => ?_⟩⟩
  obtain ⟨b1, a1, vs, rfl, c1, ra⟩ := sq_of (r1.step f2) f2.sub q1
  obtain ⟨b2, a2, us, rfl, c2, rb⟩ := sq_of r2 f2.sub q2
  have f := f1.trans f2
  obtain ⟨nss, th, ex⟩ := tks_of f2.sub ra hst.2
  subst ex
  exact ⟨b1, b2, a1, a2, vs, us, nss, rfl, hK ▸ c1, hK ▸ c2, th, fun q hq => new_dict f2.sub f2.src (zip_rpK nss rb) (fun z F3 H3 f3 r3 => k _ _ _ (f.trans f3) r3) q hq⟩
theorem pairsT_of {K : PySem.W.Frag} {sp : Addr} {F H : Hp} (e : Same F H) : ∀ {vs : List V} {xs : List D} {ps : List (D × D)}, RpA K sp F vs xs → pairsOf xs = some ps → ps.all (fun p => isTK p.1) = true →
    ∃ (nss : List (List Int)) (ys : List V), PairsT K H vs nss ys ∧ RpK K sp F ((nss.map fun ns => ns.map Sum.inl).zip ys) ps
  | _, _, _, .nil, h, _ => by cases h; exact ⟨[], [], .nil, .nil⟩
  | _, _, _, .cons (d := d) r a, h, hk => by
    cases d with
    | tuple ds =>
      match ds, h with
      | [k, v], h =>
        obtain ⟨qs, e1, rfl⟩ := Option.map_eq_some_iff.mp (show (pairsOf _).map _ = some _ from h)
        rw [List.all_cons, Bool.and_eq_true] at hk
        obtain ⟨nss, ys, t1, t2⟩ := pairsT_of e a e1 hk.2
        obtain ⟨t, us, rfl, hF, ra⟩ := r.tuple
        cases ra with
        | cons rk ra =>
          cases ra with
          | cons rv ra =>
            cases ra
            cases k with
            | tuple ks =>
              obtain ⟨ns, hi⟩ := Option.isSome_iff_exists.mp (show (intsOf ks).isSome = true from hk.1)
              obtain ⟨b, ws, rfl, hF2, ra2⟩ := rk.tuple
              have := intsOf_is hi
              subst this
              rw [ra2.ints hi] at hF2
              exact ⟨ns :: nss, _ :: ys, .cons (sqT_same e hF) (e _ _ hF2) t1, .cons rv t2⟩
            | _ => cases hk.1
    | _ => cases h
theorem pairsI_of {K : PySem.W.Frag} {sp : Addr} {F H : Hp} (e : Same F H) : ∀ {vs : List V} {xs : List D} {ps : List (D × D)}, RpA K sp F vs xs → pairsOf xs = some ps → ps.all (fun p => isIK p.1) = true →
    ∃ (ts : List Addr) (kvs : List (L2.Key × V)), vs = ts.map V.ref ∧ Paired (fun p kv => SqT K H p [kV kv.1, kv.2]) ts kvs ∧ RpI K sp F kvs ps
  | _, _, _, .nil, h, _ => by cases h; exact ⟨[], [], rfl, .nil, .nil⟩
  | _, _, _, .cons (d := d) r a, h, hk => by
    cases d with
    | tuple ds =>
      match ds, h with
      | [k, v], h =>
        obtain ⟨qs, e1, rfl⟩ := Option.map_eq_some_iff.mp (show (pairsOf _).map _ = some _ from h)
        rw [List.all_cons, Bool.and_eq_true] at hk
        obtain ⟨ts, kvs, t0, t1, t2⟩ := pairsI_of e a e1 hk.2
        obtain ⟨t, us, rfl, hF, ra⟩ := r.tuple
        cases ra with
        | cons rk ra =>
          cases ra with
          | cons rv ra =>
            cases ra
            cases k with
            | int n =>
              have := rk.int'
              subst this
              exact ⟨t :: ts, (Sum.inl n, _) :: kvs, by rw [t0]; rfl, .cons (sqT_same e hF) t1, .cons rv t2⟩
            | _ => cases hk.1
    | _ => cases h
section
variable {K : PySem.W.Frag} {sp : Addr} {F : Hp}
theorem rpI_repl {v : V} {d : D} (rv : Rp K sp F v d) (n : Int) : ∀ {kws : List (L2.Key × V)} {kvs : List (D × D)}, RpI K sp F kws kvs →
    RpI K sp F (kws.map fun kv => if kv.1 = Sum.inl n then (kv.1, v) else kv) (kvs.map fun p => if sameK p.1 (.int n) then (p.1, d) else p)
  | _, _, .nil => .nil
  | _, _, .cons (n := m) (v := v0) (d := d0) h a => by
    rw [List.map_cons, List.map_cons]
    by_cases q : m = n
    · subst q
      rw [if_pos rfl]
      have e : (if sameK (PyData.int m, d0).1 (.int m) = true then ((PyData.int m, d0).1, d) else (PyData.int m, d0)) = (PyData.int m, d) := by
        show (if decide (m = m) = true then _ else _) = _
        rw [decide_eq_true rfl, if_pos rfl]
      rw [e]
      exact .cons rv (rpI_repl rv m a)
    · rw [if_neg (fun z => q (Sum.inl.inj z))]
      have e : (if sameK (PyData.int m, d0).1 (.int n) = true then ((PyData.int m, d0).1, d) else (PyData.int m, d0)) = (PyData.int m, d0) := by
        show (if decide (m = n) = true then _ else _) = _
        rw [decide_eq_false q, if_neg Bool.false_ne_true]
      rw [e]
      exact .cons h (rpI_repl rv n a)
theorem rpI_snoc {v : V} {d : D} (rv : Rp K sp F v d) (n : Int) : ∀ {kws : List (L2.Key × V)} {kvs : List (D × D)}, RpI K sp F kws kvs → RpI K sp F (kws ++ [(Sum.inl n, v)]) (kvs ++ [(.int n, d)])
  | _, _, .nil => .cons rv .nil
  | _, _, .cons h a => .cons h (rpI_snoc rv n a)
theorem rpI_put {v : V} {d : D} (rv : Rp K sp F v d) (n : Int) {kws : List (L2.Key × V)} {kvs : List (D × D)} (a : RpI K sp F kws kvs) : RpI K sp F (putK kws (Sum.inl n) v) (putD kvs (.int n) d) := by
  have e : (kws.any fun kv => decide (kv.1 = (Sum.inl n : L2.Key))) = hasD kvs (.int n) := by
    rw [valV_any]; exact (rpI_val a n).2
  unfold putK putD
  rw [e]
  by_cases q : hasD kvs (.int n) = true
  · rw [if_pos q, if_pos q]; exact rpI_repl rv n a
  · rw [if_neg q, if_neg q]; exact rpI_snoc rv n a
theorem rpI_fold : ∀ (kws : List (L2.Key × V)) (ps : List (D × D)) {acc : List (L2.Key × V)} {kvs : List (D × D)}, RpI K sp F kws ps → RpI K sp F acc kvs →
    RpI K sp F (kws.foldl (fun acc p => putK acc p.1 p.2) acc) (ps.foldl (fun acc p => putD acc p.1 p.2) kvs)
  | [], [], _, _, .nil, r => r
  | _ :: kws, _ :: ps, _, _, .cons (n := n) h a, r => rpI_fold kws ps a (rpI_put h n r)
end
theorem new_dictI {F H : Hp} {s : Src} {kws : List (L2.Key × V)} {ps : List (D × D)} {Q : VK} (e : Same F H) (q : SrcAt G.sp G.cc H s) (a : RpI G.K G.sp F kws ps)
    (k : ∀ z F' H', Fw G.sp G.cc F H F' H' s → Rp G.K G.sp F' z (.dict (mergeD ps)) → Q z H') (p : Addr) (hp : H p = none) : Q (.ref p) (upd H p (.dK (mergeK [] kws))) := by
  have fp : F p = none := by
    cases z : F p with
    | none => rfl
    | some u => rw [e _ _ z] at hp; cases hp
  exact k _ _ _ (Fw.lay e q hp) (.dck upd_same ((rpI_fold kws ps a .nil).mono (Same.upd' fp)))
theorem ok_dps {a : E} {ea : Expr} {pD posD : Pos} (hK : X.K = G.K) (hc : X.calm = true) (hu : X.A.units + 65 < cLine) (hgD : Gl X "dict") (hmD : X.mg "dict" = none) (h1 : isStarX ea = false) (ha : PE X ea (RdB G a)) :
    OkE X G (.dps a) (.Call (.Name "dict" pD) [ea] [] posD) := by
  have hs : starEach [ea] X.env = (false, eval ea X.env) :: starEach [] X.env := starEach_no h1 _ _
  refine okV hK ⟨fun pins st σ H Q I ⟨g, en, F, s, d, s', R, off, he, k⟩ => ?_⟩ rfl fun _ _ => rfl
  obtain ⟨d1, s1, e1, e2⟩ := bnd_some he
  obtain ⟨e3, rfl⟩ := lift_some e2
  cases d1 with
  | list xs =>
    obtain ⟨ps, e4, e5⟩ := Option.bind_eq_some_iff.mp (show (pairsOf xs).bind dictOf = some d from e3)
    obtain ⟨e6, e7⟩ := if_some e5
    subst e7
    rw [Bool.and_eq_true] at e6
    by_cases ht : ps.all (fun p => isTK p.1) = true
    · refine (pe_callTy (call_dictT hc hu) hgD hmD PyProof.Rows.boot_dict (pa_cons ha pa_nil hs) (by decide) (by decide) hs (by rfl)).run pins st σ H Q I ⟨g, en, F, s, _, s', R, off, e1, fun x F1 H1 f r => ?_⟩
      obtain ⟨p, vs, rfl, h2, n1, n2, ra⟩ := r
      obtain ⟨nss, ys, t1, t2⟩ := pairsT_of f.sub ra e4 ht
      exact ⟨p, vs, ys, nss, rfl, SqL.of h2, hK ▸ t1, fun q hq => new_dict f.sub f.src t2 (fun z F3 H3 f3 r3 => k _ _ _ (f.trans f3) r3) q hq⟩
    · have hi : ps.all (fun p => isIK p.1) = true := by
        rcases Bool.or_eq_true_iff.mp e6.1 with h | h
        · exact h
        · exact absurd h ht
      refine (pe_callTy (call_dictP hc) hgD hmD PyProof.Rows.boot_dict (pa_cons ha pa_nil hs) (by decide) (by decide) hs (by rfl)).run pins st σ H Q I ⟨g, en, F, s, _, s', R, off, e1, fun x F1 H1 f r => ?_⟩
      obtain ⟨p, vs, rfl, h2, n1, n2, ra⟩ := r
      obtain ⟨ts, kvs, rfl, t1, t2⟩ := pairsI_of f.sub ra e4 hi
      exact ⟨p, ts, kvs, rfl, SqL.of h2, hK ▸ t1, fun q hq => new_dictI f.sub f.src t2 (fun z F3 H3 f3 r3 => k _ _ _ (f.trans f3) r3) q hq⟩
  | _ => cases e3
end
end Fz
/-! FzI: statements. -/
namespace Fz
open PySem PySem.Spec PyProof.Rows L2
/-! ### which lists are one's own, statement by statement -/
def drp (g l : List Nat) : List Nat := g.filter fun j => !l.contains j
def meet (g l : List Nat) : List Nat := g.filter fun j => l.contains j
def subB (g l : List Nat) : Bool := g.all fun j => l.contains j
def fresh : E → Bool
  | .op .. => true
  | .lst _ => true
  | .slc .. => true
  | .rev _ => true
  | .comp .. => true
  | .comp2 .. => true
  | .bi .list _ => true
  | .bi .sorted _ => true
  | _ => false
def gAdd : List Nat → List Nat → List Bool → List Nat
  | g, i :: is, true :: bs => gAdd (i :: drp g [i]) is bs
  | g, i :: is, false :: bs => gAdd (drp g [i]) is bs
  | g, _, _ => g
mutual
def own : List Nat → S → Option (List Nat)
  | g, .asg t e => some (drp (drp g (lk e)) t.slots)
  | g, .new i e => if fresh e then some (i :: drp (drp g (lk e)) [i]) else none
  | g, .par is es => some (drp (drp g (lkL es)) is)
  | g, .parN is ns es => if (ns.zip es).all fun p => !p.1 || fresh p.2 then some (gAdd (drp g (lkL es)) is ns) else none
  | g, .app i e => let g1 := drp g (lk e); if g1.contains i then some g1 else none
  | g, .ext i e => let g1 := drp g (lkB e); if g1.contains i then some g1 else none
  | g, .pop t j k => let g1 := drp g (lkO k); if g1.contains j && !t.slots.contains j then some (drp g1 t.slots) else none
  | g, .set i k e => let g1 := drp g (lk e ++ lkB k); if g1.contains i then some g1 else none
  | g, .aug i _ e => some (drp (drp g (lkB e)) [i])
  | g, .ret e => some (drp g (lk e))
  | g, .ite q a b => let g1 := drp g (lkB q); match ownL g1 a, ownL g1 b with
    | some ga, some gb => some (meet ga gb)
    | _, _ => none
  | g, .for_ t it body =>
    let g1 := drp g (lk it)
    let st (h : List Nat) : Option (List Nat) := (ownL (drp h t.slots) body).map fun h2 => meet h h2
    let g2 := ((st g1).bind fun h => (st h).bind fun h => st h).getD []
    match ownL (drp g2 t.slots) body with
    | some h => if subB g2 g1 && subB g2 h && subB g2 (drp g2 t.slots) then some g2 else none
    | none => none
  | g, .whl q body =>
    let st (h : List Nat) : Option (List Nat) := (ownL (drp h (lkB q)) body).map fun h2 => meet h h2
    let g2 := drp (((st g).bind fun h => (st h).bind fun h => st h).getD []) (lkB q)
    match ownL g2 body with
    | some h => if subB g2 g && subB g2 h then some g2 else none
    | none => none
  | g, .pass => some g
  | g, .mix j i lap => if g.contains j && (decide (j ≠ i) && decide (lap ≠ j)) && decide (lap ≠ i) then some g else none
def ownL : List Nat → List S → Option (List Nat)
  | g, [] => some g
  | g, s :: r => (own g s).bind fun g1 => ownL g1 r
end
theorem mem_drp {g l : List Nat} {i : Nat} : i ∈ drp g l ↔ i ∈ g ∧ i ∉ l := by
  simp [drp, List.mem_filter]
theorem mem_meet {g l : List Nat} {i : Nat} : i ∈ meet g l ↔ i ∈ g ∧ i ∈ l := by
  simp [meet, List.mem_filter]
theorem subB_ok {g l : List Nat} (h : subB g l = true) : ∀ i ∈ g, i ∈ l := fun i hi => by
  have := List.all_eq_true.mp h i hi
  simpa using this
theorem off_drp (g l : List Nat) : Off (drp g l) l := fun i hi hm => (mem_drp.mp hm).2 hi

/-! ### the state between statements -/
structure Ls (K : PySem.W.Frag) (sp cc : Addr) (F0 H0 : Hp) (g : List Nat) (en : En) (σ : L2.St) (F H : Hp) (s : Src) : Prop where
  R : Rl K sp cc g en σ F H s
  W : Fw sp cc F0 H0 F H s
  O : ∀ i a, i ∈ g → en.getD i none ≠ none → σ[i]? = some (some (.ref a)) → H0 a = none
section
variable {K : PySem.W.Frag} {sp cc : Addr} {F0 H0 F H F' H' : Hp} {g : List Nat} {en : En} {σ : L2.St} {s s' : Src}
theorem Ls.step (L : Ls K sp cc F0 H0 g en σ F H s) (f : Fw sp cc F H F' H' s') : Ls K sp cc F0 H0 g en σ F' H' s' := ⟨L.R.step f, L.W.trans f, L.O⟩
theorem Ls.congr {g' : List Nat} (L : Ls K sp cc F0 H0 g en σ F H s) (h : ∀ i, i ∈ g ↔ i ∈ g') : Ls K sp cc F0 H0 g' en σ F H s := ⟨L.R.congr h, L.W, fun i a hi => L.O i a ((h i).mpr hi)⟩
/-- one list is frozen as it stands -/
theorem Ls.freeze1 (L : Ls K sp cc F0 H0 g en σ F H s) (i : Nat) : ∃ F', Ls K sp cc F0 H0 (g.filter fun j => j != i) en σ F' H s ∧ Same F F' := by
  by_cases hi : i ∈ g
  · cases e : en.getD i none with
    | none =>
      refine ⟨F, ⟨⟨L.R.sub, L.R.src, L.R.fsp, L.R.fcc, L.R.len, fun j d ej n => ?_, fun j hm => L.R.own j (List.mem_filter.mp hm).1, fun j k a hj hk => L.R.dis j k a (List.mem_filter.mp hj).1 (List.mem_filter.mp hk).1⟩, L.W, fun j a hm => L.O j a (List.mem_filter.mp hm).1⟩, Same.refl _⟩
      refine L.R.val j d ej fun q => n (List.mem_filter.mpr ⟨q, ?_⟩)
      by_cases z : j = i
      · rw [z, e] at ej; cases ej
      · simpa using z
    | some d =>
      obtain ⟨a, vs, ds, rfl, h1, h2, h3, h4, h5, h6⟩ := L.R.own i hi d e
      have sm : Same F (upd F a (.lst vs)) := Same.upd' h3
      have h0 := L.O i a hi (by rw [e]; simp) h1
      have sub : Same (upd F a (.lst vs)) H := fun b u z => by
        by_cases hb : b = a
        · subst hb; rw [upd_same] at z; rw [← z]; exact h2
        · rw [upd_ne hb] at z; exact L.R.sub b u z
      refine ⟨upd F a (.lst vs), ⟨⟨sub, L.R.src, by rw [upd_ne (Ne.symm h5)]; exact L.R.fsp, by rw [upd_ne (Ne.symm h6)]; exact L.R.fcc, L.R.len, fun j d ej n => ?_, fun j hm d ej => ?_, fun j k b hj hk => L.R.dis j k b (List.mem_filter.mp hj).1 (List.mem_filter.mp hk).1⟩,
        ⟨L.W.fr.trans sm, sub, L.W.keep, L.W.src, fun b z n => ?_⟩, fun j b hm => L.O j b (List.mem_filter.mp hm).1⟩, sm⟩
      · by_cases z : j = i
        · rw [z, e] at ej
          cases ej
          exact ⟨_, z ▸ h1, .lst upd_same (h4.mono sm)⟩
        · obtain ⟨v, e1, r⟩ := L.R.val j d ej fun q => n (List.mem_filter.mpr ⟨q, by simpa using z⟩)
          exact ⟨v, e1, r.mono sm⟩
      · obtain ⟨m1, m2⟩ := List.mem_filter.mp hm
        have nj : j ≠ i := by simpa using m2
        obtain ⟨b, us, es, rfl, k1, k2, k3, k4, k5, k6⟩ := L.R.own j m1 d ej
        have nb : b ≠ a := fun z => nj (L.R.dis j i a m1 hi (by rw [ej]; simp) (by rw [e]; simp) (z ▸ k1) h1)
        exact ⟨b, us, es, rfl, k1, k2, by rw [upd_ne nb]; exact k3, k4.mono sm, k5, k6⟩
      · rw [upd_ne (fun y => n.1 (by rw [y]; exact h0))]
        exact L.W.new b z n
  · refine ⟨F, L.congr fun j => ?_, Same.refl _⟩
    rw [List.mem_filter]
    constructor
    · intro hj
      have nj : j ≠ i := fun z => hi (z ▸ hj)
      exact ⟨hj, by simpa using nj⟩
    · exact fun hj => hj.1
theorem Ls.freeze (L : Ls K sp cc F0 H0 g en σ F H s) : ∀ l : List Nat, ∃ F', Ls K sp cc F0 H0 (drp g l) en σ F' H s ∧ Same F F'
  | [] => ⟨F, L.congr fun i => by simp [mem_drp], Same.refl _⟩
  | i :: l => by
    obtain ⟨F1, L1, s1⟩ := Ls.freeze L l
    obtain ⟨F2, L2, s2⟩ := L1.freeze1 i
    refine ⟨F2, L2.congr fun j => ?_, s1.trans s2⟩
    simp only [List.mem_filter, mem_drp, List.mem_cons, not_or, bne_iff_ne]
    constructor
    · rintro ⟨⟨a, b⟩, c⟩; exact ⟨a, c, b⟩
    · rintro ⟨a, b, c⟩; exact ⟨⟨a, c⟩, b⟩
/-- fewer are one's own -/
theorem Ls.less (L : Ls K sp cc F0 H0 g en σ F H s) {g' : List Nat} (h : ∀ i ∈ g', i ∈ g) : ∃ F', Ls K sp cc F0 H0 g' en σ F' H s ∧ Same F F' := by
  obtain ⟨F1, L1, s1⟩ := L.freeze (drp g g')
  refine ⟨F1, L1.congr fun i => ?_, s1⟩
  simp only [mem_drp]
  constructor
  · rintro ⟨a, b⟩
    by_cases hi : i ∈ g'
    · exact hi
    · exact absurd ⟨a, hi⟩ b
  · exact fun hi => ⟨h i hi, fun q => q.2 hi⟩
/-- targets set -/
theorem Ls.tgs (L : Ls K sp cc F0 H0 g en σ F H s) {en2 : En} {σ2 : L2.St} {t : List Nat} (R : Rl K sp cc (g.filter fun j => !t.contains j) en2 σ2 F H s) (h1 : ∀ i, i ∉ t → en2.getD i none = en.getD i none) (h2 : ∀ i, i ∉ t → σ2[i]? = σ[i]?) :
    Ls K sp cc F0 H0 (drp g t) en2 σ2 F H s := ⟨R, L.W, fun i a hi e z => by
    obtain ⟨m1, m2⟩ := mem_drp.mp hi
    rw [h1 i m2] at e
    rw [h2 i m2] at z
    exact L.O i a m1 e z⟩
end
section
variable (G : Gx)
/-- behind a statement -/
def Bh (F0 H0 F : Hp) (g' : List Nat) (r : Rs) (s' : Src) (D : Ends) : Prop := match r with
  | .next en2 => ∀ σ2 F' H', Same F F' → Ls G.K G.sp G.cc F0 H0 g' en2 σ2 F' H' s' → D.nx σ2 H'
  | .ret d => ∀ x F' H', Fw G.sp G.cc F0 H0 F' H' s' → Rp G.K G.sp F' x d → D.rt x H'
def RdS (st : S) : TS := fun D σ H => ∃ F0 H0 g en F s r s' g', Ls G.K G.sp G.cc F0 H0 g en σ F H s ∧ own g st = some g' ∧ exS G.v G.c st en s = some (r, s') ∧ Bh G F0 H0 F g' r s' D
def RdSs (sts : List S) : TS := fun D σ H => ∃ F0 H0 g en F s r s' g', Ls G.K G.sp G.cc F0 H0 g en σ F H s ∧ ownL g sts = some g' ∧ exL G.v G.c sts en s = some (r, s') ∧ Bh G F0 H0 F g' r s' D
end
theorem pss_imp {X : Cx} {sts : List Stmt} {t t' : TS} (h : PSs X sts t) (i : ∀ D σ H, t' D σ H → t D σ H) : PSs X sts t' := ⟨fun pins s σ H Q I q => h.run pins s σ H Q I (i _ _ _ q)⟩
section
variable {X : Cx} {G : Gx}
theorem okSs_nil : PSs X [] (RdSs G []) := pss_imp pss_nil fun D σ H ⟨F0, H0, g, en, F, s, r, s', g', L, o, e, b⟩ => by
  obtain ⟨rfl, rfl⟩ := ret_some e
  cases o
  exact b σ F H (Same.refl _) L
theorem okSs_cons {s0 : S} {r0 : List S} {st : Stmt} {sts : List Stmt} (h1 : PS X st (RdS G s0)) (h2 : PSs X sts (RdSs G r0)) : PSs X (st :: sts) (RdSs G (s0 :: r0)) := by
  refine pss_imp (pss_cons h1 h2) fun D σ H ⟨F0, H0, g, en, F, s, r, s', g', L, o, e, b⟩ => ?_
  obtain ⟨g1, o1, o2⟩ := Option.bind_eq_some_iff.mp (show (own g s0).bind (fun g1 => ownL g1 r0) = some g' by simpa [ownL] using o)
  obtain ⟨q, s1, e1, e2⟩ := bnd_some e
  refine ⟨F0, H0, g, en, F, s, q, s1, g1, L, o1, e1, ?_⟩
  cases q with
  | next en2 =>
    intro σ2 F2 H2 sm L2
    refine ⟨F0, H0, g1, en2, F2, s1, r, s', g', L2, o2, e2, ?_⟩
    cases r with
    | next en3 => exact fun σ3 F3 H3 sm3 L3 => b σ3 F3 H3 (sm.trans sm3) L3
    | ret d => exact b
  | ret d =>
    obtain ⟨rfl, rfl⟩ := ret_some e2
    exact b
theorem okS_pass {pos : Pos} : PS X (.Pass pos) (RdS G .pass) := ps_imp ps_pass fun D σ H ⟨F0, H0, g, en, F, s, r, s', g', L, o, e, b⟩ => by
  obtain ⟨rfl, rfl⟩ := ret_some (show ret (Rs.next en) s = some (r, s') by simpa [exS] using e)
  have : g = g' := by simpa [own] using o
  subst this
  exact b σ F H (Same.refl _) L
theorem okS_ret {e : E} {ex : Expr} {pos : Pos} (h : PE X ex (RdV G e)) : PS X (.Return (some ex) pos) (RdS G (.ret e)) := ps_imp (ps_ret h) fun D σ H ⟨F0, H0, g, en, F, s, r, s', g', L, o, ev, b⟩ => by
  obtain ⟨d, s1, e1, e2⟩ := bnd_some ev
  obtain ⟨rfl, rfl⟩ := ret_some e2
  obtain ⟨F1, L1, sm⟩ := L.freeze (lk e)
  exact ⟨_, en, F1, s, d, s', L1.R, off_drp _ _, e1, fun x F2 H2 f r => b x F2 H2 (L1.W.trans f) r⟩
theorem okS_ite {q : E} {a b : List S} {eq : Expr} {sa sb : List Stmt} {pos : Pos} (hq : PT X eq (RdT G q)) (ha : PSs X sa (RdSs G a)) (hb : PSs X sb (RdSs G b)) : PS X (.If eq sa sb pos) (RdS G (.ite q a b)) := by
  refine ps_imp (ps_if hq ha hb) fun D σ H ⟨F0, H0, g, en, F, s, r, s', g', L, o, ev, bh⟩ => ?_
  obtain ⟨d, s1, e1, e2⟩ := bnd_some ev
  obtain ⟨t, e3, e4⟩ := bnd_lift e2
  obtain ⟨F1, L1, sm⟩ := L.freeze (lkB q)
  have ho : ∃ ga gb, ownL (drp g (lkB q)) a = some ga ∧ ownL (drp g (lkB q)) b = some gb ∧ g' = meet ga gb := by
    have o2 : (match ownL (drp g (lkB q)) a, ownL (drp g (lkB q)) b with
      | some ga, some gb => some (meet ga gb)
      | _, _ => none) = some g' := by simpa [own] using o
    split at o2
    · rename_i ga gb h1 h2
      exact ⟨ga, gb, h1, h2, (Option.some.inj o2).symm⟩
    · cases o2
  obtain ⟨ga, gb, oa, ob, rfl⟩ := ho
  refine oneT L1.R (off_drp _ _) e1 e3 fun F2 H2 f => ?_
  have fin : ∀ {gx : List Nat}, (∀ i ∈ meet ga gb, i ∈ gx) → Bh G F0 H0 F2 gx r s' D := fun {gx} hs => by
    cases r with
    | next en2 =>
      intro σ2 F3 H3 sm3 L3
      obtain ⟨F4, L4, sm4⟩ := L3.less hs
      exact bh σ2 F4 H3 (((sm.trans f.fr).trans sm3).trans sm4) L4
    | ret d => exact bh
  cases t with
  | true =>
    rw [if_pos rfl] at e4 ⊢
    exact ⟨F0, H0, _, en, F2, s1, r, s', ga, L1.step f, oa, e4, fin fun i hi => (mem_meet.mp hi).1⟩
  | false =>
    rw [if_neg Bool.false_ne_true] at e4 ⊢
    exact ⟨F0, H0, _, en, F2, s1, r, s', gb, L1.step f, ob, e4, fin fun i hi => (mem_meet.mp hi).2⟩
end
end Fz
/-! FzJ: statements that store; loops. -/
namespace Fz
open PySem PySem.Spec PyProof.Rows L2
mutual
theorem tgSet_out : ∀ (t : Tg) (d : D) (en en2 : En), tgSet t d en = some en2 → ∀ i, i ∉ t.slots → en2.getD i none = en.getD i none
  | .name j, d, en, en2, h, i, hi => by
    have e : en.set j (some d) = en2 := by simpa [tgSet] using h
    have n : i ≠ j := by simpa [Tg.slots] using hi
    rw [← e, List.getD_eq_getElem?_getD, List.getElem?_set_ne (Ne.symm n), ← List.getD_eq_getElem?_getD]
  | .tup ts, d, en, en2, h, i, hi => by
    cases d with
    | tuple ds => exact tgSets_out ts ds en en2 (by simpa [tgSet] using h) i hi
    | list ds => exact tgSets_out ts ds en en2 (by simpa [tgSet] using h) i hi
    | _ => simp [tgSet] at h
theorem tgSets_out : ∀ (ts : List Tg) (ds : List D) (en en2 : En), tgSets ts ds en = some en2 → ∀ i, i ∉ Tg.slots.slotsL ts → en2.getD i none = en.getD i none
  | [], ds, en, en2, h, i, hi => by
    cases ds with
    | nil =>
      have e : en = en2 := by simpa [tgSets] using h
      rw [e]
    | cons _ _ => simp [tgSets] at h
  | t :: ts, ds, en, en2, h, i, hi => by
    cases ds with
    | nil => simp [tgSets] at h
    | cons d ds =>
      obtain ⟨ea, q1, q2⟩ := Option.bind_eq_some_iff.mp (show (tgSet t d en).bind (fun x => tgSets ts ds x) = some en2 by simpa [tgSets] using h)
      have hi2 : i ∉ t.slots ∧ i ∉ Tg.slots.slotsL ts := by simpa [Tg.slots.slotsL] using hi
      rw [tgSets_out ts ds ea en2 q2 i hi2.2, tgSet_out t d en ea q1 i hi2.1]
end
theorem wipe_slots {σ σ2 : L2.St} {l : List Nat} (h : ∀ vs : List Nat, (∀ i ∈ l, i ∈ vs) → wipe σ2 vs = wipe σ vs) : ∀ i, i ∉ l → σ2[i]? = σ[i]? := fun i hi => by
  have := h l fun _ z => z
  rw [← wipe_out (σ := σ2) hi, ← wipe_out (σ := σ) hi, this]
section
variable {X : Cx} {G : Gx}
theorem V_to_N {e : E} {σ : L2.St} {H : Hp} {Q : VK} (h : RdV G e σ H Q) : RdN G e σ H Q := by
  obtain ⟨g, en, F, s, d, s', R, o, he, k⟩ := h
  refine ⟨g, en, F, s, d, s', R, o, he, fun x F' H' f hn => ?_⟩
  obtain ⟨F2, f2, r⟩ := hn.freeze f
  exact k x F2 H' f2 r
/-- t = e -/
theorem okS_asg {t : Tg} {e : E} {te : TE} {tgx : TG} {st : Stmt} (h : PS X st (tAsg te tgx)) (hv : ∀ σ H Q, RdV G e σ H Q → te σ H Q) (hg : ∀ v σ H Q, RdG G t v σ H Q → tgx v σ H Q) : PS X st (RdS G (.asg t e)) := by
  refine ps_imp h fun D σ H ⟨F0, H0, g, en, F, s, r, s', g', L, o, ev, b⟩ => hv _ _ _ ?_
  obtain ⟨d, s1, e1, e2⟩ := bnd_some ev
  obtain ⟨en2, e3, e4⟩ := bnd_lift e2
  obtain ⟨rfl, rfl⟩ := ret_some e4
  have o : drp (drp g (lk e)) t.slots = g' := by simpa [own] using o
  subst o
  obtain ⟨F1, L1, sm⟩ := L.freeze (lk e)
  refine ⟨_, en, F1, s, d, s', L1.R, off_drp _ _, e1, fun x F2 H2 f rx => hg _ _ _ _ ?_⟩
  have L2 := L1.step f
  exact ⟨_, en, F2, s', d, en2, L2.R, rx, e3, fun σ2 R2 w2 => b σ2 F2 H2 (sm.trans f.fr) (L2.tgs R2 (tgSet_out t d en en2 e3) (wipe_slots w2))⟩
theorem gName_of {i : Nat} {v : V} {σ : L2.St} {H : Hp} {Q : L2.St → Hp → Prop} (h : RdG G (.name i) v σ H Q) : gName i v σ H Q := by
  obtain ⟨g, en, F, s, d, en2, R, r, e, k⟩ := h
  have e2 : en.set i (some d) = en2 := by simpa [tgSet] using e
  subst e2
  exact k _ ((R.setF (i := i) r).congr fun j => by simp [Tg.slots, List.mem_filter]) fun vs hv => wipe_set (hv i (by simp [Tg.slots]))
/-- name = a new list, one's own -/
theorem okS_new {i : Nat} {e : E} {te : TE} {st : Stmt} (h : PS X st (tAsg te (gName i))) (hv : ∀ σ H Q, RdN G e σ H Q → te σ H Q) : PS X st (RdS G (.new i e)) := by
  refine ps_imp h fun D σ H ⟨F0, H0, g, en, F, s, r, s', g', L, o, ev, b⟩ => hv _ _ _ ?_
  obtain ⟨d, s1, e1, e2⟩ := bnd_some ev
  cases d with
  | list ds =>
    obtain ⟨rfl, rfl⟩ := ret_some e2
    have o : i :: drp (drp g (lk e)) [i] = g' := by
      have o2 : (if fresh e = true then some (i :: drp (drp g (lk e)) [i]) else none) = some g' := by simpa [own] using o
      exact (if_some o2).2
    subst o
    obtain ⟨F1, L1, sm⟩ := L.freeze (lk e)
    refine ⟨_, en, F1, s, _, s', L1.R, off_drp _ _, e1, fun x F2 H2 f rx => ?_⟩
    obtain ⟨p, vs, rfl, hp, fp, hl, ra⟩ := rx
    have L2 := L1.step f
    have h0 : H0 p = none := L1.W.noneBack hp
    have ns : p ≠ G.sp := fun z => by rw [z, L1.R.src.1] at hp; cases hp
    have nc : p ≠ G.cc := fun z => by rw [z, L1.R.src.2] at hp; cases hp
    have old : ∀ j, j ≠ i → (en.set i (some (PyData.list ds))).getD j none = en.getD j none := fun j hj => by
      rw [List.getD_eq_getElem?_getD, List.getElem?_set_ne (Ne.symm hj), ← List.getD_eq_getElem?_getD]
    have olds : ∀ j, j ≠ i → (σ.set i (some (V.ref p)))[j]? = σ[j]? := fun j hj => by rw [List.getElem?_set_ne (Ne.symm hj)]
    have here : ∀ x, (en.set i (some (PyData.list ds))).getD i none = some x → x = .list ds ∧ i < σ.length := fun x hx => by
      by_cases hl : i < en.length
      · rw [List.getD_eq_getElem?_getD, List.getElem?_set_self hl] at hx
        cases hx; exact ⟨rfl, L1.R.len ▸ hl⟩
      · rw [List.getD_eq_getElem?_getD, List.getElem?_eq_none (by rw [List.length_set]; omega)] at hx; cases hx
    -- an elder list of one's own stands elsewhere
    have elder : ∀ j a, j ∈ drp (drp g (lk e)) [i] → en.getD j none ≠ none → σ[j]? = some (some (.ref a)) → a ≠ p := fun j a hj hn hs hz => by
      cases q : en.getD j none with
      | none => exact hn q
      | some d2 =>
        obtain ⟨a2, vs2, ds2, _, k1, k2, _⟩ := L1.R.own j (mem_drp.mp hj).1 d2 q
        rw [hs] at k1
        cases k1
        rw [hz, hp] at k2
        cases k2
    refine b _ F2 H2 (sm.trans f.fr) ⟨⟨L2.R.sub, L2.R.src, L2.R.fsp, L2.R.fcc, by simpa using L2.R.len, fun j d2 ej nj => ?_, fun j hj d2 ej => ?_, fun j k a hj hk ej ek sj sk => ?_⟩, L2.W, fun j a hj ej sj => ?_⟩
    · have hji : j ≠ i := fun z => nj (by rw [z]; exact List.mem_cons_self ..)
      rw [old j hji] at ej
      rw [olds j hji]
      exact L2.R.val j d2 ej fun q => nj (List.mem_cons_of_mem _ (mem_drp.mpr ⟨q, by simpa using hji⟩))
    · by_cases hji : j = i
      · subst hji
        obtain ⟨rfl, hlt⟩ := here d2 ej
        exact ⟨p, vs, ds, rfl, List.getElem?_set_self hlt, hl, fp, ra, ns, nc⟩
      · rw [old j hji] at ej
        rw [olds j hji]
        exact L2.R.own j (by
          rcases List.mem_cons.mp hj with z | z
          · exact absurd z hji
          · exact (mem_drp.mp z).1) d2 ej
    · by_cases hji : j = i
      · by_cases hki : k = i
        · rw [hji, hki]
        · exfalso
          have hk2 : k ∈ drp (drp g (lk e)) [i] := (List.mem_cons.mp hk).resolve_left hki
          rw [old k hki] at ek
          rw [olds k hki] at sk
          have hlt : i < σ.length := by
            subst hji
            cases q : (en.set j (some (PyData.list ds))).getD j none with
            | none => exact absurd q ej
            | some x => exact (here x q).2
          rw [hji, List.getElem?_set_self hlt] at sj
          cases sj
          exact elder k p hk2 ek sk rfl
      · by_cases hki : k = i
        · exfalso
          have hj2 : j ∈ drp (drp g (lk e)) [i] := (List.mem_cons.mp hj).resolve_left hji
          rw [old j hji] at ej
          rw [olds j hji] at sj
          have hlt : i < σ.length := by
            subst hki
            cases q : (en.set k (some (PyData.list ds))).getD k none with
            | none => exact absurd q ek
            | some x => exact (here x q).2
          rw [hki, List.getElem?_set_self hlt] at sk
          cases sk
          exact elder j p hj2 ej sj rfl
        · rw [old j hji] at ej
          rw [olds j hji] at sj
          rw [old k hki] at ek
          rw [olds k hki] at sk
          exact L2.R.dis j k a ((mem_drp.mp ((List.mem_cons.mp hj).resolve_left hji)).1) ((mem_drp.mp ((List.mem_cons.mp hk).resolve_left hki)).1) ej ek sj sk
    · by_cases hji : j = i
      · have hlt : i < σ.length := by
          subst hji
          cases q : (en.set j (some (PyData.list ds))).getD j none with
          | none => exact absurd q ej
          | some x => exact (here x q).2
        rw [hji, List.getElem?_set_self hlt] at sj
        cases sj
        exact h0
      · rw [old j hji] at ej
        rw [olds j hji] at sj
        exact L2.O j a ((mem_drp.mp ((List.mem_cons.mp hj).resolve_left hji)).1) ej sj
  | _ => cases e2
/-- one's own list is changed -/
theorem Ls.mut {K : PySem.W.Frag} {sp cc : Addr} {F0 H0 F H : Hp} {g : List Nat} {en : En} {σ : L2.St} {s : Src} (L : Ls K sp cc F0 H0 g en σ F H s) {i : Nat} (hi : i ∈ g) {ds : List D} (e : en.getD i none = some (.list ds)) {a : Addr} (hs : σ[i]? = some (some (.ref a)))
    {vs : List V} (hl : H a = some (.lst vs)) (hF : F a = none) (n1 : a ≠ sp) (n2 : a ≠ cc) {vs' : List V} {ds' : List D} (ra : RpA K sp F vs' ds') : Ls K sp cc F0 H0 g (en.set i (some (.list ds'))) σ F (upd H a (.lst vs')) s := by
  have hlt : i < en.length := by
    rcases Nat.lt_or_ge i en.length with h | h
    · exact h
    · rw [List.getD_eq_getElem?_getD, List.getElem?_eq_none h] at e; cases e
  have old : ∀ j, j ≠ i → (en.set i (some (PyData.list ds'))).getD j none = en.getD j none := fun j hj => by
    rw [List.getD_eq_getElem?_getD, List.getElem?_set_ne (Ne.symm hj), ← List.getD_eq_getElem?_getD]
  have here : (en.set i (some (PyData.list ds'))).getD i none = some (.list ds') := by
    rw [List.getD_eq_getElem?_getD, List.getElem?_set_self hlt]; rfl
  have h0 := L.O i a hi (by rw [e]; simp) hs
  have W := L.W.mutD (o := .lst vs') h0 hF n1 n2
  have dom : ∀ j, (en.set i (some (PyData.list ds'))).getD j none ≠ none → en.getD j none ≠ none := fun j h => by
    by_cases hj : j = i
    · rw [hj, e]; simp
    · rw [old j hj] at h; exact h
  refine ⟨⟨W.sub, W.src, L.R.fsp, L.R.fcc, by simpa using L.R.len, fun j d ej nj => ?_, fun j hj d ej => ?_, fun j k b hj hk ej ek => L.R.dis j k b hj hk (dom j ej) (dom k ek)⟩, W, fun j b hj ej => L.O j b hj (dom j ej)⟩
  · have hji : j ≠ i := fun z => nj (z ▸ hi)
    rw [old j hji] at ej
    exact L.R.val j d ej nj
  · by_cases hji : j = i
    · subst hji
      rw [here] at ej
      cases ej
      exact ⟨a, vs', ds', rfl, hs, upd_same, hF, ra, n1, n2⟩
    · rw [old j hji] at ej
      obtain ⟨b, us, es, rfl, k1, k2, k3, k4, k5, k6⟩ := L.R.own j hj d ej
      have nb : b ≠ a := fun z => hji (L.R.dis j i a hj hi (by rw [ej]; simp) (by rw [e]; simp) (z ▸ k1) hs)
      exact ⟨b, us, es, rfl, k1, by rw [upd_ne nb]; exact k2, k3, k4, k5, k6⟩
end
end Fz
/-! FzK: several names at once, lists changed in place, loops. -/
namespace Fz
open PySem PySem.Spec PyProof.Rows L2
section
variable {X : Cx} {G : Gx}
theorem setF_tgs {g : List Nat} {en : En} {σ : L2.St} {F0 H0 F H : Hp} {s : Src} (L : Ls G.K G.sp G.cc F0 H0 g en σ F H s) {i : Nat} {x : V} {d : D} (r : Rp G.K G.sp F x d) : Ls G.K G.sp G.cc F0 H0 (drp g [i]) (en.set i (some d)) (σ.set i (some x)) F H s := by
  have R := (L.R.setF (i := i) r).congr (g' := g.filter fun j => !([i] : List Nat).contains j) fun j => by simp [List.mem_filter]
  refine L.tgs R (fun j hj => ?_) fun j hj => ?_
  · have n : j ≠ i := by simpa using hj
    rw [List.getD_eq_getElem?_getD, List.getElem?_set_ne (Ne.symm n), ← List.getD_eq_getElem?_getD]
  · have n : j ≠ i := by simpa using hj
    rw [List.getElem?_set_ne (Ne.symm n)]
/-- x, y = a, b -/
theorem okS_par2 {i j : Nat} {es : List E} {st : Stmt} {ta : TA} (h : PS X st (tPar i j ta)) (hv : ∀ σ H Q, RdL G es σ H Q → ta σ H Q) : PS X st (RdS G (.par [i, j] es)) := by
  refine ps_imp h fun D σ H ⟨F0, H0, g, en, F, s, r, s', g', L, o, ev, b⟩ => hv _ _ _ ?_
  obtain ⟨ds, s1, e1, e2⟩ := bnd_some ev
  obtain ⟨en2, e3, e4⟩ := bnd_lift e2
  obtain ⟨rfl, rfl⟩ := ret_some e4
  have o : drp (drp g (lkL es)) [i, j] = g' := by simpa [own] using o
  subst o
  obtain ⟨F1, L1, sm⟩ := L.freeze (lkL es)
  refine ⟨_, en, F1, s, ds, s', L1.R, off_drp _ _, e1, fun xs F2 H2 f rx => ?_⟩
  match ds, xs, rx, e3 with
  | [d1, d2], _, .cons (v := v1) r1 (.cons (v := v2) r2 .nil), e3 =>
    have e4 : (en.set i (some d1)).set j (some d2) = en2 := Option.some.inj e3
    subst e4
    refine ⟨v1, v2, rfl, b _ F2 H2 (sm.trans f.fr) ((setF_tgs (setF_tgs (L1.step f) r1) r2).congr fun k => ?_)⟩
    simp only [mem_drp, List.mem_cons, List.not_mem_nil, or_false, not_or]
    constructor
    · rintro ⟨⟨a, b⟩, c⟩; exact ⟨a, b, c⟩
    · rintro ⟨a, b, c⟩; exact ⟨⟨a, b⟩, c⟩
  | [], _, _, e3 => cases e3
  | [_], _, _, e3 => cases e3
  | _ :: _ :: _ :: _, _, _, e3 => cases e3
theorem okS_par3 {i j l : Nat} {es : List E} {st : Stmt} {ta : TA} (h : PS X st (tPar3 i j l ta)) (hv : ∀ σ H Q, RdL G es σ H Q → ta σ H Q) : PS X st (RdS G (.par [i, j, l] es)) := by
  refine ps_imp h fun D σ H ⟨F0, H0, g, en, F, s, r, s', g', L, o, ev, b⟩ => hv _ _ _ ?_
  obtain ⟨ds, s1, e1, e2⟩ := bnd_some ev
  obtain ⟨en2, e3, e4⟩ := bnd_lift e2
  obtain ⟨rfl, rfl⟩ := ret_some e4
  have o : drp (drp g (lkL es)) [i, j, l] = g' := by simpa [own] using o
  subst o
  obtain ⟨F1, L1, sm⟩ := L.freeze (lkL es)
  refine ⟨_, en, F1, s, ds, s', L1.R, off_drp _ _, e1, fun xs F2 H2 f rx => ?_⟩
  match ds, xs, rx, e3 with
  | [d1, d2, d3], _, .cons (v := v1) r1 (.cons (v := v2) r2 (.cons (v := v3) r3 .nil)), e3 =>
    have e4 : ((en.set i (some d1)).set j (some d2)).set l (some d3) = en2 := Option.some.inj e3
    subst e4
    refine ⟨v1, v2, v3, rfl, b _ F2 H2 (sm.trans f.fr) ((setF_tgs (setF_tgs (setF_tgs (L1.step f) r1) r2) r3).congr fun k => ?_)⟩
    simp only [mem_drp, List.mem_cons, List.not_mem_nil, or_false, not_or]
    constructor
    · rintro ⟨⟨⟨a, b⟩, c⟩, d⟩; exact ⟨a, b, c, d⟩
    · rintro ⟨a, b, c, d⟩; exact ⟨⟨⟨a, b⟩, c⟩, d⟩
  | [], _, _, e3 => cases e3
  | [_], _, _, e3 => cases e3
  | [_, _], _, _, e3 => cases e3
  | _ :: _ :: _ :: _ :: _, _, _, e3 => cases e3
theorem lstAt_some {en : En} {i : Nat} {ds : List D} (h : lstAt en i = some ds) : en.getD i none = some (.list ds) := by
  unfold lstAt at h
  split at h
  · rename_i xs e; rw [e]; cases h; rfl
  · cases h
/-- one's own list as it stands -/
theorem Ls.at {g : List Nat} {en : En} {σ : L2.St} {F0 H0 F H : Hp} {s : Src} (L : Ls G.K G.sp G.cc F0 H0 g en σ F H s) {i : Nat} (hi : i ∈ g) {ds : List D} (h : lstAt en i = some ds) :
    ∃ a vs, en.getD i none = some (.list ds) ∧ σ[i]? = some (some (.ref a)) ∧ H a = some (.lst vs) ∧ F a = none ∧ RpA G.K G.sp F vs ds ∧ a ≠ G.sp ∧ a ≠ G.cc := by
  have e := lstAt_some h
  obtain ⟨a, vs, ds2, e2, h1, h2, h3, h4, h5, h6⟩ := L.R.own i hi _ e
  cases e2
  exact ⟨a, vs, e, h1, h2, h3, h4, h5, h6⟩
theorem okS_app {i : Nat} {e : E} {x : Str} {ex : Expr} {p apos cpos pos : Pos} (hN : X.N[i]? = some x) (hv : Vis X.env.scope x) (hd : (x == ("__debug__" : Str)) = false) (hcd : (x == ("__classdict__" : Str)) = false) (hs : isStarX ex = false) (hline : (apos.endLine == cpos.line) = true)
    (he : PE X ex (RdV G e)) : PS X (.Expr (.Call (.Attribute (.Name x p) "append" apos) [ex] [] cpos) pos) (RdS G (.app i e)) := by
  have pe := pe_bm (cpos := cpos) (apos := apos) PySem.F.plainAttrs_list PySem.F.slot_list_append PySem.F.type_list_append mt_append (pe_var (pos := p) hN hv hd hcd) (pa_cons he pa_nil (starEach_no hs _ _)) (by rfl) (by rw [starEach_no hs]; rfl) hline (starEach_no hs _ _) (by rfl)
  refine ps_imp (ps_expr pe) fun D σ H ⟨F0, H0, g, en, F, s, r, s', g', L, o, ev, b⟩ => ?_
  obtain ⟨d, s1, e1, e2⟩ := bnd_some ev
  obtain ⟨ds, e3, e4⟩ := bnd_lift e2
  have o2 : (if (drp g (lk e)).contains i = true then some (drp g (lk e)) else none) = some g' := by simpa [own] using o
  obtain ⟨hi, rfl⟩ := if_some o2
  have hi : i ∈ drp g (lk e) := by simpa using hi
  have sz : small (ds.length + 1) = true ∧ (r, s') = (Rs.next (en.set i (some (.list (ds ++ [d])))), s1) := by
    by_cases q : small (ds.length + 1) = true
    · refine ⟨q, ?_⟩
      have e5 : (if small (ds.length + 1) = true then ret (Rs.next (en.set i (some (.list (ds ++ [d]))))) else fun _ => none) s1 = some (r, s') := e4
      rw [if_pos q] at e5
      exact (Option.some.inj e5).symm
    · have e5 : (if small (ds.length + 1) = true then ret (Rs.next (en.set i (some (.list (ds ++ [d]))))) else fun _ => none) s1 = some (r, s') := e4
      rw [if_neg q] at e5; cases e5
  obtain ⟨hsz, er⟩ := sz
  cases er
  obtain ⟨F1, L1, sm⟩ := L.freeze (lk e)
  obtain ⟨a, vs, k1, k2, k3, k4, k5, k6, k7⟩ := L1.at hi e3
  refine ⟨.ref a, k2, .inl ⟨rfl, _, SqL.of k3⟩, _, en, F1, s, d, _, L1.R, off_drp _ _, e1, fun y F2 H2 f ry => ?_⟩
  have L2 := L1.step f
  have k8 := f.keep _ _ k3 k6 k7
  have k9 := f.new _ k4 (nt_of k3 nofun)
  refine ⟨a, vs, y, rfl, rfl, k8, ?_, b σ F2 _ (sm.trans f.fr) (L2.mut hi k1 k2 k8 k9 k6 k7 ((k5.mono f.fr).append (.cons ry .nil)))⟩
  have := small_lt hsz
  rw [k5.length]; omega
theorem okS_ext {i : Nat} {e : E} {x : Str} {ex : Expr} {p apos cpos pos : Pos} (hN : X.N[i]? = some x) (hv : Vis X.env.scope x) (hd : (x == ("__debug__" : Str)) = false) (hcd : (x == ("__classdict__" : Str)) = false) (hs : isStarX ex = false) (hline : (apos.endLine == cpos.line) = true)
    (he : PE X ex (RdB G e)) : PS X (.Expr (.Call (.Attribute (.Name x p) "extend" apos) [ex] [] cpos) pos) (RdS G (.ext i e)) := by
  have pe := pe_bm (cpos := cpos) (apos := apos) PySem.F.plainAttrs_list PySem.F.slot_list_extend PySem.F.type_list_extend mt_extend (pe_var (pos := p) hN hv hd hcd) (pa_cons he pa_nil (starEach_no hs _ _)) (by rfl) (by rw [starEach_no hs]; rfl) hline (starEach_no hs _ _) (by rfl)
  refine ps_imp (ps_expr pe) fun D σ H ⟨F0, H0, g, en, F, s, r, s', g', L, o, ev, b⟩ => ?_
  obtain ⟨d, s1, e1, e2⟩ := bnd_some ev
  obtain ⟨ds, e3, e4⟩ := bnd_lift e2
  have o2 : (if (drp g (lkB e)).contains i = true then some (drp g (lkB e)) else none) = some g' := by simpa [own] using o
  obtain ⟨hi, rfl⟩ := if_some o2
  have hi : i ∈ drp g (lkB e) := by simpa using hi
  cases d with
  | list ys =>
    have sz : small (ds.length + ys.length) = true ∧ (r, s') = (Rs.next (en.set i (some (.list (ds ++ ys)))), s1) := by
      by_cases q : small (ds.length + ys.length) = true
      · refine ⟨q, ?_⟩
        have e5 : (if small (ds.length + ys.length) = true then ret (Rs.next (en.set i (some (.list (ds ++ ys))))) else fun _ => none) s1 = some (r, s') := e4
        rw [if_pos q] at e5
        exact (Option.some.inj e5).symm
      · have e5 : (if small (ds.length + ys.length) = true then ret (Rs.next (en.set i (some (.list (ds ++ ys))))) else fun _ => none) s1 = some (r, s') := e4
        rw [if_neg q] at e5; cases e5
    obtain ⟨hsz, er⟩ := sz
    cases er
    obtain ⟨F1, L1, sm⟩ := L.freeze (lkB e)
    obtain ⟨a, vs, k1, k2, k3, k4, k5, k6, k7⟩ := L1.at hi e3
    refine ⟨.ref a, k2, .inl ⟨rfl, _, SqL.of k3⟩, _, en, F1, s, _, _, L1.R, off_drp _ _, e1, fun y F2 H2 f ry => ?_⟩
    have L2 := L1.step f
    have k8 := f.keep _ _ k3 k6 k7
    have k9 := f.new _ k4 (nt_of k3 nofun)
    obtain ⟨q, us, rfl, m1, m2, m3, m4⟩ := ry
    refine ⟨a, q, vs, us, rfl, rfl, k8, m1, ?_, b σ F2 _ (sm.trans f.fr) (L2.mut hi k1 k2 k8 k9 k6 k7 ((k5.mono f.fr).append m4))⟩
    rw [k5.length, m4.length]
    exact small_le hsz
  | _ => cases e4
theorem okS_set {i : Nat} {k e : E} {x : Str} {kx ex : Expr} {p p2 pos : Pos} (hN : X.N[i]? = some x) (hv : Vis X.env.scope x) (hd : (x == ("__debug__" : Str)) = false) (hcd : (x == ("__classdict__" : Str)) = false) (hsl : isSliceX kx = false)
    (he : PE X ex (RdV G e)) (hk : PE X kx (RdB G k)) (hs : swapsWithSole [.Subscript (.Name x p) kx p2] ex pos.line X.env = pure false) (hw : swappedStores [.Subscript (.Name x p) kx p2] ex X.env = pure none) : PS X (.Assign [.Subscript (.Name x p) kx p2] ex pos) (RdS G (.set i k e)) := by
  have pg : PG X (.Subscript (.Name x p) kx p2) (gSub (tVar i) (RdB G k) rSetL) := pg_sub (pe_var hN hv hd hcd) hk set_list (by intro v; cases kx <;> first | rfl | cases hsl)
  refine ps_imp (ps_asg he pg hs hw (by rfl)) fun D σ H ⟨F0, H0, g, en, F, s, r, s', g', L, o, ev, b⟩ => ?_
  obtain ⟨d, s1, e1, e2⟩ := bnd_some ev
  obtain ⟨kd, s2, e3, e4⟩ := bnd_some e2
  obtain ⟨ds, e5, e6⟩ := bnd_lift e4
  have o2 : (if (drp g (lk e ++ lkB k)).contains i = true then some (drp g (lk e ++ lkB k)) else none) = some g' := by simpa [own] using o
  obtain ⟨hi, rfl⟩ := if_some o2
  have hi : i ∈ drp g (lk e ++ lkB k) := by simpa using hi
  cases kd with
  | int z =>
    have ex2 : ∃ j, ixN ds.length z = some j ∧ (r, s') = (Rs.next (en.set i (some (.list (ds.set j d)))), s2) := by
      have e7 : (match ixN ds.length z with
        | some j => ret (Rs.next (en.set i (some (.list (ds.set j d)))))
        | none => fun _ => none) s2 = some (r, s') := e6
      cases q : ixN ds.length z with
      | none => rw [q] at e7; cases e7
      | some j => rw [q] at e7; exact ⟨j, rfl, (Option.some.inj e7).symm⟩
    obtain ⟨j, hj, er⟩ := ex2
    cases er
    obtain ⟨F1, L1, sm⟩ := L.freeze (lk e ++ lkB k)
    have off := off_drp g (lk e ++ lkB k)
    refine ⟨_, en, F1, s, d, s1, L1.R, off.l, e1, fun y F2 H2 f ry => ?_⟩
    have L2 := L1.step f
    obtain ⟨a, vs, k1, k2, k3, k4, k5, k6, k7⟩ := L2.at hi e5
    refine ⟨.ref a, k2, _, en, F2, s1, _, _, L2.R, off.r, e3, fun w F3 H3 f3 rw' => ?_⟩
    have L3 := L2.step f3
    have k8 := f3.keep _ _ k3 k6 k7
    have k9 := f3.new _ k4 (nt_of k3 nofun)
    exact ⟨a, vs, z, j, rfl, rw'.int, k8, by rw [k5.length]; exact hj, b σ F3 _ ((sm.trans f.fr).trans f3.fr) (L3.mut hi k1 k2 k8 k9 k6 k7 (RpA.set (ry.mono f3.fr) j (k5.mono f3.fr)))⟩
  | _ => cases e6
theorem okS_aug {i : Nat} {op : O2} {e : E} {x : Str} {ex : Expr} {p pos : Pos} (hN : X.N.Nodup) (hi : X.N[i]? = some x) (hx : Loc X.env.scope x) (hf : X.fn x = true ∨ X.env.scope.names.lookup x = some .local) (ho : op = .add ∨ op = .sub) (he : PE X ex (RdB G e)) :
    PS X (.AugAssign (.Name x p) op.op ex pos) (RdS G (.aug i op e)) := by
  have ip : PIp X op.op (ipI fun i j => if op = .add then i + j else i - j) := by
    rcases ho with rfl | rfl
    · exact ip_add
    · exact ip_sub
  refine ps_imp (ps_aug hN hi hx he ip hf) fun D σ H ⟨F0, H0, g, en, F, s, r, s', g', L, o, ev, b⟩ => ?_
  obtain ⟨d1, e1, e2⟩ := bnd_lift ev
  obtain ⟨d2, s1, e3, e4⟩ := bnd_some e2
  obtain ⟨d3, e5, e6⟩ := bnd_lift e4
  obtain ⟨rfl, rfl⟩ := ret_some e6
  have o2 : drp (drp g (lkB e)) [i] = g' := by simpa [own] using o
  subst o2
  have shape : ∃ m n, d1 = .int m ∧ d2 = .int n ∧ d3 = .int (if op = .add then m + n else m - n) := by
    rcases ho with rfl | rfl
    · cases d1 <;> cases d2 <;> first | cases e5 | skip
      exact ⟨_, _, rfl, rfl, by rw [if_pos rfl]⟩
    · cases d1 <;> cases d2 <;> first | cases e5 | skip
      exact ⟨_, _, rfl, rfl, by rw [if_neg (by decide)]⟩
  obtain ⟨m, n, rfl, rfl, rfl⟩ := shape
  obtain ⟨F1, L1, sm⟩ := L.freeze (lkB e)
  have hv : σ[i]? = some (some (.int m)) := by
    by_cases hi2 : i ∈ g
    · obtain ⟨_, _, _, e7, _⟩ := L.R.own i hi2 _ e1
      cases e7
    · obtain ⟨v, h1, h2⟩ := L.R.val i _ e1 hi2
      rw [h2.int'] at h1
      exact h1
  refine ⟨_, hv, _, en, F1, s, _, s', L1.R, off_drp _ _, e3, fun y F2 H2 f ry => ?_⟩
  exact ⟨m, n, rfl, ry.int, b _ F2 H2 (sm.trans f.fr) (setF_tgs (L1.step f) (.int _))⟩
/-! ### loops -/
theorem okS_for {t : Tg} {it : E} {body : List S} {tx ix : Expr} {bx : List Stmt} {pos : Pos} (hx : X.xe = fun _ _ => False) (hc : X.calm = true) (hi : PI X tx ix (RdI G it)) (hg : PG X tx (RdG G t)) (hb : PSs X bx (RdSs G body)) (hs : ∀ x, foldedSetIterable ix X.env x = pure x) :
    PS X (.For tx ix bx [] pos) (RdS G (.for_ t it body)) := by
  refine ps_imp (ps_for (hx ▸ PassesOwn.never) hc hi hg hb hs) fun D σ H ⟨F0, H0, g, en, F, s, r, s', g', L, o, ev, b⟩ => ?_
  obtain ⟨d, s1, e1, e2⟩ := bnd_some ev
  obtain ⟨xs, e3, e4⟩ := bnd_lift e2
  -- what is one's own all through the loop
  have o2 : ∃ h, ownL (drp g' t.slots) body = some h ∧ (∀ i ∈ g', i ∈ drp g (lk it)) ∧ (∀ i ∈ g', i ∈ h) ∧ (∀ i ∈ g', i ∈ drp g' t.slots) := by
    rw [own] at o
    simp only at o
    split at o
    · rename_i h hh
      obtain ⟨q, rfl⟩ := if_some o
      simp only [Bool.and_eq_true] at q
      exact ⟨h, hh, subB_ok q.1.1, subB_ok q.1.2, subB_ok q.2⟩
    · cases o
  obtain ⟨h, oh, m1, m2, m3⟩ := o2
  obtain ⟨F1, L1, sm⟩ := L.freeze (lk it)
  have off := off_drp g (lk it)
  refine ⟨_, en, F1, s, d, xs, s1, L1.R, fun i hi => off i (lkB_sub it i hi), e1, e3, fun J F2 H2 Gd f wk gs _ => ?_⟩
  have gs := gs off
  have e4 : forL (fun d en2 => bnd (lift (tgSet t d en2)) fun en3 => exL G.v G.c body en3) xs en s1 = some (r, s') := e4
  refine for_it wk (fun i σi Hi => ∃ eni Fi si, Ls G.K G.sp G.cc F0 H0 g' eni σi Fi Hi si ∧ Same F2 Fi ∧ forL (fun d en2 => bnd (lift (tgSet t d en2)) fun en3 => exL G.v G.c body en3) (xs.drop i) eni si = some (r, s')) ?_ ?_ ?_ ?_
  · obtain ⟨F3, L3, sm3⟩ := (L1.step f).less m1
    exact ⟨en, F3, s1, L3, sm3, e4⟩
  · rintro i σi Hi _ ⟨eni, Fi, si, Li, smi, _⟩
    exact gs Hi (smi.trans Li.R.sub)
  · rintro i x σi Hi Hj hlt ⟨eni, Fi, si, Li, smi, ei⟩ ⟨d2, hd, hstep⟩
    obtain ⟨Fj, fj, rx⟩ := hstep Fi si smi Li.R.sub Li.R.src Li.R.fsp Li.R.fcc
    have hdrop : xs.drop i = d2 :: xs.drop (i + 1) := by
      obtain ⟨hl, e⟩ := List.getElem?_eq_some_iff.mp hd
      rw [List.drop_eq_getElem_cons hl, e]
    rw [hdrop] at ei
    obtain ⟨q, sa, q1, q2⟩ := bnd_some ei
    obtain ⟨en3, q3, q4⟩ := bnd_lift q1
    have Lj := Li.step fj
    refine ⟨g', eni, Fj, si, d2, en3, Lj.R, rx, q3, fun σ2 R2 w2 => ?_⟩
    have L3 := Lj.tgs R2 (tgSet_out t d2 eni en3 q3) (wipe_slots w2)
    refine ⟨F0, H0, _, en3, Fj, si, q, sa, h, L3, oh, q4, ?_⟩
    cases q with
    | next en4 =>
      intro σ4 F4 H4 sm4 L4
      obtain ⟨F5, L5, sm5⟩ := L4.less m2
      exact ⟨en4, F5, sa, L5, ((smi.trans fj.fr).trans sm4).trans sm5, q2⟩
    | ret d3 =>
      obtain ⟨rfl, rfl⟩ := ret_some q2
      exact b
  · rintro σi Hi ⟨eni, Fi, si, Li, smi, ei⟩
    rw [List.drop_length] at ei
    obtain ⟨rfl, rfl⟩ := ret_some ei
    exact b σi Fi Hi ((sm.trans f.fr).trans smi) Li
theorem okS_whl {q : E} {body : List S} {qx : Expr} {bx : List Stmt} {pos : Pos} (hx : X.xe = fun _ _ => False) (hq : PT X qx (RdT G q)) (hb : PSs X bx (RdSs G body)) : PS X (.While qx bx [] pos) (RdS G (.whl q body)) := by
  refine ps_imp (ps_while (hx ▸ PassesOwn.never) hq hb) fun D σ H ⟨F0, H0, g, en, F, s, r, s', g', L, o, ev, b⟩ => ?_
  have o2 : ∃ h, ownL g' body = some h ∧ (∀ i ∈ g', i ∈ g) ∧ (∀ i ∈ g', i ∈ h) ∧ Off g' (lkB q) := by
    rw [own] at o
    simp only at o
    split at o
    · rename_i h hh
      obtain ⟨z, rfl⟩ := if_some o
      simp only [Bool.and_eq_true] at z
      exact ⟨h, hh, subB_ok z.1, subB_ok z.2, off_drp _ _⟩
    · cases o
  obtain ⟨h, oh, m1, m2, off⟩ := o2
  obtain ⟨F1, L1, sm⟩ := L.less m1
  have ev : whlL (fun en2 => bnd (evE G.v G.c q en2) fun x => lift (truth x)) (fun en2 => exL G.v G.c body en2) wFuel en s = some (r, s') := ev
  refine ⟨fun n σi Hi => ∃ eni Fi si, Ls G.K G.sp G.cc F0 H0 g' eni σi Fi Hi si ∧ Same F Fi ∧ whlL (fun en2 => bnd (evE G.v G.c q en2) fun x => lift (truth x)) (fun en2 => exL G.v G.c body en2) n eni si = some (r, s'), ⟨_, en, F1, s, L1, sm, ev⟩, ?_⟩
  rintro n σi Hi ⟨eni, Fi, si, Li, smi, ei⟩
  cases n with
  | zero => cases ei
  | succ n =>
    obtain ⟨t, sa, q1, q2⟩ := bnd_some ei
    obtain ⟨d, sb, q3, q4⟩ := bnd_some q1
    obtain ⟨q5, rfl⟩ := lift_some q4
    refine oneT Li.R off q3 q5 fun F2 H2 f => ?_
    have L2 := Li.step f
    cases t with
    | true =>
      rw [if_pos rfl] at q2
      refine iteT ?_
      obtain ⟨q6, sc, q7, q8⟩ := bnd_some q2
      refine ⟨fun σ' H' => ∃ eni Fi si, Ls G.K G.sp G.cc F0 H0 g' eni σ' Fi H' si ∧ Same F Fi ∧ whlL (fun en2 => bnd (evE G.v G.c q en2) fun x => lift (truth x)) (fun en2 => exL G.v G.c body en2) n eni si = some (r, s'),
        fun σ' H' hw => ⟨n, Nat.lt_succ_self n, hw⟩, F0, H0, g', eni, F2, sa, q6, sc, h, L2, oh, q7, ?_⟩
      cases q6 with
      | next en4 =>
        intro σ4 F4 H4 sm4 L4
        obtain ⟨F5, L5, sm5⟩ := L4.less m2
        exact ⟨en4, F5, sc, L5, ((smi.trans f.fr).trans sm4).trans sm5, q8⟩
      | ret d3 =>
        obtain ⟨rfl, rfl⟩ := ret_some q8
        exact b
    | false =>
      rw [if_neg Bool.false_ne_true] at q2
      refine iteF ?_
      obtain ⟨rfl, rfl⟩ := ret_some q2
      exact b σi F2 H2 (smi.trans f.fr) L2
end
end Fz
/-! FzKa: several names at once, new lists among the values. -/
namespace Fz
open PySem PySem.Spec PyProof.Rows L2
/-- a new list becomes one's own -/
theorem Ls.add {K : PySem.W.Frag} {sp cc : Addr} {F0 H0 F H : Hp} {g : List Nat} {en : En} {σ : L2.St} {s : Src} (L : Ls K sp cc F0 H0 g en σ F H s) {i : Nat} {p : Addr} {vs : List V} {ds : List D} (hl : H p = some (.lst vs)) (fp : F p = none) (ra : RpA K sp F vs ds) (ns : p ≠ sp) (nc : p ≠ cc) (h0 : H0 p = none)
    (elder : ∀ j a, j ∈ drp g [i] → en.getD j none ≠ none → σ[j]? = some (some (.ref a)) → a ≠ p) : Ls K sp cc F0 H0 (i :: drp g [i]) (en.set i (some (.list ds))) (σ.set i (some (.ref p))) F H s := by
  have old : ∀ j, j ≠ i → (en.set i (some (PyData.list ds))).getD j none = en.getD j none := fun j hj => by
    rw [List.getD_eq_getElem?_getD, List.getElem?_set_ne (Ne.symm hj), ← List.getD_eq_getElem?_getD]
  have olds : ∀ j, j ≠ i → (σ.set i (some (V.ref p)))[j]? = σ[j]? := fun j hj => by rw [List.getElem?_set_ne (Ne.symm hj)]
  have here : ∀ x, (en.set i (some (PyData.list ds))).getD i none = some x → x = .list ds ∧ i < σ.length := fun x hx => by
    by_cases hl : i < en.length
    · rw [List.getD_eq_getElem?_getD, List.getElem?_set_self hl] at hx
      cases hx; exact ⟨rfl, L.R.len ▸ hl⟩
    · rw [List.getD_eq_getElem?_getD, List.getElem?_eq_none (by rw [List.length_set]; omega)] at hx; cases hx
  have at_ : (en.set i (some (PyData.list ds))).getD i none ≠ none → (σ.set i (some (V.ref p)))[i]? = some (some (.ref p)) := fun h => by
    cases q : (en.set i (some (PyData.list ds))).getD i none with
    | none => exact absurd q h
    | some x => exact List.getElem?_set_self (here x q).2
  have inn : ∀ {j : Nat}, j ∈ i :: drp g [i] → j ≠ i → j ∈ drp g [i] := fun h n => (List.mem_cons.mp h).resolve_left n
  refine ⟨⟨L.R.sub, L.R.src, L.R.fsp, L.R.fcc, by simpa using L.R.len, fun j d2 ej nj => ?_, fun j hj d2 ej => ?_, fun j k a hj hk ej ek sj sk => ?_⟩, L.W, fun j a hj ej sj => ?_⟩
  · have hji : j ≠ i := fun z => nj (by rw [z]; exact List.mem_cons_self ..)
    rw [old j hji] at ej
    rw [olds j hji]
    exact L.R.val j d2 ej fun q => nj (List.mem_cons_of_mem _ (mem_drp.mpr ⟨q, by simpa using hji⟩))
  · by_cases hji : j = i
    · subst hji
      obtain ⟨rfl, hlt⟩ := here d2 ej
      exact ⟨p, vs, ds, rfl, List.getElem?_set_self hlt, hl, fp, ra, ns, nc⟩
    · rw [old j hji] at ej
      rw [olds j hji]
      exact L.R.own j (mem_drp.mp (inn hj hji)).1 d2 ej
  · by_cases hji : j = i
    · by_cases hki : k = i
      · rw [hji, hki]
      · exfalso
        subst hji
        have e := at_ ej
        rw [sj] at e
        cases e
        rw [old k hki] at ek
        rw [olds k hki] at sk
        exact elder k p (inn hk hki) ek sk rfl
    · by_cases hki : k = i
      · exfalso
        subst hki
        have e := at_ ek
        rw [sk] at e
        cases e
        rw [old j hji] at ej
        rw [olds j hji] at sj
        exact elder j p (inn hj hji) ej sj rfl
      · rw [old j hji] at ej
        rw [olds j hji] at sj
        rw [old k hki] at ek
        rw [olds k hki] at sk
        exact L.R.dis j k a (mem_drp.mp (inn hj hji)).1 (mem_drp.mp (inn hk hki)).1 ej ek sj sk
  · by_cases hji : j = i
    · subst hji
      have e := at_ ej
      rw [sj] at e
      cases e
      exact h0
    · rw [old j hji] at ej
      rw [olds j hji] at sj
      exact L.O j a (mem_drp.mp (inn hj hji)).1 ej sj
/-- values, some of them new lists -/
def RnA (K : PySem.W.Frag) (sp : Addr) (H F' H' : Hp) : List Bool → List V → List D → Prop
  | [], [], [] => True
  | b :: bs, x :: xs, d :: ds => (if b = true then Rn K sp H F' H' x d else Rp K sp F' x d) ∧ RnA K sp H F' H' bs xs ds
  | _, _, _ => False
def newV : List Bool → List V → List V
  | true :: bs, x :: xs => x :: newV bs xs
  | false :: bs, _ :: xs => newV bs xs
  | _, _ => []
section
variable {X : Cx} {G : Gx}
def RdLN (G : Gx) (ns : List Bool) (es : List E) : TA := fun σ H Q => ∃ g en F s ds s', Rl G.K G.sp G.cc g en σ F H s ∧ Off g (lkL es) ∧ evL G.v G.c es en s = some (ds, s') ∧ newsOk ns ds = true ∧
  ∀ xs F' H', Fw G.sp G.cc F H F' H' s' → RnA G.K G.sp H F' H' ns xs ds → (newV ns xs).Nodup → Q xs H'
theorem okLN_nil : PA X [] (RdLN G [] []) := pa_imp pa_nil fun σ H Q ⟨g, en, F, s, ds, s', R, off, he, hn, k⟩ => by
  obtain ⟨rfl, rfl⟩ := ret_some he
  exact k _ _ _ (rl_same R) trivial .nil
theorem Rn.step {sp cc : Addr} {K : PySem.W.Frag} {H F1 H1 F2 H2 : Hp} {s2 : Src} {x : V} {d : D} (h : Rn K sp H F1 H1 x d) (f : Fw sp cc F1 H1 F2 H2 s2) (n1 : H sp ≠ none) (n2 : H cc ≠ none) : Rn K sp H F2 H2 x d := by
  cases d with
  | list ds =>
    obtain ⟨p, vs, e, a1, a2, a3, ra⟩ := h
    exact ⟨p, vs, e, a1, f.new _ a2 (nt_of a3 nofun), f.keep _ _ a3 (fun z => n1 (z ▸ a1)) (fun z => n2 (z ▸ a1)), ra.mono f.fr⟩
  | _ => exact Rp.mono f.fr h
theorem newsIn {K : PySem.W.Frag} {sp : Addr} {H F' H' : Hp} : ∀ {bs : List Bool} {xs : List V} {ds : List D}, newsOk bs ds = true → RnA K sp H F' H' bs xs ds → ∀ x ∈ newV bs xs, ∃ p, x = .ref p ∧ H p = none
  | [], [], [], _, _, x, hx => nomatch hx
  | true :: bs, y :: xs, d :: ds, hn, h, x, hx => by
    cases d with
    | list zs =>
      rcases List.mem_cons.mp (show x ∈ y :: newV bs xs from hx) with e | hx
      · obtain ⟨p, vs, e2, q, _⟩ := (show Rn K sp H F' H' y (.list zs) from h.1)
        exact ⟨p, e.trans e2, q⟩
      · exact newsIn (bs := bs) (xs := xs) (ds := ds) hn h.2 x hx
    | _ => cases hn
  | false :: bs, y :: xs, d :: ds, hn, h, x, hx => newsIn (bs := bs) (xs := xs) (ds := ds) (by cases d <;> exact hn) h.2 x hx
  | [], _ :: _, _, _, h, _, _ => h.elim
  | [], [], _ :: _, _, h, _, _ => h.elim
  | _ :: _, [], _, _, h, _, _ => by cases ‹List D› <;> exact h.elim
  | _ :: _, _ :: _, [], _, h, _, _ => h.elim
theorem RnA.back {K : PySem.W.Frag} {sp cc : Addr} {F H F1 H1 F' H' : Hp} {s1 : Src} (f : Fw sp cc F H F1 H1 s1) : ∀ {bs : List Bool} {xs : List V} {ds : List D}, RnA K sp H1 F' H' bs xs ds → RnA K sp H F' H' bs xs ds
  | [], [], [], _ => trivial
  | b :: bs, x :: xs, d :: ds, h => ⟨by
    cases b with
    | true => exact Rn.back (show Rn K sp H1 F' H' x d from h.1) f
    | false => exact h.1, RnA.back f h.2⟩
  | [], _ :: _, _, h => h.elim
  | [], [], _ :: _, h => h.elim
  | _ :: _, [], _, h => by cases ‹List D› <;> exact h.elim
  | _ :: _, _ :: _, [], h => h.elim
theorem okLN_cons {a : E} {ea : Expr} {es : List E} {exs : List Expr} {b : Bool} {bs : List Bool} (h1 : isStarE a = false) (h2 : isStarX ea = false) (ha : PE X ea (RdV G a)) (hn : b = true → PE X ea (RdN G a)) (hr : PA X exs (RdLN G bs es)) : PA X (ea :: exs) (RdLN G (b :: bs) (a :: es)) := by
  cases b with
  | false =>
    refine pa_imp (pa_cons ha hr (starEach_no h2 _ _)) fun σ H Q ⟨g, en, F, s, ds, s', R, off, he, hk, k⟩ => ?_
    rw [evL_cons h1] at he
    rw [lkL_cons h1] at off
    obtain ⟨d1, s1, q1, h⟩ := bnd_some he
    obtain ⟨ds2, s2, q2, h⟩ := bnd_some h
    obtain ⟨rfl, rfl⟩ := ret_some h
    refine ⟨g, en, F, s, d1, s1, R, off.l, q1, fun x F1 H1 f1 r1 => ⟨g, en, F1, s1, ds2, s', R.step f1, off.r, q2, by cases d1 <;> exact hk, fun xs F2 H2 f2 r2 nd => ?_⟩⟩
    exact k (x :: xs) F2 H2 (f1.trans f2) ⟨r1.mono f2.fr, r2.back f1⟩ nd
  | true =>
    refine pa_imp (pa_cons (hn rfl) hr (starEach_no h2 _ _)) fun σ H Q ⟨g, en, F, s, ds, s', R, off, he, hk, k⟩ => ?_
    rw [evL_cons h1] at he
    rw [lkL_cons h1] at off
    obtain ⟨d1, s1, q1, h⟩ := bnd_some he
    obtain ⟨ds2, s2, q2, h⟩ := bnd_some h
    obtain ⟨rfl, rfl⟩ := ret_some h
    cases d1 with
    | list zs =>
      refine ⟨g, en, F, s, _, s1, R, off.l, q1, fun x F1 H1 f1 r1 => ⟨g, en, F1, s1, ds2, s', ?_, off.r, q2, hk, fun xs F2 H2 f2 r2 nd => ?_⟩⟩
      · exact R.step f1
      · have n1 : H G.sp ≠ none := by rw [R.src.1]; simp
        have n2 : H G.cc ≠ none := by rw [R.src.2]; simp
        refine k (x :: xs) F2 H2 (f1.trans f2) ⟨r1.step f2 n1 n2, r2.back f1⟩ (List.nodup_cons.mpr ⟨fun hx => ?_, nd⟩)
        obtain ⟨p, e, hp⟩ := newsIn (bs := bs) (ds := ds2) (show newsOk bs ds2 = true from hk) r2 x hx
        obtain ⟨p', vs, e', a1, a2, a3, _⟩ := r1
        rw [e] at e'
        cases e'
        rw [hp] at a3
        cases a3
    | _ => cases hk
def setsX : List Nat → List V → L2.St → L2.St
  | i :: is, x :: xs, σ => setsX is xs (σ.set i (some x))
  | _, _, σ => σ
theorem Ls.adds {F0 H0 Hi F H : Hp} {s : Src} (hB : ∀ p, Hi p = none → H0 p = none ∧ p ≠ G.sp ∧ p ≠ G.cc) : ∀ (is : List Nat) (bs : List Bool) (xs : List V) (ds : List D) (g : List Nat) (en en2 : En) (σ : L2.St), Ls G.K G.sp G.cc F0 H0 g en σ F H s → RnA G.K G.sp Hi F H bs xs ds → newsOk bs ds = true →
    (newV bs xs).Nodup → (∀ j a, j ∈ g → en.getD j none ≠ none → σ[j]? = some (some (.ref a)) → V.ref a ∉ newV bs xs) → setsV is ds en = some en2 → Ls G.K G.sp G.cc F0 H0 (gAdd g is bs) en2 (setsX is xs σ) F H s
  | [], bs, xs, ds, g, en, en2, σ, L, hr, hn, nd, he, hs => by
    cases ds with
    | nil =>
      have e : en = en2 := Option.some.inj hs
      subst e
      have : gAdd g [] bs = g := by cases bs <;> rfl
      rw [this]
      exact L
    | cons _ _ => cases hs
  | i :: is, bs, xs, [], g, en, en2, σ, L, hr, hn, nd, he, hs => by cases hs
  | i :: is, [], xs, d :: ds, g, en, en2, σ, L, hr, hn, nd, he, hs => by cases xs <;> exact hr.elim
  | i :: is, b :: bs, [], d :: ds, g, en, en2, σ, L, hr, hn, nd, he, hs => hr.elim
  | i :: is, false :: bs, x :: xs, d :: ds, g, en, en2, σ, L, hr, hn, nd, he, hs => by
    have L1 := setF_tgs L (i := i) (show Rp G.K G.sp F x d from hr.1)
    refine Ls.adds hB is bs xs ds (drp g [i]) _ en2 _ L1 hr.2 (by cases d <;> exact hn) nd (fun j a hj hen hsj => ?_) hs
    obtain ⟨hg, hne⟩ := mem_drp.mp hj
    have n : j ≠ i := by simpa using hne
    rw [List.getD_eq_getElem?_getD, List.getElem?_set_ne (Ne.symm n), ← List.getD_eq_getElem?_getD] at hen
    rw [List.getElem?_set_ne (Ne.symm n)] at hsj
    exact he j a hg hen hsj
  | i :: is, true :: bs, x :: xs, d :: ds, g, en, en2, σ, L, hr, hn, nd, he, hs => by
    cases d with
    | list zs =>
      obtain ⟨p, vs, rfl, hp, fp, hl, ra⟩ := (show Rn G.K G.sp Hi F H x (.list zs) from hr.1)
      obtain ⟨h0, ns, nc⟩ := hB p hp
      have nd2 := List.nodup_cons.mp (show (V.ref p :: newV bs xs).Nodup from nd)
      have L1 := L.add (i := i) hl fp ra ns nc h0 fun j a hj hen hsj z => by
        subst z
        exact he j a (mem_drp.mp hj).1 hen hsj (List.mem_cons_self ..)
      refine Ls.adds hB is bs xs ds (i :: drp g [i]) _ en2 _ L1 hr.2 hn nd2.2 (fun j a hj hen hsj => ?_) hs
      by_cases hji : j = i
      · subst hji
        have lt : j < σ.length := by
          by_cases lt : j < σ.length
          · exact lt
          · rw [List.getElem?_eq_none (by rw [List.length_set]; omega)] at hsj; cases hsj
        rw [List.getElem?_set_self lt] at hsj
        cases hsj
        exact nd2.1
      · have hd := (List.mem_cons.mp hj).resolve_left hji
        rw [List.getD_eq_getElem?_getD, List.getElem?_set_ne (Ne.symm hji), ← List.getD_eq_getElem?_getD] at hen
        rw [List.getElem?_set_ne (Ne.symm hji)] at hsj
        exact fun z => he j a (mem_drp.mp hd).1 hen hsj (List.mem_cons_of_mem _ z)
    | _ => cases hn
/-- several names, new lists among the values -/
theorem okS_parN {is : List Nat} {ns : List Bool} {es : List E} {st : Stmt} {P : TS} (h : PS X st P) (hP : ∀ D σ H, (RdLN G ns es σ H fun xs H1 => D.nx (setsX is xs σ) H1) → P D σ H) : PS X st (RdS G (.parN is ns es)) := by
  refine ps_imp h fun D σ H ⟨F0, H0, g, en, F, s, r, s', g', L, o, ev, b⟩ => hP _ _ _ ?_
  obtain ⟨ds, s1, e1, e2⟩ := bnd_some ev
  have e2 : (if newsOk ns ds = true then bnd (lift (setsV is ds en)) fun en2 => ret (.next en2) else fun _ => none) s1 = some (r, s') := e2
  by_cases hk : newsOk ns ds = true
  · rw [if_pos hk] at e2
    obtain ⟨en2, e3, e4⟩ := bnd_lift e2
    obtain ⟨rfl, rfl⟩ := ret_some e4
    have o : (if ((ns.zip es).all fun p => !p.1 || fresh p.2) = true then some (gAdd (drp g (lkL es)) is ns) else none) = some g' := by rw [own] at o; exact o
    obtain ⟨_, rfl⟩ := if_some o
    obtain ⟨F1, L1, sm⟩ := L.freeze (lkL es)
    refine ⟨_, en, F1, s, ds, s', L1.R, off_drp _ _, e1, hk, fun xs F2 H2 f rx nd => ?_⟩
    have hB : ∀ p, H p = none → H0 p = none ∧ p ≠ G.sp ∧ p ≠ G.cc := fun p hp => ⟨L1.W.noneBack hp, fun z => (by rw [z, L1.R.src.1] at hp; cases hp), fun z => (by rw [z, L1.R.src.2] at hp; cases hp)⟩
    refine b _ F2 H2 (sm.trans f.fr) (Ls.adds hB is ns xs ds _ en en2 σ (L1.step f) rx hk nd (fun j a hj hen hsj hm => ?_) e3)
    obtain ⟨p, e, hp⟩ := newsIn hk rx _ hm
    cases e
    cases q : en.getD j none with
    | none => exact hen q
    | some d2 =>
      obtain ⟨a2, vs2, ds2, _, k1, k2, _⟩ := L1.R.own j hj d2 q
      rw [hsj] at k1
      cases k1
      rw [hp] at k2
      cases k2
  · rw [if_neg hk] at e2; cases e2
end
end Fz
/-! FzL: a def's promise where no guard stands ahead of it, its call, a law's end. -/
namespace Fz
open PySem PySem.Spec PyProof.Rows L2
abbrev SpG := List V → Hp → VK → Prop
structure FnG (P : Program) (w : World) (K : PySem.W.Frag) (mg : Str → Option Value) (base : Heap) (k : Nat) (f : Addr) (fd : FuncData) (ps : List Str) (sp : SpG) : Prop where
  arity : ∀ vs H Q, sp vs H Q → vs.length = ps.length
  go : ∀ (A : Around) (outer : List Env) (s : Shared) (H : Hp) (given : Args) (us : List Value) (vs : List V) (Q : VK), Room k A → A.guards = some [] → Env0 P w K mg base A outer s H → BindsTo s fd given (ps.zip us) → Vals vs us →
    sp vs H Q → codeAny (model P w) A (.call (.ref f) given) (CR CX0 outer P w H s Q E0) s
section
variable {P : Program} {w : World} {K : PySem.W.Frag} {mg : Str → Option Value} {base : Heap} {k : Nat} {f : Addr} {fd : FuncData} {ps : List Str} {sp : SpG}
theorem FnG.mono {j : Nat} (F : FnG P w K mg base j f fd ps sp) (h : j ≤ k) : FnG P w K mg base k f fd ps sp := ⟨F.arity, fun A outer s H given us vs Q hr => F.go A outer s H given us vs Q (hr.mono h)⟩
theorem FnG.imp {sp' : SpG} (F : FnG P w K mg base k f fd ps sp) (h : ∀ vs H Q, sp' vs H Q → sp vs H Q) : FnG P w K mg base k f fd ps sp' :=
  ⟨fun vs H Q q => F.arity vs H Q (h _ _ _ q), fun A outer s H given us vs Q hr hg e0 hb r q => F.go A outer s H given us vs Q hr hg e0 hb r (h _ _ _ q)⟩
theorem run_fnG {X : Cx} {pins : List (Addr × Obj)} {σ : L2.St} {H : Hp} {s : Shared} {Q : VK} {us : List Value} {vs : List V} (F : FnG X.prog X.w X.K X.mg X.base k f fd ps sp) (hr : Room k X.A) (hg : X.A.guards = some []) (hb : Binds X.K fd ps [])
    (I : Inv X pins σ H s) (r : Vals vs us) (h : sp vs H Q) : wpAny (model X.prog X.w) X.A (call (.ref f) us) (EP X pins σ Q) X.xe s := by
  have hl : (us ++ []).length = ps.length := by rw [List.append_nil, ← r.length]; exact F.arity _ _ _ h
  have hb2 := hb s us I.kIn hl
  rw [List.append_nil] at hb2
  refine wpAny_call (codeAny_mono (F.go X.A X.stack s H ⟨us, []⟩ us vs Q hr hg I.env0 hb2 r h) fun z s' hq => ?_)
  cases z with
  | error e => exact hq.elim
  | ok fl => cases fl with
    | ret u => exact I.after hq
    | next => exact hq.elim
    | brk => exact hq.elim
    | cont => exact hq.elim
end
section
variable {X : Cx} {k : Nat} {f : Addr} {fd : FuncData} {ps : List Str} {sp : SpG} {x : Str} {p pos : Pos} {e : Expr} {es : List Expr} {t : TA}
def tCallG (sp : SpG) (t : TA) : TE := fun σ H Q => t σ H fun vs H1 => sp vs H1 Q
theorem pe_callG (F : FnG X.prog X.w X.K X.mg X.base k f fd ps sp) (hr : Room k X.A) (hgu : X.A.guards = some []) (hg : Gl X x) (hm : X.mg x = some (.ref f)) (hk : PySem.W.keepIn X.K (.ref f) = true) (hb : Binds X.K fd ps [])
    (ha : PA X (e :: es) t) (hdb : (x == ("__debug__" : Str)) = false) (he : starEach (e :: es) X.env = (false, eval e X.env) :: starEach es X.env) (hpl : (backTo pos (starEach es X.env)).any (·.1) = false) :
    PE X (.Call (.Name x p) (e :: es) [] pos) (tCallG sp t) := ⟨fun pins s σ H Q I h => wpAny_Call_Name_kw (ld_glob I hg hm
  (PySem.W.callWith_K (h₀ := X.base) I.ok.mod.kin hk (thn (ha.run pos pins s σ H _ I h) fun us s1 ⟨vs, H1, I1, r, q⟩ => ⟨I1.kIn, run_fnG F hr hgu hb I1 r q⟩) he hpl) hdb)⟩
theorem pe_callG0 (F : FnG X.prog X.w X.K X.mg X.base k f fd ps sp) (hr : Room k X.A) (hgu : X.A.guards = some []) (hg : Gl X x) (hm : X.mg x = some (.ref f)) (hk : PySem.W.keepIn X.K (.ref f) = true) (hb : Binds X.K fd ps [])
    (hdb : (x == ("__debug__" : Str)) = false) : PE X (.Call (.Name x p) [] [] pos) (tCallG sp tNil) := ⟨fun pins s σ H Q I h => wpAny_Call_Name_kw (ld_glob I hg hm (PySem.W.callWith_K0 I.kIn hk (run_fnG (us := []) F hr hgu hb I .nil h)) hdb)⟩
end
theorem funD_okG {P : Program} {w : World} {K : PySem.W.Frag} {mg : Str → Option Value} {base : Heap} {x qual : Str} {params : Arguments} {body : List Stmt} {scope : Scope} {dvs : List V} {kws : List (Str × V)} {f : Addr} {fd : FuncData} {N ps : List Str} {k : Nat} {sp : SpG}
    (F : L2.FunD K x qual params body scope dvs kws f fd) (S : FnScope N ps scope) (len : ∀ vs H Q, sp vs H Q → vs.length = ps.length)
    (hbody : ∀ (cdv : Value) (A : Around) (outer : List Env) (s : Shared) (H : Hp) (vs : List V) (Q : VK), Room k (A.deeper (envOfC qual scope s.heap.objs.size f cdv)) → (A.deeper (envOfC qual scope s.heap.objs.size f cdv)).guards = some [] → sp vs H Q →
      ∃ t, PSs (cxOf CX0 P w K mg base N qual scope f cdv A outer s H E0).nox body t ∧ t { nx := fun _ H' => Q .non H', rt := Q } (L2.start N vs) H) : FnG P w K mg base (k + 1) f fd ps sp := by
  obtain ⟨oc, od, dV, kV, doc, pm, an, cdv, ct, osl, rfl, lk, hcd, _, _⟩ := F.ex
  refine ⟨len, fun A outer s H given us vs Q hr hgu e0 hb r hsp => ?_⟩
  have hl := len _ _ _ hsp
  have KX : K.In s.heap := e0.mod.kin.keeps fun b o e => (e0.bs b o e).1
  have kinds : ∀ y ∈ ps.zip us, scope.names.lookup y.1 = some .local ∨ (scope.names.lookup y.1 = some .cell ∧ ((cellsFrom (s.heap.objs.size + 1) scope.names []).lookup y.1).isSome = true) := fun ⟨n, v⟩ hy =>
    (S.par n (List.of_mem_zip hy).1).imp id fun q => ⟨q, PySem.W.cellsFrom_some _ _ _ (.inl q)⟩
  refine codeAny_call_function hr.depth (KX _ _ lk) rfl S.co S.gen rfl (PySem.W.codeRec_of KX hcd) (hb _ _ _ _ (wpAny_newFunctionEnv_cells S.kind kinds fun env he s1 x => ?_))
  subst he
  refine ⟨(e0.mod.nolimit.keeps fun b o e => (e0.bs b o e).1).keeps x.toInCall.keep, codeAny_func ?_⟩
  obtain ⟨t, ht, hq⟩ := hbody cdv A outer s H vs Q (hr.deeper _) hgu hsp
  have J0 : Inv (cxOf CX0 P w K mg base N qual scope f cdv A outer s H E0) [] (L2.start N vs) H s1 := inv_start S hr.hd e0 hl r x
  refine wpAny_mono (ht.nox.run [] s1 (L2.start N vs) H _ J0 hq) (fun fl s' hs => ?_) fun e s' hs => hs
  cases fl with
  | ret u => obtain ⟨v, σ', H', J, rv, q⟩ := hs; exact ⟨v, H', J.os, J.bare, J.base, J.hok, rv, q⟩
  | next => obtain ⟨σ', H', J, q⟩ := hs; exact ⟨.non, H', J.os, J.bare, J.base, J.hok, rfl, q⟩
  | brk => obtain ⟨_, _, _, q⟩ := hs; exact q.elim
  | cont => obtain ⟨_, _, _, q⟩ := hs; exact q.elim

theorem law_callG {P : Program} {w : World} {K : PySem.W.Frag} {mg mb : Str → Option Value} {k : Nat} {fa a : Addr} {fd : FuncData} {x : Str} {sp : SpG} {h1 : Shared} {vs : List Value} {ns : List Int}
    (KX : K.In h1.heap) (gN : h1.heap.Ns mainGlobals mg) (bN : h1.heap.Ns builtinsNs mb) (bE : ∀ x : Str, x ≠ "__name__" → mb x = bootBuiltins x) (nl : h1.heap.NoLimit) (gz : h1.gens = #[])
    (ha : h1.heap.get? a = some { cls := .type "list", data := .seq vs.toArray }) (hi : IntsAre vs ns) (hl : ns.length ≤ sizeLine) (hr : Room k callerA)
    (F : ∀ base : Heap, K.In base → base.Ns mainGlobals mg → FnG P w K mg base k fa fd [x] sp) (hb : ∀ (s : Shared) (u : Value), BindsTo s fd ⟨[u], []⟩ [(x, u)])
    (hsp : ∀ H : Hp, Only H → SqL K H a (ns.map V.int) → sp [.ref a] H fun v _ => v = .bl true) :
    codeAny (model P w) callerA (.call (.ref fa) ⟨[.ref a], []⟩) (fun r s' => r = .ok (.ret (.bool true)) ∧ OldK h1.heap s'.heap ∧ s'.os = h1.os ∧ AllBare s'.gens) h1 := by
  have rv : Vals (ns.map V.int) vs := vals_ints hi
  have main : ∀ H : Hp, Only H → SqL K H a (ns.map V.int) → HOk P w H h1.heap → (∀ b, H b ≠ none → b = a ∧ K.lookup a = none) →
      codeAny (model P w) callerA (.call (.ref fa) ⟨[.ref a], []⟩) (fun r s' => r = .ok (.ret (.bool true)) ∧ OldK h1.heap s'.heap ∧ s'.os = h1.os ∧ AllBare s'.gens) h1 := by
    intro H oH sH kH tH
    -- what is no list of the script's is not tracked
    have free : ∀ {b : Addr} {o : Obj}, h1.heap.get? b = some o → (b = a → K.lookup a = none → False) → H b = none := fun {b o} e n => by
      cases q : H b with
      | none => rfl
      | some u =>
        obtain ⟨q1, q2⟩ := tH b (by rw [q]; exact Option.some_ne_none _)
        exact (n q1 q2).elim
    have nsIn : ∀ {b : Addr} {m : Str → Option Value}, h1.heap.Ns b m → (hidT h1.heap H).Ns b m := fun {b m} ⟨o, es, ep, e, d, r⟩ => by
      refine ⟨o, es, ep, hidT_get e (free e fun q _ => ?_), d, r⟩
      subst q
      have z : some o = some _ := e.symm.trans ha
      cases z
      cases d
    have kin : K.In (hidT h1.heap H) := fun b o e => hidT_get (KX b o e) (free (KX b o e) fun q1 q2 => by
      subst q1
      rw [q2] at e
      cases e)
    have ml : Mod K mg (hidT h1.heap H) := ⟨kin, nsIn gN, ⟨mb, nsIn bN, bE⟩, nl.imp fun mc q => ⟨nsIn q.1, q.2⟩⟩
    have none0 : ∀ {b : Addr} {p : Prop}, b ∈ frs ([] : List Env) → p := fun {b p} z => absurd (show b ∈ ([] : List Addr) from z) List.not_mem_nil
    have e0 : Env0 P w K mg (hidT h1.heap H) callerA [] h1 H := ⟨rfl, ml, fun b o e => of_hidT e, Nat.le_of_eq (hidT_size _ _), trivial, fun b z => none0 z, kH, .of_eq gz⟩
    refine codeAny_mono ((F _ kin (nsIn gN)).go callerA [] h1 H ⟨[.ref a], []⟩ [.ref a] [.ref a] _ hr rfl e0 (hb h1 (.ref a)) (.cons rfl .nil) (hsp H oH sH)) fun r s' z => ?_
    cases r with
    | error e => exact z.elim
    | ok fl => cases fl with
      | next => exact z.elim
      | brk => exact z.elim
      | cont => exact z.elim
      | ret u =>
        obtain ⟨v, H', z1, z2, z3, z4, z5, z6⟩ := z
        have z7 : v = V.bl true := z6
        subst z7
        have z8 : u = Value.bool true := z5
        subst z8
        refine ⟨rfl, OldK.of_keep fun b o e => ?_, z1, z2⟩
        rcases oH b with q | ⟨ob, xs, q⟩
        · exact z3.keep b o e q (fun y => none0 y) List.not_mem_nil
        · have q1 := (kH b _ q).1
          have q2 := (z4 b _ (z3.frzs b ob _ q)).1
          rw [e] at q1
          cases q1
          exact q2
  cases hk : K.lookup a with
  | some o =>
    have e := KX a o hk
    rw [ha] at e
    cases e
    refine main (fun _ => none) (fun _ => .inl rfl) (.inr ⟨_, vs.toArray, _, hk, rfl, rfl, rfl, ?_, by simpa using rv⟩) (fun b u z => by cases z) fun b z => absurd rfl z
    rw [List.size_toArray, hi.length]
    exact hl
  | none =>
    have here : (fun b => if b = a then some (HO.frz { cls := .type "list", data := .seq vs.toArray } (.lst (ns.map V.int))) else none : Hp) a = some (.frz { cls := .type "list", data := .seq vs.toArray } (.lst (ns.map V.int))) := if_pos rfl
    have there : ∀ b, b ≠ a → (fun b => if b = a then some (HO.frz { cls := .type "list", data := .seq vs.toArray } (.lst (ns.map V.int))) else none : Hp) b = none := fun b q => if_neg q
    refine main (fun b => if b = a then some (.frz { cls := .type "list", data := .seq vs.toArray } (.lst (ns.map V.int))) else none) (fun b => ?_) (.inl (.inr ⟨_, here⟩)) (fun b u z => ?_) fun b z => ⟨?_, hk⟩
    · rcases Classical.em (b = a) with q | q
      · subst q; exact .inr ⟨_, _, here⟩
      · exact .inl (there b q)
    · rcases Classical.em (b = a) with q | q
      · subst q
        cases here.symm.trans z
        exact ⟨ha, by simpa using hl, vs, _, rv, ha⟩
      · cases (there b q).symm.trans z
    · rcases Classical.em (b = a) with q | q
      · exact q
      · exact absurd (there b q) z
theorem walk_ofG {l : PySem.W.OpenLaw} {n k : Nat} {q : Program} {loose : List Str} {XP : (Str → Option Value) → Heap → Prop} {YP : World → Heap → Prop} {d : DefRec} {x : Str}
    (hn : l.most = some n) (hn2 : n ≤ sizeLine) (hdf : d.params.defaults = []) (hr : Room k callerA)
    (F : ∀ (w : World) (mg : Str → Option Value) (fa : Addr) (h : Heap), YP w h → h.Ns mainGlobals mg → mg d.name = some (.ref fa) →
      ∃ (K : PySem.W.Frag) (fd : FuncData) (sp : SpG), K.In h ∧ (∀ (s : Shared) (u : Value), BindsTo s fd ⟨[u], []⟩ [(x, u)]) ∧
        (∀ (H : Hp) (a : Addr) (ns : List Int), ns.length ≤ n → Only H → SqL K H a (ns.map V.int) → sp [.ref a] H fun v _ => v = .bl true) ∧ ∀ base : Heap, K.In base → base.Ns mainGlobals mg → FnG l.prog w K mg base k fa fd [x] sp) :
    PySem.W.WalkO q loose XP YP l.row.toRowW d [] (fun f vs => PySem.call f vs) :=
  Att.attach_call hn hdf fun w s₀ s₁ mg mb fa o pm cd doc a vs ns G Y ho hd hcd hmg hobj hints hlen hg => by
    obtain ⟨K, fd, sp, KX, hb, hsp, hF⟩ := F w mg fa _ Y G.T.g hmg
    exact law_callG KX G.T.g G.T.b G.T.builtins G.T.nolimit hg hobj hints (Nat.le_trans hlen hn2) hr hF hb fun H hO hS => hsp H a ns hlen hO hS
end Fz
/-! FzM: the source's defs: what they read, what they promise. -/
namespace Fz
open PySem PySem.Spec PyProof.Rows L2
def srcO (cc : Addr) (s : Src) : HO := .dK [(.inr "cells", .ref cc), (.inr "left", .int s.left), (.inr "mixed", .int s.mixed), (.inr "turn", .int s.turn)]
/-- all but the source stands as it stood -/
def Else (sp cc : Addr) (H H' : Hp) : Prop := ∀ b, b ≠ sp → b ≠ cc → H' b = H b
theorem Else.refl {sp cc : Addr} {H : Hp} : Else sp cc H H := fun _ _ _ => rfl
theorem Else.trans {sp cc : Addr} {H H1 H2 : Hp} (a : Else sp cc H H1) (b : Else sp cc H1 H2) : Else sp cc H H2 := fun p n1 n2 => (b p n1 n2).trans (a p n1 n2)
theorem Else.fw {sp cc : Addr} {F H H' : Hp} {s : Src} (e : Else sp cc H H') (hs : Same F H) (f1 : F sp = none) (f2 : F cc = none) (q : SrcAt sp cc H' s) : Fw sp cc F H F H' s :=
  ⟨Same.refl _, fun b o h => by
    rw [e b (fun z => by rw [z, f1] at h; cases h) (fun z => by rw [z, f2] at h; cases h)]
    exact hs b o h, fun b o h n1 n2 => (e b n1 n2).trans h, q, fun b h _ => h⟩
/-- the promise of a pick -/
def spPick (v : Bool) : SpG := fun vs H Q => ∃ sp cc s m, vs = [.ref sp, .int m] ∧ SrcAt sp cc H s ∧ m < 1073741824 ∧ ∀ H', Else sp cc H H' → SrcAt sp cc H' (pickS v s m).2 → Q (.int (pickS v s m).1) H'

abbrev rLti : R2 := rI0 fun i j => .bl (decide (i < j))
abbrev rGti : R2 := rI0 fun i j => .bl (decide (j < i))
abbrev rAddi : R2 := rI0 fun i j => .int (i + j)
abbrev rMuli : R2 := rI CMul fun i j => .int (i * j)
abbrev rModi : R2 := rI (fun _ j => 0 < j) fun i j => .int (i % j)
abbrev rDivi : R2 := rI CDiv fun i j => .int (i / j)
abbrev rInti : List V → Hp → VK → Prop := fun xs H Q => (∃ i, xs = [.int i] ∧ Q (.int i) H) ∨ ∃ k, xs = [.bl k] ∧ Q (.int (if k then 1 else 0)) H
abbrev rMaxi : List V → Hp → VK → Prop := fun xs H Q => ∃ i j, xs = [.int i, .int j] ∧ Q (.int (if j > i then j else i)) H
abbrev rLen1 (K : PySem.W.Frag) : List V → Hp → VK → Prop := fun xs H Q => ∃ x n, xs = [x] ∧ LenV K x H n ∧ Q (.int n) H
def tI (t : TE) : TE := tCB rInti (tCons t tNil)
def tF (x : Str) : TE := tDGet (tVar 0) (tC (.str x))
def sF (x : Str) (t : TE) : TS := sDPut (tVar 0) (tC (.str x)) t

section
variable {sp cc : Addr} {H : Hp} {s : Src} {σ : L2.St} {Q : VK}
theorem tF_left (q : SrcAt sp cc H s) (h : σ[0]? = some (some (.ref sp))) (k : Q (.int s.left) H) : tF "left" σ H Q := ⟨_, h, sp, _, rfl, .inl ⟨_, .inr "left", .inl q.1, rfl, rfl⟩, k⟩
theorem tF_mixed (q : SrcAt sp cc H s) (h : σ[0]? = some (some (.ref sp))) (k : Q (.int s.mixed) H) : tF "mixed" σ H Q := ⟨_, h, sp, _, rfl, .inl ⟨_, .inr "mixed", .inl q.1, rfl, rfl⟩, k⟩
theorem tF_turn (q : SrcAt sp cc H s) (h : σ[0]? = some (some (.ref sp))) (k : Q (.int s.turn) H) : tF "turn" σ H Q := ⟨_, h, sp, _, rfl, .inl ⟨_, .inr "turn", .inl q.1, rfl, rfl⟩, k⟩
theorem tF_cells (q : SrcAt sp cc H s) (h : σ[0]? = some (some (.ref sp))) (k : Q (.ref cc) H) : tF "cells" σ H Q := ⟨_, h, sp, _, rfl, .inl ⟨_, .inr "cells", .inl q.1, rfl, rfl⟩, k⟩
theorem upd_else {o : HO} : Else sp cc H (upd H sp o) := fun b n _ => upd_ne n
theorem upd_else2 {o : HO} : Else sp cc H (upd H cc o) := fun b _ n => upd_ne n
theorem SrcAt.field (q : SrcAt sp cc H s) (s' : Src) (h : s'.cells = s.cells) : SrcAt sp cc (upd H sp (srcO cc s')) s' := ⟨upd_same, by rw [upd_ne (Ne.symm q.ne), h]; exact q.2⟩
/-- a field's store -/
abbrev Put (x : Str) (σ : L2.St) (H : Hp) (v : V) (k : L2.St → Hp → Prop) : Prop := tVar 0 σ H fun a H2 => tC (.str x) σ H2 fun y H3 => ∃ b H4, a = .ref b ∧ DPut H3 b y v H4 ∧ k σ H4
theorem put_left {k : L2.St → Hp → Prop} {x : Int} (h : σ[0]? = some (some (.ref sp))) (q : SrcAt sp cc H s) (n : k σ (upd H sp (srcO cc { s with left := x }))) : Put "left" σ H (.int x) k :=
  ⟨_, h, sp, _, rfl, DPut.k (k := .inr "left") q.1 (show 4 < sizeLine by decide), n⟩
theorem put_turn {k : L2.St → Hp → Prop} {x : Int} (h : σ[0]? = some (some (.ref sp))) (q : SrcAt sp cc H s) (n : k σ (upd H sp (srcO cc { s with turn := x }))) : Put "turn" σ H (.int x) k :=
  ⟨_, h, sp, _, rfl, DPut.k (k := .inr "turn") q.1 (show 4 < sizeLine by decide), n⟩
theorem put_mixed {k : L2.St → Hp → Prop} {x : Int} (h : σ[0]? = some (some (.ref sp))) (q : SrcAt sp cc H s) (n : k σ (upd H sp (srcO cc { s with mixed := x }))) : Put "mixed" σ H (.int x) k :=
  ⟨_, h, sp, _, rfl, DPut.k (k := .inr "mixed") q.1 (show 4 < sizeLine by decide), n⟩
/-- a cell is taken: the list loses its last -/
theorem SrcAt.popped {c : Int} {r : List Int} {x : Int} (q : SrcAt sp cc H s) (e : s.cells = c :: r) : SrcAt sp cc (upd (upd H cc (.lst (r.reverse.map V.int))) sp (srcO cc { s with left := x })) { s with cells := r, left := x } :=
  ⟨upd_same, by rw [upd_ne (Ne.symm q.ne), upd_same]⟩
theorem SrcAt.kept {r : List V} (q : SrcAt sp cc H s) : (upd H cc (.lst r)) sp = some (srcO cc s) := by rw [upd_ne q.ne]; exact q.1
end
theorem iteP {c : Prop} [Decidable c] {T F : Hp → Prop} {H : Hp} (h : c) (k : T H) : (fun (b : Bool) (H1 : Hp) => if b = true then T H1 else F H1) (decide c) H := by
  rw [decide_eq_true h]; exact k
theorem iteN {c : Prop} [Decidable c] {T F : Hp → Prop} {H : Hp} (h : ¬ c) (k : F H) : (fun (b : Bool) (H1 : Hp) => if b = true then T H1 else F H1) (decide c) H := by
  rw [decide_eq_false h]; exact k
/-! ### the drain -/
def tDrainT (K : PySem.W.Frag) : TT := tAnd (tTest (tOp rLti (tF "left") (tC (.int 2)))) (tTest (tOp rGti (tCB (rLen1 K) (tCons (tVar 2) tNil)) (tC (.int 0))))
def tDrain (K : PySem.W.Frag) : TS := tWhile (tDrainT K) (sF "left" (tBM0 K "list" rPop (tVar 2)))
theorem drain_nil {l : Int} : drain [] l = ([], l) := rfl
theorem drain_lt {c : Int} {r : List Int} {l : Int} (h : l < 2) : drain (c :: r) l = drain r c := if_pos h
theorem drain_ge {cs : List Int} {l : Int} (h : ¬ l < 2) : drain cs l = (cs, l) := by
  cases cs with
  | nil => rfl
  | cons c r => exact if_neg h
theorem drain_reads {K : PySem.W.Frag} {D : Ends} {sp cc : Addr} {H : Hp} {s : Src} {σ : L2.St} (h0 : σ[0]? = some (some (.ref sp))) (h2 : σ[2]? = some (some (.ref cc))) (q : SrcAt sp cc H s)
    (k : ∀ H', Else sp cc H H' → SrcAt sp cc H' { s with cells := (drain s.cells s.left).1, left := (drain s.cells s.left).2 } → D.nx σ H') : tDrain K D σ H := by
  refine ⟨fun n σ1 H1 => σ1 = σ ∧ ∃ s1, s1.cells.length = n ∧ SrcAt sp cc H1 s1 ∧ Else sp cc H H1 ∧ s1.mixed = s.mixed ∧ s1.turn = s.turn ∧ drain s1.cells s1.left = drain s.cells s.left, ⟨_, rfl, s, rfl, q, .refl, rfl, rfl, rfl⟩, ?_⟩
  rintro n σ1 H1 ⟨rfl, s1, hn, q1, el, em, et, ed⟩
  have fin : drain s1.cells s1.left = (s1.cells, s1.left) → D.nx σ1 H1 := fun e => k H1 el (by
    rw [← ed, e, ← em, ← et]
    exact q1)
  refine tF_left q1 h0 ⟨_, _, rfl, rfl, _, rfl, ?_⟩
  by_cases hl : s1.left < 2
  · rw [decide_eq_true hl]
    refine iteT ?_
    refine ⟨_, h2, _, s1.cells.length, rfl, .inl ⟨_, .of q1.2, ?_⟩, _, _, rfl, rfl, _, rfl, ?_⟩
    · simp
    · cases hc : s1.cells with
      | nil =>
        rw [List.length_nil, decide_eq_false (by decide)]
        refine iteF (fin ?_)
        rw [hc]; rfl
      | cons c r =>
        have : decide ((0 : Int) < ((c :: r).length : Nat)) = true := decide_eq_true (by simp)
        rw [this]
        refine iteT ⟨fun σ2 H2 => σ2 = σ1 ∧ ∃ s2, s2.cells.length = r.length ∧ SrcAt sp cc H2 s2 ∧ Else sp cc H H2 ∧ s2.mixed = s.mixed ∧ s2.turn = s.turn ∧ drain s2.cells s2.left = drain s.cells s.left,
          fun σ2 H2 ⟨e, s2, w⟩ => ⟨r.length, by rw [← hn, hc]; simp, e, s2, w⟩, ?_⟩
        have e1 : s1.cells.reverse.map V.int = r.reverse.map V.int ++ [.int c] := by rw [hc]; simp
        have hcc : H1 cc = some (.lst (r.reverse.map V.int ++ [.int c])) := by rw [← e1]; exact q1.2
        refine ⟨_, h2, .inl ⟨rfl, _, .of hcc⟩, cc, _, .int c, rfl, rfl, hcc, by simp, ?_⟩
        rw [List.dropLast_concat]
        refine ⟨_, h0, sp, _, rfl, DPut.k (k := .inr "left") (q1.kept (r := r.reverse.map V.int)) (show 4 < sizeLine by decide), rfl, { s1 with cells := r, left := c }, rfl, q1.popped hc, ?_, em, et, ?_⟩
        · exact (el.trans upd_else2).trans upd_else
        · rw [← ed, hc, drain_lt hl]
  · rw [decide_eq_false hl]
    exact iteF (iteF (fin (drain_ge hl)))
/-! ### pick, as most of the laws have it -/
def tStir : TS := tSeq (tAsg (tOp rModi (tI (tOp rAddi (tF "mixed") (tOp rMuli (tVar 4) (tC (.int 104729))))) (tC (.int 998244353))) (gName 5))
  (tSeq (tAsg (tOp rModi (tI (tOp rAddi (tOp rMuli (tVar 5) (tVar 5)) (tOp rMuli (tVar 4) (tC (.int 17))))) (tC (.int 2147483647))) (gName 5))
  (tRet (tOp rModi (tI (tOp rDivi (tVar 5) (tC (.int 16)))) (tVar 1))))
def tPick0 (K : PySem.W.Frag) : TS :=
  tSeq (tIfS (tTest (tOp rLti (tVar 1) (tC (.int 2)))) (tRet (tC (.int 0))) tNext)
  (tSeq (tAsg (tF "cells") (gName 2))
  (tSeq (tDrain K)
  (tSeq (tAsg (tF "left") (gName 3))
  (tSeq (tIfS (tTest (tOp rGti (tVar 3) (tC (.int 1)))) (tSeq (sF "left" (tOp rDivi (tVar 3) (tVar 1))) (tRet (tOp rModi (tI (tVar 3)) (tVar 1)))) tNext)
  (tSeq (sF "turn" (tOp rAddi (tF "turn") (tC (.int 1))))
  (tSeq (tAsg (tF "turn") (gName 4)) tStir))))))
theorem cmul_r {i j : Int} (h1 : -(2 ^ 64) < j) (h2 : j < 2 ^ 64) : CMul i j := .inr ⟨h1, h2⟩
theorem pick0_reads {K : PySem.W.Frag} {D : Ends} {a b : V} {H : Hp} {o2 o3 o4 o5 : Option V} (h : spPick false [a, b] H D.rt) : tPick0 K D [some a, some b, o2, o3, o4, o5] H := by
  obtain ⟨sp, cc, s, m, e, q, hm, k⟩ := h
  cases e
  refine ⟨_, rfl, _, _, rfl, rfl, _, rfl, ?_⟩
  by_cases h1 : m < 2
  · refine iteP h1 ?_
    unfold pickS at k
    rw [if_pos h1] at k
    exact k H .refl q
  · refine iteN h1 ?_
    refine tF_cells q rfl ?_
    refine drain_reads (sp := sp) rfl rfl q fun H1 e1 q1 => ?_
    generalize hd : drain s.cells s.left = cl at *
    obtain ⟨cs, l⟩ := cl
    refine tF_left q1 rfl ⟨_, rfl, _, _, rfl, rfl, _, rfl, ?_⟩
    have mod0 : ∀ x : Int, x.fmod m = x % m := fun x => Int.fmod_eq_emod_of_nonneg x (by omega)
    by_cases h2 : 1 < l
    · have e2 : pickS false s m = (l % m, { s with cells := cs, left := l / m }) := by
        unfold pickS
        rw [if_neg h1, hd]
        exact if_pos h2
      rw [e2] at k
      refine iteP h2 ?_
      refine ⟨_, rfl, _, rfl, _, _, rfl, rfl, ⟨by omega, hm⟩, put_left rfl q1 ?_⟩
      refine ⟨_, rfl, .inl ⟨_, rfl, _, rfl, _, _, rfl, rfl, (show (0 : Int) < m by omega), ?_⟩⟩
      exact k _ (e1.trans upd_else) (q1.field _ rfl)
    · have e2 : pickS false s m = ((((s.mixed + (s.turn + 1) * 104729) % 998244353) * ((s.mixed + (s.turn + 1) * 104729) % 998244353) + (s.turn + 1) * 17) % 2147483647 / 16 % m, { cells := cs, left := l, mixed := s.mixed, turn := s.turn + 1 }) := by
        unfold pickS
        rw [if_neg h1, hd]
        exact if_neg h2
      rw [e2] at k
      refine iteN h2 ?_
      refine tF_turn q1 rfl ⟨_, _, rfl, rfl, put_turn rfl q1 ?_⟩
      have q2 := q1.field { s with cells := cs, left := l, turn := s.turn + 1 } rfl
      refine tF_turn q2 rfl ?_
      refine tF_mixed q2 rfl ⟨_, rfl, _, _, rfl, rfl, cmul_r (by decide) (by decide), _, _, rfl, rfl, .inl ⟨_, rfl, _, _, rfl, rfl, (show (0 : Int) < 998244353 by decide), ?_⟩⟩
      refine ⟨_, rfl, _, rfl, _, _, rfl, rfl, cmul_r ?_ ?_, _, rfl, _, _, rfl, rfl, cmul_r (by decide) (by decide), _, _, rfl, rfl, .inl ⟨_, rfl, _, _, rfl, rfl, (show (0 : Int) < 2147483647 by decide), ?_⟩⟩
      · have := Int.emod_nonneg (s.mixed + (s.turn + 1) * 104729) (b := 998244353) (by decide); show -(2 ^ 64) < (s.mixed + (s.turn + 1) * 104729) % 998244353; omega
      · have := Int.emod_lt_of_pos (s.mixed + (s.turn + 1) * 104729) (b := 998244353) (by decide); show (s.mixed + (s.turn + 1) * 104729) % 998244353 < 2 ^ 64; omega
      refine ⟨_, rfl, _, _, rfl, rfl, ⟨by decide, by decide⟩, .inl ⟨_, rfl, _, rfl, _, _, rfl, rfl, (show (0 : Int) < m by omega), ?_⟩⟩
      exact k _ (e1.trans upd_else) q2
end Fz
/-! FzN: the other way to pick, the ways to make a source. -/
namespace Fz
open PySem PySem.Spec PyProof.Rows L2
/-! ### pick, the other way -/
def tCells (K : PySem.W.Frag) : TT := tAnd (tTest (tOp rGti (tVar 1) (tC (.int 1)))) (tAnd (tTest (tOp rLti (tF "left") (tC (.int 2)))) (tTest (tOp rGti (tCB (rLen1 K) (tCons (tF "cells") tNil)) (tC (.int 0)))))
def tDrain1 (K : PySem.W.Frag) : TS := tWhile (tCells K) (sF "left" (tBM0 K "list" rPop (tF "cells")))
def tMax1 : TE := tCB rMaxi (tCons (tC (.int 1)) (tCons (tVar 1) tNil))
def tPick1 (K : PySem.W.Frag) : TS :=
  tSeq (tDrain1 K)
  (tSeq (tAsg (tF "left") (gName 2))
  (tSeq (tIfS (tOr (tTest (tOp rLti (tVar 1) (tC (.int 2)))) (tTest (tOp rGti (tVar 2) (tC (.int 1))))) (tSeq (sF "left" (tOp rDivi (tVar 2) tMax1)) (tRet (tOp rModi (tI (tVar 2)) tMax1))) tNext)
  (tSeq (sF "turn" (tOp rAddi (tF "turn") (tC (.int 1))))
  (tSeq (tAsg (tOp rModi (tI (tOp rAddi (tF "mixed") (tOp rMuli (tF "turn") (tC (.int 104729))))) (tC (.int 998244353))) (gName 3))
  (tSeq (tAsg (tOp rModi (tI (tOp rAddi (tOp rMuli (tVar 3) (tVar 3)) (tOp rMuli (tF "turn") (tC (.int 17))))) (tC (.int 2147483647))) (gName 3))
  (tSeq (sF "mixed" (tVar 3)) (tRet (tOp rModi (tI (tOp rDivi (tVar 3) (tC (.int 16)))) (tVar 1)))))))))
theorem drain1_reads {K : PySem.W.Frag} {D : Ends} {sp cc : Addr} {H : Hp} {s : Src} {σ : L2.St} {m : Int} (h0 : σ[0]? = some (some (.ref sp))) (h1 : σ[1]? = some (some (.int m))) (q : SrcAt sp cc H s)
    (k0 : m < 2 → D.nx σ H) (k1 : ¬ m < 2 → ∀ H', Else sp cc H H' → SrcAt sp cc H' { s with cells := (drain s.cells s.left).1, left := (drain s.cells s.left).2 } → D.nx σ H') : tDrain1 K D σ H := by
  by_cases hm : m < 2
  · refine ⟨fun n σ1 H1 => σ1 = σ ∧ H1 = H, ⟨0, rfl, rfl⟩, ?_⟩
    rintro n σ1 H1 ⟨rfl, rfl⟩
    refine ⟨_, h1, _, _, rfl, rfl, _, rfl, ?_⟩
    rw [decide_eq_false (show ¬ (1 : Int) < m by omega)]
    exact iteF (iteF (k0 hm))
  refine ⟨fun n σ1 H1 => σ1 = σ ∧ ∃ s1, s1.cells.length = n ∧ SrcAt sp cc H1 s1 ∧ Else sp cc H H1 ∧ s1.mixed = s.mixed ∧ s1.turn = s.turn ∧ drain s1.cells s1.left = drain s.cells s.left, ⟨_, rfl, s, rfl, q, .refl, rfl, rfl, rfl⟩, ?_⟩
  rintro n σ1 H1 ⟨rfl, s1, hn, q1, el, em, et, ed⟩
  have fin : drain s1.cells s1.left = (s1.cells, s1.left) → D.nx σ1 H1 := fun e => k1 hm H1 el (by
    rw [← ed, e, ← em, ← et]
    exact q1)
  refine ⟨_, h1, _, _, rfl, rfl, _, rfl, ?_⟩
  rw [decide_eq_true (show (1 : Int) < m by omega)]
  refine iteT (tF_left q1 h0 ⟨_, _, rfl, rfl, _, rfl, ?_⟩)
  by_cases hl : s1.left < 2
  · rw [decide_eq_true hl]
    refine iteT (tF_cells q1 h0 ⟨_, s1.cells.length, rfl, .inl ⟨_, .of q1.2, ?_⟩, _, _, rfl, rfl, _, rfl, ?_⟩)
    · simp
    · cases hc : s1.cells with
      | nil =>
        rw [List.length_nil, decide_eq_false (by decide)]
        refine iteF (fin ?_)
        rw [hc]; rfl
      | cons c r =>
        have : decide ((0 : Int) < ((c :: r).length : Nat)) = true := decide_eq_true (by simp)
        rw [this]
        refine iteT ⟨fun σ2 H2 => σ2 = σ1 ∧ ∃ s2, s2.cells.length = r.length ∧ SrcAt sp cc H2 s2 ∧ Else sp cc H H2 ∧ s2.mixed = s.mixed ∧ s2.turn = s.turn ∧ drain s2.cells s2.left = drain s.cells s.left,
          fun σ2 H2 ⟨e, s2, w⟩ => ⟨r.length, by rw [← hn, hc]; simp, e, s2, w⟩, ?_⟩
        have e1 : s1.cells.reverse.map V.int = r.reverse.map V.int ++ [.int c] := by rw [hc]; simp
        have hcc : H1 cc = some (.lst (r.reverse.map V.int ++ [.int c])) := by rw [← e1]; exact q1.2
        refine tF_cells q1 h0 ⟨.inl ⟨rfl, _, .of hcc⟩, cc, _, .int c, rfl, rfl, hcc, by simp, ?_⟩
        rw [List.dropLast_concat]
        refine ⟨_, h0, sp, _, rfl, DPut.k (k := .inr "left") (q1.kept (r := r.reverse.map V.int)) (show 4 < sizeLine by decide), rfl, { s1 with cells := r, left := c }, rfl, q1.popped hc, ?_, em, et, ?_⟩
        · exact (el.trans upd_else2).trans upd_else
        · rw [← ed, hc, drain_lt hl]
  · rw [decide_eq_false hl]
    exact iteF (iteF (fin (drain_ge hl)))
theorem max_one {m : Int} : (if m > 1 then m else 1) = (if m < 2 then 1 else m) := by
  by_cases h : m < 2
  · rw [if_pos h, if_neg (by omega)]
  · rw [if_neg h, if_pos (by omega)]
theorem pick1_reads {K : PySem.W.Frag} {D : Ends} {a b : V} {H : Hp} {o2 o3 : Option V} (h : spPick true [a, b] H D.rt) : tPick1 K D [some a, some b, o2, o3] H := by
  obtain ⟨sp, cc, s, m, e, q, hm, k⟩ := h
  cases e
  refine drain1_reads (sp := sp) rfl rfl q (fun h1 => ?_) fun h1 H1 e1 q1 => ?_
  · have e2 : pickS true s m = (0, { s with left := s.left / 1 }) := by
      unfold pickS
      rw [if_pos h1]; rfl
    rw [e2] at k
    refine tF_left q rfl ⟨_, rfl, _, _, rfl, rfl, _, rfl, ?_⟩
    rw [decide_eq_true h1]
    refine iteT (iteT ⟨_, rfl, _, rfl, _, _, rfl, ?_⟩)
    rw [max_one, if_pos h1]
    refine ⟨_, _, rfl, rfl, ⟨by decide, by decide⟩, put_left rfl q ?_⟩
    refine ⟨_, rfl, .inl ⟨_, rfl, _, rfl, _, _, rfl, ?_⟩⟩
    rw [max_one, if_pos h1]
    refine ⟨_, _, rfl, rfl, (show (0 : Int) < 1 by decide), ?_⟩
    have z : V.int (s.left % 1) = V.int 0 := by rw [Int.emod_one]
    show D.rt (V.int (s.left % 1)) _
    rw [z]
    exact k _ upd_else (q.field _ rfl)
  · generalize hd : drain s.cells s.left = cl at *
    obtain ⟨cs, l⟩ := cl
    refine tF_left q1 rfl ⟨_, rfl, _, _, rfl, rfl, _, rfl, ?_⟩
    rw [decide_eq_false h1]
    refine iteF ⟨_, rfl, _, _, rfl, rfl, _, rfl, ?_⟩
    by_cases h2 : 1 < l
    · have e2 : pickS true s m = (l % m, { s with cells := cs, left := l / m }) := by
        unfold pickS
        rw [if_neg h1, hd]
        exact if_pos h2
      rw [e2] at k
      rw [decide_eq_true h2]
      refine iteT ⟨_, rfl, _, rfl, _, _, rfl, ?_⟩
      rw [max_one, if_neg h1]
      refine ⟨_, _, rfl, rfl, ⟨by omega, hm⟩, put_left rfl q1 ?_⟩
      refine ⟨_, rfl, .inl ⟨_, rfl, _, rfl, _, _, rfl, ?_⟩⟩
      rw [max_one, if_neg h1]
      refine ⟨_, _, rfl, rfl, (show (0 : Int) < m by omega), ?_⟩
      exact k _ (e1.trans upd_else) (q1.field _ rfl)
    · have e2 : pickS true s m = ((((s.mixed + (s.turn + 1) * 104729) % 998244353) * ((s.mixed + (s.turn + 1) * 104729) % 998244353) + (s.turn + 1) * 17) % 2147483647 / 16 % m,
          { cells := cs, left := l, mixed := (((s.mixed + (s.turn + 1) * 104729) % 998244353) * ((s.mixed + (s.turn + 1) * 104729) % 998244353) + (s.turn + 1) * 17) % 2147483647, turn := s.turn + 1 }) := by
        unfold pickS
        rw [if_neg h1, hd]
        exact if_neg h2
      rw [e2] at k
      rw [decide_eq_false h2]
      refine iteF (tF_turn q1 rfl ⟨_, _, rfl, rfl, put_turn rfl q1 ?_⟩)
      have q2 := q1.field { s with cells := cs, left := l, turn := s.turn + 1 } rfl
      refine tF_mixed q2 rfl (tF_turn q2 rfl ⟨_, _, rfl, rfl, cmul_r (by decide) (by decide), _, _, rfl, rfl, .inl ⟨_, rfl, _, _, rfl, rfl, (show (0 : Int) < 998244353 by decide), ?_⟩⟩)
      refine ⟨_, rfl, _, rfl, _, _, rfl, rfl, cmul_r ?_ ?_, tF_turn q2 rfl ⟨_, _, rfl, rfl, cmul_r (by decide) (by decide), _, _, rfl, rfl, .inl ⟨_, rfl, _, _, rfl, rfl, (show (0 : Int) < 2147483647 by decide), ?_⟩⟩⟩
      · have := Int.emod_nonneg (s.mixed + (s.turn + 1) * 104729) (b := 998244353) (by decide); show -(2 ^ 64) < (s.mixed + (s.turn + 1) * 104729) % 998244353; omega
      · have := Int.emod_lt_of_pos (s.mixed + (s.turn + 1) * 104729) (b := 998244353) (by decide); show (s.mixed + (s.turn + 1) * 104729) % 998244353 < 2 ^ 64; omega
      refine ⟨_, rfl, put_mixed rfl q2 ?_⟩
      refine ⟨_, rfl, _, _, rfl, rfl, ⟨by decide, by decide⟩, .inl ⟨_, rfl, _, rfl, _, _, rfl, rfl, (show (0 : Int) < m by omega), ?_⟩⟩
      exact k _ ((e1.trans upd_else).trans upd_else) (q2.field _ rfl)
/-! ### making a source -/
def absI (i : Int) : Int := if i < 0 then -i else i
abbrev rAbsi : List V → Hp → VK → Prop := fun xs H Q => ∃ i, xs = [.int i] ∧ Q (.int (if i < 0 then -i else i)) H
def spSrc (K : PySem.W.Frag) : SpG := fun vs H Q => ∃ (a : Addr) (ns : List Int), vs = [.ref a] ∧ SqL K H a (ns.map V.int) ∧ ns.length ≤ 1000 ∧ ∀ sp cc s H', H sp = none → H cc = none → Same H H' → SrcAt sp cc H' s → Q (.ref sp) H'
abbrev tStir0 (K : PySem.W.Frag) (t : TS) : TS := tSeq (tAsg (tC (.int 11)) (gName 1))
  (tSeq (tFor (iList K (tVar 0)) (gName 2) (tAsg (tOp rModi (tI (tOp rAddi (tOp rAddi (tOp rMuli (tVar 1) (tC (.int 69069))) (tOp rMuli (tVar 2) (tC (.int 31)))) (tC (.int 5)))) (tC (.int 2147483629))) (gName 1))) t)
abbrev tAbsL (K : PySem.W.Frag) : TE := tLc (iList K (tVar 0)) (gName 2) tYes (tCB rAbsi (tCons (tVar 2) tNil)) [2]
abbrev tDictS (t : TE) : TS := tRet (tDisp [(tC (.str "cells"), t), (tC (.str "left"), tC (.int 1)), (tC (.str "mixed"), tVar 1), (tC (.str "turn"), tC (.int 0))])
abbrev tSrcA (K : PySem.W.Frag) : TS := tStir0 K (tSeq (tAsg (tAbsL K) (gName 3)) (tDictS (tRevL K (tVar 3))))
abbrev tSrcB (K : PySem.W.Frag) : TS := tStir0 K (tDictS (tRevL K (tAbsL K)))
theorem stir_reads {K : PySem.W.Frag} {D : Ends} {a : Addr} {ns : List Int} {H : Hp} {o1 o2 : Option V} {r : L2.St} {t : TS} (h : SqL K H a (ns.map V.int)) (k : ∀ x o, t D (some (.ref a) :: some (.int x) :: o :: r) H) : tStir0 K t D (some (.ref a) :: o1 :: o2 :: r) H := by
  refine ⟨_, rfl, a, rfl, ⟨_, h⟩, ?_⟩
  refine for_list (fun _ σ1 H1 => H1 = H ∧ ∃ x o, σ1 = some (.ref a) :: some (.int x) :: o :: r) ⟨rfl, _, _, rfl⟩ (fun i σ1 H1 _ ⟨e, _⟩ => e ▸ h) ?_ ?_
  · rintro i v σ1 H1 hv ⟨rfl, x, o, rfl⟩
    obtain ⟨z, rfl⟩ : ∃ z, v = V.int z := by
      rw [List.getElem?_map] at hv
      obtain ⟨z, _, e⟩ := Option.map_eq_some_iff.mp hv
      exact ⟨z, e.symm⟩
    refine ⟨_, rfl, _, _, rfl, rfl, cmul_r (by decide) (by decide), _, rfl, _, _, rfl, rfl, cmul_r (by decide) (by decide), _, _, rfl, rfl, _, _, rfl, rfl, .inl ⟨_, rfl, _, _, rfl, rfl, (show (0 : Int) < 2147483629 by decide), rfl, _, _, rfl⟩⟩
  · rintro σ1 H1 ⟨rfl, x, o, rfl⟩
    exact k x o
theorem abs_reads {K : PySem.W.Frag} {Q : VK} {a : Addr} {ns : List Int} {H : Hp} {x : Int} {o : Option V} {r : L2.St} (h : SqL K H a (ns.map V.int)) (hl : ns.length ≤ 1000)
    (k : ∀ p, H p = none → Q (.ref p) (upd H p (.lst ((ns.map absI).map V.int)))) : tAbsL K (some (.ref a) :: some (.int x) :: o :: r) H Q := by
  refine ⟨_, rfl, a, rfl, ⟨_, h⟩, fun p hp => ?_⟩
  refine lc_list (xs := ns.map V.int) (fun i H' => H' = upd H p (.lst (((ns.take i).map absI).map V.int))) rfl (fun i H' _ e => ?_) (fun i v H' hv e => ?_) fun H' e => ?_
  · subst e
    exact (Same.upd' hp).seq h
  · subst e
    rw [List.getElem?_map] at hv
    obtain ⟨z, hz, rfl⟩ := Option.map_eq_some_iff.mp hv
    refine ⟨rfl, ?_⟩
    show tCB rAbsi (tCons (tVar 2) tNil) (some (.ref a) :: some (.int x) :: some (V.int z) :: r) _ _
    refine ⟨_, rfl, _, rfl, _, upd_same, ?_, ?_⟩
    · rw [List.length_map, List.length_map, List.length_take]
      have : (1000 : Nat) < sizeLine := by decide
      omega
    · have e : ns.take (i + 1) = ns.take i ++ [z] := by rw [List.take_succ, hz]; rfl
      rw [e, List.map_append, List.map_append, upd_upd]; rfl
  · subst e
    have e : ns.take (ns.map V.int).length = ns := by rw [List.length_map, List.take_length]
    show Q _ (upd H p (.lst (((ns.take (ns.map V.int).length).map absI).map V.int)))
    rw [e]
    exact k p hp
theorem dict_reads {K : PySem.W.Frag} {D : Ends} {H : Hp} {σ : L2.St} {t : TE} {x : Int} {cs : List Int} (h1 : σ[1]? = some (some (.int x)))
    (ht : ∀ p, H p = none → ∀ Q : VK, (∀ q H', H' q = some (.lst (cs.reverse.map V.int)) → H' p = some (.dK []) → H q = none → Same H H' → Q (.ref q) H') → t σ (upd H p (.dK [])) Q)
    (k : ∀ sp cc s H', H sp = none → H cc = none → Same H H' → SrcAt sp cc H' s → D.rt (.ref sp) H') : tDictS t D σ H := by
  intro p hp
  show t σ (upd H p (.dK [])) _
  refine ht p hp _ fun q H' e1 e2 hq sm => ?_
  have nq : q ≠ p := fun z => by rw [z, e2] at e1; cases e1
  refine ⟨_, h1, e2, [(.inr "cells", .ref q), (.inr "left", .int 1), (.inr "mixed", .int x), (.inr "turn", .int 0)], rfl, (show 4 ≤ 15 by decide), ?_⟩
  refine k p q ⟨cs, 1, x, 0⟩ _ hp hq (fun b o z => ?_) ⟨?_, ?_⟩
  · rw [upd_ne (fun y => by rw [y, hp] at z; cases z)]
    exact sm b o z
  · rw [upd_same]; rfl
  · rw [upd_ne nq]
    exact e1
theorem srcA_reads {K : PySem.W.Frag} {D : Ends} {a : V} {H : Hp} {o1 o2 o3 : Option V} (h : spSrc K [a] H D.rt) : tSrcA K D [some a, o1, o2, o3] H := by
  obtain ⟨a, ns, e, hs, hl, k⟩ := h
  cases e
  refine stir_reads hs fun x o => abs_reads (Q := fun v H1 => gName 3 v _ H1 _) hs hl fun p hp => ?_
  refine dict_reads (x := x) (cs := ns.map absI) (K := K) rfl (fun p2 hp2 Q k2 => ?_) fun sp cc s H' e1 e2 sm q => ?_
  · have n : p ≠ p2 := fun z => by rw [← z, upd_same] at hp2; cases hp2
    refine ⟨_, rfl, p, _, rfl, .of (by rw [upd_ne n]; exact upd_same), fun q hq => ?_⟩
    have n2 : q ≠ p2 := fun z => by rw [z, upd_same] at hq; cases hq
    rw [upd_ne n2] at hq
    refine k2 q _ ?_ ?_ hq fun b o z => ?_
    · rw [upd_same, List.map_reverse]
    · rw [upd_ne (Ne.symm n2)]; exact upd_same
    · rw [upd_ne (fun y => by rw [y, hq] at z; cases z), upd_ne (fun y => by rw [y, hp2] at z; cases z)]; exact z
  · have back : ∀ {b : Addr}, upd H p (.lst ((ns.map absI).map V.int)) b = none → H b = none := fun {b} z => by
      by_cases y : b = p
      · subst y; rw [upd_same] at z; cases z
      · rw [upd_ne y] at z; exact z
    exact k sp cc s H' (back e1) (back e2) ((Same.upd' hp).trans sm) q
theorem srcB_reads {K : PySem.W.Frag} {D : Ends} {a : V} {H : Hp} {o1 o2 : Option V} (h : spSrc K [a] H D.rt) : tSrcB K D [some a, o1, o2] H := by
  obtain ⟨a, ns, e, hs, hl, k⟩ := h
  cases e
  refine stir_reads hs fun x o => ?_
  refine dict_reads (x := x) (cs := ns.map absI) (K := K) rfl (fun p2 hp2 Q k2 => ?_) fun sp cc s H' e1 e2 sm q => k sp cc s H' e1 e2 sm q
  refine abs_reads (Q := fun x H1 => ∃ a xs, x = .ref a ∧ SqL K H1 a xs ∧ ∀ p, H1 p = none → Q (.ref p) (upd H1 p (.lst xs.reverse))) ((Same.upd' hp2).seq hs) hl fun p hp => ⟨p, _, rfl, .of upd_same, fun q hq => ?_⟩
  have n : p ≠ p2 := fun z => by rw [z, upd_same] at hp; cases hp
  have n1 : q ≠ p := fun z => by rw [z, upd_same] at hq; cases hq
  rw [upd_ne n1] at hq
  have n2 : q ≠ p2 := fun z => by rw [z, upd_same] at hq; cases hq
  rw [upd_ne n2] at hq
  rw [upd_ne n] at hp
  refine k2 q _ ?_ ?_ hq fun b o z => ?_
  · rw [upd_same, List.map_reverse]
  · rw [upd_ne (Ne.symm n2), upd_ne (Ne.symm n)]; exact upd_same
  · rw [upd_ne (fun y => by rw [y, hq] at z; cases z), upd_ne (fun y => by rw [y, hp] at z; cases z), upd_ne (fun y => by rw [y, hp2] at z; cases z)]; exact z
end Fz
/-! FzO: calls; the look at expressions. -/
namespace Fz
open PySem PySem.Spec PyProof.Rows L2
/-- the promise of the f-th def of the program -/
def spCall (K : PySem.W.Frag) (c : Cl) (f : Nat) : SpG := fun vs H Q => ∃ sp cc F ds s d s', Same F H ∧ SrcAt sp cc H s ∧ F sp = none ∧ F cc = none ∧ RpA K sp F vs ds ∧ c f ds s = some (d, s') ∧
  ∀ x F' H', Fw sp cc F H F' H' s' → Rp K sp F' x d → Q x H'
/-- what the text calls -/
structure Lk where
  fns : List Str
  pick : Str
structure CallOk (X : Cx) (x : Str) (sp : SpG) : Prop where
  ex : ∃ a fd ps k, X.mg x = some (.ref a) ∧ PySem.W.keepIn X.K (.ref a) = true ∧ Binds X.K fd ps [] ∧ FnG X.prog X.w X.K X.mg X.base k a fd ps sp ∧ Room k X.A
def frees : List Str := ["len", "abs", "tuple", "list", "int", "bool", "sum", "any", "all", "max", "min", "repr", "sorted", "range", "enumerate", "zip", "isinstance", "str", "dict", "set", "type"]
structure XOk (X : Cx) (G : Gx) (L : Lk) (S : Sx) : Prop where
  hK : X.K = G.K
  N : X.N = S.N
  nd : X.N.Nodup
  sc : X.env.scope = S.sc
  fn : ∀ x, S.fn x = true → X.fn x = true
  calm : X.calm = true
  gu : X.A.guards = some []
  un : X.A.units + 70 < cLine
  xe : X.xe = fun _ _ => False
  free : ∀ x ∈ frees, X.mg x = none
  call : ∀ f x, L.fns[f]? = some x → CallOk X x (spCall G.K G.c f)
  pick : CallOk X L.pick (spPick G.v)
def Sx.blk (S : Sx) (scope : Scope) : Sx := ⟨S.N, relS scope S.sc, fun x => scope.names.lookup x == some .cell⟩
theorem XOk.blk {X : Cx} {G : Gx} {L : Lk} {S : Sx} (h : XOk X G L S) (s : Shared) (H : Hp) (scope : Scope) (C : Addr) (cl : List (Str × Addr)) (fp : List Addr) : XOk (X.blk s H scope (compEnvC scope cl C X.env) fp) G L (S.blk scope) where
  hK := h.hK
  N := h.N
  nd := h.nd
  sc := by show relS scope X.env.scope = relS scope S.sc; rw [h.sc]
  fn := fun x q => q
  calm := h.calm
  gu := h.gu
  un := h.un
  xe := rfl
  free := h.free
  call := fun f x e => ⟨(h.call f x e).ex⟩
  pick := ⟨h.pick.ex⟩
def glB (S : Sx) (x : Str) : Bool := decide (S.sc.names.lookup x = some .globalImplicit) && !(x == ("__debug__" : Str))
section
variable {X : Cx} {G : Gx} {L : Lk} {S : Sx}
theorem glB_ok (h : XOk X G L S) {x : Str} (g : glB S x = true) : Gl X x ∧ (x == ("__debug__" : Str)) = false := by
  obtain ⟨h1, h2⟩ := Bool.and_eq_true_iff.mp g
  refine ⟨?_, by simpa using h2⟩
  show X.env.scope.names.lookup x = some .globalImplicit
  rw [h.sc]
  exact of_decide_eq_true h1
theorem ok_callF {f : Nat} {args : List E} {x : Str} {p pos : Pos} {e : Expr} {es : List Expr} (h : XOk X G L S) (hf : L.fns[f]? = some x) (g : glB S x = true) (hs : isStarX e = false) (hr : es.all (fun e => !isStarX e) = true) (ha : PA X (e :: es) (RdL G args)) :
    OkE X G (.call f args) (.Call (.Name x p) (e :: es) [] pos) := by
  obtain ⟨a, fd, ps, k, hm, hk, hb, F, hr2⟩ := (h.call f x hf).ex
  obtain ⟨g1, g2⟩ := glB_ok h g
  refine okV h.hK (pe_imp (pe_callG F hr2 h.gu g1 hm hk hb ha g2 (starEach_no hs _ _) (any_no hr)) fun σ H Q ⟨g, en, F, s, d, s', R, off, he, k⟩ => ?_) rfl fun _ _ => rfl
  obtain ⟨ds, s1, h1, h2⟩ := bnd_some he
  refine ⟨g, en, F, s, ds, s1, R, off, h1, fun xs F' H' f' ra => ?_⟩
  have R2 := R.step f'
  exact ⟨G.sp, G.cc, F', ds, s1, d, s', f'.sub, f'.src, R2.fsp, R2.fcc, ra, h2, fun x F2 H2 f2 r => k x F2 H2 (f'.trans f2) r⟩
theorem ok_pickF {a b : E} {p pos : Pos} {ea eb : Expr} (h : XOk X G L S) (g : glB S L.pick = true) (h1 : isStarX ea = false) (h2 : isStarX eb = false) (ha : PE X ea (RdV G a)) (hb : PE X eb (RdV G b)) : OkE X G (.pick a b) (.Call (.Name L.pick p) [ea, eb] [] pos) := by
  obtain ⟨ad, fd, ps, k, hm, hk, hbd, F, hr2⟩ := h.pick.ex
  obtain ⟨g1, g2⟩ := glB_ok h g
  refine okV h.hK (pe_imp (pe_callG F hr2 h.gu g1 hm hk hbd (pa_cons ha (pa_cons hb pa_nil (starEach_no h2 _ _)) (starEach_no h1 _ _)) g2 (starEach_no h1 _ _) (any_no (by simp [h2]))) fun σ H Q ⟨g, en, F, s, d, s', R, off, he, k⟩ => ?_) rfl fun _ _ => rfl
  obtain ⟨d1, s1, e1, e2⟩ := bnd_some he
  obtain ⟨d2, s2, e3, e4⟩ := bnd_some e2
  refine ⟨g, en, F, s, d1, s1, R, off.l, e1, fun x F1 H1 f1 r1 => ⟨g, en, F1, s1, d2, s2, R.step f1, off.r, e3, fun y F2 H2 f2 r2 => ?_⟩⟩
  cases d2 with
  | int m =>
    have e5 : (if isSrc d1 = true then pickM G.v m else fun _ => none) s2 = some (d, s') := e4
    by_cases q : isSrc d1 = true
    · rw [if_pos q] at e5
      have e6 : (if m < 1073741824 then some (PyData.int (pickS G.v s2 m).1, (pickS G.v s2 m).2) else none) = some (d, s') := e5
      by_cases q2 : m < 1073741824
      · rw [if_pos q2] at e6
        cases e6
        have ex : x = .ref G.sp := by
          have r1' := r1
          unfold isSrc at q
          split at q
          · exact r1.isSrc
          · cases q
        rw [ex, r2.int']
        have R2 := (R.step f1).step f2
        refine ⟨G.sp, G.cc, s2, m, rfl, f2.src, q2, fun H' el sa => ?_⟩
        exact k _ F2 H' ((f1.trans f2).trans (el.fw f2.sub R2.fsp R2.fcc sa)) (.int _)
      · rw [if_neg q2] at e6; cases e6
    · rw [if_neg q] at e5; cases e5
  | _ => cases e4
theorem ok_biF {b : Bi} {args : List E} {p pos : Pos} {e : Expr} {es : List Expr} (h : XOk X G L S) (g : glB S b.str = true) (hs : isStarX e = false) (hr : es.all (fun e => !isStarX e) = true) (ha : PA X (e :: es) (RdBL G args)) :
    OkN X G (.bi b args) (.Call (.Name b.str p) (e :: es) [] pos) := by
  obtain ⟨g1, g2⟩ := glB_ok h g
  have hm : X.mg b.str = none := h.free _ (by cases b <;> decide)
  have nn : b.str ≠ "__name__" := by cases b <;> decide
  have cr := bi_ok (X := X) (G := G) b h.hK h.calm h.gu (by have := h.un; omega)
  have pe : PE X (.Call (.Name b.str p) (e :: es) [] pos) (tCB (rBi (G := G) (biV b)) (RdBL G args)) := by
    by_cases ht : b.isT = true
    · refine pe_callTy (T := b.name) ?_ g1 hm ?_ ha nn g2 (starEach_no hs _ _) (any_no hr)
      · have e : b.val = .type b.name := if_pos ht
        rw [e] at cr; exact cr
      · have e : b.val = .type b.name := if_pos ht
        rw [Bi.boot, e]
    · refine pe_callB (id := b.name) ?_ g1 hm ?_ ha nn g2 (starEach_no hs _ _) (any_no hr)
      · have e : b.val = .builtin b.name := if_neg ht
        rw [e] at cr; exact cr
      · have e : b.val = .builtin b.name := if_neg ht
        rw [Bi.boot, e]
  refine okN h.hK (pe_imp pe fun σ H Q ⟨g, en, F, s, d, s', R, off, he, k⟩ => ?_) rfl fun _ _ => rfl
  obtain ⟨ds, s1, h1, h2⟩ := bnd_some he
  obtain ⟨h3, rfl⟩ := lift_some h2
  refine ⟨g, en, F, s, ds, s', R, off, h1, fun xs F' H' f' ra => ?_⟩
  have R2 := R.step f'
  exact ⟨F', s', ds, d, f'.sub, f'.src, R2.fsp, R2.fcc, ra, h3, fun z F2 H2 f2 r => k z F2 H2 (f'.trans f2) (r.back f')⟩
end
end Fz
/-! FzOa: list(range(..)), tuple(range(..)). -/
namespace Fz
open PySem PySem.Spec PyProof.Rows L2
section
variable {X : Cx} {G : Gx} {L : Lk} {S : Sx}
theorem rpA_rng {K : PySem.W.Frag} {sp : Addr} {F : Hp} (a b : Int) : RpA K sp F (rgV a b) (rngL a (b - a).toNat) := by
  unfold rgV rngL
  generalize List.range (b - a).toNat = l
  induction l with
  | nil => exact .nil
  | cons x l ih => exact .cons (.int _) ih
def RdRg (G : Gx) (args : List E) : L2.St → Hp → (Int → Int → Hp → Prop) → Prop := fun σ H Q => ∃ g en F s a b s', Rl G.K G.sp G.cc g en σ F H s ∧ Off g (lkBL args) ∧ evE G.v G.c (.rng args) en s = some (.list (rngL a (b - a).toNat), s') ∧ RgOk a b ∧
  ((∃ x, args = [x] ∧ a = 0 ∧ evE G.v G.c x en s = some (.int b, s')) ∨ ∃ x y s1, args = [x, y] ∧ evE G.v G.c x en s = some (.int a, s1) ∧ evE G.v G.c y en s1 = some (.int b, s')) ∧
  ∀ F' H', Fw G.sp G.cc F H F' H' s' → Q a b H'
theorem rg_ok {i j : Int} (h1 : inR i = true) (h2 : inR j = true) (h3 : small (j - i).toNat = true) : RgOk i j := by
  obtain ⟨a1, a2⟩ := inR_ok h1
  obtain ⟨b1, b2⟩ := inR_ok h2
  have h4 : (j - i).toNat ≤ 16000000 := of_decide_eq_true h3
  exact ⟨a1, a2, b1, b2, by omega⟩
theorem evRng {v : Bool} {c : Cl} {args : List E} {en : En} {s s' : Src} {d : D} (hs : ∀ e ∈ args, isStarE e = false) (he : evE v c (.rng args) en s = some (d, s')) : ∃ a b, d = .list (rngL a (b - a).toNat) ∧ RgOk a b ∧
    ((∃ x, args = [x] ∧ a = 0 ∧ evE v c x en s = some (.int b, s')) ∨ ∃ x y s1, args = [x, y] ∧ evE v c x en s = some (.int a, s1) ∧ evE v c y en s1 = some (.int b, s')) := by
  obtain ⟨ds, s1, h1, h⟩ := bnd_some he
  obtain ⟨h2, rfl⟩ := lift_some h
  obtain ⟨l, h3, h4⟩ := Option.bind_eq_some_iff.mp h2
  obtain ⟨l2, h5, rfl⟩ := Option.map_eq_some_iff.mp h4
  obtain ⟨hz, rfl⟩ := if_some h5
  match args, hs, h1 with
  | [], _, h1 =>
    obtain ⟨rfl, _⟩ := ret_some h1
    cases h3
  | [x], hs, h1 =>
    rw [evL_cons (hs x (by simp))] at h1
    obtain ⟨d1, s2, q1, q⟩ := bnd_some h1
    obtain ⟨d2, s3, q2, q⟩ := bnd_some q
    obtain ⟨rfl, rfl⟩ := ret_some q
    obtain ⟨rfl, rfl⟩ := ret_some q2
    cases d1 with
    | int j =>
      have h6 : (if inR j = true then some (rngL 0 j.toNat) else none) = some l := h3
      obtain ⟨hj, rfl⟩ := if_some h6
      rw [rngL_len] at hz
      refine ⟨0, j, by rw [Int.sub_zero], rg_ok (by decide) hj (by rw [Int.sub_zero]; exact hz), .inl ⟨x, rfl, rfl, q1⟩⟩
    | _ => cases h3
  | [x, y], hs, h1 =>
    rw [evL_cons (hs x (by simp))] at h1
    obtain ⟨d1, s2, q1, q⟩ := bnd_some h1
    obtain ⟨d2, s3, q2, q⟩ := bnd_some q
    obtain ⟨rfl, rfl⟩ := ret_some q
    rw [evL_cons (hs y (by simp))] at q2
    obtain ⟨d3, s4, q3, q⟩ := bnd_some q2
    obtain ⟨d4, s5, q4, q⟩ := bnd_some q
    obtain ⟨rfl, rfl⟩ := ret_some q
    obtain ⟨rfl, rfl⟩ := ret_some q4
    cases d1 with
    | int i => cases d3 with
      | int j =>
        have h6 : (if (inR i && inR j) = true then some (rngL i (j - i).toNat) else none) = some l := h3
        obtain ⟨hj, rfl⟩ := if_some h6
        rw [rngL_len] at hz
        rw [Bool.and_eq_true] at hj
        exact ⟨i, j, rfl, rg_ok hj.1 hj.2 hz, .inr ⟨x, y, s2, rfl, q1, q3⟩⟩
      | _ => cases h3
    | _ => cases h3
  | x :: y :: z :: r, hs, h1 =>
    exfalso
    rw [evL_cons (hs x (by simp))] at h1
    obtain ⟨d1, s2, q1, q⟩ := bnd_some h1
    obtain ⟨d2, s3, q2, q⟩ := bnd_some q
    obtain ⟨rfl, rfl⟩ := ret_some q
    rw [evL_cons (hs y (by simp))] at q2
    obtain ⟨d3, s4, q3, q⟩ := bnd_some q2
    obtain ⟨d4, s5, q4, q⟩ := bnd_some q
    obtain ⟨rfl, rfl⟩ := ret_some q
    have ne : d4 ≠ [] := by
      rintro rfl
      by_cases hz2 : isStarE z = true
      · exact absurd hz2 (by rw [hs z (by simp)]; decide)
      · rw [evL_cons (hs z (by simp))] at q4
        obtain ⟨_, _, _, q⟩ := bnd_some q4
        obtain ⟨_, _, _, q⟩ := bnd_some q
        obtain ⟨e, _⟩ := ret_some q
        cases e
    cases d4 with
    | nil => exact ne rfl
    | cons w d4 =>
      cases d1 <;> cases d3 <;> cases h3
theorem prg_ok1 {a : E} {ea : Expr} {p pos : Pos} (hg : Gl X "range") (hm : X.mg "range" = none) (hs : isStarX ea = false) (ha : PE X ea (RdB G a)) : PRg X (.Call (.Name "range" p) [ea] [] pos) (RdRg G [a]) := fun pins s σ H Q I ⟨g, en, F, sr, i, j, s', R, off, he, ok, o, k⟩ =>
  prg_1 hg hm ha (starEach_no hs _ _) pins s σ H Q I (by
    rcases o with ⟨x, e, rfl, hx⟩ | ⟨x, y, s1, e, _⟩
    · cases e
      exact ⟨g, en, F, sr, _, s', R, (fun i hi => off i (by simp [lkBL, hi])), hx, fun x F' H' f r => ⟨j, r.int, k F' H' f⟩⟩
    · cases e)
theorem prg_ok2 {a b : E} {ea eb : Expr} {p pos : Pos} (hg : Gl X "range") (hm : X.mg "range" = none) (hs : isStarX ea = false) (hs2 : isStarX eb = false) (ha : PE X ea (RdB G a)) (hb : PE X eb (RdB G b)) : PRg X (.Call (.Name "range" p) [ea, eb] [] pos) (RdRg G [a, b]) := fun pins s σ H Q I ⟨g, en, F, sr, i, j, s', R, off, he, ok, o, k⟩ =>
  prg_2 hg hm ha hb (starEach_no hs _ _) (starEach_no hs2 _ _) (by rw [starEach_no hs2]; rfl) pins s σ H Q I (by
    rcases o with ⟨x, e, _⟩ | ⟨x, y, s1, e, hx, hy⟩
    · cases e
    · cases e
      exact ⟨g, en, F, sr, _, s1, R, (fun i hi => off i (by simp [lkBL, hi])), hx, fun x F1 H1 f1 r1 => ⟨g, en, F1, s1, _, s', R.step f1, (fun i hi => off i (by simp [lkBL, hi])), hy, fun y F2 H2 f2 r2 => ⟨i, j, r1.int, r2.int, k F2 H2 (f1.trans f2)⟩⟩⟩)
theorem ok_rngTo {b : Bi} {args : List E} {ex : Expr} {p pos : Pos} (h : XOk X G L S) (hb : b = .list ∨ b = .tuple) (g : glB S b.str = true) (hs : ∀ e ∈ args, isStarE e = false) (hx : isStarX ex = false) (hr : PRg X ex (RdRg G args)) :
    OkN X G (.bi b [.rng args]) (.Call (.Name b.str p) [ex] [] pos) := by
  obtain ⟨g1, g2⟩ := glB_ok h g
  have ev : ∀ {en s d s'}, evE G.v G.c (.bi b [.rng args]) en s = some (d, s') → ∃ x, evE G.v G.c (.rng args) en s = some (x, s') ∧ biV b [x] = some d := fun {en s d s'} he => by
    obtain ⟨ds, s1, h1, h2⟩ := bnd_some he
    obtain ⟨h3, rfl⟩ := lift_some h2
    rw [evL_cons rfl] at h1
    obtain ⟨d1, s2, q1, q⟩ := bnd_some h1
    obtain ⟨d2, s3, q2, q⟩ := bnd_some q
    obtain ⟨rfl, rfl⟩ := ret_some q
    obtain ⟨rfl, rfl⟩ := ret_some q2
    exact ⟨d1, q1, h3⟩
  have lkE : lkB (.bi b [.rng args]) = lkBL args ++ [] := rfl
  rcases hb with rfl | rfl
  · refine okN h.hK (pe_imp (pe_listRg h.calm g1 (h.free _ (by decide)) hr (starEach_no hx _ _)) fun σ H Q ⟨g, en, F, s, d, s', R, off, he, k⟩ => ?_) rfl fun _ _ => rfl
    obtain ⟨x, e1, e2⟩ := ev he
    obtain ⟨i, j, rfl, ok, o⟩ := evRng hs e1
    cases e2
    exact ⟨g, en, F, s, i, j, s', R, off.l, e1, ok, o, fun F' H' f => ⟨ok, fun q hq => new_list f.sub f.src (R.step f).fsp (R.step f).fcc (rpA_rng i j) (fun z F4 H4 f4 hz => k _ _ _ (f.trans f4) (hz.back f)) q hq⟩⟩
  · refine okN h.hK (pe_imp (pe_tupRg h.calm g1 (h.free _ (by decide)) hr (starEach_no hx _ _)) fun σ H Q ⟨g, en, F, s, d, s', R, off, he, k⟩ => ?_) rfl fun _ _ => rfl
    obtain ⟨x, e1, e2⟩ := ev he
    obtain ⟨i, j, rfl, ok, o⟩ := evRng hs e1
    cases e2
    exact ⟨g, en, F, s, i, j, s', R, off.l, e1, ok, o, fun F' H' f => ⟨ok, fun q hq => new_tup f.sub f.src (rpA_rng i j) (fun z F4 H4 f4 hz => k _ _ _ (f.trans f4) (hz.back f)) q hq⟩⟩
end
end Fz
/-! FzP: the look at expressions. -/
namespace Fz
open PySem PySem.Spec PyProof.Rows L2
def allB (f : E → Expr → Bool) : List E → List Expr → Bool
  | [], [] => true
  | e :: es, x :: xs => !isStarE e && !isStarX x && f e x && allB f es xs
  | _, _ => false
def allS (f : E → Expr → Bool) : List E → List Expr → Bool
  | [], [] => true
  | e :: es, x :: xs => (match e with
    | .star a => (match x with
      | .Starred y _ => f a y
      | _ => false)
    | e => !isStarX x && f e x) && allS f es xs
  | _, _ => false
def optB (f : E → Expr → Bool) : Option E → Option Expr → Bool
  | none, none => true
  | some e, some x => f e x
  | _, _ => false
def ifB (f : E → Expr → Bool) : Option E → List Expr → Bool
  | none, [] => true
  | some e, [x] => f e x
  | _, _ => false
def visB (S : Sx) (i : Nat) (x : Str) : Bool := decide (S.N[i]? = some x) && (decide (S.sc.names.lookup x = some .local) || decide (S.sc.names.lookup x = some .cell) || decide (S.sc.names.lookup x = some .free)) && !(x == ("__debug__" : Str)) && !(x == ("__classdict__" : Str))
def locB (S : Sx) (i : Nat) (x : Str) : Bool := decide (S.N[i]? = some x) && (decide (S.sc.names.lookup x = some .local) || (decide (S.sc.names.lookup x = some .cell) && S.fn x))
def noSet : Expr → Bool
  | .Set .. => false
  | _ => true
def mT : Nat → Sx → Tg → Expr → Bool
  | 0, _, _, _ => false
  | n + 1, S, t, x => match t with
    | .name i => (match x with
      | .Name y _ => locB S i y
      | _ => false)
    | .tup ts => (match x with
      | .Tuple es _ _ => es.all (fun e => !isStarX e) && decide (es.length = ts.length) && (ts.zip es).all fun p => mT n S p.1 p.2
      | _ => false)
def tgOwn (S : Sx) (t : Tg) : List (Str × Nat) := t.slots.map fun i => ((S.N[i]?).getD "", i)
def isTupX : Expr → Bool
  | .Tuple .. => true
  | _ => false
def kwB : Bool → List Keyword → Bool
  | false, [] => true
  | true, [⟨some n, .Constant (.bool true) _ _, _⟩] => decide (n = ("strict" : Str))
  | _, _ => false
def mZ (f : E → Expr → Bool) (S : Sx) : E → Expr → Bool
  | .zip a b true, .Call (.Name x _) [y, z] kws _ => decide (x = ("zip" : Str)) && glB S "zip" && !isStarX y && !isStarX z && f a y && f b z && kwB true kws
  | _, _ => false
def mI (f : E → Expr → Bool) (S : Sx) (tg : Expr) (it : E) (ix : Expr) : Bool := match it with
  | .enum a => (match ix with
    | .Call (.Name x _) [y] [] _ => isTupX tg && decide (x = ("enumerate" : Str)) && glB S "enumerate" && !isStarX y && (f a y || mZ f S a y)
    | _ => false)
  | .zip a b st => (match ix with
    | .Call (.Name x _) [y, z] kws _ => isTupX tg && decide (x = ("zip" : Str)) && glB S "zip" && !isStarX y && !isStarX z && f a y && f b z && kwB st kws
    | _ => false)
  | .rng args => (match ix with
    | .Call (.Name x _) es [] _ => decide (x = ("range" : Str)) && glB S "range" && (decide (es.length = 1) || decide (es.length = 2)) && allB f args es
    | _ => false)
  | it => f it ix
def mE : Nat → Lk → Sx → E → Expr → Bool
  | 0, _, _, _, _ => false
  | n + 1, L, S, e, ex => match e with
    | .non => (match ex with
      | .Constant .none _ _ => true
      | _ => false)
    | .bl b => (match ex with
      | .Constant (.bool c) _ _ => b == c
      | _ => false)
    | .int i => (match ex with
      | .Constant (.int j) _ _ => decide (i = j)
      | _ => false)
    | .str a => (match ex with
      | .Constant (.str b) _ _ => decide (a = b)
      | _ => false)
    | .var i => (match ex with
      | .Name x _ => visB S i x
      | _ => false)
    | .op o a b => (match ex with
      | .BinOp x p y _ => decide (p = o.op) && mE n L S a x && mE n L S b y
      | _ => false)
    | .neg a => (match ex with
      | .UnaryOp p x _ => decide (p = .USub) && mE n L S a x
      | _ => false)
    | .not a => (match ex with
      | .UnaryOp p x _ => decide (p = .Not) && mE n L S a x
      | _ => false)
    | .and a b => (match ex with
      | .BoolOp p (x :: y :: r) pos => decide (p = .And) && mE n L S a x && (match r with
        | [] => mE n L S b y
        | z :: r => mE n L S b (.BoolOp .And (y :: z :: r) pos))
      | _ => false)
    | .or a b => (match ex with
      | .BoolOp p (x :: y :: r) pos => decide (p = .Or) && mE n L S a x && (match r with
        | [] => mE n L S b y
        | z :: r => mE n L S b (.BoolOp .Or (y :: z :: r) pos))
      | _ => false)
    | .ite q a b => (match ex with
      | .IfExp x y z _ => mE n L S q x && mE n L S a y && mE n L S b z
      | _ => false)
    | .cmp o a b => (match ex with
      | .Compare x [p] [y] _ => decide (p = o.op) && !behindInMarks o.op y && mE n L S a x && mE n L S b y
      | _ => false)
    | .chain o1 o2 a b c => (match ex with
      | .Compare x [p, q] [y, z] _ => decide (p = o1.op) && decide (q = o2.op) && !lastMarks [o1.op, o2.op] [y, z] && mE n L S a x && mE n L S b y && mE n L S c z
      | _ => false)
    | .tup es => (match ex with
      | .Tuple xs _ _ => allS (mE n L S) es xs
      | _ => false)
    | .lst es => (match ex with
      | .List xs _ => allS (mE n L S) es xs
      | _ => false)
    | .idx a b => (match ex with
      | .Subscript x y _ => !isSliceX y && mE n L S a x && mE n L S b y
      | _ => false)
    | .slc a lo hi => (match ex with
      | .Subscript x (.Slice l h none _) _ => mE n L S a x && optB (mE n L S) lo l && optB (mE n L S) hi h
      | _ => false)
    | .rev a => (match ex with
      | .Subscript x (.Slice none none (some (.UnaryOp .USub (.Constant (.int i) _ _) _)) _) _ => decide (i = 1) && mE n L S a x
      | _ => false)
    | .call f args => (match ex with
      | .Call (.Name x _) (y :: es) [] _ => decide (L.fns[f]? = some x) && glB S x && allB (mE n L S) args (y :: es)
      | _ => false)
    | .pick a b => (match ex with
      | .Call (.Name x _) [y, z] [] _ => decide (x = L.pick) && glB S L.pick && !isStarX y && !isStarX z && mE n L S a y && mE n L S b z
      | _ => false)
    | .bi b args => (match args with
      | [.rng rs] => (match ex with
        | .Call (.Name x _) [.Call (.Name y _) zs [] _] [] _ => decide (x = b.str) && glB S b.str && (decide (b = .list) || decide (b = .tuple)) && decide (y = ("range" : Str)) && glB S "range" && (decide (zs.length = 1) || decide (zs.length = 2)) && allB (mE n L S) rs zs
        | _ => false)
      | args => (match ex with
        | .Call (.Name x _) (y :: es) [] _ => decide (x = b.str) && glB S b.str && allB (mE n L S) args (y :: es)
        | _ => false))
    | .comp t it ifs elt => (match ex with
      | .ListComp x [⟨tx, ix, ifx, k⟩] scope _ => decide (k = 0) && mI (mE n L S) S tx it ix && blkC S.N S.sc scope (tgOwn S t) && noSet ix && mT n (S.blk scope) t tx && ifB (mE n L (S.blk scope)) ifs ifx && mE n L (S.blk scope) elt x
      | _ => false)
    | .meth m a b => (match ex with
      | .Call (.Attribute (.Name x p) w apos) [y] [] cpos => decide (m = .index) && decide (w = ("index" : Str)) && !isStarX y && (apos.endLine == cpos.line) && mE n L S a (.Name x p) && mE n L S b y
      | _ => false)
    | .dps a => (match ex with
      | .Call (.Name x _) [y] [] _ => decide (x = ("dict" : Str)) && glB S "dict" && !isStarX y && mE n L S a y
      | _ => false)
    | .dzip a b st => (match ex with
      | .Call (.Name x _) [.Call (.Name x2 _) [y, z] [] _] [] _ => decide (st = false) && decide (x = ("dict" : Str)) && glB S "dict" && decide (x2 = ("zip" : Str)) && glB S "zip" && !isStarX y && !isStarX z && mE n L S a y && mE n L S b z
      | _ => false)
    | .isi a tys => (match tys with
      | [t] => (match ex with
        | .Call (.Name x _) [y, .Name z _] [] _ => decide (x = ("isinstance" : Str)) && glB S "isinstance" && decide (t ≠ .dict) && decide (z = Str.ofString t.name) && glB S z && !isStarX y && mE n L S a y
        | _ => false)
      | _ => false)
    | _ => false
def isLC : Expr → Bool
  | .ListComp .. => true
  | _ => false
structure OkX (X : Cx) (G : Gx) (e : E) (ex : Expr) : Prop where
  E : OkE X G e ex
  N : fresh e = true → PE X ex (RdN G e)
  W : ∀ op es pos, ex = .BoolOp op es pos → OkW X G op e es
  C : isLC ex = true → ∀ i y py spos, X.N[i]? = some y → X.env.scope.names.lookup y = some .local → swapsWith ex (some (.Name y py)) spos.line X.env = pure true → ∃ te, PS X (.Assign [.Name y py] ex spos) (tAsg te (gName i)) ∧ ∀ σ H Q, RdN G e σ H Q → te σ H Q
section
variable {X : Cx} {G : Gx} {L : Lk} {S : Sx}
theorem visB_ok (h : XOk X G L S) {i : Nat} {x : Str} (v : visB S i x = true) : X.N[i]? = some x ∧ Vis X.env.scope x ∧ (x == ("__debug__" : Str)) = false ∧ (x == ("__classdict__" : Str)) = false := by
  unfold visB at v
  simp only [Bool.and_eq_true, Bool.or_eq_true, decide_eq_true_eq, Bool.not_eq_true'] at v
  obtain ⟨⟨⟨v1, v2⟩, v3⟩, v4⟩ := v
  refine ⟨h.N ▸ v1, ?_, v3, v4⟩
  unfold Vis
  rw [h.sc]
  rcases v2 with (v2 | v2) | v2
  · exact .inl v2
  · exact .inr (.inl v2)
  · exact .inr (.inr v2)
theorem locB_ok (h : XOk X G L S) {i : Nat} {x : Str} (v : locB S i x = true) : X.N[i]? = some x ∧ L2.Loc X.env.scope x ∧ (X.fn x = true ∨ X.env.scope.names.lookup x = some .local) := by
  unfold locB at v
  simp only [Bool.and_eq_true, Bool.or_eq_true, decide_eq_true_eq] at v
  obtain ⟨v1, v2⟩ := v
  unfold L2.Loc
  rw [h.sc]
  rcases v2 with v2 | ⟨v2, v3⟩
  · exact ⟨h.N ▸ v1, .inl v2, .inr v2⟩
  · exact ⟨h.N ▸ v1, .inr v2, .inl (h.fn x v3)⟩
theorem mT_ok : ∀ (n : Nat) {X : Cx} {S : Sx} (h : XOk X G L S) (t : Tg) (x : Expr), mT n S t x = true → PG X x (RdG G t)
  | 0, _, _, _, _, _, m => by cases m
  | n + 1, X, S, h, t, x, m => by
    unfold mT at m
    cases t with
    | name i => cases x with
      | Name y pos =>
        obtain ⟨q1, q2, q3⟩ := locB_ok h m
        exact okG_name h.nd q1 q2 q3
      | _ => cases m
    | tup ts => cases x with
      | Tuple es k pos =>
        simp only [Bool.and_eq_true, decide_eq_true_eq] at m
        obtain ⟨⟨m1, m2⟩, m3⟩ := m
        refine okG_tup h.hK h.calm m1 m2 ?_
        induction es generalizing ts with
        | nil => cases ts with
          | nil => exact okGs_nil
          | cons _ _ => cases m2
        | cons e es ih => cases ts with
          | nil => cases m2
          | cons t ts =>
            rw [List.zip_cons_cons, List.all_cons, Bool.and_eq_true] at m3
            rw [List.all_cons, Bool.and_eq_true, Bool.not_eq_true'] at m1
            exact okGs_cons m1.1 (mT_ok n h t e m3.1) (ih ts m3.2 m1.2 (by simpa using m2))
      | _ => cases m
theorem noSet_ok {ix : Expr} {env : Env} (h : noSet ix = true) (x : Value) : foldedSetIterable ix env x = pure x := by
  cases ix <;> first | rfl | cases h
theorem allB_ok {f : E → Expr → Bool} (h : XOk X G L S) (hf : ∀ e ex, f e ex = true → OkX X G e ex) : ∀ {es : List E} {xs : List Expr}, allB f es xs = true → PA X xs (RdL G es) ∧ PA X xs (RdBL G es) ∧ xs.all (fun e => !isStarX e) = true
  | [], [], _ => ⟨okA_nil, okBA_nil, rfl⟩
  | e :: es, x :: xs, m => by
    unfold allB at m
    simp only [Bool.and_eq_true, Bool.not_eq_true'] at m
    obtain ⟨⟨⟨m1, m2⟩, m3⟩, m4⟩ := m
    obtain ⟨r1, r2, r3⟩ := allB_ok h hf m4
    have o := hf e x m3
    exact ⟨okA_cons m1 m2 o.E.V r1, okBA_cons m1 m2 o.E.B r2, by rw [List.all_cons, m2, r3]; rfl⟩
  | [], _ :: _, m => by cases m
  | _ :: _, [], m => by cases m
theorem allS_ok {f : E → Expr → Bool} (h : XOk X G L S) (hf : ∀ e ex, f e ex = true → OkX X G e ex) : ∀ {es : List E} {xs : List Expr}, allS f es xs = true → PA X xs (RdL G es)
  | [], [], _ => okA_nil
  | e :: es, x :: xs, m => by
    unfold allS at m
    rw [Bool.and_eq_true] at m
    obtain ⟨m1, m2⟩ := m
    have r := allS_ok h hf m2
    by_cases q : isStarE e = true
    · cases e with
      | star a => cases x with
        | Starred y p => exact okA_star h.hK (hf a y m1).E.B r
        | _ => cases m1
      | _ => cases q
    · have q : isStarE e = false := by simpa using q
      have m3 : (!isStarX x && f e x) = true := by cases e <;> first | exact m1 | cases q
      rw [Bool.and_eq_true, Bool.not_eq_true'] at m3
      exact okA_cons q m3.1 (hf e x m3.2).E.V r
  | [], _ :: _, m => by cases m
  | _ :: _, [], m => by cases m
theorem optB_ok {f : E → Expr → Bool} (hf : ∀ e ex, f e ex = true → OkX X G e ex) {o : Option E} {x : Option Expr} (m : optB f o x = true) : PO X x (RdO G o) := by
  cases o with
  | none => cases x with
    | none => exact okO_none
    | some _ => cases m
  | some e => cases x with
    | none => cases m
    | some x => exact okO_some (hf e x m).E.B
theorem ifB_ok {f : E → Expr → Bool} (hf : ∀ e ex, f e ex = true → OkX X G e ex) {o : Option E} {x : List Expr} (m : ifB f o x = true) : PTs X x (RdTO G o) := by
  cases o with
  | none => cases x with
    | nil => exact okT_none
    | cons _ _ => cases m
  | some e => cases x with
    | nil => cases m
    | cons x r => cases r with
      | nil => exact okT_some (hf e x m).E.T
      | cons _ _ => cases m
theorem mI_ok {f : E → Expr → Bool} (h : XOk X G L S) (hf : ∀ e ex, f e ex = true → OkX X G e ex) {it : E} {tg ix : Expr} (m : mI f S tg it ix = true) : PI X tg ix (RdI G it) := by
  by_cases he : ∃ a, it = .enum a
  · obtain ⟨a, rfl⟩ := he
    simp only [mI] at m
    split at m
    · simp only [Bool.and_eq_true, decide_eq_true_eq, Bool.not_eq_true'] at m
      obtain ⟨⟨⟨⟨m0, rfl⟩, m2⟩, m3⟩, m4⟩ := m
      cases tg with
      | Tuple es k p =>
        rcases Bool.or_eq_true_iff.mp m4 with m4 | m4
        · exact okI_enum h.hK (glB_ok h m2).1 (h.free _ (by decide)) m3 (hf _ _ m4).E
        · unfold mZ at m4
          split at m4
          · rename_i a b x2 p2 y2 z2 kws pos2
            simp only [Bool.and_eq_true, decide_eq_true_eq, Bool.not_eq_true'] at m4
            obtain ⟨⟨⟨⟨⟨⟨rfl, n2⟩, n3⟩, n4⟩, n5⟩, n6⟩, n7⟩ := m4
            unfold kwB at n7
            split at n7
            · rename_i hb; cases hb
            · have e : _ = ("strict" : Str) := of_decide_eq_true n7
              subst e
              exact okI_ez h.hK (glB_ok h n2).1 (h.free _ (by decide)) (glB_ok h m2).1 (h.free _ (by decide)) n3 n4 (hf _ _ n5).E (hf _ _ n6).E
            · cases n7
          · cases m4
      | _ => cases m0
    · cases m
  by_cases hz : ∃ a b st, it = .zip a b st
  · obtain ⟨a, b, st, rfl⟩ := hz
    simp only [mI] at m
    split at m
    · rename_i y z kws pos
      simp only [Bool.and_eq_true, decide_eq_true_eq, Bool.not_eq_true'] at m
      obtain ⟨⟨⟨⟨⟨⟨⟨m0, rfl⟩, m2⟩, m3⟩, m4⟩, m5⟩, m6⟩, m7⟩ := m
      have g1 := (glB_ok h m2).1
      have hm : X.mg "zip" = none := h.free _ (by decide)
      cases tg with
      | Tuple es k p =>
        unfold kwB at m7
        split at m7
        · exact okI_zip (st := false) (j := 0) (p3 := pos) (kpos := pos) h.hK g1 hm m3 m4 (hf _ _ m5).E (hf _ _ m6).E
        · have e : _ = ("strict" : Str) := of_decide_eq_true m7
          subst e
          exact okI_zip (st := true) h.hK g1 hm m3 m4 (hf _ _ m5).E (hf _ _ m6).E
        · cases m7
      | _ => cases m0
    · cases m
  by_cases hr : ∃ args, it = .rng args
  · obtain ⟨args, rfl⟩ := hr
    have star : ∀ {es : List E} {xs : List Expr}, allB f es xs = true → es.all (fun e => !isStarE e) = true := by
      intro es xs
      induction es generalizing xs with
      | nil => intro _; rfl
      | cons e es ih => cases xs with
        | nil => intro z; cases z
        | cons x xs =>
          intro z
          unfold allB at z
          simp only [Bool.and_eq_true] at z
          rw [List.all_cons, z.1.1.1, ih z.2]; rfl
    cases ix with
    | Call fx es kws pos => cases fx with
      | Name x p => cases kws with
        | nil =>
          have m : (decide (x = ("range" : Str)) && glB S "range" && (decide (es.length = 1) || decide (es.length = 2)) && allB f args es) = true := m
          simp only [Bool.and_eq_true, Bool.or_eq_true, decide_eq_true_eq] at m
          obtain ⟨⟨⟨m1, m2⟩, m3⟩, m4⟩ := m
          subst m1
          obtain ⟨g1, _⟩ := glB_ok h m2
          obtain ⟨_, a2, a3⟩ := allB_ok h hf m4
          have hm : X.mg "range" = none := h.free _ (by decide)
          have s4 := star m4
          cases es with
          | nil => simp at m3
          | cons x es => cases args with
            | nil => cases m4
            | cons a args => cases es with
              | nil => cases args with
                | nil =>
                  have t1 : isStarE a = false := by simpa using s4
                  have t2 : isStarX x = false := by simpa using a3
                  exact okI_rng1 t1 g1 hm t2 a2
                | cons _ _ => simp [allB] at m4
              | cons y es => cases args with
                | nil => simp [allB] at m4
                | cons b args => cases es with
                  | cons _ _ => simp at m3
                  | nil => cases args with
                    | cons _ _ => simp [allB] at m4
                    | nil =>
                      have t1 : isStarE a = false ∧ isStarE b = false := by simpa using s4
                      have t2 : isStarX x = false ∧ isStarX y = false := by simpa using a3
                      exact okI_rng2 t1.1 t1.2 g1 hm t2.1 t2.2 a2
        | cons _ _ => cases m
      | _ => cases m
    | _ => cases m
  · have m2 : f it ix = true := by cases it <;> first | exact m | exact absurd ⟨_, rfl⟩ hr | exact absurd ⟨_, rfl⟩ he | exact absurd ⟨_, _, _, rfl⟩ hz
    exact okI_seq h.hK (hf _ _ m2).E
theorem allB_star {f : E → Expr → Bool} : ∀ {es : List E} {xs : List Expr}, allB f es xs = true → ∀ e ∈ es, isStarE e = false
  | [], _, _, _, he => nomatch he
  | e :: es, [], z, _, _ => by cases z
  | e :: es, x :: xs, z, e', he => by
    unfold allB at z
    simp only [Bool.and_eq_true, Bool.not_eq_true'] at z
    rcases List.mem_cons.mp he with rfl | he
    · exact z.1.1.1
    · exact allB_star z.2 e' he
theorem prg_of {f : E → Expr → Bool} (h : XOk X G L S) (hf : ∀ e ex, f e ex = true → OkX X G e ex) {args : List E} {zs : List Expr} {p pos : Pos} (g : glB S "range" = true) (hl : zs.length = 1 ∨ zs.length = 2) (m : allB f args zs = true) : PRg X (.Call (.Name "range" p) zs [] pos) (RdRg G args) := by
  obtain ⟨g1, _⟩ := glB_ok h g
  have hm : X.mg "range" = none := h.free _ (by decide)
  obtain ⟨_, _, a3⟩ := allB_ok h hf m
  match args, zs, m, a3, hl with
  | [a], [x], m, a3, _ =>
    have t2 : isStarX x = false := by simpa using a3
    simp only [allB, Bool.and_true, Bool.and_eq_true] at m
    exact prg_ok1 g1 hm t2 (hf _ _ m.2).E.B
  | [a, b], [x, y], m, a3, _ =>
    have t2 : isStarX x = false ∧ isStarX y = false := by simpa using a3
    simp only [allB, Bool.and_true, Bool.and_eq_true] at m
    exact prg_ok2 g1 hm t2.1 t2.2 (hf _ _ m.1.2).E.B (hf _ _ m.2.2).E.B
  | [], [], _, _, hl => simp at hl
  | [], _ :: _, m, _, _ => cases m
  | _ :: _, [], m, _, _ => cases m
  | [_], _ :: _ :: _, m, _, _ => simp [allB] at m
  | _ :: _ :: _, [_], m, _, _ => simp [allB] at m
  | _ :: _ :: _ :: _, [_, _], m, _, _ => simp [allB] at m
  | _, _ :: _ :: _ :: _, _, _, hl => simp at hl
theorem okX_of {e : E} {ex : Expr} (h : OkE X G e ex) (hf : fresh e = false) (hw : ∀ op es pos, ex ≠ .BoolOp op es pos) (hc : isLC ex = false) : OkX X G e ex := ⟨h, fun z => (by rw [hf] at z; cases z), fun op es pos z => absurd z (hw op es pos), fun z => (by rw [hc] at z; cases z)⟩
theorem okX_new {e : E} {ex : Expr} (h : OkN X G e ex) (hw : ∀ op es pos, ex ≠ .BoolOp op es pos) (hc : isLC ex = false) : OkX X G e ex := ⟨h.toOkE, fun _ => h.N, fun op es pos z => absurd z (hw op es pos), fun z => (by rw [hc] at z; cases z)⟩
theorem okX_W {op : BoolOp} {e : E} {es : List Expr} {pos : Pos} (h : OkW X G op e es) (hl : lkB e = lk e) (hf : fresh e = false) : OkX X G e (.BoolOp op es pos) :=
  ⟨okE_of_W h hl, fun z => (by rw [hf] at z; cases z), fun op' es' pos' z => (by cases z; exact h), fun z => by cases z⟩
theorem tgOwn_slots (S : Sx) (t : Tg) : (tgOwn S t).map (·.2) = t.slots := by
  unfold tgOwn
  rw [List.map_map]
  exact List.map_id' _
end
theorem mE_ok {G : Gx} {L : Lk} : ∀ (n : Nat) {X : Cx} {S : Sx} (h : XOk X G L S) (e : E) (ex : Expr), mE n L S e ex = true → OkX X G e ex
  | 0, _, _, _, _, _, m => by cases m
  | n + 1, X, S, h, e, ex, m => by
    have ih : ∀ e ex, mE n L S e ex = true → OkX X G e ex := fun e ex => mE_ok n h e ex
    unfold mE at m
    cases e with
    | non => cases ex with
      | Constant c k pos => cases c with
        | none => exact okX_of (ok_non h.hK) rfl nofun rfl
        | _ => cases m
      | _ => cases m
    | bl b => cases ex with
      | Constant c k pos => cases c with
        | bool c =>
          have e : b = c := by simpa using m
          subst e
          exact okX_of (ok_bl h.hK) rfl nofun rfl
        | _ => cases m
      | _ => cases m
    | int i => cases ex with
      | Constant c k pos => cases c with
        | int c =>
          have e : i = c := by simpa using m
          subst e
          exact okX_of (ok_int h.hK) rfl nofun rfl
        | _ => cases m
      | _ => cases m
    | str i => cases ex with
      | Constant c k pos => cases c with
        | str c =>
          have e : i = c := by simpa using m
          subst e
          exact okX_of (ok_str h.hK) rfl nofun rfl
        | _ => cases m
      | _ => cases m
    | var i => cases ex with
      | Name x pos =>
        obtain ⟨q1, q2, q3, q4⟩ := visB_ok h m
        exact okX_of (ok_var h.hK q1 q2 q3 q4) rfl nofun rfl
      | _ => cases m
    | op o a b => cases ex with
      | BinOp x p y pos =>
        simp only [Bool.and_eq_true, decide_eq_true_eq] at m
        obtain ⟨⟨rfl, m2⟩, m3⟩ := m
        exact okX_new (ok_op h.hK (ih _ _ m2).E.B (ih _ _ m3).E.B) nofun rfl
      | _ => cases m
    | neg a => cases ex with
      | UnaryOp p x pos =>
        simp only [Bool.and_eq_true, decide_eq_true_eq] at m
        obtain ⟨rfl, m2⟩ := m
        exact okX_of (ok_neg h.hK (ih _ _ m2).E.B) rfl nofun rfl
      | _ => cases m
    | not a => cases ex with
      | UnaryOp p x pos =>
        simp only [Bool.and_eq_true, decide_eq_true_eq] at m
        obtain ⟨rfl, m2⟩ := m
        exact okX_of (ok_not h.hK (ih _ _ m2).E) rfl nofun rfl
      | _ => cases m
    | and a b => cases ex with
      | BoolOp p es pos => match es, m with
        | [x, y], m =>
          simp only [Bool.and_eq_true, decide_eq_true_eq] at m
          obtain ⟨⟨rfl, m2⟩, m3⟩ := m
          exact okX_W (okW_and h.hK (ih _ _ m2).E (okW_one (ih _ _ m3).E)) rfl rfl
        | x :: y :: z :: r, m =>
          simp only [Bool.and_eq_true, decide_eq_true_eq] at m
          obtain ⟨⟨rfl, m2⟩, m3⟩ := m
          exact okX_W (okW_and h.hK (ih _ _ m2).E ((ih _ _ m3).W _ _ _ rfl)) rfl rfl
        | [], m => cases m
        | [_], m => cases m
      | _ => cases m
    | or a b => cases ex with
      | BoolOp p es pos => match es, m with
        | [x, y], m =>
          simp only [Bool.and_eq_true, decide_eq_true_eq] at m
          obtain ⟨⟨rfl, m2⟩, m3⟩ := m
          exact okX_W (okW_or h.hK (ih _ _ m2).E (okW_one (ih _ _ m3).E)) rfl rfl
        | x :: y :: z :: r, m =>
          simp only [Bool.and_eq_true, decide_eq_true_eq] at m
          obtain ⟨⟨rfl, m2⟩, m3⟩ := m
          exact okX_W (okW_or h.hK (ih _ _ m2).E ((ih _ _ m3).W _ _ _ rfl)) rfl rfl
        | [], m => cases m
        | [_], m => cases m
      | _ => cases m
    | ite q a b => cases ex with
      | IfExp x y z pos =>
        simp only [Bool.and_eq_true] at m
        exact okX_of (ok_ite h.hK (ih _ _ m.1.1).E (ih _ _ m.1.2).E (ih _ _ m.2).E) rfl nofun rfl
      | _ => cases m
    | cmp o a b => cases ex with
      | Compare x ps ys pos => match ps, ys, m with
        | [p], [y], m =>
          simp only [Bool.and_eq_true, decide_eq_true_eq, Bool.not_eq_true'] at m
          obtain ⟨⟨⟨rfl, m1⟩, m2⟩, m3⟩ := m
          exact okX_of (ok_cmp h.hK (by have := h.un; omega) m1 (ih _ _ m2).E.B (ih _ _ m3).E.B) rfl nofun rfl
        | [], _, m => cases m
        | _ :: _ :: _, _, m => cases m
        | [_], [], m => cases m
        | [_], _ :: _ :: _, m => cases m
      | _ => cases m
    | chain o1 o2 a b c => cases ex with
      | Compare x ps ys pos => match ps, ys, m with
        | [p, q], [y, z], m =>
          simp only [Bool.and_eq_true, decide_eq_true_eq, Bool.not_eq_true'] at m
          obtain ⟨⟨⟨⟨⟨rfl, rfl⟩, m1⟩, m2⟩, m3⟩, m4⟩ := m
          exact okX_of (ok_chain h.hK (by have := h.un; omega) m1 (ih _ _ m2).E.B (ih _ _ m3).E.B (ih _ _ m4).E.B) rfl nofun rfl
        | [], _, m => cases m
        | [_], _, m => cases m
        | _ :: _ :: _ :: _, _, m => cases m
        | [_, _], [], m => cases m
        | [_, _], [_], m => cases m
        | [_, _], _ :: _ :: _ :: _, m => cases m
      | _ => cases m
    | tup es => cases ex with
      | Tuple xs k pos => exact okX_new (ok_tup h.hK (allS_ok h ih m)) nofun rfl
      | _ => cases m
    | lst es => cases ex with
      | List xs pos => exact okX_new (ok_lst h.hK (allS_ok h ih m)) nofun rfl
      | _ => cases m
    | star a => cases m
    | idx a b => cases ex with
      | Subscript x y pos =>
        simp only [Bool.and_eq_true, Bool.not_eq_true'] at m
        exact okX_of (ok_idx h.hK (by have := h.un; omega) m.1.1 (ih _ _ m.1.2).E.B (ih _ _ m.2).E.B) rfl nofun rfl
      | _ => cases m
    | slc a lo hi =>
      simp only at m
      split at m
      · simp only [Bool.and_eq_true] at m
        exact okX_new (ok_slc h.hK (ih _ _ m.1.1).E.B (optB_ok ih m.1.2) (optB_ok ih m.2)) nofun rfl
      · cases m
    | rev a =>
      simp only at m
      split at m
      · simp only [Bool.and_eq_true, decide_eq_true_eq] at m
        obtain ⟨rfl, m2⟩ := m
        exact okX_new (ok_revL h.hK (ih _ _ m2).E.B) nofun rfl
      · cases m
    | call f args =>
      simp only at m
      split at m
      · simp only [Bool.and_eq_true, decide_eq_true_eq] at m
        obtain ⟨⟨m1, m2⟩, m3⟩ := m
        obtain ⟨r1, _, r3⟩ := allB_ok h ih m3
        rw [List.all_cons, Bool.and_eq_true, Bool.not_eq_true'] at r3
        exact okX_of (ok_callF h m1 m2 r3.1 r3.2 r1) rfl nofun rfl
      · cases m
    | pick a b =>
      simp only at m
      split at m
      · simp only [Bool.and_eq_true, decide_eq_true_eq, Bool.not_eq_true'] at m
        obtain ⟨⟨⟨⟨⟨rfl, m1⟩, m2⟩, m3⟩, m4⟩, m5⟩ := m
        exact okX_of (ok_pickF h m1 m2 m3 (ih _ _ m4).E.V (ih _ _ m5).E.V) rfl nofun rfl
      · cases m
    | bi b args =>
      by_cases hr : ∃ rs, args = [.rng rs]
      · obtain ⟨rs, rfl⟩ := hr
        simp only at m
        split at m
        · simp only [Bool.and_eq_true, Bool.or_eq_true, decide_eq_true_eq] at m
          obtain ⟨⟨⟨⟨⟨⟨rfl, m2⟩, m3⟩, rfl⟩, m5⟩, m6⟩, m7⟩ := m
          exact okX_new (ok_rngTo h m3 m2 (allB_star m7) rfl (prg_of h ih m5 m6 m7)) nofun rfl
        · cases m
      · have m : (match (generalizing := false) ex with
          | .Call (.Name x _) (y :: es) [] _ => decide (x = b.str) && glB S b.str && allB (mE n L S) args (y :: es)
          | _ => false) = true := by
          simp only at m
          split at m
          · exact absurd ⟨_, rfl⟩ hr
          · exact m
        split at m
        · simp only [Bool.and_eq_true, decide_eq_true_eq] at m
          obtain ⟨⟨rfl, m2⟩, m3⟩ := m
          obtain ⟨_, r2, r3⟩ := allB_ok h ih m3
          rw [List.all_cons, Bool.and_eq_true, Bool.not_eq_true'] at r3
          exact okX_new (ok_biF h m2 r3.1 r3.2 r2) nofun rfl
        · cases m
    | meth w a b =>
      simp only at m
      split at m
      · simp only [Bool.and_eq_true, decide_eq_true_eq, Bool.not_eq_true'] at m
        obtain ⟨⟨⟨⟨⟨rfl, rfl⟩, m3⟩, m4⟩, m5⟩, m6⟩ := m
        exact okX_of (ok_index h.hK (by have := h.un; omega) m3 m4 (ih _ _ m5).E.B (ih _ _ m6).E.B) rfl nofun rfl
      · cases m
    | isi a tys =>
      simp only at m
      split at m
      · rename_i t
        split at m
        · simp only [Bool.and_eq_true, decide_eq_true_eq, Bool.not_eq_true'] at m
          obtain ⟨⟨⟨⟨⟨⟨rfl, m2⟩, m3⟩, rfl⟩, m5⟩, m6⟩, m7⟩ := m
          exact okX_of (ok_isi h.hK m3 rfl (glB_ok h m2).1 (h.free _ (by decide)) (glB_ok h m5).1 (h.free _ (by cases t <;> decide)) m6 (ih _ _ m7).E.B) rfl nofun rfl
        · cases m
      · cases m
    | rng => cases m
    | enum => cases m
    | zip => cases m
    | comp t it ifs elt =>
      simp only at m
      split at m
      · rename_i x tx ix ifx k scope pos
        simp only [Bool.and_eq_true, decide_eq_true_eq] at m
        obtain ⟨⟨⟨⟨⟨⟨rfl, m1⟩, m2⟩, m3⟩, m4⟩, m5⟩, m6⟩ := m
        have bo : BlkOk X.N X.env.scope scope (tgOwn S t) := by rw [h.N, h.sc]; exact blkOk_by m2
        have hb := fun s H C cl fp => h.blk s H scope C cl fp
        have oc := ok_comp (pos := pos) h.hK h.calm h.nd (mI_ok (tg := tx) h ih m1) bo (tgOwn_slots S t) (fun s H C cl fp => mT_ok n (hb s H C cl fp) t tx m4)
          (fun s H C cl fp => ifB_ok (fun e ex => mE_ok n (hb s H C cl fp) e ex) m5) (fun s H C cl fp => (mE_ok n (hb s H C cl fp) elt x m6).E.V) (noSet_ok m3)
        refine ⟨oc.1.toOkE, fun _ => oc.1.N, nofun, fun _ i y py spos e1 e2 e3 => ⟨_, ps_setLc h.calm h.nd e1 e2 e3 (mI_ok (tg := tx) h ih m1) bo (fun s H C cl fp => mT_ok n (hb s H C cl fp) t tx m4)
          (fun s H C cl fp => ifB_ok (fun e ex => mE_ok n (hb s H C cl fp) e ex) m5) (fun s H C cl fp => (mE_ok n (hb s H C cl fp) elt x m6).E.V) (noSet_ok m3), oc.2⟩⟩
      · cases m
    | comp2 => cases m
    | dps a =>
      simp only at m
      split at m
      · simp only [Bool.and_eq_true, decide_eq_true_eq, Bool.not_eq_true'] at m
        obtain ⟨⟨⟨rfl, m2⟩, m3⟩, m4⟩ := m
        exact okX_of (ok_dps h.hK h.calm (by have := h.un; omega) (glB_ok h m2).1 (h.free _ (by decide)) m3 (ih _ _ m4).E.B) rfl nofun rfl
      · cases m
    | dzip a b st =>
      simp only at m
      split at m
      · simp only [Bool.and_eq_true, decide_eq_true_eq, Bool.not_eq_true'] at m
        obtain ⟨⟨⟨⟨⟨⟨⟨⟨rfl, rfl⟩, m2⟩, rfl⟩, m3⟩, m4⟩, m5⟩, m6⟩, m7⟩ := m
        exact okX_of (ok_dzip h.hK h.calm (by have := h.un; omega) (glB_ok h m3).1 (h.free _ (by decide)) (glB_ok h m2).1 (h.free _ (by decide)) m4 m5 (ih _ _ m6).E.B (ih _ _ m7).E.B) rfl nofun rfl
      · cases m
end Fz
/-! FzKb: all of a list's things, taken by picks in a comprehension. -/
namespace Fz
open PySem PySem.Spec PyProof.Rows L2
/-- a thing that is no list of one's own and not frozen is changed -/
theorem Ls.put {K : PySem.W.Frag} {sp cc : Addr} {F0 H0 F H : Hp} {j : Nat} {en : En} {σ : L2.St} {s : Src} {A : Addr} {o : HO} (L : Ls K sp cc F0 H0 [j] en σ F H s) (fA : F A = none) (h0 : H0 A = none) (n1 : A ≠ sp) (n2 : A ≠ cc) (nj : ∀ b, σ[j]? = some (some (.ref b)) → b ≠ A) :
    Ls K sp cc F0 H0 [j] en σ F (upd H A o) s := by
  have W := L.W.mutD (o := o) h0 fA n1 n2
  refine ⟨⟨W.sub, W.src, L.R.fsp, L.R.fcc, L.R.len, L.R.val, fun i hi d e => ?_, L.R.dis⟩, W, L.O⟩
  obtain ⟨b, vs, ds, q1, q2, q3, q4, q5, q6, q7⟩ := L.R.own i hi d e
  have hij : i = j := by simpa using hi
  subst hij
  exact ⟨b, vs, ds, q1, q2, by rw [upd_ne (nj b q2)]; exact q3, q4, q5, q6, q7⟩
section
variable {X : Cx} {G : Gx} {L : Lk} {S : Sx}
theorem popInt {xs : List D} {k : D} {p : D × List D} (h : popAt xs (some k) = some p) : ∃ z i, k = .int z ∧ L2.ixN xs.length z = some i ∧ xs[i]? = some p.1 ∧ p.2 = xs.eraseIdx i := by
  cases k with
  | int z =>
    obtain ⟨i, h1, h2⟩ := Option.bind_eq_some_iff.mp (show (L2.ixN xs.length z).bind (fun j => (xs[j]?).map fun d => (d, xs.eraseIdx j)) = some p from h)
    obtain ⟨d, h3, rfl⟩ := Option.map_eq_some_iff.mp h2
    exact ⟨z, i, rfl, h1, h3, rfl⟩
  | _ => cases h
theorem okS_mix {j i lap : Nat} {tx ix ex : Expr} {scope : Scope} {own1 : List (Str × Nat)} {lpos pos : Pos} (hK : X.K = G.K) (hc : X.calm = true) (hN : X.N.Nodup) (hi : PI X tx ix (RdI G (.rng [.bi .len [.var j]]))) (ok : BlkOk X.N X.env.scope scope own1)
    (hown : own1.map (·.2) = [lap])
    (hg : ∀ (s : Shared) (H : Hp) (C : Addr) (cl : List (Str × Addr)) (fp : List Addr), PG (X.blk s H scope (compEnvC scope cl C X.env) fp) tx (RdG G (.name lap)))
    (he : ∀ (s : Shared) (H : Hp) (C : Addr) (cl : List (Str × Addr)) (fp : List Addr), PE (X.blk s H scope (compEnvC scope cl C X.env) fp) ex (tBM G.K "list" rPopAt (tVar j) (tCons (RdV G (.pick (.var i) (.bi .len [.var j]))) tNil)))
    (hs : ∀ x, foldedSetIterable ix X.env x = pure x) : PS X (.Return (some (.ListComp ex [⟨tx, ix, [], 0⟩] scope lpos)) pos) (RdS G (.mix j i lap)) := by
  refine ps_imp (ps_ret (pe_lc hc hN hi ok hg (fun _ _ _ _ _ => pts_nil) he hs)) fun D σ H ⟨F0, H0, g, en, F, s, r, s', g', Ls0, o, ev, b⟩ => ?_
  obtain ⟨x0, e1, e2⟩ := bnd_lift (show bnd (lift (en.getD i none)) (fun x => bnd (lift (lstAt en j)) fun xs => if (isSrc x && small xs.length) = true then bnd (mixL G.v xs.length xs) fun ys => ret (.ret (.list ys)) else fun _ => none) s = some (r, s') from ev)
  obtain ⟨xs, e3, e4⟩ := bnd_lift e2
  have o2 : (if (g.contains j && (decide (j ≠ i) && decide (lap ≠ j)) && decide (lap ≠ i)) = true then some g else none) = some g' := by rw [own] at o; exact o
  obtain ⟨o3, rfl⟩ := if_some o2
  simp only [Bool.and_eq_true, decide_eq_true_eq] at o3
  obtain ⟨⟨o4, nji, nlj⟩, nli⟩ := o3
  have hj : j ∈ g := by simpa using o4
  by_cases q : (isSrc x0 && small xs.length) = true
  · rw [if_pos q] at e4
    obtain ⟨q1, q2⟩ := Bool.and_eq_true_iff.mp q
    obtain ⟨ys, s2, m1, m2⟩ := bnd_some e4
    obtain ⟨rfl, rfl⟩ := ret_some m2
    have hsub : ∀ k ∈ [j], k ∈ g := fun k hk => (List.mem_singleton.mp hk) ▸ hj
    obtain ⟨F1, L1, sm⟩ := Ls0.less hsub
    have hj1 : j ∈ [j] := List.mem_cons_self ..
    obtain ⟨aj, vj, k1, k2, k3, k4, k5, k6, k7⟩ := L1.at hj1 e3
    have hev : evE G.v G.c (.rng [.bi .len [.var j]]) en s = some (.list (rngL 0 xs.length), s) := by
      have hr : inR (xs.length : Int) = true := by
        have z : xs.length ≤ 16000000 := of_decide_eq_true q2
        unfold inR
        rw [Bool.and_eq_true, decide_eq_true_eq, decide_eq_true_eq]
        omega
      have hr2 : small (rngL 0 xs.length).length = true := by rw [rngL_len]; exact q2
      have h1 : evE G.v G.c (.bi .len [.var j]) en s = some (.int xs.length, s) := by
        show bnd (bnd (lift (en.getD j none)) fun x => bnd (ret []) fun ys => ret (x :: ys)) (fun ds => lift (biV .len ds)) s = _
        rw [k1]; rfl
      show bnd (bnd (evE G.v G.c (.bi .len [.var j]) en) fun x => bnd (ret []) fun ys => ret (x :: ys)) (fun ds => lift ((rngV ds).bind fun l => (Fz.sizeOk l).map PyData.list)) s = _
      unfold bnd
      rw [h1]
      show lift ((rngV [.int (xs.length : Nat)]).bind fun l => (Fz.sizeOk l).map PyData.list) s = _
      have h2 : rngV [.int (xs.length : Nat)] = some (rngL 0 xs.length) := by
        show (if inR (xs.length : Int) = true then some (rngL 0 ((xs.length : Int).toNat)) else none) = _
        rw [if_pos hr, Int.toNat_natCast]
      rw [h2]
      show lift ((Fz.sizeOk (rngL 0 xs.length)).map PyData.list) s = _
      unfold Fz.sizeOk
      rw [if_pos hr2]; rfl
    have offN : Off [j] ([] : List Nat) := fun k hm => nomatch hm
    refine ⟨_, en, F1, s, .list (rngL 0 xs.length), rngL 0 xs.length, s, L1.R, offN, hev, rfl, fun J F2 H2 Gd f wk gs _ A hA => ?_⟩
    have gs := gs offN
    rw [rngL_len] at wk
    have Lw := L1.step f
    have nA : A ≠ G.sp ∧ A ≠ G.cc := ⟨(fun e => by rw [e, f.src.1] at hA; cases hA), (fun e => by rw [e, f.src.2] at hA; cases hA)⟩
    have fA : F2 A = none := by
      cases z : F2 A with
      | none => rfl
      | some u => rw [f.sub _ _ z] at hA; cases hA
    have hA0 : H0 A = none := Lw.W.noneBack hA
    have hj2 := f.keep _ _ k3 k6 k7
    have nj : ∀ b, σ[j]? = some (some (.ref b)) → b ≠ A := fun b hb z => by
      rw [k2] at hb
      cases hb
      rw [z, hA] at hj2
      cases hj2
    rw [hown]
    refine lc_it wk (fun n H' => ∃ Fi si eni ds acc vs rest, Ls G.K G.sp G.cc F0 H0 [j] eni σ Fi H' si ∧ Same F2 Fi ∧ eni = en.set j (some (.list ds)) ∧ ds.length = xs.length - n ∧ n ≤ xs.length ∧ mixL G.v (xs.length - n) ds si = some (rest, s') ∧ ys = acc ++ rest ∧ H' A = some (.lst vs) ∧ Fi A = none ∧ RpA G.K G.sp Fi vs acc)
      ⟨F2, s, en, xs, [], [], ys, Lw.put fA hA0 nA.1 nA.2 nj, Same.refl _, ?_, rfl, Nat.zero_le _, m1, rfl, upd_same, fA, .nil⟩ (fun n H' _ ⟨Fi, si, eni, ds, acc, vs, rest, Li, smi, _⟩ => gs _ (smi.trans Li.R.sub)) ?_ ?_
    · refine List.ext_getElem? fun k => ?_
      by_cases hk : k = j
      · subst hk
        rw [List.getD_eq_getElem?_getD] at k1
        by_cases hl : k < en.length
        · rw [List.getElem?_set_self hl, List.getElem?_eq_getElem hl] at *
          simpa using k1
        · rw [List.getElem?_eq_none (by omega)] at k1; cases k1
      · rw [List.getElem?_set_ne (Ne.symm hk)]
    · rintro n x Hi Hj hlt ⟨Fi, si, eni, ds, acc, vs, rest, Li, smi, ee, hd, _, hm, hy, hD, hF, ra⟩ ⟨d, hdd, hstep⟩
      obtain ⟨Fj, fj, rx⟩ := hstep Fi si smi Li.R.sub Li.R.src Li.R.fsp Li.R.fcc
      have Lj := Li.step fj
      obtain ⟨mm, hmm⟩ : ∃ mm, xs.length - n = mm + 1 := ⟨xs.length - n - 1, by omega⟩
      have hmm2 : xs.length - (n + 1) = mm := by omega
      rw [hmm] at hm
      obtain ⟨kd, sa, t1, t2⟩ := bnd_some (show bnd (pickM G.v ds.length) (fun d => bnd (lift (popAt ds (some d))) fun p => bnd (mixL G.v mm p.2) fun ys => ret (p.1 :: ys)) si = some (rest, s') from hm)
      obtain ⟨pr, t3, t4⟩ := bnd_lift t2
      obtain ⟨rest2, sb, t5, t6⟩ := bnd_some t4
      obtain ⟨er, rfl⟩ := ret_some t6
      have Rw := Lj.R.wipe [lap]
      have tg : tgSet (.name lap) d (wipeE eni [lap]) = some ((wipeE eni [lap]).set lap (some d)) := rfl
      refine ⟨_, _, Fj, si, d, _, Rw, rx, tg, fun σ2 R2 hw => ⟨?_, ?_⟩⟩
      · have h1 := hw [lap] fun _ z => z
        rw [h1]
        show (wipe σ [lap]).set lap none = _
        show (σ.set lap none).set lap none = σ.set lap none
        rw [List.set_set]
      · have eqS : σ2[j]? = σ[j]? := by
          have h1 := congrArg (fun (τ : L2.St) => τ[j]?) (hw [lap] fun _ z => z)
          have nm : j ∉ [lap] := by simpa using Ne.symm nlj
          simp only [wipe_out nm] at h1
          exact h1
        have g2 : ∀ k, k ∈ ([j].filter fun k => !([lap] : List Nat).contains k).filter (fun k => !(Tg.slots (.name lap)).contains k) → k = j := fun k hk => by
          simpa using (List.mem_filter.mp (List.mem_filter.mp hk).1).1
        have hj3 : j ∈ ([j].filter fun k => !([lap] : List Nat).contains k).filter (fun k => !(Tg.slots (.name lap)).contains k) := by
          simp [List.mem_filter, Tg.slots, Ne.symm nlj]
        have len0 : j < en.length := by
          rcases Nat.lt_or_ge j en.length with h | h
          · exact h
          · rw [List.getD_eq_getElem?_getD, List.getElem?_eq_none h] at k1; cases k1
        have at1 : eni.getD j none = some (.list ds) := by
          rw [ee, List.getD_eq_getElem?_getD, List.getElem?_set_self len0]; rfl
        have at2 : ((wipeE eni [lap]).set lap (some d)).getD j none = some (.list ds) := by
          rw [List.getD_eq_getElem?_getD, List.getElem?_set_ne nlj, ← List.getD_eq_getElem?_getD, wipeE_out (by simpa using Ne.symm nlj)]
          exact at1
        have at3 : ((wipeE eni [lap]).set lap (some d)).getD i none = some x0 := by
          rw [List.getD_eq_getElem?_getD, List.getElem?_set_ne nli, ← List.getD_eq_getElem?_getD, wipeE_out (by simpa using Ne.symm nli), ee, List.getD_eq_getElem?_getD, List.getElem?_set_ne nji, ← List.getD_eq_getElem?_getD]
          exact e1
        obtain ⟨b0, us, ds0, w1, w2, w3, w4, w5, w6, w7⟩ := R2.own j hj3 _ at2
        cases w1
        have eb : b0 = aj := by
          rw [eqS, k2] at w2
          cases w2; rfl
        subst eb
        have hp : evE G.v G.c (.pick (.var i) (.bi .len [.var j])) ((wipeE eni [lap]).set lap (some d)) si = some (kd, sa) := by
          show bnd (lift (((wipeE eni [lap]).set lap (some d)).getD i none)) (fun x => bnd (bnd (bnd (lift (((wipeE eni [lap]).set lap (some d)).getD j none)) fun x => bnd (ret []) fun ys => ret (x :: ys)) fun ds => lift (biV .len ds)) fun y => match y with
            | .int m => if isSrc x then pickM G.v m else fun _ => none
            | _ => fun _ => none) si = _
          rw [at3, at2]
          show (if isSrc x0 = true then pickM G.v ((ds.length : Nat) : Int) else fun _ => none) si = _
          rw [if_pos q1]
          exact t1
        have go : ∀ {P : Bool → Hp → Prop}, P true Hj → tYes σ2 Hj P := fun h => h
        refine go ?_
        rw [if_pos rfl]
        refine ⟨.ref b0, w2, .inl ⟨rfl, _, SqL.of w3⟩, _, _, Fj, si, kd, sa, R2, ?_, hp, fun yv F4 H4 f4 ry => ?_⟩
        · intro k hm hk
          have e9 := g2 k hk
          have : k = i := by simpa [lk, lkBL, lkB] using hm
          exact nji (e9.symm.trans this)
        · obtain ⟨z, ii, rfl, i1, i2, i3⟩ := popInt t3
          have ey : yv = .int z := ry.int'
          subst ey
          obtain ⟨u1, u2, u3, u4⟩ := ixN_seq i1
          have L4 := Lj.step f4
          have w8 := f4.keep _ _ w3 w6 w7
          have w9 := f4.new _ w4 (nt_of w3 nofun)
          have ru := w5.mono f4.fr
          have lu := ru.length
          obtain ⟨y, y1, y2⟩ := ru.get i2
          have b1 : ds.length < 2 ^ 62 := by
            have z2 : xs.length ≤ 16000000 := of_decide_eq_true q2
            omega
          have fall := fj.trans f4
          have hDA := fall.keep _ _ hD nA.1 nA.2
          have hFA := fall.new _ hF (nt_of hD nofun)
          have nbA : b0 ≠ A := nj b0 k2
          refine ⟨b0, us, z, ii, y, rfl, rfl, w8, by omega, by omega, by rw [lu]; exact u1, y1, vs, ?_, ?_, F4, sa, en.set j (some (.list pr.2)), pr.2, acc ++ [pr.1], vs ++ [y], rest2, ?_, (smi.trans fj.fr).trans f4.fr, rfl, ?_, hlt, ?_, ?_, upd_same, hFA, (ra.mono fall.fr).append (.cons y2 .nil)⟩
          · rw [upd_ne (Ne.symm nbA)]; exact hDA
          · have z2 : xs.length ≤ 16000000 := of_decide_eq_true q2
            have z3 := ra.length
            have z4 : ∀ (n : Nat) (ds : List Fz.D) (s : Src) (r : List Fz.D × Src), mixL G.v n ds s = some r → r.1.length = n := by
              intro n
              induction n with
              | zero => intro ds s r h; obtain ⟨h1, _⟩ := ret_some (show ret [] s = some (r.1, r.2) from h); rw [← h1]; rfl
              | succ n ih =>
                intro ds s r h
                obtain ⟨a1, s1, h1, h2⟩ := bnd_some (show bnd (pickM G.v ds.length) (fun d => bnd (lift (popAt ds (some d))) fun p => bnd (mixL G.v n p.2) fun ys => ret (p.1 :: ys)) s = some r from h)
                obtain ⟨a2, h3, h4⟩ := bnd_lift h2
                obtain ⟨a3, s3, h5, h6⟩ := bnd_some h4
                obtain ⟨h7, _⟩ := ret_some (show ret (a2.1 :: a3) s3 = some (r.1, r.2) from h6)
                rw [← h7, List.length_cons, ih _ _ _ h5]
            have z5 := z4 _ _ _ _ m1
            have z6 : ys.length = acc.length + rest.length := by rw [hy, List.length_append]
            rw [z3, sizeLine_eq]
            have z7 : ys.length = xs.length := z5
            omega
          · have L5 := L4.mut hj1 at1 k2 w8 w9 w6 w7 (ru.erase ii)
            rw [ee, List.set_set, ← i3] at L5
            exact L5.put hFA hA0 nA.1 nA.2 nj
          · rw [i3, List.length_eraseIdx]
            rw [if_pos u2]
            omega
          · rw [hmm2]; exact t5
          · rw [hy, ← er, List.append_assoc]; rfl
    · rintro H' ⟨Fi, si, eni, ds, acc, vs, rest, Li, smi, ee, hd, _, hm, hy, hD, hF, ra⟩
      rw [Nat.sub_self] at hm
      obtain ⟨e8, e9⟩ := ret_some (show ret [] si = some (rest, s') from hm)
      subst e8 e9
      rw [List.append_nil] at hy
      subst hy
      exact b (.ref A) _ H' (Li.W.freeze hA0 hF hD) (.lst upd_same (ra.mono (Same.upd' hF)))
  · rw [if_neg q] at e4; cases e4
end
end Fz
/-! FzKc: names = a tuple of values, new lists among them, where the tuple is laid (a name is a cell). -/
namespace Fz
open PySem PySem.Spec L2
def gNames : List Nat → TGs
  | [] => gNil
  | i :: is => gCons (gName i) (gNames is)
theorem gNames_run : ∀ (is : List Nat) (xs : List V) (σ : L2.St) (H : Hp) (Q : L2.St → Hp → Prop), is.length = xs.length → Q (setsX is xs σ) H → gNames is xs σ H Q
  | [], [], σ, H, Q, _, q => ⟨rfl, q⟩
  | i :: is, x :: xs, σ, H, Q, hl, q => ⟨x, xs, rfl, gNames_run is xs _ H Q (by simpa using hl) q⟩
  | [], _ :: _, _, _, _, hl, _ => by cases hl
  | _ :: _, [], _, _, _, hl, _ => by cases hl
theorem RnA.len {K : PySem.W.Frag} {sp : Addr} {H F H' : Hp} : ∀ {bs : List Bool} {xs : List V} {ds : List D}, RnA K sp H F H' bs xs ds → xs.length = ds.length
  | [], [], [], _ => rfl
  | _ :: bs, _ :: xs, _ :: ds, h => by
    have := RnA.len (bs := bs) (xs := xs) (ds := ds) h.2
    simp [this]
  | [], [], _ :: _, h => h.elim
  | [], _ :: _, _, h => by cases ‹List D› <;> exact h.elim
  | _ :: _, [], [], h => h.elim
  | _ :: _, [], _ :: _, h => h.elim
  | _ :: _, _ :: _, [], h => h.elim
theorem setsV_len : ∀ {is : List Nat} {ds : List D} {en en2 : En}, setsV is ds en = some en2 → is.length = ds.length
  | [], [], _, _, _ => rfl
  | _ :: is, _ :: ds, _, _, h => by
    have := setsV_len (is := is) (ds := ds) h
    simp [this]
  | [], _ :: _, _, _, h => by cases h
  | _ :: _, [], _, _, h => by cases h
theorem Fw.lay0 {sp cc : Addr} {F H : Hp} {s : Src} {p : Addr} {o : HO} (hs : Same F H) (q : SrcAt sp cc H s) (hp : H p = none) : Fw sp cc F H F (upd H p o) s := by
  have ne : ∀ b o', H b = some o' → b ≠ p := fun b o' e z => by rw [z, hp] at e; cases e
  refine ⟨Same.refl _, fun b o' e => ?_, fun b o' e _ _ => ?_, ?_, fun _ e _ => e⟩
  · have := hs b o' e
    rw [upd_ne (ne b o' this)]; exact this
  · rw [upd_ne (ne b o' e)]; exact e
  · exact ⟨by rw [upd_ne (ne _ _ q.1)]; exact q.1, by rw [upd_ne (ne _ _ q.2)]; exact q.2⟩
section
variable {X : Cx} {G : Gx}
theorem okS_parC {is : List Nat} {ns : List Bool} {es : List E} {ts vs : List Expr} {k k2 : Nat} {tp p2 pos : Pos} {m : Nat} (hc : X.calm = true) (hm : is.length = m) (h3 : m ≤ 3) (hv : PA X vs (RdLN G ns es)) (hg : PGs X ts (gNames is))
    (hn : (assignEach ts X.env).length = m) (hst : (assignEach ts X.env).findIdx? (·.1) = none)
    (hs : swapsWithSole [.Tuple ts k tp] (.Tuple vs k2 p2) pos.line X.env = pure false) (hw : swappedStores [.Tuple ts k tp] (.Tuple vs k2 p2) X.env = pure none)
    (h1 : (assignEach [.Tuple ts k tp] X.env).map (·.2) = [assign (.Tuple ts k tp) X.env]) : PS X (.Assign [.Tuple ts k tp] (.Tuple vs k2 p2) pos) (RdS G (.parN is ns es)) := by
  refine ps_imp (ps_asg (pe_tup hv) (pg_tup hc hg hn hst) hs hw h1) fun D σ H ⟨F0, H0, g, en, F, s, r, s', g', L, o, ev, b⟩ => ?_
  obtain ⟨ds, s1, e1, e2⟩ := bnd_some ev
  have e2 : (if newsOk ns ds = true then bnd (lift (setsV is ds en)) fun en2 => ret (.next en2) else fun _ => none) s1 = some (r, s') := e2
  by_cases hk : newsOk ns ds = true
  · rw [if_pos hk] at e2
    obtain ⟨en2, e3, e4⟩ := bnd_lift e2
    obtain ⟨rfl, rfl⟩ := ret_some e4
    have o : (if ((ns.zip es).all fun p => !p.1 || fresh p.2) = true then some (gAdd (drp g (lkL es)) is ns) else none) = some g' := by rw [own] at o; exact o
    obtain ⟨_, rfl⟩ := if_some o
    obtain ⟨F1, L1, sm⟩ := L.freeze (lkL es)
    refine ⟨_, en, F1, s, ds, s', L1.R, off_drp _ _, e1, hk, fun xs F2 H2 f rx nd => ?_⟩
    have l1 := RnA.len rx
    have l2 := setsV_len e3
    refine ⟨by rw [sizeLine_eq]; omega, fun p hp => ⟨p, xs, rfl, .inl (.inl upd_same), by omega, gNames_run is xs σ _ _ (by omega) ?_⟩⟩
    have hB : ∀ p, H p = none → H0 p = none ∧ p ≠ G.sp ∧ p ≠ G.cc := fun p hp => ⟨L1.W.noneBack hp, fun z => (by rw [z, L1.R.src.1] at hp; cases hp), fun z => (by rw [z, L1.R.src.2] at hp; cases hp)⟩
    have L2 := L1.step f
    have fl : Fw G.sp G.cc F2 H2 F2 (upd H2 p (.tup xs)) s' := Fw.lay0 L2.R.sub L2.R.src hp
    have L3 := Ls.adds hB is ns xs ds _ en en2 σ L2 rx hk nd (fun j a hj hen hsj hm => by
      obtain ⟨p, e, hp⟩ := newsIn hk rx _ hm
      cases e
      cases q : en.getD j none with
      | none => exact hen q
      | some d2 =>
        obtain ⟨a2, vs2, ds2, _, k1, k2, _⟩ := L1.R.own j hj d2 q
        rw [hsj] at k1
        cases k1
        rw [hp] at k2
        cases k2) e3
    exact b _ F2 _ (sm.trans f.fr) (L3.step fl)
  · rw [if_neg hk] at e2; cases e2
end
end Fz
/-! FzQ: taking from a list; the look at statements. -/
namespace Fz
open PySem PySem.Spec PyProof.Rows L2
section
variable {X : Cx} {G : Gx}
theorem RpA.last {K : PySem.W.Frag} {sp : Addr} {F : Hp} {vs : List V} {ds : List D} {d : D} (ra : RpA K sp F vs ds) (h : ds.getLast? = some d) : ∃ v, vs[vs.length - 1]? = some v ∧ Rp K sp F v d := by
  rw [List.getLast?_eq_getElem?] at h
  rw [ra.length]
  exact ra.get h
theorem RpA.init {K : PySem.W.Frag} {sp : Addr} {F : Hp} {vs : List V} {ds : List D} (ra : RpA K sp F vs ds) : RpA K sp F vs.dropLast ds.dropLast := by
  rw [List.dropLast_eq_take, List.dropLast_eq_take, ra.length]
  exact ra.take _
theorem okS_pop {t : Tg} {j : Nat} {x : Str} {tx : Expr} {p apos cpos pos : Pos} (hN : X.N[j]? = some x) (hv : Vis X.env.scope x) (hd : (x == ("__debug__" : Str)) = false) (hcd : (x == ("__classdict__" : Str)) = false) (hline : (apos.endLine == cpos.line) = true)
    (hg : PG X tx (RdG G t)) (hs : swapsWithSole [tx] (.Call (.Attribute (.Name x p) "pop" apos) [] [] cpos) pos.line X.env = pure false) (hw : swappedStores [tx] (.Call (.Attribute (.Name x p) "pop" apos) [] [] cpos) X.env = pure none) (h1 : (assignEach [tx] X.env).map (·.2) = [assign tx X.env]) :
    PS X (.Assign [tx] (.Call (.Attribute (.Name x p) "pop" apos) [] [] cpos) pos) (RdS G (.pop t j none)) := by
  have pe := pe_bm0 (cpos := cpos) (apos := apos) PySem.F.plainAttrs_list PySem.F.slot_list_pop PySem.F.type_list_pop mt_pop (pe_var (pos := p) hN hv hd hcd) (by rfl) hline
  refine ps_imp (ps_asg pe hg hs hw h1) fun D σ H ⟨F0, H0, g, en, F, s, r, s', g', L, o, ev, b⟩ => ?_
  obtain ⟨ds, s1, e1, e4⟩ := bnd_some ev
  obtain ⟨e3, rfl⟩ := lift_some e1
  obtain ⟨pr, e5, e6⟩ := bnd_lift e4
  obtain ⟨en2, e7, e8⟩ := bnd_lift e6
  obtain ⟨rfl, rfl⟩ := ret_some e8
  obtain ⟨d, hlast, rfl⟩ := Option.map_eq_some_iff.mp (show (ds.getLast?).map (fun d => (d, ds.dropLast)) = some pr from e5)
  have o2 : (if ((drp g (lkO none)).contains j && !t.slots.contains j) = true then some (drp (drp g (lkO none)) t.slots) else none) = some g' := by
    rw [own] at o; exact o
  obtain ⟨hi, rfl⟩ := if_some o2
  rw [Bool.and_eq_true, Bool.not_eq_true'] at hi
  have hj : j ∈ drp g (lkO none) := by simpa using hi.1
  have L1 := L.congr (g' := drp g (lkO none)) fun i => by simp [mem_drp, lkO]
  obtain ⟨a, vs, k1, k2, k3, k4, k5, k6, k7⟩ := L1.at hj e3
  obtain ⟨v, hv2, rv⟩ := k5.last hlast
  refine ⟨.ref a, k2, .inl ⟨rfl, _, SqL.of k3⟩, a, vs, v, rfl, rfl, k3, hv2, ?_⟩
  have L2 := L1.mut hj k1 k2 k3 k4 k6 k7 k5.init
  exact ⟨_, _, F, _, d, en2, L2.R, rv, e7, fun σ2 R2 w2 => b σ2 F _ (Same.refl _) (L2.tgs R2 (tgSet_out t d _ en2 e7) (wipe_slots w2))⟩
end
/-! ### stores -/
def lcScope : Expr → Option Scope
  | .ListComp _ _ s _ => some s
  | .SetComp _ _ s _ => some s
  | .DictComp _ _ _ s _ => some s
  | _ => none
def swB (S : Sx) (value t : Expr) : Bool := match lcScope value, t with
  | some scope, .Name x p => decide (S.sc.names.lookup x = some .local) && p.line == value.pos.line && !(scope.names.any fun (n, k) => n == x && (k == .local || k == .cell))
  | _, _ => false
theorem swB_ok {S : Sx} {env : Env} (hs : env.scope = S.sc) (hk : env.scope.kind = .function) (value t : Expr) (l : Nat) : swapsWith value (some t) l env = pure (swB S value t) := by
  have hb : env.blockKind = .function := by unfold Env.blockKind; rw [hk]; rfl
  have kk : ∀ x, env.kindOf x = S.sc.names.lookup x := fun x => by unfold Env.kindOf; rw [hs]
  have e3 : ∀ o : Option NameKind, (o == some NameKind.local) = decide (o = some .local) := fun o => by cases o with
    | none => rfl
    | some k => cases k <;> rfl
  cases value with
  | ListComp a b sc c => cases t with
    | Name x p => unfold swapsWith; simp only [hb, kk, e3]; rfl
    | _ => rfl
  | SetComp a b sc c => cases t with
    | Name x p => unfold swapsWith; simp only [hb, kk, e3]; rfl
    | _ => rfl
  | DictComp a b d sc c => cases t with
    | Name x p => unfold swapsWith; simp only [hb, kk, e3]; rfl
    | _ => rfl
  | _ => rfl
def swNames (S : Sx) (ts : List Expr) : List Str := ts.filterMap fun
  | .Name id pos => if (S.sc.names.lookup id == some .local && pos.line == (ts.head?.map (·.pos.line)).getD 0) = true then some id else none
  | _ => none
def swT (S : Sx) (ts vs : List Expr) : Option (Option (List Str)) :=
  if (!(ts.length == 2 || ts.length == 3) || vs.length != ts.length) = true then some none
  else if (vs.any fun | .Starred .. => true | _ => false) = true then some none
  else if ((swNames S ts).length != ts.length || (swNames S ts).eraseDups.length != (swNames S ts).length) = true then some none
  else if vs.all (foldedForSure 8) = true then some none
  else if vs.all (constantsAlone 8) = true then none
  else some (some (swNames S ts))
def swN (S : Sx) (t value : Expr) : Option (Option (List Str)) := match t with
  | .Tuple ts _ _ => (match value with
    | .Tuple vs _ _ => swT S ts vs
    | _ => some none)
  | .Name .. => some none
  | .Subscript .. => some none
  | _ => none
theorem swN_ok {S : Sx} {env : Env} (hs : env.scope = S.sc) (hk : env.scope.kind = .function) {t value : Expr} {o : Option (List Str)} (h : swN S t value = some o) : swappedStores [t] value env = pure o := by
  have hb : env.blockKind = .function := by unfold Env.blockKind; rw [hk]; rfl
  have kk : ∀ x, env.kindOf x = S.sc.names.lookup x := fun x => by unfold Env.kindOf; rw [hs]
  cases t with
  | Name x p => cases h; rfl
  | Subscript a b c => cases h; rfl
  | Tuple ts a b =>
    cases value with
    | Tuple vs c d =>
      have h : swT S ts vs = some o := h
      unfold swT at h
      unfold swappedStores
      simp only [hb, kk]
      by_cases c1 : (!(ts.length == 2 || ts.length == 3) || vs.length != ts.length) = true
      · rw [if_pos c1] at h
        cases h
        have : (!(ts.length == 2 || ts.length == 3) || vs.length != ts.length || ScopeKind.function != ScopeKind.function) = true := by rw [c1]; rfl
        rw [if_pos this]
      · rw [if_neg c1] at h
        have : ¬ (!(ts.length == 2 || ts.length == 3) || vs.length != ts.length || ScopeKind.function != ScopeKind.function) = true := by
          have c1' := Bool.eq_false_iff.mpr c1
          rw [c1']; decide
        refine Eq.trans (if_neg this) ?_
        by_cases c2 : (vs.any fun | .Starred .. => true | _ => false) = true
        · rw [if_pos c2] at h
          cases h
          exact if_pos c2
        · rw [if_neg c2] at h
          refine Eq.trans (if_neg c2) ?_
          by_cases c3 : ((swNames S ts).length != ts.length || (swNames S ts).eraseDups.length != (swNames S ts).length) = true
          · rw [if_pos c3] at h
            cases h
            exact if_pos c3
          · rw [if_neg c3] at h
            refine Eq.trans (if_neg c3) ?_
            by_cases c4 : vs.all (foldedForSure 8) = true
            · rw [if_pos c4] at h
              cases h
              exact if_pos c4
            · rw [if_neg c4] at h
              refine Eq.trans (if_neg c4) ?_
              by_cases c5 : vs.all (constantsAlone 8) = true
              · rw [if_pos c5] at h; cases h
              · rw [if_neg c5] at h
                cases h
                exact if_neg c5
    | _ => cases h; rfl
  | _ => cases h
/-! ### the look -/
def allN (f : E → Expr → Bool) : List Bool → List E → List Expr → Bool
  | [], [], [] => true
  | b :: bs, e :: es, x :: xs => !isStarE e && !isStarX x && f e x && (!b || fresh e) && allN f bs es xs
  | _, _, _ => false
def two? : List Str → Option (Str × Str)
  | [x, y] => some (x, y)
  | _ => none
def mS : Nat → Lk → Sx → S → Stmt → Bool
  | 0, _, _, _, _ => false
  | n + 1, L, S, st, sx => match st with
    | .pass => (match sx with
      | .Pass _ => true
      | _ => false)
    | .ret e => (match sx with
      | .Return (some x) _ => mE n L S e x
      | _ => false)
    | .ite q a b => (match sx with
      | .If x ya yb _ => mE n L S q x && mSs n a ya (mS n L S) && mSs n b yb (mS n L S)
      | _ => false)
    | .for_ t it body => (match sx with
      | .For tx ix bx [] _ => mI (mE n L S) S tx it ix && noSet ix && mT n S t tx && mSs n body bx (mS n L S)
      | _ => false)
    | .whl q body => (match sx with
      | .While x bx [] _ => mE n L S q x && mSs n body bx (mS n L S)
      | _ => false)
    | .aug i o e => (match sx with
      | .AugAssign (.Name x _) p y _ => locB S i x && decide (p = o.op) && (decide (o = .add) || decide (o = .sub)) && mE n L S e y
      | _ => false)
    | .app i e => (match sx with
      | .Expr (.Call (.Attribute (.Name x _) m apos) [y] [] cpos) _ => decide (m = ("append" : Str)) && visB S i x && !isStarX y && (apos.endLine == cpos.line) && mE n L S e y
      | _ => false)
    | .ext i e => (match sx with
      | .Expr (.Call (.Attribute (.Name x _) m apos) [y] [] cpos) _ => decide (m = ("extend" : Str)) && visB S i x && !isStarX y && (apos.endLine == cpos.line) && mE n L S e y
      | _ => false)
    | .pop t j none => (match sx with
      | .Assign [tx] (.Call (.Attribute (.Name x p) m apos) [] [] cpos) _ => decide (m = ("pop" : Str)) && visB S j x && (apos.endLine == cpos.line) && mT n S t tx && !isStarX tx && decide (swN S tx (.Call (.Attribute (.Name x p) m apos) [] [] cpos) = some none)
      | _ => false)
    | .set i k e => (match sx with
      | .Assign [.Subscript (.Name x p) y p2] z _ => visB S i x && !isSliceX y && mE n L S k y && mE n L S e z
      | _ => false)
    | .new i e => (match sx with
      | .Assign [.Name x p] y _ => locB S i x && fresh e && mE n L S e y && (if swB S y (.Name x p) then isLC y && decide (S.sc.names.lookup x = some .local) else true)
      | _ => false)
    | .par is es => (match sx with
      | .Assign [.Tuple ts a b] (.Tuple vs c d) _ => allB (mE n L S) es vs && (match is, ts, vs, swT S ts vs with
        | [i, j], [.Name x _, .Name y _], [_, _], some (some [x', y']) => decide (x = x') && decide (y = y') && decide (S.N[i]? = some x) && decide (S.N[j]? = some y) && decide (i ≠ j) && decide (S.sc.names.lookup x = some .local) && decide (S.sc.names.lookup y = some .local)
        | [i, j, l], [.Name x _, .Name y _, .Name z _], [_, _, _], some (some [x', y', z']) => decide (x = x') && decide (y = y') && decide (z = z') && decide (S.N[i]? = some x) && decide (S.N[j]? = some y) && decide (S.N[l]? = some z) && decide (i ≠ j) && decide (i ≠ l) && decide (j ≠ l) && decide (S.sc.names.lookup x = some .local) && decide (S.sc.names.lookup y = some .local) && decide (S.sc.names.lookup z = some .local)
        | _, _, _, _ => false)
      | _ => false)
    | .parN is ns es => (match sx with
      | .Assign [.Tuple ts a b] (.Tuple vs c d) _ => allN (mE n L S) ns es vs && (match is, ts, vs, swT S ts vs with
        | [i, j], [.Name x _, .Name y _], [_, _], some (some [x', y']) => decide (x = x') && decide (y = y') && decide (S.N[i]? = some x) && decide (S.N[j]? = some y) && decide (i ≠ j) && decide (S.sc.names.lookup x = some .local) && decide (S.sc.names.lookup y = some .local)
        | [i, j, l], [.Name x _, .Name y _, .Name z _], [_, _, _], some (some [x', y', z']) => decide (x = x') && decide (y = y') && decide (z = z') && decide (S.N[i]? = some x) && decide (S.N[j]? = some y) && decide (S.N[l]? = some z) && decide (i ≠ j) && decide (i ≠ l) && decide (j ≠ l) && decide (S.sc.names.lookup x = some .local) && decide (S.sc.names.lookup y = some .local) && decide (S.sc.names.lookup z = some .local)
        | [i, j], [.Name x _, .Name y _], [_, _], some none => locB S i x && locB S j y && !swB S (.Tuple vs c d) (.Tuple ts a b)
        | [i, j, l], [.Name x _, .Name y _, .Name z _], [_, _, _], some none => locB S i x && locB S j y && locB S l z && !swB S (.Tuple vs c d) (.Tuple ts a b)
        | _, _, _, _ => false)
      | _ => false)
    | .asg t e => (match sx with
      | .Assign [tx] y _ => mE n L S e y && mT n S t tx && (if swB S y tx then (match t, tx with
          | .name i, .Name x _ => isLC y && fresh e && decide (S.N[i]? = some x) && decide (S.sc.names.lookup x = some .local)
          | _, _ => false) else !isStarX tx && decide (swN S tx y = some none))
      | _ => false)
    | .mix j i lap => (match sx with
      | .Return (some (.ListComp (.Call (.Attribute (.Name x _) w apos) [z] [] cpos) [⟨tx, ix, [], k⟩] scope _)) _ => decide (k = 0) && decide (w = ("pop" : Str)) && (apos.endLine == cpos.line) && mI (mE n L S) S tx (.rng [.bi .len [.var j]]) ix && blkC S.N S.sc scope (tgOwn S (.name lap)) && noSet ix && mT n (S.blk scope) (.name lap) tx && visB (S.blk scope) j x && !isStarX z && mE n L (S.blk scope) (.pick (.var i) (.bi .len [.var j])) z
      | _ => false)
    | _ => false
where
  mSs (n : Nat) : List S → List Stmt → (S → Stmt → Bool) → Bool
    | [], [], _ => true
    | a :: r, x :: xs, f => f a x && mSs n r xs f
    | _, _, _ => false
section
variable {X : Cx} {G : Gx} {L : Lk} {S : Sx}
theorem mSs_ok {n : Nat} {f : Fz.S → Stmt → Bool} (hf : ∀ s x, f s x = true → PS X x (RdS G s)) : ∀ {a : List Fz.S} {x : List Stmt}, mS.mSs n a x f = true → PSs X x (RdSs G a)
  | [], [], _ => okSs_nil
  | a :: r, x :: xs, m => by
    have m2 := Bool.and_eq_true_iff.mp (show (f a x && mS.mSs n r xs f) = true from m)
    exact okSs_cons (hf _ _ m2.1) (mSs_ok hf m2.2)
  | [], _ :: _, m => by cases m
  | _ :: _, [], m => by cases m
theorem one_assign {tx : Expr} (h : isStarX tx = false) : (assignEach [tx] X.env).map (·.2) = [assign tx X.env] := by rw [assignEach_no h]; rfl
theorem allN_ok {f : E → Expr → Bool} (h : XOk X G L S) (hf : ∀ e ex, f e ex = true → OkX X G e ex) : ∀ {bs : List Bool} {es : List E} {xs : List Expr}, allN f bs es xs = true → PA X xs (RdLN G bs es)
  | [], [], [], _ => okLN_nil
  | b :: bs, e :: es, x :: xs, m => by
    unfold allN at m
    simp only [Bool.and_eq_true, Bool.not_eq_true'] at m
    obtain ⟨⟨⟨⟨m1, m2⟩, m3⟩, m4⟩, m5⟩ := m
    have o := hf e x m3
    exact okLN_cons m1 m2 o.E.V (fun z => o.N (by rw [z] at m4; simpa using m4)) (allN_ok h hf m5)
  | [], [], _ :: _, m => by cases m
  | [], _ :: _, _, m => by cases m
  | _ :: _, [], _, m => by cases m
  | _ :: _, _ :: _, [], m => by cases m
theorem rnA_two {K : PySem.W.Frag} {sp : Addr} {H F' H' : Hp} {b1 b2 : Bool} {xs : List V} {ds : List D} (h : RnA K sp H F' H' [b1, b2] xs ds) : ∃ v w, xs = [v, w] := by
  match xs, ds, h with
  | [v, w], _, _ => exact ⟨v, w, rfl⟩
  | [], [], h => exact h.elim
  | [], _ :: _, h => exact h.elim
  | [_], [_], h => exact h.2.elim
  | [_], _ :: _ :: _, h => exact h.2.elim
  | [_], [], h => exact h.elim
  | _ :: _ :: _ :: _, [_, _], h => exact h.2.2.elim
  | _ :: _ :: _ :: _, _ :: _ :: _ :: _, h => exact h.2.2.elim
  | _ :: _ :: _ :: _, [_], h => exact h.2.elim
  | _ :: _ :: _ :: _, [], h => exact h.elim
theorem rnA_three {K : PySem.W.Frag} {sp : Addr} {H F' H' : Hp} {b1 b2 b3 : Bool} {xs : List V} {ds : List D} (h : RnA K sp H F' H' [b1, b2, b3] xs ds) : ∃ u v w, xs = [u, v, w] := by
  match xs, ds, h with
  | x :: xs, d :: ds, h =>
    obtain ⟨v, w, e⟩ := rnA_two h.2
    exact ⟨x, v, w, by rw [e]⟩
  | [], [], h => exact h.elim
  | [], _ :: _, h => exact h.elim
  | _ :: _, [], h => exact h.elim
theorem two_of {K : PySem.W.Frag} {sp : Addr} {H F' H' : Hp} {b1 b2 : Bool} {xs : List V} {ds : List D} {i j : Nat} {σ : L2.St} {P : L2.St → Prop} (h : RnA K sp H F' H' [b1, b2] xs ds) (q : P (setsX [i, j] xs σ)) : ∃ v w, xs = [v, w] ∧ P ((σ.set i (some v)).set j (some w)) := by
  obtain ⟨v, w, rfl⟩ := rnA_two h
  exact ⟨v, w, rfl, q⟩
theorem three_of {K : PySem.W.Frag} {sp : Addr} {H F' H' : Hp} {b1 b2 b3 : Bool} {xs : List V} {ds : List D} {i j l : Nat} {σ : L2.St} {P : L2.St → Prop} (h : RnA K sp H F' H' [b1, b2, b3] xs ds) (q : P (setsX [i, j, l] xs σ)) : ∃ u v w, xs = [u, v, w] ∧ P (((σ.set i (some u)).set j (some v)).set l (some w)) := by
  obtain ⟨u, v, w, rfl⟩ := rnA_three h
  exact ⟨u, v, w, rfl, q⟩
theorem rdLN_imp {ns : List Bool} {es : List E} {σ : L2.St} {H : Hp} {Q Q' : List V → Hp → Prop} (h : RdLN G ns es σ H Q) (i : ∀ xs F' H' ds, RnA G.K G.sp H F' H' ns xs ds → Q xs H' → Q' xs H') : RdLN G ns es σ H Q' := by
  obtain ⟨g, en, F, s, ds, s', R, off, he, hn, k⟩ := h
  exact ⟨g, en, F, s, ds, s', R, off, he, hn, fun xs F' H' f r nd => i xs F' H' ds r (k xs F' H' f r nd)⟩
theorem mS_ok (hk : S.sc.kind = .function) (h : XOk X G L S) : ∀ (n : Nat) (st : Fz.S) (sx : Stmt), mS n L S st sx = true → PS X sx (RdS G st)
  | 0, _, _, m => by cases m
  | n + 1, st, sx, m => by
    have ih := mS_ok hk h n
    have he := fun e ex => mE_ok (G := G) (L := L) n h e ex
    have hk2 : X.env.scope.kind = .function := by rw [h.sc]; exact hk
    have sw := fun value t l => swB_ok (S := S) (env := X.env) h.sc hk2 value t l
    have sws : ∀ t value l, swB S value t = false → swapsWithSole [t] value l X.env = pure false := fun t v l q => by show swapsWith v (some t) l _ = _; rw [sw, q]
    unfold mS at m
    cases st with
    | pass => cases sx with
      | Pass => exact okS_pass
      | _ => cases m
    | ret e =>
      simp only at m
      split at m
      · exact okS_ret (he _ _ m).E.V
      · cases m
    | mix j i lap =>
      simp only at m
      split at m
      · rename_i x px w apos z cpos tx ix k scope lp rp
        simp only [Bool.and_eq_true, decide_eq_true_eq, Bool.not_eq_true'] at m
        obtain ⟨⟨⟨⟨⟨⟨⟨⟨⟨rfl, rfl⟩, m3⟩, m4⟩, m5⟩, m6⟩, m7⟩, m8⟩, m9⟩, m10⟩ := m
        have bo : BlkOk X.N X.env.scope scope (tgOwn S (.name lap)) := by rw [h.N, h.sc]; exact blkOk_by m5
        have hb := fun s H C cl fp => h.blk s H scope C cl fp
        refine okS_mix h.hK h.calm h.nd (mI_ok (tg := tx) h he m4) bo (tgOwn_slots S (.name lap)) (fun s H C cl fp => mT_ok n (hb s H C cl fp) (.name lap) tx m7) (fun s H C cl fp => ?_) (noSet_ok m6)
        have hx := hb s H C cl fp
        obtain ⟨q1, q2, q3, q4⟩ := visB_ok hx m8
        have pe := pe_bm (cpos := cpos) (apos := apos) PySem.F.plainAttrs_list PySem.F.slot_list_pop PySem.F.type_list_pop mt_popAt (pe_var (pos := px) q1 q2 q3 q4) (pa_cons (mE_ok n hx _ _ m10).E.V pa_nil (starEach_no m9 _ _)) (by rfl) (by rw [starEach_no m9]; rfl) m3 (starEach_no m9 _ _) (by rfl)
        have eK : (X.blk s H scope (compEnvC scope cl C X.env) fp).K = G.K := h.hK
        rw [eK] at pe
        exact pe
      · cases m
    | ite q a b =>
      simp only at m
      split at m
      · simp only [Bool.and_eq_true] at m
        exact okS_ite (he _ _ m.1.1).E.T (mSs_ok ih m.1.2) (mSs_ok ih m.2)
      · cases m
    | for_ t it body =>
      simp only at m
      split at m
      · simp only [Bool.and_eq_true] at m
        obtain ⟨⟨⟨m1, m2⟩, m3⟩, m4⟩ := m
        exact okS_for h.xe h.calm (mI_ok h he m1) (mT_ok n h _ _ m3) (mSs_ok ih m4) (noSet_ok m2)
      · cases m
    | whl q body =>
      simp only at m
      split at m
      · simp only [Bool.and_eq_true] at m
        exact okS_whl h.xe (he _ _ m.1).E.T (mSs_ok ih m.2)
      · cases m
    | aug i o e =>
      simp only at m
      split at m
      · simp only [Bool.and_eq_true, Bool.or_eq_true, decide_eq_true_eq] at m
        obtain ⟨⟨⟨m1, rfl⟩, m3⟩, m4⟩ := m
        obtain ⟨q1, q2, q3⟩ := locB_ok h m1
        exact okS_aug h.nd q1 q2 q3 m3 (he _ _ m4).E.B
      · cases m
    | app i e =>
      simp only at m
      split at m
      · simp only [Bool.and_eq_true, decide_eq_true_eq, Bool.not_eq_true'] at m
        obtain ⟨⟨⟨⟨rfl, m2⟩, m3⟩, m4⟩, m5⟩ := m
        obtain ⟨q1, q2, q3, q4⟩ := visB_ok h m2
        exact okS_app q1 q2 q3 q4 m3 m4 (he _ _ m5).E.V
      · cases m
    | ext i e =>
      simp only at m
      split at m
      · simp only [Bool.and_eq_true, decide_eq_true_eq, Bool.not_eq_true'] at m
        obtain ⟨⟨⟨⟨rfl, m2⟩, m3⟩, m4⟩, m5⟩ := m
        obtain ⟨q1, q2, q3, q4⟩ := visB_ok h m2
        exact okS_ext q1 q2 q3 q4 m3 m4 (he _ _ m5).E.B
      · cases m
    | pop t j k => cases k with
      | some _ => cases m
      | none =>
        simp only at m
        split at m
        · simp only [Bool.and_eq_true, decide_eq_true_eq, Bool.not_eq_true'] at m
          obtain ⟨⟨⟨⟨⟨rfl, m2⟩, m3⟩, m4⟩, m5⟩, m6⟩ := m
          obtain ⟨q1, q2, q3, q4⟩ := visB_ok h m2
          exact okS_pop q1 q2 q3 q4 m3 (mT_ok n h _ _ m4) (sws _ _ _ rfl) (swN_ok h.sc hk2 m6) (one_assign m5)
        · cases m
    | set i k e =>
      simp only at m
      split at m
      · simp only [Bool.and_eq_true, Bool.not_eq_true'] at m
        obtain ⟨⟨⟨m1, m2⟩, m3⟩, m4⟩ := m
        obtain ⟨q1, q2, q3, q4⟩ := visB_ok h m1
        refine okS_set q1 q2 q3 q4 m2 (he _ _ m4).E.V (he _ _ m3).E.B ?_ (swN_ok h.sc hk2 rfl)
        refine sws _ _ _ ?_
        unfold swB
        split
        · rename_i e2; cases e2
        · rfl
      · cases m
    | new i e =>
      simp only at m
      split at m
      · rename_i x p y pos
        simp only [Bool.and_eq_true] at m
        obtain ⟨⟨⟨m1, m2⟩, m3⟩, m4⟩ := m
        obtain ⟨q1, q2, q3⟩ := locB_ok h m1
        by_cases q : swB S y (.Name x p) = true
        · rw [if_pos q, Bool.and_eq_true, decide_eq_true_eq] at m4
          obtain ⟨te, t1, t2⟩ := (he _ _ m3).C m4.1 i x p pos q1 (by rw [h.sc]; exact m4.2) (by rw [sw, q])
          exact okS_new t1 t2
        · have q : swB S y (.Name x p) = false := by simpa using q
          exact okS_new (ps_set h.nd q1 q2 ((he _ _ m3).N m2) (by rw [sw, q]) q3) fun _ _ _ z => z
      · cases m
    | par is es =>
      simp only at m
      split at m
      · rename_i ts a b vs c d pos
        rw [Bool.and_eq_true] at m
        obtain ⟨m1, m2⟩ := m
        obtain ⟨r1, _, _⟩ := allB_ok h he m1
        split at m2
        · rename_i hsw
          simp only [Bool.and_eq_true, decide_eq_true_eq] at m2
          obtain ⟨⟨⟨⟨⟨⟨rfl, rfl⟩, n1⟩, n2⟩, n3⟩, n4⟩, n5⟩ := m2
          exact okS_par2 (ps_par h.calm h.nd (h.N ▸ n1) (h.N ▸ n2) n3 (h.sc ▸ n4) (h.sc ▸ n5) r1 (swN_ok (S := S) h.sc hk2 hsw)) fun _ _ _ z => z
        · rename_i hsw
          simp only [Bool.and_eq_true, decide_eq_true_eq] at m2
          obtain ⟨⟨⟨⟨⟨⟨⟨⟨⟨⟨⟨rfl, rfl⟩, rfl⟩, n1⟩, n2⟩, n3⟩, n4⟩, n5⟩, n6⟩, n7⟩, n8⟩, n9⟩ := m2
          exact okS_par3 (ps_par3 h.calm h.nd (h.N ▸ n1) (h.N ▸ n2) (h.N ▸ n3) n4 n5 n6 (h.sc ▸ n7) (h.sc ▸ n8) (h.sc ▸ n9) r1 (swN_ok (S := S) h.sc hk2 hsw)) fun _ _ _ z => z
        · cases m2
      · cases m
    | parN is ns es =>
      simp only at m
      split at m
      · rename_i ts a b vs c d pos
        rw [Bool.and_eq_true] at m
        obtain ⟨m1, m2⟩ := m
        have r1 := allN_ok (bs := ns) h he m1
        split at m2
        · rename_i hsw
          simp only [Bool.and_eq_true, decide_eq_true_eq] at m2
          obtain ⟨⟨⟨⟨⟨⟨rfl, rfl⟩, n1⟩, n2⟩, n3⟩, n4⟩, n5⟩ := m2
          refine okS_parN (ps_par h.calm h.nd (h.N ▸ n1) (h.N ▸ n2) n3 (h.sc ▸ n4) (h.sc ▸ n5) r1 (swN_ok (S := S) h.sc hk2 hsw)) fun D σ H z => ?_
          match ns, es, m1, z with
          | [b1, b2], [_, _], _, z => exact rdLN_imp z fun xs F' H' ds r q => two_of (P := fun σ => D.nx σ H') r q
          | [], [], m1, _ => cases m1
          | [], _ :: _, m1, _ => cases m1
          | _ :: _, [], m1, _ => cases m1
          | [_], _ :: _, m1, _ => simp [allN] at m1
          | _ :: _ :: _, [_], m1, _ => simp [allN] at m1
          | _ :: _ :: _ :: _, _ :: _ :: _, m1, _ => simp [allN] at m1
          | [_, _], _ :: _ :: _ :: _, m1, _ => simp [allN] at m1
        · rename_i hsw
          simp only [Bool.and_eq_true, decide_eq_true_eq] at m2
          obtain ⟨⟨⟨⟨⟨⟨⟨⟨⟨⟨⟨rfl, rfl⟩, rfl⟩, n1⟩, n2⟩, n3⟩, n4⟩, n5⟩, n6⟩, n7⟩, n8⟩, n9⟩ := m2
          refine okS_parN (ps_par3 h.calm h.nd (h.N ▸ n1) (h.N ▸ n2) (h.N ▸ n3) n4 n5 n6 (h.sc ▸ n7) (h.sc ▸ n8) (h.sc ▸ n9) r1 (swN_ok (S := S) h.sc hk2 hsw)) fun D σ H z => ?_
          match ns, es, m1, z with
          | [b1, b2, b3], [_, _, _], _, z => exact rdLN_imp z fun xs F' H' ds r q => three_of (P := fun σ => D.nx σ H') r q
          | [], [], m1, _ => cases m1
          | [], _ :: _, m1, _ => cases m1
          | _ :: _, [], m1, _ => cases m1
          | [_], _ :: _, m1, _ => simp [allN] at m1
          | _ :: _ :: _, [_], m1, _ => simp [allN] at m1
          | [_, _], _ :: _ :: _, m1, _ => simp [allN] at m1
          | _ :: _ :: _ :: _, [_, _], m1, _ => simp [allN] at m1
          | _ :: _ :: _ :: _ :: _, _ :: _ :: _ :: _, m1, _ => simp [allN] at m1
          | [_, _, _], _ :: _ :: _ :: _ :: _, m1, _ => simp [allN] at m1
        · rename_i i j x px y py v1 v2 hsw
          simp only [Bool.and_eq_true, Bool.not_eq_true'] at m2
          obtain ⟨⟨n1, n2⟩, n3⟩ := m2
          obtain ⟨q1, q2, q3⟩ := locB_ok h n1
          obtain ⟨r1', r2', r3'⟩ := locB_ok h n2
          exact okS_parC (m := 2) h.calm rfl (by decide) r1 (pgs_cons (pg_name h.nd q1 q2 q3) (pgs_cons (pg_name h.nd r1' r2' r3') pgs_nil)) rfl rfl (sws _ _ _ n3) (swN_ok (S := S) h.sc hk2 hsw) (one_assign rfl)
        · rename_i i j l x px y py z pz v1 v2 v3 hsw
          simp only [Bool.and_eq_true, Bool.not_eq_true'] at m2
          obtain ⟨⟨⟨n1, n2⟩, n4⟩, n3⟩ := m2
          obtain ⟨q1, q2, q3⟩ := locB_ok h n1
          obtain ⟨r1', r2', r3'⟩ := locB_ok h n2
          obtain ⟨t1, t2, t3⟩ := locB_ok h n4
          exact okS_parC (m := 3) h.calm rfl (by decide) r1 (pgs_cons (pg_name h.nd q1 q2 q3) (pgs_cons (pg_name h.nd r1' r2' r3') (pgs_cons (pg_name h.nd t1 t2 t3) pgs_nil))) rfl rfl (sws _ _ _ n3) (swN_ok (S := S) h.sc hk2 hsw) (one_assign rfl)
        · cases m2
      · cases m
    | asg t e =>
      simp only at m
      split at m
      · rename_i tx y pos
        simp only [Bool.and_eq_true] at m
        obtain ⟨⟨m1, m2⟩, m3⟩ := m
        by_cases q : swB S y tx = true
        · rw [if_pos q] at m3
          split at m3
          · rename_i i x p
            simp only [Bool.and_eq_true, decide_eq_true_eq] at m3
            obtain ⟨⟨⟨n1, n2⟩, n3⟩, n4⟩ := m3
            obtain ⟨te, t1, t2⟩ := (he _ _ m1).C n1 i x p pos (h.N ▸ n3) (by rw [h.sc]; exact n4) (by rw [sw, q])
            exact okS_asg t1 (fun _ _ _ z => t2 _ _ _ (V_to_N z)) fun _ _ _ _ z => gName_of z
          · cases m3
        · rw [if_neg q] at m3
          have q : swB S y tx = false := by simpa using q
          rw [Bool.and_eq_true, decide_eq_true_eq, Bool.not_eq_true'] at m3
          exact okS_asg (ps_asg (he _ _ m1).E.V (mT_ok n h _ _ m2) (by show swapsWith y (some tx) _ _ = _; rw [sw, q]) (swN_ok h.sc hk2 m3.2) (one_assign m3.1)) (fun _ _ _ z => z) fun _ _ _ _ z => z
      · cases m
end
end Fz
/-! FzR: a program of defs keeps its promises; a law. -/
namespace Fz
open PySem PySem.Spec PyProof.Rows L2
/-- a def, bound by its name -/
structure Bd (Pg : Program) (w : World) (K : PySem.W.Frag) (mg : Str → Option Value) (base : Heap) (k : Nat) (x : Str) (sp : SpG) : Prop where
  ex : ∃ a fd ps, mg x = some (.ref a) ∧ PySem.W.keepIn K (.ref a) = true ∧ Binds K fd ps [] ∧ FnG Pg w K mg base k a fd ps sp
def scB (N P : List Str) (sc : Scope) : Bool :=
  decide (sc.kind = .function) && !sc.isCoroutine && !sc.isGenerator && decide N.Nodup && decide (N.take P.length = P) && P.all (fun x => decide (sc.names.lookup x = some .local) || decide (sc.names.lookup x = some .cell)) && sc.names.all (fun y => !decide (y.2 = .free))
theorem scB_ok {N P : List Str} {sc : Scope} (h : scB N P sc = true) : FnScope N P sc := by
  unfold scB at h
  simp only [Bool.and_eq_true, Bool.not_eq_true', decide_eq_true_eq, List.all_eq_true, Bool.or_eq_true, decide_eq_false_iff_not] at h
  exact ⟨h.1.1.1.1.1.1, h.1.1.1.1.1.2, h.1.1.1.1.2, h.1.1.1.2, h.1.1.2, h.1.2, h.2⟩
def mDef (n : Nat) (L : Lk) (fn : Fn) (N ps : List Str) (sc : Scope) (body : List Stmt) : Bool :=
  decide (fn.np = ps.length) && decide (fn.nl = N.length) && decide (ps.length ≤ N.length) && scB N ps sc && mS.mSs n fn.body body (mS n L ⟨N, sc, fun _ => true⟩) && (ownL [] fn.body).isSome
theorem callN_succ {v : Bool} {P : List Fn} {n f : Nat} {ds : List D} {s : Src} {r : D × Src} (h : callN v P (n + 1) f ds s = some r) : ∃ fn q s1, P[f]? = some fn ∧ ds.length = fn.np ∧ exL v (callN v P n) fn.body (startEn fn.np fn.nl ds) s = some (q, s1) ∧
    ((∃ en, q = .next en ∧ r = (.none, s1)) ∨ ∃ d, q = .ret d ∧ r = (d, s1)) := by
  have h : (match P[f]? with
    | some fn => if ds.length = fn.np then bnd (exL v (callN v P n) fn.body (startEn fn.np fn.nl ds)) fun q => match q with
        | .next _ => ret PyData.none
        | .ret d => ret d
      else fun _ => none
    | none => fun _ => none) s = some r := h
  cases e : P[f]? with
  | none => rw [e] at h; cases h
  | some fn =>
    rw [e] at h
    have h : (if ds.length = fn.np then bnd (exL v (callN v P n) fn.body (startEn fn.np fn.nl ds)) fun q => match q with
        | .next _ => ret PyData.none
        | .ret d => ret d
      else fun _ => none) s = some r := h
    by_cases hl : ds.length = fn.np
    · rw [if_pos hl] at h
      obtain ⟨q, s1, h1, h2⟩ := bnd_some h
      refine ⟨fn, q, s1, rfl, hl, h1, ?_⟩
      cases q with
      | next en => exact .inl ⟨en, rfl, (Option.some.inj h2).symm⟩
      | ret d => exact .inr ⟨d, rfl, (Option.some.inj h2).symm⟩
    · rw [if_neg hl] at h; cases h
section
variable {Pg : Program} {w : World} {K : PySem.W.Frag} {mg : Str → Option Value} {base : Heap}
theorem ls_start {sp cc : Addr} {F H : Hp} {s : Src} {vs : List V} {ds : List D} {N : List Str} {np nl : Nat} (h1 : Same F H) (h2 : SrcAt sp cc H s) (h3 : F sp = none) (h4 : F cc = none) (ra : RpA K sp F vs ds) (e1 : ds.length = np) (e2 : nl = N.length) (e3 : np ≤ N.length) :
    Ls K sp cc F H [] (startEn np nl ds) (L2.start N vs) F H s := by
  have hl := ra.length
  refine ⟨⟨h1, h2, h3, h4, ?_, fun i d e _ => ?_, fun i hi => (nomatch hi), fun i j a hi => (nomatch hi)⟩, Fw.refl h1 h2, fun i a hi => (nomatch hi)⟩
  · unfold startEn L2.start
    simp only [List.length_append, List.length_map, List.length_replicate]
    omega
  · unfold startEn at e
    rw [List.getD_eq_getElem?_getD] at e
    by_cases hi : i < ds.length
    · rw [List.getElem?_append_left (by simpa using hi), List.getElem?_map] at e
      cases q : ds[i]? with
      | none => rw [q] at e; cases e
      | some d2 =>
        rw [q] at e
        cases e
        obtain ⟨v, e4, r⟩ := ra.get q
        refine ⟨v, ?_, r⟩
        unfold L2.start
        rw [List.getElem?_append_left (by simp; omega), List.getElem?_map, e4]; rfl
    · rw [List.getElem?_append_right (by simp; omega), List.getElem?_replicate] at e
      split at e <;> cases e
theorem prog_step {v : Bool} {P : List Fn} {L : Lk} {m : Nat} (fx : ∀ x ∈ frees, mg x = none) (pk : Bd Pg w K mg base 1 L.pick (spPick v)) {n f : Nat} {x : Str} {fn : Fn} {params : Arguments} {body : List Stmt} {scope : Scope} {a : Addr} {fd : FuncData} {N ps : List Str}
    (ih : ∀ f x, L.fns[f]? = some x → Bd Pg w K mg base (n + 2) x (spCall K (callN v P n) f)) (hP : P[f]? = some fn) (F : L2.FunD K x x params body scope [] [] a fd) (hm : mDef m L fn N ps scope body = true) :
    FnG Pg w K mg base (n + 3) a fd ps (spCall K (callN v P (n + 1)) f) := by
  unfold mDef at hm
  simp only [Bool.and_eq_true, decide_eq_true_eq] at hm
  obtain ⟨⟨⟨⟨⟨m1, m2⟩, m3⟩, m4⟩, m5⟩, m6⟩ := hm
  have S := scB_ok m4
  refine funD_okG F S (fun vs H Q ⟨sp, cc, F1, ds, s, d, s', _, _, _, _, ra, hc, _⟩ => ?_) fun cdv A outer s H vs Q hr hgu ⟨sp, cc, F1, ds, sr, d, s', h1, h2, h3, h4, ra, hc, k⟩ => ?_
  · obtain ⟨fn2, _, _, e1, e2, _⟩ := callN_succ hc
    rw [hP] at e1
    cases e1
    rw [ra.length, e2, m1]
  · obtain ⟨fn2, q, s1, e1, e2, e3, e4⟩ := callN_succ hc
    rw [hP] at e1
    cases e1
    obtain ⟨g', hg'⟩ := Option.isSome_iff_exists.mp m6
    have xo : XOk (cxOf CX0 Pg w K mg base N x scope a cdv A outer s H E0).nox ⟨K, sp, cc, v, callN v P n⟩ L ⟨N, scope, fun _ => true⟩ := {
      hK := rfl, N := rfl, nd := S.nd, sc := rfl, fn := fun _ _ => rfl, calm := rfl, gu := hgu, un := (by have := hr.un; show (A.deeper (envOfC x scope s.heap.objs.size a cdv)).units + 70 < cLine; omega), xe := rfl, free := fx
      call := fun f x e => by
        obtain ⟨a, fd, ps, q1, q2, q3, q4⟩ := (ih f x e).ex
        exact ⟨a, fd, ps, n + 2, q1, q2, q3, q4, hr⟩
      pick := by
        obtain ⟨a, fd, ps, q1, q2, q3, q4⟩ := pk.ex
        exact ⟨a, fd, ps, 1, q1, q2, q3, q4, hr.mono (by omega)⟩ }
    refine ⟨_, mSs_ok (fun st sx z => mS_ok (S := ⟨N, scope, fun _ => true⟩) S.kind xo m st sx z) m5, F1, H, [], _, F1, sr, q, s1, g', ls_start h1 h2 h3 h4 ra e2 m2 (m1 ▸ m3), hg', e3, ?_⟩
    rcases e4 with ⟨en, rfl, e5⟩ | ⟨d2, rfl, e5⟩
    · cases e5
      exact fun σ2 F' H' sm L2 => k .non F' H' L2.W .non
    · cases e5
      exact fun x F' H' f r => k x F' H' f r
theorem prog_ok {v : Bool} {P : List Fn} {L : Lk} {m : Nat} (fx : ∀ x ∈ frees, mg x = none) (pk : Bd Pg w K mg base 1 L.pick (spPick v))
    (ds : ∀ (f : Nat) (x : Str), L.fns[f]? = some x → ∃ (fn : Fn) (params : Arguments) (body : List Stmt) (scope : Scope) (a : Addr) (fd : FuncData) (N ps : List Str), P[f]? = some fn ∧ mg x = some (.ref a) ∧ L2.FunD K x x params body scope [] [] a fd ∧ Binds K fd ps [] ∧ mDef m L fn N ps scope body = true) :
    ∀ n f x, L.fns[f]? = some x → Bd Pg w K mg base (n + 2) x (spCall K (callN v P n) f)
  | 0, f, x, e => by
    obtain ⟨fn, params, body, scope, a, fd, N, ps, q1, q2, q3, q4, q5⟩ := ds f x e
    exact ⟨a, fd, ps, q2, q3.kp, q4, ⟨fun vs H Q ⟨_, _, _, _, _, _, _, _, _, _, _, _, z, _⟩ => (by cases z), fun A outer s H given us vs Q _ _ _ _ _ ⟨_, _, _, _, _, _, _, _, _, _, _, _, z, _⟩ => (by cases z)⟩⟩
  | n + 1, f, x, e => by
    obtain ⟨fn, params, body, scope, a, fd, N, ps, q1, q2, q3, q4, q5⟩ := ds f x e
    exact ⟨a, fd, ps, q2, q3.kp, q4, prog_step fx pk (prog_ok fx pk ds n) q1 q3 q5⟩
/-! ### the law -/
def spLaw (K : PySem.W.Frag) : SpG := fun vs H Q => ∃ (a : Addr) (ns : List Int), vs = [.ref a] ∧ SqL K H a (ns.map V.int) ∧ ns.length ≤ 1000 ∧ ∀ H', Q (.bl true) H'
/-- the law's rest says yes, whatever the source -/
def Says (v : Bool) (c : Cl) (rest : List S) (nl : Nat) : Prop := ∀ s : Src, ∃ s', exL v c rest (none :: some srcD :: List.replicate nl none) s = some (.ret (.bool true), s')
def RdA (K : PySem.W.Frag) (v : Bool) (c : Cl) (rest : List S) : TS := fun D σ H => ∃ sp cc, RdSs ⟨K, sp, cc, v, c⟩ rest D σ H
def mLaw (m : Nat) (L : Lk) (src : Str) (rest : List S) (N : List Str) (nl : Nat) (sc : Scope) (body : List Stmt) : Bool := match body with
  | .Assign [.Name y py] (.Call (.Name z _) [.Name x _] [] _) _ :: r => decide (N = x :: y :: N.drop 2) && decide (N.length = nl + 2) && scB N (N.take 1) sc && decide (z = src) && decide (sc.names.lookup z = some .globalImplicit) && !(z == ("__debug__" : Str)) && !(x == ("__debug__" : Str)) && !(x == ("__classdict__" : Str)) &&
      (decide (sc.names.lookup y = some .local) || decide (sc.names.lookup y = some .cell)) && mS.mSs m rest r (mS m L ⟨N, sc, fun _ => true⟩) && (ownL [] rest).isSome
  | _ => false
theorem law_ok {v : Bool} {P : List Fn} {L : Lk} {m n nl : Nat} {src x : Str} {rest : List S} (fx : ∀ x ∈ frees, mg x = none) (pk : Bd Pg w K mg base 1 L.pick (spPick v)) (so : Bd Pg w K mg base 1 src (spSrc K))
    (hP : ∀ f x, L.fns[f]? = some x → Bd Pg w K mg base (n + 2) x (spCall K (callN v P n) f)) {params : Arguments} {body : List Stmt} {scope : Scope} {a : Addr} {fd : FuncData} {N : List Str} (F : L2.FunD K x x params body scope [] [] a fd)
    (hm : mLaw m L src rest N nl scope body = true) (says : Says v (callN v P n) rest nl) : FnG Pg w K mg base (n + 3) a fd (N.take 1) (spLaw K) := by
  unfold mLaw at hm
  split at hm
  · rename_i y py z pz x2 px pc pa r
    simp only [Bool.and_eq_true, Bool.or_eq_true, decide_eq_true_eq, Bool.not_eq_true'] at hm
    obtain ⟨⟨⟨⟨⟨⟨⟨⟨⟨⟨m1, m2⟩, m3⟩, m4⟩, m5⟩, m6⟩, m7⟩, m8⟩, m9⟩, m10⟩, m11⟩ := hm
    have S := scB_ok m3
    have t1 : N.take 1 = [x2] := by rw [m1]; rfl
    refine funD_okG F S (fun vs H Q ⟨a, ns, e, _⟩ => by rw [e, t1]; rfl) fun cdv A outer s H vs Q hr hgu ⟨ad, ns, e, hs, hl, k⟩ => ?_
    subst e
    obtain ⟨g', hg'⟩ := Option.isSome_iff_exists.mp m11
    have X0 : Cx := (cxOf CX0 Pg w K mg base N x scope a cdv A outer s H E0).nox
    have xo : ∀ sp cc, XOk (cxOf CX0 Pg w K mg base N x scope a cdv A outer s H E0).nox ⟨K, sp, cc, v, callN v P n⟩ L ⟨N, scope, fun _ => true⟩ := fun sp cc => {
      hK := rfl, N := rfl, nd := S.nd, sc := rfl, fn := fun _ _ => rfl, calm := rfl, gu := hgu, un := (by have := hr.un; show (A.deeper (envOfC x scope s.heap.objs.size a cdv)).units + 70 < cLine; omega), xe := rfl, free := fx
      call := fun f x e => by
        obtain ⟨a, fd, ps, q1, q2, q3, q4⟩ := (hP f x e).ex
        exact ⟨a, fd, ps, n + 2, q1, q2, q3, q4, hr⟩
      pick := by
        obtain ⟨a, fd, ps, q1, q2, q3, q4⟩ := pk.ex
        exact ⟨a, fd, ps, 1, q1, q2, q3, q4, hr.mono (by omega)⟩ }
    obtain ⟨as, fds, pss, s1, s2, s3, s4⟩ := so.ex
    have n0 : (cxOf CX0 Pg w K mg base N x scope a cdv A outer s H E0).nox.N[0]? = some x2 := by show N[0]? = _; rw [m1]; rfl
    have n1 : (cxOf CX0 Pg w K mg base N x scope a cdv A outer s H E0).nox.N[1]? = some y := by show N[1]? = _; rw [m1]; rfl
    have vx : Vis (cxOf CX0 Pg w K mg base N x scope a cdv A outer s H E0).nox.env.scope x2 := (S.par x2 (by rw [t1]; exact List.mem_singleton.mpr rfl)).elim .inl fun z => .inr (.inl z)
    have pe := pe_callG (pos := pc) (p := pz) (X := (cxOf CX0 Pg w K mg base N x scope a cdv A outer s H E0).nox) s4 (hr.mono (by omega)) hgu (show Gl _ z from m5) (by rw [m4]; exact s1) s2 s3 (pa_cons (pe_var (pos := px) n0 vx m7 m8) pa_nil (by rfl)) m6 (by rfl) (by rfl)
    have rs : PSs (cxOf CX0 Pg w K mg base N x scope a cdv A outer s H E0).nox r (RdA K v (callN v P n) rest) := ⟨fun pins st σ H1 D I ⟨sp, cc, q⟩ => (mSs_ok (fun st sx z => mS_ok (S := ⟨N, scope, fun _ => true⟩) S.kind (xo sp cc) m st sx z) m10).run pins st σ H1 D I q⟩
    refine ⟨_, pss_cons (ps_set (pos' := py) S.nd n1 m9 pe (by rfl) (.inl rfl)) rs, .ref ad, rfl, ad, ns, rfl, hs, hl, fun sp cc sr H' e1 e2 sm q => ⟨sp, cc, ?_⟩⟩
    obtain ⟨s', hx⟩ := says sr
    have len : (none :: some srcD :: List.replicate nl none : En).length = ((L2.start N [V.ref ad]).set 1 (some (V.ref sp))).length := by
      rw [List.length_set]
      unfold L2.start
      simp only [List.length_cons, List.length_replicate, List.length_append, List.length_map, List.length_nil]
      omega
    refine ⟨fun _ => none, H', [], _, fun _ => none, sr, _, s', g', ⟨⟨fun b o z => (by cases z), q, rfl, rfl, len, fun i d ei _ => ?_, fun i hi => (nomatch hi), fun i j b hi => (nomatch hi)⟩, Fw.refl (fun b o z => (by cases z)) q, fun i b hi => (nomatch hi)⟩, hg', hx, fun xv F' H2 f rx => ?_⟩
    · rw [List.getD_eq_getElem?_getD] at ei
      match i, ei with
      | 0, ei => cases ei
      | 1, ei =>
        cases ei
        refine ⟨.ref sp, ?_, .src⟩
        rw [List.getElem?_set_self (by rw [List.length_set] at len; rw [← len]; simp)]
      | i + 2, ei =>
        simp only [List.getElem?_cons_succ, List.getElem?_replicate] at ei
        split at ei <;> cases ei
    · cases rx
      exact k H2
  · cases hm
end
end Fz
/-! FzW: how to show that plain code says what it should. -/
namespace Fz
open PySem
def Wp {α : Type} (x : M α) (s : Src) (Q : α → Src → Prop) : Prop := ∃ a s', x s = some (a, s') ∧ Q a s'
section
variable {α β : Type} {s : Src} {v : Bool} {c : Cl} {en : En}
theorem Wp.mono {x : M α} {Q R : α → Src → Prop} (h : Wp x s Q) (f : ∀ a s', Q a s' → R a s') : Wp x s R := let ⟨a, s', e, q⟩ := h; ⟨a, s', e, f a s' q⟩
theorem wp_ret {a : α} {Q : α → Src → Prop} (q : Q a s) : Wp (ret a) s Q := ⟨a, s, rfl, q⟩
theorem wp_bnd {x : M α} {f : α → M β} {Q : β → Src → Prop} (h : Wp x s fun a s1 => Wp (f a) s1 Q) : Wp (bnd x f) s Q := by
  obtain ⟨a, s1, e, b, s2, e2, q⟩ := h
  refine ⟨b, s2, ?_, q⟩
  unfold bnd
  rw [e]; exact e2
theorem wp_lift {x : Option α} {a : α} {Q : α → Src → Prop} (e : x = some a) (q : Q a s) : Wp (lift x) s Q := ⟨a, s, by rw [e]; rfl, q⟩
/-- what does not look at the source -/
theorem wp_pure {x : M α} {a : α} {Q : α → Src → Prop} (h : ∀ s, x s = some (a, s)) (q : Q a s) : Wp x s Q := ⟨a, s, h s, q⟩
def After (Q : Rs → Src → Prop) (k : En → Src → Prop) : Rs → Src → Prop := fun r s1 => match r with
  | .next en2 => k en2 s1
  | .ret d => Q (.ret d) s1
theorem wp_nil {Q : Rs → Src → Prop} (q : Q (.next en) s) : Wp (exL v c [] en) s Q := ⟨_, _, rfl, q⟩
theorem wp_cons {st : S} {r : List S} {Q : Rs → Src → Prop} (h : Wp (exS v c st en) s (After Q fun en2 s1 => Wp (exL v c r en2) s1 Q)) : Wp (exL v c (st :: r) en) s Q := by
  obtain ⟨q, s1, e, h2⟩ := h
  cases q with
  | next en2 =>
    obtain ⟨a, s2, e2, q⟩ := h2
    refine ⟨a, s2, ?_, q⟩
    show bnd (exS v c st en) _ s = _
    unfold bnd
    rw [e]; exact e2
  | ret d =>
    refine ⟨.ret d, s1, ?_, h2⟩
    show bnd (exS v c st en) _ s = _
    unfold bnd
    rw [e]; rfl
theorem wp_asg {t : Tg} {e : E} {Q : Rs → Src → Prop} (h : Wp (evE v c e en) s fun d s1 => ∃ en2, tgSet t d en = some en2 ∧ Q (.next en2) s1) : Wp (exS v c (.asg t e) en) s Q :=
  wp_bnd (h.mono fun d s1 ⟨en2, e2, q⟩ => wp_bnd (wp_lift e2 (wp_ret q)))
theorem wp_name {i : Nat} {e : E} {Q : Rs → Src → Prop} (h : Wp (evE v c e en) s fun d s1 => Q (.next (en.set i (some d))) s1) : Wp (exS v c (.asg (.name i) e) en) s Q := wp_asg (h.mono fun d s1 q => ⟨_, rfl, q⟩)
theorem wp_op {o : O2} {a b : E} {Q : D → Src → Prop} (h : Wp (evE v c a en) s fun x s1 => Wp (evE v c b en) s1 fun y s2 => ∃ d, op2 o x y = some d ∧ Q d s2) : Wp (evE v c (.op o a b) en) s Q :=
  wp_bnd (h.mono fun x s1 h1 => wp_bnd (h1.mono fun y s2 ⟨d, e, q⟩ => wp_lift e q))
theorem wp_idx {a b : E} {Q : D → Src → Prop} (h : Wp (evE v c a en) s fun x s1 => Wp (evE v c b en) s1 fun y s2 => ∃ d, idxV x y = some d ∧ Q d s2) : Wp (evE v c (.idx a b) en) s Q :=
  wp_bnd (h.mono fun x s1 h1 => wp_bnd (h1.mono fun y s2 ⟨d, e, q⟩ => wp_lift e q))
theorem wp_ite {q a b : E} {Q : D → Src → Prop} (h : Wp (evE v c q en) s fun x s1 => ∃ t, truth x = some t ∧ Wp (if t then evE v c a en else evE v c b en) s1 Q) : Wp (evE v c (.ite q a b) en) s Q :=
  wp_bnd (h.mono fun x s1 ⟨t, e, h1⟩ => wp_bnd (wp_lift e h1))
theorem wp_if {q : E} {a b : List S} {Q : Rs → Src → Prop} (h : Wp (evE v c q en) s fun x s1 => ∃ t, truth x = some t ∧ Wp (if t then exL v c a en else exL v c b en) s1 Q) : Wp (exS v c (.ite q a b) en) s Q :=
  wp_bnd (h.mono fun x s1 ⟨t, e, h1⟩ => wp_bnd (wp_lift e h1))
theorem wp_retE {e : E} {Q : Rs → Src → Prop} (h : Wp (evE v c e en) s fun d s1 => Q (.ret d) s1) : Wp (exS v c (.ret e) en) s Q := wp_bnd (h.mono fun d s1 q => wp_ret q)
theorem wp_forL {body : D → En → M Rs} {Q : Rs → Src → Prop} (I : Nat → En → Prop) : ∀ (xs : List D) (k : Nat) (en : En) (s : Src), I k en →
    (∀ i x en s, xs[i]? = some x → I (k + i) en → Wp (body x en) s fun r s' => ∃ en2, r = .next en2 ∧ I (k + i + 1) en2) → (∀ en s, I (k + xs.length) en → Q (.next en) s) → Wp (forL body xs en) s Q
  | [], k, en, s, h0, hs, hd => ⟨_, _, rfl, hd en s h0⟩
  | x :: r, k, en, s, h0, hs, hd => by
    refine wp_bnd ((hs 0 x en s rfl h0).mono fun q s1 ⟨en2, e, h1⟩ => ?_)
    subst e
    have len : k + 1 + r.length = k + (x :: r).length := by rw [List.length_cons]; omega
    refine wp_forL I r (k + 1) en2 s1 h1 (fun i y en s hy hi => ?_) (fun en s h => hd en s (len ▸ h))
    have e : k + 1 + i = k + (i + 1) := by omega
    rw [e] at hi ⊢
    exact hs (i + 1) y en s (by simpa using hy) hi
theorem wp_for {t : Tg} {it : E} {body : List S} {Q : Rs → Src → Prop} {xs : List D} (I : Nat → En → Prop) (h : Wp (evE v c it en) s fun d s1 => seqOf d = some xs ∧ I 0 en)
    (hs : ∀ i x en s, xs[i]? = some x → I i en → ∃ en1, tgSet t x en = some en1 ∧ Wp (exL v c body en1) s fun r s' => ∃ en2, r = .next en2 ∧ I (i + 1) en2) (hd : ∀ en s, I xs.length en → Q (.next en) s) : Wp (exS v c (.for_ t it body) en) s Q := by
  refine wp_bnd (h.mono fun d s1 ⟨e, h0⟩ => wp_bnd (wp_lift e (wp_forL I xs 0 en s1 h0 (fun i x en s hx hi => ?_) fun en s hi => hd en s (by simpa using hi))))
  rw [Nat.zero_add] at hi ⊢
  obtain ⟨en1, e1, h1⟩ := hs i x en s hx hi
  exact wp_bnd (wp_lift e1 h1)
theorem drain_pos : ∀ (cs : List Int) (l : Int), True := fun _ _ => trivial
theorem pickS_lt (v : Bool) (s : Src) (m : Int) (hm : 0 < m) : 0 ≤ (pickS v s m).1 ∧ (pickS v s m).1 < m := by
  unfold pickS
  by_cases h : m < 2
  · rw [if_pos h]
    cases v with
    | true => exact ⟨Int.le_refl _, hm⟩
    | false => exact ⟨Int.le_refl _, hm⟩
  · rw [if_neg h]
    generalize drain s.cells s.left = p
    obtain ⟨cs, l⟩ := p
    simp only
    by_cases h2 : l > 1
    · rw [if_pos h2]
      exact ⟨Int.emod_nonneg _ (by omega), Int.emod_lt_of_pos _ hm⟩
    · rw [if_neg h2]
      exact ⟨Int.emod_nonneg _ (by omega), Int.emod_lt_of_pos _ hm⟩
theorem wp_pickV {a b : E} {m : Int} {Q : D → Src → Prop} (ha : ∀ s, evE v c a en s = some (srcD, s)) (hb : ∀ s, evE v c b en s = some (.int m, s)) (hm : 0 < m) (hl : m < 1073741824) (k : ∀ (x : Int) (s' : Src), 0 ≤ x → x < m → Q (.int x) s') : Wp (evE v c (.pick a b) en) s Q := by
  refine wp_bnd ⟨_, _, ha s, wp_bnd ⟨_, _, hb s, ?_⟩⟩
  obtain ⟨h1, h2⟩ := pickS_lt v s m hm
  refine ⟨.int (pickS v s m).1, (pickS v s m).2, ?_, k _ _ h1 h2⟩
  show (if m < 1073741824 then some (PyData.int (pickS v s m).1, (pickS v s m).2) else none) = _
  rw [if_pos hl]
theorem forL_append {body : D → En → M Rs} : ∀ (xs ys : List D) (en en2 : En) (s s2 : Src), forL body xs en s = some (.next en2, s2) → forL body (xs ++ ys) en s = forL body ys en2 s2
  | [], ys, en, en2, s, s2, h => by cases h; rfl
  | x :: r, ys, en, en2, s, s2, h => by
    have h2 : bnd (body x en) (fun q => match q with
      | .next en2 => forL body r en2
      | .ret d => ret (.ret d)) s = some (.next en2, s2) := h
    show bnd (body x en) (fun q => match q with
      | .next en2 => forL body (r ++ ys) en2
      | .ret d => ret (.ret d)) s = _
    unfold bnd at h2 ⊢
    cases e : body x en s with
    | none => rw [e] at h2; cases h2
    | some p =>
      obtain ⟨q, s1⟩ := p
      rw [e] at h2
      cases q with
      | next en1 => exact forL_append r ys en1 en2 s1 s2 h2
      | ret d => cases h2
theorem exL_append : ∀ (a b : List S) (en en2 : En) (s s2 : Src), exL v c a en s = some (.next en2, s2) → exL v c (a ++ b) en s = exL v c b en2 s2
  | [], b, en, en2, s, s2, h => by cases h; rfl
  | x :: a, b, en, en2, s, s2, h => by
    have h2 : bnd (exS v c x en) (fun q => match q with
      | .next en2 => exL v c a en2
      | .ret d => ret (.ret d)) s = some (.next en2, s2) := h
    show bnd (exS v c x en) (fun q => match q with
      | .next en2 => exL v c (a ++ b) en2
      | .ret d => ret (.ret d)) s = _
    unfold bnd at h2 ⊢
    cases e : exS v c x en s with
    | none => rw [e] at h2; cases h2
    | some p =>
      obtain ⟨q, s1⟩ := p
      rw [e] at h2
      cases q with
      | next en1 => exact exL_append a b en1 en2 s1 s2 h2
      | ret d => cases h2
theorem wp_step {st : S} {r : List S} {en2 : En} {Q : Rs → Src → Prop} (h : ∀ s, exS v c st en s = some (.next en2, s)) (k : Wp (exL v c r en2) s Q) : Wp (exL v c (st :: r) en) s Q := wp_cons (wp_pure h k)
theorem wp_steps {a b : List S} {en2 : En} {Q : Rs → Src → Prop} (h : ∀ s, exL v c a en s = some (.next en2, s)) (k : Wp (exL v c b en2) s Q) : Wp (exL v c (a ++ b) en) s Q := by
  obtain ⟨r, s2, e, q⟩ := k
  exact ⟨r, s2, (exL_append a b en en2 s s (h s)).trans e, q⟩
end
end Fz
/-! FzV: code that does not pick does not look at the source. -/
namespace Fz
open PySem
/-- the same at every source, which stays -/
def Ind {α : Type} (x : M α) : Prop := ∀ s a s', x s = some (a, s') → s' = s ∧ ∀ t, x t = some (a, t)
section
variable {α β : Type}
theorem ind_ret {a : α} : Ind (ret a) := fun s b s' h => by cases h; exact ⟨rfl, fun _ => rfl⟩
theorem ind_lift {a : Option α} : Ind (lift a) := fun s b s' h => by
  cases a with
  | none => cases h
  | some a => cases h; exact ⟨rfl, fun _ => rfl⟩
theorem ind_none : Ind (fun _ => none : M α) := fun s b s' h => by cases h
theorem ind_bnd {x : M α} {f : α → M β} (h : Ind x) (g : ∀ a, Ind (f a)) : Ind (bnd x f) := fun s b s' e => by
  unfold bnd at e
  cases q : x s with
  | none => rw [q] at e; cases e
  | some p =>
    obtain ⟨a, s1⟩ := p
    rw [q] at e
    obtain ⟨h1, h2⟩ := h s a s1 q
    subst h1
    obtain ⟨g1, g2⟩ := g a s1 b s' e
    refine ⟨g1, fun t => ?_⟩
    unfold bnd
    rw [h2 t]
    exact g2 t
theorem ind_ite {c : Prop} [Decidable c] {x y : M α} (h : Ind x) (g : Ind y) : Ind (if c then x else y) := by
  by_cases q : c
  · rw [if_pos q]; exact h
  · rw [if_neg q]; exact g
theorem ind_mapL {f : D → M (Option D)} (h : ∀ d, Ind (f d)) : ∀ xs, Ind (mapL f xs)
  | [] => ind_ret
  | x :: r => ind_bnd (h x) fun y => ind_bnd (ind_mapL h r) fun ys => ind_ret
theorem ind_catL {f : D → M (List D)} (h : ∀ d, Ind (f d)) : ∀ xs, Ind (catL f xs)
  | [] => ind_ret
  | x :: r => ind_bnd (h x) fun y => ind_bnd (ind_catL h r) fun ys => ind_ret
theorem ind_forL {f : D → En → M Rs} (h : ∀ d en, Ind (f d en)) : ∀ xs en, Ind (forL f xs en)
  | [], en => ind_ret
  | x :: r, en => ind_bnd (h x en) fun q => by
    cases q with
    | next en2 => exact ind_forL h r en2
    | ret d => exact ind_ret
theorem ind_whlL {t : En → M Bool} {b : En → M Rs} (h : ∀ en, Ind (t en)) (g : ∀ en, Ind (b en)) : ∀ n en, Ind (whlL t b n en)
  | 0, en => ind_none
  | n + 1, en => ind_bnd (h en) fun q => ind_ite (ind_bnd (g en) fun r => by
      cases r with
      | next en2 => exact ind_whlL h g n en2
      | ret d => exact ind_ret) ind_ret
end
section
variable (pf : Nat → Bool)
mutual
def npE : E → Bool
  | .op _ a b => npE a && npE b
  | .neg a => npE a
  | .not a => npE a
  | .and a b => npE a && npE b
  | .or a b => npE a && npE b
  | .ite q a b => npE q && npE a && npE b
  | .cmp _ a b => npE a && npE b
  | .chain _ _ a b c => npE a && npE b && npE c
  | .tup es => npL es
  | .lst es => npL es
  | .star a => npE a
  | .idx a b => npE a && npE b
  | .slc a lo hi => npE a && npO lo && npO hi
  | .rev a => npE a
  | .call f args => pf f && npL args
  | .pick _ _ => false
  | .bi _ args => npL args
  | .meth _ a b => npE a && npE b
  | .isi a _ => npE a
  | .rng args => npL args
  | .enum a => npE a
  | .zip a b _ => npE a && npE b
  | .comp _ it ifs elt => npE it && npO ifs && npE elt
  | .comp2 _ it _ it2 elt => npE it && npE it2 && npE elt
  | .dps a => npE a
  | .dzip a b _ => npE a && npE b
  | _ => true
def npL : List E → Bool
  | [] => true
  | e :: r => npE e && npL r
def npO : Option E → Bool
  | none => true
  | some e => npE e
end
mutual
def npS : S → Bool
  | .asg _ e => npE pf e
  | .new _ e => npE pf e
  | .par _ es => npL pf es
  | .parN _ _ es => npL pf es
  | .app _ e => npE pf e
  | .ext _ e => npE pf e
  | .pop _ _ k => npO pf k
  | .set _ k e => npE pf k && npE pf e
  | .aug _ _ e => npE pf e
  | .ret e => npE pf e
  | .ite q a b => npE pf q && npSs a && npSs b
  | .for_ _ it body => npE pf it && npSs body
  | .whl q body => npE pf q && npSs body
  | .pass => true
  | .mix _ _ _ => false
def npSs : List S → Bool
  | [] => true
  | s :: r => npS s && npSs r
end
end
section
variable {v : Bool} {c : Cl} {pf : Nat → Bool} (hc : ∀ f ds, pf f = true → Ind (c f ds))
include hc
mutual
theorem indE : ∀ (e : E) (en : En), npE pf e = true → Ind (evE v c e en)
  | .non, en, _ => ind_ret
  | .bl _, en, _ => ind_ret
  | .int _, en, _ => ind_ret
  | .str _, en, _ => ind_ret
  | .var i, en, _ => ind_lift
  | .op o a b, en, h => by
    have h := Bool.and_eq_true_iff.mp (show (npE pf a && npE pf b) = true from h)
    exact ind_bnd (indE a en h.1) fun x => ind_bnd (indE b en h.2) fun y => ind_lift
  | .neg a, en, h => ind_bnd (indE a en h) fun x => ind_lift
  | .not a, en, h => ind_bnd (indE a en h) fun x => ind_lift
  | .and a b, en, h => by
    have h := Bool.and_eq_true_iff.mp (show (npE pf a && npE pf b) = true from h)
    exact ind_bnd (indE a en h.1) fun x => ind_bnd ind_lift fun t => ind_ite (indE b en h.2) ind_ret
  | .or a b, en, h => by
    have h := Bool.and_eq_true_iff.mp (show (npE pf a && npE pf b) = true from h)
    exact ind_bnd (indE a en h.1) fun x => ind_bnd ind_lift fun t => ind_ite ind_ret (indE b en h.2)
  | .ite q a b, en, h => by
    have h := Bool.and_eq_true_iff.mp (show ((npE pf q && npE pf a) && npE pf b) = true from h)
    have g := Bool.and_eq_true_iff.mp h.1
    exact ind_bnd (indE q en g.1) fun x => ind_bnd ind_lift fun t => ind_ite (indE a en g.2) (indE b en h.2)
  | .cmp o a b, en, h => by
    have h := Bool.and_eq_true_iff.mp (show (npE pf a && npE pf b) = true from h)
    exact ind_bnd (indE a en h.1) fun x => ind_bnd (indE b en h.2) fun y => ind_lift
  | .chain o1 o2 a b q, en, h => by
    have h := Bool.and_eq_true_iff.mp (show ((npE pf a && npE pf b) && npE pf q) = true from h)
    have g := Bool.and_eq_true_iff.mp h.1
    exact ind_bnd (indE a en g.1) fun x => ind_bnd (indE b en g.2) fun y => ind_bnd ind_lift fun t => ind_ite (ind_bnd (indE q en h.2) fun z => ind_lift) ind_ret
  | .tup es, en, h => ind_bnd (indL es en h) fun ds => ind_lift
  | .lst es, en, h => ind_bnd (indL es en h) fun ds => ind_lift
  | .star a, en, h => ind_none
  | .idx a b, en, h => by
    have h := Bool.and_eq_true_iff.mp (show (npE pf a && npE pf b) = true from h)
    exact ind_bnd (indE a en h.1) fun x => ind_bnd (indE b en h.2) fun y => ind_lift
  | .slc a lo hi, en, h => by
    have h := Bool.and_eq_true_iff.mp (show ((npE pf a && npO pf lo) && npO pf hi) = true from h)
    have g := Bool.and_eq_true_iff.mp h.1
    exact ind_bnd (indE a en g.1) fun x => ind_bnd (indO lo en g.2) fun y => ind_bnd (indO hi en h.2) fun z => ind_lift
  | .rev a, en, h => ind_bnd (indE a en h) fun x => ind_lift
  | .call f args, en, h => by
    have h := Bool.and_eq_true_iff.mp (show (pf f && npL pf args) = true from h)
    exact ind_bnd (indL args en h.2) fun ds => hc f ds h.1
  | .pick _ _, en, h => by cases h
  | .bi b args, en, h => ind_bnd (indL args en h) fun ds => ind_lift
  | .meth m a b, en, h => by
    have h := Bool.and_eq_true_iff.mp (show (npE pf a && npE pf b) = true from h)
    exact ind_bnd (indE a en h.1) fun x => ind_bnd (indE b en h.2) fun y => ind_lift
  | .isi a _, en, h => ind_bnd (indE a en h) fun x => ind_ret
  | .rng args, en, h => ind_bnd (indL args en h) fun ds => ind_lift
  | .enum a, en, h => ind_bnd (indE a en h) fun x => ind_lift
  | .zip a b _, en, h => by
    have h := Bool.and_eq_true_iff.mp (show (npE pf a && npE pf b) = true from h)
    exact ind_bnd (indE a en h.1) fun x => ind_bnd (indE b en h.2) fun y => ind_lift
  | .comp t it ifs elt, en, h => by
    have h := Bool.and_eq_true_iff.mp (show ((npE pf it && npO pf ifs) && npE pf elt) = true from h)
    have g := Bool.and_eq_true_iff.mp h.1
    exact ind_bnd (indE it en g.1) fun x => ind_bnd ind_lift fun xs => ind_bnd (ind_mapL (fun d => ind_bnd ind_lift fun en2 => ind_bnd (indT ifs en2 g.2) fun ok => ind_ite (ind_bnd (indE elt en2 h.2) fun y => ind_ret) ind_ret) xs) fun ys => ind_lift
  | .comp2 t it t2 it2 elt, en, h => by
    have h := Bool.and_eq_true_iff.mp (show ((npE pf it && npE pf it2) && npE pf elt) = true from h)
    have g := Bool.and_eq_true_iff.mp h.1
    exact ind_bnd (indE it en g.1) fun x => ind_bnd ind_lift fun xs => ind_bnd (ind_catL (fun d => ind_bnd ind_lift fun en2 => ind_bnd (indE it2 en2 g.2) fun x2 => ind_bnd ind_lift fun xs2 => ind_mapL (fun d2 => ind_bnd ind_lift fun en3 => ind_bnd (indE elt en3 h.2) fun y => ind_ret) xs2) xs) fun ys => ind_lift
  | .dps a, en, h => ind_bnd (indE a en h) fun x => ind_lift
  | .dzip a b _, en, h => by
    have h := Bool.and_eq_true_iff.mp (show (npE pf a && npE pf b) = true from h)
    exact ind_bnd (indE a en h.1) fun x => ind_bnd (indE b en h.2) fun y => ind_lift
theorem indL : ∀ (es : List E) (en : En), npL pf es = true → Ind (evL v c es en)
  | [], en, _ => ind_ret
  | e :: r, en, h => by
    have h := Bool.and_eq_true_iff.mp (show (npE pf e && npL pf r) = true from h)
    have hr := indL r en h.2
    by_cases q : ∃ a, e = .star a
    · obtain ⟨a, rfl⟩ := q
      exact ind_bnd (indE a en h.1) fun x => ind_bnd ind_lift fun xs => ind_bnd hr fun ys => ind_ret
    · have e2 : evL v c (e :: r) en = bnd (evE v c e en) fun x => bnd (evL v c r en) fun ys => ret (x :: ys) := by
        cases e <;> first | rfl | exact absurd ⟨_, rfl⟩ q
      rw [e2]
      exact ind_bnd (indE e en h.1) fun x => ind_bnd hr fun ys => ind_ret
theorem indO : ∀ (e : Option E) (en : En), npO pf e = true → Ind (evO v c e en)
  | none, en, _ => ind_ret
  | some e, en, h => ind_bnd (indE e en h) fun x => ind_ret
theorem indT : ∀ (e : Option E) (en : En), npO pf e = true → Ind (evT v c e en)
  | none, en, _ => ind_ret
  | some e, en, h => ind_bnd (indE e en h) fun x => ind_lift
end
mutual
theorem indS : ∀ (st : S) (en : En), npS pf st = true → Ind (exS v c st en)
  | .asg t e, en, h => ind_bnd (indE hc e en h) fun d => ind_bnd ind_lift fun en2 => ind_ret
  | .new i e, en, h => ind_bnd (indE hc e en h) fun d => by
      cases d <;> first | exact ind_ret | exact ind_none
  | .par is es, en, h => ind_bnd (indL hc es en h) fun ds => ind_bnd ind_lift fun en2 => ind_ret
  | .parN is ns es, en, h => ind_bnd (indL hc es en h) fun ds => ind_ite (ind_bnd ind_lift fun en2 => ind_ret) ind_none
  | .app i e, en, h => ind_bnd (indE hc e en h) fun d => ind_bnd ind_lift fun xs => ind_ite ind_ret ind_none
  | .ext i e, en, h => ind_bnd (indE hc e en h) fun d => ind_bnd ind_lift fun xs => by
      cases d <;> first | exact ind_ite ind_ret ind_none | exact ind_none
  | .pop t j k, en, h => ind_bnd (indO hc k en h) fun kd => ind_bnd ind_lift fun xs => ind_bnd ind_lift fun p => ind_bnd ind_lift fun en2 => ind_ret
  | .set i k e, en, h => by
    have h := Bool.and_eq_true_iff.mp (show (npE pf k && npE pf e) = true from h)
    refine ind_bnd (indE hc e en h.2) fun d => ind_bnd (indE hc k en h.1) fun kd => ind_bnd ind_lift fun xs => ?_
    cases kd with
    | int z =>
      show Ind (match L2.ixN xs.length z with
        | some j => ret (Rs.next (en.set i (some (PyData.list (xs.set j d)))))
        | none => fun _ => none)
      cases L2.ixN xs.length z with
      | some j => exact ind_ret
      | none => exact ind_none
    | _ => exact ind_none
  | .aug i o e, en, h => ind_bnd ind_lift fun x => ind_bnd (indE hc e en h) fun y => ind_bnd ind_lift fun z => ind_ret
  | .ret e, en, h => ind_bnd (indE hc e en h) fun d => ind_ret
  | .ite q a b, en, h => by
    have h := Bool.and_eq_true_iff.mp (show ((npE pf q && npSs pf a) && npSs pf b) = true from h)
    have g := Bool.and_eq_true_iff.mp h.1
    exact ind_bnd (indE hc q en g.1) fun x => ind_bnd ind_lift fun t => ind_ite (indSs a en g.2) (indSs b en h.2)
  | .for_ t it body, en, h => by
    have h := Bool.and_eq_true_iff.mp (show (npE pf it && npSs pf body) = true from h)
    exact ind_bnd (indE hc it en h.1) fun x => ind_bnd ind_lift fun xs => ind_forL (fun d en2 => ind_bnd ind_lift fun en3 => indSs body en3 h.2) xs en
  | .whl q body, en, h => by
    have h := Bool.and_eq_true_iff.mp (show (npE pf q && npSs pf body) = true from h)
    show Ind (whlL (fun en2 => bnd (evE v c q en2) fun x => lift (truth x)) (fun en2 => exL v c body en2) wFuel en)
    exact ind_whlL (fun en2 => ind_bnd (indE hc q en2 h.1) fun x => ind_lift) (fun en2 => indSs body en2 h.2) wFuel en
  | .pass, en, _ => ind_ret
  | .mix _ _ _, en, h => by cases (show false = true from h)
theorem indSs : ∀ (sts : List S) (en : En), npSs pf sts = true → Ind (exL v c sts en)
  | [], en, _ => ind_ret
  | s :: r, en, h => by
    have h := Bool.and_eq_true_iff.mp (show (npS pf s && npSs pf r) = true from h)
    refine ind_bnd (indS s en h.1) fun q => ?_
    cases q with
    | next en2 => exact indSs r en2 h.2
    | ret d => exact ind_ret
end
end
theorem ind_callN {v : Bool} {P : List Fn} {pf : Nat → Bool} (hP : ∀ f fn, P[f]? = some fn → pf f = true → npSs pf fn.body = true) : ∀ (n f : Nat) (ds : List D), pf f = true → Ind (callN v P n f ds)
  | 0, f, ds, _ => ind_none
  | n + 1, f, ds, h => by
    show Ind (match P[f]? with
      | some fn => if ds.length = fn.np then bnd (exL v (callN v P n) fn.body (startEn fn.np fn.nl ds)) fun q => match q with
          | .next _ => ret PyData.none
          | .ret d => ret d
        else fun _ => none
      | none => fun _ => none)
    cases e : P[f]? with
    | none => exact ind_none
    | some fn => exact ind_ite (ind_bnd (indSs (fun f ds z => ind_callN hP n f ds z) fn.body _ (hP f fn e h)) fun q => by
        cases q <;> exact ind_ret) ind_none
/-- what holds at one source -/
theorem Ind.all {α : Type} {x : M α} (h : Ind x) {s : Src} {a : α} {s' : Src} (e : x s = some (a, s')) : ∀ t, x t = some (a, t) := (h s a s' e).2
theorem hP_of {P : List Fn} {pf : Nat → Bool} (h : ((List.range P.length).all fun f => !pf f || (match P[f]? with
    | some fn => npSs pf fn.body
    | none => true)) = true) : ∀ f fn, P[f]? = some fn → pf f = true → npSs pf fn.body = true := fun f fn e hf => by
  have lt : f < P.length := (List.getElem?_eq_some_iff.mp e).1
  have := List.all_eq_true.mp h f (List.mem_range.mpr lt)
  rw [hf, e] at this
  simpa using this
/-- a source to run at -/
def src0 : Src := ⟨[], 1, 0, 0⟩
/-- a run that ends by next, or by an answer -/
def runs (x : M Rs) (en : En → Bool) : Bool := match x src0 with
  | some (.next e, _) => en e
  | _ => false
theorem wp_callN {v : Bool} {P : List Fn} {n f : Nat} {fn : Fn} {ds : List D} {s : Src} {Q : D → Src → Prop} (hP : P[f]? = some fn) (hl : ds.length = fn.np)
    (h : Wp (exL v (callN v P n) fn.body (startEn fn.np fn.nl ds)) s fun q s1 => match q with
      | .next _ => Q .none s1
      | .ret d => Q d s1) : Wp (callN v P (n + 1) f ds) s Q := by
  obtain ⟨q, s1, e, k⟩ := h
  have e2 : callN v P (n + 1) f ds s = bnd (exL v (callN v P n) fn.body (startEn fn.np fn.nl ds)) (fun q => match q with
      | .next _ => ret PyData.none
      | .ret d => ret d) s := by
    show (match P[f]? with
      | some fn => if ds.length = fn.np then bnd (exL v (callN v P n) fn.body (startEn fn.np fn.nl ds)) fun q => match q with
          | .next _ => ret PyData.none
          | .ret d => ret d
        else fun _ => none
      | none => fun _ => none) s = _
    rw [hP]
    show (if ds.length = fn.np then bnd (exL v (callN v P n) fn.body (startEn fn.np fn.nl ds)) fun q => match q with
        | .next _ => ret PyData.none
        | .ret d => ret d
      else fun _ => none) s = _
    rw [if_pos hl]
  cases q with
  | next en => exact ⟨_, s1, e2.trans (by unfold bnd; rw [e]; rfl), k⟩
  | ret d => exact ⟨_, s1, e2.trans (by unfold bnd; rw [e]; rfl), k⟩
end Fz
/-! FzX: more of the plain calculus: a choice out of a list, tuples of two, tables of conditions. -/
namespace Fz
open PySem
section
variable {v : Bool} {c : Cl} {en : En} {s : Src}
theorem idxV_nat {xs : List D} {i : Nat} {d : D} (h : xs[i]? = some d) : idxV (.list xs) (.int (i : Int)) = some d := by
  have lt : i < xs.length := (List.getElem?_eq_some_iff.mp h).1
  show (L2.ixN xs.length (i : Int)).bind (fun j => xs[j]?) = some d
  have e : L2.ixN xs.length (i : Int) = some i := by
    unfold L2.ixN
    rw [if_pos (Int.natCast_nonneg i), if_pos (by omega)]
    rfl
  rw [e]; exact h
/-- `some[_law_pick(source, len(some))]` -/
theorem wp_of {xs : List D} {Q : D → Src → Prop} (hx : 0 < xs.length) (hl : xs.length < 1073741824) (k : ∀ (i : Nat) (d : D) (s : Src), xs[i]? = some d → Q d s) :
    Wp (exL v c [.ret (.idx (.var 1) (.pick (.var 0) (.bi .len [.var 1])))] [some srcD, some (.list xs)]) s fun q s1 => match q with
      | .next _ => Q .none s1
      | .ret d => Q d s1 := by
  refine wp_cons (wp_retE (wp_idx (wp_pure (a := .list xs) (fun s => rfl) (wp_pickV (m := (xs.length : Int)) (fun s => rfl) (fun s => ?_) (by omega) (by omega) fun x s1 h0 h1 => ?_))))
  · rfl
  · obtain ⟨i, rfl⟩ := Int.eq_ofNat_of_zero_le h0
    have lt : i < xs.length := by omega
    exact ⟨xs[i], idxV_nat (List.getElem?_eq_getElem lt), k i xs[i] s1 (List.getElem?_eq_getElem lt)⟩
theorem wp_tup2 {a b : E} {Q : D → Src → Prop} (e : evL v c [a, b] en = bnd (evE v c a en) fun x => bnd (bnd (evE v c b en) fun y => bnd (ret []) fun ys => ret (y :: ys)) fun ys => ret (x :: ys))
    (h : Wp (evE v c a en) s fun x s1 => Wp (evE v c b en) s1 fun y s2 => Q (.tuple [x, y]) s2) : Wp (evE v c (.tup [a, b]) en) s Q := by
  refine wp_bnd (x := evL v c [a, b] en) ?_
  rw [e]
  exact wp_bnd (h.mono fun x s1 h1 => wp_bnd (wp_bnd (h1.mono fun y s2 q => wp_bnd (wp_ret (wp_ret (wp_ret (wp_lift rfl q)))))))
/-- a condition is not met -/
def noC (x : M D) : Bool := match x src0 with
  | some (.bool false, _) => true
  | _ => false
theorem noC_all {x : M D} (i : Ind x) (h : noC x = true) : ∀ s, x s = some (.bool false, s) := by
  unfold noC at h
  cases e : x src0 with
  | none => rw [e] at h; cases h
  | some p =>
    obtain ⟨d, s1⟩ := p
    rw [e] at h
    cases d with
    | bool b => cases b with
      | false => exact i.all e
      | true => cases h
    | _ => cases h
theorem wp_no {q : E} {a r : List S} {Q : Rs → Src → Prop} (h : ∀ s, evE v c q en s = some (.bool false, s)) (k : Wp (exL v c r en) s Q) : Wp (exL v c (.ite q a [] :: r) en) s Q := by
  refine wp_cons (wp_if (wp_pure h ⟨false, rfl, ?_⟩))
  rw [if_neg Bool.false_ne_true]
  exact wp_nil k
theorem exL_at {st : S} {r : List S} {en2 : En} {s2 : Src} (h : exS v c st en s = some (.next en2, s2)) : exL v c (st :: r) en s = exL v c r en2 s2 := by
  show bnd (exS v c st en) _ s = _
  unfold bnd
  rw [h]
theorem exS_for_at {t : Tg} {it : E} {body : List S} {d : D} {xs : List D} {s1 : Src} (h : evE v c it en s = some (d, s1)) (hs : seqOf d = some xs) :
    exS v c (.for_ t it body) en s = forL (fun d en2 => bnd (lift (tgSet t d en2)) fun en3 => exL v c body en3) xs en s1 := by
  show bnd (evE v c it en) _ s = _
  unfold bnd
  rw [h]
  show bnd (lift (seqOf d)) _ s1 = _
  rw [hs]; rfl
end
end Fz
/-! FzY: runs that leave the source as it is, as equations; products; greatest divisors; what is shown. -/
namespace Fz
open PySem
section
variable {α β : Type}
theorem bnd_ret (a : α) (f : α → M β) : bnd (ret a) f = f a := rfl
theorem lift_ok (a : α) : lift (some a) = ret a := rfl
theorem bnd_assoc {γ : Type} (x : M α) (f : α → M β) (g : β → M γ) : bnd (bnd x f) g = bnd x fun a => bnd (f a) g := by
  funext s
  unfold bnd
  cases x s <;> rfl
theorem eq_ret {x : M α} {a : α} (h : ∀ s, x s = some (a, s)) : x = ret a := funext h
theorem wp_eq {x : M α} {a : α} {s : Src} {Q : α → Src → Prop} (h : x = ret a) (q : Q a s) : Wp x s Q := ⟨a, s, by rw [h]; rfl, q⟩
end
theorem log2_lt {n k : Nat} (h : n < 2 ^ k) (hk : 0 < k) : n.log2 < k := by
  rcases Nat.eq_zero_or_pos n with e | e
  · subst e; simpa using hk
  · exact (Nat.log2_lt (by omega)).mpr h
theorem mul_ok {i j : Int} (hi : i.natAbs < 2 ^ 250) (hj : j.natAbs < 2 ^ 250) : mulOk i j = true := by
  have h1 := log2_lt hi (by decide)
  have h2 := log2_lt hj (by decide)
  unfold mulOk
  exact decide_eq_true (by omega)
theorem op2_mul {i j : Int} (hi : i.natAbs < 2 ^ 250) (hj : j.natAbs < 2 ^ 250) : op2 .mul (.int i) (.int j) = some (.int (i * j)) := by
  show (if mulOk i j then _ else _) = _
  rw [if_pos (mul_ok hi hj)]
theorem op2_mod {i j : Int} (h : 0 < j) : op2 .mod (.int i) (.int j) = some (.int (i % j)) := by
  show (if decide (j ≠ 0) then _ else _) = _
  rw [if_pos (decide_eq_true (by omega)), Int.fmod_eq_emod_of_nonneg _ (by omega)]
theorem op2_fdiv {i j : Int} (h : 0 < j) (hj : j.natAbs < 2 ^ 250) : op2 .fdiv (.int i) (.int j) = some (.int (i / j)) := by
  show (if divOk j then _ else _) = _
  have h2 := log2_lt hj (by decide)
  have e : divOk j = true := by
    unfold divOk
    rw [Bool.and_eq_true]
    exact ⟨decide_eq_true (by omega), decide_eq_true (by omega)⟩
  rw [if_pos e, Int.fdiv_eq_ediv_of_nonneg _ (by omega)]
theorem gcd_em (a b : Int) : Int.gcd b (a % b) = Int.gcd a b := by
  have h := Int.gcd_add_mul_left_left b (a % b) (a / b)
  rw [Int.emod_add_mul_ediv] at h
  rw [Int.gcd_comm, ← h]
/-- Euclid's walk -/
theorem whl_gcd {test : En → M Bool} {body : En → M Rs} (f : Int → Int → En) (ht : ∀ a b, 0 ≤ b → test (f a b) = ret (decide (b ≠ 0))) (hb : ∀ a b, 0 < b → body (f a b) = ret (.next (f b (a % b)))) :
    ∀ (n m : Nat) (a b : Int), 0 ≤ b → b < 2 ^ n → whlL test body (2 * n + 1 + m) (f a b) = ret (.next (f (if b = 0 then a else (Int.gcd a b : Int)) 0)) := by
  have stop : ∀ (k : Nat) (a : Int), whlL test body (k + 1) (f a 0) = ret (.next (f a 0)) := fun k a => by
    show bnd (test (f a 0)) _ = _
    rw [ht a 0 (by omega), bnd_ret]
    rfl
  have go : ∀ (k : Nat) (a b : Int), 0 < b → whlL test body (k + 1) (f a b) = whlL test body k (f b (a % b)) := fun k a b h => by
    show bnd (test (f a b)) _ = _
    rw [ht a b (by omega), bnd_ret]
    rw [if_pos (decide_eq_true (by omega)), hb a b h, bnd_ret]
  intro n
  induction n with
  | zero =>
    intro m a b h0 h1
    have e : b = 0 := by
      have : (2 : Int) ^ 0 = 1 := rfl
      omega
    subst e
    have e2 : 2 * 0 + 1 + m = m + 1 := by omega
    rw [e2, stop, if_pos rfl]
  | succ n ih =>
    intro m a b h0 h1
    by_cases hb0 : b = 0
    · subst hb0
      have e2 : 2 * (n + 1) + 1 + m = (2 * n + 2 + m) + 1 := by omega
      rw [e2, stop, if_pos rfl]
    · rw [if_neg hb0]
      have pb : 0 < b := by omega
      have e2 : 2 * (n + 1) + 1 + m = (2 * n + 1 + m + 1) + 1 := by omega
      rw [e2, go _ a b pb]
      have r0 := Int.emod_nonneg a hb0
      have r1 := Int.emod_lt_of_pos a pb
      have g1 : Int.gcd a b = Int.gcd b (a % b) := (gcd_em a b).symm
      by_cases hr : a % b = 0
      · have e3 : 2 * n + 1 + m + 1 = (2 * n + 1 + m) + 1 := rfl
        rw [hr, e3, stop, g1, hr, Int.gcd_zero_right]
        have : ((b.natAbs : Nat) : Int) = b := by omega
        rw [this]
      · have pr : 0 < a % b := by omega
        rw [go _ b (a % b) pr]
        have s0 := Int.emod_nonneg b hr
        have s1 := Int.emod_lt_of_pos b pr
        have half : b % (a % b) < 2 ^ n := by
          have q := Int.emod_add_mul_ediv b (a % b)
          have qd : 1 ≤ b / (a % b) := by
            rw [Int.le_ediv_iff_mul_le pr]; omega
          have qm : (a % b) * 1 ≤ (a % b) * (b / (a % b)) := Int.mul_le_mul_of_nonneg_left qd (by omega)
          have pw : (2 : Int) ^ (n + 1) = 2 * 2 ^ n := by rw [Int.pow_succ]; omega
          omega
        rw [ih m (a % b) (b % (a % b)) s0 half]
        have g2 : Int.gcd b (a % b) = Int.gcd (a % b) (b % (a % b)) := (gcd_em b (a % b)).symm
        rw [g1]
        by_cases hs : b % (a % b) = 0
        · rw [if_pos hs, g2, hs, Int.gcd_zero_right]
          have : (((a % b).natAbs : Nat) : Int) = a % b := by omega
          rw [this]
        · rw [if_neg hs, g2]
theorem whl_fuel {test : En → M Bool} {body : En → M Rs} (f : Int → Int → En) (ht : ∀ a b, 0 ≤ b → test (f a b) = ret (decide (b ≠ 0))) (hb : ∀ a b, 0 < b → body (f a b) = ret (.next (f b (a % b))))
    (a b : Int) (h0 : 0 ≤ b) (h1 : b < 2 ^ 250) : whlL test body wFuel (f a b) = ret (.next (f (if b = 0 then a else (Int.gcd a b : Int)) 0)) :=
  whl_gcd f ht hb 250 (wFuel - 501) a b h0 h1
theorem callN_eq {v : Bool} {P : List Fn} {n f : Nat} {fn : Fn} {ds : List D} {d : D} (hP : P[f]? = some fn) (hl : ds.length = fn.np)
    (h : exL v (callN v P n) fn.body (startEn fn.np fn.nl ds) = ret (.ret d)) : callN v P (n + 1) f ds = ret d := by
  funext s
  obtain ⟨a, s2, e, q⟩ := wp_callN (v := v) (Q := fun x s1 => x = d ∧ s1 = s) (s := s) hP hl (wp_eq h ⟨rfl, rfl⟩)
  obtain ⟨rfl, rfl⟩ := q
  exact e
theorem exL_next {v : Bool} {c : Cl} {st : S} {r : List S} {en en2 : En} (h : exS v c st en = ret (.next en2)) : exL v c (st :: r) en = exL v c r en2 := by
  show bnd (exS v c st en) _ = _
  rw [h]; rfl
theorem exL_ret {v : Bool} {c : Cl} {st : S} {r : List S} {en : En} {d : D} (h : exS v c st en = ret (.ret d)) : exL v c (st :: r) en = ret (.ret d) := by
  show bnd (exS v c st en) _ = _
  rw [h]; rfl
theorem exS_for {v : Bool} {c : Cl} {t : Tg} {it : E} {body : List S} {en : En} {d : D} {xs : List D} (h : evE v c it en = ret d) (hs : seqOf d = some xs) :
    exS v c (.for_ t it body) en = forL (fun d en2 => bnd (lift (tgSet t d en2)) fun en3 => exL v c body en3) xs en := by
  show bnd (evE v c it en) _ = _
  rw [h, bnd_ret, hs]; rfl
theorem forL_nil (body : D → En → M Rs) (en : En) : forL body [] en = ret (.next en) := rfl
theorem forL_next {body : D → En → M Rs} {x : D} {r : List D} {en en2 : En} (h : body x en = ret (.next en2)) : forL body (x :: r) en = forL body r en2 := by
  show bnd (body x en) _ = _
  rw [h]; rfl
theorem exS_whl {v : Bool} {c : Cl} {q : E} {body : List S} {en : En} : exS v c (.whl q body) en = whlL (fun en2 => bnd (evE v c q en2) fun x => lift (truth x)) (fun en2 => exL v c body en2) wFuel en := rfl
end Fz
/-! FzZ: data that can be shown, and how long that is. -/
namespace Fz
open PySem
/-- what is shown of d has at most b signs, d is at most k deep -/
def RO (b k : Nat) (d : D) : Prop := d.canLay0 = true ∧ d.depth ≤ k ∧ d.showable = true ∧ d.shown.length ≤ b
theorem RO.mono {b b' k k' : Nat} {d : D} (h : RO b k d) (hb : b ≤ b') (hk : k ≤ k') : RO b' k' d := ⟨h.1, Nat.le_trans h.2.1 hk, h.2.2.1, Nat.le_trans h.2.2.2 hb⟩
theorem RO.okay {b k : Nat} {d : D} (h : RO b k d) (hk : k ≤ 64) : Fz.okD d = true := by
  unfold Fz.okD SeqAt.shaped
  rw [Bool.and_eq_true]
  exact ⟨h.1, decide_eq_true (Nat.le_trans h.2.1 hk)⟩
theorem RO.repr {b k : Nat} {d : D} (h : RO b k d) (hk : k ≤ 64) (hb : b ≤ 16000000) : biV .repr [d] = some (.str d.shown) := by
  show (if Fz.okD d && d.showable && small d.shown.length then _ else _) = _
  have e : small d.shown.length = true := decide_eq_true (Nat.le_trans h.2.2.2 hb)
  rw [h.okay hk, h.2.2.1, e]; rfl
theorem ro_int {n : Nat} {i : Int} (h : i.natAbs < 2 ^ n) (hn : n ≤ 1900) : RO (n + 2) 0 (.int i) := by
  have l1 : i.natAbs.log2 < n + 1 := log2_lt (Nat.lt_of_lt_of_le h (Nat.pow_le_pow_right (by decide) (by omega))) (by omega)
  refine ⟨rfl, Nat.le_refl _, ?_, ?_⟩
  · exact decide_eq_true (by omega)
  · rw [PyData.shown_int, ofString_length]; exact int_text_length_le (k := n + 1) (by omega) l1
theorem ro_bool (b : Bool) : RO 5 0 (.bool b) := by
  refine ⟨rfl, Nat.le_refl _, rfl, ?_⟩
  cases b <;> decide
theorem ro_none : RO 4 0 .none := ⟨rfl, Nat.le_refl _, rfl, by decide⟩
theorem ro_all {b k : Nat} : ∀ (xs : List D), (∀ x ∈ xs, RO b k x) → PyData.canLayAll0 xs = true ∧ PyData.depthAll xs ≤ k ∧ PyData.showableAll xs = true ∧ ((PyData.shownAll xs).map (·.length)).sum ≤ xs.length * b ∧ (PyData.shownAll xs).length = xs.length
  | [], _ => ⟨rfl, Nat.zero_le _, rfl, by simp [PyData.shownAll], rfl⟩
  | x :: r, h => by
    obtain ⟨h1, h2, h3, h4⟩ := h x (List.mem_cons_self ..)
    obtain ⟨g1, g2, g3, g4, g5⟩ := ro_all r fun y hy => h y (List.mem_cons_of_mem _ hy)
    refine ⟨?_, ?_, ?_, ?_, ?_⟩
    · simp only [PyData.canLayAll0, h1, g1, Bool.and_self]
    · simp only [PyData.depthAll]; omega
    · simp only [PyData.showableAll, h3, g3, Bool.and_self]
    · simp only [PyData.shownAll, List.map_cons, List.sum_cons, List.length_cons, Nat.add_mul, Nat.one_mul]; omega
    · simp only [PyData.shownAll, List.length_cons, g5]
theorem ro_list {b k n : Nat} {xs : List D} (h : ∀ x ∈ xs, RO b k x) (hn : xs.length ≤ n) : RO (n * (b + 2) + 3) (k + 1) (.list xs) := by
  obtain ⟨g1, g2, g3, g4, g5⟩ := ro_all xs h
  have q : xs.length * (b + 2) ≤ n * (b + 2) := Nat.mul_le_mul_right _ hn
  refine ⟨?_, ?_, ?_, ?_⟩
  · simpa only [PyData.canLay0] using g1
  · simp only [PyData.depth]; omega
  · simpa only [PyData.showable] using g3
  · have l := listText_len_le (PyData.shownAll xs)
    simp only [PyData.shown]
    rw [Nat.mul_add] at q
    omega
theorem ro_tuple {b k n : Nat} {xs : List D} (h : ∀ x ∈ xs, RO b k x) (hn : xs.length ≤ n) : RO (n * (b + 2) + 3) (k + 1) (.tuple xs) := by
  obtain ⟨g1, g2, g3, g4, g5⟩ := ro_all xs h
  have q : xs.length * (b + 2) ≤ n * (b + 2) := Nat.mul_le_mul_right _ hn
  refine ⟨?_, ?_, ?_, ?_⟩
  · simpa only [PyData.canLay0] using g1
  · simp only [PyData.depth]; omega
  · simpa only [PyData.showable] using g3
  · have l := tupleText_len_le (PyData.shownAll xs)
    simp only [PyData.shown]
    rw [Nat.mul_add] at q
    omega
mutual
theorem eqv_refl : ∀ d : D, d.canLay0 = true → PyData.eqv d d = true
  | .none, _ => by simp [PyData.eqv]
  | .bool b, _ => by simp [PyData.eqv]
  | .int i, _ => by simp [PyData.eqv]
  | .str x, _ => by simp [PyData.eqv]
  | .list xs, h => by simpa [PyData.eqv] using eqvAll_refl xs (by simpa [PyData.canLay0] using h)
  | .tuple xs, h => by simpa [PyData.eqv] using eqvAll_refl xs (by simpa [PyData.canLay0] using h)
  | .dict _, h => by simp [PyData.canLay0] at h
theorem eqvAll_refl : ∀ xs : List D, PyData.canLayAll0 xs = true → PyData.eqvAll xs xs = true
  | [], _ => by simp [PyData.eqvAll]
  | x :: r, h => by
    have h := Bool.and_eq_true_iff.mp (show (PyData.canLay0 x && PyData.canLayAll0 r) = true by simpa only [PyData.canLayAll0] using h)
    simp [PyData.eqvAll, eqv_refl x h.1, eqvAll_refl r h.2]
end
theorem ne_str (x : Str) : cmp2 .ne (.str x) (.str x) = some false := by
  show some (!decide (x = x)) = _
  simp
theorem eq_str (x : Str) : cmp2 .eq (.str x) (.str x) = some true := by
  show some (decide (x = x)) = _
  simp
/-- repr(x) != repr(x) -/
theorem evE_ne_repr {v : Bool} {c : Cl} {a b : E} {en : En} {d : D} {n k : Nat} (ha : evL v c [a] en = ret [d]) (hb : evL v c [b] en = ret [d]) (h : RO n k d) (hk : k ≤ 64) (hn : n ≤ 16000000) :
    evE v c (.cmp .ne (.bi .repr [a]) (.bi .repr [b])) en = ret (.bool false) := by
  simp only [evE, ha, hb, bnd_ret, h.repr hk hn, lift_ok, ne_str, Option.map_some]
section
variable {v : Bool} {c : Cl} {en : En} {s : Src}
theorem wp_mapL {f : D → M (Option D)} {R : D → Prop} : ∀ (xs : List D) (s : Src) (Q : List D → Src → Prop), (∀ x ∈ xs, ∀ s, Wp (f x) s fun o _ => ∃ y, o = some y ∧ R y) → (∀ ys s, ys.length = xs.length → (∀ y ∈ ys, R y) → Q ys s) → Wp (mapL f xs) s Q
  | [], s, Q, _, k => wp_ret (k [] s rfl fun y h => by cases h)
  | x :: r, s, Q, h, k => by
    refine wp_bnd ((h x (List.mem_cons_self ..) s).mono fun o s1 ⟨y, e, hy⟩ => ?_)
    subst e
    refine wp_bnd (wp_mapL r s1 _ (fun z hz => h z (List.mem_cons_of_mem _ hz)) fun ys s2 hl hr => wp_ret (k (y :: ys) s2 (by simp [hl]) fun z hz => ?_))
    rcases List.mem_cons.mp hz with rfl | hz
    · exact hy
    · exact hr z hz
/-- a list made of choices, one for each -/
theorem wp_comp {t : Tg} {it elt : E} {d : D} {xs : List D} {R : D → Prop} {Q : D → Src → Prop} (hi : evE v c it en = ret d) (hx : seqOf d = some xs)
    (h : ∀ x ∈ xs, ∀ s, ∃ en2, tgSet t x en = some en2 ∧ Wp (evE v c elt en2) s fun y _ => R y) (hl : xs.length ≤ 16000000) (k : ∀ ys s, ys.length = xs.length → (∀ y ∈ ys, R y) → Q (.list ys) s) : Wp (evE v c (.comp t it none elt) en) s Q := by
  refine wp_bnd (wp_eq hi (wp_bnd (wp_lift hx (wp_bnd (wp_mapL (R := R) xs s _ (fun x hx s => ?_) fun ys s hl2 hr => ?_)))))
  · obtain ⟨en2, e, w⟩ := h x hx s
    exact wp_bnd (wp_lift e (wp_bnd (wp_ret (wp_bnd (w.mono fun y s1 r => wp_ret ⟨y, rfl, r⟩)))))
  · refine wp_lift ?_ (k ys s hl2 hr)
    have e : small ys.length = true := decide_eq_true (by omega)
    unfold sizeOk
    rw [if_pos e]; rfl
theorem wp_bi1 {b : Bi} {a : E} {Q : D → Src → Prop} (e : evL v c [a] en = bnd (evE v c a en) fun x => bnd (ret []) fun ys => ret (x :: ys)) (h : Wp (evE v c a en) s fun x s1 => ∃ d, biV b [x] = some d ∧ Q d s1) : Wp (evE v c (.bi b [a]) en) s Q := by
  refine wp_bnd (x := evL v c [a] en) ?_
  rw [e]
  exact wp_bnd (h.mono fun x s1 ⟨d, e, q⟩ => wp_bnd (wp_ret (wp_ret (wp_lift e q))))
theorem wp_call {f : Nat} {args : List E} {ds : List D} {Q : D → Src → Prop} (e : evL v c args en = ret ds) (h : Wp (c f ds) s Q) : Wp (evE v c (.call f args) en) s Q := wp_bnd (x := evL v c args en) (wp_eq e h)
theorem wp_new {i : Nat} {e : E} {Q : Rs → Src → Prop} (h : Wp (evE v c e en) s fun d s1 => ∃ xs, d = .list xs ∧ Q (.next (en.set i (some (.list xs)))) s1) : Wp (exS v c (.new i e) en) s Q :=
  wp_bnd (h.mono fun d s1 ⟨xs, e, q⟩ => by subst e; exact wp_ret q)
theorem wp_lst2 {a b : E} {Q : D → Src → Prop} (e : evL v c [a, b] en = bnd (evE v c a en) fun x => bnd (bnd (evE v c b en) fun y => bnd (ret []) fun ys => ret (y :: ys)) fun ys => ret (x :: ys))
    (h : Wp (evE v c a en) s fun x s1 => Wp (evE v c b en) s1 fun y s2 => Q (.list [x, y]) s2) : Wp (evE v c (.lst [a, b]) en) s Q := by
  refine wp_bnd (x := evL v c [a, b] en) ?_
  rw [e]
  exact wp_bnd (h.mono fun x s1 h1 => wp_bnd (wp_bnd (h1.mono fun y s2 q => wp_bnd (wp_ret (wp_ret (wp_ret (wp_lift rfl q)))))))
theorem wp_app {i : Nat} {e : E} {xs : List D} {Q : Rs → Src → Prop} (hx : en.getD i none = some (.list xs)) (e3 : small (xs.length + 1) = true) (h : Wp (evE v c e en) s fun d s1 => Q (.next (en.set i (some (.list (xs ++ [d]))))) s1) : Wp (exS v c (.app i e) en) s Q := by
  refine wp_bnd (h.mono fun d s1 q => ?_)
  have e2 : lstAt en i = some xs := by unfold lstAt; rw [hx]
  refine wp_bnd (wp_lift e2 ?_)
  rw [if_pos e3]
  exact wp_ret q
end
theorem forL_ret {body : D → En → M Rs} {x : D} {r : List D} {en : En} {d : D} (h : body x en = ret (.ret d)) : forL body (x :: r) en = ret (.ret d) := by
  show bnd (body x en) _ = _
  rw [h]; rfl
theorem exS_if {v : Bool} {c : Cl} {q : E} {a b : List S} {en : En} {d : D} {t : Bool} (h : evE v c q en = ret d) (ht : truth d = some t) : exS v c (.ite q a b) en = if t then exL v c a en else exL v c b en := by
  show bnd (evE v c q en) _ = _
  rw [h, bnd_ret, ht]; rfl
theorem evE_call {v : Bool} {c : Cl} {f : Nat} {args : List E} {ds : List D} {d : D} {en : En} (e : evL v c args en = ret ds) (h : c f ds = ret d) : evE v c (.call f args) en = ret d := by
  show bnd (evL v c args en) _ = _
  rw [e, bnd_ret, h]
theorem exS_app {v : Bool} {c : Cl} {i : Nat} {e : E} {xs : List D} {d : D} {en : En} (he : evE v c e en = ret d) (hx : en.getD i none = some (.list xs)) (e3 : small (xs.length + 1) = true) : exS v c (.app i e) en = ret (.next (en.set i (some (.list (xs ++ [d]))))) := by
  have e2 : lstAt en i = some xs := by unfold lstAt; rw [hx]
  show bnd (evE v c e en) _ = _
  rw [he, bnd_ret, e2, lift_ok, bnd_ret, if_pos e3]
section
variable {v : Bool} {c : Cl} {en : En} {s : Src}
theorem evL_1 {a : E} {d : D} (e : evL v c [a] en = bnd (evE v c a en) fun x => bnd (ret []) fun ys => ret (x :: ys)) (h : evE v c a en = ret d) : evL v c [a] en = ret [d] := by
  rw [e, h]; rfl
theorem evE_bi1 {b : Bi} {a : E} {x d : D} (e : evL v c [a] en = bnd (evE v c a en) fun x => bnd (ret []) fun ys => ret (x :: ys)) (h : evE v c a en = ret x) (hb : biV b [x] = some d) : evE v c (.bi b [a]) en = ret d := by
  show bnd (evL v c [a] en) _ = _
  rw [evL_1 e h, bnd_ret, hb]; rfl
theorem evE_cmp {o : Cm} {a b : E} {x y : D} {t : Bool} (ha : evE v c a en = ret x) (hb : evE v c b en = ret y) (h : cmp2 o x y = some t) : evE v c (.cmp o a b) en = ret (.bool t) := by
  show bnd (evE v c a en) _ = _
  rw [ha, bnd_ret, hb, bnd_ret, h]; rfl
theorem evE_or_f {a b : E} (ha : evE v c a en = ret (.bool false)) : evE v c (.or a b) en = evE v c b en := by
  show bnd (evE v c a en) _ = _
  rw [ha, bnd_ret]; rfl
theorem evE_and {a b : E} {t u : Bool} (ha : evE v c a en = ret (.bool t)) (hb : evE v c b en = ret (.bool u)) : evE v c (.and a b) en = ret (.bool (t && u)) := by
  show bnd (evE v c a en) _ = _
  rw [ha, bnd_ret]
  cases t with
  | true => exact hb
  | false => rfl
theorem evE_and_f {a b : E} (ha : evE v c a en = ret (.bool false)) : evE v c (.and a b) en = ret (.bool false) := by
  show bnd (evE v c a en) _ = _
  rw [ha, bnd_ret]; rfl
theorem evE_or {a b : E} {t u : Bool} (ha : evE v c a en = ret (.bool t)) (hb : evE v c b en = ret (.bool u)) : evE v c (.or a b) en = ret (.bool (t || u)) := by
  show bnd (evE v c a en) _ = _
  rw [ha, bnd_ret]
  cases t with
  | true => rfl
  | false => exact hb
theorem evE_comp3 {t : Tg} {it elt : E} {d x0 x1 x2 y0 y1 y2 : D} {en0 en1 en2 : En} (hi : evE v c it en = ret d) (hx : seqOf d = some [x0, x1, x2]) (e0 : tgSet t x0 en = some en0) (e1 : tgSet t x1 en = some en1) (e2 : tgSet t x2 en = some en2)
    (h0 : evE v c elt en0 = ret y0) (h1 : evE v c elt en1 = ret y1) (h2 : evE v c elt en2 = ret y2) : evE v c (.comp t it none elt) en = ret (.list [y0, y1, y2]) := by
  simp only [evE, hi, bnd_ret, hx, lift_ok, mapL, e0, e1, e2, evT, if_true, h0, h1, h2]
  rfl
theorem evE_comp4 {t : Tg} {it elt : E} {d x0 x1 x2 x3 y0 y1 y2 y3 : D} {en0 en1 en2 en3 : En} (hi : evE v c it en = ret d) (hx : seqOf d = some [x0, x1, x2, x3]) (e0 : tgSet t x0 en = some en0) (e1 : tgSet t x1 en = some en1) (e2 : tgSet t x2 en = some en2) (e3 : tgSet t x3 en = some en3)
    (h0 : evE v c elt en0 = ret y0) (h1 : evE v c elt en1 = ret y1) (h2 : evE v c elt en2 = ret y2) (h3 : evE v c elt en3 = ret y3) : evE v c (.comp t it none elt) en = ret (.list [y0, y1, y2, y3]) := by
  simp only [evE, hi, bnd_ret, hx, lift_ok, mapL, e0, e1, e2, e3, evT, if_true, h0, h1, h2, h3]
  rfl
theorem exS_new {i : Nat} {e : E} {xs : List D} (h : evE v c e en = ret (.list xs)) : exS v c (.new i e) en = ret (.next (en.set i (some (.list xs)))) := by
  show bnd (evE v c e en) _ = _
  rw [h, bnd_ret]
theorem exS_asg {t : Tg} {e : E} {d : D} {en2 : En} (h : evE v c e en = ret d) (h2 : tgSet t d en = some en2) : exS v c (.asg t e) en = ret (.next en2) := by
  show bnd (evE v c e en) _ = _
  rw [h, bnd_ret, h2]; rfl
theorem wp_comp3 {t : Tg} {it elt : E} {d x0 x1 x2 : D} {en0 en1 en2 : En} {Q : D → Src → Prop} (hi : evE v c it en = ret d) (hx : seqOf d = some [x0, x1, x2]) (e0 : tgSet t x0 en = some en0) (e1 : tgSet t x1 en = some en1) (e2 : tgSet t x2 en = some en2)
    (h : Wp (evE v c elt en0) s fun y0 s => Wp (evE v c elt en1) s fun y1 s => Wp (evE v c elt en2) s fun y2 s => Q (.list [y0, y1, y2]) s) : Wp (evE v c (.comp t it none elt) en) s Q := by
  refine wp_bnd (wp_eq hi (wp_bnd (wp_lift hx (wp_bnd (x := mapL _ _) ?_))))
  refine wp_bnd (wp_bnd (wp_lift e0 (wp_bnd (wp_ret (wp_bnd (h.mono fun y0 s h => wp_ret ?_))))))
  refine wp_bnd (wp_bnd (wp_bnd (wp_lift e1 (wp_bnd (wp_ret (wp_bnd (h.mono fun y1 s h => wp_ret ?_)))))))
  refine wp_bnd (wp_bnd (wp_bnd (wp_lift e2 (wp_bnd (wp_ret (wp_bnd (h.mono fun y2 s h => wp_ret ?_)))))))
  exact wp_bnd (wp_ret (wp_ret (wp_ret (wp_ret (wp_lift rfl h)))))
theorem wp_skip {q : E} {a r : List S} {Q : Rs → Src → Prop} (h : evE v c q en = ret (.bool false)) (k : Wp (exL v c r en) s Q) : Wp (exL v c (.ite q a [] :: r) en) s Q := wp_no (fun s => by rw [h]; rfl) k
theorem wp_in {q : E} {a b : List S} {Q : Rs → Src → Prop} (h : evE v c q en = ret (.bool true)) (k : Wp (exL v c a en) s Q) : Wp (exS v c (.ite q a b) en) s Q := by
  refine wp_if (wp_eq h ⟨true, rfl, ?_⟩)
  rw [if_pos rfl]
  exact k
theorem wp_next {st : S} {r : List S} {en2 : En} {Q : Rs → Src → Prop} (h : exS v c st en = ret (.next en2)) (k : Wp (exL v c r en2) s Q) : Wp (exL v c (st :: r) en) s Q := wp_step (fun s => by rw [h]; rfl) k
end
end Fz
/-! FzU: lists of any length: comprehensions, loops, zip, enumerate. -/
namespace Fz
open PySem
section
variable {α β : Type} {v : Bool} {c : Cl} {en : En}
theorem mapL_map {f : D → M (Option D)} {g : α → D} {h : α → D} : ∀ (ws : List α), (∀ w ∈ ws, f (g w) = ret (some (h w))) → mapL f (ws.map g) = ret (ws.map h)
  | [], _ => rfl
  | w :: r, k => by
    show bnd (f (g w)) _ = _
    rw [k w (List.mem_cons_self ..), bnd_ret, mapL_map r fun x hx => k x (List.mem_cons_of_mem _ hx), bnd_ret]
    rfl
theorem mapL_filter {f : D → M (Option D)} {g : α → D} {p : α → Bool} {h : α → D} : ∀ (ws : List α), (∀ w ∈ ws, f (g w) = ret (if p w then some (h w) else none)) → mapL f (ws.map g) = ret ((ws.filter p).map h)
  | [], _ => rfl
  | w :: r, k => by
    show bnd (f (g w)) _ = _
    rw [k w (List.mem_cons_self ..), bnd_ret, mapL_filter r fun x hx => k x (List.mem_cons_of_mem _ hx), bnd_ret]
    cases e : p w with
    | true => rw [if_pos rfl, List.filter_cons_of_pos e]; rfl
    | false => rw [if_neg Bool.false_ne_true, List.filter_cons_of_neg (by rw [e]; exact Bool.false_ne_true)]
theorem sizeOk_le {xs : List D} (h : xs.length ≤ 16000000) : sizeOk xs = some xs := by
  unfold sizeOk
  have e : small xs.length = true := decide_eq_true h
  rw [if_pos e]
/-- [h for t in it] -/
theorem evE_compM {t : Tg} {it elt : E} {d : D} {g : α → D} {h : α → D} {ws : List α} (hi : evE v c it en = ret d) (hx : seqOf d = some (ws.map g)) (hl : ws.length ≤ 16000000)
    (k : ∀ w ∈ ws, ∃ en2, tgSet t (g w) en = some en2 ∧ evE v c elt en2 = ret (h w)) : evE v c (.comp t it none elt) en = ret (.list (ws.map h)) := by
  show bnd (evE v c it en) _ = _
  rw [hi, bnd_ret, hx, lift_ok, bnd_ret, mapL_map (h := h) ws, bnd_ret, sizeOk_le (by rw [List.length_map]; exact hl)]
  · rfl
  · intro w hw
    obtain ⟨en2, e1, e2⟩ := k w hw
    rw [e1, lift_ok, bnd_ret]
    show bnd (ret true) _ = _
    rw [bnd_ret, if_pos rfl, e2, bnd_ret]
/-- [h for t in it if p] -/
theorem evE_compF {t : Tg} {it elt q : E} {d : D} {g : α → D} {h : α → D} {p : α → Bool} {ws : List α} (hi : evE v c it en = ret d) (hx : seqOf d = some (ws.map g)) (hl : ws.length ≤ 16000000)
    (k : ∀ w ∈ ws, ∃ en2, tgSet t (g w) en = some en2 ∧ evE v c q en2 = ret (.bool (p w)) ∧ (p w = true → evE v c elt en2 = ret (h w))) : evE v c (.comp t it (some q) elt) en = ret (.list ((ws.filter p).map h)) := by
  show bnd (evE v c it en) _ = _
  rw [hi, bnd_ret, hx, lift_ok, bnd_ret, mapL_filter (h := h) (p := p) ws, bnd_ret, sizeOk_le (by rw [List.length_map]; exact Nat.le_trans (List.length_filter_le ..) hl)]
  · rfl
  · intro w hw
    obtain ⟨en2, e1, e2, e3⟩ := k w hw
    rw [e1, lift_ok, bnd_ret]
    show bnd (bnd (evE v c q en2) _) _ = _
    rw [e2, bnd_ret]
    show bnd (ret (p w)) _ = _
    rw [bnd_ret]
    cases e : p w with
    | true => rw [if_pos rfl, e3 e, bnd_ret, if_pos rfl]
    | false => rw [if_neg Bool.false_ne_true, if_neg Bool.false_ne_true]
theorem zipL_map {f : α → D} {g : β → D} : ∀ (as : List α) (bs : List β), zipL (as.map f) (bs.map g) = (as.zip bs).map fun w => .tuple [f w.1, g w.2]
  | [], _ => rfl
  | _ :: _, [] => rfl
  | a :: r, b :: q => by
    show PyData.tuple [f a, g b] :: zipL (r.map f) (q.map g) = _
    rw [zipL_map r q]; rfl
theorem enumL_map {f : α → D} : ∀ (as : List α) (k : Nat), enumL k (as.map f) = (as.zipIdx k).map fun w => .tuple [.int (w.2 : Nat), f w.1]
  | [], _ => rfl
  | a :: r, k => by
    show PyData.tuple [.int (k : Nat), f a] :: enumL (k + 1) (r.map f) = _
    rw [enumL_map r (k + 1)]; rfl
theorem evE_zip {a b : E} {st : Bool} {x y : D} {as : List α} {bs : List β} {f : α → D} {g : β → D} (ha : evE v c a en = ret x) (hb : evE v c b en = ret y) (hx : seqOf x = some (as.map f)) (hy : seqOf y = some (bs.map g)) (hl : st = true → as.length = bs.length) :
    evE v c (.zip a b st) en = ret (.list ((as.zip bs).map fun w => .tuple [f w.1, g w.2])) := by
  show bnd (evE v c a en) _ = _
  rw [ha, bnd_ret, hb, bnd_ret, hx, hy, Option.bind_some, Option.bind_some, zipL_map]
  have e : (!st || ((as.map f).length == (bs.map g).length)) = true := by
    cases st with
    | false => rfl
    | true => simpa using hl rfl
  rw [if_pos e]; rfl
theorem evE_enum {a : E} {x : D} {as : List α} {f : α → D} (ha : evE v c a en = ret x) (hx : seqOf x = some (as.map f)) : evE v c (.enum a) en = ret (.list (as.zipIdx.map fun w => .tuple [.int (w.2 : Nat), f w.1])) := by
  show bnd (evE v c a en) _ = _
  rw [ha, bnd_ret, hx, Option.map_some, enumL_map]; rfl
theorem evE_rng {a : E} {n : Nat} (e : evL v c [a] en = bnd (evE v c a en) fun x => bnd (ret []) fun ys => ret (x :: ys)) (ha : evE v c a en = ret (.int (n : Int))) (hn : n ≤ 16000000) : evE v c (.rng [a]) en = ret (.list ((List.range n).map fun i => .int (i : Nat))) := by
  show bnd (evL v c [a] en) _ = _
  rw [evL_1 e ha, bnd_ret]
  have e1 : rngV [.int (n : Int)] = some (rngL 0 n) := by
    show (if inR (n : Int) then some (rngL 0 (n : Int).toNat) else none) = _
    have e2 : inR (n : Int) = true := by
      unfold inR
      rw [Bool.and_eq_true]
      exact ⟨decide_eq_true (by omega), decide_eq_true (by omega)⟩
    rw [if_pos e2, Int.toNat_natCast]
  have e2 : rngL 0 n = (List.range n).map fun i => PyData.int (i : Nat) := by
    unfold rngL
    congr 1
    funext i
    rw [Int.zero_add]
  rw [e1, Option.bind_some, e2, sizeOk_le (by simpa using hn)]; rfl
/-- a loop that goes on, whatever comes -/
theorem forL_map {body : D → En → M Rs} {g : α → D} (f : En → α → En) (I : En → Prop) : ∀ (ws : List α) (en : En), I en → (∀ w ∈ ws, ∀ en, I en → body (g w) en = ret (.next (f en w)) ∧ I (f en w)) → forL body (ws.map g) en = ret (.next (ws.foldl f en)) ∧ I (ws.foldl f en)
  | [], en, h, _ => ⟨rfl, h⟩
  | w :: r, en, h, k => by
    obtain ⟨e, i⟩ := k w (List.mem_cons_self ..) en h
    rw [List.map_cons, forL_next e]
    exact forL_map f I r (f en w) i fun x hx => k x (List.mem_cons_of_mem _ hx)
theorem seq_l (xs : List D) : seqOf (.list xs) = some xs := rfl
theorem seq_t (xs : List D) : seqOf (.tuple xs) = some xs := rfl
theorem ints_mp (f : α → Int) : ∀ ws : List α, intsOf (ws.map fun w => .int (f w)) = some (ws.map f)
  | [] => rfl
  | w :: r => by
    show (intsOf (r.map fun w => .int (f w))).map _ = _
    rw [ints_mp f r]; rfl
theorem sum_map (f : α → Int) (ws : List α) : biV .sum [.list (ws.map fun w => .int (f w))] = some (.int (ws.map f).sum) := by
  show (intsOf _).map _ = _
  rw [ints_mp]; rfl
end
end Fz
/-! FzT: more general laws of the plain calculus: rows as maps over a range, choices as functions. -/
namespace Fz
open PySem
theorem zipL_self {α : Type} (f g : α → D) : ∀ L : List α, zipL (L.map f) (L.map g) = L.map fun i => .tuple [f i, g i]
  | [] => rfl
  | i :: L => by
    show PyData.tuple [f i, g i] :: zipL (L.map f) (L.map g) = _
    rw [zipL_self f g L]; rfl
theorem evE_zipS {α : Type} {v : Bool} {c : Cl} {en : En} {a b : E} {st : Bool} {x y : D} {L : List α} {f g : α → D} (ha : evE v c a en = ret x) (hb : evE v c b en = ret y) (hx : seqOf x = some (L.map f)) (hy : seqOf y = some (L.map g)) :
    evE v c (.zip a b st) en = ret (.list (L.map fun i => .tuple [f i, g i])) := by
  show bnd (evE v c a en) _ = _
  rw [ha, bnd_ret, hb, bnd_ret, hx, hy, Option.bind_some, Option.bind_some, zipL_self]
  have e : (!st || ((L.map f).length == (L.map g).length)) = true := by simp
  rw [if_pos e]; rfl
section
variable {v : Bool} {c : Cl} {en : En}
theorem evE_idx {a b : E} {x y d : D} (ha : evE v c a en = ret x) (hb : evE v c b en = ret y) (h : idxV x y = some d) : evE v c (.idx a b) en = ret d := by
  show bnd (evE v c a en) _ = _
  rw [ha, bnd_ret, hb, bnd_ret, h]; rfl
theorem evE_op {o : O2} {a b : E} {x y d : D} (ha : evE v c a en = ret x) (hb : evE v c b en = ret y) (h : op2 o x y = some d) : evE v c (.op o a b) en = ret d := by
  show bnd (evE v c a en) _ = _
  rw [ha, bnd_ret, hb, bnd_ret, h]; rfl
theorem evE_tup2 {a b : E} {x y : D} (e : evL v c [a, b] en = bnd (evE v c a en) fun x => bnd (bnd (evE v c b en) fun y => bnd (ret []) fun ys => ret (y :: ys)) fun ys => ret (x :: ys)) (ha : evE v c a en = ret x) (hb : evE v c b en = ret y) : evE v c (.tup [a, b]) en = ret (.tuple [x, y]) := by
  show bnd (evL v c [a, b] en) _ = _
  rw [e, ha, bnd_ret, hb]; rfl
theorem evE_ite {q a b : E} {t : Bool} {x y : D} (hq : evE v c q en = ret (.bool t)) (ha : t = true → evE v c a en = ret x) (hb : t = false → evE v c b en = ret y) : evE v c (.ite q a b) en = ret (if t then x else y) := by
  show bnd (evE v c q en) _ = _
  rw [hq, bnd_ret]
  cases t with
  | true => exact ha rfl
  | false => exact hb rfl
end
theorem idx_rngT (d : Nat) (f : Nat → D) {i : Nat} (h : i < d) : idxV (.tuple ((List.range d).map f)) (.int (i : Nat)) = some (f i) := by
  have e : ((List.range d).map f)[i]? = some (f i) := by
    rw [List.getElem?_map, List.getElem?_range h]; rfl
  exact idxV_nat e
theorem idx_rngL (d : Nat) (f : Nat → D) {i : Nat} (h : i < d) : idxV (.list ((List.range d).map f)) (.int (i : Nat)) = some (f i) := by
  have e : ((List.range d).map f)[i]? = some (f i) := by
    rw [List.getElem?_map, List.getElem?_range h]; rfl
  exact idxV_nat e
theorem lay_all {k : Nat} : ∀ xs : List D, (∀ x ∈ xs, x.canLay0 = true ∧ x.depth ≤ k) → PyData.canLayAll0 xs = true ∧ PyData.depthAll xs ≤ k
  | [], _ => ⟨rfl, Nat.zero_le _⟩
  | x :: r, h => by
    obtain ⟨h1, h2⟩ := h x (List.mem_cons_self ..)
    obtain ⟨g1, g2⟩ := lay_all r fun y hy => h y (List.mem_cons_of_mem _ hy)
    exact ⟨by simp only [PyData.canLayAll0, h1, g1, Bool.and_self], by simp only [PyData.depthAll]; omega⟩
theorem okT {k : Nat} {xs : List D} (h : ∀ x ∈ xs, x.canLay0 = true ∧ x.depth ≤ k) (hk : k + 1 ≤ 64) : okD (.tuple xs) = true := by
  obtain ⟨h1, h2⟩ := lay_all xs h
  unfold okD SeqAt.shaped
  rw [Bool.and_eq_true]
  exact ⟨by simpa only [PyData.canLay0] using h1, decide_eq_true (by simp only [PyData.depth]; omega)⟩
theorem okTi {α : Type} (ws : List α) (f : α → Int) : okD (.tuple (ws.map fun w => .int (f w))) = true := okT (k := 0) (fun x hx => by
  obtain ⟨w, _, rfl⟩ := List.mem_map.mp hx
  exact ⟨rfl, Nat.le_refl _⟩) (by decide)
theorem okLi {α : Type} (ws : List α) (f : α → Int) : okD (.list (ws.map fun w => .int (f w))) = true := okTi ws f
theorem fun_of {α : Type} [Inhabited α] {g : α → D} {P : α → Prop} {d : Nat} {ys : List D} (hl : ys.length = d) (h : ∀ y ∈ ys, ∃ w, y = g w ∧ P w) : ∃ x : Nat → α, ys = (List.range d).map (fun i => g (x i)) ∧ ∀ i ∈ List.range d, P (x i) := by
  have hh : ∀ i : Nat, ∃ w : α, ∀ (hi : i < ys.length), ys[i] = g w ∧ P w := fun i => by
    by_cases hi : i < ys.length
    · obtain ⟨w, e, p⟩ := h ys[i] (List.getElem_mem hi)
      exact ⟨w, fun _ => ⟨e, p⟩⟩
    · exact ⟨default, fun q => absurd q hi⟩
  refine ⟨fun i => Classical.choose (hh i), ?_, fun i hi => (Classical.choose_spec (hh i) (by rw [hl]; exact List.mem_range.mp hi)).2⟩
  refine List.ext_getElem (by simp [hl]) fun i h1 h2 => ?_
  rw [List.getElem_map, List.getElem_range]
  exact (Classical.choose_spec (hh i) h1).1
section
variable {v : Bool} {c : Cl} {en : En} {s : Src}
theorem wp_rng1 {a : E} {Q : D → Src → Prop} (e : evL v c [a] en = bnd (evE v c a en) fun x => bnd (ret []) fun ys => ret (x :: ys)) (h : Wp (evE v c a en) s fun y s1 => ∃ n : Nat, y = .int (n : Nat) ∧ n ≤ 16000000 ∧ Q (.list ((List.range n).map fun i => .int (i : Nat))) s1) : Wp (evE v c (.rng [a]) en) s Q := by
  refine wp_bnd (x := evL v c [a] en) ?_
  rw [e]
  refine wp_bnd (h.mono fun y s1 ⟨n, ey, hn, q⟩ => wp_bnd (wp_ret (wp_ret ?_)))
  subst ey
  have e1 : rngV [.int (n : Int)] = some (rngL 0 n) := by
    show (if inR (n : Int) then some (rngL 0 (n : Int).toNat) else none) = _
    have e2 : inR (n : Int) = true := by
      unfold inR
      rw [Bool.and_eq_true]
      exact ⟨decide_eq_true (by omega), decide_eq_true (by omega)⟩
    rw [if_pos e2, Int.toNat_natCast]
  have e2 : rngL 0 n = (List.range n).map fun i => PyData.int (i : Nat) := by
    unfold rngL
    congr 1
    funext i
    rw [Int.zero_add]
  refine wp_lift (a := .list ((List.range n).map fun i => .int (i : Nat))) ?_ q
  rw [e1, Option.bind_some, e2, sizeOk_le (by simpa using hn)]; rfl
theorem wp_mapLo {f : D → M (Option D)} {R : D → Prop} : ∀ (xs : List D) (s : Src) (Q : List D → Src → Prop), (∀ x ∈ xs, ∀ s, Wp (f x) s fun o _ => ∀ y, o = some y → R y) → (∀ ys s, ys.length ≤ xs.length → (∀ y ∈ ys, R y) → Q ys s) → Wp (mapL f xs) s Q
  | [], s, Q, _, k => wp_ret (k [] s (Nat.le_refl _) fun y h => by cases h)
  | x :: r, s, Q, h, k => by
    refine wp_bnd ((h x (List.mem_cons_self ..) s).mono fun o s1 hy => ?_)
    refine wp_bnd (wp_mapLo r s1 _ (fun z hz => h z (List.mem_cons_of_mem _ hz)) fun ys s2 hl hr => wp_ret ?_)
    cases o with
    | none => exact k ys s2 (by rw [List.length_cons]; omega) hr
    | some y =>
      refine k (y :: ys) s2 (by rw [List.length_cons, List.length_cons]; omega) fun z hz => ?_
      rcases List.mem_cons.mp hz with rfl | hz
      · exact hy _ rfl
      · exact hr z hz
/-- a list of those that are chosen -/
theorem wp_compF {t : Tg} {it elt q : E} {d : D} {xs : List D} {R : D → Prop} {Q : D → Src → Prop} (hi : evE v c it en = ret d) (hx : seqOf d = some xs)
    (h : ∀ x ∈ xs, ∀ s, ∃ en2, tgSet t x en = some en2 ∧ Wp (evE v c q en2) s (fun y _ => ∃ b, y = .bool b) ∧ ∃ y, evE v c elt en2 = ret y ∧ R y) (hl : xs.length ≤ 16000000) (k : ∀ ys s, ys.length ≤ xs.length → (∀ y ∈ ys, R y) → Q (.list ys) s) : Wp (evE v c (.comp t it (some q) elt) en) s Q := by
  refine wp_bnd (wp_eq hi (wp_bnd (wp_lift hx (wp_bnd (wp_mapLo (R := R) xs s _ (fun x hx s => ?_) fun ys s hl2 hr => ?_)))))
  · obtain ⟨en2, e, w, y, e2, r⟩ := h x hx s
    refine wp_bnd (wp_lift e (wp_bnd (wp_bnd (w.mono fun z s1 ⟨b, ez⟩ => ?_))))
    subst ez
    refine wp_lift (a := b) rfl ?_
    cases b with
    | true =>
      rw [if_pos rfl]
      exact wp_bnd (wp_eq e2 (wp_ret fun z hz => by cases hz; exact r))
    | false =>
      rw [if_neg Bool.false_ne_true]
      exact wp_ret fun z hz => by cases hz
  · refine wp_lift ?_ (k ys s hl2 hr)
    rw [sizeOk_le (by omega)]; rfl
end
theorem ne_same {xs : List D} (h : okD (.tuple xs) = true) : cmp2 .ne (.tuple xs) (.tuple xs) = some false := by
  show (if okD (.tuple xs) && okD (.tuple xs) then some (!PyData.eqv (.tuple xs) (.tuple xs)) else none) = _
  have lay : PyData.canLay0 (.tuple xs) = true := by
    unfold okD SeqAt.shaped at h
    exact (Bool.and_eq_true_iff.mp h).1
  rw [h, eqv_refl _ lay]; rfl
theorem evL_2 {v : Bool} {c : Cl} {en : En} {a b : E} {x y : D} (e : evL v c [a, b] en = bnd (evE v c a en) fun x => bnd (bnd (evE v c b en) fun y => bnd (ret []) fun ys => ret (y :: ys)) fun ys => ret (x :: ys)) (ha : evE v c a en = ret x) (hb : evE v c b en = ret y) : evL v c [a, b] en = ret [x, y] := by
  rw [e, ha, bnd_ret, hb]; rfl
theorem list_of {α : Type} {g : α → D} {P : α → Prop} : ∀ ys : List D, (∀ y ∈ ys, ∃ w, y = g w ∧ P w) → ∃ ws : List α, ys = ws.map g ∧ ∀ w ∈ ws, P w
  | [], _ => ⟨[], rfl, fun w h => nomatch h⟩
  | y :: r, h => by
    obtain ⟨w, e, p⟩ := h y (List.mem_cons_self ..)
    obtain ⟨ws, e2, p2⟩ := list_of r fun z hz => h z (List.mem_cons_of_mem _ hz)
    refine ⟨w :: ws, by rw [e, e2]; rfl, fun z hz => ?_⟩
    rcases List.mem_cons.mp hz with rfl | hz
    · exact p
    · exact p2 z hz
theorem exS_ret {v : Bool} {c : Cl} {en : En} {e : E} {d : D} (h : evE v c e en = ret d) : exS v c (.ret e) en = ret (.ret d) := by
  show bnd (evE v c e en) _ = _
  rw [h]; rfl
theorem exS_skip {v : Bool} {c : Cl} {q : E} {a : List S} {en : En} (h : evE v c q en = ret (.bool false)) : exS v c (.ite q a []) en = ret (.next en) := by
  rw [exS_if h rfl, if_neg Bool.false_ne_true]; rfl
theorem enumL_range' (f : Nat → D) : ∀ (m k : Nat), enumL k ((List.range' k m).map f) = (List.range' k m).map fun i => .tuple [.int (i : Nat), f i]
  | 0, _ => rfl
  | m + 1, k => by
    rw [List.range'_succ, List.map_cons, List.map_cons]
    show PyData.tuple [.int (k : Nat), f k] :: enumL (k + 1) _ = _
    rw [enumL_range' f m (k + 1)]
/-- enumerate of a row -/
theorem evE_enumR {v : Bool} {c : Cl} {en : En} {a : E} {x : D} {m : Nat} {f : Nat → D} (ha : evE v c a en = ret x) (hx : seqOf x = some ((List.range m).map f)) : evE v c (.enum a) en = ret (.list ((List.range m).map fun i => .tuple [.int (i : Nat), f i])) := by
  show bnd (evE v c a en) _ = _
  rw [ha, bnd_ret, hx, Option.map_some, List.range_eq_range', enumL_range' f m 0]; rfl
theorem trs_map {α : Type} (p : α → Bool) : ∀ ws : List α, trsOf (ws.map fun w => .bool (p w)) = some (ws.map p)
  | [] => rfl
  | w :: r => by
    show (trsOf (r.map fun w => .bool (p w))).map _ = _
    rw [trs_map p r]; rfl
theorem all_map {α : Type} (p : α → Bool) (ws : List α) : biV .all [.list (ws.map fun w => .bool (p w))] = some (.bool (ws.all p)) := by
  show (trsOf _).map _ = _
  rw [trs_map, Option.map_some, List.all_map]; rfl
theorem any_map {α : Type} (p : α → Bool) (ws : List α) : biV .any [.list (ws.map fun w => .bool (p w))] = some (.bool (ws.any p)) := by
  show (trsOf _).map _ = _
  rw [trs_map, Option.map_some, List.any_map]; rfl
theorem isin_ints {α : Type} (k : Int) (f : α → Int) (ws : List α) : cmp2 .isin (.int k) (.list (ws.map fun w => .int (f w))) = some (ws.any fun w => f w == k) := by
  show (if okD (.int k) && okD (.list (ws.map fun w => .int (f w))) then some (memD (.int k) (ws.map fun w => .int (f w))) else none) = _
  have e : okD (.list (ws.map fun w => .int (f w))) = true := okLi ws f
  rw [e]
  show some (memD (.int k) (ws.map fun w => .int (f w))) = _
  unfold memD
  rw [List.any_map]; rfl
theorem eq_nilL {α : Type} (f : α → Int) (ws : List α) : cmp2 .eq (.list (ws.map fun w => .int (f w))) (.list []) = some ws.isEmpty := by
  show (if okD (.list (ws.map fun w => .int (f w))) && okD (.list []) then some (PyData.eqv (.list (ws.map fun w => .int (f w))) (.list [])) else none) = _
  have e : okD (.list (ws.map fun w => .int (f w))) = true := okLi ws f
  rw [e]
  cases ws <;> rfl
theorem eq_nilT {α : Type} (f : α → Int) (ws : List α) : cmp2 .eq (.tuple (ws.map fun w => .int (f w))) (.tuple []) = some ws.isEmpty := by
  show (if okD (.tuple (ws.map fun w => .int (f w))) && okD (.tuple []) then some (PyData.eqv (.tuple (ws.map fun w => .int (f w))) (.tuple [])) else none) = _
  have e : okD (.tuple (ws.map fun w => .int (f w))) = true := okTi ws f
  rw [e]
  cases ws <;> rfl
theorem eqv_maps {α : Type} (f g : α → Int) : ∀ ws : List α, PyData.eqvAll (ws.map fun w => .int (f w)) (ws.map fun w => .int (g w)) = ws.all fun w => f w == g w
  | [] => by simp [PyData.eqvAll]
  | w :: r => by
    simp only [List.map_cons, PyData.eqvAll, eqv_maps f g r, List.all_cons]
    rfl
theorem eq_ints {α : Type} (f g : α → Int) (ws : List α) : cmp2 .eq (.tuple (ws.map fun w => .int (f w))) (.tuple (ws.map fun w => .int (g w))) = some (ws.all fun w => f w == g w) := by
  show (if okD (.tuple (ws.map fun w => .int (f w))) && okD (.tuple (ws.map fun w => .int (g w))) then some (PyData.eqv (.tuple (ws.map fun w => .int (f w))) (.tuple (ws.map fun w => .int (g w)))) else none) = _
  have e1 : okD (.tuple (ws.map fun w => .int (f w))) = true := okTi ws f
  have e2 : okD (.tuple (ws.map fun w => .int (g w))) = true := okTi ws g
  rw [e1, e2]
  have e3 : PyData.eqv (.tuple (ws.map fun w => .int (f w))) (.tuple (ws.map fun w => .int (g w))) = PyData.eqvAll (ws.map fun w => .int (f w)) (ws.map fun w => .int (g w)) := by simp only [PyData.eqv]
  rw [e3, eqv_maps]; rfl
theorem eq_bool (a b : Bool) : cmp2 .eq (.bool a) (.bool b) = some (a == b) := rfl
theorem ne_bool (a b : Bool) : cmp2 .ne (.bool a) (.bool b) = some (!(a == b)) := rfl
theorem filter_empty {α : Type} (p : α → Bool) (ws : List α) : (ws.filter p).isEmpty = !(ws.any p) := by
  induction ws with
  | nil => rfl
  | cons w r ih =>
    rw [List.filter_cons, List.any_cons]
    cases p w with
    | true => rfl
    | false => simpa using ih
theorem ro_ints {α : Type} {n m : Nat} (ws : List α) (f : α → Int) (h : ∀ w ∈ ws, (f w).natAbs < 2 ^ n) (hn : n ≤ 1900) (hm : ws.length ≤ m) : RO (m * (n + 4) + 3) 1 (.tuple (ws.map fun w => .int (f w))) := by
  refine RO.mono (ro_tuple (b := n + 2) (k := 0) (n := m) (fun x hx => ?_) (by rw [List.length_map]; exact hm)) (Nat.le_refl _) (by omega)
  obtain ⟨w, hw, rfl⟩ := List.mem_map.mp hx
  exact ro_int (h w hw) hn
end Fz
/-! FzS: the plain calculus as equations for simp; loops by what they keep. -/
namespace Fz
open PySem
section
variable {v : Bool} {c : Cl} {en : En}
theorem q_non : evE v c .non en = ret .none := rfl
theorem q_bl {b : Bool} : evE v c (.bl b) en = ret (.bool b) := rfl
theorem q_int {i : Int} : evE v c (.int i) en = ret (.int i) := rfl
theorem q_str {s : Str} : evE v c (.str s) en = ret (.str s) := rfl
theorem q_var {i : Nat} : evE v c (.var i) en = lift (en.getD i none) := rfl
theorem q_op {o : O2} {a b : E} : evE v c (.op o a b) en = bnd (evE v c a en) fun x => bnd (evE v c b en) fun y => lift (op2 o x y) := rfl
theorem q_neg {a : E} {i : Int} (h : evE v c a en = ret (.int i)) : evE v c (.neg a) en = ret (.int (-i)) := by
  show bnd (evE v c a en) _ = _
  rw [h]; rfl
theorem q_not {a : E} : evE v c (.not a) en = bnd (evE v c a en) fun x => lift ((truth x).map fun b => .bool (!b)) := rfl
theorem q_and {a b : E} : evE v c (.and a b) en = bnd (evE v c a en) fun x => bnd (lift (truth x)) fun t => if t then evE v c b en else ret x := rfl
theorem q_or {a b : E} : evE v c (.or a b) en = bnd (evE v c a en) fun x => bnd (lift (truth x)) fun t => if t then ret x else evE v c b en := rfl
theorem q_ite {q a b : E} : evE v c (.ite q a b) en = bnd (evE v c q en) fun x => bnd (lift (truth x)) fun t => if t then evE v c a en else evE v c b en := rfl
theorem q_cmp {o : Cm} {a b : E} : evE v c (.cmp o a b) en = bnd (evE v c a en) fun x => bnd (evE v c b en) fun y => lift ((cmp2 o x y).map .bool) := rfl
theorem q_chain {o1 o2 : Cm} {a b q : E} : evE v c (.chain o1 o2 a b q) en = bnd (evE v c a en) fun x => bnd (evE v c b en) fun y => bnd (lift (cmp2 o1 x y)) fun t => if t then bnd (evE v c q en) fun z => lift ((cmp2 o2 y z).map .bool) else ret (.bool false) := rfl
theorem q_tup {es : List E} : evE v c (.tup es) en = bnd (evL v c es en) fun ds => lift ((sizeOk ds).map .tuple) := rfl
theorem q_lst {es : List E} : evE v c (.lst es) en = bnd (evL v c es en) fun ds => lift ((sizeOk ds).map .list) := rfl
theorem q_idx {a b : E} : evE v c (.idx a b) en = bnd (evE v c a en) fun x => bnd (evE v c b en) fun y => lift (idxV x y) := rfl
theorem q_slc {a : E} {lo hi : Option E} : evE v c (.slc a lo hi) en = bnd (evE v c a en) fun x => bnd (evO v c lo en) fun y => bnd (evO v c hi en) fun z => lift ((intOpt y).bind fun i => (intOpt z).bind fun j => slcV x i j) := rfl
theorem q_rev {a : E} : evE v c (.rev a) en = bnd (evE v c a en) fun x => lift (revV x) := rfl
theorem q_call {f : Nat} {args : List E} : evE v c (.call f args) en = bnd (evL v c args en) fun ds => c f ds := rfl
theorem q_bi {b : Bi} {args : List E} : evE v c (.bi b args) en = bnd (evL v c args en) fun ds => lift (biV b ds) := rfl
theorem q_meth {m : Mt} {a b : E} : evE v c (.meth m a b) en = bnd (evE v c a en) fun x => bnd (evE v c b en) fun y => lift (methV m x y) := rfl
theorem q_isi {a : E} {tys : List Ty} : evE v c (.isi a tys) en = bnd (evE v c a en) fun x => ret (.bool (tys.any fun t => isTy x t)) := rfl
theorem q_rng {args : List E} : evE v c (.rng args) en = bnd (evL v c args en) fun ds => lift ((rngV ds).bind fun l => (sizeOk l).map .list) := rfl
theorem q_enum {a : E} : evE v c (.enum a) en = bnd (evE v c a en) fun x => lift ((seqOf x).map fun xs => .list (enumL 0 xs)) := rfl
theorem q_zip {a b : E} {st : Bool} : evE v c (.zip a b st) en = bnd (evE v c a en) fun x => bnd (evE v c b en) fun y => lift ((seqOf x).bind fun xs => (seqOf y).bind fun ys => if !st || xs.length == ys.length then some (.list (zipL xs ys)) else none) := rfl
/-- one turn of a comprehension -/
def cTurn (v : Bool) (c : Cl) (t : Tg) (ifs : Option E) (elt : E) (en : En) (d : D) : M (Option D) :=
  bnd (lift (tgSet t d en)) fun en2 => bnd (evT v c ifs en2) fun ok => if ok then bnd (evE v c elt en2) fun y => ret (some y) else ret none
theorem q_comp {t : Tg} {it elt : E} {ifs : Option E} : evE v c (.comp t it ifs elt) en = bnd (evE v c it en) fun x => bnd (lift (seqOf x)) fun xs => bnd (mapL (cTurn v c t ifs elt en) xs) fun ys => lift ((sizeOk ys).map .list) := rfl
theorem q_lnil : evL v c [] en = ret [] := rfl
theorem q_lcons {e : E} {r : List E} (h : (match e with | .star _ => false | _ => true) = true) : evL v c (e :: r) en = bnd (evE v c e en) fun x => bnd (evL v c r en) fun ys => ret (x :: ys) := by
  cases e <;> first | rfl | cases h
theorem q_lstar {e : E} {r : List E} : evL v c (.star e :: r) en = bnd (evE v c e en) fun x => bnd (lift (seqOf x)) fun xs => bnd (evL v c r en) fun ys => ret (xs ++ ys) := rfl
theorem q_o0 : evO v c none en = ret none := rfl
theorem q_o1 {e : E} : evO v c (some e) en = bnd (evE v c e en) fun x => ret (some x) := rfl
theorem q_t0 : evT v c none en = ret true := rfl
theorem q_t1 {e : E} : evT v c (some e) en = bnd (evE v c e en) fun x => lift (truth x) := rfl
theorem q_snil : exL v c [] en = ret (.next en) := rfl
/-- what comes behind a statement -/
def aThen (v : Bool) (c : Cl) (r : List S) : Rs → M Rs
  | .next en2 => exL v c r en2
  | .ret d => ret (.ret d)
theorem q_scons {s : S} {r : List S} : exL v c (s :: r) en = bnd (exS v c s en) (aThen v c r) := by
  show bnd (exS v c s en) _ = bnd (exS v c s en) _
  congr 1
theorem q_thenN {r : List S} {en2 : En} : aThen v c r (.next en2) = exL v c r en2 := rfl
theorem q_thenR {r : List S} {d : D} : aThen v c r (.ret d) = ret (.ret d) := rfl
theorem q_asg {t : Tg} {e : E} : exS v c (.asg t e) en = bnd (evE v c e en) fun d => bnd (lift (tgSet t d en)) fun en2 => ret (.next en2) := rfl
/-- a list that is one's own -/
def asNew (i : Nat) (en : En) : D → M Rs
  | .list xs => ret (.next (en.set i (some (.list xs))))
  | _ => fun _ => none
theorem q_new {i : Nat} {e : E} : exS v c (.new i e) en = bnd (evE v c e en) (asNew i en) := rfl
theorem q_asNew {i : Nat} {xs : List D} : asNew i en (.list xs) = ret (.next (en.set i (some (.list xs)))) := rfl
theorem q_par {is : List Nat} {es : List E} : exS v c (.par is es) en = bnd (evL v c es en) fun ds => bnd (lift (setsV is ds en)) fun en2 => ret (.next en2) := rfl
theorem q_parN {is : List Nat} {ns : List Bool} {es : List E} : exS v c (.parN is ns es) en = bnd (evL v c es en) fun ds => if newsOk ns ds then bnd (lift (setsV is ds en)) fun en2 => ret (.next en2) else fun _ => none := rfl
theorem q_app {i : Nat} {e : E} : exS v c (.app i e) en = bnd (evE v c e en) fun d => bnd (lift (lstAt en i)) fun xs => if small (xs.length + 1) then ret (.next (en.set i (some (.list (xs ++ [d]))))) else fun _ => none := rfl
def asExt (i : Nat) (en : En) (xs : List D) : D → M Rs
  | .list ys => if small (xs.length + ys.length) then ret (.next (en.set i (some (.list (xs ++ ys))))) else fun _ => none
  | _ => fun _ => none
theorem q_ext {i : Nat} {e : E} : exS v c (.ext i e) en = bnd (evE v c e en) fun d => bnd (lift (lstAt en i)) fun xs => asExt i en xs d := rfl
theorem q_asExt {i : Nat} {xs ys : List D} : asExt i en xs (.list ys) = if small (xs.length + ys.length) then ret (.next (en.set i (some (.list (xs ++ ys))))) else fun _ => none := rfl
theorem q_pop {t : Tg} {j : Nat} {k : Option E} : exS v c (.pop t j k) en = bnd (evO v c k en) fun kd => bnd (lift (lstAt en j)) fun xs => bnd (lift (popAt xs kd)) fun p => bnd (lift (tgSet t p.1 (en.set j (some (.list p.2))))) fun en2 => ret (.next en2) := rfl
def asSet (i : Nat) (en : En) (xs : List D) (d : D) : D → M Rs
  | .int z => match L2.ixN xs.length z with
    | some j => ret (.next (en.set i (some (.list (xs.set j d)))))
    | none => fun _ => none
  | _ => fun _ => none
theorem q_set {i : Nat} {k e : E} : exS v c (.set i k e) en = bnd (evE v c e en) fun d => bnd (evE v c k en) fun kd => bnd (lift (lstAt en i)) fun xs => asSet i en xs d kd := rfl
theorem q_asSet {i : Nat} {xs : List D} {d : D} {z : Int} {j : Nat} (h : L2.ixN xs.length z = some j) : asSet i en xs d (.int z) = ret (.next (en.set i (some (.list (xs.set j d))))) := by
  show (match L2.ixN xs.length z with | some j => _ | none => _) = _
  rw [h]
theorem q_aug {i : Nat} {o : O2} {e : E} : exS v c (.aug i o e) en = bnd (lift (en.getD i none)) fun x => bnd (evE v c e en) fun y => bnd (lift (aug2 o x y)) fun z => ret (.next (en.set i (some z))) := rfl
theorem q_ret {e : E} : exS v c (.ret e) en = bnd (evE v c e en) fun d => ret (.ret d) := rfl
theorem q_if {q : E} {a b : List S} : exS v c (.ite q a b) en = bnd (evE v c q en) fun x => bnd (lift (truth x)) fun t => if t then exL v c a en else exL v c b en := rfl
/-- one turn of a loop -/
def fTurn (v : Bool) (c : Cl) (t : Tg) (body : List S) (d : D) (en : En) : M Rs := bnd (lift (tgSet t d en)) fun en3 => exL v c body en3
theorem q_for {t : Tg} {it : E} {body : List S} : exS v c (.for_ t it body) en = bnd (evE v c it en) fun x => bnd (lift (seqOf x)) fun xs => forL (fTurn v c t body) xs en := rfl
def wTest (v : Bool) (c : Cl) (q : E) (en : En) : M Bool := bnd (evE v c q en) fun x => lift (truth x)
theorem q_whl {q : E} {body : List S} : exS v c (.whl q body) en = whlL (wTest v c q) (exL v c body) wFuel en := rfl
theorem q_pass : exS v c .pass en = ret (.next en) := rfl
theorem q_getD0 {x : Option D} {r : En} : (x :: r).getD 0 none = x := rfl
theorem q_getD1 {x : Option D} {r : En} {i : Nat} : (x :: r).getD (i + 1) none = r.getD i none := rfl
theorem q_set0 {x y : Option D} {r : En} : (x :: r).set 0 y = y :: r := rfl
theorem q_set1 {x y : Option D} {r : En} {i : Nat} : (x :: r).set (i + 1) y = x :: r.set i y := rfl
theorem q_tgN {i : Nat} {d : D} : tgSet (.name i) d en = some (en.set i (some d)) := rfl
theorem q_tgT {ts : List Tg} {ds : List D} : tgSet (.tup ts) (.tuple ds) en = tgSets ts ds en := rfl
theorem q_tgL {ts : List Tg} {ds : List D} : tgSet (.tup ts) (.list ds) en = tgSets ts ds en := rfl
theorem q_tg0 : tgSets [] [] en = some en := rfl
theorem q_tg1 {t : Tg} {ts : List Tg} {d : D} {ds : List D} : tgSets (t :: ts) (d :: ds) en = (tgSet t d en).bind fun e => tgSets ts ds e := rfl
theorem q_sv0 : setsV [] [] en = some en := rfl
theorem q_sv1 {i : Nat} {is : List Nat} {d : D} {ds : List D} : setsV (i :: is) (d :: ds) en = setsV is ds (en.set i (some d)) := rfl
theorem q_lstAt {i : Nat} {xs : List D} (h : en.getD i none = some (.list xs)) : lstAt en i = some xs := by
  unfold lstAt; rw [h]
end
theorem q_tb {b : Bool} : truth (.bool b) = some b := rfl
theorem q_ti {i : Int} : truth (.int i) = some (i != 0) := rfl
theorem q_tl {xs : List D} : truth (.list xs) = some (!xs.isEmpty) := rfl
theorem q_tt {xs : List D} : truth (.tuple xs) = some (!xs.isEmpty) := rfl
theorem q_add {i j : Int} : op2 .add (.int i) (.int j) = some (.int (i + j)) := rfl
theorem q_sub {i j : Int} : op2 .sub (.int i) (.int j) = some (.int (i - j)) := rfl
theorem q_addL {a b : List D} (h : a.length + b.length ≤ 16000000) : op2 .add (.list a) (.list b) = some (.list (a ++ b)) := by
  show (if small (a.length + b.length) then _ else _) = _
  rw [if_pos (show small (a.length + b.length) = true from decide_eq_true h)]
theorem q_addT {a b : List D} (h : a.length + b.length ≤ 16000000) : op2 .add (.tuple a) (.tuple b) = some (.tuple (a ++ b)) := by
  show (if small (a.length + b.length) then _ else _) = _
  rw [if_pos (show small (a.length + b.length) = true from decide_eq_true h)]
theorem q_lt {i j : Int} : cmp2 .lt (.int i) (.int j) = some (decide (i < j)) := rfl
theorem q_le {i j : Int} : cmp2 .le (.int i) (.int j) = some (decide (i ≤ j)) := rfl
theorem q_gt {i j : Int} : cmp2 .gt (.int i) (.int j) = some (decide (j < i)) := rfl
theorem q_ge {i j : Int} : cmp2 .ge (.int i) (.int j) = some (decide (j ≤ i)) := rfl
theorem q_eqI {i j : Int} : cmp2 .eq (.int i) (.int j) = some (decide (i = j)) := by
  show some (PyData.eqv (.int i) (.int j)) = _
  congr 1
theorem q_neI {i j : Int} : cmp2 .ne (.int i) (.int j) = some (!decide (i = j)) := by
  show some (!PyData.eqv (.int i) (.int j)) = _
  congr 1
theorem q_eqN {i j : Nat} : cmp2 .eq (.int (i : Int)) (.int (j : Int)) = some (decide (i = j)) := by
  rw [q_eqI]; congr 1; exact decide_eq_decide.mpr ⟨fun h => by omega, fun h => by omega⟩
theorem q_lenL {xs : List D} : biV .len [.list xs] = some (.int xs.length) := rfl
theorem q_lenT {xs : List D} : biV .len [.tuple xs] = some (.int xs.length) := rfl
theorem q_tupL {xs : List D} : biV .tuple [.list xs] = some (.tuple xs) := rfl
theorem q_tupT {xs : List D} : biV .tuple [.tuple xs] = some (.tuple xs) := rfl
theorem q_lstL {xs : List D} : biV .list [.list xs] = some (.list xs) := rfl
theorem q_lstT {xs : List D} : biV .list [.tuple xs] = some (.list xs) := rfl
theorem q_seqL {xs : List D} : seqOf (.list xs) = some xs := rfl
theorem q_seqT {xs : List D} : seqOf (.tuple xs) = some xs := rfl
theorem q_revL {xs : List D} : revV (.list xs) = some (.list xs.reverse) := rfl
theorem q_revT {xs : List D} : revV (.tuple xs) = some (.tuple xs.reverse) := rfl
theorem q_intI {i : Int} : biV .int [.int i] = some (.int i) := rfl
theorem q_intB {b : Bool} : biV .int [.bool b] = some (.int (if b then 1 else 0)) := rfl
theorem q_size0 : sizeOk [] = some [] := rfl
theorem q_size1 {a : D} : sizeOk [a] = some [a] := rfl
theorem q_size2 {a b : D} : sizeOk [a, b] = some [a, b] := rfl
theorem q_size3 {a b d : D} : sizeOk [a, b, d] = some [a, b, d] := rfl
theorem q_size4 {a b d e : D} : sizeOk [a, b, d, e] = some [a, b, d, e] := rfl
theorem q_size5 {a b d e f : D} : sizeOk [a, b, d, e, f] = some [a, b, d, e, f] := rfl
theorem q_size6 {a b d e f g : D} : sizeOk [a, b, d, e, f, g] = some [a, b, d, e, f, g] := rfl
theorem q_size7 {a b d e f g h : D} : sizeOk [a, b, d, e, f, g, h] = some [a, b, d, e, f, g, h] := rfl
theorem q_size8 {a b d e f g h i : D} : sizeOk [a, b, d, e, f, g, h, i] = some [a, b, d, e, f, g, h, i] := rfl
theorem q_size9 {a b d e f g h i j : D} : sizeOk [a, b, d, e, f, g, h, i, j] = some [a, b, d, e, f, g, h, i, j] := rfl
theorem q_news0 : newsOk [] [] = true := rfl
theorem q_newsT {bs : List Bool} {xs ds : List D} : newsOk (true :: bs) (.list xs :: ds) = newsOk bs ds := rfl
theorem q_newsF {bs : List Bool} {d : D} {ds : List D} : newsOk (false :: bs) (d :: ds) = newsOk bs ds := rfl
theorem q_augA {i j : Int} : aug2 .add (.int i) (.int j) = some (.int (i + j)) := rfl
theorem q_augS {i j : Int} : aug2 .sub (.int i) (.int j) = some (.int (i - j)) := rfl
theorem q_io0 : intOpt none = some none := rfl
theorem q_io1 {i : Int} : intOpt (some (.int i)) = some (some i) := rfl
theorem q_slcL {xs : List D} {lo hi : Option Int} : slcV (.list xs) lo hi = some (.list (cut xs lo hi)) := rfl
theorem q_slcT {xs : List D} {lo hi : Option Int} : slcV (.tuple xs) lo hi = some (.tuple (cut xs lo hi)) := rfl
theorem q_size {xs : List D} (h : xs.length ≤ 16000000) : sizeOk xs = some xs := sizeOk_le h
theorem q_small {n : Nat} (h : n ≤ 16000000) : small n = true := decide_eq_true h
theorem q_rng1 {n : Nat} (h : n ≤ 16000000) : rngV [.int (n : Int)] = some ((List.range n).map fun i : Nat => .int (i : Nat)) := by
  show (if inR (n : Int) then some (rngL 0 (n : Int).toNat) else none) = _
  have e2 : inR (n : Int) = true := by
    unfold inR
    simp only [Bool.and_eq_true, decide_eq_true_eq]
    omega
  rw [if_pos e2, Int.toNat_natCast]
  unfold rngL
  congr 1
  refine List.map_congr_left fun i _ => ?_
  rw [Int.zero_add]
theorem q_rng2 {lo hi : Int} {m : Nat} (e : hi - lo = (m : Int)) (h1 : -1000000 ≤ lo ∧ lo ≤ 1000000) (h : m ≤ 16000000) : rngV [.int lo, .int hi] = some ((List.range m).map fun i : Nat => .int (lo + (i : Nat))) := by
  show (if inR lo && inR hi then some (rngL lo (hi - lo).toNat) else none) = _
  have e2 : (inR lo && inR hi) = true := by
    unfold inR
    simp only [Bool.and_eq_true, decide_eq_true_eq]
    omega
  rw [if_pos e2, e, Int.toNat_natCast]; rfl
/-- a loop keeps its state's form; what lies in dead slots is left open -/
theorem forL_st {α σ J : Type} {body : D → En → M Rs} {g : α → D} (E : σ → J → En) (step : σ → α → σ) (I : σ → Prop) : ∀ (ws : List α) (s : σ) (j : J), I s → (∀ s j w, I s → w ∈ ws → ∃ j', body (g w) (E s j) = ret (.next (E (step s w) j')) ∧ I (step s w)) →
    ∃ j', forL body (ws.map g) (E s j) = ret (.next (E (ws.foldl step s) j')) ∧ I (ws.foldl step s)
  | [], s, j, h0, _ => ⟨j, rfl, h0⟩
  | w :: r, s, j, h0, h => by
    obtain ⟨j1, e1, h1⟩ := h s j w h0 (List.mem_cons_self ..)
    obtain ⟨j2, e2, h2⟩ := forL_st E step I r (step s w) j1 h1 fun s j w hi hw => h s j w hi (List.mem_cons_of_mem _ hw)
    exact ⟨j2, (forL_next e1).trans e2, h2⟩
def itr {σ : Type} (f : σ → σ) : Nat → σ → σ
  | 0, s => s
  | n + 1, s => itr f n (f s)
/-- a while goes on till its test fails -/
theorem whlL_st {σ J : Type} {test : En → M Bool} {body : En → M Rs} (E : σ → J → En) (go : σ → Bool) (step : σ → σ) (I : σ → Prop) (μ : σ → Nat) (ht : ∀ s j, I s → test (E s j) = ret (go s)) (hb : ∀ s j, I s → go s = true → ∃ j', body (E s j) = ret (.next (E (step s) j')) ∧ I (step s) ∧ μ (step s) < μ s) :
    ∀ (n : Nat) (s : σ) (j : J), I s → μ s < n → ∃ s' j', whlL test body n (E s j) = ret (.next (E s' j')) ∧ I s' ∧ go s' = false ∧ ∃ k, s' = itr step k s ∧ ∀ i, i < k → go (itr step i s) = true
  | 0, s, j, _, h => absurd h (Nat.not_lt_zero _)
  | n + 1, s, j, h0, h => by
    cases e : go s with
    | false =>
      refine ⟨s, j, ?_, h0, e, 0, rfl, fun i hi => absurd hi (Nat.not_lt_zero _)⟩
      show bnd (test (E s j)) _ = _
      rw [ht s j h0, bnd_ret, e]; rfl
    | true =>
      obtain ⟨j1, e1, h1, h2⟩ := hb s j h0 e
      obtain ⟨s', j', e2, h3, h4, k, h5, h6⟩ := whlL_st E go step I μ ht hb n (step s) j1 h1 (by omega)
      refine ⟨s', j', ?_, h3, h4, k + 1, h5, fun i hi => ?_⟩
      · show bnd (test (E s j)) _ = _
        rw [ht s j h0, bnd_ret, e, if_pos rfl, e1, bnd_ret]
        exact e2
      · cases i with
        | zero => exact e
        | succ i => exact h6 i (by omega)
end Fz
/-! FzSa: common parts of the plain calculus (out of k81). -/
namespace Fz
open PySem
theorem idx0 {xs : List D} {d : D} (h : xs.head? = some d) : idxV (.list xs) (.int 0) = some d := by
  cases xs with
  | nil => cases h
  | cons x r => cases h; exact idxV_nat (i := 0) rfl
section
variable {v : Bool} {c : Cl} {en : En} {s : Src}
theorem evE_rng2 {a b : E} {lo hi : Int} {m : Nat} (e : evL v c [a, b] en = bnd (evE v c a en) fun x => bnd (bnd (evE v c b en) fun y => bnd (ret []) fun ys => ret (y :: ys)) fun ys => ret (x :: ys)) (ha : evE v c a en = ret (.int lo)) (hb : evE v c b en = ret (.int hi)) (hm : hi - lo = (m : Int)) (h1 : -1000 ≤ lo ∧ lo ≤ 1000) (hn : m ≤ 1000) :
    evE v c (.rng [a, b]) en = ret (.list ((List.range m).map fun i => .int (lo + (i : Nat)))) := by
  show bnd (evL v c [a, b] en) _ = _
  rw [evL_2 e ha hb, bnd_ret]
  have e1 : rngV [.int lo, .int hi] = some (rngL lo m) := by
    show (if inR lo && inR hi then some (rngL lo (hi - lo).toNat) else none) = _
    have e2 : (inR lo && inR hi) = true := by
      unfold inR
      simp only [Bool.and_eq_true, decide_eq_true_eq]
      omega
    rw [if_pos e2, hm, Int.toNat_natCast]
  rw [e1, Option.bind_some]
  show lift ((sizeOk (rngL lo m)).map PyData.list) = _
  rw [sizeOk_le (by unfold rngL; rw [List.length_map, List.length_range]; omega)]; rfl
theorem wp_mapI {f : D → M (Option D)} {R : Nat → D → Prop} : ∀ (xs : List D) (k : Nat) (s : Src) (Q : List D → Src → Prop), (∀ i x, xs[i]? = some x → ∀ s, Wp (f x) s fun o _ => ∃ y, o = some y ∧ R (k + i) y) → (∀ ys s, ys.length = xs.length → (∀ i y, ys[i]? = some y → R (k + i) y) → Q ys s) → Wp (mapL f xs) s Q
  | [], k, s, Q, _, q => wp_ret (q [] s rfl fun i y h => by cases h)
  | x :: r, k, s, Q, h, q => by
    refine wp_bnd ((h 0 x rfl s).mono fun o s1 ⟨y, e, hy⟩ => ?_)
    subst e
    refine wp_bnd (wp_mapI (R := R) r (k + 1) s1 _ (fun i z hz s => ?_) fun ys s2 hl hr => wp_ret (q (y :: ys) s2 (by simp [hl]) fun i z hz => ?_))
    · have := h (i + 1) z (by simpa using hz) s
      rwa [show k + 1 + i = k + (i + 1) by omega]
    · cases i with
      | zero => cases hz; exact hy
      | succ i =>
        have := hr i z (by simpa using hz)
        rwa [show k + 1 + i = k + (i + 1) by omega] at this
theorem wp_compI {t : Tg} {it elt : E} {d : D} {xs : List D} {R : Nat → D → Prop} {Q : D → Src → Prop} (hi : evE v c it en = ret d) (hx : seqOf d = some xs)
    (h : ∀ i x, xs[i]? = some x → ∀ s, ∃ en2, tgSet t x en = some en2 ∧ Wp (evE v c elt en2) s fun y _ => R i y) (hl : xs.length ≤ 16000000) (k : ∀ ys s, ys.length = xs.length → (∀ i y, ys[i]? = some y → R i y) → Q (.list ys) s) : Wp (evE v c (.comp t it none elt) en) s Q := by
  refine wp_bnd (wp_eq hi (wp_bnd (wp_lift hx (wp_bnd (wp_mapI (R := R) xs 0 s _ (fun i x hx s => ?_) fun ys s hl2 hr => ?_)))))
  · obtain ⟨en2, e, w⟩ := h i x hx s
    exact wp_bnd (wp_lift e (wp_bnd (wp_ret (wp_bnd (w.mono fun y s1 r => wp_ret ⟨y, rfl, by rw [Nat.zero_add]; exact r⟩)))))
  · refine wp_lift ?_ (k ys s hl2 fun i y hy => by have := hr i y hy; rwa [Nat.zero_add] at this)
    rw [sizeOk_le (by omega)]; rfl
theorem erase_perm {α : Type} : ∀ (l : List α) (i : Nat) (a : α), l[i]? = some a → (a :: l.eraseIdx i).Perm l
  | [], _, _, h => by cases h
  | x :: r, 0, a, h => by cases h; exact List.Perm.refl _
  | x :: r, i + 1, a, h => by
    have := erase_perm r i a (by simpa using h)
    show (a :: x :: r.eraseIdx i).Perm (x :: r)
    exact (List.Perm.swap x a _).trans (this.cons x)
theorem erase_map {α β : Type} (g : α → β) : ∀ (l : List α) (i : Nat), (l.map g).eraseIdx i = (l.eraseIdx i).map g
  | [], _ => rfl
  | x :: r, 0 => rfl
  | x :: r, i + 1 => by
    show g x :: (r.map g).eraseIdx i = g x :: (r.eraseIdx i).map g
    rw [erase_map g r i]
theorem ixN_nat {n i : Nat} (h : i < n) : L2.ixN n (i : Int) = some i := by
  unfold L2.ixN
  rw [if_pos (Int.natCast_nonneg i), if_pos (by omega)]; rfl
theorem wp_mixL {α : Type} {g : α → D} : ∀ (n : Nat) (us : List α) (s : Src) (Q : List D → Src → Prop), us.length = n → n ≤ 1000000 → (∀ (rs : List α) (s : Src), rs.Perm us → Q (rs.map g) s) → Wp (mixL v n (us.map g)) s Q
  | 0, us, s, Q, hl, _, q => by
    have e : us = [] := List.length_eq_zero_iff.mp hl
    subst e
    exact wp_ret (q [] s (List.Perm.refl _))
  | n + 1, us, s, Q, hl, hm, q => by
    obtain ⟨h1, h2⟩ := pickS_lt v s ((us.map g).length : Nat) (by rw [List.length_map]; omega)
    rw [List.length_map] at h1 h2
    obtain ⟨k, ek⟩ := Int.eq_ofNat_of_zero_le h1
    have hk : k < us.length := by omega
    have hlt : (((us.map g).length : Nat) : Int) < 1073741824 := by rw [List.length_map]; omega
    have e1 : pickM v ((us.map g).length : Nat) s = some (.int (k : Nat), (pickS v s ((us.map g).length : Nat)).2) := by
      unfold pickM
      rw [if_pos hlt]
      show some (PyData.int (pickS v s ((us.map g).length : Nat)).1, _) = _
      rw [List.length_map, ek]
    have e2 : popAt (us.map g) (some (.int (k : Nat))) = some (g us[k], (us.eraseIdx k).map g) := by
      show (L2.ixN (us.map g).length (k : Int)).bind (fun j => ((us.map g)[j]?).map fun d => (d, (us.map g).eraseIdx j)) = _
      rw [List.length_map, ixN_nat hk, Option.bind_some, List.getElem?_map, List.getElem?_eq_getElem hk]
      show some (g us[k], (us.map g).eraseIdx k) = _
      rw [erase_map]
    refine wp_bnd ⟨_, _, e1, wp_bnd (wp_lift e2 (wp_bnd (wp_mixL n (us.eraseIdx k) _ _ ?_ (by omega) fun rs s2 hp => wp_ret ?_)))⟩
    · rw [List.length_eraseIdx, if_pos hk]; omega
    · exact q (us[k] :: rs) s2 ((hp.cons _).trans (erase_perm us k us[k] (List.getElem?_eq_getElem hk)))
theorem wp_mix {α : Type} {g : α → D} {j i lap : Nat} {us : List α} {Q : Rs → Src → Prop} (hi : en.getD i none = some srcD) (hj : en.getD j none = some (.list (us.map g))) (hm : us.length ≤ 1000000) (q : ∀ (rs : List α) (s : Src), rs.Perm us → Q (.ret (.list (rs.map g))) s) : Wp (exS v c (.mix j i lap) en) s Q := by
  have e2 : lstAt en j = some (us.map g) := by unfold lstAt; rw [hj]
  refine wp_bnd (wp_lift hi (wp_bnd (wp_lift e2 ?_)))
  have e3 : (isSrc srcD && small (us.map g).length) = true := by
    have : small (us.map g).length = true := decide_eq_true (by rw [List.length_map]; omega)
    rw [this]; rfl
  rw [if_pos e3, List.length_map]
  exact wp_bnd (wp_mixL us.length us s _ rfl hm fun rs s2 hp => wp_ret (q rs s2 hp))
end
theorem evE_or_t {v : Bool} {c : Cl} {en : En} {a b : E} (ha : evE v c a en = ret (.bool true)) : evE v c (.or a b) en = ret (.bool true) := by
  show bnd (evE v c a en) _ = _
  rw [ha, bnd_ret]; rfl
theorem evE_not {v : Bool} {c : Cl} {en : En} {a : E} {t : Bool} (ha : evE v c a en = ret (.bool t)) : evE v c (.not a) en = ret (.bool (!t)) := by
  show bnd (evE v c a en) _ = _
  rw [ha, bnd_ret]; rfl
theorem evE_isi {v : Bool} {c : Cl} {en : En} {a : E} {d : D} (t : Ty) (ha : evE v c a en = ret d) : evE v c (.isi a [t]) en = ret (.bool (isTy d t)) := by
  show bnd (evE v c a en) _ = _
  rw [ha, bnd_ret]
  show ret (PyData.bool (isTy d t || false)) = _
  rw [Bool.or_false]
theorem evE_and_t {v : Bool} {c : Cl} {en : En} {a b : E} (ha : evE v c a en = ret (.bool true)) : evE v c (.and a b) en = evE v c b en := by
  show bnd (evE v c a en) _ = _
  rw [ha, bnd_ret]; rfl
theorem eq_nil {xs : List D} (h : okD (.list xs) = true) : cmp2 .eq (.list xs) (.list []) = some xs.isEmpty := by
  show (if okD (.list xs) && okD (.list []) then some (PyData.eqv (.list xs) (.list [])) else none) = _
  rw [h]
  cases xs with
  | nil => rfl
  | cons x r => rfl
theorem eq_nilTup {xs : List D} (h : okD (.tuple xs) = true) : cmp2 .eq (.tuple xs) (.tuple []) = some xs.isEmpty := by
  show (if okD (.tuple xs) && okD (.tuple []) then some (PyData.eqv (.tuple xs) (.tuple [])) else none) = _
  rw [h]
  cases xs with
  | nil => rfl
  | cons x r => rfl
theorem ne_nilTup {xs : List D} (h : okD (.tuple xs) = true) : cmp2 .ne (.tuple xs) (.tuple []) = some !xs.isEmpty := by
  show (if okD (.tuple xs) && okD (.tuple []) then some (!PyData.eqv (.tuple xs) (.tuple [])) else none) = _
  rw [h]
  cases xs with
  | nil => rfl
  | cons x r => rfl
theorem wp_evL {v : Bool} {c : Cl} {en : En} {s : Src} {a : E} {r : List E} {Q : List D → Src → Prop} (e : evL v c (a :: r) en = bnd (evE v c a en) fun x => bnd (evL v c r en) fun ys => ret (x :: ys)) (h : Wp (evE v c a en) s fun x s1 => Wp (evL v c r en) s1 fun ys s2 => Q (x :: ys) s2) : Wp (evL v c (a :: r) en) s Q := by
  rw [e]
  exact wp_bnd (h.mono fun x s1 h1 => wp_bnd (h1.mono fun ys s2 q => wp_ret q))
theorem wp_evN {v : Bool} {c : Cl} {en : En} {s : Src} {Q : List D → Src → Prop} (h : Q [] s) : Wp (evL v c [] en) s Q := wp_ret h
theorem wp_lst {v : Bool} {c : Cl} {en : En} {s : Src} {es : List E} {Q : D → Src → Prop} (h : Wp (evL v c es en) s fun xs s1 => xs.length ≤ 16000000 ∧ Q (.list xs) s1) : Wp (evE v c (.lst es) en) s Q := wp_bnd (h.mono fun xs s1 ⟨hl, q⟩ => wp_lift (by rw [sizeOk_le hl]; rfl) q)
theorem wp_tup {v : Bool} {c : Cl} {en : En} {s : Src} {es : List E} {Q : D → Src → Prop} (h : Wp (evL v c es en) s fun xs s1 => xs.length ≤ 16000000 ∧ Q (.tuple xs) s1) : Wp (evE v c (.tup es) en) s Q := wp_bnd (h.mono fun xs s1 ⟨hl, q⟩ => wp_lift (by rw [sizeOk_le hl]; rfl) q)
theorem cut_mem {xs : List D} {lo hi : Option Int} {x : D} (h : x ∈ cut xs lo hi) : x ∈ xs := List.mem_of_mem_drop (List.mem_of_mem_take h)
theorem cut_len (xs : List D) (lo hi : Option Int) : (cut xs lo hi).length ≤ xs.length := by
  unfold cut
  rw [List.length_take, List.length_drop]; omega
theorem i_ne (a b : Int) : cmp2 .ne (.int a) (.int b) = some (!(a == b)) := rfl
theorem ne_sameL {xs : List D} (h : okD (.list xs) = true) : cmp2 .ne (.list xs) (.list xs) = some false := by
  show (if okD (.list xs) && okD (.list xs) then some (!PyData.eqv (.list xs) (.list xs)) else none) = _
  have lay : PyData.canLay0 (.list xs) = true := by
    unfold okD SeqAt.shaped at h
    exact (Bool.and_eq_true_iff.mp h).1
  rw [h, eqv_refl _ lay]; rfl
end Fz
/-! FzSb: dicts, first faults, sorted threes in the plain calculus. -/
namespace Fz
open PySem
section
variable {v : Bool} {c : Cl} {en : En}
def dpsV : D → Option D
  | .list xs => (pairsOf xs).bind dictOf
  | _ => none
theorem q_mapL0 {f : D → M (Option D)} : mapL f [] = ret [] := rfl
def consO (ys : List D) : Option D → List D
  | some d => d :: ys
  | none => ys
theorem q_mapL1 {f : D → M (Option D)} {x : D} {r : List D} : mapL f (x :: r) = bnd (f x) fun y => bnd (mapL f r) fun ys => ret (consO ys y) := by
  show (bnd (f x) fun y => bnd (mapL f r) fun ys => ret (match y with | some d => d :: ys | none => ys)) = _
  congr 1
theorem q_cons1 {ys : List D} {d : D} : consO ys (some d) = d :: ys := rfl
theorem q_cons0 {ys : List D} : consO ys none = ys := rfl
theorem q_turn {t : Tg} {ifs : Option E} {elt : E} {d : D} : cTurn v c t ifs elt en d = bnd (lift (tgSet t d en)) fun en2 => bnd (evT v c ifs en2) fun ok => if ok then bnd (evE v c elt en2) fun y => ret (some y) else ret none := rfl
theorem q_dps {a : E} : evE v c (.dps a) en = bnd (evE v c a en) fun x => lift (dpsV x) := rfl
theorem q_dpsL {xs : List D} : dpsV (.list xs) = (pairsOf xs).bind dictOf := rfl
theorem q_dzip {a b : E} : evE v c (.dzip a b false) en = bnd (evE v c a en) fun x => bnd (evE v c b en) fun y => lift ((seqOf x).bind fun xs => (seqOf y).bind fun ys => if xs.all isTK then dictT (xs.zip ys) else none) := by
  show (bnd (evE v c a en) fun x => bnd (evE v c b en) fun y => lift ((seqOf x).bind fun xs => (seqOf y).bind fun ys => if (!false || xs.length == ys.length) && xs.all isTK then dictT (xs.zip ys) else none)) = _
  simp only [Bool.not_false, Bool.true_or, Bool.true_and]
theorem q_idxD {kvs : List (D × D)} {k : D} : idxV (.dict kvs) k = atD kvs k := by
  cases k <;> rfl
theorem q_sortT {xs : List D} : biV .sorted [.tuple xs] = (intsOf xs).map fun ns => .list ((sortI ns).map .int) := rfl
theorem q_sortL {xs : List D} : biV .sorted [.list xs] = sortV xs := rfl
theorem q_eqT {xs ys : List D} (h : okD (.tuple xs) = true) (g : okD (.tuple ys) = true) : cmp2 .eq (.tuple xs) (.tuple ys) = some (PyData.eqv (.tuple xs) (.tuple ys)) := by
  show (if okD (.tuple xs) && okD (.tuple ys) then some (PyData.eqv (.tuple xs) (.tuple ys)) else none) = _
  rw [h, g]; rfl
theorem q_isN {d : D} : cmp2 .isN d .none = some (isNonD d) := by cases d <;> rfl
theorem q_notN {d : D} : cmp2 .notN d .none = some (!isNonD d) := by cases d <;> rfl
theorem q_nonN : isNonD .none = true := rfl
theorem q_nonI {i : Int} : isNonD (.int i) = false := rfl
theorem q_nonT {xs : List D} : isNonD (.tuple xs) = false := rfl
theorem q_nonL {xs : List D} : isNonD (.list xs) = false := rfl
theorem q_nonB {b : Bool} : isNonD (.bool b) = false := rfl
theorem q_nonS {s : Str} : isNonD (.str s) = false := rfl
theorem q_neB {a b : Bool} : cmp2 .ne (.bool a) (.bool b) = some (!(a == b)) := rfl
theorem q_eqB {a b : Bool} : cmp2 .eq (.bool a) (.bool b) = some (a == b) := rfl
theorem q_negI {i : Int} {a : E} : evE v c (.neg (.int i)) en = ret (.int (-i)) := rfl
theorem q_absI {i : Int} : biV .abs [.int i] = some (.int (if i < 0 then -i else i)) := rfl
end
section
variable {α : Type} [DecidableEq α] {κ : α → D} {g : α → D} (hs : ∀ a b, sameK (κ a) (κ b) = decide (a = b))
include hs
theorem hasD_map (L : List α) (a : α) : hasD (L.map fun t => (κ t, g t)) (κ a) = decide (a ∈ L) := by
  induction L with
  | nil => rfl
  | cons b r ih =>
    rw [List.map_cons, hasD_cons', ih, hs]
    by_cases e : b = a
    · subst e; simp
    · simp [e, Ne.symm e]
where
  hasD_cons' (p : D × D) (r : List (D × D)) (k : D) : hasD (p :: r) k = (sameK p.1 k || hasD r k) := rfl
theorem atD_map (L : List α) {a : α} (h : a ∈ L) : atD (L.map fun t => (κ t, g t)) (κ a) = some (g a) := by
  induction L with
  | nil => cases h
  | cons b r ih =>
    unfold atD
    rw [List.map_cons, List.find?_cons]
    show Option.map _ (match sameK (κ b) (κ a) with | true => some (κ b, g b) | false => _) = _
    rw [hs]
    by_cases e : b = a
    · subst e; rw [decide_eq_true rfl]; rfl
    · rw [decide_eq_false e]
      exact ih ((List.mem_cons.mp h).resolve_left (Ne.symm e))
theorem fold_nodup : ∀ (L acc : List α), (acc ++ L).Nodup → (L.map fun t => (κ t, g t)).foldl (fun a p => putD a p.1 p.2) (acc.map fun t => (κ t, g t)) = (acc ++ L).map fun t => (κ t, g t)
  | [], acc, _ => by rw [List.append_nil]; rfl
  | b :: r, acc, h => by
    have e : putD (acc.map fun t => (κ t, g t)) (κ b) (g b) = (acc ++ [b]).map fun t => (κ t, g t) := by
      unfold putD
      have nb : b ∉ acc := fun hm => by
        rw [List.nodup_append] at h
        exact h.2.2 b hm b (List.mem_cons_self ..) rfl
      rw [hasD_map hs, decide_eq_false nb, if_neg Bool.false_ne_true, List.map_append]; rfl
    show (r.map fun t => (κ t, g t)).foldl _ (putD (acc.map fun t => (κ t, g t)) (κ b) (g b)) = _
    rw [e, fold_nodup r (acc ++ [b]) (by simpa using h)]
    simp
theorem mergeD_nodup {L : List α} (h : L.Nodup) : mergeD (L.map fun t => (κ t, g t)) = L.map fun t => (κ t, g t) := fold_nodup hs L [] (by simpa using h)
end
theorem dictT_map {α : Type} [DecidableEq α] {κ : α → D} {g : α → D} (hs : ∀ a b, sameK (κ a) (κ b) = decide (a = b)) (hk : ∀ a, isTK (κ a) = true) {L : List α} (h : L.Nodup) (hl : L.length ≤ 16000000) : dictT ((L.map κ).zip (L.map g)) = some (.dict (L.map fun t => (κ t, g t))) := by
  have e : (L.map κ).zip (L.map g) = L.map fun t => (κ t, g t) := by
    rw [List.zip_map']
  rw [e]
  unfold dictT
  have e2 : ((L.map fun t => (κ t, g t)).all fun p => isTK p.1) = true := by
    rw [List.all_map, List.all_eq_true]
    exact fun a _ => hk a
  have e3 : small (L.map fun t => (κ t, g t)).length = true := decide_eq_true (by rw [List.length_map]; exact hl)
  rw [e2, e3, mergeD_nodup hs h]; rfl
/-- tuples of numbers as keys -/
def nd (x : Nat) : D := .int (x : Int)
def tD (t : List Nat) : D := .tuple (t.map nd)
theorem ints_nd : ∀ t : List Nat, intsOf (t.map nd) = some (t.map fun x : Nat => (x : Int))
  | [] => rfl
  | x :: r => by
    show (intsOf (r.map nd)).map _ = _
    rw [ints_nd r]; rfl
theorem cast_inj {s t : List Nat} (h : (s.map fun x : Nat => (x : Int)) = t.map fun x : Nat => (x : Int)) : s = t := by
  induction s generalizing t with
  | nil => cases t with
    | nil => rfl
    | cons _ _ => cases h
  | cons a r ih => cases t with
    | nil => cases h
    | cons b q =>
      rw [List.map_cons, List.map_cons] at h
      obtain ⟨h1, h2⟩ := List.cons.inj h
      rw [ih h2, show a = b by omega]
theorem same_tD (s t : List Nat) : sameK (tD s) (tD t) = decide (s = t) := by
  show (match intsOf (s.map nd), intsOf (t.map nd) with | some x, some y => decide (x = y) | _, _ => false) = _
  rw [ints_nd, ints_nd]
  exact decide_eq_decide.mpr ⟨cast_inj, fun h => by rw [h]⟩
theorem isTK_tD (t : List Nat) : isTK (tD t) = true := by
  show (intsOf (t.map nd)).isSome = true
  rw [ints_nd]; rfl
/-- the first that tells something -/
theorem forL_first {α J : Type} {body : D → En → M Rs} {g : α → D} (E : J → En) (r : α → Option D) : ∀ (ws : List α) (j : J), (∀ w ∈ ws, ∀ j, (∀ d, r w = some d → body (g w) (E j) = ret (.ret d)) ∧ (r w = none → ∃ j', body (g w) (E j) = ret (.next (E j')))) →
    (∀ d, ws.findSome? r = some d → forL body (ws.map g) (E j) = ret (.ret d)) ∧ (ws.findSome? r = none → ∃ j', forL body (ws.map g) (E j) = ret (.next (E j')))
  | [], j, _ => ⟨fun d h => (by cases h), fun _ => ⟨j, rfl⟩⟩
  | w :: ws, j, h => by
    obtain ⟨h1, h2⟩ := h w (List.mem_cons_self ..) j
    rw [List.findSome?_cons]
    cases e : r w with
    | some d =>
      refine ⟨fun d' hd => ?_, fun hd => (by cases hd)⟩
      cases hd
      show bnd (body (g w) (E j)) _ = _
      rw [h1 d e, bnd_ret]
    | none =>
      obtain ⟨j1, e1⟩ := h2 e
      have ih := forL_first E r ws j1 fun w hw => h w (List.mem_cons_of_mem _ hw)
      refine ⟨fun d hd => (forL_next e1).trans (ih.1 d hd), fun hd => ?_⟩
      obtain ⟨j2, e2⟩ := ih.2 hd
      exact ⟨j2, (forL_next e1).trans e2⟩
end Fz
namespace Fz
open PySem
theorem any_nd (p : Nat) : ∀ l : List Nat, (l.any fun x => ((x : Int) == (p : Int))) = l.contains p
  | [] => rfl
  | x :: r => by
    rw [List.any_cons, List.contains_cons, any_nd p r]
    congr 1
    by_cases h : x = p
    · subst h; simp
    · have h1 : ((x : Int) == (p : Int)) = false := by simpa using (fun e => h (by omega))
      have h2 : (p == x) = false := by simpa using (fun e => h e.symm)
      rw [h1, h2]
theorem isin_ndL (p : Nat) (l : List Nat) : cmp2 .isin (nd p) (.list (l.map nd)) = some (l.contains p) := by
  rw [← any_nd]; exact isin_ints _ _ _
theorem okL_nd (l : List Nat) : okD (.list (l.map nd)) = true := okLi l (fun x : Nat => (x : Int))
theorem okT_nd (l : List Nat) : okD (.tuple (l.map nd)) = true := okTi l (fun x : Nat => (x : Int))
theorem memD_nd (p : Nat) (l : List Nat) : memD (nd p) (l.map nd) = l.contains p := by
  have h := isin_ndL p l
  have e1 : (if okD (nd p) && okD (.list (l.map nd)) then some (memD (nd p) (l.map nd)) else none) = some (l.contains p) := h
  rw [okL_nd, show okD (nd p) = true from rfl] at e1
  exact Option.some.inj e1
theorem isin_nd (p : Nat) (l : List Nat) : cmp2 .isin (nd p) (.tuple (l.map nd)) = some (l.contains p) := by
  show (if okD (nd p) && okD (.tuple (l.map nd)) then some (memD (nd p) (l.map nd)) else none) = _
  rw [okT_nd, memD_nd]; rfl
theorem notin_nd (p : Nat) (l : List Nat) : cmp2 .notin (nd p) (.tuple (l.map nd)) = some (!l.contains p) := by
  show (if okD (nd p) && okD (.tuple (l.map nd)) then some (!memD (nd p) (l.map nd)) else none) = _
  rw [okT_nd, memD_nd]; rfl
theorem notin_ndL (p : Nat) (l : List Nat) : cmp2 .notin (nd p) (.list (l.map nd)) = some (!l.contains p) := by
  show (if okD (nd p) && okD (.list (l.map nd)) then some (!memD (nd p) (l.map nd)) else none) = _
  rw [okL_nd, memD_nd]; rfl
theorem ne_nd (a b : Nat) : cmp2 .ne (nd a) (nd b) = some (!decide (a = b)) := by
  show some (!((a : Int) == (b : Int))) = _
  congr 2
  by_cases h : a = b
  · subst h; simp
  · have h1 : ((a : Int) == (b : Int)) = false := by simpa using (fun e => h (by omega))
    rw [h1, decide_eq_false h]
theorem eq_nd (a b : Nat) : cmp2 .eq (nd a) (nd b) = some (decide (a = b)) := by
  show some ((a : Int) == (b : Int)) = _
  congr 1
  by_cases h : a = b
  · subst h; simp
  · have h1 : ((a : Int) == (b : Int)) = false := by simpa using (fun e => h (by omega))
    rw [h1, decide_eq_false h]
/-- sorted numbers -/
def insN (x : Nat) : List Nat → List Nat
  | [] => [x]
  | y :: r => if x < y then x :: y :: r else y :: insN x r
def sortN : List Nat → List Nat
  | [] => []
  | x :: r => insN x (sortN r)
theorem insI_cast (x : Nat) : ∀ l : List Nat, insI (x : Int) (l.map fun x : Nat => (x : Int)) = (insN x l).map fun x : Nat => (x : Int)
  | [] => rfl
  | y :: r => by
    show (if (x : Int) < (y : Int) then _ else _) = _
    unfold insN
    by_cases h : x < y
    · rw [if_pos h, if_pos (by omega)]; rfl
    · rw [if_neg h, if_neg (by omega), insI_cast x r]; rfl
theorem sortI_cast : ∀ l : List Nat, sortI (l.map fun x : Nat => (x : Int)) = (sortN l).map fun x : Nat => (x : Int)
  | [] => rfl
  | x :: r => by
    show insI (x : Int) (sortI (r.map fun x : Nat => (x : Int))) = _
    rw [sortI_cast r, insI_cast]; rfl
theorem map_nd (l : List Nat) : (l.map fun x : Nat => (x : Int)).map PyData.int = l.map nd := by rw [List.map_map]; rfl
theorem sorted_nd (l : List Nat) : biV .sorted [.list (l.map nd)] = some (.list ((sortN l).map nd)) := by
  show sortV (l.map nd) = _
  unfold sortV
  rw [ints_nd]
  show some (PyData.list ((sortI (l.map fun x : Nat => (x : Int))).map .int)) = _
  rw [sortI_cast, map_nd]
theorem sortV_nd (l : List Nat) : sortV (l.map nd) = some (.list ((sortN l).map nd)) := sorted_nd l
theorem sorted_ndT (l : List Nat) : biV .sorted [.tuple (l.map nd)] = some (.list ((sortN l).map nd)) := by
  show (intsOf (l.map nd)).map _ = _
  rw [ints_nd]
  show some (PyData.list ((sortI (l.map fun x : Nat => (x : Int))).map .int)) = _
  rw [sortI_cast, map_nd]
end Fz
namespace Fz
open PySem
/-- a loop that appends -/
theorem forL_app {α J : Type} {body : D → En → M Rs} {g h : α → D} (E : List D → J → En) : ∀ (ws : List α) (acc : List D) (j : J), acc.length + ws.length ≤ 1000000 → (∀ acc j w, w ∈ ws → acc.length < 1000000 → ∃ j', body (g w) (E acc j) = ret (.next (E (acc ++ [h w]) j'))) →
    ∃ j', forL body (ws.map g) (E acc j) = ret (.next (E (acc ++ ws.map h) j'))
  | [], acc, j, _, _ => ⟨j, by rw [List.map_nil, List.map_nil, List.append_nil]; rfl⟩
  | w :: ws, acc, j, hl, k => by
    rw [List.length_cons] at hl
    obtain ⟨j1, e1⟩ := k acc j w (List.mem_cons_self ..) (by omega)
    obtain ⟨j2, e2⟩ := forL_app E ws (acc ++ [h w]) j1 (by rw [List.length_append]; simp only [List.length_cons, List.length_nil]; omega) fun acc j w hw => k acc j w (List.mem_cons_of_mem _ hw)
    refine ⟨j2, (forL_next e1).trans (e2.trans ?_)⟩
    rw [List.append_assoc]; rfl
section
variable {v : Bool} {c : Cl} {en : En} {s : Src}
theorem wp_cmp {o : Cm} {a b : E} {Q : D → Src → Prop} (h : Wp (evE v c a en) s fun x s1 => Wp (evE v c b en) s1 fun y s2 => ∃ t, cmp2 o x y = some t ∧ Q (.bool t) s2) : Wp (evE v c (.cmp o a b) en) s Q :=
  wp_bnd (h.mono fun x s1 h1 => wp_bnd (h1.mono fun y s2 ⟨t, e, q⟩ => wp_lift (by rw [e]; rfl) q))
theorem wp_and {a b : E} {Q : D → Src → Prop} (h : Wp (evE v c a en) s fun x s1 => ∃ t, truth x = some t ∧ (t = true → Wp (evE v c b en) s1 Q) ∧ (t = false → Q x s1)) : Wp (evE v c (.and a b) en) s Q :=
  wp_bnd (h.mono fun x s1 ⟨t, e, h1, h2⟩ => wp_bnd (wp_lift e (by
    cases t with
    | true => exact h1 rfl
    | false => exact wp_ret (h2 rfl))))
theorem wp_par2 {i1 i2 : Nat} {a b : E} {Q : Rs → Src → Prop} (h : Wp (evL v c [a, b] en) s fun ds s1 => ∃ en2, setsV [i1, i2] ds en = some en2 ∧ Q (.next en2) s1) : Wp (exS v c (.par [i1, i2] [a, b]) en) s Q :=
  wp_bnd (h.mono fun ds s1 ⟨en2, e, q⟩ => wp_bnd (wp_lift e (wp_ret q)))
end
theorem ro_nd {x : Nat} (h : x < 2 ^ 20) : RO 22 0 (nd x) := ro_int (n := 20) (i := (x : Int)) (by omega) (by decide)
theorem ro_tD {t : List Nat} (h : ∀ x ∈ t, x < 2 ^ 20) {m : Nat} (hm : t.length ≤ m) : RO (m * 24 + 3) 1 (tD t) := ro_tuple (b := 22) (k := 0) (fun d hd => by
  obtain ⟨x, hx, rfl⟩ := List.mem_map.mp hd
  exact ro_nd (h x hx)) (by rw [List.length_map]; exact hm)
theorem eqv_refl' {b k : Nat} {d : D} (h : RO b k d) : PyData.eqv d d = true := eqv_refl d h.1
end Fz
/-! Sh: Shi's regions in plain terms (k82). -/
namespace Fz.Sh
open PySem Fz
/-! sorting by an order of indices -/
def insB (lt : Nat → Nat → Bool) (x : Nat) : List Nat → List Nat
  | [] => [x]
  | y :: r => if lt x y then x :: y :: r else y :: insB lt x r
def sortB (lt : Nat → Nat → Bool) : List Nat → List Nat
  | [] => []
  | x :: r => insB lt x (sortB lt r)
theorem insB_perm (lt : Nat → Nat → Bool) (x : Nat) : ∀ l, (insB lt x l).Perm (x :: l)
  | [] => List.Perm.refl _
  | y :: r => by
    unfold insB
    split
    · exact List.Perm.refl _
    · exact ((insB_perm lt x r).cons y).trans (List.Perm.swap x y r)
theorem sortB_perm (lt : Nat → Nat → Bool) : ∀ l, (sortB lt l).Perm l
  | [] => List.Perm.refl _
  | x :: r => (insB_perm lt x _).trans ((sortB_perm lt r).cons x)
theorem insB_congr {a b : Nat → Nat → Bool} {x : Nat} : ∀ l : List Nat, (∀ y ∈ l, a x y = b x y) → insB a x l = insB b x l
  | [], _ => rfl
  | y :: r, h => by
    unfold insB
    rw [h y (List.mem_cons_self ..), insB_congr r fun z hz => h z (List.mem_cons_of_mem _ hz)]
theorem sortB_congr {a b : Nat → Nat → Bool} : ∀ l : List Nat, l.Nodup → (∀ x ∈ l, ∀ y ∈ l, x ≠ y → a x y = b x y) → sortB a l = sortB b l
  | [], _, _ => rfl
  | x :: r, hd, h => by
    obtain ⟨h1, h2⟩ := List.nodup_cons.mp hd
    unfold sortB
    rw [sortB_congr r h2 fun y hy z hz => h y (List.mem_cons_of_mem _ hy) z (List.mem_cons_of_mem _ hz)]
    refine insB_congr _ fun y hy => h x (List.mem_cons_self ..) y (List.mem_cons_of_mem _ ((sortB_perm b r).mem_iff.mp hy)) fun e => ?_
    subst e
    exact h1 ((sortB_perm b r).mem_iff.mp hy)
theorem insT_map (k : Nat → Int) (x : Nat) : ∀ l : List Nat, insT [k x, (x : Int)] (l.map fun i : Nat => [k i, (i : Int)]) = (insB (fun i j => lexI [k i, (i : Int)] [k j, (j : Int)]) x l).map fun i : Nat => [k i, (i : Int)]
  | [] => rfl
  | y :: r => by
    show (if lexI [k x, (x : Int)] [k y, (y : Int)] then _ else _) = _
    unfold insB
    split
    · rfl
    · rw [insT_map k x r]; rfl
theorem sortT_map (k : Nat → Int) : ∀ l : List Nat, sortT (l.map fun i : Nat => [k i, (i : Int)]) = (sortB (fun i j => lexI [k i, (i : Int)] [k j, (j : Int)]) l).map fun i : Nat => [k i, (i : Int)]
  | [] => rfl
  | x :: r => by
    show insT _ (sortT (r.map fun i : Nat => [k i, (i : Int)])) = _
    rw [sortT_map k r, insT_map]; rfl
/-- sorted by a relation that is told by numbers -/
theorem insB_sorted {x : Nat → Int} (v : Nat) : ∀ l : List Nat, l.Pairwise (fun i j => x j < x i) → (∀ y ∈ l, x y ≠ x v) → (insB (fun i j => decide (x j < x i)) v l).Pairwise fun i j => x j < x i
  | [], _, _ => List.pairwise_singleton ..
  | y :: r, h, hn => by
    obtain ⟨h1, h2⟩ := List.pairwise_cons.mp h
    unfold insB
    by_cases q : x y < x v
    · rw [if_pos (decide_eq_true q)]
      exact List.pairwise_cons.mpr ⟨fun z hz => by
        rcases List.mem_cons.mp hz with rfl | hz
        · exact q
        · have := h1 z hz; omega, h⟩
    · rw [if_neg (by simpa using q)]
      refine List.pairwise_cons.mpr ⟨fun z hz => ?_, insB_sorted v r h2 fun z hz => hn z (List.mem_cons_of_mem _ hz)⟩
      rcases List.mem_cons.mp ((insB_perm _ v r).mem_iff.mp hz) with rfl | hz
      · have := hn y (List.mem_cons_self ..); omega
      · exact h1 z hz
theorem sortB_sorted {x : Nat → Int} : ∀ l : List Nat, l.Nodup → (∀ i ∈ l, ∀ j ∈ l, i ≠ j → x i ≠ x j) → (sortB (fun i j => decide (x j < x i)) l).Pairwise fun i j => x j < x i
  | [], _, _ => List.Pairwise.nil
  | v :: r, hd, h => by
    obtain ⟨h1, h2⟩ := List.nodup_cons.mp hd
    refine insB_sorted v _ (sortB_sorted r h2 fun i hi j hj => h i (List.mem_cons_of_mem _ hi) j (List.mem_cons_of_mem _ hj)) fun y hy => ?_
    have hy := (sortB_perm _ r).mem_iff.mp hy
    exact h y (List.mem_cons_of_mem _ hy) v (List.mem_cons_self ..) fun e => h1 (e ▸ hy)
/-- a list that is sorted already -/
theorem insT_front {x : List Int} : ∀ {l : List (List Int)}, (∀ y ∈ l, lexI x y = true) → insT x l = x :: l
  | [], _ => rfl
  | y :: r, h => by
    unfold insT
    rw [if_pos (h y (List.mem_cons_self ..))]
theorem sortT_id : ∀ {l : List (List Int)}, l.Pairwise (fun x y => lexI x y = true) → sortT l = l
  | [], _ => rfl
  | x :: r, h => by
    obtain ⟨h1, h2⟩ := List.pairwise_cons.mp h
    unfold sortT
    rw [sortT_id h2]
    exact insT_front h1
theorem filter_lt {α : Type} {p q : α → Bool} : ∀ {l : List α}, (∀ a ∈ l, p a = true → q a = true) → (∃ a ∈ l, p a = false ∧ q a = true) → (l.filter p).length < (l.filter q).length
  | [], _, h => by obtain ⟨a, ha, _⟩ := h; cases ha
  | b :: r, h, e => by
    have le : ∀ l : List α, (∀ a ∈ l, p a = true → q a = true) → (l.filter p).length ≤ (l.filter q).length := fun l => by
      induction l with
      | nil => intro _; exact Nat.le_refl _
      | cons c s ih =>
        intro h
        have ih := ih fun a ha => h a (List.mem_cons_of_mem _ ha)
        have hc := h c (List.mem_cons_self ..)
        cases hp : p c <;> cases hq : q c <;> simp [List.filter_cons, hp, hq] <;> first | omega | (rw [hp, hq] at hc; exact absurd (hc rfl) Bool.false_ne_true)
    have hr := le r fun a ha => h a (List.mem_cons_of_mem _ ha)
    have hb := h b (List.mem_cons_self ..)
    obtain ⟨a, ha, ea⟩ := e
    rcases List.mem_cons.mp ha with rfl | ha
    · simp [List.filter_cons, ea.1, ea.2]; omega
    · have ih := filter_lt (l := r) (fun a ha => h a (List.mem_cons_of_mem _ ha)) ⟨a, ha, ea⟩
      cases hp : p b <;> cases hq : q b <;> simp [List.filter_cons, hp, hq] <;> first | omega | (rw [hp, hq] at hb; exact absurd (hb rfl) Bool.false_ne_true)
/-! a point -/
structure Pt (n : Nat) (x : Nat → Int) (far : Int) : Prop where
  pos : 0 < far
  ne : ∀ i j, i < n → j < n → i ≠ j → x i ≠ x j
  nf : ∀ i j, i < n → j < n → x i - x j ≠ far
def Prs (n : Nat) : List (Nat × Nat) := (List.range n).flatMap fun i => (List.range' (i + 1) (n - (i + 1))).map fun j => (i, j)
theorem mem_prs {n i j : Nat} : (i, j) ∈ Prs n ↔ i < j ∧ j < n := by
  unfold Prs
  simp only [List.mem_flatMap, List.mem_range, List.mem_map, List.mem_range'_1, Prod.mk.injEq]
  constructor
  · rintro ⟨a, ha, b, hb, rfl, rfl⟩; omega
  · intro h; exact ⟨i, by omega, j, by omega, rfl, rfl⟩
def row (n : Nat) (x : Nat → Int) : List Nat := sortB (fun i j => decide (x j < x i)) (List.range n)
def many (n : Nat) (x : Nat → Int) (i : Nat) : Int := (((List.range n).filter fun j => decide (x i < x j)).length : Nat)
section
variable {n : Nat} {x : Nat → Int} {far : Int} (P : Pt n x far)
include P
theorem row_neg : sortT ((List.range n).map fun i : Nat => [0 - x i, (i : Int)]) = (row n x).map fun i : Nat => [0 - x i, (i : Int)] := by
  rw [sortT_map fun i => 0 - x i]
  congr 1
  refine sortB_congr _ List.nodup_range fun i hi j hj hij => ?_
  have := P.ne i j (List.mem_range.mp hi) (List.mem_range.mp hj) hij
  unfold lexI
  rw [if_neg (by omega)]
  exact decide_eq_decide.mpr (by omega)
theorem many_lt {i j : Nat} (hi : i < n) (hj : j < n) : many n x i < many n x j ↔ x j < x i := by
  have key : ∀ {i j : Nat}, i < n → j < n → x j < x i → many n x i < many n x j := fun {i j} hi hj h => by
    unfold many
    have := filter_lt (p := fun k => decide (x i < x k)) (q := fun k => decide (x j < x k)) (l := List.range n) (fun a _ ha => decide_eq_true (by have := of_decide_eq_true ha; omega)) ⟨i, List.mem_range.mpr hi, decide_eq_false (by omega), decide_eq_true h⟩
    omega
  refine ⟨fun h => ?_, key hi hj⟩
  rcases Int.lt_trichotomy (x j) (x i) with q | q | q
  · exact q
  · exfalso
    unfold many at h
    rw [q] at h
    omega
  · have := key hj hi q; omega
theorem row_many : sortT ((List.range n).map fun i : Nat => [many n x i, (i : Int)]) = (row n x).map fun i : Nat => [many n x i, (i : Int)] := by
  rw [sortT_map (many n x)]
  congr 1
  refine sortB_congr _ List.nodup_range fun i hi j hj hij => ?_
  have hi := List.mem_range.mp hi
  have hj := List.mem_range.mp hj
  have h1 := many_lt P hi hj
  have h2 := many_lt P hj hi
  have := P.ne i j hi hj hij
  unfold lexI
  rw [if_neg (by omega)]
  exact decide_eq_decide.mpr h1
theorem row_perm : (row n x).Perm (List.range n) := sortB_perm ..
theorem row_sorted : (row n x).Pairwise fun i j => x j < x i := sortB_sorted _ List.nodup_range fun i hi j hj => P.ne i j (List.mem_range.mp hi) (List.mem_range.mp hj)
theorem row_len : (row n x).length = n := by rw [(row_perm P).length_eq, List.length_range]
theorem row_lt {p : Nat} (hp : p < n) : (row n x).getD p 0 < n := by
  have h : p < (row n x).length := by rw [row_len P]; exact hp
  have e : (row n x).getD p 0 = (row n x)[p] := by simp [h]
  rw [e]
  exact List.mem_range.mp ((row_perm P).mem_iff.mp (List.getElem_mem h))
theorem row_desc {p q : Nat} (hpq : p < q) (hq : q < n) : x ((row n x).getD q 0) < x ((row n x).getD p 0) := by
  have h2 : q < (row n x).length := by rw [row_len P]; exact hq
  have h1 : p < (row n x).length := by omega
  have e1 : (row n x).getD p 0 = (row n x)[p] := by simp [h1]
  have e2 : (row n x).getD q 0 = (row n x)[q] := by simp [h2]
  rw [e1, e2]
  exact List.pairwise_iff_getElem.mp (row_sorted P) p q h1 h2 hpq
/-- where a number stands -/
theorem pl_lt {i : Nat} (hi : i < n) : (row n x).idxOf i < n := by
  have := List.idxOf_lt_length_iff.mpr ((row_perm P).mem_iff.mpr (List.mem_range.mpr hi))
  rwa [row_len P] at this
theorem row_pl {i : Nat} (hi : i < n) : (row n x).getD ((row n x).idxOf i) 0 = i := by
  have h := List.idxOf_lt_length_iff.mpr ((row_perm P).mem_iff.mpr (List.mem_range.mpr hi))
  have e : (row n x).getD ((row n x).idxOf i) 0 = (row n x)[(row n x).idxOf i] := by simp [h]
  rw [e, List.getElem_idxOf h]
theorem pl_desc {i j : Nat} (hi : i < n) (hj : j < n) : (row n x).idxOf j < (row n x).idxOf i ↔ x i < x j := by
  have key : ∀ {i j : Nat}, i < n → j < n → (row n x).idxOf j < (row n x).idxOf i → x i < x j := fun {i j} hi hj h => by
    have := row_desc P h (pl_lt P hi)
    rwa [row_pl P hi, row_pl P hj] at this
  refine ⟨key hi hj, fun h => ?_⟩
  rcases Nat.lt_trichotomy ((row n x).idxOf j) ((row n x).idxOf i) with q | q | q
  · exact q
  · have e1 := row_pl P hi
    have e2 := row_pl P hj
    rw [q, e1] at e2
    subst e2; omega
  · have := key hj hi q; omega
end
/-! arcs -/
def AR (n : Nat) (x : Nat → Int) (far : Int) : List (Nat × Nat) := (Prs n).filter fun a => decide ((row n x).getD a.1 0 < (row n x).getD a.2 0) && decide (x ((row n x).getD a.1 0) - x ((row n x).getD a.2 0) < far)
/-- those that lie within no other one -/
def GR (l : List (Nat × Nat)) : List (Nat × Nat) := l.filter fun a => !l.any fun b => decide (b.1 ≤ a.1) && (decide (a.2 ≤ b.2) && !decide (b = a))
def SG (n : Nat) (x : Nat → Int) (far : Int) : List Int := (Prs n).flatMap fun a => [(x a.1 - x a.2).sign, (x a.1 - x a.2 - far).sign]
def RB (n : Nat) (rw : List Nat) (g : List (Nat × Nat)) : List Int := (Prs n).flatMap fun a => if rw.idxOf a.2 < rw.idxOf a.1 then [-1, -1] else [1, if g.any (fun b => decide (b.1 ≤ rw.idxOf a.1) && decide (rw.idxOf a.2 ≤ b.2)) then -1 else 1]
/-- above each there is a greatest one -/
theorem above {l : List (Nat × Nat)} {m : Nat} (hm : ∀ a ∈ l, a.1 < a.2 ∧ a.2 < m) : ∀ (k : Nat) (a : Nat × Nat), a ∈ l → m + a.1 - a.2 ≤ k → ∃ b ∈ GR l, b.1 ≤ a.1 ∧ a.2 ≤ b.2
  | 0, a, ha, hk => by have := hm a ha; omega
  | k + 1, a, ha, hk => by
    by_cases q : (l.any fun b => decide (b.1 ≤ a.1) && (decide (a.2 ≤ b.2) && !decide (b = a))) = true
    · obtain ⟨b, hb, e⟩ := List.any_eq_true.mp q
      simp only [Bool.and_eq_true, decide_eq_true_eq, Bool.not_eq_true', decide_eq_false_iff_not] at e
      obtain ⟨e1, e2, e3⟩ := e
      have hb2 := hm b hb
      have ha2 := hm a ha
      have ne : b.1 ≠ a.1 ∨ b.2 ≠ a.2 := by
        by_cases z : b.1 = a.1
        · exact .inr fun w => e3 (Prod.ext z w)
        · exact .inl z
      obtain ⟨c, hc, f1, f2⟩ := above hm k b hb (by omega)
      exact ⟨c, hc, by omega, by omega⟩
    · exact ⟨a, List.mem_filter.mpr ⟨ha, by rw [Bool.not_eq_true _ |>.mp q]; rfl⟩, Nat.le_refl _, Nat.le_refl _⟩
section
variable {n : Nat} {x : Nat → Int} {far : Int} (P : Pt n x far)
include P
theorem near {i j : Nat} (hij : i < j) (hj : j < n) (h : x j < x i) : (GR (AR n x far)).any (fun b => decide (b.1 ≤ (row n x).idxOf i) && decide ((row n x).idxOf j ≤ b.2)) = decide (x i - x j < far) := by
  have hi : i < n := by omega
  have pij := (pl_desc P hj hi).mpr h
  rw [Bool.eq_iff_iff, decide_eq_true_iff, List.any_eq_true]
  constructor
  · rintro ⟨b, hb, e⟩
    simp only [Bool.and_eq_true, decide_eq_true_eq] at e
    obtain ⟨hb1, hb2⟩ := List.mem_filter.mp (List.mem_filter.mp hb).1
    obtain ⟨h1, h2⟩ := mem_prs.mp (show (b.1, b.2) ∈ Prs n from hb1)
    simp only [Bool.and_eq_true, decide_eq_true_eq] at hb2
    have mono : ∀ p q, p ≤ q → q < n → x ((row n x).getD q 0) ≤ x ((row n x).getD p 0) := fun p q hpq hq => by
      rcases Nat.lt_or_eq_of_le hpq with z | z
      · exact Int.le_of_lt (row_desc P z hq)
      · subst z; exact Int.le_refl _
    have k1 := mono _ _ e.1 (pl_lt P hi)
    have k2 := mono _ _ e.2 h2
    rw [row_pl P hi] at k1
    rw [row_pl P hj] at k2
    omega
  · intro hf
    have ha : ((row n x).idxOf i, (row n x).idxOf j) ∈ AR n x far := by
      refine List.mem_filter.mpr ⟨mem_prs.mpr ⟨pij, pl_lt P hj⟩, ?_⟩
      simp only [row_pl P hi, row_pl P hj, Bool.and_eq_true, decide_eq_true_eq]
      exact ⟨hij, hf⟩
    obtain ⟨b, hb, f1, f2⟩ := above (m := n) (fun a ha => mem_prs.mp (show (a.1, a.2) ∈ Prs n from (List.mem_filter.mp ha).1)) _ _ ha (Nat.le_refl _)
    exact ⟨b, hb, by simp only [Bool.and_eq_true, decide_eq_true_eq]; exact ⟨f1, f2⟩⟩
/-- list and great arcs tell the signs -/
theorem rb_sg : RB n (row n x) (GR (AR n x far)) = SG n x far := by
  unfold RB SG
  have : ∀ a ∈ Prs n, (if (row n x).idxOf a.2 < (row n x).idxOf a.1 then [-1, -1] else [1, if (GR (AR n x far)).any (fun b => decide (b.1 ≤ (row n x).idxOf a.1) && decide ((row n x).idxOf a.2 ≤ b.2)) then -1 else 1]) = [(x a.1 - x a.2).sign, (x a.1 - x a.2 - far).sign] := fun a ha => by
    obtain ⟨h1, h2⟩ := mem_prs.mp (show (a.1, a.2) ∈ Prs n from ha)
    have hp := P.pos
    have ne := P.ne a.1 a.2 (by omega) h2 (by omega)
    have nf := P.nf a.1 a.2 (by omega) h2
    by_cases q : (row n x).idxOf a.2 < (row n x).idxOf a.1
    · rw [if_pos q]
      have := (pl_desc P (show a.1 < n by omega) h2).mp q
      rw [Int.sign_eq_neg_one_of_neg (by omega), Int.sign_eq_neg_one_of_neg (by omega)]
    · rw [if_neg q]
      have g : x a.2 < x a.1 := by
        have : ¬ x a.1 < x a.2 := fun z => q ((pl_desc P (show a.1 < n by omega) h2).mpr z)
        omega
      rw [near P h1 h2 g, Int.sign_eq_one_of_pos (show 0 < x a.1 - x a.2 by omega)]
      by_cases z : x a.1 - x a.2 < far
      · rw [if_pos (decide_eq_true z), Int.sign_eq_neg_one_of_neg (by omega)]
      · rw [if_neg (by simpa using z), Int.sign_eq_one_of_pos (by omega)]
  rw [List.flatMap_def, List.flatMap_def, List.map_congr_left this]
end
end Fz.Sh
namespace Fz.Sh
open PySem Fz
/-- two sorted lists of the same things are one -/
theorem sorted_unique {α : Type} {R : α → α → Prop} (as : ∀ a b, R a b → R b a → False) : ∀ {l m : List α}, l.Perm m → l.Pairwise R → m.Pairwise R → l = m
  | [], m, h, _, _ => h.nil_eq
  | a :: r, [], h, _, _ => h.eq_nil
  | a :: r, b :: q, h, h1, h2 => by
    obtain ⟨a1, a2⟩ := List.pairwise_cons.mp h1
    obtain ⟨b1, b2⟩ := List.pairwise_cons.mp h2
    have e : a = b := by
      rcases List.mem_cons.mp (h.mem_iff.mp (List.mem_cons_self ..)) with e | e
      · exact e
      · rcases List.mem_cons.mp (h.mem_iff.mpr (List.mem_cons_self ..)) with z | z
        · exact z.symm
        · exact (as a b (a1 b z) (b1 a e)).elim
    subst e
    rw [sorted_unique as (h.cons_inv) a2 b2]
def ltP (a b : Nat × Nat) : Bool := if a.1 = b.1 then decide (a.2 < b.2) else decide (a.1 < b.1)
theorem lex_ltP (a b : Nat × Nat) : lexI [(a.1 : Int), (a.2 : Int)] [(b.1 : Int), (b.2 : Int)] = ltP a b := by
  unfold ltP lexI
  by_cases h : a.1 = b.1
  · rw [if_pos (by omega), if_pos h]
    unfold lexI
    by_cases z : a.2 = b.2
    · rw [if_pos (by omega)]; unfold lexI; exact (decide_eq_false (by omega)).symm
    · rw [if_neg (by omega)]; exact decide_eq_decide.mpr (by omega)
  · rw [if_neg (by omega), if_neg h]; exact decide_eq_decide.mpr (by omega)
theorem ltP_tri {a b : Nat × Nat} (h : a ≠ b) (hn : ltP a b = false) : ltP b a = true := by
  unfold ltP at hn ⊢
  by_cases e : a.1 = b.1
  · rw [if_pos e] at hn
    have : a.2 ≠ b.2 := fun z => h (Prod.ext e z)
    have := of_decide_eq_false hn
    rw [if_pos e.symm]; exact decide_eq_true (by omega)
  · rw [if_neg e] at hn
    have := of_decide_eq_false hn
    rw [if_neg (fun z => e z.symm)]; exact decide_eq_true (by omega)
theorem ltP_trans {a b c : Nat × Nat} (h : ltP a b = true) (g : ltP b c = true) : ltP a c = true := by
  unfold ltP at *
  split at h <;> split at g <;> split <;> simp only [decide_eq_true_eq] at * <;> omega
theorem ltP_asym (a b : Nat × Nat) (h : ltP a b = true) (g : ltP b a = true) : False := by
  have := ltP_trans h g
  unfold ltP at this
  rw [if_pos rfl] at this
  have := of_decide_eq_true this
  omega
abbrev toL (a : Nat × Nat) : List Int := [(a.1 : Int), (a.2 : Int)]
def insP (x : Nat × Nat) : List (Nat × Nat) → List (Nat × Nat)
  | [] => [x]
  | y :: r => if ltP x y then x :: y :: r else y :: insP x r
def sortP : List (Nat × Nat) → List (Nat × Nat)
  | [] => []
  | x :: r => insP x (sortP r)
theorem insT_pair (x : Nat × Nat) : ∀ l : List (Nat × Nat), insT (toL x) (l.map toL) = (insP x l).map toL
  | [] => rfl
  | y :: r => by
    show (if lexI (toL x) (toL y) then _ else _) = _
    unfold insP
    rw [lex_ltP]
    cases ltP x y with
    | true => rfl
    | false => rw [if_neg Bool.false_ne_true, if_neg Bool.false_ne_true, insT_pair x r]; rfl
theorem sortT_pair : ∀ l : List (Nat × Nat), sortT (l.map toL) = (sortP l).map toL
  | [] => rfl
  | x :: r => by
    show insT (toL x) (sortT (r.map toL)) = _
    rw [sortT_pair r, insT_pair]; rfl
theorem insP_perm (x : Nat × Nat) : ∀ l, (insP x l).Perm (x :: l)
  | [] => List.Perm.refl _
  | y :: r => by
    unfold insP
    split
    · exact List.Perm.refl _
    · exact ((insP_perm x r).cons y).trans (List.Perm.swap x y r)
theorem sortP_perm : ∀ l, (sortP l).Perm l
  | [] => List.Perm.refl _
  | x :: r => (insP_perm x _).trans ((sortP_perm r).cons x)
theorem insP_sorted (x : Nat × Nat) : ∀ l : List (Nat × Nat), l.Pairwise (fun a b => ltP a b = true) → x ∉ l → (insP x l).Pairwise fun a b => ltP a b = true
  | [], _, _ => List.pairwise_singleton ..
  | y :: r, h, hn => by
    obtain ⟨h1, h2⟩ := List.pairwise_cons.mp h
    unfold insP
    cases q : ltP x y with
    | true =>
      rw [if_pos rfl]
      exact List.pairwise_cons.mpr ⟨fun z hz => by
        rcases List.mem_cons.mp hz with rfl | hz
        · exact q
        · exact ltP_trans q (h1 z hz), h⟩
    | false =>
      rw [if_neg Bool.false_ne_true]
      refine List.pairwise_cons.mpr ⟨fun z hz => ?_, insP_sorted x r h2 fun m => hn (List.mem_cons_of_mem _ m)⟩
      rcases List.mem_cons.mp ((insP_perm x r).mem_iff.mp hz) with rfl | hz
      · exact ltP_tri (fun e => hn (e ▸ List.mem_cons_self ..)) q
      · exact h1 z hz
theorem sortP_sorted : ∀ l : List (Nat × Nat), l.Nodup → (sortP l).Pairwise fun a b => ltP a b = true
  | [], _ => List.Pairwise.nil
  | x :: r, hd => by
    obtain ⟨h1, h2⟩ := List.nodup_cons.mp hd
    exact insP_sorted x _ (sortP_sorted r h2) fun m => h1 ((sortP_perm r).mem_iff.mp m)
/-- a lot of pairs in their sequence -/
theorem sortP_filter {n : Nat} (hs : (Prs n).Pairwise fun a b => ltP a b = true) (hn : (Prs n).Nodup) {l : List (Nat × Nat)} (hd : l.Nodup) (hl : ∀ a ∈ l, a ∈ Prs n) : sortP l = (Prs n).filter fun a => l.contains a := by
  refine sorted_unique ltP_asym ?_ (sortP_sorted l hd) (hs.sublist List.filter_sublist)
  refine (sortP_perm l).trans ?_
  refine (List.perm_ext_iff_of_nodup hd (hn.sublist List.filter_sublist)).mpr fun a => ?_
  rw [List.mem_filter, List.contains_iff_mem]
  exact ⟨fun h => ⟨hl a h, h⟩, fun h => h.2⟩
/-! arcs of which none lies within another one -/
def AC (g : List (Nat × Nat)) : Prop := ∀ a ∈ g, ∀ b ∈ g, b.1 ≤ a.1 → a.2 ≤ b.2 → b = a
def cov (g : List (Nat × Nat)) (p q : Nat) : Bool := g.any fun b => decide (b.1 ≤ p) && decide (q ≤ b.2)
/-- places that tell the arcs -/
structure Tell (n : Nat) (g : List (Nat × Nat)) (far : Int) (y : Nat → Int) : Prop where
  pos : 0 < far
  desc : ∀ p q, p < q → q < n → y q < y p
  near : ∀ p q, p < q → q < n → (y p - y q < far ↔ cov g p q = true)
  nf : ∀ p q, p < q → q < n → y p - y q ≠ far
section
variable {n : Nat} {g : List (Nat × Nat)} {far : Int} {y : Nat → Int} (T : Tell n g far y) {rw_ : List Nat} (hr : rw_.Perm (List.range n))
def back (rw_ : List Nat) (y : Nat → Int) : Nat → Int := fun i => y (rw_.idxOf i)
include hr
theorem at_back {p : Nat} (hp : p < n) : rw_.getD p 0 < n ∧ rw_.idxOf (rw_.getD p 0) = p := by
  have hl : p < rw_.length := by rw [hr.length_eq, List.length_range]; exact hp
  have e : rw_.getD p 0 = rw_[p] := by simp [hl]
  rw [e]
  exact ⟨List.mem_range.mp (hr.mem_iff.mp (List.getElem_mem hl)), List.Nodup.idxOf_getElem (hr.nodup_iff.mpr List.nodup_range) p hl⟩
theorem idx_lt {i : Nat} (hi : i < n) : rw_.idxOf i < n ∧ rw_.getD (rw_.idxOf i) 0 = i := by
  have h := List.idxOf_lt_length_iff.mpr (hr.mem_iff.mpr (List.mem_range.mpr hi))
  have e : rw_.getD (rw_.idxOf i) 0 = rw_[rw_.idxOf i] := by simp [h]
  refine ⟨by rw [hr.length_eq, List.length_range] at h; exact h, by rw [e, List.getElem_idxOf h]⟩
include T
theorem pt_back : Pt n (back rw_ y) far := by
  have inj : ∀ i j, i < n → j < n → i ≠ j → rw_.idxOf i ≠ rw_.idxOf j := fun i j hi hj h e => h (by
    rw [← (idx_lt hr hi).2, e, (idx_lt hr hj).2])
  refine ⟨T.pos, fun i j hi hj hij => ?_, fun i j hi hj => ?_⟩
  · unfold back
    rcases Nat.lt_trichotomy (rw_.idxOf i) (rw_.idxOf j) with h | h | h
    · have := T.desc _ _ h (idx_lt hr hj).1; omega
    · exact absurd h (inj i j hi hj hij)
    · have := T.desc _ _ h (idx_lt hr hi).1; omega
  · unfold back
    have hp := T.pos
    rcases Nat.lt_trichotomy (rw_.idxOf i) (rw_.idxOf j) with h | h | h
    · exact T.nf _ _ h (idx_lt hr hj).1
    · rw [h]; omega
    · have := T.desc _ _ h (idx_lt hr hi).1; omega
theorem row_back : row n (back rw_ y) = rw_ := by
  have P := pt_back T hr
  refine sorted_unique (R := fun i j => back rw_ y j < back rw_ y i) (fun a b h g => by omega) ((row_perm P).trans hr.symm) (row_sorted P) ?_
  refine List.pairwise_iff_getElem.mpr fun i j hi hj hij => ?_
  have hl : rw_.length = n := by rw [hr.length_eq, List.length_range]
  have nd := hr.nodup_iff.mpr List.nodup_range
  unfold back
  rw [List.Nodup.idxOf_getElem nd i hi, List.Nodup.idxOf_getElem nd j hj]
  exact T.desc i j hij (by omega)
theorem arcs_back (hg : g = (Prs n).filter fun a => g.contains a) (ac : AC g) (hv : ∀ a ∈ g, rw_.getD a.1 0 < rw_.getD a.2 0) : GR (AR n (back rw_ y) far) = g := by
  have e1 : AR n (back rw_ y) far = (Prs n).filter fun a => decide (rw_.getD a.1 0 < rw_.getD a.2 0) && cov g a.1 a.2 := by
    unfold AR
    rw [row_back T hr]
    refine List.filter_congr fun a ha => ?_
    obtain ⟨h1, h2⟩ := mem_prs.mp (show (a.1, a.2) ∈ Prs n from ha)
    congr 1
    unfold back
    rw [(at_back hr (show a.1 < n by omega)).2, (at_back hr h2).2]
    have := T.near a.1 a.2 h1 h2
    rw [Bool.eq_iff_iff, decide_eq_true_iff]
    exact this
  have mem : ∀ a, a ∈ AR n (back rw_ y) far ↔ a ∈ Prs n ∧ rw_.getD a.1 0 < rw_.getD a.2 0 ∧ cov g a.1 a.2 = true := fun a => by
    rw [e1, List.mem_filter, Bool.and_eq_true, decide_eq_true_eq]
  have inP : ∀ a ∈ g, a ∈ Prs n := fun a ha => by rw [hg] at ha; exact (List.mem_filter.mp ha).1
  have inA : ∀ a ∈ g, a ∈ AR n (back rw_ y) far := fun a ha => (mem a).mpr ⟨inP a ha, hv a ha, List.any_eq_true.mpr ⟨a, ha, by simp⟩⟩
  have key : ∀ a ∈ Prs n, ((decide (rw_.getD a.1 0 < rw_.getD a.2 0) && cov g a.1 a.2) && !(AR n (back rw_ y) far).any fun b => decide (b.1 ≤ a.1) && (decide (a.2 ≤ b.2) && !decide (b = a))) = g.contains a := fun a ha => by
    rw [Bool.eq_iff_iff, List.contains_iff_mem, Bool.and_eq_true, Bool.not_eq_true', List.any_eq_false]
    constructor
    · rintro ⟨h1, h2⟩
      rw [Bool.and_eq_true, decide_eq_true_eq] at h1
      obtain ⟨b, hb, e⟩ := List.any_eq_true.mp h1.2
      simp only [Bool.and_eq_true, decide_eq_true_eq] at e
      have := h2 b (inA b hb)
      simp only [Bool.and_eq_true, decide_eq_true_eq, Bool.not_eq_true', decide_eq_false_iff_not, not_and, Decidable.not_not] at this
      have := this e.1 e.2
      subst this; exact hb
    · intro h
      refine ⟨?_, fun b hb => ?_⟩
      · rw [Bool.and_eq_true, decide_eq_true_eq]
        exact ⟨hv a h, List.any_eq_true.mpr ⟨a, h, by simp⟩⟩
      · simp only [Bool.and_eq_true, decide_eq_true_eq, Bool.not_eq_true', decide_eq_false_iff_not, not_and, Decidable.not_not]
        intro b1 b2
        obtain ⟨c, hc, e⟩ := List.any_eq_true.mp ((mem b).mp hb).2.2
        simp only [Bool.and_eq_true, decide_eq_true_eq] at e
        have := ac a h c hc (by omega) (by omega)
        subst this
        exact Prod.ext (by omega) (by omega)
  unfold GR
  rw [e1, List.filter_filter]
  have e1' := e1
  rw [hg]
  refine List.filter_congr fun a ha => ?_
  rw [← hg, ← e1', Bool.and_comm]
  exact key a ha
end
end Fz.Sh
namespace Fz.K82
open PySem PySem.Spec PyProof.Rows L2 Fz
/-! the program as terms -/
/-- 0: pairs_below(n) : n found i j -/
def b0 : List S := [.new 1 (.lst []), .for_ (.name 2) (.rng [.var 0]) [.ext 1 (.comp (.name 3) (.rng [.op .add (.var 2) (.int 1), .var 0]) none (.tup [.var 2, .var 3]))], .ret (.var 1)]
/-- 1: shi_planes(n) : n rows i j row k -/
def b1 : List S := [.new 1 (.lst []), .for_ (.tup [.name 2, .name 3]) (.call 0 [.var 0]) [.asg (.name 4) (.comp (.name 5) (.rng [.var 0]) none (.op .sub (.bi .int [.cmp .eq (.var 5) (.var 2)]) (.bi .int [.cmp .eq (.var 5) (.var 3)]))), .ext 1 (.lst [.tup [.star (.var 4), .int 0], .tup [.star (.var 4), .int 1]])], .ret (.tup [.var 0, .bi .tuple [.var 1]])]
/-- 2: shi_signs(x) : x found i j above p q r s -/
def b2 : List S := [.new 1 (.lst []), .for_ (.tup [.name 2, .name 3]) (.call 0 [.bi .len [.var 0]]) [.asg (.tup [.tup [.name 5, .name 6], .tup [.name 7, .name 8]]) (.tup [.idx (.var 0) (.var 2), .idx (.var 0) (.var 3)]), .asg (.name 4) (.op .sub (.op .mul (.var 5) (.var 8)) (.op .mul (.var 7) (.var 6))), .ext 1 (.lst [.op .sub (.bi .int [.cmp .gt (.var 4) (.int 0)]) (.bi .int [.cmp .lt (.var 4) (.int 0)]), .op .sub (.bi .int [.cmp .gt (.var 4) (.op .mul (.var 6) (.var 8))]) (.bi .int [.cmp .lt (.var 4) (.op .mul (.var 6) (.var 8))])])], .ret (.bi .tuple [.var 1])]
/-- 3: signs_by_pair(n, signs) : n signs k pair -/
def b3 : List S := [.ret (.dps (.comp (.tup [.name 2, .name 3]) (.enum (.call 0 [.var 0])) none (.tup [.var 3, .slc (.var 1) (some (.op .mul (.int 2) (.var 2))) (some (.op .add (.op .mul (.int 2) (.var 2)) (.int 2)))])))]
/-- 4: region_list(n, signs) : n signs known found i ahead j many -/
def b4 : List S := [.parN [2, 3] [false, true] [.call 3 [.var 0, .var 1], .lst []], .for_ (.name 4) (.rng [.var 0]) [.asg (.name 5) (.comp (.name 6) (.rng [.var 0]) (some (.or (.and (.cmp .lt (.var 6) (.var 4)) (.cmp .eq (.idx (.idx (.var 2) (.tup [.var 6, .var 4])) (.int 0)) (.int 1))) (.and (.cmp .gt (.var 6) (.var 4)) (.cmp .eq (.idx (.idx (.var 2) (.tup [.var 4, .var 6])) (.int 0)) (.neg (.int 1)))))) (.var 6)), .app 3 (.tup [.bi .len [.var 5], .var 4])], .ret (.bi .tuple [.comp (.tup [.name 7, .name 4]) (.bi .sorted [.var 3]) none (.var 4)])]
/-- 5: without_inner(arcs) : arcs found p q r s -/
def b5 : List S := [.new 1 (.lst []), .for_ (.tup [.name 2, .name 3]) (.var 0) [.ite (.not (.bi .any [.comp (.tup [.name 4, .name 5]) (.var 0) none (.and (.cmp .le (.var 4) (.var 2)) (.and (.cmp .le (.var 3) (.var 5)) (.cmp .ne (.tup [.var 4, .var 5]) (.tup [.var 2, .var 3]))))])) [.app 1 (.tup [.var 2, .var 3])] []], .ret (.bi .tuple [.bi .sorted [.var 1]])]
/-- 6: great_arcs(n, signs) : n signs known row some p q -/
def b6 : List S := [.asg (.tup [.name 2, .name 3]) (.tup [.call 3 [.var 0, .var 1], .call 4 [.var 0, .var 1]]), .asg (.name 4) (.comp (.tup [.name 5, .name 6]) (.call 0 [.var 0]) (some (.and (.cmp .lt (.idx (.var 3) (.var 5)) (.idx (.var 3) (.var 6))) (.cmp .eq (.idx (.idx (.var 2) (.tup [.idx (.var 3) (.var 5), .idx (.var 3) (.var 6)])) (.int 1)) (.neg (.int 1))))) (.tup [.var 5, .var 6])), .ret (.call 5 [.var 4])]
/-- 7: region_by(row, arcs) : row arcs place found p i j is_near q -/
def b7 : List S := [.parN [2, 3] [false, true] [.dps (.comp (.tup [.name 4, .name 5]) (.enum (.var 0)) none (.tup [.var 5, .var 4])), .lst []], .for_ (.tup [.name 5, .name 6]) (.call 0 [.bi .len [.var 0]]) [.ite (.cmp .gt (.idx (.var 2) (.var 5)) (.idx (.var 2) (.var 6))) [.ext 3 (.lst [.neg (.int 1), .neg (.int 1)])] [.asg (.name 7) (.bi .any [.comp (.tup [.name 4, .name 8]) (.var 1) none (.and (.cmp .le (.var 4) (.idx (.var 2) (.var 5))) (.cmp .le (.idx (.var 2) (.var 6)) (.var 8)))]), .ext 3 (.lst [.int 1, .ite (.var 7) (.neg (.int 1)) (.int 1)])]], .ret (.bi .tuple [.var 3])]
/-- 8: _law_any_order(source, things) : source things others lap -/
def b8 : List S := [.new 2 (.bi .list [.var 1]), .mix 2 0 3]
/-- 9: _law_power(number, n) : number n found lap -/
def b9 : List S := [.asg (.name 2) (.int 1), .for_ (.name 3) (.rng [.var 1]) [.asg (.name 2) (.op .mul (.var 2) (.var 0))], .ret (.var 2)]
/-- 10: _law_pairs(n) : n found i j -/
def b10 : List S := [.asg (.name 1) (.lst []), .for_ (.name 2) (.rng [.var 0]) [.asg (.name 1) (.op .add (.var 1) (.comp (.name 3) (.rng [.op .add (.var 2) (.int 1), .var 0]) none (.tup [.var 2, .var 3])))], .ret (.var 1)]
/-- 11: _law_signs(x) : x numbers far found i j apart -/
def b11 : List S := [.asg (.tup [.name 1, .name 2]) (.var 0), .asg (.name 3) (.lst []), .for_ (.tup [.name 4, .name 5]) (.call 10 [.bi .len [.var 1]]) [.asg (.name 6) (.op .sub (.idx (.var 1) (.var 4)) (.idx (.var 1) (.var 5))), .asg (.name 3) (.op .add (.var 3) (.lst [.op .sub (.bi .int [.cmp .gt (.var 6) (.int 0)]) (.bi .int [.cmp .lt (.var 6) (.int 0)]), .op .sub (.bi .int [.cmp .gt (.var 6) (.var 2)]) (.bi .int [.cmp .lt (.var 6) (.var 2)])]))], .ret (.bi .tuple [.var 3])]
/-- 12: _law_point(source, n) : source n far numbers i number late -/
def b12 : List S := [.asg (.name 2) (.op .add (.int 5) (.pick (.var 0) (.int 40))), .new 3 (.lst []), .for_ (.name 4) (.rng [.var 1]) [.asg (.name 5) (.pick (.var 0) (.op .mul (.int 3) (.var 2))), .whl (.cmp .ne (.comp (.name 6) (.var 3) (some (.cmp .isin (.op .sub (.var 5) (.var 6)) (.tup [.int 0, .var 2, .op .sub (.int 0) (.var 2)]))) (.var 6)) (.lst [])) [.asg (.name 5) (.op .add (.var 5) (.int 1))], .app 3 (.var 5)], .ret (.tup [.var 3, .var 2])]
/-- 13: _law_great(numbers, far) : numbers far row number i arcs p q great late -/
def b13 : List S := [.asg (.name 2) (.comp (.tup [.name 3, .name 4]) (.bi .sorted [.comp (.tup [.name 4, .name 3]) (.enum (.var 0)) none (.tup [.op .sub (.int 0) (.var 3), .var 4])]) none (.var 4)), .new 5 (.lst []), .for_ (.tup [.name 6, .name 7]) (.call 10 [.bi .len [.var 2]]) [.ite (.and (.cmp .lt (.idx (.var 2) (.var 6)) (.idx (.var 2) (.var 7))) (.cmp .lt (.op .sub (.idx (.var 0) (.idx (.var 2) (.var 6))) (.idx (.var 0) (.idx (.var 2) (.var 7)))) (.var 1))) [.app 5 (.tup [.var 6, .var 7])] []], .new 8 (.lst []), .for_ (.tup [.name 6, .name 7]) (.var 5) [.ite (.cmp .eq (.comp (.name 9) (.var 5) (some (.and (.cmp .ne (.var 9) (.tup [.var 6, .var 7])) (.and (.cmp .le (.idx (.var 9) (.int 0)) (.var 6)) (.cmp .le (.var 7) (.idx (.var 9) (.int 1)))))) (.var 9)) (.lst [])) [.app 8 (.tup [.var 6, .var 7])] []], .ret (.tup [.bi .tuple [.var 2], .bi .tuple [.bi .sorted [.var 8]]])]
/-- 14: _law_arcs(source, row) : source row some p q wrong late -/
def b14 : List S := [.new 2 (.lst []), .for_ (.tup [.name 3, .name 4]) (.call 8 [.var 0, .comp (.tup [.name 3, .name 4]) (.call 10 [.bi .len [.var 1]]) (some (.cmp .lt (.idx (.var 1) (.var 3)) (.idx (.var 1) (.var 4)))) (.tup [.var 3, .var 4])]) [.asg (.name 5) (.comp (.name 6) (.var 2) (some (.or (.and (.cmp .le (.idx (.var 6) (.int 0)) (.var 3)) (.cmp .le (.var 4) (.idx (.var 6) (.int 1)))) (.and (.cmp .le (.var 3) (.idx (.var 6) (.int 0))) (.cmp .le (.idx (.var 6) (.int 1)) (.var 4))))) (.var 6)), .ite (.and (.cmp .eq (.var 5) (.lst [])) (.cmp .gt (.pick (.var 0) (.int 3)) (.int 0))) [.app 2 (.tup [.var 3, .var 4])] []], .ret (.bi .tuple [.bi .sorted [.var 2]])]
/-- 15: _law_put(row, arcs) : row arcs far places q p top over under near arc numbers i -/
def b15 : List S := [.asg (.name 2) (.call 9 [.int 4, .op .add (.bi .len [.var 0]) (.int 2)]), .new 3 (.lst []), .for_ (.name 4) (.rng [.bi .len [.var 0]]) [.par [7, 8] [.lst [], .lst []], .for_ (.name 5) (.rng [.var 4]) [.asg (.name 9) (.cmp .ne (.comp (.name 10) (.var 1) (some (.and (.cmp .le (.idx (.var 10) (.int 0)) (.var 5)) (.cmp .le (.var 4) (.idx (.var 10) (.int 1))))) (.var 10)) (.lst [])), .asg (.name 7) (.op .add (.var 7) (.op .mul (.lst [.op .sub (.idx (.var 3) (.var 5)) (.var 2)]) (.bi .int [.var 9]))), .asg (.name 8) (.op .add (.var 8) (.op .mul (.lst [.op .sub (.idx (.var 3) (.var 5)) (.var 2)]) (.bi .int [.not (.var 9)])))], .asg (.name 6) (.bi .min [.op .add (.op .add (.var 8) (.slc (.var 3) (some (.neg (.int 1))) none)) (.lst [.int 0])]), .app 3 (.ite (.cmp .ne (.var 7) (.lst [])) (.op .fdiv (.op .add (.var 6) (.bi .max [.var 7])) (.int 2)) (.op .sub (.var 6) (.op .mul (.int 2) (.var 2))))], .new 11 (.op .mul (.lst [.int 0]) (.bi .len [.var 0])), .for_ (.tup [.name 5, .name 12]) (.enum (.var 0)) [.set 11 (.var 12) (.idx (.var 3) (.var 5))], .ret (.tup [.var 11, .var 2])]
/-- law : script source turn n x number due row arcs told numbers far signs i j late great a b k -/
def rest : List S := [.for_ (.name 2) (.rng [.int 6]) [.asg (.name 3) (.op .add (.int 1) (.pick (.var 1) (.int 5))), .asg (.tup [.name 10, .name 11]) (.call 12 [.var 1, .var 3]), .asg (.tup [.name 12, .tup [.name 7, .name 16]]) (.tup [.call 11 [.tup [.var 10, .var 11]], .call 13 [.var 10, .var 11]]), .new 4 (.lst []), .for_ (.name 5) (.var 10) [.par [17, 18] [.bi .abs [.var 5], .var 11], .whl (.cmp .gt (.var 18) (.int 0)) [.par [17, 18] [.var 18, .op .mod (.bi .int [.var 17]) (.var 18)]], .app 4 (.tup [.op .fdiv (.var 5) (.var 17), .op .fdiv (.var 11) (.var 17)])], .ite (.cmp .ne (.bi .repr [.call 2 [.bi .tuple [.var 4]]]) (.bi .repr [.var 12])) [.ret (.bl false)] [], .ite (.cmp .ne (.bi .repr [.lst [.call 4 [.var 3, .var 12], .call 6 [.var 3, .var 12], .call 7 [.var 7, .var 16]]]) (.bi .repr [.lst [.var 7, .var 16, .var 12]])) [.ret (.bl false)] [], .asg (.name 6) (.lst []), .for_ (.tup [.name 13, .name 14]) (.call 10 [.var 3]) [.asg (.name 15) (.bi .tuple [.comp (.name 19) (.rng [.var 3]) none (.op .sub (.bi .int [.cmp .eq (.var 19) (.var 13)]) (.bi .int [.cmp .eq (.var 19) (.var 14)]))]), .asg (.name 6) (.op .add (.var 6) (.lst [.op .add (.var 15) (.tup [.int 0]), .op .add (.var 15) (.tup [.int 1])]))], .ite (.cmp .ne (.bi .repr [.call 1 [.var 3]]) (.bi .repr [.tup [.var 3, .bi .tuple [.var 6]]])) [.ret (.bl false)] [], .asg (.name 7) (.bi .tuple [.call 8 [.var 1, .bi .list [.rng [.var 3]]]]), .asg (.name 8) (.call 14 [.var 1, .var 7]), .asg (.name 9) (.call 7 [.var 7, .var 8]), .ite (.cmp .ne (.bi .repr [.var 9]) (.bi .repr [.call 11 [.call 15 [.var 7, .var 8]]])) [.ret (.bl false)] [], .ite (.or (.cmp .ne (.call 4 [.var 3, .var 9]) (.var 7)) (.cmp .ne (.call 6 [.var 3, .var 9]) (.var 8))) [.ret (.bl false)] []], .ret (.and (.cmp .eq (.call 7 [.tup [.int 0, .int 1], .tup [.tup [.int 0, .int 1]]]) (.tup [.int 1, .neg (.int 1)])) (.cmp .eq (.call 2 [.tup [.tup [.int 1, .int 2], .tup [.int 0, .int 1]]]) (.tup [.int 1, .neg (.int 1)])))]
def P : List Fn := [⟨1, 4, b0⟩, ⟨1, 6, b1⟩, ⟨1, 9, b2⟩, ⟨2, 4, b3⟩, ⟨2, 8, b4⟩, ⟨1, 6, b5⟩, ⟨2, 7, b6⟩, ⟨2, 9, b7⟩, ⟨2, 4, b8⟩, ⟨2, 4, b9⟩, ⟨1, 4, b10⟩, ⟨1, 7, b11⟩, ⟨2, 7, b12⟩, ⟨2, 10, b13⟩, ⟨2, 7, b14⟩, ⟨2, 13, b15⟩]
def depth : Nat := 12
end Fz.K82
namespace Fz.K82x
open PySem Fz Fz.K82 Fz.Sh
theorem q_turnF {v : Bool} {c : Cl} {t : Tg} {body : List S} {d : D} {en : En} : fTurn v c t body d en = bnd (lift (tgSet t d en)) fun en3 => exL v c body en3 := rfl
def pD (a : Nat × Nat) : D := .tuple [nd a.1, nd a.2]
def XL (n : Nat) (x : Nat → Int) : D := .list ((List.range n).map fun i => .int (x i))
def SGD (n : Nat) (x : Nat → Int) (far : Int) : D := .tuple ((SG n x far).map .int)
def Nn (n : Nat) : Prop := n = 1 ∨ n = 2 ∨ n = 3 ∨ n = 4 ∨ n = 5
theorem n5 {n : Nat} (h : Nn n) : 1 ≤ n ∧ n ≤ 5 := by rcases h with rfl | rfl | rfl | rfl | rfl <;> omega
theorem prs_len {n : Nat} (h : Nn n) : (Prs n).length ≤ 10 := by rcases h with rfl | rfl | rfl | rfl | rfl <;> decide
theorem prs_nodup {n : Nat} (h : Nn n) : (Prs n).Nodup := by rcases h with rfl | rfl | rfl | rfl | rfl <;> decide
/-- a loop that adds to a list -/
theorem forL_acc {α J : Type} {body : D → En → M Rs} {g : α → D} {h : α → List D} (E : List D → J → En) (hh : ∀ w, (h w).length ≤ 2) : ∀ (ws : List α) (acc : List D) (j : J), acc.length + 2 * ws.length ≤ 1000 → (∀ acc j w, w ∈ ws → acc.length ≤ 1000 → ∃ j', body (g w) (E acc j) = ret (.next (E (acc ++ h w) j'))) →
    ∃ j', forL body (ws.map g) (E acc j) = ret (.next (E (acc ++ ws.flatMap h) j'))
  | [], acc, j, _, _ => ⟨j, by rw [List.map_nil, List.flatMap_nil, List.append_nil]; rfl⟩
  | w :: ws, acc, j, hl, k => by
    rw [List.length_cons] at hl
    obtain ⟨j1, e1⟩ := k acc j w (List.mem_cons_self ..) (by omega)
    have := hh w
    obtain ⟨j2, e2⟩ := forL_acc E hh ws (acc ++ h w) j1 (by rw [List.length_append]; omega) fun acc j w hw => k acc j w (List.mem_cons_of_mem _ hw)
    refine ⟨j2, (forL_next e1).trans (e2.trans ?_)⟩
    rw [List.append_assoc, List.flatMap_cons]
theorem flat_if {α : Type} (p : α → Bool) (g : α → D) : ∀ l : List α, (l.flatMap fun a => if p a then [g a] else []) = (l.filter p).map g
  | [] => rfl
  | a :: r => by
    rw [List.flatMap_cons, flat_if p g r, List.filter_cons]
    cases p a <;> rfl
theorem sgn_code (x y : Int) : (if decide (y < x) = true then (1 : Int) else 0) - (if decide (x < y) = true then 1 else 0) = (x - y).sign := by
  rcases Int.lt_trichotomy x y with h | h | h
  · rw [Int.sign_eq_neg_one_of_neg (by omega), decide_eq_false (by omega), decide_eq_true h]; rfl
  · subst h; simp
  · rw [Int.sign_eq_one_of_pos (by omega), decide_eq_true h, decide_eq_false (by omega)]; rfl
theorem sgn_code0 (x : Int) : (if decide (0 < x) = true then (1 : Int) else 0) - (if decide (x < 0) = true then 1 else 0) = x.sign := by
  have := sgn_code x 0
  rwa [Int.sub_zero] at this
theorem xl_idx {n : Nat} {x : Nat → Int} {i : Nat} (hi : i < n) : idxV (XL n x) (nd i) = some (.int (x i)) := idx_rngL n (fun i => .int (x i)) hi
section
variable {c : Cl} {n : Nat} (hn : Nn n) {x : Nat → Int} {far : Int}
include hn
theorem run11 (h10 : c 10 [nd n] = ret (.list ((Prs n).map pD))) : exL false c b11 [some (.tuple [XL n x, .int far]), none, none, none, none, none, none] = ret (.ret (SGD n x far)) := by
  have pl := prs_len hn
  have el : biV .len [XL n x] = some (nd n) := by
    show some (PyData.int (((List.range n).map fun i => PyData.int (x i)).length : Nat)) = _
    rw [List.length_map, List.length_range]; rfl
  obtain ⟨j', e⟩ := forL_acc (J := Option D × Option D × Option D) (body := fTurn false c (.tup [.name 4, .name 5]) [.asg (.name 6) (.op .sub (.idx (.var 1) (.var 4)) (.idx (.var 1) (.var 5))), .asg (.name 3) (.op .add (.var 3) (.lst [.op .sub (.bi .int [.cmp .gt (.var 6) (.int 0)]) (.bi .int [.cmp .lt (.var 6) (.int 0)]), .op .sub (.bi .int [.cmp .gt (.var 6) (.var 2)]) (.bi .int [.cmp .lt (.var 6) (.var 2)])]))]) (g := pD) (h := fun a => [.int (x a.1 - x a.2).sign, .int (x a.1 - x a.2 - far).sign])
    (fun acc j => [some (.tuple [XL n x, .int far]), some (XL n x), some (.int far), some (.list acc), j.1, j.2.1, j.2.2]) (fun _ => Nat.le_refl _) (Prs n) [] (none, none, none) (by rw [List.length_nil]; omega) fun acc j a ha hl => by
    obtain ⟨h1, h2⟩ := mem_prs.mp (show (a.1, a.2) ∈ Prs n from ha)
    have i1 : idxV (XL n x) (nd a.1) = some (.int (x a.1)) := xl_idx (by omega)
    have i2 : idxV (XL n x) (nd a.2) = some (.int (x a.2)) := xl_idx h2
    refine ⟨(some (nd a.1), some (nd a.2), some (.int (x a.1 - x a.2))), ?_⟩
    have tg : tgSet (.tup [.name 4, .name 5]) (pD a) [some (.tuple [XL n x, .int far]), some (XL n x), some (.int far), some (.list acc), j.1, j.2.1, j.2.2] = some [some (.tuple [XL n x, .int far]), some (XL n x), some (.int far), some (.list acc), some (nd a.1), some (nd a.2), j.2.2] := rfl
    rw [q_turnF, tg, lift_ok, bnd_ret]
    simp only [q_non, q_bl, q_int, q_str, q_var, q_op, q_not, q_and, q_or, q_ite, q_cmp, q_chain, q_tup, q_lst, q_idx, q_slc, q_rev, q_call, q_bi, q_meth, q_isi, q_lnil, q_lcons, q_lstar, q_o0, q_o1, q_t0, q_t1, q_snil, q_scons, q_thenN, q_thenR, q_asg, q_new, q_asNew, q_par, q_parN, q_app, q_ext, q_asExt, q_pop, q_set, q_aug, q_ret, q_if, q_pass, q_getD0, q_getD1, q_set0, q_set1, q_tgN, q_tgT, q_tgL, q_tg0, q_tg1, q_sv0, q_sv1, q_tb, q_ti, q_tl, q_tt, q_add, q_sub, q_lt, q_le, q_gt, q_ge, q_eqI, q_neI, q_lenL, q_lenT, q_tupL, q_tupT, q_lstL, q_lstT, q_seqL, q_seqT, q_revL, q_revT, q_intI, q_intB, q_size0, q_size1, q_size2, q_size3, q_size4, q_size5, q_size6, q_size7, q_size8, q_size9, q_news0, q_newsT, q_newsF, q_augA, q_augS, q_io0, q_io1, q_slcL, q_slcT, q_mapL0, q_mapL1, q_cons1, q_cons0, q_turn, q_dps, q_dpsL, q_idxD, q_sortT, q_sortL, q_isN, q_notN, q_nonN, q_nonI, q_nonT, q_nonL, q_nonB, q_nonS, q_neB, q_eqB, q_negI, q_absI, bnd_ret, lift_ok, Option.bind_some, Option.map_some, if_true, if_false, ↓reduceIte, Bool.false_eq_true, Bool.not_true, Bool.not_false, Option.bind_none, i1, i2]
    rw [q_addL (by simp only [List.length_cons, List.length_nil]; omega), sgn_code0, sgn_code]
    simp only [q_non, q_bl, q_int, q_str, q_var, q_op, q_not, q_and, q_or, q_ite, q_cmp, q_chain, q_tup, q_lst, q_idx, q_slc, q_rev, q_call, q_bi, q_meth, q_isi, q_lnil, q_lcons, q_lstar, q_o0, q_o1, q_t0, q_t1, q_snil, q_scons, q_thenN, q_thenR, q_asg, q_new, q_asNew, q_par, q_parN, q_app, q_ext, q_asExt, q_pop, q_set, q_aug, q_ret, q_if, q_pass, q_getD0, q_getD1, q_set0, q_set1, q_tgN, q_tgT, q_tgL, q_tg0, q_tg1, q_sv0, q_sv1, q_tb, q_ti, q_tl, q_tt, q_add, q_sub, q_lt, q_le, q_gt, q_ge, q_eqI, q_neI, q_lenL, q_lenT, q_tupL, q_tupT, q_lstL, q_lstT, q_seqL, q_seqT, q_revL, q_revT, q_intI, q_intB, q_size0, q_size1, q_size2, q_size3, q_size4, q_size5, q_size6, q_size7, q_size8, q_size9, q_news0, q_newsT, q_newsF, q_augA, q_augS, q_io0, q_io1, q_slcL, q_slcT, q_mapL0, q_mapL1, q_cons1, q_cons0, q_turn, q_dps, q_dpsL, q_idxD, q_sortT, q_sortL, q_isN, q_notN, q_nonN, q_nonI, q_nonT, q_nonL, q_nonB, q_nonS, q_neB, q_eqB, q_negI, q_absI, bnd_ret, lift_ok, Option.bind_some, Option.map_some, if_true, if_false, ↓reduceIte, Bool.false_eq_true, Bool.not_true, Bool.not_false, Option.bind_none]
  unfold b11
  simp only [q_non, q_bl, q_int, q_str, q_var, q_op, q_not, q_and, q_or, q_ite, q_cmp, q_chain, q_tup, q_lst, q_idx, q_slc, q_rev, q_call, q_bi, q_meth, q_isi, q_lnil, q_lcons, q_lstar, q_o0, q_o1, q_t0, q_t1, q_snil, q_scons, q_thenN, q_thenR, q_asg, q_new, q_asNew, q_par, q_parN, q_app, q_ext, q_asExt, q_pop, q_set, q_aug, q_ret, q_if, q_pass, q_getD0, q_getD1, q_set0, q_set1, q_tgN, q_tgT, q_tgL, q_tg0, q_tg1, q_sv0, q_sv1, q_tb, q_ti, q_tl, q_tt, q_add, q_sub, q_lt, q_le, q_gt, q_ge, q_eqI, q_neI, q_lenL, q_lenT, q_tupL, q_tupT, q_lstL, q_lstT, q_seqL, q_seqT, q_revL, q_revT, q_intI, q_intB, q_size0, q_size1, q_size2, q_size3, q_size4, q_size5, q_size6, q_size7, q_size8, q_size9, q_news0, q_newsT, q_newsF, q_augA, q_augS, q_io0, q_io1, q_slcL, q_slcT, q_mapL0, q_mapL1, q_cons1, q_cons0, q_turn, q_dps, q_dpsL, q_idxD, q_sortT, q_sortL, q_isN, q_notN, q_nonN, q_nonI, q_nonT, q_nonL, q_nonB, q_nonS, q_neB, q_eqB, q_negI, q_absI, bnd_ret, lift_ok, Option.bind_some, Option.map_some, if_true, if_false, ↓reduceIte, Bool.false_eq_true, Bool.not_true, Bool.not_false, Option.bind_none, q_for, el, h10]
  rw [e]
  have : (([] : List D) ++ (Prs n).flatMap fun a => [PyData.int (x a.1 - x a.2).sign, PyData.int (x a.1 - x a.2 - far).sign]) = (SG n x far).map .int := by
    rw [List.nil_append]; unfold SG; rw [List.map_flatMap]; rfl
  rw [this]
  rfl
end
end Fz.K82x
namespace Fz.K82x
open PySem Fz Fz.K82 Fz.Sh
/-- sorted pairs (key, number) -/
theorem tups_map (k : Nat → Int) : ∀ l : List Nat, tupsOf (l.map fun i => .tuple [.int (k i), nd i]) = some (l.map fun i : Nat => [k i, (i : Int)])
  | [] => rfl
  | i :: r => by
    show (tupsOf (r.map fun i => .tuple [.int (k i), nd i])).map _ = _
    rw [tups_map k r]; rfl
theorem sortV_pairs (k : Nat → Int) {l : List Nat} (h : l ≠ []) : sortV (l.map fun i => .tuple [.int (k i), nd i]) = some (.list ((sortT (l.map fun i : Nat => [k i, (i : Int)])).map fun ns => .tuple (ns.map .int))) := by
  cases l with
  | nil => exact absurd rfl h
  | cons i r =>
    unfold sortV
    have e : intsOf ((i :: r).map fun i => PyData.tuple [.int (k i), nd i]) = none := rfl
    rw [e, tups_map]; rfl
theorem tups_prs : ∀ l : List (Nat × Nat), tupsOf (l.map pD) = some (l.map fun a : Nat × Nat => [(a.1 : Int), (a.2 : Int)])
  | [] => rfl
  | a :: r => by
    show (tupsOf (r.map pD)).map _ = _
    rw [tups_prs r]; rfl
theorem prs_sorted {n : Nat} (hn : Nn n) : ((Prs n).map fun a : Nat × Nat => [(a.1 : Int), (a.2 : Int)]).Pairwise (fun x y => lexI x y = true) := by rcases hn with rfl | rfl | rfl | rfl | rfl <;> decide
/-- a part of all pairs is sorted -/
theorem sorted_part {n : Nat} (hn : Nn n) {l : List (Nat × Nat)} (h : l.Sublist (Prs n)) : biV .sorted [.list (l.map pD)] = some (.list (l.map pD)) := by
  show sortV (l.map pD) = _
  cases l with
  | nil => rfl
  | cons a r =>
    unfold sortV
    have e : intsOf ((a :: r).map pD) = none := rfl
    rw [e, tups_prs]
    show some (PyData.list ((sortT ((a :: r).map fun a : Nat × Nat => [(a.1 : Int), (a.2 : Int)])).map fun ns => .tuple (ns.map .int))) = _
    rw [sortT_id ((prs_sorted hn).sublist (h.map _)), List.map_map]
    rfl
theorem same_pD (a b : Nat × Nat) : sameK (pD a) (pD b) = decide (a = b) := by
  have e : ∀ a : Nat × Nat, pD a = tD [a.1, a.2] := fun _ => rfl
  rw [e, e, same_tD]
  refine decide_eq_decide.mpr ⟨fun h => ?_, fun h => by rw [h]⟩
  have h1 := (List.cons.inj h).1
  have h2 := (List.cons.inj (List.cons.inj h).2).1
  exact Prod.ext h1 h2
def KN (n : Nat) (x : Nat → Int) (far : Int) : D := .dict ((Prs n).map fun a => (pD a, .tuple [.int (x a.1 - x a.2).sign, .int (x a.1 - x a.2 - far).sign]))
theorem kn_idx {n : Nat} {x : Nat → Int} {far : Int} {i j : Nat} (h : i < j) (hj : j < n) : idxV (KN n x far) (.tuple [nd i, nd j]) = some (.tuple [.int (x i - x j).sign, .int (x i - x j - far).sign]) := by
  unfold KN
  rw [q_idxD]
  exact atD_map (κ := pD) (g := fun a : Nat × Nat => .tuple [.int (x a.1 - x a.2).sign, .int (x a.1 - x a.2 - far).sign]) same_pD (Prs n) (a := (i, j)) (mem_prs.mpr ⟨h, hj⟩)
section
variable {c : Cl} {n : Nat} (hn : Nn n) {x : Nat → Int} {far : Int}
include hn
variable (P : Pt n x far)
include P
theorem run4 (h3 : c 3 [nd n, SGD n x far] = ret (KN n x far)) : exL false c b4 [some (nd n), some (SGD n x far), none, none, none, none, none, none] = ret (.ret (tD (row n x))) := by
  have b5 := n5 hn
  have er : ∀ acc j, evE false c (.rng [.var 0]) [some (nd n), some (SGD n x far), some (KN n x far), some (.list acc), j, none, none, none] = ret (.list ((List.range n).map nd)) := fun acc j => evE_rng rfl rfl (by omega)
  have er2 : ∀ acc i a5, evE false c (.rng [.var 0]) [some (nd n), some (SGD n x far), some (KN n x far), some (.list acc), i, a5, none, none] = ret (.list ((List.range n).map nd)) := fun acc i a5 => evE_rng rfl rfl (by omega)
  have ea : ∀ acc i a5, i < n → evE false c (.comp (.name 6) (.rng [.var 0]) (some (.or (.and (.cmp .lt (.var 6) (.var 4)) (.cmp .eq (.idx (.idx (.var 2) (.tup [.var 6, .var 4])) (.int 0)) (.int 1))) (.and (.cmp .gt (.var 6) (.var 4)) (.cmp .eq (.idx (.idx (.var 2) (.tup [.var 4, .var 6])) (.int 0)) (.neg (.int 1)))))) (.var 6)) [some (nd n), some (SGD n x far), some (KN n x far), some (.list acc), some (nd i), a5, none, none] = ret (.list (((List.range n).filter fun j => decide (x i < x j)).map nd)) := fun acc i a5 hi => by
    refine evE_compF (ws := List.range n) (g := nd) (h := nd) (p := fun j => decide (x i < x j)) (er2 acc (some (nd i)) a5) rfl (by simp; omega) fun j hj => ⟨[some (nd n), some (SGD n x far), some (KN n x far), some (.list acc), some (nd i), a5, some (nd j), none], rfl, ?_, fun _ => rfl⟩
    have hj := List.mem_range.mp hj
    rcases Nat.lt_trichotomy j i with h | h | h
    · have k := kn_idx (x := x) (far := far) h hi
      have k0 : idxV (.tuple [.int (x j - x i).sign, .int (x j - x i - far).sign]) (.int 0) = some (.int (x j - x i).sign) := rfl
      have c1 : cmp2 .lt (nd j) (nd i) = some true := by show some (decide ((j : Int) < (i : Int))) = _; rw [decide_eq_true (by omega)]
      have c2 : cmp2 .gt (nd j) (nd i) = some false := by show some (decide ((i : Int) < (j : Int))) = _; rw [decide_eq_false (by omega)]
      have c3 : decide ((x j - x i).sign = 1) = decide (x i < x j) := decide_eq_decide.mpr (by rw [Int.sign_eq_one_iff_pos]; omega)
      simp only [q_non, q_bl, q_int, q_str, q_var, q_op, q_not, q_and, q_or, q_ite, q_cmp, q_chain, q_tup, q_lst, q_idx, q_slc, q_rev, q_call, q_bi, q_meth, q_isi, q_lnil, q_lcons, q_lstar, q_o0, q_o1, q_t0, q_t1, q_snil, q_scons, q_thenN, q_thenR, q_asg, q_new, q_asNew, q_par, q_parN, q_app, q_ext, q_asExt, q_pop, q_set, q_aug, q_ret, q_if, q_pass, q_getD0, q_getD1, q_set0, q_set1, q_tgN, q_tgT, q_tgL, q_tg0, q_tg1, q_sv0, q_sv1, q_tb, q_ti, q_tl, q_tt, q_add, q_sub, q_lt, q_le, q_gt, q_ge, q_eqI, q_neI, q_lenL, q_lenT, q_tupL, q_tupT, q_lstL, q_lstT, q_seqL, q_seqT, q_revL, q_revT, q_intI, q_intB, q_size0, q_size1, q_size2, q_size3, q_size4, q_size5, q_size6, q_size7, q_size8, q_size9, q_news0, q_newsT, q_newsF, q_augA, q_augS, q_io0, q_io1, q_slcL, q_slcT, q_mapL0, q_mapL1, q_cons1, q_cons0, q_turn, q_dps, q_dpsL, q_idxD, q_sortT, q_sortL, q_isN, q_notN, q_nonN, q_nonI, q_nonT, q_nonL, q_nonB, q_nonS, q_neB, q_eqB, q_negI, q_absI, bnd_ret, lift_ok, Option.bind_some, Option.map_some, if_true, if_false, ↓reduceIte, Bool.false_eq_true, Bool.not_true, Bool.not_false, Option.bind_none, c1, k, k0, c3, c2]
      cases decide (x i < x j) <;> rfl
    · subst h
      have c1 : cmp2 .lt (nd j) (nd j) = some false := by show some (decide ((j : Int) < (j : Int))) = _; rw [decide_eq_false (by omega)]
      have c2 : cmp2 .gt (nd j) (nd j) = some false := by show some (decide ((j : Int) < (j : Int))) = _; rw [decide_eq_false (by omega)]
      have c3 : decide (x j < x j) = false := decide_eq_false (by omega)
      simp only [q_non, q_bl, q_int, q_str, q_var, q_op, q_not, q_and, q_or, q_ite, q_cmp, q_chain, q_tup, q_lst, q_idx, q_slc, q_rev, q_call, q_bi, q_meth, q_isi, q_lnil, q_lcons, q_lstar, q_o0, q_o1, q_t0, q_t1, q_snil, q_scons, q_thenN, q_thenR, q_asg, q_new, q_asNew, q_par, q_parN, q_app, q_ext, q_asExt, q_pop, q_set, q_aug, q_ret, q_if, q_pass, q_getD0, q_getD1, q_set0, q_set1, q_tgN, q_tgT, q_tgL, q_tg0, q_tg1, q_sv0, q_sv1, q_tb, q_ti, q_tl, q_tt, q_add, q_sub, q_lt, q_le, q_gt, q_ge, q_eqI, q_neI, q_lenL, q_lenT, q_tupL, q_tupT, q_lstL, q_lstT, q_seqL, q_seqT, q_revL, q_revT, q_intI, q_intB, q_size0, q_size1, q_size2, q_size3, q_size4, q_size5, q_size6, q_size7, q_size8, q_size9, q_news0, q_newsT, q_newsF, q_augA, q_augS, q_io0, q_io1, q_slcL, q_slcT, q_mapL0, q_mapL1, q_cons1, q_cons0, q_turn, q_dps, q_dpsL, q_idxD, q_sortT, q_sortL, q_isN, q_notN, q_nonN, q_nonI, q_nonT, q_nonL, q_nonB, q_nonS, q_neB, q_eqB, q_negI, q_absI, bnd_ret, lift_ok, Option.bind_some, Option.map_some, if_true, if_false, ↓reduceIte, Bool.false_eq_true, Bool.not_true, Bool.not_false, Option.bind_none, c1, c2, c3]
    · have k := kn_idx (x := x) (far := far) h hj
      have k0 : idxV (.tuple [.int (x i - x j).sign, .int (x i - x j - far).sign]) (.int 0) = some (.int (x i - x j).sign) := rfl
      have c1 : cmp2 .lt (nd j) (nd i) = some false := by show some (decide ((j : Int) < (i : Int))) = _; rw [decide_eq_false (by omega)]
      have c2 : cmp2 .gt (nd j) (nd i) = some true := by show some (decide ((i : Int) < (j : Int))) = _; rw [decide_eq_true (by omega)]
      have c3 : decide ((x i - x j).sign = -1) = decide (x i < x j) := decide_eq_decide.mpr (by rw [Int.sign_eq_neg_one_iff_neg]; omega)
      simp only [q_non, q_bl, q_int, q_str, q_var, q_op, q_not, q_and, q_or, q_ite, q_cmp, q_chain, q_tup, q_lst, q_idx, q_slc, q_rev, q_call, q_bi, q_meth, q_isi, q_lnil, q_lcons, q_lstar, q_o0, q_o1, q_t0, q_t1, q_snil, q_scons, q_thenN, q_thenR, q_asg, q_new, q_asNew, q_par, q_parN, q_app, q_ext, q_asExt, q_pop, q_set, q_aug, q_ret, q_if, q_pass, q_getD0, q_getD1, q_set0, q_set1, q_tgN, q_tgT, q_tgL, q_tg0, q_tg1, q_sv0, q_sv1, q_tb, q_ti, q_tl, q_tt, q_add, q_sub, q_lt, q_le, q_gt, q_ge, q_eqI, q_neI, q_lenL, q_lenT, q_tupL, q_tupT, q_lstL, q_lstT, q_seqL, q_seqT, q_revL, q_revT, q_intI, q_intB, q_size0, q_size1, q_size2, q_size3, q_size4, q_size5, q_size6, q_size7, q_size8, q_size9, q_news0, q_newsT, q_newsF, q_augA, q_augS, q_io0, q_io1, q_slcL, q_slcT, q_mapL0, q_mapL1, q_cons1, q_cons0, q_turn, q_dps, q_dpsL, q_idxD, q_sortT, q_sortL, q_isN, q_notN, q_nonN, q_nonI, q_nonT, q_nonL, q_nonB, q_nonS, q_neB, q_eqB, q_negI, q_absI, bnd_ret, lift_ok, Option.bind_some, Option.map_some, if_true, if_false, ↓reduceIte, Bool.false_eq_true, Bool.not_true, Bool.not_false, Option.bind_none, c1, k, k0, c3, c2]
  obtain ⟨j', e⟩ := forL_app (J := Option D × Option D) (body := fTurn false c (.name 4) [.asg (.name 5) (.comp (.name 6) (.rng [.var 0]) (some (.or (.and (.cmp .lt (.var 6) (.var 4)) (.cmp .eq (.idx (.idx (.var 2) (.tup [.var 6, .var 4])) (.int 0)) (.int 1))) (.and (.cmp .gt (.var 6) (.var 4)) (.cmp .eq (.idx (.idx (.var 2) (.tup [.var 4, .var 6])) (.int 0)) (.neg (.int 1)))))) (.var 6)), .app 3 (.tup [.bi .len [.var 5], .var 4])]) (g := nd) (h := fun i => .tuple [.int (many n x i), nd i])
    (fun acc j => [some (nd n), some (SGD n x far), some (KN n x far), some (.list acc), j.1, j.2, none, none]) (List.range n) [] (none, none) (by simp; omega) fun acc j i hi ha => by
    have hi := List.mem_range.mp hi
    refine ⟨(some (nd i), some (.list (((List.range n).filter fun j => decide (x i < x j)).map nd))), ?_⟩
    have el : biV .len [.list (((List.range n).filter fun j => decide (x i < x j)).map nd)] = some (.int (many n x i)) := by
      show some (PyData.int ((((List.range n).filter fun j => decide (x i < x j)).map nd).length : Nat)) = _
      rw [List.length_map]; rfl
    simp only [q_non, q_bl, q_int, q_str, q_var, q_op, q_not, q_and, q_or, q_ite, q_cmp, q_chain, q_tup, q_lst, q_idx, q_slc, q_rev, q_call, q_bi, q_meth, q_isi, q_lnil, q_lcons, q_lstar, q_o0, q_o1, q_t0, q_t1, q_snil, q_scons, q_thenN, q_thenR, q_asg, q_new, q_asNew, q_par, q_parN, q_app, q_ext, q_asExt, q_pop, q_set, q_aug, q_ret, q_if, q_pass, q_getD0, q_getD1, q_set0, q_set1, q_tgN, q_tgT, q_tgL, q_tg0, q_tg1, q_sv0, q_sv1, q_tb, q_ti, q_tl, q_tt, q_add, q_sub, q_lt, q_le, q_gt, q_ge, q_eqI, q_neI, q_lenL, q_lenT, q_tupL, q_tupT, q_lstL, q_lstT, q_seqL, q_seqT, q_revL, q_revT, q_intI, q_intB, q_size0, q_size1, q_size2, q_size3, q_size4, q_size5, q_size6, q_size7, q_size8, q_size9, q_news0, q_newsT, q_newsF, q_augA, q_augS, q_io0, q_io1, q_slcL, q_slcT, q_mapL0, q_mapL1, q_cons1, q_cons0, q_turn, q_dps, q_dpsL, q_idxD, q_sortT, q_sortL, q_isN, q_notN, q_nonN, q_nonI, q_nonT, q_nonL, q_nonB, q_nonS, q_neB, q_eqB, q_negI, q_absI, bnd_ret, lift_ok, Option.bind_some, Option.map_some, if_true, if_false, ↓reduceIte, Bool.false_eq_true, Bool.not_true, Bool.not_false, Option.bind_none, q_turnF, ea acc i j.2 hi, el]
    rw [q_lstAt (xs := acc) rfl]
    simp only [q_non, q_bl, q_int, q_str, q_var, q_op, q_not, q_and, q_or, q_ite, q_cmp, q_chain, q_tup, q_lst, q_idx, q_slc, q_rev, q_call, q_bi, q_meth, q_isi, q_lnil, q_lcons, q_lstar, q_o0, q_o1, q_t0, q_t1, q_snil, q_scons, q_thenN, q_thenR, q_asg, q_new, q_asNew, q_par, q_parN, q_app, q_ext, q_asExt, q_pop, q_set, q_aug, q_ret, q_if, q_pass, q_getD0, q_getD1, q_set0, q_set1, q_tgN, q_tgT, q_tgL, q_tg0, q_tg1, q_sv0, q_sv1, q_tb, q_ti, q_tl, q_tt, q_add, q_sub, q_lt, q_le, q_gt, q_ge, q_eqI, q_neI, q_lenL, q_lenT, q_tupL, q_tupT, q_lstL, q_lstT, q_seqL, q_seqT, q_revL, q_revT, q_intI, q_intB, q_size0, q_size1, q_size2, q_size3, q_size4, q_size5, q_size6, q_size7, q_size8, q_size9, q_news0, q_newsT, q_newsF, q_augA, q_augS, q_io0, q_io1, q_slcL, q_slcT, q_mapL0, q_mapL1, q_cons1, q_cons0, q_turn, q_dps, q_dpsL, q_idxD, q_sortT, q_sortL, q_isN, q_notN, q_nonN, q_nonI, q_nonT, q_nonL, q_nonB, q_nonS, q_neB, q_eqB, q_negI, q_absI, bnd_ret, lift_ok, Option.bind_some, Option.map_some, if_true, if_false, ↓reduceIte, Bool.false_eq_true, Bool.not_true, Bool.not_false, Option.bind_none]
    rw [q_small (by omega)]
    simp only [q_non, q_bl, q_int, q_str, q_var, q_op, q_not, q_and, q_or, q_ite, q_cmp, q_chain, q_tup, q_lst, q_idx, q_slc, q_rev, q_call, q_bi, q_meth, q_isi, q_lnil, q_lcons, q_lstar, q_o0, q_o1, q_t0, q_t1, q_snil, q_scons, q_thenN, q_thenR, q_asg, q_new, q_asNew, q_par, q_parN, q_app, q_ext, q_asExt, q_pop, q_set, q_aug, q_ret, q_if, q_pass, q_getD0, q_getD1, q_set0, q_set1, q_tgN, q_tgT, q_tgL, q_tg0, q_tg1, q_sv0, q_sv1, q_tb, q_ti, q_tl, q_tt, q_add, q_sub, q_lt, q_le, q_gt, q_ge, q_eqI, q_neI, q_lenL, q_lenT, q_tupL, q_tupT, q_lstL, q_lstT, q_seqL, q_seqT, q_revL, q_revT, q_intI, q_intB, q_size0, q_size1, q_size2, q_size3, q_size4, q_size5, q_size6, q_size7, q_size8, q_size9, q_news0, q_newsT, q_newsF, q_augA, q_augS, q_io0, q_io1, q_slcL, q_slcT, q_mapL0, q_mapL1, q_cons1, q_cons0, q_turn, q_dps, q_dpsL, q_idxD, q_sortT, q_sortL, q_isN, q_notN, q_nonN, q_nonI, q_nonT, q_nonL, q_nonB, q_nonS, q_neB, q_eqB, q_negI, q_absI, bnd_ret, lift_ok, Option.bind_some, Option.map_some, if_true, if_false, ↓reduceIte, Bool.false_eq_true, Bool.not_true, Bool.not_false, Option.bind_none]
  have hk : newsOk [false, true] [KN n x far, .list []] = true := rfl
  have hs : setsV [2, 3] [KN n x far, .list []] [some (nd n), some (SGD n x far), none, none, none, none, none, none] = some [some (nd n), some (SGD n x far), some (KN n x far), some (.list []), none, none, none, none] := rfl
  have ne : List.range n ≠ [] := fun h => by have := congrArg List.length h; simp at this; omega
  unfold b4
  simp only [q_non, q_bl, q_int, q_str, q_var, q_op, q_not, q_and, q_or, q_ite, q_cmp, q_chain, q_tup, q_lst, q_idx, q_slc, q_rev, q_call, q_bi, q_meth, q_isi, q_lnil, q_lcons, q_lstar, q_o0, q_o1, q_t0, q_t1, q_snil, q_scons, q_thenN, q_thenR, q_asg, q_new, q_asNew, q_par, q_parN, q_app, q_ext, q_asExt, q_pop, q_set, q_aug, q_ret, q_if, q_pass, q_getD0, q_getD1, q_set0, q_set1, q_tgN, q_tgT, q_tgL, q_tg0, q_tg1, q_sv0, q_sv1, q_tb, q_ti, q_tl, q_tt, q_add, q_sub, q_lt, q_le, q_gt, q_ge, q_eqI, q_neI, q_lenL, q_lenT, q_tupL, q_tupT, q_lstL, q_lstT, q_seqL, q_seqT, q_revL, q_revT, q_intI, q_intB, q_size0, q_size1, q_size2, q_size3, q_size4, q_size5, q_size6, q_size7, q_size8, q_size9, q_news0, q_newsT, q_newsF, q_augA, q_augS, q_io0, q_io1, q_slcL, q_slcT, q_mapL0, q_mapL1, q_cons1, q_cons0, q_turn, q_dps, q_dpsL, q_idxD, q_sortT, q_sortL, q_isN, q_notN, q_nonN, q_nonI, q_nonT, q_nonL, q_nonB, q_nonS, q_neB, q_eqB, q_negI, q_absI, bnd_ret, lift_ok, Option.bind_some, Option.map_some, if_true, if_false, ↓reduceIte, Bool.false_eq_true, Bool.not_true, Bool.not_false, Option.bind_none, h3, hk, hs, q_for, er]
  rw [e, List.nil_append, bnd_ret]
  have es : biV .sorted [.list ((List.range n).map fun i => .tuple [.int (many n x i), nd i])] = some (.list ((row n x).map fun i => .tuple [.int (many n x i), nd i])) := by
    show sortV _ = _
    rw [sortV_pairs (many n x) ne, row_many P, List.map_map]
    rfl
  have ef : evE false c (.comp (.tup [.name 7, .name 4]) (.bi .sorted [.var 3]) none (.var 4)) [some (nd n), some (SGD n x far), some (KN n x far), some (.list ((List.range n).map fun i => .tuple [.int (many n x i), nd i])), j'.1, j'.2, none, none] = ret (.list ((row n x).map nd)) :=
    evE_compM (ws := row n x) (g := fun i => .tuple [.int (many n x i), nd i]) (h := nd) (d := .list ((row n x).map fun i => .tuple [.int (many n x i), nd i])) (by simp only [q_non, q_bl, q_int, q_str, q_var, q_op, q_not, q_and, q_or, q_ite, q_cmp, q_chain, q_tup, q_lst, q_idx, q_slc, q_rev, q_call, q_bi, q_meth, q_isi, q_lnil, q_lcons, q_lstar, q_o0, q_o1, q_t0, q_t1, q_snil, q_scons, q_thenN, q_thenR, q_asg, q_new, q_asNew, q_par, q_parN, q_app, q_ext, q_asExt, q_pop, q_set, q_aug, q_ret, q_if, q_pass, q_getD0, q_getD1, q_set0, q_set1, q_tgN, q_tgT, q_tgL, q_tg0, q_tg1, q_sv0, q_sv1, q_tb, q_ti, q_tl, q_tt, q_add, q_sub, q_lt, q_le, q_gt, q_ge, q_eqI, q_neI, q_lenL, q_lenT, q_tupL, q_tupT, q_lstL, q_lstT, q_seqL, q_seqT, q_revL, q_revT, q_intI, q_intB, q_size0, q_size1, q_size2, q_size3, q_size4, q_size5, q_size6, q_size7, q_size8, q_size9, q_news0, q_newsT, q_newsF, q_augA, q_augS, q_io0, q_io1, q_slcL, q_slcT, q_mapL0, q_mapL1, q_cons1, q_cons0, q_turn, q_dps, q_dpsL, q_idxD, q_sortT, q_sortL, q_isN, q_notN, q_nonN, q_nonI, q_nonT, q_nonL, q_nonB, q_nonS, q_neB, q_eqB, q_negI, q_absI, bnd_ret, lift_ok, Option.bind_some, Option.map_some, if_true, if_false, ↓reduceIte, Bool.false_eq_true, Bool.not_true, Bool.not_false, Option.bind_none, es]) rfl (by rw [row_len P]; omega) fun i hi => ⟨_, rfl, rfl⟩
  simp only [q_non, q_bl, q_int, q_str, q_var, q_op, q_not, q_and, q_or, q_ite, q_cmp, q_chain, q_tup, q_lst, q_idx, q_slc, q_rev, q_call, q_bi, q_meth, q_isi, q_lnil, q_lcons, q_lstar, q_o0, q_o1, q_t0, q_t1, q_snil, q_scons, q_thenN, q_thenR, q_asg, q_new, q_asNew, q_par, q_parN, q_app, q_ext, q_asExt, q_pop, q_set, q_aug, q_ret, q_if, q_pass, q_getD0, q_getD1, q_set0, q_set1, q_tgN, q_tgT, q_tgL, q_tg0, q_tg1, q_sv0, q_sv1, q_tb, q_ti, q_tl, q_tt, q_add, q_sub, q_lt, q_le, q_gt, q_ge, q_eqI, q_neI, q_lenL, q_lenT, q_tupL, q_tupT, q_lstL, q_lstT, q_seqL, q_seqT, q_revL, q_revT, q_intI, q_intB, q_size0, q_size1, q_size2, q_size3, q_size4, q_size5, q_size6, q_size7, q_size8, q_size9, q_news0, q_newsT, q_newsF, q_augA, q_augS, q_io0, q_io1, q_slcL, q_slcT, q_mapL0, q_mapL1, q_cons1, q_cons0, q_turn, q_dps, q_dpsL, q_idxD, q_sortT, q_sortL, q_isN, q_notN, q_nonN, q_nonI, q_nonT, q_nonL, q_nonB, q_nonS, q_neB, q_eqB, q_negI, q_absI, bnd_ret, lift_ok, Option.bind_some, Option.map_some, if_true, if_false, ↓reduceIte, Bool.false_eq_true, Bool.not_true, Bool.not_false, Option.bind_none, ef]
  rfl
end
end Fz.K82x
namespace Fz.K82x
open PySem Fz Fz.K82 Fz.Sh
theorem trs_map {α : Type} (f : α → Bool) : ∀ l : List α, trsOf (l.map fun a => PyData.bool (f a)) = some (l.map f)
  | [] => rfl
  | a :: r => by
    show (Option.bind (truth (.bool (f a))) fun t => (trsOf (r.map fun a => PyData.bool (f a))).map (t :: ·)) = _
    rw [trs_map f r]; rfl
theorem any_map {α : Type} (f : α → Bool) (l : List α) : biV .any [.list (l.map fun a => .bool (f a))] = some (.bool (l.any f)) := by
  show (trsOf (l.map fun a => PyData.bool (f a))).map (fun bs => PyData.bool (bs.any id)) = _
  rw [trs_map]
  show some (PyData.bool ((l.map f).any id)) = _
  rw [List.any_map]; rfl
theorem ne_pD (b a : Nat × Nat) : cmp2 .ne (pD b) (pD a) = some (!decide (b = a)) := by
  show some (!((b.1 : Int) == (a.1 : Int) && (((b.2 : Int) == (a.2 : Int)) && true))) = _
  congr 2
  obtain ⟨b1, b2⟩ := b
  obtain ⟨a1, a2⟩ := a
  rw [Bool.eq_iff_iff]
  simp only [Bool.and_true, Bool.and_eq_true, beq_iff_eq, decide_eq_true_eq, Prod.mk.injEq]
  omega
theorem le_nd (a b : Nat) : cmp2 .le (nd a) (nd b) = some (decide (a ≤ b)) := by
  show some (decide ((a : Int) ≤ (b : Int))) = _
  congr 1; exact decide_eq_decide.mpr (by omega)
theorem lt_nd (a b : Nat) : cmp2 .lt (nd a) (nd b) = some (decide (a < b)) := by
  show some (decide ((a : Int) < (b : Int))) = _
  congr 1; exact decide_eq_decide.mpr (by omega)
theorem gt_nd (a b : Nat) : cmp2 .gt (nd a) (nd b) = some (decide (b < a)) := by
  show some (decide ((b : Int) < (a : Int))) = _
  congr 1; exact decide_eq_decide.mpr (by omega)
theorem gr_sub {l m : List (Nat × Nat)} (h : l.Sublist m) : (GR l).Sublist m := List.filter_sublist.trans h
theorem ar_sub (n : Nat) (x : Nat → Int) (far : Int) : (AR n x far).Sublist (Prs n) := List.filter_sublist
section
variable {c : Cl} {n : Nat} (hn : Nn n)
include hn
theorem sub_len {l : List (Nat × Nat)} (h : l.Sublist (Prs n)) : l.length ≤ 10 := Nat.le_trans h.length_le (prs_len hn)
theorem run5 {l : List (Nat × Nat)} (h : l.Sublist (Prs n)) : exL false c b5 [some (.list (l.map pD)), none, none, none, none, none] = ret (.ret (.tuple ((GR l).map pD))) := by
  have ll := sub_len hn h
  obtain ⟨j', e⟩ := forL_acc (J := Option D × Option D) (body := fTurn false c (.tup [.name 2, .name 3]) [.ite (.not (.bi .any [.comp (.tup [.name 4, .name 5]) (.var 0) none (.and (.cmp .le (.var 4) (.var 2)) (.and (.cmp .le (.var 3) (.var 5)) (.cmp .ne (.tup [.var 4, .var 5]) (.tup [.var 2, .var 3]))))])) [.app 1 (.tup [.var 2, .var 3])] []]) (g := pD) (h := fun a => if !l.any (fun b => decide (b.1 ≤ a.1) && (decide (a.2 ≤ b.2) && !decide (b = a))) then [pD a] else [])
    (fun acc j => [some (.list (l.map pD)), some (.list acc), j.1, j.2, none, none]) (fun a => by split <;> simp) l [] (none, none) (by rw [List.length_nil]; omega) fun acc j a ha hl => by
    refine ⟨(some (nd a.1), some (nd a.2)), ?_⟩
    have tg : tgSet (.tup [.name 2, .name 3]) (pD a) [some (.list (l.map pD)), some (.list acc), j.1, j.2, none, none] = some [some (.list (l.map pD)), some (.list acc), some (nd a.1), some (nd a.2), none, none] := rfl
    rw [q_turnF, tg, lift_ok, bnd_ret]
    have ec : evE false c (.comp (.tup [.name 4, .name 5]) (.var 0) none (.and (.cmp .le (.var 4) (.var 2)) (.and (.cmp .le (.var 3) (.var 5)) (.cmp .ne (.tup [.var 4, .var 5]) (.tup [.var 2, .var 3]))))) [some (.list (l.map pD)), some (.list acc), some (nd a.1), some (nd a.2), none, none] = ret (.list (l.map fun b => .bool (decide (b.1 ≤ a.1) && (decide (a.2 ≤ b.2) && !decide (b = a))))) := by
      refine evE_compM (ws := l) (g := pD) (d := .list (l.map pD)) rfl rfl (by omega) fun b hb => ⟨[some (.list (l.map pD)), some (.list acc), some (nd a.1), some (nd a.2), some (nd b.1), some (nd b.2)], rfl, ?_⟩
      have pd : ∀ a : Nat × Nat, PyData.tuple [nd a.1, nd a.2] = pD a := fun _ => rfl
      simp only [q_non, q_bl, q_int, q_str, q_var, q_op, q_not, q_and, q_or, q_ite, q_cmp, q_chain, q_tup, q_lst, q_idx, q_slc, q_rev, q_call, q_bi, q_meth, q_isi, q_lnil, q_lcons, q_lstar, q_o0, q_o1, q_t0, q_t1, q_snil, q_scons, q_thenN, q_thenR, q_asg, q_new, q_asNew, q_par, q_parN, q_app, q_ext, q_asExt, q_pop, q_set, q_aug, q_ret, q_if, q_pass, q_getD0, q_getD1, q_set0, q_set1, q_tgN, q_tgT, q_tgL, q_tg0, q_tg1, q_sv0, q_sv1, q_tb, q_ti, q_tl, q_tt, q_add, q_sub, q_lt, q_le, q_gt, q_ge, q_eqI, q_neI, q_lenL, q_lenT, q_tupL, q_tupT, q_lstL, q_lstT, q_seqL, q_seqT, q_revL, q_revT, q_intI, q_intB, q_size0, q_size1, q_size2, q_size3, q_size4, q_size5, q_size6, q_size7, q_size8, q_size9, q_news0, q_newsT, q_newsF, q_augA, q_augS, q_io0, q_io1, q_slcL, q_slcT, q_mapL0, q_mapL1, q_cons1, q_cons0, q_turn, q_dps, q_dpsL, q_idxD, q_sortT, q_sortL, q_isN, q_notN, q_nonN, q_nonI, q_nonT, q_nonL, q_nonB, q_nonS, q_neB, q_eqB, q_negI, q_absI, bnd_ret, lift_ok, Option.bind_some, Option.map_some, if_true, if_false, ↓reduceIte, Bool.false_eq_true, Bool.not_true, Bool.not_false, Option.bind_none, le_nd, pd, ne_pD]
      cases decide (b.1 ≤ a.1) <;> cases decide (a.2 ≤ b.2) <;> rfl
    have eq : evE false c (.not (.bi .any [.comp (.tup [.name 4, .name 5]) (.var 0) none (.and (.cmp .le (.var 4) (.var 2)) (.and (.cmp .le (.var 3) (.var 5)) (.cmp .ne (.tup [.var 4, .var 5]) (.tup [.var 2, .var 3]))))])) [some (.list (l.map pD)), some (.list acc), some (nd a.1), some (nd a.2), none, none] = ret (.bool (!l.any (fun b => decide (b.1 ≤ a.1) && (decide (a.2 ≤ b.2) && !decide (b = a))))) := by
      rw [q_not, q_bi, q_lcons rfl, ec, bnd_ret]
      simp only [q_non, q_bl, q_int, q_str, q_var, q_op, q_not, q_and, q_or, q_ite, q_cmp, q_chain, q_tup, q_lst, q_idx, q_slc, q_rev, q_call, q_bi, q_meth, q_isi, q_lnil, q_lcons, q_lstar, q_o0, q_o1, q_t0, q_t1, q_snil, q_scons, q_thenN, q_thenR, q_asg, q_new, q_asNew, q_par, q_parN, q_app, q_ext, q_asExt, q_pop, q_set, q_aug, q_ret, q_if, q_pass, q_getD0, q_getD1, q_set0, q_set1, q_tgN, q_tgT, q_tgL, q_tg0, q_tg1, q_sv0, q_sv1, q_tb, q_ti, q_tl, q_tt, q_add, q_sub, q_lt, q_le, q_gt, q_ge, q_eqI, q_neI, q_lenL, q_lenT, q_tupL, q_tupT, q_lstL, q_lstT, q_seqL, q_seqT, q_revL, q_revT, q_intI, q_intB, q_size0, q_size1, q_size2, q_size3, q_size4, q_size5, q_size6, q_size7, q_size8, q_size9, q_news0, q_newsT, q_newsF, q_augA, q_augS, q_io0, q_io1, q_slcL, q_slcT, q_mapL0, q_mapL1, q_cons1, q_cons0, q_turn, q_dps, q_dpsL, q_idxD, q_sortT, q_sortL, q_isN, q_notN, q_nonN, q_nonI, q_nonT, q_nonL, q_nonB, q_nonS, q_neB, q_eqB, q_negI, q_absI, bnd_ret, lift_ok, Option.bind_some, Option.map_some, if_true, if_false, ↓reduceIte, Bool.false_eq_true, Bool.not_true, Bool.not_false, Option.bind_none, any_map]
    rw [q_scons, exS_if eq rfl]
    cases l.any (fun b => decide (b.1 ≤ a.1) && (decide (a.2 ≤ b.2) && !decide (b = a))) with
    | true => simp only [Bool.not_true, Bool.false_eq_true, if_false, List.append_nil]; rfl
    | false =>
      simp only [q_non, q_bl, q_int, q_str, q_var, q_op, q_not, q_and, q_or, q_ite, q_cmp, q_chain, q_tup, q_lst, q_idx, q_slc, q_rev, q_call, q_bi, q_meth, q_isi, q_lnil, q_lcons, q_lstar, q_o0, q_o1, q_t0, q_t1, q_snil, q_scons, q_thenN, q_thenR, q_asg, q_new, q_asNew, q_par, q_parN, q_app, q_ext, q_asExt, q_pop, q_set, q_aug, q_ret, q_if, q_pass, q_getD0, q_getD1, q_set0, q_set1, q_tgN, q_tgT, q_tgL, q_tg0, q_tg1, q_sv0, q_sv1, q_tb, q_ti, q_tl, q_tt, q_add, q_sub, q_lt, q_le, q_gt, q_ge, q_eqI, q_neI, q_lenL, q_lenT, q_tupL, q_tupT, q_lstL, q_lstT, q_seqL, q_seqT, q_revL, q_revT, q_intI, q_intB, q_size0, q_size1, q_size2, q_size3, q_size4, q_size5, q_size6, q_size7, q_size8, q_size9, q_news0, q_newsT, q_newsF, q_augA, q_augS, q_io0, q_io1, q_slcL, q_slcT, q_mapL0, q_mapL1, q_cons1, q_cons0, q_turn, q_dps, q_dpsL, q_idxD, q_sortT, q_sortL, q_isN, q_notN, q_nonN, q_nonI, q_nonT, q_nonL, q_nonB, q_nonS, q_neB, q_eqB, q_negI, q_absI, bnd_ret, lift_ok, Option.bind_some, Option.map_some, if_true, if_false, ↓reduceIte, Bool.false_eq_true, Bool.not_true, Bool.not_false, Option.bind_none]
      rw [q_lstAt (xs := acc) rfl]
      simp only [q_non, q_bl, q_int, q_str, q_var, q_op, q_not, q_and, q_or, q_ite, q_cmp, q_chain, q_tup, q_lst, q_idx, q_slc, q_rev, q_call, q_bi, q_meth, q_isi, q_lnil, q_lcons, q_lstar, q_o0, q_o1, q_t0, q_t1, q_snil, q_scons, q_thenN, q_thenR, q_asg, q_new, q_asNew, q_par, q_parN, q_app, q_ext, q_asExt, q_pop, q_set, q_aug, q_ret, q_if, q_pass, q_getD0, q_getD1, q_set0, q_set1, q_tgN, q_tgT, q_tgL, q_tg0, q_tg1, q_sv0, q_sv1, q_tb, q_ti, q_tl, q_tt, q_add, q_sub, q_lt, q_le, q_gt, q_ge, q_eqI, q_neI, q_lenL, q_lenT, q_tupL, q_tupT, q_lstL, q_lstT, q_seqL, q_seqT, q_revL, q_revT, q_intI, q_intB, q_size0, q_size1, q_size2, q_size3, q_size4, q_size5, q_size6, q_size7, q_size8, q_size9, q_news0, q_newsT, q_newsF, q_augA, q_augS, q_io0, q_io1, q_slcL, q_slcT, q_mapL0, q_mapL1, q_cons1, q_cons0, q_turn, q_dps, q_dpsL, q_idxD, q_sortT, q_sortL, q_isN, q_notN, q_nonN, q_nonI, q_nonT, q_nonL, q_nonB, q_nonS, q_neB, q_eqB, q_negI, q_absI, bnd_ret, lift_ok, Option.bind_some, Option.map_some, if_true, if_false, ↓reduceIte, Bool.false_eq_true, Bool.not_true, Bool.not_false, Option.bind_none]
      rw [q_small (by omega)]
      simp only [q_non, q_bl, q_int, q_str, q_var, q_op, q_not, q_and, q_or, q_ite, q_cmp, q_chain, q_tup, q_lst, q_idx, q_slc, q_rev, q_call, q_bi, q_meth, q_isi, q_lnil, q_lcons, q_lstar, q_o0, q_o1, q_t0, q_t1, q_snil, q_scons, q_thenN, q_thenR, q_asg, q_new, q_asNew, q_par, q_parN, q_app, q_ext, q_asExt, q_pop, q_set, q_aug, q_ret, q_if, q_pass, q_getD0, q_getD1, q_set0, q_set1, q_tgN, q_tgT, q_tgL, q_tg0, q_tg1, q_sv0, q_sv1, q_tb, q_ti, q_tl, q_tt, q_add, q_sub, q_lt, q_le, q_gt, q_ge, q_eqI, q_neI, q_lenL, q_lenT, q_tupL, q_tupT, q_lstL, q_lstT, q_seqL, q_seqT, q_revL, q_revT, q_intI, q_intB, q_size0, q_size1, q_size2, q_size3, q_size4, q_size5, q_size6, q_size7, q_size8, q_size9, q_news0, q_newsT, q_newsF, q_augA, q_augS, q_io0, q_io1, q_slcL, q_slcT, q_mapL0, q_mapL1, q_cons1, q_cons0, q_turn, q_dps, q_dpsL, q_idxD, q_sortT, q_sortL, q_isN, q_notN, q_nonN, q_nonI, q_nonT, q_nonL, q_nonB, q_nonS, q_neB, q_eqB, q_negI, q_absI, bnd_ret, lift_ok, Option.bind_some, Option.map_some, if_true, if_false, ↓reduceIte, Bool.false_eq_true, Bool.not_true, Bool.not_false, Option.bind_none]
      rfl
  unfold b5
  simp only [q_non, q_bl, q_int, q_str, q_var, q_op, q_not, q_and, q_or, q_ite, q_cmp, q_chain, q_tup, q_lst, q_idx, q_slc, q_rev, q_call, q_bi, q_meth, q_isi, q_lnil, q_lcons, q_lstar, q_o0, q_o1, q_t0, q_t1, q_snil, q_scons, q_thenN, q_thenR, q_asg, q_new, q_asNew, q_par, q_parN, q_app, q_ext, q_asExt, q_pop, q_set, q_aug, q_ret, q_if, q_pass, q_getD0, q_getD1, q_set0, q_set1, q_tgN, q_tgT, q_tgL, q_tg0, q_tg1, q_sv0, q_sv1, q_tb, q_ti, q_tl, q_tt, q_add, q_sub, q_lt, q_le, q_gt, q_ge, q_eqI, q_neI, q_lenL, q_lenT, q_tupL, q_tupT, q_lstL, q_lstT, q_seqL, q_seqT, q_revL, q_revT, q_intI, q_intB, q_size0, q_size1, q_size2, q_size3, q_size4, q_size5, q_size6, q_size7, q_size8, q_size9, q_news0, q_newsT, q_newsF, q_augA, q_augS, q_io0, q_io1, q_slcL, q_slcT, q_mapL0, q_mapL1, q_cons1, q_cons0, q_turn, q_dps, q_dpsL, q_idxD, q_sortT, q_sortL, q_isN, q_notN, q_nonN, q_nonI, q_nonT, q_nonL, q_nonB, q_nonS, q_neB, q_eqB, q_negI, q_absI, bnd_ret, lift_ok, Option.bind_some, Option.map_some, if_true, if_false, ↓reduceIte, Bool.false_eq_true, Bool.not_true, Bool.not_false, Option.bind_none, q_for]
  rw [e, List.nil_append, bnd_ret, flat_if]
  have es := sorted_part hn (gr_sub h)
  have g : l.filter (fun a => !l.any (fun b => decide (b.1 ≤ a.1) && (decide (a.2 ≤ b.2) && !decide (b = a)))) = GR l := rfl
  rw [g]
  simp only [q_non, q_bl, q_int, q_str, q_var, q_op, q_not, q_and, q_or, q_ite, q_cmp, q_chain, q_tup, q_lst, q_idx, q_slc, q_rev, q_call, q_bi, q_meth, q_isi, q_lnil, q_lcons, q_lstar, q_o0, q_o1, q_t0, q_t1, q_snil, q_scons, q_thenN, q_thenR, q_asg, q_new, q_asNew, q_par, q_parN, q_app, q_ext, q_asExt, q_pop, q_set, q_aug, q_ret, q_if, q_pass, q_getD0, q_getD1, q_set0, q_set1, q_tgN, q_tgT, q_tgL, q_tg0, q_tg1, q_sv0, q_sv1, q_tb, q_ti, q_tl, q_tt, q_add, q_sub, q_lt, q_le, q_gt, q_ge, q_eqI, q_neI, q_lenL, q_lenT, q_tupL, q_tupT, q_lstL, q_lstT, q_seqL, q_seqT, q_revL, q_revT, q_intI, q_intB, q_size0, q_size1, q_size2, q_size3, q_size4, q_size5, q_size6, q_size7, q_size8, q_size9, q_news0, q_newsT, q_newsF, q_augA, q_augS, q_io0, q_io1, q_slcL, q_slcT, q_mapL0, q_mapL1, q_cons1, q_cons0, q_turn, q_dps, q_dpsL, q_idxD, q_sortT, q_sortL, q_isN, q_notN, q_nonN, q_nonI, q_nonT, q_nonL, q_nonB, q_nonS, q_neB, q_eqB, q_negI, q_absI, bnd_ret, lift_ok, Option.bind_some, Option.map_some, if_true, if_false, ↓reduceIte, Bool.false_eq_true, Bool.not_true, Bool.not_false, Option.bind_none, es]
variable {x : Nat → Int} {far : Int} (P : Pt n x far)
include P
theorem row_idx {p : Nat} (hp : p < n) : idxV (tD (row n x)) (nd p) = some (nd ((row n x).getD p 0)) := by
  have h : p < (row n x).length := by rw [row_len P]; exact hp
  show idxV (.list ((row n x).map nd)) (.int (p : Int)) = _
  refine idxV_nat ?_
  rw [List.getElem?_map, List.getElem?_eq_getElem h]
  simp [h]
theorem run6 (h0 : c 0 [nd n] = ret (.list ((Prs n).map pD))) (h3 : c 3 [nd n, SGD n x far] = ret (KN n x far)) (h4 : c 4 [nd n, SGD n x far] = ret (tD (row n x))) (h5 : ∀ l : List (Nat × Nat), l.Sublist (Prs n) → c 5 [.list (l.map pD)] = ret (.tuple ((GR l).map pD))) :
    exL false c b6 [some (nd n), some (SGD n x far), none, none, none, none, none] = ret (.ret (.tuple ((GR (AR n x far)).map pD))) := by
  have pl := prs_len hn
  have ec : evE false c (.comp (.tup [.name 5, .name 6]) (.call 0 [.var 0]) (some (.and (.cmp .lt (.idx (.var 3) (.var 5)) (.idx (.var 3) (.var 6))) (.cmp .eq (.idx (.idx (.var 2) (.tup [.idx (.var 3) (.var 5), .idx (.var 3) (.var 6)])) (.int 1)) (.neg (.int 1))))) (.tup [.var 5, .var 6])) [some (nd n), some (SGD n x far), some (KN n x far), some (tD (row n x)), none, none, none] = ret (.list ((AR n x far).map pD)) := by
    refine evE_compF (ws := Prs n) (g := pD) (h := pD) (d := .list ((Prs n).map pD)) (by simp only [q_non, q_bl, q_int, q_str, q_var, q_op, q_not, q_and, q_or, q_ite, q_cmp, q_chain, q_tup, q_lst, q_idx, q_slc, q_rev, q_call, q_bi, q_meth, q_isi, q_lnil, q_lcons, q_lstar, q_o0, q_o1, q_t0, q_t1, q_snil, q_scons, q_thenN, q_thenR, q_asg, q_new, q_asNew, q_par, q_parN, q_app, q_ext, q_asExt, q_pop, q_set, q_aug, q_ret, q_if, q_pass, q_getD0, q_getD1, q_set0, q_set1, q_tgN, q_tgT, q_tgL, q_tg0, q_tg1, q_sv0, q_sv1, q_tb, q_ti, q_tl, q_tt, q_add, q_sub, q_lt, q_le, q_gt, q_ge, q_eqI, q_neI, q_lenL, q_lenT, q_tupL, q_tupT, q_lstL, q_lstT, q_seqL, q_seqT, q_revL, q_revT, q_intI, q_intB, q_size0, q_size1, q_size2, q_size3, q_size4, q_size5, q_size6, q_size7, q_size8, q_size9, q_news0, q_newsT, q_newsF, q_augA, q_augS, q_io0, q_io1, q_slcL, q_slcT, q_mapL0, q_mapL1, q_cons1, q_cons0, q_turn, q_dps, q_dpsL, q_idxD, q_sortT, q_sortL, q_isN, q_notN, q_nonN, q_nonI, q_nonT, q_nonL, q_nonB, q_nonS, q_neB, q_eqB, q_negI, q_absI, bnd_ret, lift_ok, Option.bind_some, Option.map_some, if_true, if_false, ↓reduceIte, Bool.false_eq_true, Bool.not_true, Bool.not_false, Option.bind_none, h0]) rfl (by omega) fun a ha => ⟨[some (nd n), some (SGD n x far), some (KN n x far), some (tD (row n x)), none, some (nd a.1), some (nd a.2)], rfl, ?_, fun _ => rfl⟩
    obtain ⟨h1, h2⟩ := mem_prs.mp (show (a.1, a.2) ∈ Prs n from ha)
    have i1 := row_idx hn P (show a.1 < n by omega)
    have i2 := row_idx hn P h2
    have r1 := row_lt P (show a.1 < n by omega)
    have r2 := row_lt P h2
    generalize (row n x).getD a.1 0 = i at *
    generalize (row n x).getD a.2 0 = j at *
    by_cases h : i < j
    · have k := kn_idx (x := x) (far := far) h r2
      have k1 : idxV (.tuple [.int (x i - x j).sign, .int (x i - x j - far).sign]) (.int 1) = some (.int (x i - x j - far).sign) := rfl
      have c3 : decide ((x i - x j - far).sign = -1) = decide (x i - x j < far) := decide_eq_decide.mpr (by rw [Int.sign_eq_neg_one_iff_neg]; omega)
      simp only [q_non, q_bl, q_int, q_str, q_var, q_op, q_not, q_and, q_or, q_ite, q_cmp, q_chain, q_tup, q_lst, q_idx, q_slc, q_rev, q_call, q_bi, q_meth, q_isi, q_lnil, q_lcons, q_lstar, q_o0, q_o1, q_t0, q_t1, q_snil, q_scons, q_thenN, q_thenR, q_asg, q_new, q_asNew, q_par, q_parN, q_app, q_ext, q_asExt, q_pop, q_set, q_aug, q_ret, q_if, q_pass, q_getD0, q_getD1, q_set0, q_set1, q_tgN, q_tgT, q_tgL, q_tg0, q_tg1, q_sv0, q_sv1, q_tb, q_ti, q_tl, q_tt, q_add, q_sub, q_lt, q_le, q_gt, q_ge, q_eqI, q_neI, q_lenL, q_lenT, q_tupL, q_tupT, q_lstL, q_lstT, q_seqL, q_seqT, q_revL, q_revT, q_intI, q_intB, q_size0, q_size1, q_size2, q_size3, q_size4, q_size5, q_size6, q_size7, q_size8, q_size9, q_news0, q_newsT, q_newsF, q_augA, q_augS, q_io0, q_io1, q_slcL, q_slcT, q_mapL0, q_mapL1, q_cons1, q_cons0, q_turn, q_dps, q_dpsL, q_idxD, q_sortT, q_sortL, q_isN, q_notN, q_nonN, q_nonI, q_nonT, q_nonL, q_nonB, q_nonS, q_neB, q_eqB, q_negI, q_absI, bnd_ret, lift_ok, Option.bind_some, Option.map_some, if_true, if_false, ↓reduceIte, Bool.false_eq_true, Bool.not_true, Bool.not_false, Option.bind_none, i1, i2, lt_nd, h, decide_true, k, k1, c3]
      rfl
    · simp only [q_non, q_bl, q_int, q_str, q_var, q_op, q_not, q_and, q_or, q_ite, q_cmp, q_chain, q_tup, q_lst, q_idx, q_slc, q_rev, q_call, q_bi, q_meth, q_isi, q_lnil, q_lcons, q_lstar, q_o0, q_o1, q_t0, q_t1, q_snil, q_scons, q_thenN, q_thenR, q_asg, q_new, q_asNew, q_par, q_parN, q_app, q_ext, q_asExt, q_pop, q_set, q_aug, q_ret, q_if, q_pass, q_getD0, q_getD1, q_set0, q_set1, q_tgN, q_tgT, q_tgL, q_tg0, q_tg1, q_sv0, q_sv1, q_tb, q_ti, q_tl, q_tt, q_add, q_sub, q_lt, q_le, q_gt, q_ge, q_eqI, q_neI, q_lenL, q_lenT, q_tupL, q_tupT, q_lstL, q_lstT, q_seqL, q_seqT, q_revL, q_revT, q_intI, q_intB, q_size0, q_size1, q_size2, q_size3, q_size4, q_size5, q_size6, q_size7, q_size8, q_size9, q_news0, q_newsT, q_newsF, q_augA, q_augS, q_io0, q_io1, q_slcL, q_slcT, q_mapL0, q_mapL1, q_cons1, q_cons0, q_turn, q_dps, q_dpsL, q_idxD, q_sortT, q_sortL, q_isN, q_notN, q_nonN, q_nonI, q_nonT, q_nonL, q_nonB, q_nonS, q_neB, q_eqB, q_negI, q_absI, bnd_ret, lift_ok, Option.bind_some, Option.map_some, if_true, if_false, ↓reduceIte, Bool.false_eq_true, Bool.not_true, Bool.not_false, Option.bind_none, i1, i2, lt_nd, h, decide_false]
      rfl
  unfold b6
  simp only [q_non, q_bl, q_int, q_str, q_var, q_op, q_not, q_and, q_or, q_ite, q_cmp, q_chain, q_tup, q_lst, q_idx, q_slc, q_rev, q_call, q_bi, q_meth, q_isi, q_lnil, q_lcons, q_lstar, q_o0, q_o1, q_t0, q_t1, q_snil, q_scons, q_thenN, q_thenR, q_asg, q_new, q_asNew, q_par, q_parN, q_app, q_ext, q_asExt, q_pop, q_set, q_aug, q_ret, q_if, q_pass, q_getD0, q_getD1, q_set0, q_set1, q_tgN, q_tgT, q_tgL, q_tg0, q_tg1, q_sv0, q_sv1, q_tb, q_ti, q_tl, q_tt, q_add, q_sub, q_lt, q_le, q_gt, q_ge, q_eqI, q_neI, q_lenL, q_lenT, q_tupL, q_tupT, q_lstL, q_lstT, q_seqL, q_seqT, q_revL, q_revT, q_intI, q_intB, q_size0, q_size1, q_size2, q_size3, q_size4, q_size5, q_size6, q_size7, q_size8, q_size9, q_news0, q_newsT, q_newsF, q_augA, q_augS, q_io0, q_io1, q_slcL, q_slcT, q_mapL0, q_mapL1, q_cons1, q_cons0, q_turn, q_dps, q_dpsL, q_idxD, q_sortT, q_sortL, q_isN, q_notN, q_nonN, q_nonI, q_nonT, q_nonL, q_nonB, q_nonS, q_neB, q_eqB, q_negI, q_absI, bnd_ret, lift_ok, Option.bind_some, Option.map_some, if_true, if_false, ↓reduceIte, Bool.false_eq_true, Bool.not_true, Bool.not_false, Option.bind_none, h3, h4, ec, h5 _ (ar_sub n x far)]
end
end Fz.K82x
namespace Fz.K82x
open PySem Fz Fz.K82 Fz.Sh
theorem same_nd (a b : Nat) : sameK (nd a) (nd b) = decide (a = b) := by
  show decide ((a : Int) = (b : Int)) = _
  exact decide_eq_decide.mpr (by omega)
theorem pairs_map {α : Type} (κ g : α → D) : ∀ L : List α, pairsOf (L.map fun t => .tuple [κ t, g t]) = some (L.map fun t => (κ t, g t))
  | [] => rfl
  | t :: r => by
    show (pairsOf (r.map fun t => .tuple [κ t, g t])).map _ = _
    rw [pairs_map κ g r]; rfl
/-- where numbers stand -/
def PLD (rw : List Nat) : D := .dict (rw.map fun i => (nd i, nd (rw.idxOf i)))
theorem pl_idx {rw : List Nat} {i : Nat} (h : i ∈ rw) : idxV (PLD rw) (nd i) = some (nd (rw.idxOf i)) := by
  unfold PLD
  rw [q_idxD]
  exact atD_map (κ := nd) (g := fun i => nd (rw.idxOf i)) same_nd rw h
theorem pl_dps {rw : List Nat} (hd : rw.Nodup) (hl : rw.length ≤ 100) : dpsV (.list (rw.map fun i => .tuple [nd i, nd (rw.idxOf i)])) = some (PLD rw) := by
  rw [q_dpsL, pairs_map nd (fun i => nd (rw.idxOf i)), Option.bind_some]
  unfold dictOf
  have e1 : ((rw.map fun i => (nd i, nd (rw.idxOf i))).all fun p => isIK p.1) = true := by
    rw [List.all_map, List.all_eq_true]
    exact fun x _ => rfl
  have e2 : small (rw.map fun i => (nd i, nd (rw.idxOf i))).length = true := decide_eq_true (by rw [List.length_map]; omega)
  rw [e1, e2, mergeD_nodup (g := fun i => nd (rw.idxOf i)) same_nd hd]; rfl
theorem enum_rng (f : Nat → D) (n : Nat) : enumL 0 ((List.range n).map f) = (List.range n).map fun i => .tuple [nd i, f i] := by
  rw [List.range_eq_range']
  exact enumL_range' f n 0
theorem enum_row {rw : List Nat} (hd : rw.Nodup) : enumL 0 (rw.map nd) = rw.map fun i => .tuple [nd (rw.idxOf i), nd i] := by
  have e : rw.map nd = (List.range rw.length).map fun p => nd (rw.getD p 0) := by
    refine List.ext_getElem (by simp) fun i h1 h2 => ?_
    have hi : i < rw.length := by simpa using h1
    rw [List.getElem_map, List.getElem_map, List.getElem_range]
    simp [hi]
  rw [e, enum_rng]
  refine List.ext_getElem (by simp) fun i h1 h2 => ?_
  have hi : i < rw.length := by simpa using h1
  rw [List.getElem_map, List.getElem_map, List.getElem_range, List.Nodup.idxOf_getElem hd i hi]
  simp [hi]
section
variable {c : Cl} {n : Nat} (hn : Nn n)
include hn
theorem run7 {rw : List Nat} (hr : rw.Perm (List.range n)) {g : List (Nat × Nat)} (hg : g.length ≤ 100) (h0 : c 0 [nd n] = ret (.list ((Prs n).map pD))) :
    exL false c b7 [some (tD rw), some (.tuple (g.map pD)), none, none, none, none, none, none, none] = ret (.ret (.tuple ((RB n rw g).map .int))) := by
  have pl := prs_len hn
  have b5 := n5 hn
  have rl : rw.length = n := by rw [hr.length_eq, List.length_range]
  have rd : rw.Nodup := hr.nodup_iff.mpr List.nodup_range
  have rm : ∀ i, i < n → i ∈ rw := fun i hi => hr.mem_iff.mpr (List.mem_range.mpr hi)
  have ep : evE false c (.dps (.comp (.tup [.name 4, .name 5]) (.enum (.var 0)) none (.tup [.var 5, .var 4]))) [some (tD rw), some (.tuple (g.map pD)), none, none, none, none, none, none, none] = ret (PLD rw) := by
    have e : evE false c (.comp (.tup [.name 4, .name 5]) (.enum (.var 0)) none (.tup [.var 5, .var 4])) [some (tD rw), some (.tuple (g.map pD)), none, none, none, none, none, none, none] = ret (.list (rw.map fun i => .tuple [nd i, nd (rw.idxOf i)])) := by
      refine evE_compM (ws := rw) (g := fun i => .tuple [nd (rw.idxOf i), nd i]) (d := .list (rw.map fun i => .tuple [nd (rw.idxOf i), nd i])) ?_ rfl (by omega) fun i hi => ⟨_, rfl, rfl⟩
      have sq : seqOf (tD rw) = some (rw.map nd) := rfl
      rw [q_enum]
      simp only [q_non, q_bl, q_int, q_str, q_var, q_op, q_not, q_and, q_or, q_ite, q_cmp, q_chain, q_tup, q_lst, q_idx, q_slc, q_rev, q_call, q_bi, q_meth, q_isi, q_lnil, q_lcons, q_lstar, q_o0, q_o1, q_t0, q_t1, q_snil, q_scons, q_thenN, q_thenR, q_asg, q_new, q_asNew, q_par, q_parN, q_app, q_ext, q_asExt, q_pop, q_set, q_aug, q_ret, q_if, q_pass, q_getD0, q_getD1, q_set0, q_set1, q_tgN, q_tgT, q_tgL, q_tg0, q_tg1, q_sv0, q_sv1, q_tb, q_ti, q_tl, q_tt, q_add, q_sub, q_lt, q_le, q_gt, q_ge, q_eqI, q_neI, q_lenL, q_lenT, q_tupL, q_tupT, q_lstL, q_lstT, q_seqL, q_seqT, q_revL, q_revT, q_intI, q_intB, q_size0, q_size1, q_size2, q_size3, q_size4, q_size5, q_size6, q_size7, q_size8, q_size9, q_news0, q_newsT, q_newsF, q_augA, q_augS, q_io0, q_io1, q_slcL, q_slcT, q_mapL0, q_mapL1, q_cons1, q_cons0, q_turn, q_dps, q_dpsL, q_idxD, q_sortT, q_sortL, q_isN, q_notN, q_nonN, q_nonI, q_nonT, q_nonL, q_nonB, q_nonS, q_neB, q_eqB, q_negI, q_absI, bnd_ret, lift_ok, Option.bind_some, Option.map_some, if_true, if_false, ↓reduceIte, Bool.false_eq_true, Bool.not_true, Bool.not_false, Option.bind_none, sq, enum_row rd]
    simp only [q_non, q_bl, q_int, q_str, q_var, q_op, q_not, q_and, q_or, q_ite, q_cmp, q_chain, q_tup, q_lst, q_idx, q_slc, q_rev, q_call, q_bi, q_meth, q_isi, q_lnil, q_lcons, q_lstar, q_o0, q_o1, q_t0, q_t1, q_snil, q_scons, q_thenN, q_thenR, q_asg, q_new, q_asNew, q_par, q_parN, q_app, q_ext, q_asExt, q_pop, q_set, q_aug, q_ret, q_if, q_pass, q_getD0, q_getD1, q_set0, q_set1, q_tgN, q_tgT, q_tgL, q_tg0, q_tg1, q_sv0, q_sv1, q_tb, q_ti, q_tl, q_tt, q_add, q_sub, q_lt, q_le, q_gt, q_ge, q_eqI, q_neI, q_lenL, q_lenT, q_tupL, q_tupT, q_lstL, q_lstT, q_seqL, q_seqT, q_revL, q_revT, q_intI, q_intB, q_size0, q_size1, q_size2, q_size3, q_size4, q_size5, q_size6, q_size7, q_size8, q_size9, q_news0, q_newsT, q_newsF, q_augA, q_augS, q_io0, q_io1, q_slcL, q_slcT, q_mapL0, q_mapL1, q_cons1, q_cons0, q_turn, q_dps, q_dpsL, q_idxD, q_sortT, q_sortL, q_isN, q_notN, q_nonN, q_nonI, q_nonT, q_nonL, q_nonB, q_nonS, q_neB, q_eqB, q_negI, q_absI, bnd_ret, lift_ok, Option.bind_some, Option.map_some, if_true, if_false, ↓reduceIte, Bool.false_eq_true, Bool.not_true, Bool.not_false, Option.bind_none, e, pl_dps rd (show rw.length ≤ 100 by omega)]
  have el : biV .len [tD rw] = some (nd n) := by
    show some (PyData.int ((rw.map nd).length : Nat)) = _
    rw [List.length_map, rl]; rfl
  obtain ⟨j', e⟩ := forL_acc (J := Option D × Option D × Option D) (body := fTurn false c (.tup [.name 5, .name 6]) [.ite (.cmp .gt (.idx (.var 2) (.var 5)) (.idx (.var 2) (.var 6))) [.ext 3 (.lst [.neg (.int 1), .neg (.int 1)])] [.asg (.name 7) (.bi .any [.comp (.tup [.name 4, .name 8]) (.var 1) none (.and (.cmp .le (.var 4) (.idx (.var 2) (.var 5))) (.cmp .le (.idx (.var 2) (.var 6)) (.var 8)))]), .ext 3 (.lst [.int 1, .ite (.var 7) (.neg (.int 1)) (.int 1)])]]) (g := pD)
    (h := fun a => (if rw.idxOf a.2 < rw.idxOf a.1 then [-1, -1] else [1, if g.any (fun b => decide (b.1 ≤ rw.idxOf a.1) && decide (rw.idxOf a.2 ≤ b.2)) then -1 else 1]).map PyData.int)
    (fun acc j => [some (tD rw), some (.tuple (g.map pD)), some (PLD rw), some (.list acc), none, j.1, j.2.1, j.2.2, none]) (fun a => by split <;> simp) (Prs n) [] (none, none, none) (by rw [List.length_nil]; omega) fun acc j a ha hl => by
    obtain ⟨h1, h2⟩ := mem_prs.mp (show (a.1, a.2) ∈ Prs n from ha)
    have i1 := pl_idx (rm a.1 (by omega))
    have i2 := pl_idx (rm a.2 h2)
    have tg : tgSet (.tup [.name 5, .name 6]) (pD a) [some (tD rw), some (.tuple (g.map pD)), some (PLD rw), some (.list acc), none, j.1, j.2.1, j.2.2, none] = some [some (tD rw), some (.tuple (g.map pD)), some (PLD rw), some (.list acc), none, some (nd a.1), some (nd a.2), j.2.2, none] := rfl
    have eq : evE false c (.cmp .gt (.idx (.var 2) (.var 5)) (.idx (.var 2) (.var 6))) [some (tD rw), some (.tuple (g.map pD)), some (PLD rw), some (.list acc), none, some (nd a.1), some (nd a.2), j.2.2, none] = ret (.bool (decide (rw.idxOf a.2 < rw.idxOf a.1))) := by
      simp only [q_non, q_bl, q_int, q_str, q_var, q_op, q_not, q_and, q_or, q_ite, q_cmp, q_chain, q_tup, q_lst, q_idx, q_slc, q_rev, q_call, q_bi, q_meth, q_isi, q_lnil, q_lcons, q_lstar, q_o0, q_o1, q_t0, q_t1, q_snil, q_scons, q_thenN, q_thenR, q_asg, q_new, q_asNew, q_par, q_parN, q_app, q_ext, q_asExt, q_pop, q_set, q_aug, q_ret, q_if, q_pass, q_getD0, q_getD1, q_set0, q_set1, q_tgN, q_tgT, q_tgL, q_tg0, q_tg1, q_sv0, q_sv1, q_tb, q_ti, q_tl, q_tt, q_add, q_sub, q_lt, q_le, q_gt, q_ge, q_eqI, q_neI, q_lenL, q_lenT, q_tupL, q_tupT, q_lstL, q_lstT, q_seqL, q_seqT, q_revL, q_revT, q_intI, q_intB, q_size0, q_size1, q_size2, q_size3, q_size4, q_size5, q_size6, q_size7, q_size8, q_size9, q_news0, q_newsT, q_newsF, q_augA, q_augS, q_io0, q_io1, q_slcL, q_slcT, q_mapL0, q_mapL1, q_cons1, q_cons0, q_turn, q_dps, q_dpsL, q_idxD, q_sortT, q_sortL, q_isN, q_notN, q_nonN, q_nonI, q_nonT, q_nonL, q_nonB, q_nonS, q_neB, q_eqB, q_negI, q_absI, bnd_ret, lift_ok, Option.bind_some, Option.map_some, if_true, if_false, ↓reduceIte, Bool.false_eq_true, Bool.not_true, Bool.not_false, Option.bind_none, i1, i2, gt_nd]
    by_cases q : rw.idxOf a.2 < rw.idxOf a.1
    · refine ⟨(some (nd a.1), some (nd a.2), j.2.2), ?_⟩
      rw [if_pos q, q_turnF, tg, lift_ok, bnd_ret, q_scons, exS_if eq rfl, decide_eq_true q, if_pos rfl]
      simp only [q_non, q_bl, q_int, q_str, q_var, q_op, q_not, q_and, q_or, q_ite, q_cmp, q_chain, q_tup, q_lst, q_idx, q_slc, q_rev, q_call, q_bi, q_meth, q_isi, q_lnil, q_lcons, q_lstar, q_o0, q_o1, q_t0, q_t1, q_snil, q_scons, q_thenN, q_thenR, q_asg, q_new, q_asNew, q_par, q_parN, q_app, q_ext, q_asExt, q_pop, q_set, q_aug, q_ret, q_if, q_pass, q_getD0, q_getD1, q_set0, q_set1, q_tgN, q_tgT, q_tgL, q_tg0, q_tg1, q_sv0, q_sv1, q_tb, q_ti, q_tl, q_tt, q_add, q_sub, q_lt, q_le, q_gt, q_ge, q_eqI, q_neI, q_lenL, q_lenT, q_tupL, q_tupT, q_lstL, q_lstT, q_seqL, q_seqT, q_revL, q_revT, q_intI, q_intB, q_size0, q_size1, q_size2, q_size3, q_size4, q_size5, q_size6, q_size7, q_size8, q_size9, q_news0, q_newsT, q_newsF, q_augA, q_augS, q_io0, q_io1, q_slcL, q_slcT, q_mapL0, q_mapL1, q_cons1, q_cons0, q_turn, q_dps, q_dpsL, q_idxD, q_sortT, q_sortL, q_isN, q_notN, q_nonN, q_nonI, q_nonT, q_nonL, q_nonB, q_nonS, q_neB, q_eqB, q_negI, q_absI, bnd_ret, lift_ok, Option.bind_some, Option.map_some, if_true, if_false, ↓reduceIte, Bool.false_eq_true, Bool.not_true, Bool.not_false, Option.bind_none]
      rw [q_lstAt (xs := acc) rfl]
      simp only [q_non, q_bl, q_int, q_str, q_var, q_op, q_not, q_and, q_or, q_ite, q_cmp, q_chain, q_tup, q_lst, q_idx, q_slc, q_rev, q_call, q_bi, q_meth, q_isi, q_lnil, q_lcons, q_lstar, q_o0, q_o1, q_t0, q_t1, q_snil, q_scons, q_thenN, q_thenR, q_asg, q_new, q_asNew, q_par, q_parN, q_app, q_ext, q_asExt, q_pop, q_set, q_aug, q_ret, q_if, q_pass, q_getD0, q_getD1, q_set0, q_set1, q_tgN, q_tgT, q_tgL, q_tg0, q_tg1, q_sv0, q_sv1, q_tb, q_ti, q_tl, q_tt, q_add, q_sub, q_lt, q_le, q_gt, q_ge, q_eqI, q_neI, q_lenL, q_lenT, q_tupL, q_tupT, q_lstL, q_lstT, q_seqL, q_seqT, q_revL, q_revT, q_intI, q_intB, q_size0, q_size1, q_size2, q_size3, q_size4, q_size5, q_size6, q_size7, q_size8, q_size9, q_news0, q_newsT, q_newsF, q_augA, q_augS, q_io0, q_io1, q_slcL, q_slcT, q_mapL0, q_mapL1, q_cons1, q_cons0, q_turn, q_dps, q_dpsL, q_idxD, q_sortT, q_sortL, q_isN, q_notN, q_nonN, q_nonI, q_nonT, q_nonL, q_nonB, q_nonS, q_neB, q_eqB, q_negI, q_absI, bnd_ret, lift_ok, Option.bind_some, Option.map_some, if_true, if_false, ↓reduceIte, Bool.false_eq_true, Bool.not_true, Bool.not_false, Option.bind_none]
      rw [q_small (by simp only [List.length_cons, List.length_nil]; omega)]
      simp only [q_non, q_bl, q_int, q_str, q_var, q_op, q_not, q_and, q_or, q_ite, q_cmp, q_chain, q_tup, q_lst, q_idx, q_slc, q_rev, q_call, q_bi, q_meth, q_isi, q_lnil, q_lcons, q_lstar, q_o0, q_o1, q_t0, q_t1, q_snil, q_scons, q_thenN, q_thenR, q_asg, q_new, q_asNew, q_par, q_parN, q_app, q_ext, q_asExt, q_pop, q_set, q_aug, q_ret, q_if, q_pass, q_getD0, q_getD1, q_set0, q_set1, q_tgN, q_tgT, q_tgL, q_tg0, q_tg1, q_sv0, q_sv1, q_tb, q_ti, q_tl, q_tt, q_add, q_sub, q_lt, q_le, q_gt, q_ge, q_eqI, q_neI, q_lenL, q_lenT, q_tupL, q_tupT, q_lstL, q_lstT, q_seqL, q_seqT, q_revL, q_revT, q_intI, q_intB, q_size0, q_size1, q_size2, q_size3, q_size4, q_size5, q_size6, q_size7, q_size8, q_size9, q_news0, q_newsT, q_newsF, q_augA, q_augS, q_io0, q_io1, q_slcL, q_slcT, q_mapL0, q_mapL1, q_cons1, q_cons0, q_turn, q_dps, q_dpsL, q_idxD, q_sortT, q_sortL, q_isN, q_notN, q_nonN, q_nonI, q_nonT, q_nonL, q_nonB, q_nonS, q_neB, q_eqB, q_negI, q_absI, bnd_ret, lift_ok, Option.bind_some, Option.map_some, if_true, if_false, ↓reduceIte, Bool.false_eq_true, Bool.not_true, Bool.not_false, Option.bind_none]
      rfl
    · rw [if_neg q, q_turnF, tg, lift_ok, bnd_ret, q_scons, exS_if eq rfl, decide_eq_false q, if_neg Bool.false_ne_true]
      have ec : evE false c (.comp (.tup [.name 4, .name 8]) (.var 1) none (.and (.cmp .le (.var 4) (.idx (.var 2) (.var 5))) (.cmp .le (.idx (.var 2) (.var 6)) (.var 8)))) [some (tD rw), some (.tuple (g.map pD)), some (PLD rw), some (.list acc), none, some (nd a.1), some (nd a.2), j.2.2, none] = ret (.list (g.map fun b => .bool (decide (b.1 ≤ rw.idxOf a.1) && decide (rw.idxOf a.2 ≤ b.2)))) := by
        refine evE_compM (ws := g) (g := pD) (d := .tuple (g.map pD)) rfl rfl (by omega) fun b hb => ⟨[some (tD rw), some (.tuple (g.map pD)), some (PLD rw), some (.list acc), some (nd b.1), some (nd a.1), some (nd a.2), j.2.2, some (nd b.2)], rfl, ?_⟩
        simp only [q_non, q_bl, q_int, q_str, q_var, q_op, q_not, q_and, q_or, q_ite, q_cmp, q_chain, q_tup, q_lst, q_idx, q_slc, q_rev, q_call, q_bi, q_meth, q_isi, q_lnil, q_lcons, q_lstar, q_o0, q_o1, q_t0, q_t1, q_snil, q_scons, q_thenN, q_thenR, q_asg, q_new, q_asNew, q_par, q_parN, q_app, q_ext, q_asExt, q_pop, q_set, q_aug, q_ret, q_if, q_pass, q_getD0, q_getD1, q_set0, q_set1, q_tgN, q_tgT, q_tgL, q_tg0, q_tg1, q_sv0, q_sv1, q_tb, q_ti, q_tl, q_tt, q_add, q_sub, q_lt, q_le, q_gt, q_ge, q_eqI, q_neI, q_lenL, q_lenT, q_tupL, q_tupT, q_lstL, q_lstT, q_seqL, q_seqT, q_revL, q_revT, q_intI, q_intB, q_size0, q_size1, q_size2, q_size3, q_size4, q_size5, q_size6, q_size7, q_size8, q_size9, q_news0, q_newsT, q_newsF, q_augA, q_augS, q_io0, q_io1, q_slcL, q_slcT, q_mapL0, q_mapL1, q_cons1, q_cons0, q_turn, q_dps, q_dpsL, q_idxD, q_sortT, q_sortL, q_isN, q_notN, q_nonN, q_nonI, q_nonT, q_nonL, q_nonB, q_nonS, q_neB, q_eqB, q_negI, q_absI, bnd_ret, lift_ok, Option.bind_some, Option.map_some, if_true, if_false, ↓reduceIte, Bool.false_eq_true, Bool.not_true, Bool.not_false, Option.bind_none, i1, i2, le_nd]
        cases decide (b.1 ≤ rw.idxOf a.1) <;> rfl
      refine ⟨(some (nd a.1), some (nd a.2), some (.bool (g.any fun b => decide (b.1 ≤ rw.idxOf a.1) && decide (rw.idxOf a.2 ≤ b.2)))), ?_⟩
      simp only [q_non, q_bl, q_int, q_str, q_var, q_op, q_not, q_and, q_or, q_ite, q_cmp, q_chain, q_tup, q_lst, q_idx, q_slc, q_rev, q_call, q_bi, q_meth, q_isi, q_lnil, q_lcons, q_lstar, q_o0, q_o1, q_t0, q_t1, q_snil, q_scons, q_thenN, q_thenR, q_asg, q_new, q_asNew, q_par, q_parN, q_app, q_ext, q_asExt, q_pop, q_set, q_aug, q_ret, q_if, q_pass, q_getD0, q_getD1, q_set0, q_set1, q_tgN, q_tgT, q_tgL, q_tg0, q_tg1, q_sv0, q_sv1, q_tb, q_ti, q_tl, q_tt, q_add, q_sub, q_lt, q_le, q_gt, q_ge, q_eqI, q_neI, q_lenL, q_lenT, q_tupL, q_tupT, q_lstL, q_lstT, q_seqL, q_seqT, q_revL, q_revT, q_intI, q_intB, q_size0, q_size1, q_size2, q_size3, q_size4, q_size5, q_size6, q_size7, q_size8, q_size9, q_news0, q_newsT, q_newsF, q_augA, q_augS, q_io0, q_io1, q_slcL, q_slcT, q_mapL0, q_mapL1, q_cons1, q_cons0, q_turn, q_dps, q_dpsL, q_idxD, q_sortT, q_sortL, q_isN, q_notN, q_nonN, q_nonI, q_nonT, q_nonL, q_nonB, q_nonS, q_neB, q_eqB, q_negI, q_absI, bnd_ret, lift_ok, Option.bind_some, Option.map_some, if_true, if_false, ↓reduceIte, Bool.false_eq_true, Bool.not_true, Bool.not_false, Option.bind_none, ec, any_map]
      cases g.any fun b => decide (b.1 ≤ rw.idxOf a.1) && decide (rw.idxOf a.2 ≤ b.2) with
      | true =>
        simp only [q_non, q_bl, q_int, q_str, q_var, q_op, q_not, q_and, q_or, q_ite, q_cmp, q_chain, q_tup, q_lst, q_idx, q_slc, q_rev, q_call, q_bi, q_meth, q_isi, q_lnil, q_lcons, q_lstar, q_o0, q_o1, q_t0, q_t1, q_snil, q_scons, q_thenN, q_thenR, q_asg, q_new, q_asNew, q_par, q_parN, q_app, q_ext, q_asExt, q_pop, q_set, q_aug, q_ret, q_if, q_pass, q_getD0, q_getD1, q_set0, q_set1, q_tgN, q_tgT, q_tgL, q_tg0, q_tg1, q_sv0, q_sv1, q_tb, q_ti, q_tl, q_tt, q_add, q_sub, q_lt, q_le, q_gt, q_ge, q_eqI, q_neI, q_lenL, q_lenT, q_tupL, q_tupT, q_lstL, q_lstT, q_seqL, q_seqT, q_revL, q_revT, q_intI, q_intB, q_size0, q_size1, q_size2, q_size3, q_size4, q_size5, q_size6, q_size7, q_size8, q_size9, q_news0, q_newsT, q_newsF, q_augA, q_augS, q_io0, q_io1, q_slcL, q_slcT, q_mapL0, q_mapL1, q_cons1, q_cons0, q_turn, q_dps, q_dpsL, q_idxD, q_sortT, q_sortL, q_isN, q_notN, q_nonN, q_nonI, q_nonT, q_nonL, q_nonB, q_nonS, q_neB, q_eqB, q_negI, q_absI, bnd_ret, lift_ok, Option.bind_some, Option.map_some, if_true, if_false, ↓reduceIte, Bool.false_eq_true, Bool.not_true, Bool.not_false, Option.bind_none]
        rw [q_lstAt (xs := acc) rfl]
        simp only [q_non, q_bl, q_int, q_str, q_var, q_op, q_not, q_and, q_or, q_ite, q_cmp, q_chain, q_tup, q_lst, q_idx, q_slc, q_rev, q_call, q_bi, q_meth, q_isi, q_lnil, q_lcons, q_lstar, q_o0, q_o1, q_t0, q_t1, q_snil, q_scons, q_thenN, q_thenR, q_asg, q_new, q_asNew, q_par, q_parN, q_app, q_ext, q_asExt, q_pop, q_set, q_aug, q_ret, q_if, q_pass, q_getD0, q_getD1, q_set0, q_set1, q_tgN, q_tgT, q_tgL, q_tg0, q_tg1, q_sv0, q_sv1, q_tb, q_ti, q_tl, q_tt, q_add, q_sub, q_lt, q_le, q_gt, q_ge, q_eqI, q_neI, q_lenL, q_lenT, q_tupL, q_tupT, q_lstL, q_lstT, q_seqL, q_seqT, q_revL, q_revT, q_intI, q_intB, q_size0, q_size1, q_size2, q_size3, q_size4, q_size5, q_size6, q_size7, q_size8, q_size9, q_news0, q_newsT, q_newsF, q_augA, q_augS, q_io0, q_io1, q_slcL, q_slcT, q_mapL0, q_mapL1, q_cons1, q_cons0, q_turn, q_dps, q_dpsL, q_idxD, q_sortT, q_sortL, q_isN, q_notN, q_nonN, q_nonI, q_nonT, q_nonL, q_nonB, q_nonS, q_neB, q_eqB, q_negI, q_absI, bnd_ret, lift_ok, Option.bind_some, Option.map_some, if_true, if_false, ↓reduceIte, Bool.false_eq_true, Bool.not_true, Bool.not_false, Option.bind_none]
        rw [q_small (by simp only [List.length_cons, List.length_nil]; omega)]
        simp only [q_non, q_bl, q_int, q_str, q_var, q_op, q_not, q_and, q_or, q_ite, q_cmp, q_chain, q_tup, q_lst, q_idx, q_slc, q_rev, q_call, q_bi, q_meth, q_isi, q_lnil, q_lcons, q_lstar, q_o0, q_o1, q_t0, q_t1, q_snil, q_scons, q_thenN, q_thenR, q_asg, q_new, q_asNew, q_par, q_parN, q_app, q_ext, q_asExt, q_pop, q_set, q_aug, q_ret, q_if, q_pass, q_getD0, q_getD1, q_set0, q_set1, q_tgN, q_tgT, q_tgL, q_tg0, q_tg1, q_sv0, q_sv1, q_tb, q_ti, q_tl, q_tt, q_add, q_sub, q_lt, q_le, q_gt, q_ge, q_eqI, q_neI, q_lenL, q_lenT, q_tupL, q_tupT, q_lstL, q_lstT, q_seqL, q_seqT, q_revL, q_revT, q_intI, q_intB, q_size0, q_size1, q_size2, q_size3, q_size4, q_size5, q_size6, q_size7, q_size8, q_size9, q_news0, q_newsT, q_newsF, q_augA, q_augS, q_io0, q_io1, q_slcL, q_slcT, q_mapL0, q_mapL1, q_cons1, q_cons0, q_turn, q_dps, q_dpsL, q_idxD, q_sortT, q_sortL, q_isN, q_notN, q_nonN, q_nonI, q_nonT, q_nonL, q_nonB, q_nonS, q_neB, q_eqB, q_negI, q_absI, bnd_ret, lift_ok, Option.bind_some, Option.map_some, if_true, if_false, ↓reduceIte, Bool.false_eq_true, Bool.not_true, Bool.not_false, Option.bind_none]
        rfl
      | false =>
        simp only [q_non, q_bl, q_int, q_str, q_var, q_op, q_not, q_and, q_or, q_ite, q_cmp, q_chain, q_tup, q_lst, q_idx, q_slc, q_rev, q_call, q_bi, q_meth, q_isi, q_lnil, q_lcons, q_lstar, q_o0, q_o1, q_t0, q_t1, q_snil, q_scons, q_thenN, q_thenR, q_asg, q_new, q_asNew, q_par, q_parN, q_app, q_ext, q_asExt, q_pop, q_set, q_aug, q_ret, q_if, q_pass, q_getD0, q_getD1, q_set0, q_set1, q_tgN, q_tgT, q_tgL, q_tg0, q_tg1, q_sv0, q_sv1, q_tb, q_ti, q_tl, q_tt, q_add, q_sub, q_lt, q_le, q_gt, q_ge, q_eqI, q_neI, q_lenL, q_lenT, q_tupL, q_tupT, q_lstL, q_lstT, q_seqL, q_seqT, q_revL, q_revT, q_intI, q_intB, q_size0, q_size1, q_size2, q_size3, q_size4, q_size5, q_size6, q_size7, q_size8, q_size9, q_news0, q_newsT, q_newsF, q_augA, q_augS, q_io0, q_io1, q_slcL, q_slcT, q_mapL0, q_mapL1, q_cons1, q_cons0, q_turn, q_dps, q_dpsL, q_idxD, q_sortT, q_sortL, q_isN, q_notN, q_nonN, q_nonI, q_nonT, q_nonL, q_nonB, q_nonS, q_neB, q_eqB, q_negI, q_absI, bnd_ret, lift_ok, Option.bind_some, Option.map_some, if_true, if_false, ↓reduceIte, Bool.false_eq_true, Bool.not_true, Bool.not_false, Option.bind_none]
        rw [q_lstAt (xs := acc) rfl]
        simp only [q_non, q_bl, q_int, q_str, q_var, q_op, q_not, q_and, q_or, q_ite, q_cmp, q_chain, q_tup, q_lst, q_idx, q_slc, q_rev, q_call, q_bi, q_meth, q_isi, q_lnil, q_lcons, q_lstar, q_o0, q_o1, q_t0, q_t1, q_snil, q_scons, q_thenN, q_thenR, q_asg, q_new, q_asNew, q_par, q_parN, q_app, q_ext, q_asExt, q_pop, q_set, q_aug, q_ret, q_if, q_pass, q_getD0, q_getD1, q_set0, q_set1, q_tgN, q_tgT, q_tgL, q_tg0, q_tg1, q_sv0, q_sv1, q_tb, q_ti, q_tl, q_tt, q_add, q_sub, q_lt, q_le, q_gt, q_ge, q_eqI, q_neI, q_lenL, q_lenT, q_tupL, q_tupT, q_lstL, q_lstT, q_seqL, q_seqT, q_revL, q_revT, q_intI, q_intB, q_size0, q_size1, q_size2, q_size3, q_size4, q_size5, q_size6, q_size7, q_size8, q_size9, q_news0, q_newsT, q_newsF, q_augA, q_augS, q_io0, q_io1, q_slcL, q_slcT, q_mapL0, q_mapL1, q_cons1, q_cons0, q_turn, q_dps, q_dpsL, q_idxD, q_sortT, q_sortL, q_isN, q_notN, q_nonN, q_nonI, q_nonT, q_nonL, q_nonB, q_nonS, q_neB, q_eqB, q_negI, q_absI, bnd_ret, lift_ok, Option.bind_some, Option.map_some, if_true, if_false, ↓reduceIte, Bool.false_eq_true, Bool.not_true, Bool.not_false, Option.bind_none]
        rw [q_small (by simp only [List.length_cons, List.length_nil]; omega)]
        simp only [q_non, q_bl, q_int, q_str, q_var, q_op, q_not, q_and, q_or, q_ite, q_cmp, q_chain, q_tup, q_lst, q_idx, q_slc, q_rev, q_call, q_bi, q_meth, q_isi, q_lnil, q_lcons, q_lstar, q_o0, q_o1, q_t0, q_t1, q_snil, q_scons, q_thenN, q_thenR, q_asg, q_new, q_asNew, q_par, q_parN, q_app, q_ext, q_asExt, q_pop, q_set, q_aug, q_ret, q_if, q_pass, q_getD0, q_getD1, q_set0, q_set1, q_tgN, q_tgT, q_tgL, q_tg0, q_tg1, q_sv0, q_sv1, q_tb, q_ti, q_tl, q_tt, q_add, q_sub, q_lt, q_le, q_gt, q_ge, q_eqI, q_neI, q_lenL, q_lenT, q_tupL, q_tupT, q_lstL, q_lstT, q_seqL, q_seqT, q_revL, q_revT, q_intI, q_intB, q_size0, q_size1, q_size2, q_size3, q_size4, q_size5, q_size6, q_size7, q_size8, q_size9, q_news0, q_newsT, q_newsF, q_augA, q_augS, q_io0, q_io1, q_slcL, q_slcT, q_mapL0, q_mapL1, q_cons1, q_cons0, q_turn, q_dps, q_dpsL, q_idxD, q_sortT, q_sortL, q_isN, q_notN, q_nonN, q_nonI, q_nonT, q_nonL, q_nonB, q_nonS, q_neB, q_eqB, q_negI, q_absI, bnd_ret, lift_ok, Option.bind_some, Option.map_some, if_true, if_false, ↓reduceIte, Bool.false_eq_true, Bool.not_true, Bool.not_false, Option.bind_none]
        rfl
  have hk : newsOk [false, true] [PLD rw, .list []] = true := rfl
  have hs : setsV [2, 3] [PLD rw, .list []] [some (tD rw), some (.tuple (g.map pD)), none, none, none, none, none, none, none] = some [some (tD rw), some (.tuple (g.map pD)), some (PLD rw), some (.list []), none, none, none, none, none] := rfl
  have ev0 : evL false c [.dps (.comp (.tup [.name 4, .name 5]) (.enum (.var 0)) none (.tup [.var 5, .var 4])), .lst []] [some (tD rw), some (.tuple (g.map pD)), none, none, none, none, none, none, none] = ret [PLD rw, .list []] := evL_2 rfl ep rfl
  unfold b7
  rw [q_scons, q_parN, ev0, bnd_ret, hk, if_pos rfl, hs, lift_ok, bnd_ret, bnd_ret]
  simp only [q_non, q_bl, q_int, q_str, q_var, q_op, q_not, q_and, q_or, q_ite, q_cmp, q_chain, q_tup, q_lst, q_idx, q_slc, q_rev, q_call, q_bi, q_meth, q_isi, q_lnil, q_lcons, q_lstar, q_o0, q_o1, q_t0, q_t1, q_snil, q_scons, q_thenN, q_thenR, q_asg, q_new, q_asNew, q_par, q_parN, q_app, q_ext, q_asExt, q_pop, q_set, q_aug, q_ret, q_if, q_pass, q_getD0, q_getD1, q_set0, q_set1, q_tgN, q_tgT, q_tgL, q_tg0, q_tg1, q_sv0, q_sv1, q_tb, q_ti, q_tl, q_tt, q_add, q_sub, q_lt, q_le, q_gt, q_ge, q_eqI, q_neI, q_lenL, q_lenT, q_tupL, q_tupT, q_lstL, q_lstT, q_seqL, q_seqT, q_revL, q_revT, q_intI, q_intB, q_size0, q_size1, q_size2, q_size3, q_size4, q_size5, q_size6, q_size7, q_size8, q_size9, q_news0, q_newsT, q_newsF, q_augA, q_augS, q_io0, q_io1, q_slcL, q_slcT, q_mapL0, q_mapL1, q_cons1, q_cons0, q_turn, q_dps, q_dpsL, q_idxD, q_sortT, q_sortL, q_isN, q_notN, q_nonN, q_nonI, q_nonT, q_nonL, q_nonB, q_nonS, q_neB, q_eqB, q_negI, q_absI, bnd_ret, lift_ok, Option.bind_some, Option.map_some, if_true, if_false, ↓reduceIte, Bool.false_eq_true, Bool.not_true, Bool.not_false, Option.bind_none, q_for, el, h0]
  rw [e, List.nil_append, bnd_ret]
  have fl : ((Prs n).flatMap fun a => (if rw.idxOf a.2 < rw.idxOf a.1 then [-1, -1] else [1, if g.any (fun b => decide (b.1 ≤ rw.idxOf a.1) && decide (rw.idxOf a.2 ≤ b.2)) then -1 else 1]).map PyData.int) = (RB n rw g).map .int := by
    unfold RB; rw [List.map_flatMap]
  rw [fl]
  simp only [q_non, q_bl, q_int, q_str, q_var, q_op, q_not, q_and, q_or, q_ite, q_cmp, q_chain, q_tup, q_lst, q_idx, q_slc, q_rev, q_call, q_bi, q_meth, q_isi, q_lnil, q_lcons, q_lstar, q_o0, q_o1, q_t0, q_t1, q_snil, q_scons, q_thenN, q_thenR, q_asg, q_new, q_asNew, q_par, q_parN, q_app, q_ext, q_asExt, q_pop, q_set, q_aug, q_ret, q_if, q_pass, q_getD0, q_getD1, q_set0, q_set1, q_tgN, q_tgT, q_tgL, q_tg0, q_tg1, q_sv0, q_sv1, q_tb, q_ti, q_tl, q_tt, q_add, q_sub, q_lt, q_le, q_gt, q_ge, q_eqI, q_neI, q_lenL, q_lenT, q_tupL, q_tupT, q_lstL, q_lstT, q_seqL, q_seqT, q_revL, q_revT, q_intI, q_intB, q_size0, q_size1, q_size2, q_size3, q_size4, q_size5, q_size6, q_size7, q_size8, q_size9, q_news0, q_newsT, q_newsF, q_augA, q_augS, q_io0, q_io1, q_slcL, q_slcT, q_mapL0, q_mapL1, q_cons1, q_cons0, q_turn, q_dps, q_dpsL, q_idxD, q_sortT, q_sortL, q_isN, q_notN, q_nonN, q_nonI, q_nonT, q_nonL, q_nonB, q_nonS, q_neB, q_eqB, q_negI, q_absI, bnd_ret, lift_ok, Option.bind_some, Option.map_some, if_true, if_false, ↓reduceIte, Bool.false_eq_true, Bool.not_true, Bool.not_false, Option.bind_none]
end
end Fz.K82x
namespace Fz.K82x
open PySem Fz Fz.K82 Fz.Sh
abbrev A13 : List S := [.ite (.and (.cmp .lt (.idx (.var 2) (.var 6)) (.idx (.var 2) (.var 7))) (.cmp .lt (.op .sub (.idx (.var 0) (.idx (.var 2) (.var 6))) (.idx (.var 0) (.idx (.var 2) (.var 7)))) (.var 1))) [.app 5 (.tup [.var 6, .var 7])] []]
abbrev f13 : E := .comp (.name 9) (.var 5) (some (.and (.cmp .ne (.var 9) (.tup [.var 6, .var 7])) (.and (.cmp .le (.idx (.var 9) (.int 0)) (.var 6)) (.cmp .le (.var 7) (.idx (.var 9) (.int 1)))))) (.var 9)
abbrev G13 : List S := [.ite (.cmp .eq f13 (.lst [])) [.app 8 (.tup [.var 6, .var 7])] []]
abbrev r13 : E := .comp (.tup [.name 3, .name 4]) (.bi .sorted [.comp (.tup [.name 4, .name 3]) (.enum (.var 0)) none (.tup [.op .sub (.int 0) (.var 3), .var 4])]) none (.var 4)
theorem okL_pD (l : List (Nat × Nat)) : okD (.list (l.map pD)) = true := by
  show okD (.tuple (l.map pD)) = true
  refine okT (k := 1) (fun d hd => ?_) (by decide)
  obtain ⟨a, _, rfl⟩ := List.mem_map.mp hd
  exact ⟨rfl, Nat.le_refl _⟩
theorem isEmpty_filter {α : Type} (p : α → Bool) : ∀ l : List α, (l.filter p).isEmpty = !l.any p
  | [] => rfl
  | a :: r => by
    rw [List.filter_cons, List.any_cons]
    cases p a with
    | true => rfl
    | false => exact isEmpty_filter p r
section
variable {c : Cl} {n : Nat} (hn : Nn n) {x : Nat → Int} {far : Int} (P : Pt n x far)
include hn P
theorem run13 (h10 : c 10 [nd n] = ret (.list ((Prs n).map pD))) : exL false c b13 [some (XL n x), some (.int far), none, none, none, none, none, none, none, none] = ret (.ret (.tuple [tD (row n x), .tuple ((GR (AR n x far)).map pD)])) := by
  have pl := prs_len hn
  have b5 := n5 hn
  have sx : seqOf (XL n x) = some ((List.range n).map fun i => .int (x i)) := rfl
  have ne : List.range n ≠ [] := fun h => by have := congrArg List.length h; simp at this; omega
  have e1 : evE false c (.comp (.tup [.name 4, .name 3]) (.enum (.var 0)) none (.tup [.op .sub (.int 0) (.var 3), .var 4])) [some (XL n x), some (.int far), none, none, none, none, none, none, none, none] = ret (.list ((List.range n).map fun i => .tuple [.int (0 - x i), nd i])) := by
    refine evE_compM (ws := List.range n) (g := fun i => .tuple [nd i, .int (x i)]) (d := .list ((List.range n).map fun i => .tuple [nd i, .int (x i)])) ?_ rfl (by simp; omega) fun i hi => ⟨_, rfl, rfl⟩
    rw [q_enum]
    simp only [q_non, q_bl, q_int, q_str, q_var, q_op, q_not, q_and, q_or, q_ite, q_cmp, q_chain, q_tup, q_lst, q_idx, q_slc, q_rev, q_call, q_bi, q_meth, q_isi, q_lnil, q_lcons, q_lstar, q_o0, q_o1, q_t0, q_t1, q_snil, q_scons, q_thenN, q_thenR, q_asg, q_new, q_asNew, q_par, q_parN, q_app, q_ext, q_asExt, q_pop, q_set, q_aug, q_ret, q_if, q_pass, q_getD0, q_getD1, q_set0, q_set1, q_tgN, q_tgT, q_tgL, q_tg0, q_tg1, q_sv0, q_sv1, q_tb, q_ti, q_tl, q_tt, q_add, q_sub, q_lt, q_le, q_gt, q_ge, q_eqI, q_neI, q_lenL, q_lenT, q_tupL, q_tupT, q_lstL, q_lstT, q_seqL, q_seqT, q_revL, q_revT, q_intI, q_intB, q_size0, q_size1, q_size2, q_size3, q_size4, q_size5, q_size6, q_size7, q_size8, q_size9, q_news0, q_newsT, q_newsF, q_augA, q_augS, q_io0, q_io1, q_slcL, q_slcT, q_mapL0, q_mapL1, q_cons1, q_cons0, q_turn, q_dps, q_dpsL, q_idxD, q_sortT, q_sortL, q_isN, q_notN, q_nonN, q_nonI, q_nonT, q_nonL, q_nonB, q_nonS, q_neB, q_eqB, q_negI, q_absI, bnd_ret, lift_ok, Option.bind_some, Option.map_some, if_true, if_false, ↓reduceIte, Bool.false_eq_true, Bool.not_true, Bool.not_false, Option.bind_none, sx, enum_rng]
  have es : biV .sorted [.list ((List.range n).map fun i => .tuple [.int (0 - x i), nd i])] = some (.list ((row n x).map fun i => .tuple [.int (0 - x i), nd i])) := by
    show sortV _ = _
    rw [sortV_pairs (fun i => 0 - x i) ne, row_neg P, List.map_map]
    rfl
  have e2 : evE false c r13 [some (XL n x), some (.int far), none, none, none, none, none, none, none, none] = ret (.list ((row n x).map nd)) :=
    evE_compM (ws := row n x) (g := fun i => .tuple [.int (0 - x i), nd i]) (h := nd) (d := .list ((row n x).map fun i => .tuple [.int (0 - x i), nd i])) (by simp only [q_non, q_bl, q_int, q_str, q_var, q_op, q_not, q_and, q_or, q_ite, q_cmp, q_chain, q_tup, q_lst, q_idx, q_slc, q_rev, q_call, q_bi, q_meth, q_isi, q_lnil, q_lcons, q_lstar, q_o0, q_o1, q_t0, q_t1, q_snil, q_scons, q_thenN, q_thenR, q_asg, q_new, q_asNew, q_par, q_parN, q_app, q_ext, q_asExt, q_pop, q_set, q_aug, q_ret, q_if, q_pass, q_getD0, q_getD1, q_set0, q_set1, q_tgN, q_tgT, q_tgL, q_tg0, q_tg1, q_sv0, q_sv1, q_tb, q_ti, q_tl, q_tt, q_add, q_sub, q_lt, q_le, q_gt, q_ge, q_eqI, q_neI, q_lenL, q_lenT, q_tupL, q_tupT, q_lstL, q_lstT, q_seqL, q_seqT, q_revL, q_revT, q_intI, q_intB, q_size0, q_size1, q_size2, q_size3, q_size4, q_size5, q_size6, q_size7, q_size8, q_size9, q_news0, q_newsT, q_newsF, q_augA, q_augS, q_io0, q_io1, q_slcL, q_slcT, q_mapL0, q_mapL1, q_cons1, q_cons0, q_turn, q_dps, q_dpsL, q_idxD, q_sortT, q_sortL, q_isN, q_notN, q_nonN, q_nonI, q_nonT, q_nonL, q_nonB, q_nonS, q_neB, q_eqB, q_negI, q_absI, bnd_ret, lift_ok, Option.bind_some, Option.map_some, if_true, if_false, ↓reduceIte, Bool.false_eq_true, Bool.not_true, Bool.not_false, Option.bind_none, e1, es]) rfl (by rw [row_len P]; omega) fun i hi => ⟨_, rfl, rfl⟩
  have el : biV .len [.list ((row n x).map nd)] = some (nd n) := by
    show some (PyData.int (((row n x).map nd).length : Nat)) = _
    rw [List.length_map, row_len P]; rfl
  have ri : ∀ {p : Nat}, p < n → idxV (.list ((row n x).map nd)) (nd p) = some (nd ((row n x).getD p 0)) := fun hp => row_idx hn P hp
  obtain ⟨j1, ea⟩ := forL_acc (J := Option D × Option D) (body := fTurn false c (.tup [.name 6, .name 7]) A13) (g := pD) (h := fun a => if decide ((row n x).getD a.1 0 < (row n x).getD a.2 0) && decide (x ((row n x).getD a.1 0) - x ((row n x).getD a.2 0) < far) then [pD a] else [])
    (fun acc j => [some (XL n x), some (.int far), some (.list ((row n x).map nd)), none, none, some (.list acc), j.1, j.2, none, none]) (fun a => by split <;> simp) (Prs n) [] (none, none) (by rw [List.length_nil]; omega) fun acc j a ha hl => by
    obtain ⟨h1, h2⟩ := mem_prs.mp (show (a.1, a.2) ∈ Prs n from ha)
    have r1 := row_lt P (show a.1 < n by omega)
    have r2 := row_lt P h2
    have i1 := ri (show a.1 < n by omega)
    have i2 := ri h2
    refine ⟨(some (nd a.1), some (nd a.2)), ?_⟩
    have tg : tgSet (.tup [.name 6, .name 7]) (pD a) [some (XL n x), some (.int far), some (.list ((row n x).map nd)), none, none, some (.list acc), j.1, j.2, none, none] = some [some (XL n x), some (.int far), some (.list ((row n x).map nd)), none, none, some (.list acc), some (nd a.1), some (nd a.2), none, none] := rfl
    rw [q_turnF, tg, lift_ok, bnd_ret]
    generalize (row n x).getD a.1 0 = i at *
    generalize (row n x).getD a.2 0 = k at *
    have x1 : idxV (XL n x) (nd i) = some (.int (x i)) := xl_idx r1
    have x2 : idxV (XL n x) (nd k) = some (.int (x k)) := xl_idx r2
    have eq : evE false c (.and (.cmp .lt (.idx (.var 2) (.var 6)) (.idx (.var 2) (.var 7))) (.cmp .lt (.op .sub (.idx (.var 0) (.idx (.var 2) (.var 6))) (.idx (.var 0) (.idx (.var 2) (.var 7)))) (.var 1))) [some (XL n x), some (.int far), some (.list ((row n x).map nd)), none, none, some (.list acc), some (nd a.1), some (nd a.2), none, none] = ret (.bool (decide (i < k) && decide (x i - x k < far))) := by
      by_cases h : i < k
      · simp only [q_non, q_bl, q_int, q_str, q_var, q_op, q_not, q_and, q_or, q_ite, q_cmp, q_chain, q_tup, q_lst, q_idx, q_slc, q_rev, q_call, q_bi, q_meth, q_isi, q_lnil, q_lcons, q_lstar, q_o0, q_o1, q_t0, q_t1, q_snil, q_scons, q_thenN, q_thenR, q_asg, q_new, q_asNew, q_par, q_parN, q_app, q_ext, q_asExt, q_pop, q_set, q_aug, q_ret, q_if, q_pass, q_getD0, q_getD1, q_set0, q_set1, q_tgN, q_tgT, q_tgL, q_tg0, q_tg1, q_sv0, q_sv1, q_tb, q_ti, q_tl, q_tt, q_add, q_sub, q_lt, q_le, q_gt, q_ge, q_eqI, q_neI, q_lenL, q_lenT, q_tupL, q_tupT, q_lstL, q_lstT, q_seqL, q_seqT, q_revL, q_revT, q_intI, q_intB, q_size0, q_size1, q_size2, q_size3, q_size4, q_size5, q_size6, q_size7, q_size8, q_size9, q_news0, q_newsT, q_newsF, q_augA, q_augS, q_io0, q_io1, q_slcL, q_slcT, q_mapL0, q_mapL1, q_cons1, q_cons0, q_turn, q_dps, q_dpsL, q_idxD, q_sortT, q_sortL, q_isN, q_notN, q_nonN, q_nonI, q_nonT, q_nonL, q_nonB, q_nonS, q_neB, q_eqB, q_negI, q_absI, bnd_ret, lift_ok, Option.bind_some, Option.map_some, if_true, if_false, ↓reduceIte, Bool.false_eq_true, Bool.not_true, Bool.not_false, Option.bind_none, i1, i2, lt_nd, h, decide_true, x1, x2]; rfl
      · simp only [q_non, q_bl, q_int, q_str, q_var, q_op, q_not, q_and, q_or, q_ite, q_cmp, q_chain, q_tup, q_lst, q_idx, q_slc, q_rev, q_call, q_bi, q_meth, q_isi, q_lnil, q_lcons, q_lstar, q_o0, q_o1, q_t0, q_t1, q_snil, q_scons, q_thenN, q_thenR, q_asg, q_new, q_asNew, q_par, q_parN, q_app, q_ext, q_asExt, q_pop, q_set, q_aug, q_ret, q_if, q_pass, q_getD0, q_getD1, q_set0, q_set1, q_tgN, q_tgT, q_tgL, q_tg0, q_tg1, q_sv0, q_sv1, q_tb, q_ti, q_tl, q_tt, q_add, q_sub, q_lt, q_le, q_gt, q_ge, q_eqI, q_neI, q_lenL, q_lenT, q_tupL, q_tupT, q_lstL, q_lstT, q_seqL, q_seqT, q_revL, q_revT, q_intI, q_intB, q_size0, q_size1, q_size2, q_size3, q_size4, q_size5, q_size6, q_size7, q_size8, q_size9, q_news0, q_newsT, q_newsF, q_augA, q_augS, q_io0, q_io1, q_slcL, q_slcT, q_mapL0, q_mapL1, q_cons1, q_cons0, q_turn, q_dps, q_dpsL, q_idxD, q_sortT, q_sortL, q_isN, q_notN, q_nonN, q_nonI, q_nonT, q_nonL, q_nonB, q_nonS, q_neB, q_eqB, q_negI, q_absI, bnd_ret, lift_ok, Option.bind_some, Option.map_some, if_true, if_false, ↓reduceIte, Bool.false_eq_true, Bool.not_true, Bool.not_false, Option.bind_none, i1, i2, lt_nd, h, decide_false]; rfl
    rw [q_scons, exS_if eq rfl]
    cases decide (i < k) && decide (x i - x k < far) with
    | false => simp only [Bool.false_eq_true, if_false, List.append_nil]; rfl
    | true =>
      simp only [q_non, q_bl, q_int, q_str, q_var, q_op, q_not, q_and, q_or, q_ite, q_cmp, q_chain, q_tup, q_lst, q_idx, q_slc, q_rev, q_call, q_bi, q_meth, q_isi, q_lnil, q_lcons, q_lstar, q_o0, q_o1, q_t0, q_t1, q_snil, q_scons, q_thenN, q_thenR, q_asg, q_new, q_asNew, q_par, q_parN, q_app, q_ext, q_asExt, q_pop, q_set, q_aug, q_ret, q_if, q_pass, q_getD0, q_getD1, q_set0, q_set1, q_tgN, q_tgT, q_tgL, q_tg0, q_tg1, q_sv0, q_sv1, q_tb, q_ti, q_tl, q_tt, q_add, q_sub, q_lt, q_le, q_gt, q_ge, q_eqI, q_neI, q_lenL, q_lenT, q_tupL, q_tupT, q_lstL, q_lstT, q_seqL, q_seqT, q_revL, q_revT, q_intI, q_intB, q_size0, q_size1, q_size2, q_size3, q_size4, q_size5, q_size6, q_size7, q_size8, q_size9, q_news0, q_newsT, q_newsF, q_augA, q_augS, q_io0, q_io1, q_slcL, q_slcT, q_mapL0, q_mapL1, q_cons1, q_cons0, q_turn, q_dps, q_dpsL, q_idxD, q_sortT, q_sortL, q_isN, q_notN, q_nonN, q_nonI, q_nonT, q_nonL, q_nonB, q_nonS, q_neB, q_eqB, q_negI, q_absI, bnd_ret, lift_ok, Option.bind_some, Option.map_some, if_true, if_false, ↓reduceIte, Bool.false_eq_true, Bool.not_true, Bool.not_false, Option.bind_none]
      rw [q_lstAt (xs := acc) rfl]
      simp only [q_non, q_bl, q_int, q_str, q_var, q_op, q_not, q_and, q_or, q_ite, q_cmp, q_chain, q_tup, q_lst, q_idx, q_slc, q_rev, q_call, q_bi, q_meth, q_isi, q_lnil, q_lcons, q_lstar, q_o0, q_o1, q_t0, q_t1, q_snil, q_scons, q_thenN, q_thenR, q_asg, q_new, q_asNew, q_par, q_parN, q_app, q_ext, q_asExt, q_pop, q_set, q_aug, q_ret, q_if, q_pass, q_getD0, q_getD1, q_set0, q_set1, q_tgN, q_tgT, q_tgL, q_tg0, q_tg1, q_sv0, q_sv1, q_tb, q_ti, q_tl, q_tt, q_add, q_sub, q_lt, q_le, q_gt, q_ge, q_eqI, q_neI, q_lenL, q_lenT, q_tupL, q_tupT, q_lstL, q_lstT, q_seqL, q_seqT, q_revL, q_revT, q_intI, q_intB, q_size0, q_size1, q_size2, q_size3, q_size4, q_size5, q_size6, q_size7, q_size8, q_size9, q_news0, q_newsT, q_newsF, q_augA, q_augS, q_io0, q_io1, q_slcL, q_slcT, q_mapL0, q_mapL1, q_cons1, q_cons0, q_turn, q_dps, q_dpsL, q_idxD, q_sortT, q_sortL, q_isN, q_notN, q_nonN, q_nonI, q_nonT, q_nonL, q_nonB, q_nonS, q_neB, q_eqB, q_negI, q_absI, bnd_ret, lift_ok, Option.bind_some, Option.map_some, if_true, if_false, ↓reduceIte, Bool.false_eq_true, Bool.not_true, Bool.not_false, Option.bind_none]
      rw [q_small (by omega)]
      simp only [q_non, q_bl, q_int, q_str, q_var, q_op, q_not, q_and, q_or, q_ite, q_cmp, q_chain, q_tup, q_lst, q_idx, q_slc, q_rev, q_call, q_bi, q_meth, q_isi, q_lnil, q_lcons, q_lstar, q_o0, q_o1, q_t0, q_t1, q_snil, q_scons, q_thenN, q_thenR, q_asg, q_new, q_asNew, q_par, q_parN, q_app, q_ext, q_asExt, q_pop, q_set, q_aug, q_ret, q_if, q_pass, q_getD0, q_getD1, q_set0, q_set1, q_tgN, q_tgT, q_tgL, q_tg0, q_tg1, q_sv0, q_sv1, q_tb, q_ti, q_tl, q_tt, q_add, q_sub, q_lt, q_le, q_gt, q_ge, q_eqI, q_neI, q_lenL, q_lenT, q_tupL, q_tupT, q_lstL, q_lstT, q_seqL, q_seqT, q_revL, q_revT, q_intI, q_intB, q_size0, q_size1, q_size2, q_size3, q_size4, q_size5, q_size6, q_size7, q_size8, q_size9, q_news0, q_newsT, q_newsF, q_augA, q_augS, q_io0, q_io1, q_slcL, q_slcT, q_mapL0, q_mapL1, q_cons1, q_cons0, q_turn, q_dps, q_dpsL, q_idxD, q_sortT, q_sortL, q_isN, q_notN, q_nonN, q_nonI, q_nonT, q_nonL, q_nonB, q_nonS, q_neB, q_eqB, q_negI, q_absI, bnd_ret, lift_ok, Option.bind_some, Option.map_some, if_true, if_false, ↓reduceIte, Bool.false_eq_true, Bool.not_true, Bool.not_false, Option.bind_none]
      rfl
  rw [List.nil_append, flat_if] at ea
  have ea : forL (fTurn false c (.tup [.name 6, .name 7]) A13) ((Prs n).map pD) [some (XL n x), some (.int far), some (.list ((row n x).map nd)), none, none, some (.list []), none, none, none, none] = ret (.next [some (XL n x), some (.int far), some (.list ((row n x).map nd)), none, none, some (.list ((AR n x far).map pD)), j1.1, j1.2, none, none]) := ea
  have sb := ar_sub n x far
  generalize AR n x far = l at ea sb
  have ll := sub_len hn sb
  obtain ⟨j2, eb⟩ := forL_acc (J := Option D × Option D) (body := fTurn false c (.tup [.name 6, .name 7]) G13) (g := pD) (h := fun a => if !l.any (fun b => decide (b.1 ≤ a.1) && (decide (a.2 ≤ b.2) && !decide (b = a))) then [pD a] else [])
    (fun acc j => [some (XL n x), some (.int far), some (.list ((row n x).map nd)), none, none, some (.list (l.map pD)), j.1, j.2, some (.list acc), none]) (fun a => by split <;> simp) l [] j1 (by rw [List.length_nil]; omega) fun acc j a ha hl => by
    refine ⟨(some (nd a.1), some (nd a.2)), ?_⟩
    have tg : tgSet (.tup [.name 6, .name 7]) (pD a) [some (XL n x), some (.int far), some (.list ((row n x).map nd)), none, none, some (.list (l.map pD)), j.1, j.2, some (.list acc), none] = some [some (XL n x), some (.int far), some (.list ((row n x).map nd)), none, none, some (.list (l.map pD)), some (nd a.1), some (nd a.2), some (.list acc), none] := rfl
    rw [q_turnF, tg, lift_ok, bnd_ret]
    have ec : evE false c f13 [some (XL n x), some (.int far), some (.list ((row n x).map nd)), none, none, some (.list (l.map pD)), some (nd a.1), some (nd a.2), some (.list acc), none] = ret (.list ((l.filter fun b => decide (b.1 ≤ a.1) && (decide (a.2 ≤ b.2) && !decide (b = a))).map pD)) := by
      refine evE_compF (ws := l) (g := pD) (h := pD) (p := fun b => decide (b.1 ≤ a.1) && (decide (a.2 ≤ b.2) && !decide (b = a))) (d := .list (l.map pD)) rfl rfl (by omega) fun b hb => ⟨[some (XL n x), some (.int far), some (.list ((row n x).map nd)), none, none, some (.list (l.map pD)), some (nd a.1), some (nd a.2), some (.list acc), some (pD b)], rfl, ?_, fun _ => rfl⟩
      have pd : ∀ a : Nat × Nat, PyData.tuple [nd a.1, nd a.2] = pD a := fun _ => rfl
      have y0 : idxV (pD b) (.int 0) = some (nd b.1) := rfl
      have y1 : idxV (pD b) (.int 1) = some (nd b.2) := rfl
      simp only [q_non, q_bl, q_int, q_str, q_var, q_op, q_not, q_and, q_or, q_ite, q_cmp, q_chain, q_tup, q_lst, q_idx, q_slc, q_rev, q_call, q_bi, q_meth, q_isi, q_lnil, q_lcons, q_lstar, q_o0, q_o1, q_t0, q_t1, q_snil, q_scons, q_thenN, q_thenR, q_asg, q_new, q_asNew, q_par, q_parN, q_app, q_ext, q_asExt, q_pop, q_set, q_aug, q_ret, q_if, q_pass, q_getD0, q_getD1, q_set0, q_set1, q_tgN, q_tgT, q_tgL, q_tg0, q_tg1, q_sv0, q_sv1, q_tb, q_ti, q_tl, q_tt, q_add, q_sub, q_lt, q_le, q_gt, q_ge, q_eqI, q_neI, q_lenL, q_lenT, q_tupL, q_tupT, q_lstL, q_lstT, q_seqL, q_seqT, q_revL, q_revT, q_intI, q_intB, q_size0, q_size1, q_size2, q_size3, q_size4, q_size5, q_size6, q_size7, q_size8, q_size9, q_news0, q_newsT, q_newsF, q_augA, q_augS, q_io0, q_io1, q_slcL, q_slcT, q_mapL0, q_mapL1, q_cons1, q_cons0, q_turn, q_dps, q_dpsL, q_idxD, q_sortT, q_sortL, q_isN, q_notN, q_nonN, q_nonI, q_nonT, q_nonL, q_nonB, q_nonS, q_neB, q_eqB, q_negI, q_absI, bnd_ret, lift_ok, Option.bind_some, Option.map_some, if_true, if_false, ↓reduceIte, Bool.false_eq_true, Bool.not_true, Bool.not_false, Option.bind_none, pd, ne_pD]
      cases decide (b = a) with
      | true => simp only [q_non, q_bl, q_int, q_str, q_var, q_op, q_not, q_and, q_or, q_ite, q_cmp, q_chain, q_tup, q_lst, q_idx, q_slc, q_rev, q_call, q_bi, q_meth, q_isi, q_lnil, q_lcons, q_lstar, q_o0, q_o1, q_t0, q_t1, q_snil, q_scons, q_thenN, q_thenR, q_asg, q_new, q_asNew, q_par, q_parN, q_app, q_ext, q_asExt, q_pop, q_set, q_aug, q_ret, q_if, q_pass, q_getD0, q_getD1, q_set0, q_set1, q_tgN, q_tgT, q_tgL, q_tg0, q_tg1, q_sv0, q_sv1, q_tb, q_ti, q_tl, q_tt, q_add, q_sub, q_lt, q_le, q_gt, q_ge, q_eqI, q_neI, q_lenL, q_lenT, q_tupL, q_tupT, q_lstL, q_lstT, q_seqL, q_seqT, q_revL, q_revT, q_intI, q_intB, q_size0, q_size1, q_size2, q_size3, q_size4, q_size5, q_size6, q_size7, q_size8, q_size9, q_news0, q_newsT, q_newsF, q_augA, q_augS, q_io0, q_io1, q_slcL, q_slcT, q_mapL0, q_mapL1, q_cons1, q_cons0, q_turn, q_dps, q_dpsL, q_idxD, q_sortT, q_sortL, q_isN, q_notN, q_nonN, q_nonI, q_nonT, q_nonL, q_nonB, q_nonS, q_neB, q_eqB, q_negI, q_absI, bnd_ret, lift_ok, Option.bind_some, Option.map_some, if_true, if_false, ↓reduceIte, Bool.false_eq_true, Bool.not_true, Bool.not_false, Option.bind_none, Bool.and_false]
      | false =>
        simp only [q_non, q_bl, q_int, q_str, q_var, q_op, q_not, q_and, q_or, q_ite, q_cmp, q_chain, q_tup, q_lst, q_idx, q_slc, q_rev, q_call, q_bi, q_meth, q_isi, q_lnil, q_lcons, q_lstar, q_o0, q_o1, q_t0, q_t1, q_snil, q_scons, q_thenN, q_thenR, q_asg, q_new, q_asNew, q_par, q_parN, q_app, q_ext, q_asExt, q_pop, q_set, q_aug, q_ret, q_if, q_pass, q_getD0, q_getD1, q_set0, q_set1, q_tgN, q_tgT, q_tgL, q_tg0, q_tg1, q_sv0, q_sv1, q_tb, q_ti, q_tl, q_tt, q_add, q_sub, q_lt, q_le, q_gt, q_ge, q_eqI, q_neI, q_lenL, q_lenT, q_tupL, q_tupT, q_lstL, q_lstT, q_seqL, q_seqT, q_revL, q_revT, q_intI, q_intB, q_size0, q_size1, q_size2, q_size3, q_size4, q_size5, q_size6, q_size7, q_size8, q_size9, q_news0, q_newsT, q_newsF, q_augA, q_augS, q_io0, q_io1, q_slcL, q_slcT, q_mapL0, q_mapL1, q_cons1, q_cons0, q_turn, q_dps, q_dpsL, q_idxD, q_sortT, q_sortL, q_isN, q_notN, q_nonN, q_nonI, q_nonT, q_nonL, q_nonB, q_nonS, q_neB, q_eqB, q_negI, q_absI, bnd_ret, lift_ok, Option.bind_some, Option.map_some, if_true, if_false, ↓reduceIte, Bool.false_eq_true, Bool.not_true, Bool.not_false, Option.bind_none, y0, y1, le_nd]
        cases decide (b.1 ≤ a.1) <;> cases decide (a.2 ≤ b.2) <;> rfl
    have eq : evE false c (.cmp .eq f13 (.lst [])) [some (XL n x), some (.int far), some (.list ((row n x).map nd)), none, none, some (.list (l.map pD)), some (nd a.1), some (nd a.2), some (.list acc), none] = ret (.bool (!l.any (fun b => decide (b.1 ≤ a.1) && (decide (a.2 ≤ b.2) && !decide (b = a))))) := by
      rw [q_cmp, ec, bnd_ret]
      have e0 : evE false c (.lst []) [some (XL n x), some (.int far), some (.list ((row n x).map nd)), none, none, some (.list (l.map pD)), some (nd a.1), some (nd a.2), some (.list acc), none] = ret (.list []) := rfl
      rw [e0, bnd_ret, eq_nil (okL_pD _)]
      have : ((l.filter fun b => decide (b.1 ≤ a.1) && (decide (a.2 ≤ b.2) && !decide (b = a))).map pD).isEmpty = !l.any (fun b => decide (b.1 ≤ a.1) && (decide (a.2 ≤ b.2) && !decide (b = a))) := by
        rw [List.isEmpty_map]
        exact isEmpty_filter _ l
      rw [this]; rfl
    rw [q_scons, exS_if eq rfl]
    cases l.any (fun b => decide (b.1 ≤ a.1) && (decide (a.2 ≤ b.2) && !decide (b = a))) with
    | true => simp only [Bool.not_true, Bool.false_eq_true, if_false, List.append_nil]; rfl
    | false =>
      simp only [q_non, q_bl, q_int, q_str, q_var, q_op, q_not, q_and, q_or, q_ite, q_cmp, q_chain, q_tup, q_lst, q_idx, q_slc, q_rev, q_call, q_bi, q_meth, q_isi, q_lnil, q_lcons, q_lstar, q_o0, q_o1, q_t0, q_t1, q_snil, q_scons, q_thenN, q_thenR, q_asg, q_new, q_asNew, q_par, q_parN, q_app, q_ext, q_asExt, q_pop, q_set, q_aug, q_ret, q_if, q_pass, q_getD0, q_getD1, q_set0, q_set1, q_tgN, q_tgT, q_tgL, q_tg0, q_tg1, q_sv0, q_sv1, q_tb, q_ti, q_tl, q_tt, q_add, q_sub, q_lt, q_le, q_gt, q_ge, q_eqI, q_neI, q_lenL, q_lenT, q_tupL, q_tupT, q_lstL, q_lstT, q_seqL, q_seqT, q_revL, q_revT, q_intI, q_intB, q_size0, q_size1, q_size2, q_size3, q_size4, q_size5, q_size6, q_size7, q_size8, q_size9, q_news0, q_newsT, q_newsF, q_augA, q_augS, q_io0, q_io1, q_slcL, q_slcT, q_mapL0, q_mapL1, q_cons1, q_cons0, q_turn, q_dps, q_dpsL, q_idxD, q_sortT, q_sortL, q_isN, q_notN, q_nonN, q_nonI, q_nonT, q_nonL, q_nonB, q_nonS, q_neB, q_eqB, q_negI, q_absI, bnd_ret, lift_ok, Option.bind_some, Option.map_some, if_true, if_false, ↓reduceIte, Bool.false_eq_true, Bool.not_true, Bool.not_false, Option.bind_none]
      rw [q_lstAt (xs := acc) rfl]
      simp only [q_non, q_bl, q_int, q_str, q_var, q_op, q_not, q_and, q_or, q_ite, q_cmp, q_chain, q_tup, q_lst, q_idx, q_slc, q_rev, q_call, q_bi, q_meth, q_isi, q_lnil, q_lcons, q_lstar, q_o0, q_o1, q_t0, q_t1, q_snil, q_scons, q_thenN, q_thenR, q_asg, q_new, q_asNew, q_par, q_parN, q_app, q_ext, q_asExt, q_pop, q_set, q_aug, q_ret, q_if, q_pass, q_getD0, q_getD1, q_set0, q_set1, q_tgN, q_tgT, q_tgL, q_tg0, q_tg1, q_sv0, q_sv1, q_tb, q_ti, q_tl, q_tt, q_add, q_sub, q_lt, q_le, q_gt, q_ge, q_eqI, q_neI, q_lenL, q_lenT, q_tupL, q_tupT, q_lstL, q_lstT, q_seqL, q_seqT, q_revL, q_revT, q_intI, q_intB, q_size0, q_size1, q_size2, q_size3, q_size4, q_size5, q_size6, q_size7, q_size8, q_size9, q_news0, q_newsT, q_newsF, q_augA, q_augS, q_io0, q_io1, q_slcL, q_slcT, q_mapL0, q_mapL1, q_cons1, q_cons0, q_turn, q_dps, q_dpsL, q_idxD, q_sortT, q_sortL, q_isN, q_notN, q_nonN, q_nonI, q_nonT, q_nonL, q_nonB, q_nonS, q_neB, q_eqB, q_negI, q_absI, bnd_ret, lift_ok, Option.bind_some, Option.map_some, if_true, if_false, ↓reduceIte, Bool.false_eq_true, Bool.not_true, Bool.not_false, Option.bind_none]
      rw [q_small (by omega)]
      simp only [q_non, q_bl, q_int, q_str, q_var, q_op, q_not, q_and, q_or, q_ite, q_cmp, q_chain, q_tup, q_lst, q_idx, q_slc, q_rev, q_call, q_bi, q_meth, q_isi, q_lnil, q_lcons, q_lstar, q_o0, q_o1, q_t0, q_t1, q_snil, q_scons, q_thenN, q_thenR, q_asg, q_new, q_asNew, q_par, q_parN, q_app, q_ext, q_asExt, q_pop, q_set, q_aug, q_ret, q_if, q_pass, q_getD0, q_getD1, q_set0, q_set1, q_tgN, q_tgT, q_tgL, q_tg0, q_tg1, q_sv0, q_sv1, q_tb, q_ti, q_tl, q_tt, q_add, q_sub, q_lt, q_le, q_gt, q_ge, q_eqI, q_neI, q_lenL, q_lenT, q_tupL, q_tupT, q_lstL, q_lstT, q_seqL, q_seqT, q_revL, q_revT, q_intI, q_intB, q_size0, q_size1, q_size2, q_size3, q_size4, q_size5, q_size6, q_size7, q_size8, q_size9, q_news0, q_newsT, q_newsF, q_augA, q_augS, q_io0, q_io1, q_slcL, q_slcT, q_mapL0, q_mapL1, q_cons1, q_cons0, q_turn, q_dps, q_dpsL, q_idxD, q_sortT, q_sortL, q_isN, q_notN, q_nonN, q_nonI, q_nonT, q_nonL, q_nonB, q_nonS, q_neB, q_eqB, q_negI, q_absI, bnd_ret, lift_ok, Option.bind_some, Option.map_some, if_true, if_false, ↓reduceIte, Bool.false_eq_true, Bool.not_true, Bool.not_false, Option.bind_none]
      rfl
  rw [List.nil_append, flat_if] at eb
  have eb : forL (fTurn false c (.tup [.name 6, .name 7]) G13) (l.map pD) [some (XL n x), some (.int far), some (.list ((row n x).map nd)), none, none, some (.list (l.map pD)), j1.1, j1.2, some (.list []), none] = ret (.next [some (XL n x), some (.int far), some (.list ((row n x).map nd)), none, none, some (.list (l.map pD)), j2.1, j2.2, some (.list ((GR l).map pD)), none]) := eb
  have ss := sorted_part hn (gr_sub sb)
  have bt1 : biV .tuple [.list ((row n x).map nd)] = some (tD (row n x)) := rfl
  have bt2 : biV .tuple [.list ((GR l).map pD)] = some (.tuple ((GR l).map pD)) := rfl
  unfold b13
  rw [q_scons, exS_asg e2 rfl, bnd_ret]
  show exL false c _ [some (XL n x), some (.int far), some (.list ((row n x).map nd)), none, none, none, none, none, none, none] = _
  simp only [q_non, q_bl, q_int, q_str, q_var, q_op, q_not, q_and, q_or, q_ite, q_cmp, q_chain, q_tup, q_lst, q_idx, q_slc, q_rev, q_call, q_bi, q_meth, q_isi, q_lnil, q_lcons, q_lstar, q_o0, q_o1, q_t0, q_t1, q_snil, q_scons, q_thenN, q_thenR, q_asg, q_new, q_asNew, q_par, q_parN, q_app, q_ext, q_asExt, q_pop, q_set, q_aug, q_ret, q_if, q_pass, q_getD0, q_getD1, q_set0, q_set1, q_tgN, q_tgT, q_tgL, q_tg0, q_tg1, q_sv0, q_sv1, q_tb, q_ti, q_tl, q_tt, q_add, q_sub, q_lt, q_le, q_gt, q_ge, q_eqI, q_neI, q_lenL, q_lenT, q_tupL, q_tupT, q_lstL, q_lstT, q_seqL, q_seqT, q_revL, q_revT, q_intI, q_intB, q_size0, q_size1, q_size2, q_size3, q_size4, q_size5, q_size6, q_size7, q_size8, q_size9, q_news0, q_newsT, q_newsF, q_augA, q_augS, q_io0, q_io1, q_slcL, q_slcT, q_mapL0, q_mapL1, q_cons1, q_cons0, q_turn, q_dps, q_dpsL, q_idxD, q_sortT, q_sortL, q_isN, q_notN, q_nonN, q_nonI, q_nonT, q_nonL, q_nonB, q_nonS, q_neB, q_eqB, q_negI, q_absI, bnd_ret, lift_ok, Option.bind_some, Option.map_some, if_true, if_false, ↓reduceIte, Bool.false_eq_true, Bool.not_true, Bool.not_false, Option.bind_none, q_for, el, h10]
  rw [ea, bnd_ret]
  simp only [q_non, q_bl, q_int, q_str, q_var, q_op, q_not, q_and, q_or, q_ite, q_cmp, q_chain, q_tup, q_lst, q_idx, q_slc, q_rev, q_call, q_bi, q_meth, q_isi, q_lnil, q_lcons, q_lstar, q_o0, q_o1, q_t0, q_t1, q_snil, q_scons, q_thenN, q_thenR, q_asg, q_new, q_asNew, q_par, q_parN, q_app, q_ext, q_asExt, q_pop, q_set, q_aug, q_ret, q_if, q_pass, q_getD0, q_getD1, q_set0, q_set1, q_tgN, q_tgT, q_tgL, q_tg0, q_tg1, q_sv0, q_sv1, q_tb, q_ti, q_tl, q_tt, q_add, q_sub, q_lt, q_le, q_gt, q_ge, q_eqI, q_neI, q_lenL, q_lenT, q_tupL, q_tupT, q_lstL, q_lstT, q_seqL, q_seqT, q_revL, q_revT, q_intI, q_intB, q_size0, q_size1, q_size2, q_size3, q_size4, q_size5, q_size6, q_size7, q_size8, q_size9, q_news0, q_newsT, q_newsF, q_augA, q_augS, q_io0, q_io1, q_slcL, q_slcT, q_mapL0, q_mapL1, q_cons1, q_cons0, q_turn, q_dps, q_dpsL, q_idxD, q_sortT, q_sortL, q_isN, q_notN, q_nonN, q_nonI, q_nonT, q_nonL, q_nonB, q_nonS, q_neB, q_eqB, q_negI, q_absI, bnd_ret, lift_ok, Option.bind_some, Option.map_some, if_true, if_false, ↓reduceIte, Bool.false_eq_true, Bool.not_true, Bool.not_false, Option.bind_none, q_for]
  rw [eb, bnd_ret]
  simp only [q_non, q_bl, q_int, q_str, q_var, q_op, q_not, q_and, q_or, q_ite, q_cmp, q_chain, q_tup, q_lst, q_idx, q_slc, q_rev, q_call, q_bi, q_meth, q_isi, q_lnil, q_lcons, q_lstar, q_o0, q_o1, q_t0, q_t1, q_snil, q_scons, q_thenN, q_thenR, q_asg, q_new, q_asNew, q_par, q_parN, q_app, q_ext, q_asExt, q_pop, q_set, q_aug, q_ret, q_if, q_pass, q_getD0, q_getD1, q_set0, q_set1, q_tgN, q_tgT, q_tgL, q_tg0, q_tg1, q_sv0, q_sv1, q_tb, q_ti, q_tl, q_tt, q_add, q_sub, q_lt, q_le, q_gt, q_ge, q_eqI, q_neI, q_lenL, q_lenT, q_tupL, q_tupT, q_lstL, q_lstT, q_seqL, q_seqT, q_revL, q_revT, q_intI, q_intB, q_size0, q_size1, q_size2, q_size3, q_size4, q_size5, q_size6, q_size7, q_size8, q_size9, q_news0, q_newsT, q_newsF, q_augA, q_augS, q_io0, q_io1, q_slcL, q_slcT, q_mapL0, q_mapL1, q_cons1, q_cons0, q_turn, q_dps, q_dpsL, q_idxD, q_sortT, q_sortL, q_isN, q_notN, q_nonN, q_nonI, q_nonT, q_nonL, q_nonB, q_nonS, q_neB, q_eqB, q_negI, q_absI, bnd_ret, lift_ok, Option.bind_some, Option.map_some, if_true, if_false, ↓reduceIte, Bool.false_eq_true, Bool.not_true, Bool.not_false, Option.bind_none, ss, bt1, bt2]
end
end Fz.K82x
namespace Fz.K82x
open PySem Fz Fz.K82 Fz.Sh
theorem q_inT {d : D} {xs : List D} (h : okD d = true) (g : okD (.tuple xs) = true) : cmp2 .isin d (.tuple xs) = some (memD d xs) := by
  show (if okD d && okD (.tuple xs) then some (memD d xs) else none) = _
  rw [h, g]; rfl
theorem mem3 (v x y z : Int) : cmp2 .isin (.int v) (.tuple [.int x, .int y, .int z]) = some ([x, y, z].any fun w => w == v) := by
  have := q_inT (d := .int v) (xs := [.int x, .int y, .int z]) rfl (okTi [x, y, z] id)
  rw [this]; rfl
theorem ne_nil {xs : List D} (h : okD (.list xs) = true) : cmp2 .ne (.list xs) (.list []) = some !xs.isEmpty := by
  show (if okD (.list xs) && okD (.list []) then some (!PyData.eqv (.list xs) (.list [])) else none) = _
  rw [h]
  cases xs with
  | nil => rfl
  | cons x r => rfl
/-- a number that is too near one of the others -/
def clash (far : Int) (ws : List Int) (v : Int) : Bool := ws.any fun w => [0, far, 0 - far].any fun u => u == v - w
theorem clash_false {far : Int} {ws : List Int} {v : Int} (h : clash far ws v = false) : ∀ w ∈ ws, v ≠ w ∧ v - w ≠ far ∧ w - v ≠ far := fun w hw => by
  unfold clash at h
  have := List.any_eq_false.mp h w hw
  simp only [List.any_cons, List.any_nil, Bool.or_false, Bool.or_eq_true, beq_iff_eq, not_or] at this
  omega
theorem clash_true {far : Int} {ws : List Int} {v : Int} (h : clash far ws v = true) : ∃ w ∈ ws, v = w ∨ v - w = far ∨ w - v = far := by
  unfold clash at h
  obtain ⟨w, hw, e⟩ := List.any_eq_true.mp h
  simp only [List.any_cons, List.any_nil, Bool.or_false, Bool.or_eq_true, beq_iff_eq] at e
  exact ⟨w, hw, by omega⟩
/-- numbers that are off all planes -/
def Good (far : Int) (ws : List Int) : Prop := ws.Pairwise fun u v => v ≠ u ∧ v - u ≠ far ∧ u - v ≠ far
abbrev q12 : E := .cmp .ne (.comp (.name 6) (.var 3) (some (.cmp .isin (.op .sub (.var 5) (.var 6)) (.tup [.int 0, .var 2, .op .sub (.int 0) (.var 2)]))) (.var 6)) (.lst [])
abbrev W12 : S := .whl q12 [.asg (.name 5) (.op .add (.var 5) (.int 1))]
abbrev E12 (n : Nat) (far : Int) (ws : List Int) (i v : Option D) : En := [some srcD, some (nd n), some (.int far), some (.list (ws.map .int)), i, v, none]
section
variable {c : Cl} {n : Nat} {far : Int}
theorem test12 {ws : List Int} (hl : ws.length ≤ 10) (i : Option D) (v : Int) : evE false c q12 (E12 n far ws i (some (.int v))) = ret (.bool (clash far ws v)) := by
  have ec : evE false c (.comp (.name 6) (.var 3) (some (.cmp .isin (.op .sub (.var 5) (.var 6)) (.tup [.int 0, .var 2, .op .sub (.int 0) (.var 2)]))) (.var 6)) (E12 n far ws i (some (.int v))) = ret (.list ((ws.filter fun w => [0, far, 0 - far].any fun u => u == v - w).map .int)) := by
    refine evE_compF (ws := ws) (g := .int) (h := .int) (p := fun w => [0, far, 0 - far].any fun u => u == v - w) (d := .list (ws.map .int)) rfl rfl (by omega) fun w hw => ⟨[some srcD, some (nd n), some (.int far), some (.list (ws.map .int)), i, some (.int v), some (.int w)], rfl, ?_, fun _ => rfl⟩
    simp only [q_non, q_bl, q_int, q_str, q_var, q_op, q_not, q_and, q_or, q_ite, q_cmp, q_chain, q_tup, q_lst, q_idx, q_slc, q_rev, q_call, q_bi, q_meth, q_isi, q_lnil, q_lcons, q_lstar, q_o0, q_o1, q_t0, q_t1, q_snil, q_scons, q_thenN, q_thenR, q_asg, q_new, q_asNew, q_par, q_parN, q_app, q_ext, q_asExt, q_pop, q_set, q_aug, q_ret, q_if, q_pass, q_getD0, q_getD1, q_set0, q_set1, q_tgN, q_tgT, q_tgL, q_tg0, q_tg1, q_sv0, q_sv1, q_tb, q_ti, q_tl, q_tt, q_add, q_sub, q_lt, q_le, q_gt, q_ge, q_eqI, q_neI, q_lenL, q_lenT, q_tupL, q_tupT, q_lstL, q_lstT, q_seqL, q_seqT, q_revL, q_revT, q_intI, q_intB, q_size0, q_size1, q_size2, q_size3, q_size4, q_size5, q_size6, q_size7, q_size8, q_size9, q_news0, q_newsT, q_newsF, q_augA, q_augS, q_io0, q_io1, q_slcL, q_slcT, q_mapL0, q_mapL1, q_cons1, q_cons0, q_turn, q_dps, q_dpsL, q_idxD, q_sortT, q_sortL, q_isN, q_notN, q_nonN, q_nonI, q_nonT, q_nonL, q_nonB, q_nonS, q_neB, q_eqB, q_negI, q_absI, bnd_ret, lift_ok, Option.bind_some, Option.map_some, if_true, if_false, ↓reduceIte, Bool.false_eq_true, Bool.not_true, Bool.not_false, Option.bind_none, mem3]
  have e0 : evE false c (.lst []) (E12 n far ws i (some (.int v))) = ret (.list []) := rfl
  have ok : okD (.list ((ws.filter fun w => [0, far, 0 - far].any fun u => u == v - w).map PyData.int)) = true := okLi _ id
  rw [q_cmp, ec, bnd_ret, e0, bnd_ret, ne_nil ok, List.isEmpty_map, isEmpty_filter, Bool.not_not]
  rfl
theorem whl12 {ws : List Int} {k : Nat} (hk : ws.length = k) (h5 : k ≤ 5) (hf : 5 ≤ far ∧ far ≤ 44) (hb : ∀ w ∈ ws, 0 ≤ w ∧ w ≤ 200 + 50 * (k : Int)) (i : Option D) {v : Int} (hv : 0 ≤ v ∧ v ≤ 200 + 50 * (k : Int)) :
    ∃ u : Int, exS false c W12 (E12 n far ws i (some (.int v))) = ret (.next (E12 n far ws i (some (.int u)))) ∧ 0 ≤ u ∧ u ≤ 200 + 50 * ((k : Int) + 1) ∧ clash far ws u = false := by
  obtain ⟨u, _, e, h1, h2, _⟩ := whlL_st (J := Unit) (test := fun en2 => bnd (evE false c q12 en2) fun x => lift (truth x)) (body := fun en2 => exL false c [.asg (.name 5) (.op .add (.var 5) (.int 1))] en2)
    (fun (v : Int) (_ : Unit) => E12 n far ws i (some (.int v))) (clash far ws) (fun v => v + 1) (fun v => 0 ≤ v ∧ v ≤ 200 + 50 * ((k : Int) + 1)) (fun v => (1000 - v).toNat)
    (fun v _ _ => by
      show bnd (evE false c q12 (E12 n far ws i (some (.int v)))) _ = _
      rw [test12 (by omega), bnd_ret]; rfl)
    (fun v _ hv hg => by
      obtain ⟨w, hw, ew⟩ := clash_true hg
      have := hb w hw
      refine ⟨(), ?_, by omega, by omega⟩
      show exL false c _ (E12 n far ws i (some (.int v))) = _
      simp only [q_non, q_bl, q_int, q_str, q_var, q_op, q_not, q_and, q_or, q_ite, q_cmp, q_chain, q_tup, q_lst, q_idx, q_slc, q_rev, q_call, q_bi, q_meth, q_isi, q_lnil, q_lcons, q_lstar, q_o0, q_o1, q_t0, q_t1, q_snil, q_scons, q_thenN, q_thenR, q_asg, q_new, q_asNew, q_par, q_parN, q_app, q_ext, q_asExt, q_pop, q_set, q_aug, q_ret, q_if, q_pass, q_getD0, q_getD1, q_set0, q_set1, q_tgN, q_tgT, q_tgL, q_tg0, q_tg1, q_sv0, q_sv1, q_tb, q_ti, q_tl, q_tt, q_add, q_sub, q_lt, q_le, q_gt, q_ge, q_eqI, q_neI, q_lenL, q_lenT, q_tupL, q_tupT, q_lstL, q_lstT, q_seqL, q_seqT, q_revL, q_revT, q_intI, q_intB, q_size0, q_size1, q_size2, q_size3, q_size4, q_size5, q_size6, q_size7, q_size8, q_size9, q_news0, q_newsT, q_newsF, q_augA, q_augS, q_io0, q_io1, q_slcL, q_slcT, q_mapL0, q_mapL1, q_cons1, q_cons0, q_turn, q_dps, q_dpsL, q_idxD, q_sortT, q_sortL, q_isN, q_notN, q_nonN, q_nonI, q_nonT, q_nonL, q_nonB, q_nonS, q_neB, q_eqB, q_negI, q_absI, bnd_ret, lift_ok, Option.bind_some, Option.map_some, if_true, if_false, ↓reduceIte, Bool.false_eq_true, Bool.not_true, Bool.not_false, Option.bind_none]) wFuel v () (by omega) (by unfold wFuel; omega)
  exact ⟨u, e, h1.1, h1.2, h2⟩
theorem run12 (hn : Nn n) {s : Src} {Q : D → Src → Prop} (k : ∀ (x : Nat → Int) (far : Int) (s : Src), 5 ≤ far ∧ far ≤ 44 → Pt n x far → (∀ i, i < n → 0 ≤ x i ∧ x i ≤ 500) → Q (.tuple [XL n x, .int far]) s) :
    Wp (exL false c b12 [some srcD, some (nd n), none, none, none, none, none]) s fun q s1 => match q with
      | .next _ => Q .none s1
      | .ret d => Q d s1 := by
  have b5 := n5 hn
  refine wp_cons (wp_name (wp_op (wp_eq (a := .int 5) rfl (wp_pickV (m := 40) (fun s => rfl) (fun s => rfl) (by decide) (by decide) fun y s1 y0 y1 => ⟨.int (5 + y), rfl, ?_⟩))))
  obtain ⟨far, hfar⟩ : ∃ far, far = 5 + y := ⟨_, rfl⟩
  rw [← hfar]
  have hf : 5 ≤ far ∧ far ≤ 44 := by omega
  refine wp_cons (wp_new (wp_eq (a := .list []) rfl ⟨[], rfl, ?_⟩))
  have er : evE false c (.rng [.var 1]) (E12 n far [] none none) = ret (.list ((List.range n).map nd)) := evE_rng rfl rfl (by omega)
  refine wp_cons (wp_for (xs := (List.range n).map nd) (fun m en => ∃ ws i v, ws.length = m ∧ Good far ws ∧ (∀ w ∈ ws, 0 ≤ w ∧ w ≤ 200 + 50 * (m : Int)) ∧ en = E12 n far ws i v) (wp_eq er ⟨rfl, [], none, none, rfl, .nil, fun w hw => (by cases hw), rfl⟩) ?_ ?_)
  · rintro m z en s hz ⟨ws, i, v, hl, hg, hb, rfl⟩
    have hm : m < n := by
      have := (List.getElem?_eq_some_iff.mp hz).1
      simpa using this
    refine ⟨E12 n far ws (some z) v, rfl, ?_⟩
    have em : evE false c (.op .mul (.int 3) (.var 2)) (E12 n far ws (some z) v) = ret (.int (3 * far)) := by
      simp only [q_non, q_bl, q_int, q_str, q_var, q_op, q_not, q_and, q_or, q_ite, q_cmp, q_chain, q_tup, q_lst, q_idx, q_slc, q_rev, q_call, q_bi, q_meth, q_isi, q_lnil, q_lcons, q_lstar, q_o0, q_o1, q_t0, q_t1, q_snil, q_scons, q_thenN, q_thenR, q_asg, q_new, q_asNew, q_par, q_parN, q_app, q_ext, q_asExt, q_pop, q_set, q_aug, q_ret, q_if, q_pass, q_getD0, q_getD1, q_set0, q_set1, q_tgN, q_tgT, q_tgL, q_tg0, q_tg1, q_sv0, q_sv1, q_tb, q_ti, q_tl, q_tt, q_add, q_sub, q_lt, q_le, q_gt, q_ge, q_eqI, q_neI, q_lenL, q_lenT, q_tupL, q_tupT, q_lstL, q_lstT, q_seqL, q_seqT, q_revL, q_revT, q_intI, q_intB, q_size0, q_size1, q_size2, q_size3, q_size4, q_size5, q_size6, q_size7, q_size8, q_size9, q_news0, q_newsT, q_newsF, q_augA, q_augS, q_io0, q_io1, q_slcL, q_slcT, q_mapL0, q_mapL1, q_cons1, q_cons0, q_turn, q_dps, q_dpsL, q_idxD, q_sortT, q_sortL, q_isN, q_notN, q_nonN, q_nonI, q_nonT, q_nonL, q_nonB, q_nonS, q_neB, q_eqB, q_negI, q_absI, bnd_ret, lift_ok, Option.bind_some, Option.map_some, if_true, if_false, ↓reduceIte, Bool.false_eq_true, Bool.not_true, Bool.not_false, Option.bind_none, op2_mul (show (3 : Int).natAbs < 2 ^ 250 by decide) (show far.natAbs < 2 ^ 250 from Nat.lt_of_le_of_lt (show _ ≤ 50 by omega) (by decide))]
    refine wp_cons (wp_name (wp_pickV (m := 3 * far) (fun s => rfl) (fun s => by rw [em]; rfl) (by omega) (by omega) fun t s3 t0 t1 => ?_))
    show Wp (exL false c [W12, .app 3 (.var 5)] (E12 n far ws (some z) (some (.int t)))) s3 _
    obtain ⟨u, eu, u0, u1, uc⟩ := whl12 (c := c) (n := n) hl (by omega) hf hb (some z) (v := t) (by omega)
    refine wp_next eu ?_
    have cf := clash_false uc
    refine wp_cons (wp_app (xs := ws.map .int) rfl (decide_eq_true (by rw [List.length_map]; omega)) (wp_eq (a := .int u) rfl ?_))
    refine wp_nil (v := false) (c := c) ⟨E12 n far (ws ++ [u]) (some z) (some (.int u)), ?_, ws ++ [u], _, _, by rw [List.length_append, hl]; rfl, ?_, ?_, rfl⟩
    · show Rs.next _ = _
      simp only [E12, List.map_append]; rfl
    · exact List.pairwise_append.mpr ⟨hg, List.pairwise_singleton .., fun w hw y hy => by
        rw [List.mem_singleton.mp hy]; exact cf w hw⟩
    · intro w hw
      rcases List.mem_append.mp hw with hw | hw
      · have := hb w hw; omega
      · rw [List.mem_singleton.mp hw]; omega
  · rintro en s ⟨ws, i, v, hl, hg, hb, rfl⟩
    have hl : ws.length = n := by simpa using hl
    refine wp_cons (wp_retE (wp_eq (a := .tuple [.list (ws.map .int), .int far]) rfl ?_))
    have ex : ws.map PyData.int = (List.range n).map fun i => .int (ws.getD i 0) := by
      refine List.ext_getElem (by simp [hl]) fun i h1 h2 => ?_
      have hi : i < ws.length := by simpa using h1
      rw [List.getElem_map, List.getElem_map, List.getElem_range]
      simp [hi]
    have gd : ∀ i, (hi : i < n) → ∃ h : i < ws.length, ws.getD i 0 = ws[i] := fun i hi => ⟨by omega, by simp [show i < ws.length by omega]⟩
    have pw : ∀ i j, i < j → j < n → ws.getD j 0 ≠ ws.getD i 0 ∧ ws.getD j 0 - ws.getD i 0 ≠ far ∧ ws.getD i 0 - ws.getD j 0 ≠ far := fun i j hij hj => by
      obtain ⟨h1, e1⟩ := gd i (by omega)
      obtain ⟨h2, e2⟩ := gd j hj
      rw [e1, e2]
      exact List.pairwise_iff_getElem.mp hg i j h1 h2 hij
    show Q (.tuple [.list (ws.map .int), .int far]) s
    rw [ex]
    refine k (fun i => ws.getD i 0) far s hf ⟨by omega, fun i j hi hj hij => ?_, fun i j hi hj => ?_⟩ fun i hi => ?_
    · rcases Nat.lt_trichotomy i j with h | h | h
      · exact fun e => (pw i j h hj).1 e.symm
      · exact absurd h hij
      · exact (pw j i h hi).1
    · rcases Nat.lt_trichotomy i j with h | h | h
      · exact (pw i j h hj).2.2
      · subst h; intro e
        have e : ws.getD i 0 - ws.getD i 0 = far := e
        omega
      · exact (pw j i h hi).2.1
    · obtain ⟨h1, e1⟩ := gd i hi
      have := hb _ (List.getElem_mem h1)
      show 0 ≤ ws.getD i 0 ∧ ws.getD i 0 ≤ 500
      rw [e1]
      have hn2 : ((List.map nd (List.range n)).length : Int) ≤ 5 := by simp; omega
      omega
end
end Fz.K82x
namespace Fz.K82x
open PySem Fz Fz.K82 Fz.Sh
abbrev Y (a2 a3 a4 a5 a6 a7 a8 a9 a10 a11 a12 a13 a14 a15 a16 a17 a18 a19 : Option D) : En := [none, some srcD, a2, a3, a4, a5, a6, a7, a8, a9, a10, a11, a12, a13, a14, a15, a16, a17, a18, a19]
/-- the divisor of a number and the great one -/
def Gc (far y : Int) : Int := (Int.gcd (y.natAbs : Int) far : Int)
theorem gc_pos {far y : Int} (h : 0 < far) : 0 < Gc far y := by
  unfold Gc
  have : Int.gcd (y.natAbs : Int) far ≠ 0 := fun e => by
    have := Int.gcd_eq_zero_iff.mp e
    omega
  omega
theorem gc_le {far y : Int} (h : 0 < far) : Gc far y ≤ far := by
  have d : Gc far y ∣ far := Int.gcd_dvd_right ..
  exact Int.le_of_dvd h d
theorem gc_x {far y : Int} (h : 0 < far) : y = Gc far y * (y / Gc far y) := by
  have d : Gc far y ∣ y := by
    have : Gc far y ∣ (y.natAbs : Int) := Int.gcd_dvd_left ..
    exact Int.dvd_natAbs.mp this
  rw [Int.mul_ediv_cancel' d]
theorem gc_far {far y : Int} (h : 0 < far) : far = Gc far y * (far / Gc far y) := by
  have d : Gc far y ∣ far := Int.gcd_dvd_right ..
  rw [Int.mul_ediv_cancel' d]
theorem q_pos {far y : Int} (h : 0 < far) : 0 < far / Gc far y := by
  have e := gc_far (y := y) h
  have g := gc_pos (y := y) h
  rcases Int.lt_trichotomy 0 (far / Gc far y) with z | z | z
  · exact z
  · rw [← z] at e; omega
  · have := Int.mul_neg_of_pos_of_neg g z; omega
theorem div_le {y g : Int} (hy : 0 ≤ y ∧ y ≤ 500) (hg : 0 < g) : (y / g).natAbs < 2 ^ 250 := by
  have h1 : 0 ≤ y / g := Int.ediv_nonneg hy.1 (Int.le_of_lt hg)
  have h2 : y / g ≤ y := Int.ediv_le_self _ hy.1
  exact Nat.lt_of_le_of_lt (show _ ≤ 500 by omega) (by decide)
/-- the fractions of a point -/
def FR (n : Nat) (x : Nat → Int) (far : Int) : List D := (List.range n).map fun i => .tuple [.int (x i / Gc far (x i)), .int (far / Gc far (x i))]
abbrev B4 : List S := [.par [17, 18] [.bi .abs [.var 5], .var 11], .whl (.cmp .gt (.var 18) (.int 0)) [.par [17, 18] [.var 18, .op .mod (.bi .int [.var 17]) (.var 18)]], .app 4 (.tup [.op .fdiv (.var 5) (.var 17), .op .fdiv (.var 11) (.var 17)])]
theorem sgn_scale {a b u v : Int} (hu : 0 < u) (hv : 0 < v) (h : a * u = v * b) : a.sign = b.sign := by
  have : (a * u).sign = (v * b).sign := by rw [h]
  rw [Int.sign_mul, Int.sign_mul, Int.sign_eq_one_of_pos hu, Int.sign_eq_one_of_pos hv] at this
  omega
section
variable {c : Cl} {n : Nat} (hn : Nn n) {x : Nat → Int} {far : Int} (hf : 5 ≤ far ∧ far ≤ 44) (hx : ∀ i, i < n → 0 ≤ x i ∧ x i ≤ 500)
include hf
theorem turn4 {acc : List D} (ha : acc.length < 1000000) (y : Int) (a2 a3 a5 a6 a7 a8 a9 a10 a12 a13 a14 a15 a16 a17 a18 a19 : Option D) :
    exL false c B4 (Y a2 a3 (some (.list acc)) (some (.int y)) a6 a7 a8 a9 a10 (some (.int far)) a12 a13 a14 a15 a16 a17 a18 a19) = ret (.next (Y a2 a3 (some (.list (acc ++ [.tuple [.int (y / Gc far y), .int (far / Gc far y)]]))) (some (.int y)) a6 a7 a8 a9 a10 (some (.int far)) a12 a13 a14 a15 a16 (some (.int (Gc far y))) (some (.int 0)) a19)) := by
  have ab : biV .abs [.int y] = some (.int (y.natAbs : Int)) := by
    show some (PyData.int (if y < 0 then -y else y)) = _
    congr 2
    split <;> omega
  have hw := whl_fuel (test := fun en2 => bnd (evE false c (.cmp .gt (.var 18) (.int 0)) en2) fun x => lift (truth x)) (body := fun en2 => exL false c [.par [17, 18] [.var 18, .op .mod (.bi .int [.var 17]) (.var 18)]] en2)
    (fun a b => Y a2 a3 (some (.list acc)) (some (.int y)) a6 a7 a8 a9 a10 (some (.int far)) a12 a13 a14 a15 a16 (some (.int a)) (some (.int b)) a19)
    (fun a b h => by
      have e : decide (0 < b) = decide (b ≠ 0) := decide_eq_decide.mpr (by omega)
      simp only [q_non, q_bl, q_int, q_str, q_var, q_op, q_not, q_and, q_or, q_ite, q_cmp, q_chain, q_tup, q_lst, q_idx, q_slc, q_rev, q_call, q_bi, q_meth, q_isi, q_lnil, q_lcons, q_lstar, q_o0, q_o1, q_t0, q_t1, q_snil, q_scons, q_thenN, q_thenR, q_asg, q_new, q_asNew, q_par, q_parN, q_app, q_ext, q_asExt, q_pop, q_set, q_aug, q_ret, q_if, q_pass, q_getD0, q_getD1, q_set0, q_set1, q_tgN, q_tgT, q_tgL, q_tg0, q_tg1, q_sv0, q_sv1, q_tb, q_ti, q_tl, q_tt, q_add, q_sub, q_lt, q_le, q_gt, q_ge, q_eqI, q_neI, q_lenL, q_lenT, q_tupL, q_tupT, q_lstL, q_lstT, q_seqL, q_seqT, q_revL, q_revT, q_intI, q_intB, q_size0, q_size1, q_size2, q_size3, q_size4, q_size5, q_size6, q_size7, q_size8, q_size9, q_news0, q_newsT, q_newsF, q_augA, q_augS, q_io0, q_io1, q_slcL, q_slcT, q_mapL0, q_mapL1, q_cons1, q_cons0, q_turn, q_dps, q_dpsL, q_idxD, q_sortT, q_sortL, q_isN, q_notN, q_nonN, q_nonI, q_nonT, q_nonL, q_nonB, q_nonS, q_neB, q_eqB, q_negI, q_absI, bnd_ret, lift_ok, Option.bind_some, Option.map_some, if_true, if_false, ↓reduceIte, Bool.false_eq_true, Bool.not_true, Bool.not_false, Option.bind_none, e])
    (fun a b h => by
      have bi : biV .int [.int a] = some (.int a) := rfl
      simp only [q_non, q_bl, q_int, q_str, q_var, q_op, q_not, q_and, q_or, q_ite, q_cmp, q_chain, q_tup, q_lst, q_idx, q_slc, q_rev, q_call, q_bi, q_meth, q_isi, q_lnil, q_lcons, q_lstar, q_o0, q_o1, q_t0, q_t1, q_snil, q_scons, q_thenN, q_thenR, q_asg, q_new, q_asNew, q_par, q_parN, q_app, q_ext, q_asExt, q_pop, q_set, q_aug, q_ret, q_if, q_pass, q_getD0, q_getD1, q_set0, q_set1, q_tgN, q_tgT, q_tgL, q_tg0, q_tg1, q_sv0, q_sv1, q_tb, q_ti, q_tl, q_tt, q_add, q_sub, q_lt, q_le, q_gt, q_ge, q_eqI, q_neI, q_lenL, q_lenT, q_tupL, q_tupT, q_lstL, q_lstT, q_seqL, q_seqT, q_revL, q_revT, q_intI, q_intB, q_size0, q_size1, q_size2, q_size3, q_size4, q_size5, q_size6, q_size7, q_size8, q_size9, q_news0, q_newsT, q_newsF, q_augA, q_augS, q_io0, q_io1, q_slcL, q_slcT, q_mapL0, q_mapL1, q_cons1, q_cons0, q_turn, q_dps, q_dpsL, q_idxD, q_sortT, q_sortL, q_isN, q_notN, q_nonN, q_nonI, q_nonT, q_nonL, q_nonB, q_nonS, q_neB, q_eqB, q_negI, q_absI, bnd_ret, lift_ok, Option.bind_some, Option.map_some, if_true, if_false, ↓reduceIte, Bool.false_eq_true, Bool.not_true, Bool.not_false, Option.bind_none, bi]
      rw [op2_mod h]
      simp only [q_non, q_bl, q_int, q_str, q_var, q_op, q_not, q_and, q_or, q_ite, q_cmp, q_chain, q_tup, q_lst, q_idx, q_slc, q_rev, q_call, q_bi, q_meth, q_isi, q_lnil, q_lcons, q_lstar, q_o0, q_o1, q_t0, q_t1, q_snil, q_scons, q_thenN, q_thenR, q_asg, q_new, q_asNew, q_par, q_parN, q_app, q_ext, q_asExt, q_pop, q_set, q_aug, q_ret, q_if, q_pass, q_getD0, q_getD1, q_set0, q_set1, q_tgN, q_tgT, q_tgL, q_tg0, q_tg1, q_sv0, q_sv1, q_tb, q_ti, q_tl, q_tt, q_add, q_sub, q_lt, q_le, q_gt, q_ge, q_eqI, q_neI, q_lenL, q_lenT, q_tupL, q_tupT, q_lstL, q_lstT, q_seqL, q_seqT, q_revL, q_revT, q_intI, q_intB, q_size0, q_size1, q_size2, q_size3, q_size4, q_size5, q_size6, q_size7, q_size8, q_size9, q_news0, q_newsT, q_newsF, q_augA, q_augS, q_io0, q_io1, q_slcL, q_slcT, q_mapL0, q_mapL1, q_cons1, q_cons0, q_turn, q_dps, q_dpsL, q_idxD, q_sortT, q_sortL, q_isN, q_notN, q_nonN, q_nonI, q_nonT, q_nonL, q_nonB, q_nonS, q_neB, q_eqB, q_negI, q_absI, bnd_ret, lift_ok, Option.bind_some, Option.map_some, if_true, if_false, ↓reduceIte, Bool.false_eq_true, Bool.not_true, Bool.not_false, Option.bind_none])
    (y.natAbs : Int) far (by omega) (Int.lt_of_le_of_lt hf.2 (by decide))
  rw [if_neg (by omega)] at hw
  have gp := gc_pos (far := far) (y := y) (by omega)
  have gl := gc_le (far := far) (y := y) (by omega)
  have gb : (Gc far y).natAbs < 2 ^ 250 := Nat.lt_of_le_of_lt (show _ ≤ 50 by omega) (by decide)
  have dv := fun i => op2_fdiv (i := i) gp gb
  rw [q_scons]
  have e1 : exS false c (.par [17, 18] [.bi .abs [.var 5], .var 11]) (Y a2 a3 (some (.list acc)) (some (.int y)) a6 a7 a8 a9 a10 (some (.int far)) a12 a13 a14 a15 a16 a17 a18 a19) = ret (.next (Y a2 a3 (some (.list acc)) (some (.int y)) a6 a7 a8 a9 a10 (some (.int far)) a12 a13 a14 a15 a16 (some (.int (y.natAbs : Int))) (some (.int far)) a19)) := by
    simp only [q_non, q_bl, q_int, q_str, q_var, q_op, q_not, q_and, q_or, q_ite, q_cmp, q_chain, q_tup, q_lst, q_idx, q_slc, q_rev, q_call, q_bi, q_meth, q_isi, q_lnil, q_lcons, q_lstar, q_o0, q_o1, q_t0, q_t1, q_snil, q_scons, q_thenN, q_thenR, q_asg, q_new, q_asNew, q_par, q_parN, q_app, q_ext, q_asExt, q_pop, q_set, q_aug, q_ret, q_if, q_pass, q_getD0, q_getD1, q_set0, q_set1, q_tgN, q_tgT, q_tgL, q_tg0, q_tg1, q_sv0, q_sv1, q_tb, q_ti, q_tl, q_tt, q_add, q_sub, q_lt, q_le, q_gt, q_ge, q_eqI, q_neI, q_lenL, q_lenT, q_tupL, q_tupT, q_lstL, q_lstT, q_seqL, q_seqT, q_revL, q_revT, q_intI, q_intB, q_size0, q_size1, q_size2, q_size3, q_size4, q_size5, q_size6, q_size7, q_size8, q_size9, q_news0, q_newsT, q_newsF, q_augA, q_augS, q_io0, q_io1, q_slcL, q_slcT, q_mapL0, q_mapL1, q_cons1, q_cons0, q_turn, q_dps, q_dpsL, q_idxD, q_sortT, q_sortL, q_isN, q_notN, q_nonN, q_nonI, q_nonT, q_nonL, q_nonB, q_nonS, q_neB, q_eqB, q_negI, q_absI, bnd_ret, lift_ok, Option.bind_some, Option.map_some, if_true, if_false, ↓reduceIte, Bool.false_eq_true, Bool.not_true, Bool.not_false, Option.bind_none, ab]
  rw [e1, bnd_ret]
  show exL false c _ _ = _
  rw [exL_next (exS_whl.trans hw)]
  have e3 : exS false c (.app 4 (.tup [.op .fdiv (.var 5) (.var 17), .op .fdiv (.var 11) (.var 17)])) (Y a2 a3 (some (.list acc)) (some (.int y)) a6 a7 a8 a9 a10 (some (.int far)) a12 a13 a14 a15 a16 (some (.int (Gc far y))) (some (.int 0)) a19) = ret (.next (Y a2 a3 (some (.list (acc ++ [.tuple [.int (y / Gc far y), .int (far / Gc far y)]]))) (some (.int y)) a6 a7 a8 a9 a10 (some (.int far)) a12 a13 a14 a15 a16 (some (.int (Gc far y))) (some (.int 0)) a19)) := by
    refine exS_app (d := .tuple [.int (y / Gc far y), .int (far / Gc far y)]) (xs := acc) ?_ rfl (decide_eq_true (by omega))
    simp only [q_non, q_bl, q_int, q_str, q_var, q_op, q_not, q_and, q_or, q_ite, q_cmp, q_chain, q_tup, q_lst, q_idx, q_slc, q_rev, q_call, q_bi, q_meth, q_isi, q_lnil, q_lcons, q_lstar, q_o0, q_o1, q_t0, q_t1, q_snil, q_scons, q_thenN, q_thenR, q_asg, q_new, q_asNew, q_par, q_parN, q_app, q_ext, q_asExt, q_pop, q_set, q_aug, q_ret, q_if, q_pass, q_getD0, q_getD1, q_set0, q_set1, q_tgN, q_tgT, q_tgL, q_tg0, q_tg1, q_sv0, q_sv1, q_tb, q_ti, q_tl, q_tt, q_add, q_sub, q_lt, q_le, q_gt, q_ge, q_eqI, q_neI, q_lenL, q_lenT, q_tupL, q_tupT, q_lstL, q_lstT, q_seqL, q_seqT, q_revL, q_revT, q_intI, q_intB, q_size0, q_size1, q_size2, q_size3, q_size4, q_size5, q_size6, q_size7, q_size8, q_size9, q_news0, q_newsT, q_newsF, q_augA, q_augS, q_io0, q_io1, q_slcL, q_slcT, q_mapL0, q_mapL1, q_cons1, q_cons0, q_turn, q_dps, q_dpsL, q_idxD, q_sortT, q_sortL, q_isN, q_notN, q_nonN, q_nonI, q_nonT, q_nonL, q_nonB, q_nonS, q_neB, q_eqB, q_negI, q_absI, bnd_ret, lift_ok, Option.bind_some, Option.map_some, if_true, if_false, ↓reduceIte, Bool.false_eq_true, Bool.not_true, Bool.not_false, Option.bind_none, dv]
  exact (exL_next e3).trans rfl
include hn
theorem line4 (a2 a3 a5 a6 a7 a8 a9 a12 a13 a14 a15 a16 a17 a18 a19 : Option D) : ∃ b5 b17 b18, exS false c (.for_ (.name 5) (.var 10) B4) (Y a2 a3 (some (.list [])) a5 a6 a7 a8 a9 (some (XL n x)) (some (.int far)) a12 a13 a14 a15 a16 a17 a18 a19) = ret (.next (Y a2 a3 (some (.list (FR n x far))) b5 a6 a7 a8 a9 (some (XL n x)) (some (.int far)) a12 a13 a14 a15 a16 b17 b18 a19)) := by
  have b5 := n5 hn
  obtain ⟨j', e⟩ := forL_app (J := Option D × Option D × Option D) (body := fTurn false c (.name 5) B4) (g := fun i => .int (x i)) (h := fun i => .tuple [.int (x i / Gc far (x i)), .int (far / Gc far (x i))])
    (fun acc j => Y a2 a3 (some (.list acc)) j.1 a6 a7 a8 a9 (some (XL n x)) (some (.int far)) a12 a13 a14 a15 a16 j.2.1 j.2.2 a19) (List.range n) [] (a5, a17, a18) (by simp; omega) fun acc j i hi ha =>
      ⟨(some (.int (x i)), some (.int (Gc far (x i))), some (.int 0)), turn4 hf ha (x i) a2 a3 j.1 a6 a7 a8 a9 (some (XL n x)) a12 a13 a14 a15 a16 j.2.1 j.2.2 a19⟩
  refine ⟨j'.1, j'.2.1, j'.2.2, ?_⟩
  have e0 : evE false c (.var 10) (Y a2 a3 (some (.list [])) a5 a6 a7 a8 a9 (some (XL n x)) (some (.int far)) a12 a13 a14 a15 a16 a17 a18 a19) = ret (XL n x) := rfl
  have sx : seqOf (XL n x) = some ((List.range n).map fun i => .int (x i)) := rfl
  rw [q_for, e0, bnd_ret, sx, lift_ok, bnd_ret, e, List.nil_append]
  rfl
include hx
theorem run2 (h0 : c 0 [nd n] = ret (.list ((Prs n).map pD))) : exL false c b2 [some (.tuple (FR n x far)), none, none, none, none, none, none, none, none] = ret (.ret (SGD n x far)) := by
  have pl := prs_len hn
  have el : biV .len [.tuple (FR n x far)] = some (nd n) := by
    show some (PyData.int ((FR n x far).length : Nat)) = _
    unfold FR
    rw [List.length_map, List.length_range]; rfl
  have fi : ∀ {i}, i < n → idxV (.tuple (FR n x far)) (nd i) = some (.tuple [.int (x i / Gc far (x i)), .int (far / Gc far (x i))]) := fun hi => idx_rngT n (fun i => .tuple [.int (x i / Gc far (x i)), .int (far / Gc far (x i))]) hi
  obtain ⟨j', e⟩ := forL_acc (J := Option D × Option D × Option D × Option D × Option D × Option D × Option D) (body := fTurn false c (.tup [.name 2, .name 3]) [.asg (.tup [.tup [.name 5, .name 6], .tup [.name 7, .name 8]]) (.tup [.idx (.var 0) (.var 2), .idx (.var 0) (.var 3)]), .asg (.name 4) (.op .sub (.op .mul (.var 5) (.var 8)) (.op .mul (.var 7) (.var 6))), .ext 1 (.lst [.op .sub (.bi .int [.cmp .gt (.var 4) (.int 0)]) (.bi .int [.cmp .lt (.var 4) (.int 0)]), .op .sub (.bi .int [.cmp .gt (.var 4) (.op .mul (.var 6) (.var 8))]) (.bi .int [.cmp .lt (.var 4) (.op .mul (.var 6) (.var 8))])])]) (g := pD)
    (h := fun a => [.int (x a.1 - x a.2).sign, .int (x a.1 - x a.2 - far).sign])
    (fun acc j => [some (.tuple (FR n x far)), some (.list acc), j.1, j.2.1, j.2.2.1, j.2.2.2.1, j.2.2.2.2.1, j.2.2.2.2.2.1, j.2.2.2.2.2.2]) (fun _ => Nat.le_refl _) (Prs n) [] (none, none, none, none, none, none, none) (by rw [List.length_nil]; omega) fun acc j a ha hl => by
    obtain ⟨h1, h2⟩ := mem_prs.mp (show (a.1, a.2) ∈ Prs n from ha)
    have i1 := fi (show a.1 < n by omega)
    have i2 := fi h2
    have hf0 : 0 < far := by omega
    have e1 := gc_x (far := far) (y := x a.1) hf0
    have e2 := gc_x (far := far) (y := x a.2) hf0
    have f1 := gc_far (far := far) (y := x a.1) hf0
    have f2 := gc_far (far := far) (y := x a.2) hf0
    have p1 := gc_pos (far := far) (y := x a.1) hf0
    have p2 := gc_pos (far := far) (y := x a.2) hf0
    have z1 := div_le (hx a.1 (by omega)) p1
    have z2 := div_le (hx a.2 h2) p2
    have z3 := div_le (y := far) ⟨by omega, by omega⟩ p1
    have z4 := div_le (y := far) ⟨by omega, by omega⟩ p2
    generalize Gc far (x a.1) = u at *
    generalize Gc far (x a.2) = v at *
    generalize hP : x a.1 / u = p at *
    generalize hR : x a.2 / v = r at *
    generalize hQ : far / u = q at *
    generalize hS : far / v = t at *
    have s1 : (p * t - r * q).sign = (x a.1 - x a.2).sign := sgn_scale (Int.mul_pos p1 p2) hf0 (by
      have : far * (x a.1 - x a.2) = far * x a.1 - far * x a.2 := Int.mul_sub ..
      rw [this]
      have k1 : far * x a.1 = (v * t) * (u * p) := by rw [← f2, ← e1]
      have k2 : far * x a.2 = (u * q) * (v * r) := by rw [← f1, ← e2]
      rw [k1, k2]; grind)
    have s2 : (p * t - r * q - q * t).sign = (x a.1 - x a.2 - far).sign := sgn_scale (Int.mul_pos p1 p2) hf0 (by
      have : far * (x a.1 - x a.2 - far) = far * x a.1 - far * x a.2 - far * far := by grind
      rw [this]
      have k1 : far * x a.1 = (v * t) * (u * p) := by rw [← f2, ← e1]
      have k2 : far * x a.2 = (u * q) * (v * r) := by rw [← f1, ← e2]
      have k3 : far * far = (u * q) * (v * t) := by rw [← f1, ← f2]
      rw [k1, k2, k3]; grind)
    refine ⟨(some (nd a.1), some (nd a.2), some (.int (p * t - r * q)), some (.int p), some (.int q), some (.int r), some (.int t)), ?_⟩
    have tg : tgSet (.tup [.name 2, .name 3]) (pD a) [some (.tuple (FR n x far)), some (.list acc), j.1, j.2.1, j.2.2.1, j.2.2.2.1, j.2.2.2.2.1, j.2.2.2.2.2.1, j.2.2.2.2.2.2] = some [some (.tuple (FR n x far)), some (.list acc), some (nd a.1), some (nd a.2), j.2.2.1, j.2.2.2.1, j.2.2.2.2.1, j.2.2.2.2.2.1, j.2.2.2.2.2.2] := rfl
    rw [q_turnF, tg, lift_ok, bnd_ret]
    simp only [q_non, q_bl, q_int, q_str, q_var, q_op, q_not, q_and, q_or, q_ite, q_cmp, q_chain, q_tup, q_lst, q_idx, q_slc, q_rev, q_call, q_bi, q_meth, q_isi, q_lnil, q_lcons, q_lstar, q_o0, q_o1, q_t0, q_t1, q_snil, q_scons, q_thenN, q_thenR, q_asg, q_new, q_asNew, q_par, q_parN, q_app, q_ext, q_asExt, q_pop, q_set, q_aug, q_ret, q_if, q_pass, q_getD0, q_getD1, q_set0, q_set1, q_tgN, q_tgT, q_tgL, q_tg0, q_tg1, q_sv0, q_sv1, q_tb, q_ti, q_tl, q_tt, q_add, q_sub, q_lt, q_le, q_gt, q_ge, q_eqI, q_neI, q_lenL, q_lenT, q_tupL, q_tupT, q_lstL, q_lstT, q_seqL, q_seqT, q_revL, q_revT, q_intI, q_intB, q_size0, q_size1, q_size2, q_size3, q_size4, q_size5, q_size6, q_size7, q_size8, q_size9, q_news0, q_newsT, q_newsF, q_augA, q_augS, q_io0, q_io1, q_slcL, q_slcT, q_mapL0, q_mapL1, q_cons1, q_cons0, q_turn, q_dps, q_dpsL, q_idxD, q_sortT, q_sortL, q_isN, q_notN, q_nonN, q_nonI, q_nonT, q_nonL, q_nonB, q_nonS, q_neB, q_eqB, q_negI, q_absI, bnd_ret, lift_ok, Option.bind_some, Option.map_some, if_true, if_false, ↓reduceIte, Bool.false_eq_true, Bool.not_true, Bool.not_false, Option.bind_none, i1, i2, op2_mul z1 z4, op2_mul z2 z3, op2_mul z3 z4]
    rw [q_lstAt (xs := acc) rfl]
    simp only [q_non, q_bl, q_int, q_str, q_var, q_op, q_not, q_and, q_or, q_ite, q_cmp, q_chain, q_tup, q_lst, q_idx, q_slc, q_rev, q_call, q_bi, q_meth, q_isi, q_lnil, q_lcons, q_lstar, q_o0, q_o1, q_t0, q_t1, q_snil, q_scons, q_thenN, q_thenR, q_asg, q_new, q_asNew, q_par, q_parN, q_app, q_ext, q_asExt, q_pop, q_set, q_aug, q_ret, q_if, q_pass, q_getD0, q_getD1, q_set0, q_set1, q_tgN, q_tgT, q_tgL, q_tg0, q_tg1, q_sv0, q_sv1, q_tb, q_ti, q_tl, q_tt, q_add, q_sub, q_lt, q_le, q_gt, q_ge, q_eqI, q_neI, q_lenL, q_lenT, q_tupL, q_tupT, q_lstL, q_lstT, q_seqL, q_seqT, q_revL, q_revT, q_intI, q_intB, q_size0, q_size1, q_size2, q_size3, q_size4, q_size5, q_size6, q_size7, q_size8, q_size9, q_news0, q_newsT, q_newsF, q_augA, q_augS, q_io0, q_io1, q_slcL, q_slcT, q_mapL0, q_mapL1, q_cons1, q_cons0, q_turn, q_dps, q_dpsL, q_idxD, q_sortT, q_sortL, q_isN, q_notN, q_nonN, q_nonI, q_nonT, q_nonL, q_nonB, q_nonS, q_neB, q_eqB, q_negI, q_absI, bnd_ret, lift_ok, Option.bind_some, Option.map_some, if_true, if_false, ↓reduceIte, Bool.false_eq_true, Bool.not_true, Bool.not_false, Option.bind_none]
    rw [q_small (by simp only [List.length_cons, List.length_nil]; omega), sgn_code0, sgn_code, s1, s2]
    simp only [q_non, q_bl, q_int, q_str, q_var, q_op, q_not, q_and, q_or, q_ite, q_cmp, q_chain, q_tup, q_lst, q_idx, q_slc, q_rev, q_call, q_bi, q_meth, q_isi, q_lnil, q_lcons, q_lstar, q_o0, q_o1, q_t0, q_t1, q_snil, q_scons, q_thenN, q_thenR, q_asg, q_new, q_asNew, q_par, q_parN, q_app, q_ext, q_asExt, q_pop, q_set, q_aug, q_ret, q_if, q_pass, q_getD0, q_getD1, q_set0, q_set1, q_tgN, q_tgT, q_tgL, q_tg0, q_tg1, q_sv0, q_sv1, q_tb, q_ti, q_tl, q_tt, q_add, q_sub, q_lt, q_le, q_gt, q_ge, q_eqI, q_neI, q_lenL, q_lenT, q_tupL, q_tupT, q_lstL, q_lstT, q_seqL, q_seqT, q_revL, q_revT, q_intI, q_intB, q_size0, q_size1, q_size2, q_size3, q_size4, q_size5, q_size6, q_size7, q_size8, q_size9, q_news0, q_newsT, q_newsF, q_augA, q_augS, q_io0, q_io1, q_slcL, q_slcT, q_mapL0, q_mapL1, q_cons1, q_cons0, q_turn, q_dps, q_dpsL, q_idxD, q_sortT, q_sortL, q_isN, q_notN, q_nonN, q_nonI, q_nonT, q_nonL, q_nonB, q_nonS, q_neB, q_eqB, q_negI, q_absI, bnd_ret, lift_ok, Option.bind_some, Option.map_some, if_true, if_false, ↓reduceIte, Bool.false_eq_true, Bool.not_true, Bool.not_false, Option.bind_none]
  unfold b2
  simp only [q_non, q_bl, q_int, q_str, q_var, q_op, q_not, q_and, q_or, q_ite, q_cmp, q_chain, q_tup, q_lst, q_idx, q_slc, q_rev, q_call, q_bi, q_meth, q_isi, q_lnil, q_lcons, q_lstar, q_o0, q_o1, q_t0, q_t1, q_snil, q_scons, q_thenN, q_thenR, q_asg, q_new, q_asNew, q_par, q_parN, q_app, q_ext, q_asExt, q_pop, q_set, q_aug, q_ret, q_if, q_pass, q_getD0, q_getD1, q_set0, q_set1, q_tgN, q_tgT, q_tgL, q_tg0, q_tg1, q_sv0, q_sv1, q_tb, q_ti, q_tl, q_tt, q_add, q_sub, q_lt, q_le, q_gt, q_ge, q_eqI, q_neI, q_lenL, q_lenT, q_tupL, q_tupT, q_lstL, q_lstT, q_seqL, q_seqT, q_revL, q_revT, q_intI, q_intB, q_size0, q_size1, q_size2, q_size3, q_size4, q_size5, q_size6, q_size7, q_size8, q_size9, q_news0, q_newsT, q_newsF, q_augA, q_augS, q_io0, q_io1, q_slcL, q_slcT, q_mapL0, q_mapL1, q_cons1, q_cons0, q_turn, q_dps, q_dpsL, q_idxD, q_sortT, q_sortL, q_isN, q_notN, q_nonN, q_nonI, q_nonT, q_nonL, q_nonB, q_nonS, q_neB, q_eqB, q_negI, q_absI, bnd_ret, lift_ok, Option.bind_some, Option.map_some, if_true, if_false, ↓reduceIte, Bool.false_eq_true, Bool.not_true, Bool.not_false, Option.bind_none, q_for, el, h0]
  rw [e]
  have : (([] : List D) ++ (Prs n).flatMap fun a => [PyData.int (x a.1 - x a.2).sign, PyData.int (x a.1 - x a.2 - far).sign]) = (SG n x far).map .int := by
    rw [List.nil_append]; unfold SG; rw [List.map_flatMap]; rfl
  rw [this]
  rfl
end
end Fz.K82x
namespace Fz.K82x
open PySem Fz Fz.K82 Fz.Sh
theorem prs_ltP {n : Nat} (hn : Nn n) : (Prs n).Pairwise fun a b => ltP a b = true := by rcases hn with rfl | rfl | rfl | rfl | rfl <;> decide
theorem sorted_pairs (l : List (Nat × Nat)) : biV .sorted [.list (l.map pD)] = some (.list ((sortP l).map pD)) := by
  show sortV (l.map pD) = _
  cases l with
  | nil => rfl
  | cons a r =>
    unfold sortV
    have e : intsOf ((a :: r).map pD) = none := rfl
    rw [e, tups_prs]
    show some (PyData.list ((sortT ((a :: r).map toL)).map fun ns => .tuple (ns.map .int))) = _
    rw [sortT_pair, List.map_map]
    rfl
/-- arcs as drawn -/
structure Arcs (n : Nat) (rw_ : List Nat) (g : List (Nat × Nat)) : Prop where
  part : g = (Prs n).filter fun a => g.contains a
  ac : AC g
  up : ∀ a ∈ g, rw_.getD a.1 0 < rw_.getD a.2 0
abbrev f14 : E := .comp (.name 6) (.var 2) (some (.or (.and (.cmp .le (.idx (.var 6) (.int 0)) (.var 3)) (.cmp .le (.var 4) (.idx (.var 6) (.int 1)))) (.and (.cmp .le (.var 3) (.idx (.var 6) (.int 0))) (.cmp .le (.idx (.var 6) (.int 1)) (.var 4))))) (.var 6)
abbrev I14 : List S := [.asg (.name 5) f14, .ite (.and (.cmp .eq (.var 5) (.lst [])) (.cmp .gt (.pick (.var 0) (.int 3)) (.int 0))) [.app 2 (.tup [.var 3, .var 4])] []]
abbrev it14 : E := .comp (.tup [.name 3, .name 4]) (.call 10 [.bi .len [.var 1]]) (some (.cmp .lt (.idx (.var 1) (.var 3)) (.idx (.var 1) (.var 4)))) (.tup [.var 3, .var 4])
section
variable {c : Cl} {n : Nat} (hn : Nn n) {rw_ : List Nat} (hr : rw_.Perm (List.range n))
abbrev E14 (rw_ : List Nat) (l : List (Nat × Nat)) (a3 a4 a5 : Option D) : En := [some srcD, some (tD rw_), some (.list (l.map pD)), a3, a4, a5, none]
include hn hr
theorem rw_idx {p : Nat} (hp : p < n) : idxV (tD rw_) (nd p) = some (nd (rw_.getD p 0)) := by
  have h : p < rw_.length := by rw [hr.length_eq, List.length_range]; exact hp
  show idxV (.list (rw_.map nd)) (.int (p : Int)) = _
  refine idxV_nat ?_
  rw [List.getElem?_map, List.getElem?_eq_getElem h]
  simp [h]
theorem run14 (h10 : c 10 [nd n] = ret (.list ((Prs n).map pD))) (h8 : ∀ (us : List (Nat × Nat)) (s : Src) (Q : D → Src → Prop), us.length ≤ 10 → (∀ (rs : List (Nat × Nat)) (s : Src), rs.Perm us → Q (.list (rs.map pD)) s) → Wp (c 8 [srcD, .list (us.map pD)]) s Q)
    {s : Src} {Q : D → Src → Prop} (k : ∀ g s, Arcs n rw_ g → Q (.tuple (g.map pD)) s) : Wp (exL false c b14 [some srcD, some (tD rw_), none, none, none, none, none]) s fun q s1 => match q with
      | .next _ => Q .none s1
      | .ret d => Q d s1 := by
  have pl := prs_len hn
  have el : biV .len [tD rw_] = some (nd n) := by
    show some (PyData.int ((rw_.map nd).length : Nat)) = _
    rw [List.length_map, hr.length_eq, List.length_range]; rfl
  refine wp_cons (wp_new (wp_eq (a := .list []) rfl ⟨[], rfl, ?_⟩))
  obtain ⟨V, hV⟩ : ∃ V, V = (Prs n).filter fun a => decide (rw_.getD a.1 0 < rw_.getD a.2 0) := ⟨_, rfl⟩
  have ev : evE false c it14 (E14 rw_ [] none none none) = ret (.list (V.map pD)) := by
    rw [hV]
    refine evE_compF (ws := Prs n) (g := pD) (h := pD) (d := .list ((Prs n).map pD)) (by simp only [q_non, q_bl, q_int, q_str, q_var, q_op, q_not, q_and, q_or, q_ite, q_cmp, q_chain, q_tup, q_lst, q_idx, q_slc, q_rev, q_call, q_bi, q_meth, q_isi, q_lnil, q_lcons, q_lstar, q_o0, q_o1, q_t0, q_t1, q_snil, q_scons, q_thenN, q_thenR, q_asg, q_new, q_asNew, q_par, q_parN, q_app, q_ext, q_asExt, q_pop, q_set, q_aug, q_ret, q_if, q_pass, q_getD0, q_getD1, q_set0, q_set1, q_tgN, q_tgT, q_tgL, q_tg0, q_tg1, q_sv0, q_sv1, q_tb, q_ti, q_tl, q_tt, q_add, q_sub, q_lt, q_le, q_gt, q_ge, q_eqI, q_neI, q_lenL, q_lenT, q_tupL, q_tupT, q_lstL, q_lstT, q_seqL, q_seqT, q_revL, q_revT, q_intI, q_intB, q_size0, q_size1, q_size2, q_size3, q_size4, q_size5, q_size6, q_size7, q_size8, q_size9, q_news0, q_newsT, q_newsF, q_augA, q_augS, q_io0, q_io1, q_slcL, q_slcT, q_mapL0, q_mapL1, q_cons1, q_cons0, q_turn, q_dps, q_dpsL, q_idxD, q_sortT, q_sortL, q_isN, q_notN, q_nonN, q_nonI, q_nonT, q_nonL, q_nonB, q_nonS, q_neB, q_eqB, q_negI, q_absI, bnd_ret, lift_ok, Option.bind_some, Option.map_some, if_true, if_false, ↓reduceIte, Bool.false_eq_true, Bool.not_true, Bool.not_false, Option.bind_none, el, h10]) rfl (by omega) fun a ha => ⟨E14 rw_ [] (some (nd a.1)) (some (nd a.2)) none, rfl, ?_, fun _ => rfl⟩
    obtain ⟨h1, h2⟩ := mem_prs.mp (show (a.1, a.2) ∈ Prs n from ha)
    simp only [q_non, q_bl, q_int, q_str, q_var, q_op, q_not, q_and, q_or, q_ite, q_cmp, q_chain, q_tup, q_lst, q_idx, q_slc, q_rev, q_call, q_bi, q_meth, q_isi, q_lnil, q_lcons, q_lstar, q_o0, q_o1, q_t0, q_t1, q_snil, q_scons, q_thenN, q_thenR, q_asg, q_new, q_asNew, q_par, q_parN, q_app, q_ext, q_asExt, q_pop, q_set, q_aug, q_ret, q_if, q_pass, q_getD0, q_getD1, q_set0, q_set1, q_tgN, q_tgT, q_tgL, q_tg0, q_tg1, q_sv0, q_sv1, q_tb, q_ti, q_tl, q_tt, q_add, q_sub, q_lt, q_le, q_gt, q_ge, q_eqI, q_neI, q_lenL, q_lenT, q_tupL, q_tupT, q_lstL, q_lstT, q_seqL, q_seqT, q_revL, q_revT, q_intI, q_intB, q_size0, q_size1, q_size2, q_size3, q_size4, q_size5, q_size6, q_size7, q_size8, q_size9, q_news0, q_newsT, q_newsF, q_augA, q_augS, q_io0, q_io1, q_slcL, q_slcT, q_mapL0, q_mapL1, q_cons1, q_cons0, q_turn, q_dps, q_dpsL, q_idxD, q_sortT, q_sortL, q_isN, q_notN, q_nonN, q_nonI, q_nonT, q_nonL, q_nonB, q_nonS, q_neB, q_eqB, q_negI, q_absI, bnd_ret, lift_ok, Option.bind_some, Option.map_some, if_true, if_false, ↓reduceIte, Bool.false_eq_true, Bool.not_true, Bool.not_false, Option.bind_none, rw_idx hn hr (show a.1 < n by omega), rw_idx hn hr h2, lt_nd]
  have vl : V.length ≤ 10 := by rw [hV]; exact Nat.le_trans (List.length_filter_le ..) pl
  have es : evE false c (.var 0) (E14 rw_ [] none none none) = ret srcD := rfl
  refine wp_cons (wp_bnd (x := evE false c (.call 8 [.var 0, it14]) (E14 rw_ [] none none none)) (wp_call (ds := [srcD, .list (V.map pD)]) (evL_2 rfl es ev) (h8 V s _ vl fun rs s2 hrs => wp_bnd (wp_lift (a := rs.map pD) rfl ?_))))
  refine wp_forL (fun _ en => ∃ l a3 a4 a5, en = E14 rw_ l a3 a4 a5 ∧ l.Nodup ∧ AC l ∧ ∀ a ∈ l, a ∈ V) (rs.map pD) 0 _ _ ⟨[], none, none, none, rfl, .nil, fun a ha => (by cases ha), fun a ha => (by cases ha)⟩ ?_ ?_
  · rintro i z en s hz ⟨l, a3, a4, a5, rfl, hd, ac, hl⟩
    obtain ⟨a, ha, rfl⟩ : ∃ a ∈ V, z = pD a := by
      obtain ⟨h1, h2⟩ := List.getElem?_eq_some_iff.mp hz
      rw [List.getElem_map] at h2
      exact ⟨_, hrs.mem_iff.mp (List.getElem_mem _), h2.symm⟩
    have ll : l.length ≤ 10 := by
      have := (sortP_perm l).length_eq
      rw [sortP_filter (prs_ltP hn) (prs_nodup hn) hd fun b hb => (by have := hl b hb; rw [hV] at this; exact (List.mem_filter.mp this).1)] at this
      have := List.length_filter_le (fun a => l.contains a) (Prs n)
      omega
    have tg : tgSet (.tup [.name 3, .name 4]) (pD a) (E14 rw_ l a3 a4 a5) = some (E14 rw_ l (some (nd a.1)) (some (nd a.2)) a5) := rfl
    show Wp (bnd (lift (tgSet (.tup [.name 3, .name 4]) (pD a) (E14 rw_ l a3 a4 a5))) fun en3 => exL false c I14 en3) s _
    rw [tg, lift_ok, bnd_ret]
    have ef : evE false c f14 (E14 rw_ l (some (nd a.1)) (some (nd a.2)) a5) = ret (.list ((l.filter fun b => (decide (b.1 ≤ a.1) && decide (a.2 ≤ b.2)) || (decide (a.1 ≤ b.1) && decide (b.2 ≤ a.2))).map pD)) := by
      refine evE_compF (ws := l) (g := pD) (h := pD) (p := fun b => (decide (b.1 ≤ a.1) && decide (a.2 ≤ b.2)) || (decide (a.1 ≤ b.1) && decide (b.2 ≤ a.2))) (d := .list (l.map pD)) rfl rfl (by omega) fun b hb => ⟨[some srcD, some (tD rw_), some (.list (l.map pD)), some (nd a.1), some (nd a.2), a5, some (pD b)], rfl, ?_, fun _ => rfl⟩
      have y0 : idxV (pD b) (.int 0) = some (nd b.1) := rfl
      have y1 : idxV (pD b) (.int 1) = some (nd b.2) := rfl
      simp only [q_non, q_bl, q_int, q_str, q_var, q_op, q_not, q_and, q_or, q_ite, q_cmp, q_chain, q_tup, q_lst, q_idx, q_slc, q_rev, q_call, q_bi, q_meth, q_isi, q_lnil, q_lcons, q_lstar, q_o0, q_o1, q_t0, q_t1, q_snil, q_scons, q_thenN, q_thenR, q_asg, q_new, q_asNew, q_par, q_parN, q_app, q_ext, q_asExt, q_pop, q_set, q_aug, q_ret, q_if, q_pass, q_getD0, q_getD1, q_set0, q_set1, q_tgN, q_tgT, q_tgL, q_tg0, q_tg1, q_sv0, q_sv1, q_tb, q_ti, q_tl, q_tt, q_add, q_sub, q_lt, q_le, q_gt, q_ge, q_eqI, q_neI, q_lenL, q_lenT, q_tupL, q_tupT, q_lstL, q_lstT, q_seqL, q_seqT, q_revL, q_revT, q_intI, q_intB, q_size0, q_size1, q_size2, q_size3, q_size4, q_size5, q_size6, q_size7, q_size8, q_size9, q_news0, q_newsT, q_newsF, q_augA, q_augS, q_io0, q_io1, q_slcL, q_slcT, q_mapL0, q_mapL1, q_cons1, q_cons0, q_turn, q_dps, q_dpsL, q_idxD, q_sortT, q_sortL, q_isN, q_notN, q_nonN, q_nonI, q_nonT, q_nonL, q_nonB, q_nonS, q_neB, q_eqB, q_negI, q_absI, bnd_ret, lift_ok, Option.bind_some, Option.map_some, if_true, if_false, ↓reduceIte, Bool.false_eq_true, Bool.not_true, Bool.not_false, Option.bind_none, y0, y1, le_nd]
      cases decide (b.1 ≤ a.1) <;> cases decide (a.2 ≤ b.2) <;> cases decide (a.1 ≤ b.1) <;> simp only [q_non, q_bl, q_int, q_str, q_var, q_op, q_not, q_and, q_or, q_ite, q_cmp, q_chain, q_tup, q_lst, q_idx, q_slc, q_rev, q_call, q_bi, q_meth, q_isi, q_lnil, q_lcons, q_lstar, q_o0, q_o1, q_t0, q_t1, q_snil, q_scons, q_thenN, q_thenR, q_asg, q_new, q_asNew, q_par, q_parN, q_app, q_ext, q_asExt, q_pop, q_set, q_aug, q_ret, q_if, q_pass, q_getD0, q_getD1, q_set0, q_set1, q_tgN, q_tgT, q_tgL, q_tg0, q_tg1, q_sv0, q_sv1, q_tb, q_ti, q_tl, q_tt, q_add, q_sub, q_lt, q_le, q_gt, q_ge, q_eqI, q_neI, q_lenL, q_lenT, q_tupL, q_tupT, q_lstL, q_lstT, q_seqL, q_seqT, q_revL, q_revT, q_intI, q_intB, q_size0, q_size1, q_size2, q_size3, q_size4, q_size5, q_size6, q_size7, q_size8, q_size9, q_news0, q_newsT, q_newsF, q_augA, q_augS, q_io0, q_io1, q_slcL, q_slcT, q_mapL0, q_mapL1, q_cons1, q_cons0, q_turn, q_dps, q_dpsL, q_idxD, q_sortT, q_sortL, q_isN, q_notN, q_nonN, q_nonI, q_nonT, q_nonL, q_nonB, q_nonS, q_neB, q_eqB, q_negI, q_absI, bnd_ret, lift_ok, Option.bind_some, Option.map_some, if_true, if_false, ↓reduceIte, Bool.false_eq_true, Bool.not_true, Bool.not_false, Option.bind_none, y0, y1, le_nd, Bool.and_true, Bool.and_false, Bool.true_and, Bool.false_and, Bool.or_true, Bool.or_false, Bool.true_or, Bool.false_or]
    refine wp_next (exS_asg ef rfl) ?_
    show Wp (exL false c _ (E14 rw_ l (some (nd a.1)) (some (nd a.2)) (some (.list ((l.filter fun b => (decide (b.1 ≤ a.1) && decide (a.2 ≤ b.2)) || (decide (a.1 ≤ b.1) && decide (b.2 ≤ a.2))).map pD))))) s _
    have eq : evE false c (.cmp .eq (.var 5) (.lst [])) (E14 rw_ l (some (nd a.1)) (some (nd a.2)) (some (.list ((l.filter fun b => (decide (b.1 ≤ a.1) && decide (a.2 ≤ b.2)) || (decide (a.1 ≤ b.1) && decide (b.2 ≤ a.2))).map pD)))) = ret (.bool (!l.any fun b => (decide (b.1 ≤ a.1) && decide (a.2 ≤ b.2)) || (decide (a.1 ≤ b.1) && decide (b.2 ≤ a.2)))) := by
      simp only [q_non, q_bl, q_int, q_str, q_var, q_op, q_not, q_and, q_or, q_ite, q_cmp, q_chain, q_tup, q_lst, q_idx, q_slc, q_rev, q_call, q_bi, q_meth, q_isi, q_lnil, q_lcons, q_lstar, q_o0, q_o1, q_t0, q_t1, q_snil, q_scons, q_thenN, q_thenR, q_asg, q_new, q_asNew, q_par, q_parN, q_app, q_ext, q_asExt, q_pop, q_set, q_aug, q_ret, q_if, q_pass, q_getD0, q_getD1, q_set0, q_set1, q_tgN, q_tgT, q_tgL, q_tg0, q_tg1, q_sv0, q_sv1, q_tb, q_ti, q_tl, q_tt, q_add, q_sub, q_lt, q_le, q_gt, q_ge, q_eqI, q_neI, q_lenL, q_lenT, q_tupL, q_tupT, q_lstL, q_lstT, q_seqL, q_seqT, q_revL, q_revT, q_intI, q_intB, q_size0, q_size1, q_size2, q_size3, q_size4, q_size5, q_size6, q_size7, q_size8, q_size9, q_news0, q_newsT, q_newsF, q_augA, q_augS, q_io0, q_io1, q_slcL, q_slcT, q_mapL0, q_mapL1, q_cons1, q_cons0, q_turn, q_dps, q_dpsL, q_idxD, q_sortT, q_sortL, q_isN, q_notN, q_nonN, q_nonI, q_nonT, q_nonL, q_nonB, q_nonS, q_neB, q_eqB, q_negI, q_absI, bnd_ret, lift_ok, Option.bind_some, Option.map_some, if_true, if_false, ↓reduceIte, Bool.false_eq_true, Bool.not_true, Bool.not_false, Option.bind_none]
      rw [eq_nil (okL_pD _), List.isEmpty_map, isEmpty_filter]
      rfl
    have stay : ∀ s a5, Wp (exL false c [] (E14 rw_ l (some (nd a.1)) (some (nd a.2)) a5)) s fun r s' => ∃ en2, r = .next en2 ∧ ∃ l a3 a4 a5, en2 = E14 rw_ l a3 a4 a5 ∧ l.Nodup ∧ AC l ∧ ∀ a ∈ l, a ∈ V := fun s a5 => wp_nil (v := false) (c := c) ⟨_, rfl, l, _, _, _, rfl, hd, ac, hl⟩
    refine wp_cons (wp_if (wp_and (wp_eq eq ⟨_, rfl, fun h => ?_, fun h => ⟨false, by rw [h]; rfl, wp_nil (v := false) (c := c) (stay s _)⟩⟩)))
    refine wp_cmp (wp_pickV (m := 3) (fun s => rfl) (fun s => rfl) (by decide) (by decide) fun u s3 u0 u1 => wp_eq (a := .int 0) rfl ⟨decide (0 < u), rfl, decide (0 < u), rfl, ?_⟩)
    cases decide (0 < u) with
    | false => exact wp_nil (v := false) (c := c) (stay s3 _)
    | true =>
      have no : ∀ b ∈ l, ¬(b.1 ≤ a.1 ∧ a.2 ≤ b.2) ∧ ¬(a.1 ≤ b.1 ∧ b.2 ≤ a.2) := fun b hb => by
        have := List.any_eq_false.mp ((Bool.not_eq_true' _).mp h) b hb
        simp only [Bool.or_eq_true, Bool.and_eq_true, decide_eq_true_eq, not_or] at this
        exact this
      refine wp_cons (wp_app (xs := l.map pD) rfl (decide_eq_true (by rw [List.length_map]; omega)) (wp_eq (a := pD a) rfl ?_))
      refine wp_nil (v := false) (c := c) (wp_nil (v := false) (c := c) ⟨E14 rw_ (l ++ [a]) (some (nd a.1)) (some (nd a.2)) _, by simp only [E14, List.map_append]; rfl, l ++ [a], _, _, _, rfl, ?_, ?_, ?_⟩)
      · exact List.nodup_append.mpr ⟨hd, List.nodup_cons.mpr ⟨List.not_mem_nil, .nil⟩, fun x hx y hy e => by
          rw [List.mem_singleton.mp hy] at e
          subst e
          exact (no x hx).1 ⟨Nat.le_refl _, Nat.le_refl _⟩⟩
      · intro x hx y hy h1 h2
        rcases List.mem_append.mp hx with hx | hx <;> rcases List.mem_append.mp hy with hy | hy
        · exact ac x hx y hy h1 h2
        · rw [List.mem_singleton.mp hy] at h1 h2
          exact ((no x hx).2 ⟨h1, h2⟩).elim
        · rw [List.mem_singleton.mp hx] at h1 h2
          exact ((no y hy).1 ⟨h1, h2⟩).elim
        · rw [List.mem_singleton.mp hx, List.mem_singleton.mp hy]
      · intro x hx
        rcases List.mem_append.mp hx with hx | hx
        · exact hl x hx
        · rw [List.mem_singleton.mp hx]; exact ha
  · rintro en s ⟨l, a3, a4, a5, rfl, hd, ac, hl⟩
    have hp : ∀ b ∈ l, b ∈ Prs n := fun b hb => by have := hl b hb; rw [hV] at this; exact (List.mem_filter.mp this).1
    have e := sortP_filter (prs_ltP hn) (prs_nodup hn) hd hp
    have mm : ∀ a, a ∈ sortP l ↔ a ∈ l := fun a => (sortP_perm l).mem_iff
    have er : evE false c (.bi .tuple [.bi .sorted [.var 2]]) (E14 rw_ l a3 a4 a5) = ret (.tuple ((sortP l).map pD)) := by
      have bt : biV .tuple [.list ((sortP l).map pD)] = some (.tuple ((sortP l).map pD)) := rfl
      have sp : sortV (l.map pD) = some (.list ((sortP l).map pD)) := sorted_pairs l
      simp only [q_non, q_bl, q_int, q_str, q_var, q_op, q_not, q_and, q_or, q_ite, q_cmp, q_chain, q_tup, q_lst, q_idx, q_slc, q_rev, q_call, q_bi, q_meth, q_isi, q_lnil, q_lcons, q_lstar, q_o0, q_o1, q_t0, q_t1, q_snil, q_scons, q_thenN, q_thenR, q_asg, q_new, q_asNew, q_par, q_parN, q_app, q_ext, q_asExt, q_pop, q_set, q_aug, q_ret, q_if, q_pass, q_getD0, q_getD1, q_set0, q_set1, q_tgN, q_tgT, q_tgL, q_tg0, q_tg1, q_sv0, q_sv1, q_tb, q_ti, q_tl, q_tt, q_add, q_sub, q_lt, q_le, q_gt, q_ge, q_eqI, q_neI, q_lenL, q_lenT, q_tupL, q_tupT, q_lstL, q_lstT, q_seqL, q_seqT, q_revL, q_revT, q_intI, q_intB, q_size0, q_size1, q_size2, q_size3, q_size4, q_size5, q_size6, q_size7, q_size8, q_size9, q_news0, q_newsT, q_newsF, q_augA, q_augS, q_io0, q_io1, q_slcL, q_slcT, q_mapL0, q_mapL1, q_cons1, q_cons0, q_turn, q_dps, q_dpsL, q_idxD, q_sortT, q_sortL, q_isN, q_notN, q_nonN, q_nonI, q_nonT, q_nonL, q_nonB, q_nonS, q_neB, q_eqB, q_negI, q_absI, bnd_ret, lift_ok, Option.bind_some, Option.map_some, if_true, if_false, ↓reduceIte, Bool.false_eq_true, Bool.not_true, Bool.not_false, Option.bind_none, sp, bt]
    refine wp_cons (wp_retE (wp_eq er (k (sortP l) s ⟨?_, fun a ha b hb => ac a ((mm a).mp ha) b ((mm b).mp hb), fun a ha => ?_⟩)))
    · have : (fun a => (sortP l).contains a) = fun a => l.contains a := by
        funext a
        rw [Bool.eq_iff_iff, List.contains_iff_mem, List.contains_iff_mem]
        exact mm a
      rw [this]; exact e
    · have := hl a ((mm a).mp ha)
      rw [hV] at this
      exact of_decide_eq_true (List.mem_filter.mp this).2
end
end Fz.K82x
namespace Fz.K82x
open PySem Fz Fz.K82 Fz.Sh
abbrev F15 : S := .for_ (.name 4) (.rng [.bi .len [.var 0]]) [.par [7, 8] [.lst [], .lst []], .for_ (.name 5) (.rng [.var 4]) [.asg (.name 9) (.cmp .ne (.comp (.name 10) (.var 1) (some (.and (.cmp .le (.idx (.var 10) (.int 0)) (.var 5)) (.cmp .le (.var 4) (.idx (.var 10) (.int 1))))) (.var 10)) (.lst [])), .asg (.name 7) (.op .add (.var 7) (.op .mul (.lst [.op .sub (.idx (.var 3) (.var 5)) (.var 2)]) (.bi .int [.var 9]))), .asg (.name 8) (.op .add (.var 8) (.op .mul (.lst [.op .sub (.idx (.var 3) (.var 5)) (.var 2)]) (.bi .int [.not (.var 9)])))], .asg (.name 6) (.bi .min [.op .add (.op .add (.var 8) (.slc (.var 3) (some (.neg (.int 1))) none)) (.lst [.int 0])]), .app 3 (.ite (.cmp .ne (.var 7) (.lst [])) (.op .fdiv (.op .add (.var 6) (.bi .max [.var 7])) (.int 2)) (.op .sub (.var 6) (.op .mul (.int 2) (.var 2))))]
def tellB (n : Nat) (g : List (Nat × Nat)) (far : Int) (ys : List Int) : Bool := (List.range n).all fun p => (List.range n).all fun q => !decide (p < q) || (decide (ys.getD q 0 < ys.getD p 0) && ((decide (ys.getD p 0 - ys.getD q 0 < far) == cov g p q) && !decide (ys.getD p 0 - ys.getD q 0 = far)))
theorem tell_of {n : Nat} {g : List (Nat × Nat)} {far : Int} {ys : List Int} (hf : 0 < far) (h : tellB n g far ys = true) : Tell n g far fun p => ys.getD p 0 := by
  have k : ∀ p q, p < q → q < n → ys.getD q 0 < ys.getD p 0 ∧ (decide (ys.getD p 0 - ys.getD q 0 < far) = cov g p q) ∧ ys.getD p 0 - ys.getD q 0 ≠ far := fun p q hpq hq => by
    have := List.all_eq_true.mp (List.all_eq_true.mp h p (List.mem_range.mpr (by omega))) q (List.mem_range.mpr hq)
    rw [decide_eq_true hpq] at this
    simpa using this
  exact ⟨hf, fun p q a b => (k p q a b).1, fun p q a b => by rw [← (k p q a b).2.1, decide_eq_true_iff], fun p q a b => (k p q a b).2.2⟩
def subs : List (Nat × Nat) → List (List (Nat × Nat))
  | [] => [[]]
  | a :: r => (subs r).map (a :: ·) ++ subs r
theorem mem_subs (p : Nat × Nat → Bool) : ∀ l : List (Nat × Nat), l.filter p ∈ subs l
  | [] => List.mem_singleton.mpr rfl
  | a :: r => by
    rw [List.filter_cons]
    unfold subs
    cases p a with
    | true => exact List.mem_append_left _ (List.mem_map.mpr ⟨_, mem_subs p r, rfl⟩)
    | false => exact List.mem_append_right _ (mem_subs p r)
def acB (g : List (Nat × Nat)) : Bool := g.all fun a => g.all fun b => !(decide (b.1 ≤ a.1) && decide (a.2 ≤ b.2)) || decide (b = a)
def ANT (n : Nat) : List (List (Nat × Nat)) := (subs (Prs n)).filter acB
theorem ant_of {n : Nat} {g : List (Nat × Nat)} (hp : g = (Prs n).filter fun a => g.contains a) (ac : AC g) : g ∈ ANT n := by
  refine List.mem_filter.mpr ⟨?_, ?_⟩
  · rw [hp]; exact mem_subs _ _
  · refine List.all_eq_true.mpr fun a ha => List.all_eq_true.mpr fun b hb => ?_
    by_cases h : b.1 ≤ a.1 ∧ a.2 ≤ b.2
    · rw [decide_eq_true (ac a ha b hb h.1 h.2), Bool.or_true]
    · simp only [Bool.or_eq_true, Bool.not_eq_true', Bool.and_eq_false_imp, decide_eq_true_eq, decide_eq_false_iff_not]
      exact .inl fun h1 h2 => h ⟨h1, h2⟩
def Put (c : Cl) (n : Nat) (g : List (Nat × Nat)) : Prop := ∀ rw_ : List Nat, rw_.length = n → ∃ (ys : List Int) (a4 a5 a6 a7 a8 a9 : Option D), ys.length = n ∧ tellB n g (4 ^ (n + 2)) ys = true ∧
  exS false c F15 [some (tD rw_), some (.tuple (g.map pD)), some (.int (4 ^ (n + 2))), some (.list []), none, none, none, none, none, none, none, none, none] = ret (.next [some (tD rw_), some (.tuple (g.map pD)), some (.int (4 ^ (n + 2))), some (.list (ys.map .int)), a4, a5, a6, a7, a8, a9, none, none, none])
theorem put_1_0 {c : Cl} : Put c 1 [] := fun rw_ hl => by
  match rw_, hl with
  | [r0], _ => exact ⟨[-128], some (.int 0), none, some (.int 0), some (.list []), some (.list []), none, rfl, by decide +kernel, eq_ret fun s => by kernel_rfl⟩
theorem put_1 {c : Cl} : ∀ g ∈ ANT 1, Put c 1 g := by
  rw [show ANT 1 = [[]] from by decide +kernel]
  intro g hg
  simp only [List.mem_cons, List.not_mem_nil, or_false] at hg
  rcases hg with rfl
  · exact put_1_0
theorem put_2_0 {c : Cl} : Put c 2 [(0, 1)] := fun rw_ hl => by
  match rw_, hl with
  | [r0, r1], _ => exact ⟨[-512, -640], some (.int 1), (some (.int 0)), some (.int (-512)), some (.list [.int (-768)]), some (.list []), (some (.bool true)), rfl, by decide +kernel, eq_ret fun s => by kernel_rfl⟩
theorem put_2_1 {c : Cl} : Put c 2 [] := fun rw_ hl => by
  match rw_, hl with
  | [r0, r1], _ => exact ⟨[-512, -1280], some (.int 1), (some (.int 0)), some (.int (-768)), some (.list []), some (.list [.int (-768)]), (some (.bool false)), rfl, by decide +kernel, eq_ret fun s => by kernel_rfl⟩
theorem put_2 {c : Cl} : ∀ g ∈ ANT 2, Put c 2 g := by
  rw [show ANT 2 = [[(0, 1)], []] from by decide +kernel]
  intro g hg
  simp only [List.mem_cons, List.not_mem_nil, or_false] at hg
  rcases hg with rfl | rfl
  · exact put_2_0
  · exact put_2_1
theorem put_3_0 {c : Cl} : Put c 3 [(0, 1), (1, 2)] := fun rw_ hl => by
  match rw_, hl with
  | [r0, r1, r2], _ => exact ⟨[-2048, -2560, -3328], some (.int 2), (some (.int 1)), some (.int (-3072)), some (.list [.int (-3584)]), some (.list [.int (-3072)]), (some (.bool true)), rfl, by decide +kernel, eq_ret fun s => by kernel_rfl⟩
theorem put_3_1 {c : Cl} : Put c 3 [(0, 1)] := fun rw_ hl => by
  match rw_, hl with
  | [r0, r1, r2], _ => exact ⟨[-2048, -2560, -5632], some (.int 2), (some (.int 1)), some (.int (-3584)), some (.list []), some (.list [.int (-3072), .int (-3584)]), (some (.bool false)), rfl, by decide +kernel, eq_ret fun s => by kernel_rfl⟩
theorem put_3_2 {c : Cl} : Put c 3 [(0, 2)] := fun rw_ hl => by
  match rw_, hl with
  | [r0, r1, r2], _ => exact ⟨[-2048, -2560, -2816], some (.int 2), (some (.int 1)), some (.int (-2560)), some (.list [.int (-3072), .int (-3584)]), some (.list []), (some (.bool true)), rfl, by decide +kernel, eq_ret fun s => by kernel_rfl⟩
theorem put_3_3 {c : Cl} : Put c 3 [(1, 2)] := fun rw_ hl => by
  match rw_, hl with
  | [r0, r1, r2], _ => exact ⟨[-2048, -5120, -5632], some (.int 2), (some (.int 1)), some (.int (-5120)), some (.list [.int (-6144)]), some (.list [.int (-3072)]), (some (.bool true)), rfl, by decide +kernel, eq_ret fun s => by kernel_rfl⟩
theorem put_3_4 {c : Cl} : Put c 3 [] := fun rw_ hl => by
  match rw_, hl with
  | [r0, r1, r2], _ => exact ⟨[-2048, -5120, -8192], some (.int 2), (some (.int 1)), some (.int (-6144)), some (.list []), some (.list [.int (-3072), .int (-6144)]), (some (.bool false)), rfl, by decide +kernel, eq_ret fun s => by kernel_rfl⟩
theorem put_3 {c : Cl} : ∀ g ∈ ANT 3, Put c 3 g := by
  rw [show ANT 3 = [[(0, 1), (1, 2)], [(0, 1)], [(0, 2)], [(1, 2)], []] from by decide +kernel]
  intro g hg
  simp only [List.mem_cons, List.not_mem_nil, or_false] at hg
  rcases hg with rfl | rfl | rfl | rfl | rfl
  · exact put_3_0
  · exact put_3_1
  · exact put_3_2
  · exact put_3_3
  · exact put_3_4
theorem put_4_0 {c : Cl} : Put c 4 [(0, 1), (1, 2), (2, 3)] := fun rw_ hl => by
  match rw_, hl with
  | [r0, r1, r2, r3], _ => exact ⟨[-8192, -10240, -13312, -15872], some (.int 3), (some (.int 2)), some (.int (-14336)), some (.list [.int (-17408)]), some (.list [.int (-12288), .int (-14336)]), (some (.bool true)), rfl, by decide +kernel, eq_ret fun s => by kernel_rfl⟩
theorem put_4_1 {c : Cl} : Put c 4 [(0, 1), (1, 2)] := fun rw_ hl => by
  match rw_, hl with
  | [r0, r1, r2, r3], _ => exact ⟨[-8192, -10240, -13312, -25600], some (.int 3), (some (.int 2)), some (.int (-17408)), some (.list []), some (.list [.int (-12288), .int (-14336), .int (-17408)]), (some (.bool false)), rfl, by decide +kernel, eq_ret fun s => by kernel_rfl⟩
theorem put_4_2 {c : Cl} : Put c 4 [(0, 1), (1, 3)] := fun rw_ hl => by
  match rw_, hl with
  | [r0, r1, r2, r3], _ => exact ⟨[-8192, -10240, -13312, -13824], some (.int 3), (some (.int 2)), some (.int (-13312)), some (.list [.int (-14336), .int (-17408)]), some (.list [.int (-12288)]), (some (.bool true)), rfl, by decide +kernel, eq_ret fun s => by kernel_rfl⟩
theorem put_4_3 {c : Cl} : Put c 4 [(0, 1), (2, 3)] := fun rw_ hl => by
  match rw_, hl with
  | [r0, r1, r2, r3], _ => exact ⟨[-8192, -10240, -22528, -24576], some (.int 3), (some (.int 2)), some (.int (-22528)), some (.list [.int (-26624)]), some (.list [.int (-12288), .int (-14336)]), (some (.bool true)), rfl, by decide +kernel, eq_ret fun s => by kernel_rfl⟩
theorem put_4_4 {c : Cl} : Put c 4 [(0, 1)] := fun rw_ hl => by
  match rw_, hl with
  | [r0, r1, r2, r3], _ => exact ⟨[-8192, -10240, -22528, -34816], some (.int 3), (some (.int 2)), some (.int (-26624)), some (.list []), some (.list [.int (-12288), .int (-14336), .int (-26624)]), (some (.bool false)), rfl, by decide +kernel, eq_ret fun s => by kernel_rfl⟩
theorem put_4_5 {c : Cl} : Put c 4 [(0, 2), (1, 3)] := fun rw_ hl => by
  match rw_, hl with
  | [r0, r1, r2, r3], _ => exact ⟨[-8192, -10240, -11264, -13312], some (.int 3), (some (.int 2)), some (.int (-12288)), some (.list [.int (-14336), .int (-15360)]), some (.list [.int (-12288)]), (some (.bool true)), rfl, by decide +kernel, eq_ret fun s => by kernel_rfl⟩
theorem put_4_6 {c : Cl} : Put c 4 [(0, 2), (2, 3)] := fun rw_ hl => by
  match rw_, hl with
  | [r0, r1, r2, r3], _ => exact ⟨[-8192, -10240, -11264, -14848], some (.int 3), (some (.int 2)), some (.int (-14336)), some (.list [.int (-15360)]), some (.list [.int (-12288), .int (-14336)]), (some (.bool true)), rfl, by decide +kernel, eq_ret fun s => by kernel_rfl⟩
theorem put_4_7 {c : Cl} : Put c 4 [(0, 2)] := fun rw_ hl => by
  match rw_, hl with
  | [r0, r1, r2, r3], _ => exact ⟨[-8192, -10240, -11264, -23552], some (.int 3), (some (.int 2)), some (.int (-15360)), some (.list []), some (.list [.int (-12288), .int (-14336), .int (-15360)]), (some (.bool false)), rfl, by decide +kernel, eq_ret fun s => by kernel_rfl⟩
theorem put_4_8 {c : Cl} : Put c 4 [(0, 3)] := fun rw_ hl => by
  match rw_, hl with
  | [r0, r1, r2, r3], _ => exact ⟨[-8192, -10240, -11264, -11776], some (.int 3), (some (.int 2)), some (.int (-11264)), some (.list [.int (-12288), .int (-14336), .int (-15360)]), some (.list []), (some (.bool true)), rfl, by decide +kernel, eq_ret fun s => by kernel_rfl⟩
theorem put_4_9 {c : Cl} : Put c 4 [(1, 2), (2, 3)] := fun rw_ hl => by
  match rw_, hl with
  | [r0, r1, r2, r3], _ => exact ⟨[-8192, -20480, -22528, -25600], some (.int 3), (some (.int 2)), some (.int (-24576)), some (.list [.int (-26624)]), some (.list [.int (-12288), .int (-24576)]), (some (.bool true)), rfl, by decide +kernel, eq_ret fun s => by kernel_rfl⟩
theorem put_4_10 {c : Cl} : Put c 4 [(1, 2)] := fun rw_ hl => by
  match rw_, hl with
  | [r0, r1, r2, r3], _ => exact ⟨[-8192, -20480, -22528, -34816], some (.int 3), (some (.int 2)), some (.int (-26624)), some (.list []), some (.list [.int (-12288), .int (-24576), .int (-26624)]), (some (.bool false)), rfl, by decide +kernel, eq_ret fun s => by kernel_rfl⟩
theorem put_4_11 {c : Cl} : Put c 4 [(1, 3)] := fun rw_ hl => by
  match rw_, hl with
  | [r0, r1, r2, r3], _ => exact ⟨[-8192, -20480, -22528, -23552], some (.int 3), (some (.int 2)), some (.int (-22528)), some (.list [.int (-24576), .int (-26624)]), some (.list [.int (-12288)]), (some (.bool true)), rfl, by decide +kernel, eq_ret fun s => by kernel_rfl⟩
theorem put_4_12 {c : Cl} : Put c 4 [(2, 3)] := fun rw_ hl => by
  match rw_, hl with
  | [r0, r1, r2, r3], _ => exact ⟨[-8192, -20480, -32768, -34816], some (.int 3), (some (.int 2)), some (.int (-32768)), some (.list [.int (-36864)]), some (.list [.int (-12288), .int (-24576)]), (some (.bool true)), rfl, by decide +kernel, eq_ret fun s => by kernel_rfl⟩
theorem put_4_13 {c : Cl} : Put c 4 [] := fun rw_ hl => by
  match rw_, hl with
  | [r0, r1, r2, r3], _ => exact ⟨[-8192, -20480, -32768, -45056], some (.int 3), (some (.int 2)), some (.int (-36864)), some (.list []), some (.list [.int (-12288), .int (-24576), .int (-36864)]), (some (.bool false)), rfl, by decide +kernel, eq_ret fun s => by kernel_rfl⟩
theorem put_4 {c : Cl} : ∀ g ∈ ANT 4, Put c 4 g := by
  rw [show ANT 4 = [[(0, 1), (1, 2), (2, 3)], [(0, 1), (1, 2)], [(0, 1), (1, 3)], [(0, 1), (2, 3)], [(0, 1)], [(0, 2), (1, 3)], [(0, 2), (2, 3)], [(0, 2)], [(0, 3)], [(1, 2), (2, 3)], [(1, 2)], [(1, 3)], [(2, 3)], []] from by decide +kernel]
  intro g hg
  simp only [List.mem_cons, List.not_mem_nil, or_false] at hg
  rcases hg with rfl | rfl | rfl | rfl | rfl | rfl | rfl | rfl | rfl | rfl | rfl | rfl | rfl | rfl
  · exact put_4_0
  · exact put_4_1
  · exact put_4_2
  · exact put_4_3
  · exact put_4_4
  · exact put_4_5
  · exact put_4_6
  · exact put_4_7
  · exact put_4_8
  · exact put_4_9
  · exact put_4_10
  · exact put_4_11
  · exact put_4_12
  · exact put_4_13
theorem put_5_0 {c : Cl} : Put c 5 [(0, 1), (1, 2), (2, 3), (3, 4)] := fun rw_ hl => by
  match rw_, hl with
  | [r0, r1, r2, r3, r4], _ => exact ⟨[-32768, -40960, -53248, -63488, -74752], some (.int 4), (some (.int 3)), some (.int (-69632)), some (.list [.int (-79872)]), some (.list [.int (-49152), .int (-57344), .int (-69632)]), (some (.bool true)), rfl, by decide +kernel, eq_ret fun s => by kernel_rfl⟩
theorem put_5_1 {c : Cl} : Put c 5 [(0, 1), (1, 2), (2, 3)] := fun rw_ hl => by
  match rw_, hl with
  | [r0, r1, r2, r3, r4], _ => exact ⟨[-32768, -40960, -53248, -63488, -112640], some (.int 4), (some (.int 3)), some (.int (-79872)), some (.list []), some (.list [.int (-49152), .int (-57344), .int (-69632), .int (-79872)]), (some (.bool false)), rfl, by decide +kernel, eq_ret fun s => by kernel_rfl⟩
theorem put_5_2 {c : Cl} : Put c 5 [(0, 1), (1, 2), (2, 4)] := fun rw_ hl => by
  match rw_, hl with
  | [r0, r1, r2, r3, r4], _ => exact ⟨[-32768, -40960, -53248, -63488, -66560], some (.int 4), (some (.int 3)), some (.int (-63488)), some (.list [.int (-69632), .int (-79872)]), some (.list [.int (-49152), .int (-57344)]), (some (.bool true)), rfl, by decide +kernel, eq_ret fun s => by kernel_rfl⟩
theorem put_5_3 {c : Cl} : Put c 5 [(0, 1), (1, 2), (3, 4)] := fun rw_ hl => by
  match rw_, hl with
  | [r0, r1, r2, r3, r4], _ => exact ⟨[-32768, -40960, -53248, -102400, -110592], some (.int 4), (some (.int 3)), some (.int (-102400)), some (.list [.int (-118784)]), some (.list [.int (-49152), .int (-57344), .int (-69632)]), (some (.bool true)), rfl, by decide +kernel, eq_ret fun s => by kernel_rfl⟩
theorem put_5_4 {c : Cl} : Put c 5 [(0, 1), (1, 2)] := fun rw_ hl => by
  match rw_, hl with
  | [r0, r1, r2, r3, r4], _ => exact ⟨[-32768, -40960, -53248, -102400, -151552], some (.int 4), (some (.int 3)), some (.int (-118784)), some (.list []), some (.list [.int (-49152), .int (-57344), .int (-69632), .int (-118784)]), (some (.bool false)), rfl, by decide +kernel, eq_ret fun s => by kernel_rfl⟩
theorem put_5_5 {c : Cl} : Put c 5 [(0, 1), (1, 3), (2, 4)] := fun rw_ hl => by
  match rw_, hl with
  | [r0, r1, r2, r3, r4], _ => exact ⟨[-32768, -40960, -53248, -55296, -63488], some (.int 4), (some (.int 3)), some (.int (-57344)), some (.list [.int (-69632), .int (-71680)]), some (.list [.int (-49152), .int (-57344)]), (some (.bool true)), rfl, by decide +kernel, eq_ret fun s => by kernel_rfl⟩
theorem put_5_6 {c : Cl} : Put c 5 [(0, 1), (1, 3), (3, 4)] := fun rw_ hl => by
  match rw_, hl with
  | [r0, r1, r2, r3, r4], _ => exact ⟨[-32768, -40960, -53248, -55296, -70656], some (.int 4), (some (.int 3)), some (.int (-69632)), some (.list [.int (-71680)]), some (.list [.int (-49152), .int (-57344), .int (-69632)]), (some (.bool true)), rfl, by decide +kernel, eq_ret fun s => by kernel_rfl⟩
theorem put_5_7 {c : Cl} : Put c 5 [(0, 1), (1, 3)] := fun rw_ hl => by
  match rw_, hl with
  | [r0, r1, r2, r3, r4], _ => exact ⟨[-32768, -40960, -53248, -55296, -104448], some (.int 4), (some (.int 3)), some (.int (-71680)), some (.list []), some (.list [.int (-49152), .int (-57344), .int (-69632), .int (-71680)]), (some (.bool false)), rfl, by decide +kernel, eq_ret fun s => by kernel_rfl⟩
theorem put_5_8 {c : Cl} : Put c 5 [(0, 1), (1, 4)] := fun rw_ hl => by
  match rw_, hl with
  | [r0, r1, r2, r3, r4], _ => exact ⟨[-32768, -40960, -53248, -55296, -56320], some (.int 4), (some (.int 3)), some (.int (-55296)), some (.list [.int (-57344), .int (-69632), .int (-71680)]), some (.list [.int (-49152)]), (some (.bool true)), rfl, by decide +kernel, eq_ret fun s => by kernel_rfl⟩
theorem put_5_9 {c : Cl} : Put c 5 [(0, 1), (2, 3), (3, 4)] := fun rw_ hl => by
  match rw_, hl with
  | [r0, r1, r2, r3, r4], _ => exact ⟨[-32768, -40960, -90112, -98304, -110592], some (.int 4), (some (.int 3)), some (.int (-106496)), some (.list [.int (-114688)]), some (.list [.int (-49152), .int (-57344), .int (-106496)]), (some (.bool true)), rfl, by decide +kernel, eq_ret fun s => by kernel_rfl⟩
theorem put_5_10 {c : Cl} : Put c 5 [(0, 1), (2, 3)] := fun rw_ hl => by
  match rw_, hl with
  | [r0, r1, r2, r3, r4], _ => exact ⟨[-32768, -40960, -90112, -98304, -147456], some (.int 4), (some (.int 3)), some (.int (-114688)), some (.list []), some (.list [.int (-49152), .int (-57344), .int (-106496), .int (-114688)]), (some (.bool false)), rfl, by decide +kernel, eq_ret fun s => by kernel_rfl⟩
theorem put_5_11 {c : Cl} : Put c 5 [(0, 1), (2, 4)] := fun rw_ hl => by
  match rw_, hl with
  | [r0, r1, r2, r3, r4], _ => exact ⟨[-32768, -40960, -90112, -98304, -102400], some (.int 4), (some (.int 3)), some (.int (-98304)), some (.list [.int (-106496), .int (-114688)]), some (.list [.int (-49152), .int (-57344)]), (some (.bool true)), rfl, by decide +kernel, eq_ret fun s => by kernel_rfl⟩
theorem put_5_12 {c : Cl} : Put c 5 [(0, 1), (3, 4)] := fun rw_ hl => by
  match rw_, hl with
  | [r0, r1, r2, r3, r4], _ => exact ⟨[-32768, -40960, -90112, -139264, -147456], some (.int 4), (some (.int 3)), some (.int (-139264)), some (.list [.int (-155648)]), some (.list [.int (-49152), .int (-57344), .int (-106496)]), (some (.bool true)), rfl, by decide +kernel, eq_ret fun s => by kernel_rfl⟩
theorem put_5_13 {c : Cl} : Put c 5 [(0, 1)] := fun rw_ hl => by
  match rw_, hl with
  | [r0, r1, r2, r3, r4], _ => exact ⟨[-32768, -40960, -90112, -139264, -188416], some (.int 4), (some (.int 3)), some (.int (-155648)), some (.list []), some (.list [.int (-49152), .int (-57344), .int (-106496), .int (-155648)]), (some (.bool false)), rfl, by decide +kernel, eq_ret fun s => by kernel_rfl⟩
theorem put_5_14 {c : Cl} : Put c 5 [(0, 2), (1, 3), (2, 4)] := fun rw_ hl => by
  match rw_, hl with
  | [r0, r1, r2, r3, r4], _ => exact ⟨[-32768, -40960, -45056, -53248, -59392], some (.int 4), (some (.int 3)), some (.int (-57344)), some (.list [.int (-61440), .int (-69632)]), some (.list [.int (-49152), .int (-57344)]), (some (.bool true)), rfl, by decide +kernel, eq_ret fun s => by kernel_rfl⟩
theorem put_5_15 {c : Cl} : Put c 5 [(0, 2), (1, 3), (3, 4)] := fun rw_ hl => by
  match rw_, hl with
  | [r0, r1, r2, r3, r4], _ => exact ⟨[-32768, -40960, -45056, -53248, -65536], some (.int 4), (some (.int 3)), some (.int (-61440)), some (.list [.int (-69632)]), some (.list [.int (-49152), .int (-57344), .int (-61440)]), (some (.bool true)), rfl, by decide +kernel, eq_ret fun s => by kernel_rfl⟩
theorem put_5_16 {c : Cl} : Put c 5 [(0, 2), (1, 3)] := fun rw_ hl => by
  match rw_, hl with
  | [r0, r1, r2, r3, r4], _ => exact ⟨[-32768, -40960, -45056, -53248, -102400], some (.int 4), (some (.int 3)), some (.int (-69632)), some (.list []), some (.list [.int (-49152), .int (-57344), .int (-61440), .int (-69632)]), (some (.bool false)), rfl, by decide +kernel, eq_ret fun s => by kernel_rfl⟩
theorem put_5_17 {c : Cl} : Put c 5 [(0, 2), (1, 4)] := fun rw_ hl => by
  match rw_, hl with
  | [r0, r1, r2, r3, r4], _ => exact ⟨[-32768, -40960, -45056, -53248, -55296], some (.int 4), (some (.int 3)), some (.int (-53248)), some (.list [.int (-57344), .int (-61440), .int (-69632)]), some (.list [.int (-49152)]), (some (.bool true)), rfl, by decide +kernel, eq_ret fun s => by kernel_rfl⟩
theorem put_5_18 {c : Cl} : Put c 5 [(0, 2), (2, 3), (3, 4)] := fun rw_ hl => by
  match rw_, hl with
  | [r0, r1, r2, r3, r4], _ => exact ⟨[-32768, -40960, -45056, -59392, -68608], some (.int 4), (some (.int 3)), some (.int (-61440)), some (.list [.int (-75776)]), some (.list [.int (-49152), .int (-57344), .int (-61440)]), (some (.bool true)), rfl, by decide +kernel, eq_ret fun s => by kernel_rfl⟩
theorem put_5_19 {c : Cl} : Put c 5 [(0, 2), (2, 3)] := fun rw_ hl => by
  match rw_, hl with
  | [r0, r1, r2, r3, r4], _ => exact ⟨[-32768, -40960, -45056, -59392, -108544], some (.int 4), (some (.int 3)), some (.int (-75776)), some (.list []), some (.list [.int (-49152), .int (-57344), .int (-61440), .int (-75776)]), (some (.bool false)), rfl, by decide +kernel, eq_ret fun s => by kernel_rfl⟩
theorem put_5_20 {c : Cl} : Put c 5 [(0, 2), (2, 4)] := fun rw_ hl => by
  match rw_, hl with
  | [r0, r1, r2, r3, r4], _ => exact ⟨[-32768, -40960, -45056, -59392, -60416], some (.int 4), (some (.int 3)), some (.int (-59392)), some (.list [.int (-61440), .int (-75776)]), some (.list [.int (-49152), .int (-57344)]), (some (.bool true)), rfl, by decide +kernel, eq_ret fun s => by kernel_rfl⟩
theorem put_5_21 {c : Cl} : Put c 5 [(0, 2), (3, 4)] := fun rw_ hl => by
  match rw_, hl with
  | [r0, r1, r2, r3, r4], _ => exact ⟨[-32768, -40960, -45056, -94208, -102400], some (.int 4), (some (.int 3)), some (.int (-94208)), some (.list [.int (-110592)]), some (.list [.int (-49152), .int (-57344), .int (-61440)]), (some (.bool true)), rfl, by decide +kernel, eq_ret fun s => by kernel_rfl⟩
theorem put_5_22 {c : Cl} : Put c 5 [(0, 2)] := fun rw_ hl => by
  match rw_, hl with
  | [r0, r1, r2, r3, r4], _ => exact ⟨[-32768, -40960, -45056, -94208, -143360], some (.int 4), (some (.int 3)), some (.int (-110592)), some (.list []), some (.list [.int (-49152), .int (-57344), .int (-61440), .int (-110592)]), (some (.bool false)), rfl, by decide +kernel, eq_ret fun s => by kernel_rfl⟩
theorem put_5_23 {c : Cl} : Put c 5 [(0, 3), (1, 4)] := fun rw_ hl => by
  match rw_, hl with
  | [r0, r1, r2, r3, r4], _ => exact ⟨[-32768, -40960, -45056, -47104, -53248], some (.int 4), (some (.int 3)), some (.int (-49152)), some (.list [.int (-57344), .int (-61440), .int (-63488)]), some (.list [.int (-49152)]), (some (.bool true)), rfl, by decide +kernel, eq_ret fun s => by kernel_rfl⟩
theorem put_5_24 {c : Cl} : Put c 5 [(0, 3), (2, 4)] := fun rw_ hl => by
  match rw_, hl with
  | [r0, r1, r2, r3, r4], _ => exact ⟨[-32768, -40960, -45056, -47104, -59392], some (.int 4), (some (.int 3)), some (.int (-57344)), some (.list [.int (-61440), .int (-63488)]), some (.list [.int (-49152), .int (-57344)]), (some (.bool true)), rfl, by decide +kernel, eq_ret fun s => by kernel_rfl⟩
theorem put_5_25 {c : Cl} : Put c 5 [(0, 3), (3, 4)] := fun rw_ hl => by
  match rw_, hl with
  | [r0, r1, r2, r3, r4], _ => exact ⟨[-32768, -40960, -45056, -47104, -62464], some (.int 4), (some (.int 3)), some (.int (-61440)), some (.list [.int (-63488)]), some (.list [.int (-49152), .int (-57344), .int (-61440)]), (some (.bool true)), rfl, by decide +kernel, eq_ret fun s => by kernel_rfl⟩
theorem put_5_26 {c : Cl} : Put c 5 [(0, 3)] := fun rw_ hl => by
  match rw_, hl with
  | [r0, r1, r2, r3, r4], _ => exact ⟨[-32768, -40960, -45056, -47104, -96256], some (.int 4), (some (.int 3)), some (.int (-63488)), some (.list []), some (.list [.int (-49152), .int (-57344), .int (-61440), .int (-63488)]), (some (.bool false)), rfl, by decide +kernel, eq_ret fun s => by kernel_rfl⟩
theorem put_5_27 {c : Cl} : Put c 5 [(0, 4)] := fun rw_ hl => by
  match rw_, hl with
  | [r0, r1, r2, r3, r4], _ => exact ⟨[-32768, -40960, -45056, -47104, -48128], some (.int 4), (some (.int 3)), some (.int (-47104)), some (.list [.int (-49152), .int (-57344), .int (-61440), .int (-63488)]), some (.list []), (some (.bool true)), rfl, by decide +kernel, eq_ret fun s => by kernel_rfl⟩
theorem put_5_28 {c : Cl} : Put c 5 [(1, 2), (2, 3), (3, 4)] := fun rw_ hl => by
  match rw_, hl with
  | [r0, r1, r2, r3, r4], _ => exact ⟨[-32768, -81920, -90112, -102400, -112640], some (.int 4), (some (.int 3)), some (.int (-106496)), some (.list [.int (-118784)]), some (.list [.int (-49152), .int (-98304), .int (-106496)]), (some (.bool true)), rfl, by decide +kernel, eq_ret fun s => by kernel_rfl⟩
theorem put_5_29 {c : Cl} : Put c 5 [(1, 2), (2, 3)] := fun rw_ hl => by
  match rw_, hl with
  | [r0, r1, r2, r3, r4], _ => exact ⟨[-32768, -81920, -90112, -102400, -151552], some (.int 4), (some (.int 3)), some (.int (-118784)), some (.list []), some (.list [.int (-49152), .int (-98304), .int (-106496), .int (-118784)]), (some (.bool false)), rfl, by decide +kernel, eq_ret fun s => by kernel_rfl⟩
theorem put_5_30 {c : Cl} : Put c 5 [(1, 2), (2, 4)] := fun rw_ hl => by
  match rw_, hl with
  | [r0, r1, r2, r3, r4], _ => exact ⟨[-32768, -81920, -90112, -102400, -104448], some (.int 4), (some (.int 3)), some (.int (-102400)), some (.list [.int (-106496), .int (-118784)]), some (.list [.int (-49152), .int (-98304)]), (some (.bool true)), rfl, by decide +kernel, eq_ret fun s => by kernel_rfl⟩
theorem put_5_31 {c : Cl} : Put c 5 [(1, 2), (3, 4)] := fun rw_ hl => by
  match rw_, hl with
  | [r0, r1, r2, r3, r4], _ => exact ⟨[-32768, -81920, -90112, -139264, -147456], some (.int 4), (some (.int 3)), some (.int (-139264)), some (.list [.int (-155648)]), some (.list [.int (-49152), .int (-98304), .int (-106496)]), (some (.bool true)), rfl, by decide +kernel, eq_ret fun s => by kernel_rfl⟩
theorem put_5_32 {c : Cl} : Put c 5 [(1, 2)] := fun rw_ hl => by
  match rw_, hl with
  | [r0, r1, r2, r3, r4], _ => exact ⟨[-32768, -81920, -90112, -139264, -188416], some (.int 4), (some (.int 3)), some (.int (-155648)), some (.list []), some (.list [.int (-49152), .int (-98304), .int (-106496), .int (-155648)]), (some (.bool false)), rfl, by decide +kernel, eq_ret fun s => by kernel_rfl⟩
theorem put_5_33 {c : Cl} : Put c 5 [(1, 3), (2, 4)] := fun rw_ hl => by
  match rw_, hl with
  | [r0, r1, r2, r3, r4], _ => exact ⟨[-32768, -81920, -90112, -94208, -102400], some (.int 4), (some (.int 3)), some (.int (-98304)), some (.list [.int (-106496), .int (-110592)]), some (.list [.int (-49152), .int (-98304)]), (some (.bool true)), rfl, by decide +kernel, eq_ret fun s => by kernel_rfl⟩
theorem put_5_34 {c : Cl} : Put c 5 [(1, 3), (3, 4)] := fun rw_ hl => by
  match rw_, hl with
  | [r0, r1, r2, r3, r4], _ => exact ⟨[-32768, -81920, -90112, -94208, -108544], some (.int 4), (some (.int 3)), some (.int (-106496)), some (.list [.int (-110592)]), some (.list [.int (-49152), .int (-98304), .int (-106496)]), (some (.bool true)), rfl, by decide +kernel, eq_ret fun s => by kernel_rfl⟩
theorem put_5_35 {c : Cl} : Put c 5 [(1, 3)] := fun rw_ hl => by
  match rw_, hl with
  | [r0, r1, r2, r3, r4], _ => exact ⟨[-32768, -81920, -90112, -94208, -143360], some (.int 4), (some (.int 3)), some (.int (-110592)), some (.list []), some (.list [.int (-49152), .int (-98304), .int (-106496), .int (-110592)]), (some (.bool false)), rfl, by decide +kernel, eq_ret fun s => by kernel_rfl⟩
theorem put_5_36 {c : Cl} : Put c 5 [(1, 4)] := fun rw_ hl => by
  match rw_, hl with
  | [r0, r1, r2, r3, r4], _ => exact ⟨[-32768, -81920, -90112, -94208, -96256], some (.int 4), (some (.int 3)), some (.int (-94208)), some (.list [.int (-98304), .int (-106496), .int (-110592)]), some (.list [.int (-49152)]), (some (.bool true)), rfl, by decide +kernel, eq_ret fun s => by kernel_rfl⟩
theorem put_5_37 {c : Cl} : Put c 5 [(2, 3), (3, 4)] := fun rw_ hl => by
  match rw_, hl with
  | [r0, r1, r2, r3, r4], _ => exact ⟨[-32768, -81920, -131072, -139264, -151552], some (.int 4), (some (.int 3)), some (.int (-147456)), some (.list [.int (-155648)]), some (.list [.int (-49152), .int (-98304), .int (-147456)]), (some (.bool true)), rfl, by decide +kernel, eq_ret fun s => by kernel_rfl⟩
theorem put_5_38 {c : Cl} : Put c 5 [(2, 3)] := fun rw_ hl => by
  match rw_, hl with
  | [r0, r1, r2, r3, r4], _ => exact ⟨[-32768, -81920, -131072, -139264, -188416], some (.int 4), (some (.int 3)), some (.int (-155648)), some (.list []), some (.list [.int (-49152), .int (-98304), .int (-147456), .int (-155648)]), (some (.bool false)), rfl, by decide +kernel, eq_ret fun s => by kernel_rfl⟩
theorem put_5_39 {c : Cl} : Put c 5 [(2, 4)] := fun rw_ hl => by
  match rw_, hl with
  | [r0, r1, r2, r3, r4], _ => exact ⟨[-32768, -81920, -131072, -139264, -143360], some (.int 4), (some (.int 3)), some (.int (-139264)), some (.list [.int (-147456), .int (-155648)]), some (.list [.int (-49152), .int (-98304)]), (some (.bool true)), rfl, by decide +kernel, eq_ret fun s => by kernel_rfl⟩
theorem put_5_40 {c : Cl} : Put c 5 [(3, 4)] := fun rw_ hl => by
  match rw_, hl with
  | [r0, r1, r2, r3, r4], _ => exact ⟨[-32768, -81920, -131072, -180224, -188416], some (.int 4), (some (.int 3)), some (.int (-180224)), some (.list [.int (-196608)]), some (.list [.int (-49152), .int (-98304), .int (-147456)]), (some (.bool true)), rfl, by decide +kernel, eq_ret fun s => by kernel_rfl⟩
theorem put_5_41 {c : Cl} : Put c 5 [] := fun rw_ hl => by
  match rw_, hl with
  | [r0, r1, r2, r3, r4], _ => exact ⟨[-32768, -81920, -131072, -180224, -229376], some (.int 4), (some (.int 3)), some (.int (-196608)), some (.list []), some (.list [.int (-49152), .int (-98304), .int (-147456), .int (-196608)]), (some (.bool false)), rfl, by decide +kernel, eq_ret fun s => by kernel_rfl⟩
theorem put_5 {c : Cl} : ∀ g ∈ ANT 5, Put c 5 g := by
  rw [show ANT 5 = [[(0, 1), (1, 2), (2, 3), (3, 4)], [(0, 1), (1, 2), (2, 3)], [(0, 1), (1, 2), (2, 4)], [(0, 1), (1, 2), (3, 4)], [(0, 1), (1, 2)], [(0, 1), (1, 3), (2, 4)], [(0, 1), (1, 3), (3, 4)], [(0, 1), (1, 3)], [(0, 1), (1, 4)], [(0, 1), (2, 3), (3, 4)], [(0, 1), (2, 3)], [(0, 1), (2, 4)], [(0, 1), (3, 4)], [(0, 1)], [(0, 2), (1, 3), (2, 4)], [(0, 2), (1, 3), (3, 4)], [(0, 2), (1, 3)], [(0, 2), (1, 4)], [(0, 2), (2, 3), (3, 4)], [(0, 2), (2, 3)], [(0, 2), (2, 4)], [(0, 2), (3, 4)], [(0, 2)], [(0, 3), (1, 4)], [(0, 3), (2, 4)], [(0, 3), (3, 4)], [(0, 3)], [(0, 4)], [(1, 2), (2, 3), (3, 4)], [(1, 2), (2, 3)], [(1, 2), (2, 4)], [(1, 2), (3, 4)], [(1, 2)], [(1, 3), (2, 4)], [(1, 3), (3, 4)], [(1, 3)], [(1, 4)], [(2, 3), (3, 4)], [(2, 3)], [(2, 4)], [(3, 4)], []] from by decide +kernel]
  intro g hg
  simp only [List.mem_cons, List.not_mem_nil, or_false] at hg
  rcases hg with rfl | rfl | rfl | rfl | rfl | rfl | rfl | rfl | rfl | rfl | rfl | rfl | rfl | rfl | rfl | rfl | rfl | rfl | rfl | rfl | rfl | rfl | rfl | rfl | rfl | rfl | rfl | rfl | rfl | rfl | rfl | rfl | rfl | rfl | rfl | rfl | rfl | rfl | rfl | rfl | rfl | rfl
  · exact put_5_0
  · exact put_5_1
  · exact put_5_2
  · exact put_5_3
  · exact put_5_4
  · exact put_5_5
  · exact put_5_6
  · exact put_5_7
  · exact put_5_8
  · exact put_5_9
  · exact put_5_10
  · exact put_5_11
  · exact put_5_12
  · exact put_5_13
  · exact put_5_14
  · exact put_5_15
  · exact put_5_16
  · exact put_5_17
  · exact put_5_18
  · exact put_5_19
  · exact put_5_20
  · exact put_5_21
  · exact put_5_22
  · exact put_5_23
  · exact put_5_24
  · exact put_5_25
  · exact put_5_26
  · exact put_5_27
  · exact put_5_28
  · exact put_5_29
  · exact put_5_30
  · exact put_5_31
  · exact put_5_32
  · exact put_5_33
  · exact put_5_34
  · exact put_5_35
  · exact put_5_36
  · exact put_5_37
  · exact put_5_38
  · exact put_5_39
  · exact put_5_40
  · exact put_5_41
theorem put_all {c : Cl} {n : Nat} (hn : Nn n) {g : List (Nat × Nat)} (hg : g ∈ ANT n) : Put c n g := by
  rcases hn with rfl | rfl | rfl | rfl | rfl
  · exact put_1 g hg
  · exact put_2 g hg
  · exact put_3 g hg
  · exact put_4 g hg
  · exact put_5 g hg
end Fz.K82x
namespace Fz.K82x
open PySem Fz Fz.K82 Fz.Sh
theorem forL_fold {α σ J : Type} {body : D → En → M Rs} {g : α → D} (E : σ → J → En) (st : σ → α → σ) (I : σ → Prop) : ∀ (ws : List α) (s : σ) (j : J), I s → (∀ s j w, w ∈ ws → I s → (∃ j', body (g w) (E s j) = ret (.next (E (st s w) j'))) ∧ I (st s w)) → ∃ j', forL body (ws.map g) (E s j) = ret (.next (E (ws.foldl st s) j'))
  | [], s, j, _, _ => ⟨j, rfl⟩
  | w :: ws, s, j, h0, k => by
    obtain ⟨⟨j1, e1⟩, h1⟩ := k s j w (List.mem_cons_self ..) h0
    obtain ⟨j2, e2⟩ := forL_fold E st I ws (st s w) j1 h1 fun s j w hw => k s j w (List.mem_cons_of_mem _ hw)
    exact ⟨j2, (forL_next e1).trans e2⟩
theorem set_all (f : Nat → Int) : ∀ (l : List Nat) (zs : List Int) (k : Nat) (hk : k < zs.length), (l.foldl (fun z i => z.set i (f i)) zs)[k]? = some (if k ∈ l then f k else zs[k])
  | [], zs, k, hk => by simp [hk]
  | i :: r, zs, k, hk => by
    have ih := set_all f r (zs.set i (f i)) k (by rw [List.length_set]; exact hk)
    rw [List.foldl_cons, ih]
    congr 1
    by_cases h : k ∈ r
    · rw [if_pos h, if_pos (List.mem_cons_of_mem _ h)]
    · rw [if_neg h, List.getElem_set]
      by_cases e : i = k
      · subst e; rw [if_pos rfl, if_pos (List.mem_cons_self ..)]
      · rw [if_neg e, if_neg (fun m => (List.mem_cons.mp m).elim (fun z => e z.symm) h)]
theorem fold_len (f : Nat → Int) : ∀ (l : List Nat) (zs : List Int), (l.foldl (fun z i => z.set i (f i)) zs).length = zs.length
  | [], _ => rfl
  | i :: r, zs => by rw [List.foldl_cons, fold_len f r, List.length_set]
section
variable {c : Cl} {n : Nat} (hn : Nn n) {rw_ : List Nat} (hr : rw_.Perm (List.range n))
include hn hr
theorem run15 {g : List (Nat × Nat)} (A : Arcs n rw_ g) (h9 : c 9 [.int 4, .int ((n : Int) + 2)] = ret (.int (4 ^ (n + 2)))) : ∃ y : Nat → Int, Tell n g (4 ^ (n + 2)) y ∧
    exL false c b15 [some (tD rw_), some (.tuple (g.map pD)), none, none, none, none, none, none, none, none, none, none, none] = ret (.ret (.tuple [XL n (back rw_ y), .int (4 ^ (n + 2))])) := by
  have b5 := n5 hn
  have hl : rw_.length = n := by rw [hr.length_eq, List.length_range]
  have hd : rw_.Nodup := hr.nodup_iff.mpr List.nodup_range
  have hm : ∀ i ∈ rw_, i < n := fun i hi => List.mem_range.mp (hr.mem_iff.mp hi)
  obtain ⟨ys, a4, a5, a6, a7, a8, a9, yl, tb, ef⟩ := put_all (c := c) hn (ant_of A.part A.ac) rw_ hl
  have fp : (0 : Int) < 4 ^ (n + 2) := by rcases hn with rfl | rfl | rfl | rfl | rfl <;> decide
  refine ⟨fun p => ys.getD p 0, tell_of fp tb, ?_⟩
  have el : biV .len [tD rw_] = some (nd n) := by
    show some (PyData.int ((rw_.map nd).length : Nat)) = _
    rw [List.length_map, hl]; rfl
  have e2 : evE false c (.call 9 [.int 4, .op .add (.bi .len [.var 0]) (.int 2)]) [some (tD rw_), some (.tuple (g.map pD)), none, none, none, none, none, none, none, none, none, none, none] = ret (.int (4 ^ (n + 2))) := by
    have ea : op2 .add (nd n) (.int 2) = some (.int ((n : Int) + 2)) := rfl
    simp only [q_non, q_bl, q_int, q_str, q_var, q_op, q_not, q_and, q_or, q_ite, q_cmp, q_chain, q_tup, q_lst, q_idx, q_slc, q_rev, q_call, q_bi, q_meth, q_isi, q_lnil, q_lcons, q_lstar, q_o0, q_o1, q_t0, q_t1, q_snil, q_scons, q_thenN, q_thenR, q_asg, q_new, q_asNew, q_par, q_parN, q_app, q_ext, q_asExt, q_pop, q_set, q_aug, q_ret, q_if, q_pass, q_getD0, q_getD1, q_set0, q_set1, q_tgN, q_tgT, q_tgL, q_tg0, q_tg1, q_sv0, q_sv1, q_tb, q_ti, q_tl, q_tt, q_add, q_sub, q_lt, q_le, q_gt, q_ge, q_eqI, q_neI, q_lenL, q_lenT, q_tupL, q_tupT, q_lstL, q_lstT, q_seqL, q_seqT, q_revL, q_revT, q_intI, q_intB, q_size0, q_size1, q_size2, q_size3, q_size4, q_size5, q_size6, q_size7, q_size8, q_size9, q_news0, q_newsT, q_newsF, q_augA, q_augS, q_io0, q_io1, q_slcL, q_slcT, q_mapL0, q_mapL1, q_cons1, q_cons0, q_turn, q_dps, q_dpsL, q_idxD, q_sortT, q_sortL, q_isN, q_notN, q_nonN, q_nonI, q_nonT, q_nonL, q_nonB, q_nonS, q_neB, q_eqB, q_negI, q_absI, bnd_ret, lift_ok, Option.bind_some, Option.map_some, if_true, if_false, ↓reduceIte, Bool.false_eq_true, Bool.not_true, Bool.not_false, Option.bind_none, el, ea, h9]
  -- numbers by places
  obtain ⟨j', e⟩ := forL_fold (J := Option D × Option D) (σ := List Int) (body := fTurn false c (.tup [.name 5, .name 12]) [.set 11 (.var 12) (.idx (.var 3) (.var 5))]) (g := fun i => .tuple [nd (rw_.idxOf i), nd i])
    (fun zs j => [some (tD rw_), some (.tuple (g.map pD)), some (.int (4 ^ (n + 2))), some (.list (ys.map .int)), a4, j.1, a6, a7, a8, a9, none, some (.list (zs.map .int)), j.2]) (fun z i => z.set i (ys.getD (rw_.idxOf i) 0)) (fun zs => zs.length = n) rw_ (List.replicate n 0) (a5, none) (by simp) fun zs j i hi hz => by
    have i1 := idx_lt hr (hm i hi)
    refine ⟨⟨(some (nd (rw_.idxOf i)), some (nd i)), ?_⟩, by rw [List.length_set]; exact hz⟩
    have tg : tgSet (.tup [.name 5, .name 12]) (.tuple [nd (rw_.idxOf i), nd i]) [some (tD rw_), some (.tuple (g.map pD)), some (.int (4 ^ (n + 2))), some (.list (ys.map .int)), a4, j.1, a6, a7, a8, a9, none, some (.list (zs.map .int)), j.2] = some [some (tD rw_), some (.tuple (g.map pD)), some (.int (4 ^ (n + 2))), some (.list (ys.map .int)), a4, some (nd (rw_.idxOf i)), a6, a7, a8, a9, none, some (.list (zs.map .int)), some (nd i)] := rfl
    have iy : idxV (.list (ys.map .int)) (nd (rw_.idxOf i)) = some (.int (ys.getD (rw_.idxOf i) 0)) := by
      have h : rw_.idxOf i < ys.length := by rw [yl]; exact i1.1
      refine idxV_nat ?_
      rw [List.getElem?_map, List.getElem?_eq_getElem h]
      simp [h]
    have ix : L2.ixN (zs.map PyData.int).length ((i : Nat) : Int) = some i := ixN_nat (by rw [List.length_map, hz]; exact hm i hi)
    have ev : evE false c (.idx (.var 3) (.var 5)) [some (tD rw_), some (.tuple (g.map pD)), some (.int (4 ^ (n + 2))), some (.list (ys.map .int)), a4, some (nd (rw_.idxOf i)), a6, a7, a8, a9, none, some (.list (zs.map .int)), some (nd i)] = ret (.int (ys.getD (rw_.idxOf i) 0)) := by simp only [q_non, q_bl, q_int, q_str, q_var, q_op, q_not, q_and, q_or, q_ite, q_cmp, q_chain, q_tup, q_lst, q_idx, q_slc, q_rev, q_call, q_bi, q_meth, q_isi, q_lnil, q_lcons, q_lstar, q_o0, q_o1, q_t0, q_t1, q_snil, q_scons, q_thenN, q_thenR, q_asg, q_new, q_asNew, q_par, q_parN, q_app, q_ext, q_asExt, q_pop, q_set, q_aug, q_ret, q_if, q_pass, q_getD0, q_getD1, q_set0, q_set1, q_tgN, q_tgT, q_tgL, q_tg0, q_tg1, q_sv0, q_sv1, q_tb, q_ti, q_tl, q_tt, q_add, q_sub, q_lt, q_le, q_gt, q_ge, q_eqI, q_neI, q_lenL, q_lenT, q_tupL, q_tupT, q_lstL, q_lstT, q_seqL, q_seqT, q_revL, q_revT, q_intI, q_intB, q_size0, q_size1, q_size2, q_size3, q_size4, q_size5, q_size6, q_size7, q_size8, q_size9, q_news0, q_newsT, q_newsF, q_augA, q_augS, q_io0, q_io1, q_slcL, q_slcT, q_mapL0, q_mapL1, q_cons1, q_cons0, q_turn, q_dps, q_dpsL, q_idxD, q_sortT, q_sortL, q_isN, q_notN, q_nonN, q_nonI, q_nonT, q_nonL, q_nonB, q_nonS, q_neB, q_eqB, q_negI, q_absI, bnd_ret, lift_ok, Option.bind_some, Option.map_some, if_true, if_false, ↓reduceIte, Bool.false_eq_true, Bool.not_true, Bool.not_false, Option.bind_none, iy]
    have ek : evE false c (.var 12) [some (tD rw_), some (.tuple (g.map pD)), some (.int (4 ^ (n + 2))), some (.list (ys.map .int)), a4, some (nd (rw_.idxOf i)), a6, a7, a8, a9, none, some (.list (zs.map .int)), some (nd i)] = ret (.int (i : Int)) := rfl
    rw [q_turnF, tg, lift_ok, bnd_ret, q_scons, q_set, ev, bnd_ret, ek, bnd_ret, q_lstAt (xs := zs.map .int) rfl, lift_ok, bnd_ret, q_asSet (j := i) ix, bnd_ret]
    rw [List.map_set]
    rfl
  have fin : (rw_.foldl (fun z i => z.set i (ys.getD (rw_.idxOf i) 0)) (List.replicate n 0)) = (List.range n).map (back rw_ fun p => ys.getD p 0) := by
    refine List.ext_getElem? fun k => ?_
    by_cases hk : k < n
    · rw [set_all (fun i => ys.getD (rw_.idxOf i) 0) rw_ _ k (by simpa using hk), if_pos (hr.mem_iff.mpr (List.mem_range.mpr hk))]
      simp [hk, back]
    · rw [List.getElem?_eq_none (by rw [fold_len (fun i => ys.getD (rw_.idxOf i) 0)]; simp; omega), List.getElem?_eq_none (by simp; omega)]
  rw [fin] at e
  have xl : (PyData.list (((List.range n).map (back rw_ fun p => ys.getD p 0)).map .int) : D) = XL n (back rw_ fun p => ys.getD p 0) := by
    unfold XL; rw [List.map_map]; rfl
  rw [xl] at e
  have em : evE false c (.op .mul (.lst [.int 0]) (.bi .len [.var 0])) [some (tD rw_), some (.tuple (g.map pD)), some (.int (4 ^ (n + 2))), some (.list (ys.map .int)), a4, a5, a6, a7, a8, a9, none, none, none] = ret (.list ((List.replicate n (0 : Int)).map .int)) := by
    have e1 : evE false c (.bi .len [.var 0]) [some (tD rw_), some (.tuple (g.map pD)), some (.int (4 ^ (n + 2))), some (.list (ys.map .int)), a4, a5, a6, a7, a8, a9, none, none, none] = ret (nd n) := by simp only [q_non, q_bl, q_int, q_str, q_var, q_op, q_not, q_and, q_or, q_ite, q_cmp, q_chain, q_tup, q_lst, q_idx, q_slc, q_rev, q_call, q_bi, q_meth, q_isi, q_lnil, q_lcons, q_lstar, q_o0, q_o1, q_t0, q_t1, q_snil, q_scons, q_thenN, q_thenR, q_asg, q_new, q_asNew, q_par, q_parN, q_app, q_ext, q_asExt, q_pop, q_set, q_aug, q_ret, q_if, q_pass, q_getD0, q_getD1, q_set0, q_set1, q_tgN, q_tgT, q_tgL, q_tg0, q_tg1, q_sv0, q_sv1, q_tb, q_ti, q_tl, q_tt, q_add, q_sub, q_lt, q_le, q_gt, q_ge, q_eqI, q_neI, q_lenL, q_lenT, q_tupL, q_tupT, q_lstL, q_lstT, q_seqL, q_seqT, q_revL, q_revT, q_intI, q_intB, q_size0, q_size1, q_size2, q_size3, q_size4, q_size5, q_size6, q_size7, q_size8, q_size9, q_news0, q_newsT, q_newsF, q_augA, q_augS, q_io0, q_io1, q_slcL, q_slcT, q_mapL0, q_mapL1, q_cons1, q_cons0, q_turn, q_dps, q_dpsL, q_idxD, q_sortT, q_sortL, q_isN, q_notN, q_nonN, q_nonI, q_nonT, q_nonL, q_nonB, q_nonS, q_neB, q_eqB, q_negI, q_absI, bnd_ret, lift_ok, Option.bind_some, Option.map_some, if_true, if_false, ↓reduceIte, Bool.false_eq_true, Bool.not_true, Bool.not_false, Option.bind_none, el]
    have e0 : evE false c (.lst [.int 0]) [some (tD rw_), some (.tuple (g.map pD)), some (.int (4 ^ (n + 2))), some (.list (ys.map .int)), a4, a5, a6, a7, a8, a9, none, none, none] = ret (.list [.int 0]) := rfl
    have e3 : op2 .mul (.list [.int 0]) (nd n) = some (.list ((List.replicate n (0 : Int)).map .int)) := by
      clear e ef tb A
      rcases hn with rfl | rfl | rfl | rfl | rfl <;> rfl
    show bnd (evE false c (.lst [.int 0]) _) (fun x => bnd (evE false c (.bi .len [.var 0]) _) fun y => lift (op2 .mul x y)) = _
    rw [e0, bnd_ret, e1, bnd_ret, e3]; rfl
  have ee : evE false c (.enum (.var 0)) [some (tD rw_), some (.tuple (g.map pD)), some (.int (4 ^ (n + 2))), some (.list (ys.map .int)), a4, a5, a6, a7, a8, a9, none, some (.list ((List.replicate n (0 : Int)).map .int)), none] = ret (.list (rw_.map fun i => .tuple [nd (rw_.idxOf i), nd i])) := by
    have sq : seqOf (tD rw_) = some (rw_.map nd) := rfl
    rw [q_enum]
    simp only [q_non, q_bl, q_int, q_str, q_var, q_op, q_not, q_and, q_or, q_ite, q_cmp, q_chain, q_tup, q_lst, q_idx, q_slc, q_rev, q_call, q_bi, q_meth, q_isi, q_lnil, q_lcons, q_lstar, q_o0, q_o1, q_t0, q_t1, q_snil, q_scons, q_thenN, q_thenR, q_asg, q_new, q_asNew, q_par, q_parN, q_app, q_ext, q_asExt, q_pop, q_set, q_aug, q_ret, q_if, q_pass, q_getD0, q_getD1, q_set0, q_set1, q_tgN, q_tgT, q_tgL, q_tg0, q_tg1, q_sv0, q_sv1, q_tb, q_ti, q_tl, q_tt, q_add, q_sub, q_lt, q_le, q_gt, q_ge, q_eqI, q_neI, q_lenL, q_lenT, q_tupL, q_tupT, q_lstL, q_lstT, q_seqL, q_seqT, q_revL, q_revT, q_intI, q_intB, q_size0, q_size1, q_size2, q_size3, q_size4, q_size5, q_size6, q_size7, q_size8, q_size9, q_news0, q_newsT, q_newsF, q_augA, q_augS, q_io0, q_io1, q_slcL, q_slcT, q_mapL0, q_mapL1, q_cons1, q_cons0, q_turn, q_dps, q_dpsL, q_idxD, q_sortT, q_sortL, q_isN, q_notN, q_nonN, q_nonI, q_nonT, q_nonL, q_nonB, q_nonS, q_neB, q_eqB, q_negI, q_absI, bnd_ret, lift_ok, Option.bind_some, Option.map_some, if_true, if_false, ↓reduceIte, Bool.false_eq_true, Bool.not_true, Bool.not_false, Option.bind_none, sq, enum_row hd]
  unfold b15
  rw [q_scons, exS_asg e2 rfl, bnd_ret]
  show exL false c (.new 3 (.lst []) :: F15 :: _) [some (tD rw_), some (.tuple (g.map pD)), some (.int (4 ^ (n + 2))), none, none, none, none, none, none, none, none, none, none] = _
  rw [exL_next (en2 := [some (tD rw_), some (.tuple (g.map pD)), some (.int (4 ^ (n + 2))), some (.list []), none, none, none, none, none, none, none, none, none]) rfl, exL_next ef]
  rw [exL_next (en2 := [some (tD rw_), some (.tuple (g.map pD)), some (.int (4 ^ (n + 2))), some (.list (ys.map .int)), a4, a5, a6, a7, a8, a9, none, some (.list ((List.replicate n (0 : Int)).map .int)), none]) (exS_new em)]
  rw [q_scons, q_for, ee, bnd_ret, q_seqL, lift_ok, bnd_ret, e, bnd_ret]
  simp only [q_non, q_bl, q_int, q_str, q_var, q_op, q_not, q_and, q_or, q_ite, q_cmp, q_chain, q_tup, q_lst, q_idx, q_slc, q_rev, q_call, q_bi, q_meth, q_isi, q_lnil, q_lcons, q_lstar, q_o0, q_o1, q_t0, q_t1, q_snil, q_scons, q_thenN, q_thenR, q_asg, q_new, q_asNew, q_par, q_parN, q_app, q_ext, q_asExt, q_pop, q_set, q_aug, q_ret, q_if, q_pass, q_getD0, q_getD1, q_set0, q_set1, q_tgN, q_tgT, q_tgL, q_tg0, q_tg1, q_sv0, q_sv1, q_tb, q_ti, q_tl, q_tt, q_add, q_sub, q_lt, q_le, q_gt, q_ge, q_eqI, q_neI, q_lenL, q_lenT, q_tupL, q_tupT, q_lstL, q_lstT, q_seqL, q_seqT, q_revL, q_revT, q_intI, q_intB, q_size0, q_size1, q_size2, q_size3, q_size4, q_size5, q_size6, q_size7, q_size8, q_size9, q_news0, q_newsT, q_newsF, q_augA, q_augS, q_io0, q_io1, q_slcL, q_slcT, q_mapL0, q_mapL1, q_cons1, q_cons0, q_turn, q_dps, q_dpsL, q_idxD, q_sortT, q_sortL, q_isN, q_notN, q_nonN, q_nonI, q_nonT, q_nonL, q_nonB, q_nonS, q_neB, q_eqB, q_negI, q_absI, bnd_ret, lift_ok, Option.bind_some, Option.map_some, if_true, if_false, ↓reduceIte, Bool.false_eq_true, Bool.not_true, Bool.not_false, Option.bind_none]
end
end Fz.K82x
namespace Fz.K82x
open PySem Fz Fz.K82 Fz.Sh
abbrev V0 : S := .asg (.name 3) (.op .add (.int 1) (.pick (.var 1) (.int 5)))
abbrev V1 : S := .asg (.tup [.name 10, .name 11]) (.call 12 [.var 1, .var 3])
abbrev V2 : S := .asg (.tup [.name 12, .tup [.name 7, .name 16]]) (.tup [.call 11 [.tup [.var 10, .var 11]], .call 13 [.var 10, .var 11]])
abbrev V3 : S := .new 4 (.lst [])
abbrev V4 : S := .for_ (.name 5) (.var 10) B4
abbrev V5 : S := .ite (.cmp .ne (.bi .repr [.call 2 [.bi .tuple [.var 4]]]) (.bi .repr [.var 12])) [.ret (.bl false)] []
abbrev V6 : S := .ite (.cmp .ne (.bi .repr [.lst [.call 4 [.var 3, .var 12], .call 6 [.var 3, .var 12], .call 7 [.var 7, .var 16]]]) (.bi .repr [.lst [.var 7, .var 16, .var 12]])) [.ret (.bl false)] []
abbrev V7 : S := .asg (.name 6) (.lst [])
abbrev B8 : List S := [.asg (.name 15) (.bi .tuple [.comp (.name 19) (.rng [.var 3]) none (.op .sub (.bi .int [.cmp .eq (.var 19) (.var 13)]) (.bi .int [.cmp .eq (.var 19) (.var 14)]))]), .asg (.name 6) (.op .add (.var 6) (.lst [.op .add (.var 15) (.tup [.int 0]), .op .add (.var 15) (.tup [.int 1])]))]
abbrev V8 : S := .for_ (.tup [.name 13, .name 14]) (.call 10 [.var 3]) B8
abbrev V9 : S := .ite (.cmp .ne (.bi .repr [.call 1 [.var 3]]) (.bi .repr [.tup [.var 3, .bi .tuple [.var 6]]])) [.ret (.bl false)] []
abbrev V10 : S := .asg (.name 7) (.bi .tuple [.call 8 [.var 1, .bi .list [.rng [.var 3]]]])
abbrev V11 : S := .asg (.name 8) (.call 14 [.var 1, .var 7])
abbrev V12 : S := .asg (.name 9) (.call 7 [.var 7, .var 8])
abbrev V13 : S := .ite (.cmp .ne (.bi .repr [.var 9]) (.bi .repr [.call 11 [.call 15 [.var 7, .var 8]]])) [.ret (.bl false)] []
abbrev V14 : S := .ite (.or (.cmp .ne (.call 4 [.var 3, .var 9]) (.var 7)) (.cmp .ne (.call 6 [.var 3, .var 9]) (.var 8))) [.ret (.bl false)] []
abbrev eE : E := .and (.cmp .eq (.call 7 [.tup [.int 0, .int 1], .tup [.tup [.int 0, .int 1]]]) (.tup [.int 1, .neg (.int 1)])) (.cmp .eq (.call 2 [.tup [.tup [.int 1, .int 2], .tup [.int 0, .int 1]]]) (.tup [.int 1, .neg (.int 1)]))
abbrev bodyL : List S := [V0, V1, V2, V3, V4, V5, V6, V7, V8, V9, V10, V11, V12, V13, V14]
theorem rest_eq : rest = [.for_ (.name 2) (.rng [.int 6]) bodyL, .ret eE] := rfl
/-- the planes -/
def DV (n : Nat) : List (List Int) := (Prs n).flatMap fun a => [((List.range n).map fun k => (if k = a.1 then (1 : Int) else 0) - (if k = a.2 then 1 else 0)) ++ [0], ((List.range n).map fun k => (if k = a.1 then (1 : Int) else 0) - (if k = a.2 then 1 else 0)) ++ [1]]
def DU (n : Nat) : List D := (DV n).map fun vs => .tuple (vs.map .int)
structure Cs (c : Cl) : Prop where
  h10 : ∀ n, Nn n → c 10 [nd n] = ret (.list ((Prs n).map pD))
  h1 : ∀ n, Nn n → c 1 [nd n] = ret (.tuple [nd n, .tuple (DU n)])
  h12 : ∀ n (s : Src) (Q : D → Src → Prop), Nn n → (∀ (x : Nat → Int) (far : Int) (s : Src), 5 ≤ far ∧ far ≤ 44 → Pt n x far → (∀ i, i < n → 0 ≤ x i ∧ x i ≤ 500) → Q (.tuple [XL n x, .int far]) s) → Wp (c 12 [srcD, nd n]) s Q
  h11 : ∀ n x far, Nn n → c 11 [.tuple [XL n x, .int far]] = ret (SGD n x far)
  h13 : ∀ n x far, Nn n → Pt n x far → c 13 [XL n x, .int far] = ret (.tuple [tD (row n x), .tuple ((GR (AR n x far)).map pD)])
  h2 : ∀ n x far, Nn n → 5 ≤ far ∧ far ≤ 44 → (∀ i, i < n → 0 ≤ x i ∧ x i ≤ 500) → c 2 [.tuple (FR n x far)] = ret (SGD n x far)
  h4 : ∀ n x far, Nn n → Pt n x far → c 4 [nd n, SGD n x far] = ret (tD (row n x))
  h6 : ∀ n x far, Nn n → Pt n x far → c 6 [nd n, SGD n x far] = ret (.tuple ((GR (AR n x far)).map pD))
  h7 : ∀ n (rw_ : List Nat) (g : List (Nat × Nat)), Nn n → rw_.Perm (List.range n) → g.length ≤ 100 → c 7 [tD rw_, .tuple (g.map pD)] = ret (.tuple ((RB n rw_ g).map .int))
  h8 : ∀ (us : List Nat) (s : Src) (Q : D → Src → Prop), us.length ≤ 10 → (∀ (rs : List Nat) (s : Src), rs.Perm us → Q (.list (rs.map nd)) s) → Wp (c 8 [srcD, .list (us.map nd)]) s Q
  h14 : ∀ n (rw_ : List Nat) (s : Src) (Q : D → Src → Prop), Nn n → rw_.Perm (List.range n) → (∀ g s, Arcs n rw_ g → Q (.tuple (g.map pD)) s) → Wp (c 14 [srcD, tD rw_]) s Q
  h15 : ∀ n (rw_ : List Nat) g, Nn n → rw_.Perm (List.range n) → Arcs n rw_ g → ∃ y : Nat → Int, Tell n g (4 ^ (n + 2)) y ∧ c 15 [tD rw_, .tuple (g.map pD)] = ret (.tuple [XL n (back rw_ y), .int (4 ^ (n + 2))])
  hE : ∀ en, evE false c eE en = ret (.bool true)
theorem sg_bd {n : Nat} {x : Nat → Int} {far : Int} : ∀ v ∈ SG n x far, v.natAbs < 2 ^ 3 := fun v hv => by
  have sb : ∀ z : Int, z.sign.natAbs < 2 ^ 3 := fun z => by
    rcases Int.lt_trichotomy z 0 with h | h | h
    · rw [Int.sign_eq_neg_one_of_neg h]; decide
    · rw [h]; decide
    · rw [Int.sign_eq_one_of_pos h]; decide
  unfold SG at hv
  obtain ⟨a, _, h⟩ := List.mem_flatMap.mp hv
  simp only [List.mem_cons, List.not_mem_nil, or_false] at h
  rcases h with rfl | rfl <;> exact sb _
theorem sg_len {n : Nat} (hn : Nn n) {x : Nat → Int} {far : Int} : (SG n x far).length ≤ 20 := by
  rcases hn with rfl | rfl | rfl | rfl | rfl
  · rw [show (SG 1 x far).length = 0 from rfl]; decide
  · rw [show (SG 2 x far).length = 2 from rfl]; decide
  · rw [show (SG 3 x far).length = 6 from rfl]; decide
  · rw [show (SG 4 x far).length = 12 from rfl]; decide
  · rw [show (SG 5 x far).length = 20 from rfl]; decide
theorem ro_sgd {n : Nat} (hn : Nn n) {x : Nat → Int} {far : Int} : RO 1000 1 (SGD n x far) := by
  refine (ro_tuple (b := 10) (k := 0) (n := 20) (fun d hd => ?_) (by rw [List.length_map]; exact sg_len hn)).mono (by decide) (Nat.le_refl _)
  obtain ⟨v, hv, rfl⟩ := List.mem_map.mp hd
  exact (ro_int (n := 3) (sg_bd v hv) (by decide)).mono (by decide) (Nat.le_refl _)
theorem ro_row {n : Nat} (hn : Nn n) {l : List Nat} (h : ∀ i ∈ l, i < n) (hl : l.length ≤ 10) : RO 1000 1 (tD l) := by
  have b5 := n5 hn
  exact (ro_tD (m := 10) (fun i hi => by have := h i hi; omega) hl).mono (by decide) (Nat.le_refl _)
theorem ro_arcs {n : Nat} (hn : Nn n) {l : List (Nat × Nat)} (h : ∀ a ∈ l, a ∈ Prs n) (hl : l.length ≤ 10) : RO 20000 2 (.tuple (l.map pD)) := by
  have b5 := n5 hn
  refine (ro_tuple (b := 1000) (k := 1) (n := 10) (fun d hd => ?_) (by rw [List.length_map]; exact hl)).mono (by decide) (Nat.le_refl _)
  obtain ⟨a, ha, rfl⟩ := List.mem_map.mp hd
  obtain ⟨h1, h2⟩ := mem_prs.mp (show (a.1, a.2) ∈ Prs n from h a ha)
  exact ro_row hn (l := [a.1, a.2]) (fun i hi => by simp only [List.mem_cons, List.not_mem_nil, or_false] at hi; omega) (by simp)
theorem dv_ok {n : Nat} (hn : Nn n) : ((DV n).all fun vs => decide (vs.length ≤ 10) && vs.all fun v => decide (v.natAbs < 2 ^ 3)) = true ∧ (DV n).length ≤ 20 := by rcases hn with rfl | rfl | rfl | rfl | rfl <;> decide +kernel
theorem ro_du {n : Nat} (hn : Nn n) : RO 20000 3 (.tuple [nd n, .tuple (DU n)]) := by
  have b5 := n5 hn
  obtain ⟨h1, h2⟩ := dv_ok hn
  have a : RO 6000 2 (.tuple (DU n)) := by
    refine (ro_tuple (b := 200) (k := 1) (n := 20) (fun d hd => ?_) (by unfold DU; rw [List.length_map]; exact h2)).mono (by decide) (Nat.le_refl _)
    obtain ⟨vs, hv, rfl⟩ := List.mem_map.mp hd
    have := List.all_eq_true.mp h1 vs hv
    simp only [Bool.and_eq_true, decide_eq_true_eq, List.all_eq_true] at this
    refine (ro_tuple (b := 10) (k := 0) (n := 10) (fun d hd => ?_) (by rw [List.length_map]; exact this.1)).mono (by decide) (Nat.le_refl _)
    obtain ⟨v, hv, rfl⟩ := List.mem_map.mp hd
    exact (ro_int (n := 3) (this.2 v hv) (by decide)).mono (by decide) (Nat.le_refl _)
  refine (ro_tuple (b := 6000) (k := 2) (n := 2) (fun d hd => ?_) (by simp)).mono (by decide) (Nat.le_refl _)
  simp only [List.mem_cons, List.not_mem_nil, or_false] at hd
  rcases hd with rfl | rfl
  · exact (ro_int (n := 3) (show (n : Int).natAbs < 2 ^ 3 by omega) (by decide)).mono (by decide) (by decide)
  · exact a
end Fz.K82x
namespace Fz.K82x
open PySem Fz Fz.K82 Fz.Sh
theorem ne_self {d : D} {b k : Nat} (h : RO b k d) (hk : k ≤ 64) : cmp2 .ne d d = some false := by
  have e : PyData.eqv d d = true := eqv_refl d h.1
  have ok := h.okay hk
  cases d with
  | str s => show some (!decide (s = s)) = _; simp
  | none => rfl
  | bool b => cases b <;> rfl
  | int b => rw [q_neI]; simp
  | list b => change (if okD _ && okD _ then some (!PyData.eqv _ _) else none) = _; rw [ok, e]; rfl
  | tuple b => change (if okD _ && okD _ then some (!PyData.eqv _ _) else none) = _; rw [ok, e]; rfl
  | dict b => have hd := h.1; simp [PyData.canLay0] at hd
section
variable {c : Cl} (C : Cs c) {n : Nat} (hn : Nn n)
include C hn
/-- the planes: built by the law and told by the program -/
theorem line8 (a2 a4 a5 a7 a8 a9 a10 a11 a12 a13 a14 a15 a16 a17 a18 a19 : Option D) : ∃ b13 b14 b15, exS false c V8 (Y a2 (some (nd n)) a4 a5 (some (.list [])) a7 a8 a9 a10 a11 a12 a13 a14 a15 a16 a17 a18 a19) = ret (.next (Y a2 (some (nd n)) a4 a5 (some (.list (DU n))) a7 a8 a9 a10 a11 a12 b13 b14 b15 a16 a17 a18 a19)) := by
  have e : evE false c (.call 10 [.var 3]) (Y a2 (some (nd n)) a4 a5 (some (.list [])) a7 a8 a9 a10 a11 a12 a13 a14 a15 a16 a17 a18 a19) = ret (.list ((Prs n).map pD)) := by simp only [q_non, q_bl, q_int, q_str, q_var, q_op, q_not, q_and, q_or, q_ite, q_cmp, q_chain, q_tup, q_lst, q_idx, q_slc, q_rev, q_call, q_bi, q_meth, q_isi, q_lnil, q_lcons, q_lstar, q_o0, q_o1, q_t0, q_t1, q_snil, q_scons, q_thenN, q_thenR, q_asg, q_new, q_asNew, q_par, q_parN, q_app, q_ext, q_asExt, q_pop, q_set, q_aug, q_ret, q_if, q_pass, q_getD0, q_getD1, q_set0, q_set1, q_tgN, q_tgT, q_tgL, q_tg0, q_tg1, q_sv0, q_sv1, q_tb, q_ti, q_tl, q_tt, q_add, q_sub, q_lt, q_le, q_gt, q_ge, q_eqI, q_neI, q_lenL, q_lenT, q_tupL, q_tupT, q_lstL, q_lstT, q_seqL, q_seqT, q_revL, q_revT, q_intI, q_intB, q_size0, q_size1, q_size2, q_size3, q_size4, q_size5, q_size6, q_size7, q_size8, q_size9, q_news0, q_newsT, q_newsF, q_augA, q_augS, q_io0, q_io1, q_slcL, q_slcT, q_mapL0, q_mapL1, q_cons1, q_cons0, q_turn, q_dps, q_dpsL, q_idxD, q_sortT, q_sortL, q_isN, q_notN, q_nonN, q_nonI, q_nonT, q_nonL, q_nonB, q_nonS, q_neB, q_eqB, q_negI, q_absI, bnd_ret, lift_ok, Option.bind_some, Option.map_some, if_true, if_false, ↓reduceIte, Bool.false_eq_true, Bool.not_true, Bool.not_false, Option.bind_none, C.h10 n hn]
  rw [q_for, e, bnd_ret, q_seqL, lift_ok, bnd_ret]
  clear e
  rcases hn with rfl | rfl | rfl | rfl | rfl
  · exact ⟨a13, a14, a15, rfl⟩
  · exact ⟨some (nd 0), some (nd 1), some (.tuple [.int 1, .int (-1)]), eq_ret fun s => by kernel_rfl⟩
  · exact ⟨some (nd 1), some (nd 2), some (.tuple [.int 0, .int 1, .int (-1)]), eq_ret fun s => by kernel_rfl⟩
  · exact ⟨some (nd 2), some (nd 3), some (.tuple [.int 0, .int 0, .int 1, .int (-1)]), eq_ret fun s => by kernel_rfl⟩
  · exact ⟨some (nd 3), some (nd 4), some (.tuple [.int 0, .int 0, .int 0, .int 1, .int (-1)]), eq_ret fun s => by kernel_rfl⟩
theorem part2 (a2 a4 a5 a6 a7 a8 a9 a10 a11 a12 a13 a14 a15 a16 a17 a18 a19 : Option D) (s : Src) {Q : Rs → Src → Prop} (k : ∀ en s, (∃ b2 b3 b4 b5 b6 b7 b8 b9 b10 b11 b12 b13 b14 b15 b16 b17 b18 b19, en = Y b2 b3 b4 b5 b6 b7 b8 b9 b10 b11 b12 b13 b14 b15 b16 b17 b18 b19) → Q (.next en) s) :
    Wp (exL false c [V7, V8, V9, V10, V11, V12, V13, V14] (Y a2 (some (nd n)) a4 a5 a6 a7 a8 a9 a10 a11 a12 a13 a14 a15 a16 a17 a18 a19)) s Q := by
  have b5 := n5 hn
  refine wp_next (en2 := Y a2 (some (nd n)) a4 a5 (some (.list [])) a7 a8 a9 a10 a11 a12 a13 a14 a15 a16 a17 a18 a19) rfl ?_
  obtain ⟨b13, b14, b15, e8⟩ := line8 C hn a2 a4 a5 a7 a8 a9 a10 a11 a12 a13 a14 a15 a16 a17 a18 a19
  refine wp_next e8 ?_
  have bt : biV .tuple [.list (DU n)] = some (.tuple (DU n)) := rfl
  refine wp_skip (evE_ne_repr (d := .tuple [nd n, .tuple (DU n)]) (evL_1 rfl (by simp only [q_non, q_bl, q_int, q_str, q_var, q_op, q_not, q_and, q_or, q_ite, q_cmp, q_chain, q_tup, q_lst, q_idx, q_slc, q_rev, q_call, q_bi, q_meth, q_isi, q_lnil, q_lcons, q_lstar, q_o0, q_o1, q_t0, q_t1, q_snil, q_scons, q_thenN, q_thenR, q_asg, q_new, q_asNew, q_par, q_parN, q_app, q_ext, q_asExt, q_pop, q_set, q_aug, q_ret, q_if, q_pass, q_getD0, q_getD1, q_set0, q_set1, q_tgN, q_tgT, q_tgL, q_tg0, q_tg1, q_sv0, q_sv1, q_tb, q_ti, q_tl, q_tt, q_add, q_sub, q_lt, q_le, q_gt, q_ge, q_eqI, q_neI, q_lenL, q_lenT, q_tupL, q_tupT, q_lstL, q_lstT, q_seqL, q_seqT, q_revL, q_revT, q_intI, q_intB, q_size0, q_size1, q_size2, q_size3, q_size4, q_size5, q_size6, q_size7, q_size8, q_size9, q_news0, q_newsT, q_newsF, q_augA, q_augS, q_io0, q_io1, q_slcL, q_slcT, q_mapL0, q_mapL1, q_cons1, q_cons0, q_turn, q_dps, q_dpsL, q_idxD, q_sortT, q_sortL, q_isN, q_notN, q_nonN, q_nonI, q_nonT, q_nonL, q_nonB, q_nonS, q_neB, q_eqB, q_negI, q_absI, bnd_ret, lift_ok, Option.bind_some, Option.map_some, if_true, if_false, ↓reduceIte, Bool.false_eq_true, Bool.not_true, Bool.not_false, Option.bind_none, C.h1 n hn])) (evL_1 rfl (by simp only [q_non, q_bl, q_int, q_str, q_var, q_op, q_not, q_and, q_or, q_ite, q_cmp, q_chain, q_tup, q_lst, q_idx, q_slc, q_rev, q_call, q_bi, q_meth, q_isi, q_lnil, q_lcons, q_lstar, q_o0, q_o1, q_t0, q_t1, q_snil, q_scons, q_thenN, q_thenR, q_asg, q_new, q_asNew, q_par, q_parN, q_app, q_ext, q_asExt, q_pop, q_set, q_aug, q_ret, q_if, q_pass, q_getD0, q_getD1, q_set0, q_set1, q_tgN, q_tgT, q_tgL, q_tg0, q_tg1, q_sv0, q_sv1, q_tb, q_ti, q_tl, q_tt, q_add, q_sub, q_lt, q_le, q_gt, q_ge, q_eqI, q_neI, q_lenL, q_lenT, q_tupL, q_tupT, q_lstL, q_lstT, q_seqL, q_seqT, q_revL, q_revT, q_intI, q_intB, q_size0, q_size1, q_size2, q_size3, q_size4, q_size5, q_size6, q_size7, q_size8, q_size9, q_news0, q_newsT, q_newsF, q_augA, q_augS, q_io0, q_io1, q_slcL, q_slcT, q_mapL0, q_mapL1, q_cons1, q_cons0, q_turn, q_dps, q_dpsL, q_idxD, q_sortT, q_sortL, q_isN, q_notN, q_nonN, q_nonI, q_nonT, q_nonL, q_nonB, q_nonS, q_neB, q_eqB, q_negI, q_absI, bnd_ret, lift_ok, Option.bind_some, Option.map_some, if_true, if_false, ↓reduceIte, Bool.false_eq_true, Bool.not_true, Bool.not_false, Option.bind_none, bt])) (ro_du hn) (by decide) (by decide)) ?_
  have er : evE false c (.rng [.var 3]) (Y a2 (some (nd n)) a4 a5 (some (.list (DU n))) a7 a8 a9 a10 a11 a12 b13 b14 b15 a16 a17 a18 a19) = ret (.list ((List.range n).map nd)) := evE_rng rfl rfl (by omega)
  have el : evE false c (.bi .list [.rng [.var 3]]) (Y a2 (some (nd n)) a4 a5 (some (.list (DU n))) a7 a8 a9 a10 a11 a12 b13 b14 b15 a16 a17 a18 a19) = ret (.list ((List.range n).map nd)) := evE_bi1 rfl er rfl
  refine wp_cons (wp_name (wp_bi1 rfl (wp_call (ds := [srcD, .list ((List.range n).map nd)]) (evL_2 (x := srcD) rfl rfl el) (C.h8 (List.range n) s _ (by simp; omega) fun rw_ s2 hr => ⟨tD rw_, rfl, ?_⟩))))
  show Wp (exL false c [V11, V12, V13, V14] (Y a2 (some (nd n)) a4 a5 (some (.list (DU n))) (some (tD rw_)) a8 a9 a10 a11 a12 b13 b14 b15 a16 a17 a18 a19)) s2 Q
  refine wp_cons (wp_name (wp_call (ds := [srcD, tD rw_]) rfl (C.h14 n rw_ s2 _ hn hr fun g s3 A => ?_)))
  show Wp (exL false c [V12, V13, V14] (Y a2 (some (nd n)) a4 a5 (some (.list (DU n))) (some (tD rw_)) (some (.tuple (g.map pD))) a9 a10 a11 a12 b13 b14 b15 a16 a17 a18 a19)) s3 Q
  obtain ⟨y, T, e15⟩ := C.h15 n rw_ g hn hr A
  have P := pt_back T hr
  have r1 := row_back T hr
  have r2 := arcs_back T hr A.part A.ac A.up
  have gp : ∀ a ∈ g, a ∈ Prs n := fun a ha => by rw [A.part] at ha; exact (List.mem_filter.mp ha).1
  have gl : g.length ≤ 10 := by
    have h1 := prs_len hn
    have h2 : g.length = ((Prs n).filter fun a => g.contains a).length := congrArg List.length A.part
    have h3 := List.length_filter_le (fun a => g.contains a) (Prs n)
    omega
  have e7 := C.h7 n rw_ g hn hr (by omega)
  have rb := rb_sg P
  rw [r1, r2] at rb
  have e7 : c 7 [tD rw_, .tuple (g.map pD)] = ret (SGD n (back rw_ y) (4 ^ (n + 2))) := by rw [e7, rb]; rfl
  have e4 := C.h4 n (back rw_ y) (4 ^ (n + 2)) hn P
  have e6 := C.h6 n (back rw_ y) (4 ^ (n + 2)) hn P
  rw [r1] at e4
  rw [r2] at e6
  have e11 := C.h11 n (back rw_ y) (4 ^ (n + 2)) hn
  refine wp_next (en2 := Y a2 (some (nd n)) a4 a5 (some (.list (DU n))) (some (tD rw_)) (some (.tuple (g.map pD))) (some (SGD n (back rw_ y) (4 ^ (n + 2)))) a10 a11 a12 b13 b14 b15 a16 a17 a18 a19) (by simp only [q_non, q_bl, q_int, q_str, q_var, q_op, q_not, q_and, q_or, q_ite, q_cmp, q_chain, q_tup, q_lst, q_idx, q_slc, q_rev, q_call, q_bi, q_meth, q_isi, q_lnil, q_lcons, q_lstar, q_o0, q_o1, q_t0, q_t1, q_snil, q_scons, q_thenN, q_thenR, q_asg, q_new, q_asNew, q_par, q_parN, q_app, q_ext, q_asExt, q_pop, q_set, q_aug, q_ret, q_if, q_pass, q_getD0, q_getD1, q_set0, q_set1, q_tgN, q_tgT, q_tgL, q_tg0, q_tg1, q_sv0, q_sv1, q_tb, q_ti, q_tl, q_tt, q_add, q_sub, q_lt, q_le, q_gt, q_ge, q_eqI, q_neI, q_lenL, q_lenT, q_tupL, q_tupT, q_lstL, q_lstT, q_seqL, q_seqT, q_revL, q_revT, q_intI, q_intB, q_size0, q_size1, q_size2, q_size3, q_size4, q_size5, q_size6, q_size7, q_size8, q_size9, q_news0, q_newsT, q_newsF, q_augA, q_augS, q_io0, q_io1, q_slcL, q_slcT, q_mapL0, q_mapL1, q_cons1, q_cons0, q_turn, q_dps, q_dpsL, q_idxD, q_sortT, q_sortL, q_isN, q_notN, q_nonN, q_nonI, q_nonT, q_nonL, q_nonB, q_nonS, q_neB, q_eqB, q_negI, q_absI, bnd_ret, lift_ok, Option.bind_some, Option.map_some, if_true, if_false, ↓reduceIte, Bool.false_eq_true, Bool.not_true, Bool.not_false, Option.bind_none, e7]) ?_
  refine wp_skip (evE_ne_repr (d := SGD n (back rw_ y) (4 ^ (n + 2))) (evL_1 rfl rfl) (evL_1 rfl (by simp only [q_non, q_bl, q_int, q_str, q_var, q_op, q_not, q_and, q_or, q_ite, q_cmp, q_chain, q_tup, q_lst, q_idx, q_slc, q_rev, q_call, q_bi, q_meth, q_isi, q_lnil, q_lcons, q_lstar, q_o0, q_o1, q_t0, q_t1, q_snil, q_scons, q_thenN, q_thenR, q_asg, q_new, q_asNew, q_par, q_parN, q_app, q_ext, q_asExt, q_pop, q_set, q_aug, q_ret, q_if, q_pass, q_getD0, q_getD1, q_set0, q_set1, q_tgN, q_tgT, q_tgL, q_tg0, q_tg1, q_sv0, q_sv1, q_tb, q_ti, q_tl, q_tt, q_add, q_sub, q_lt, q_le, q_gt, q_ge, q_eqI, q_neI, q_lenL, q_lenT, q_tupL, q_tupT, q_lstL, q_lstT, q_seqL, q_seqT, q_revL, q_revT, q_intI, q_intB, q_size0, q_size1, q_size2, q_size3, q_size4, q_size5, q_size6, q_size7, q_size8, q_size9, q_news0, q_newsT, q_newsF, q_augA, q_augS, q_io0, q_io1, q_slcL, q_slcT, q_mapL0, q_mapL1, q_cons1, q_cons0, q_turn, q_dps, q_dpsL, q_idxD, q_sortT, q_sortL, q_isN, q_notN, q_nonN, q_nonI, q_nonT, q_nonL, q_nonB, q_nonS, q_neB, q_eqB, q_negI, q_absI, bnd_ret, lift_ok, Option.bind_some, Option.map_some, if_true, if_false, ↓reduceIte, Bool.false_eq_true, Bool.not_true, Bool.not_false, Option.bind_none, e15, e11])) (ro_sgd hn) (by decide) (by decide)) ?_
  have n1 := ne_self (ro_row hn (l := rw_) (fun i hi => List.mem_range.mp (hr.mem_iff.mp hi)) (by rw [hr.length_eq, List.length_range]; omega)) (by decide)
  have n2 := ne_self (ro_arcs hn gp gl) (by decide)
  refine wp_skip (by simp only [q_non, q_bl, q_int, q_str, q_var, q_op, q_not, q_and, q_or, q_ite, q_cmp, q_chain, q_tup, q_lst, q_idx, q_slc, q_rev, q_call, q_bi, q_meth, q_isi, q_lnil, q_lcons, q_lstar, q_o0, q_o1, q_t0, q_t1, q_snil, q_scons, q_thenN, q_thenR, q_asg, q_new, q_asNew, q_par, q_parN, q_app, q_ext, q_asExt, q_pop, q_set, q_aug, q_ret, q_if, q_pass, q_getD0, q_getD1, q_set0, q_set1, q_tgN, q_tgT, q_tgL, q_tg0, q_tg1, q_sv0, q_sv1, q_tb, q_ti, q_tl, q_tt, q_add, q_sub, q_lt, q_le, q_gt, q_ge, q_eqI, q_neI, q_lenL, q_lenT, q_tupL, q_tupT, q_lstL, q_lstT, q_seqL, q_seqT, q_revL, q_revT, q_intI, q_intB, q_size0, q_size1, q_size2, q_size3, q_size4, q_size5, q_size6, q_size7, q_size8, q_size9, q_news0, q_newsT, q_newsF, q_augA, q_augS, q_io0, q_io1, q_slcL, q_slcT, q_mapL0, q_mapL1, q_cons1, q_cons0, q_turn, q_dps, q_dpsL, q_idxD, q_sortT, q_sortL, q_isN, q_notN, q_nonN, q_nonI, q_nonT, q_nonL, q_nonB, q_nonS, q_neB, q_eqB, q_negI, q_absI, bnd_ret, lift_ok, Option.bind_some, Option.map_some, if_true, if_false, ↓reduceIte, Bool.false_eq_true, Bool.not_true, Bool.not_false, Option.bind_none, e4, e6, n1, n2]) ?_
  exact wp_nil (v := false) (c := c) (k _ s3 ⟨_, _, _, _, _, _, _, _, _, _, _, _, _, _, _, _, _, _, rfl⟩)
theorem part1 {x : Nat → Int} {far : Int} (hf : 5 ≤ far ∧ far ≤ 44) (P : Pt n x far) (hx : ∀ i, i < n → 0 ≤ x i ∧ x i ≤ 500) (a2 a4 a5 a6 a7 a8 a9 a12 a13 a14 a15 a16 a17 a18 a19 : Option D) (s : Src) {r : List S} {Q : Rs → Src → Prop}
    (k : ∀ a4 a5 a7 a12 a16 a17 a18, Wp (exL false c r (Y a2 (some (nd n)) a4 a5 a6 a7 a8 a9 (some (XL n x)) (some (.int far)) a12 a13 a14 a15 a16 a17 a18 a19)) s Q) :
    Wp (exL false c (V2 :: V3 :: V4 :: V5 :: V6 :: r) (Y a2 (some (nd n)) a4 a5 a6 a7 a8 a9 (some (XL n x)) (some (.int far)) a12 a13 a14 a15 a16 a17 a18 a19)) s Q := by
  have b5 := n5 hn
  refine wp_next (en2 := Y a2 (some (nd n)) a4 a5 a6 (some (tD (row n x))) a8 a9 (some (XL n x)) (some (.int far)) (some (SGD n x far)) a13 a14 a15 (some (.tuple ((GR (AR n x far)).map pD))) a17 a18 a19) (by simp only [q_non, q_bl, q_int, q_str, q_var, q_op, q_not, q_and, q_or, q_ite, q_cmp, q_chain, q_tup, q_lst, q_idx, q_slc, q_rev, q_call, q_bi, q_meth, q_isi, q_lnil, q_lcons, q_lstar, q_o0, q_o1, q_t0, q_t1, q_snil, q_scons, q_thenN, q_thenR, q_asg, q_new, q_asNew, q_par, q_parN, q_app, q_ext, q_asExt, q_pop, q_set, q_aug, q_ret, q_if, q_pass, q_getD0, q_getD1, q_set0, q_set1, q_tgN, q_tgT, q_tgL, q_tg0, q_tg1, q_sv0, q_sv1, q_tb, q_ti, q_tl, q_tt, q_add, q_sub, q_lt, q_le, q_gt, q_ge, q_eqI, q_neI, q_lenL, q_lenT, q_tupL, q_tupT, q_lstL, q_lstT, q_seqL, q_seqT, q_revL, q_revT, q_intI, q_intB, q_size0, q_size1, q_size2, q_size3, q_size4, q_size5, q_size6, q_size7, q_size8, q_size9, q_news0, q_newsT, q_newsF, q_augA, q_augS, q_io0, q_io1, q_slcL, q_slcT, q_mapL0, q_mapL1, q_cons1, q_cons0, q_turn, q_dps, q_dpsL, q_idxD, q_sortT, q_sortL, q_isN, q_notN, q_nonN, q_nonI, q_nonT, q_nonL, q_nonB, q_nonS, q_neB, q_eqB, q_negI, q_absI, bnd_ret, lift_ok, Option.bind_some, Option.map_some, if_true, if_false, ↓reduceIte, Bool.false_eq_true, Bool.not_true, Bool.not_false, Option.bind_none, C.h11 n x far hn, C.h13 n x far hn P]) ?_
  refine wp_next (en2 := Y a2 (some (nd n)) (some (.list [])) a5 a6 (some (tD (row n x))) a8 a9 (some (XL n x)) (some (.int far)) (some (SGD n x far)) a13 a14 a15 (some (.tuple ((GR (AR n x far)).map pD))) a17 a18 a19) rfl ?_
  obtain ⟨b5', b17, b18, e4⟩ := line4 (c := c) hn hf (x := x) a2 (some (nd n)) a5 a6 (some (tD (row n x))) a8 a9 (some (SGD n x far)) a13 a14 a15 (some (.tuple ((GR (AR n x far)).map pD))) a17 a18 a19
  refine wp_next e4 ?_
  have bt : biV .tuple [.list (FR n x far)] = some (.tuple (FR n x far)) := rfl
  refine wp_skip (evE_ne_repr (d := SGD n x far) (evL_1 rfl (by simp only [q_non, q_bl, q_int, q_str, q_var, q_op, q_not, q_and, q_or, q_ite, q_cmp, q_chain, q_tup, q_lst, q_idx, q_slc, q_rev, q_call, q_bi, q_meth, q_isi, q_lnil, q_lcons, q_lstar, q_o0, q_o1, q_t0, q_t1, q_snil, q_scons, q_thenN, q_thenR, q_asg, q_new, q_asNew, q_par, q_parN, q_app, q_ext, q_asExt, q_pop, q_set, q_aug, q_ret, q_if, q_pass, q_getD0, q_getD1, q_set0, q_set1, q_tgN, q_tgT, q_tgL, q_tg0, q_tg1, q_sv0, q_sv1, q_tb, q_ti, q_tl, q_tt, q_add, q_sub, q_lt, q_le, q_gt, q_ge, q_eqI, q_neI, q_lenL, q_lenT, q_tupL, q_tupT, q_lstL, q_lstT, q_seqL, q_seqT, q_revL, q_revT, q_intI, q_intB, q_size0, q_size1, q_size2, q_size3, q_size4, q_size5, q_size6, q_size7, q_size8, q_size9, q_news0, q_newsT, q_newsF, q_augA, q_augS, q_io0, q_io1, q_slcL, q_slcT, q_mapL0, q_mapL1, q_cons1, q_cons0, q_turn, q_dps, q_dpsL, q_idxD, q_sortT, q_sortL, q_isN, q_notN, q_nonN, q_nonI, q_nonT, q_nonL, q_nonB, q_nonS, q_neB, q_eqB, q_negI, q_absI, bnd_ret, lift_ok, Option.bind_some, Option.map_some, if_true, if_false, ↓reduceIte, Bool.false_eq_true, Bool.not_true, Bool.not_false, Option.bind_none, bt, C.h2 n x far hn hf hx])) (evL_1 rfl rfl) (ro_sgd hn) (by decide) (by decide)) ?_
  have rl : (row n x).length ≤ 10 := by rw [row_len P]; omega
  have sb := gr_sub (ar_sub n x far)
  have gl : (GR (AR n x far)).length ≤ 10 := Nat.le_trans sb.length_le (prs_len hn)
  have e7 := C.h7 n (row n x) (GR (AR n x far)) hn (row_perm P) (by omega)
  rw [rb_sg P] at e7
  have ro : RO 200000 3 (.list [tD (row n x), .tuple ((GR (AR n x far)).map pD), SGD n x far]) := by
    refine (ro_list (b := 20000) (k := 2) (n := 3) (fun d hd => ?_) (by simp)).mono (by decide) (Nat.le_refl _)
    simp only [List.mem_cons, List.not_mem_nil, or_false] at hd
    rcases hd with rfl | rfl | rfl
    · exact (ro_row hn (fun i hi => List.mem_range.mp ((row_perm P).mem_iff.mp hi)) rl).mono (by decide) (by decide)
    · exact ro_arcs hn (fun a ha => sb.subset ha) gl
    · exact (ro_sgd hn).mono (by decide) (by decide)
  have e7' : c 7 [tD (row n x), .tuple ((GR (AR n x far)).map pD)] = ret (SGD n x far) := e7
  refine wp_skip (evE_ne_repr (evL_1 rfl (by simp only [q_non, q_bl, q_int, q_str, q_var, q_op, q_not, q_and, q_or, q_ite, q_cmp, q_chain, q_tup, q_lst, q_idx, q_slc, q_rev, q_call, q_bi, q_meth, q_isi, q_lnil, q_lcons, q_lstar, q_o0, q_o1, q_t0, q_t1, q_snil, q_scons, q_thenN, q_thenR, q_asg, q_new, q_asNew, q_par, q_parN, q_app, q_ext, q_asExt, q_pop, q_set, q_aug, q_ret, q_if, q_pass, q_getD0, q_getD1, q_set0, q_set1, q_tgN, q_tgT, q_tgL, q_tg0, q_tg1, q_sv0, q_sv1, q_tb, q_ti, q_tl, q_tt, q_add, q_sub, q_lt, q_le, q_gt, q_ge, q_eqI, q_neI, q_lenL, q_lenT, q_tupL, q_tupT, q_lstL, q_lstT, q_seqL, q_seqT, q_revL, q_revT, q_intI, q_intB, q_size0, q_size1, q_size2, q_size3, q_size4, q_size5, q_size6, q_size7, q_size8, q_size9, q_news0, q_newsT, q_newsF, q_augA, q_augS, q_io0, q_io1, q_slcL, q_slcT, q_mapL0, q_mapL1, q_cons1, q_cons0, q_turn, q_dps, q_dpsL, q_idxD, q_sortT, q_sortL, q_isN, q_notN, q_nonN, q_nonI, q_nonT, q_nonL, q_nonB, q_nonS, q_neB, q_eqB, q_negI, q_absI, bnd_ret, lift_ok, Option.bind_some, Option.map_some, if_true, if_false, ↓reduceIte, Bool.false_eq_true, Bool.not_true, Bool.not_false, Option.bind_none, C.h4 n x far hn P, C.h6 n x far hn P, e7'])) (evL_1 rfl (by simp only [q_non, q_bl, q_int, q_str, q_var, q_op, q_not, q_and, q_or, q_ite, q_cmp, q_chain, q_tup, q_lst, q_idx, q_slc, q_rev, q_call, q_bi, q_meth, q_isi, q_lnil, q_lcons, q_lstar, q_o0, q_o1, q_t0, q_t1, q_snil, q_scons, q_thenN, q_thenR, q_asg, q_new, q_asNew, q_par, q_parN, q_app, q_ext, q_asExt, q_pop, q_set, q_aug, q_ret, q_if, q_pass, q_getD0, q_getD1, q_set0, q_set1, q_tgN, q_tgT, q_tgL, q_tg0, q_tg1, q_sv0, q_sv1, q_tb, q_ti, q_tl, q_tt, q_add, q_sub, q_lt, q_le, q_gt, q_ge, q_eqI, q_neI, q_lenL, q_lenT, q_tupL, q_tupT, q_lstL, q_lstT, q_seqL, q_seqT, q_revL, q_revT, q_intI, q_intB, q_size0, q_size1, q_size2, q_size3, q_size4, q_size5, q_size6, q_size7, q_size8, q_size9, q_news0, q_newsT, q_newsF, q_augA, q_augS, q_io0, q_io1, q_slcL, q_slcT, q_mapL0, q_mapL1, q_cons1, q_cons0, q_turn, q_dps, q_dpsL, q_idxD, q_sortT, q_sortL, q_isN, q_notN, q_nonN, q_nonI, q_nonT, q_nonL, q_nonB, q_nonS, q_neB, q_eqB, q_negI, q_absI, bnd_ret, lift_ok, Option.bind_some, Option.map_some, if_true, if_false, ↓reduceIte, Bool.false_eq_true, Bool.not_true, Bool.not_false, Option.bind_none])) ro (by decide) (by decide)) ?_
  exact k _ _ _ _ _ _ _
end
section
variable {c : Cl} (C : Cs c)
include C
def Shp (en : En) : Prop := ∃ b2 b3 b4 b5 b6 b7 b8 b9 b10 b11 b12 b13 b14 b15 b16 b17 b18 b19, en = Y b2 b3 b4 b5 b6 b7 b8 b9 b10 b11 b12 b13 b14 b15 b16 b17 b18 b19
theorem lap (a2 a3 a4 a5 a6 a7 a8 a9 a10 a11 a12 a13 a14 a15 a16 a17 a18 a19 : Option D) (s : Src) : Wp (exL false c bodyL (Y a2 a3 a4 a5 a6 a7 a8 a9 a10 a11 a12 a13 a14 a15 a16 a17 a18 a19)) s fun r _ => ∃ en2, r = .next en2 ∧ Shp en2 := by
  refine wp_cons (wp_name (wp_op (wp_eq (a := .int 1) rfl (wp_pickV (m := 5) (fun s => rfl) (fun s => rfl) (by decide) (by decide) fun x s1 h0 h1 => ⟨.int (1 + x), rfl, ?_⟩))))
  obtain ⟨m, rfl⟩ := Int.eq_ofNat_of_zero_le h0
  obtain ⟨n, en⟩ : ∃ n : Nat, n = 1 + m := ⟨_, rfl⟩
  have hn : Nn n := by unfold Nn; omega
  have e3 : (1 : Int) + (m : Nat) = (n : Int) := by omega
  show Wp (exL false c (V1 :: V2 :: V3 :: V4 :: V5 :: V6 :: [V7, V8, V9, V10, V11, V12, V13, V14]) (Y a2 (some (.int (1 + (m : Nat)))) a4 a5 a6 a7 a8 a9 a10 a11 a12 a13 a14 a15 a16 a17 a18 a19)) s1 _
  rw [e3]
  refine wp_cons (wp_asg (wp_call (ds := [srcD, nd n]) rfl (C.h12 n s1 _ hn fun x far s2 hf P hx => ⟨Y a2 (some (nd n)) a4 a5 a6 a7 a8 a9 (some (XL n x)) (some (.int far)) a12 a13 a14 a15 a16 a17 a18 a19, rfl, ?_⟩)))
  refine part1 C hn hf P hx a2 a4 a5 a6 a7 a8 a9 a12 a13 a14 a15 a16 a17 a18 a19 s2 fun a4 a5 a7 a12 a16 a17 a18 => ?_
  exact part2 C hn a2 a4 a5 a6 a7 a8 a9 (some (XL n x)) (some (.int far)) a12 a13 a14 a15 a16 a17 a18 a19 s2 fun en s h => ⟨en, rfl, h⟩
theorem whole (s : Src) : Wp (exL false c rest (Y none none none none none none none none none none none none none none none none none none)) s fun r _ => r = .ret (.bool true) := by
  rw [rest_eq]
  refine wp_cons (wp_for (xs := (List.range 6).map nd) (fun _ en => Shp en) (wp_pure (a := .list ((List.range 6).map nd)) (fun s => by kernel_rfl) ⟨rfl, _, _, _, _, _, _, _, _, _, _, _, _, _, _, _, _, _, _, rfl⟩) ?_ ?_)
  · rintro i x en s hx ⟨b2, b3, b4, b5, b6, b7, b8, b9, b10, b11, b12, b13, b14, b15, b16, b17, b18, b19, rfl⟩
    exact ⟨_, rfl, lap C (some x) b3 b4 b5 b6 b7 b8 b9 b10 b11 b12 b13 b14 b15 b16 b17 b18 b19 s⟩
  · rintro en s _
    exact wp_cons (wp_retE (wp_eq (C.hE en) (show After _ _ (Rs.ret (.bool true)) s from rfl)))
end
end Fz.K82x
namespace Fz.K82x
open PySem Fz Fz.K82 Fz.Sh
abbrev cN (k : Nat) : Cl := callN false P k
theorem c0 (k : Nat) {n : Nat} (hn : Nn n) : cN (k + 1) 0 [nd n] = ret (.list ((Prs n).map pD)) := by rcases hn with rfl | rfl | rfl | rfl | rfl <;> exact eq_ret fun s => by kernel_rfl
theorem c10 (k : Nat) {n : Nat} (hn : Nn n) : cN (k + 1) 10 [nd n] = ret (.list ((Prs n).map pD)) := by rcases hn with rfl | rfl | rfl | rfl | rfl <;> exact eq_ret fun s => by kernel_rfl
theorem c1 (k : Nat) {n : Nat} (hn : Nn n) : cN (k + 2) 1 [nd n] = ret (.tuple [nd n, .tuple (DU n)]) := by rcases hn with rfl | rfl | rfl | rfl | rfl <;> exact eq_ret fun s => by kernel_rfl
theorem c3 (k : Nat) {n : Nat} (hn : Nn n) (x : Nat → Int) (far : Int) : cN (k + 2) 3 [nd n, SGD n x far] = ret (KN n x far) := by rcases hn with rfl | rfl | rfl | rfl | rfl <;> exact eq_ret fun s => by kernel_rfl
theorem c9 (k : Nat) {n : Nat} (hn : Nn n) : cN (k + 1) 9 [.int 4, .int ((n : Int) + 2)] = ret (.int (4 ^ (n + 2))) := by rcases hn with rfl | rfl | rfl | rfl | rfl <;> exact eq_ret fun s => by kernel_rfl
theorem c5 (k : Nat) {n : Nat} (hn : Nn n) (l : List (Nat × Nat)) (h : l.Sublist (Prs n)) : cN (k + 1) 5 [.list (l.map pD)] = ret (.tuple ((GR l).map pD)) := callN_eq (fn := ⟨1, 6, b5⟩) rfl rfl (run5 hn h)
theorem c4 (k : Nat) {n : Nat} (hn : Nn n) {x : Nat → Int} {far : Int} (Pp : Pt n x far) : cN (k + 3) 4 [nd n, SGD n x far] = ret (tD (row n x)) := callN_eq (fn := ⟨2, 8, b4⟩) rfl rfl (run4 hn Pp (c3 k hn x far))
theorem c6 (k : Nat) {n : Nat} (hn : Nn n) {x : Nat → Int} {far : Int} (Pp : Pt n x far) : cN (k + 4) 6 [nd n, SGD n x far] = ret (.tuple ((GR (AR n x far)).map pD)) := callN_eq (fn := ⟨2, 7, b6⟩) rfl rfl (run6 hn Pp (c0 (k + 2) hn) (c3 (k + 1) hn x far) (c4 k hn Pp) (c5 (k + 2) hn))
theorem c7 (k : Nat) {n : Nat} (hn : Nn n) {rw_ : List Nat} (hr : rw_.Perm (List.range n)) {g : List (Nat × Nat)} (hg : g.length ≤ 100) : cN (k + 2) 7 [tD rw_, .tuple (g.map pD)] = ret (.tuple ((RB n rw_ g).map .int)) := callN_eq (fn := ⟨2, 9, b7⟩) rfl rfl (run7 hn hr hg (c0 k hn))
theorem run8 {α : Type} {g : α → D} {us : List α} (hm : us.length ≤ 1000) {c : Cl} {s : Src} {Q : Rs → Src → Prop} (q : ∀ (rs : List α) (s : Src), rs.Perm us → Q (.ret (.list (rs.map g))) s) : Wp (exL false c b8 [some srcD, some (.list (us.map g)), none, none]) s Q := by
  refine wp_cons (wp_new (wp_eq (a := .list (us.map g)) rfl ⟨_, rfl, ?_⟩))
  exact wp_cons (wp_mix (en := [some srcD, some (.list (us.map g)), some (.list (us.map g)), none]) (us := us) (g := g) rfl rfl (by omega) q)
theorem cs (k : Nat) : Cs (cN (k + 4)) where
  h10 := fun n hn => c10 (k + 3) hn
  h1 := fun n hn => c1 (k + 2) hn
  h12 := fun n s Q hn q => wp_callN (fn := ⟨2, 7, b12⟩) rfl rfl (run12 hn q)
  h11 := fun n x far hn => callN_eq (fn := ⟨1, 7, b11⟩) rfl rfl (run11 hn (c10 (k + 2) hn))
  h13 := fun n x far hn Pp => callN_eq (fn := ⟨2, 10, b13⟩) rfl rfl (run13 hn Pp (c10 (k + 2) hn))
  h2 := fun n x far hn hf hx => callN_eq (fn := ⟨1, 9, b2⟩) rfl rfl (run2 hn hf hx (c0 (k + 2) hn))
  h4 := fun n x far hn Pp => c4 (k + 1) hn Pp
  h6 := fun n x far hn Pp => c6 k hn Pp
  h7 := fun n rw_ g hn hr hg => c7 (k + 2) hn hr hg
  h8 := fun us s Q hu q => wp_callN (fn := ⟨2, 4, b8⟩) rfl rfl (run8 (by omega) q)
  h14 := fun n rw_ s Q hn hr q => wp_callN (fn := ⟨2, 7, b14⟩) rfl rfl (run14 hn hr (c10 (k + 2) hn) (fun us s Q hu q => wp_callN (fn := ⟨2, 4, b8⟩) rfl rfl (run8 (by omega) q)) q)
  h15 := fun n rw_ g hn hr A => by
    obtain ⟨y, T, e⟩ := run15 (c := cN (k + 3)) hn hr A (c9 (k + 2) hn)
    exact ⟨y, T, callN_eq (fn := ⟨2, 13, b15⟩) rfl rfl e⟩
  hE := fun en => eq_ret fun s => by kernel_rfl
end Fz.K82x
namespace Fz.K82
open PySem Fz
theorem says : Says false (callN false P depth) rest 18 := by
  intro s
  obtain ⟨r, s', e, e2⟩ := Fz.K82x.whole (Fz.K82x.cs 8) s
  subst e2
  exact ⟨s', e⟩
end Fz.K82
namespace Fz.K82
open PySem PySem.Spec PyProof.Rows L2 Fz
abbrev top (i : Nat) : Stmt := PySem.Challenge.pw_signedplanes_k82_whole_regions_by_great.main.body.getD i (.Pass ⟨0, 0, 0, 0⟩)
def L : Lk := ⟨["pairs_below", "shi_planes", "shi_signs", "signs_by_pair", "region_list", "without_inner", "great_arcs", "region_by", "_law_any_order", "_law_power", "_law_pairs", "_law_signs", "_law_point", "_law_great", "_law_arcs", "_law_put"], "_law_pick"⟩
abbrev FnP (K : PySem.W.Frag) (x : Str) (st : Stmt) (f : Addr) (fd : FuncData) : Prop := L2.FunD K x x (defArgs st) (defBody st) (defScope st) [] [] f fd
theorem m0 : mDef 60 L ⟨1, 4, b0⟩ ["n", "found", "i", "j"] ["n"] (defScope (top 1)) (defBody (top 1)) = true := by kernel_rfl
theorem m1 : mDef 60 L ⟨1, 6, b1⟩ ["n", "rows", "i", "j", "row", "k"] ["n"] (defScope (top 2)) (defBody (top 2)) = true := by kernel_rfl
theorem m2 : mDef 60 L ⟨1, 9, b2⟩ ["x", "found", "i", "j", "above", "p", "q", "r", "s"] ["x"] (defScope (top 3)) (defBody (top 3)) = true := by kernel_rfl
theorem m3 : mDef 60 L ⟨2, 4, b3⟩ ["n", "signs", "k", "pair"] ["n", "signs"] (defScope (top 4)) (defBody (top 4)) = true := by kernel_rfl
theorem m4 : mDef 60 L ⟨2, 8, b4⟩ ["n", "signs", "known", "found", "i", "ahead", "j", "many"] ["n", "signs"] (defScope (top 5)) (defBody (top 5)) = true := by kernel_rfl
theorem m5 : mDef 60 L ⟨1, 6, b5⟩ ["arcs", "found", "p", "q", "r", "s"] ["arcs"] (defScope (top 6)) (defBody (top 6)) = true := by kernel_rfl
theorem m6 : mDef 60 L ⟨2, 7, b6⟩ ["n", "signs", "known", "row", "some", "p", "q"] ["n", "signs"] (defScope (top 7)) (defBody (top 7)) = true := by kernel_rfl
theorem m7 : mDef 60 L ⟨2, 9, b7⟩ ["row", "arcs", "place", "found", "p", "i", "j", "is_near", "q"] ["row", "arcs"] (defScope (top 8)) (defBody (top 8)) = true := by kernel_rfl
theorem m8 : mDef 60 L ⟨2, 4, b8⟩ ["source", "things", "others", "lap"] ["source", "things"] (defScope (top 12)) (defBody (top 12)) = true := by kernel_rfl
theorem m9 : mDef 60 L ⟨2, 4, b9⟩ ["number", "n", "found", "lap"] ["number", "n"] (defScope (top 13)) (defBody (top 13)) = true := by kernel_rfl
theorem m10 : mDef 60 L ⟨1, 4, b10⟩ ["n", "found", "i", "j"] ["n"] (defScope (top 14)) (defBody (top 14)) = true := by kernel_rfl
theorem m11 : mDef 60 L ⟨1, 7, b11⟩ ["x", "numbers", "far", "found", "i", "j", "apart"] ["x"] (defScope (top 15)) (defBody (top 15)) = true := by kernel_rfl
theorem m12 : mDef 60 L ⟨2, 7, b12⟩ ["source", "n", "far", "numbers", "i", "number", "late"] ["source", "n"] (defScope (top 16)) (defBody (top 16)) = true := by kernel_rfl
theorem m13 : mDef 60 L ⟨2, 10, b13⟩ ["numbers", "far", "row", "number", "i", "arcs", "p", "q", "great", "late"] ["numbers", "far"] (defScope (top 17)) (defBody (top 17)) = true := by kernel_rfl
theorem m14 : mDef 60 L ⟨2, 7, b14⟩ ["source", "row", "some", "p", "q", "wrong", "late"] ["source", "row"] (defScope (top 18)) (defBody (top 18)) = true := by kernel_rfl
theorem m15 : mDef 60 L ⟨2, 13, b15⟩ ["row", "arcs", "far", "places", "q", "p", "top", "over", "under", "near", "arc", "numbers", "i"] ["row", "arcs"] (defScope (top 19)) (defBody (top 19)) = true := by kernel_rfl
theorem mLawIs : mLaw 60 L "_law_open_cells" rest ["script", "source", "turn", "n", "x", "number", "due", "row", "arcs", "told", "numbers", "far", "signs", "i", "j", "late", "great", "a", "b", "k"] 18 (defScope (top 20)) (defBody (top 20)) = true := by kernel_rfl
section
variable {Pg : Program} {w : World} {K : PySem.W.Frag} {mg : Str → Option Value} {base : Heap} {f : Addr} {fd : FuncData}
theorem scPick : FnScope ["source", "most", "cells", "others", "lap", "stirred"] ["source", "most"] (defScope (top 11)) := scB_ok (by kernel_rfl)
theorem scSrc : FnScope ["script", "stirred", "cell", "cells"] ["script"] (defScope (top 10)) := scB_ok (by kernel_rfl)
theorem ok_pick (F : FnP K "_law_pick" (top 11) f fd) (gI : mg "int" = none) (gN : mg "len" = none) : FnG Pg w K mg base 1 f fd ["source", "most"] (spPick false) := by
  refine funD_okG F scPick (fun vs H Q ⟨_, _, _, _, e, _⟩ => by rw [e]; rfl) fun cdv A outer s H vs Q hr hgu h => ⟨tPick0 K, ?_, ?_⟩
  · have hu := hu_of hr
    have e0 := scPick.nd
    exact (pss_cons (ps_if (pt_cmpR op_lt (pv 1) pe_int (nomark _)) (pss_one (ps_ret pe_int)) pss_nil)
      (pss_cons (ps_set (i := 2) e0 rfl (Or.inl rfl) (pe_dget hu (pv 0) pe_str (fun _ _ => rfl)))
      (pss_cons (ps_while PassesOwn.never (PW.pt (pw_and (pt_cmpR op_lt (pe_dget hu (pv 0) pe_str (fun _ _ => rfl)) pe_int (nomark _)) (pw_and1 (pt_cmpR op_gt (pe_callB call_len rfl gN boot_len (pa_cons (pv 2) pa_nil)) pe_int (nomark _))))) (pss_one (ps_dput hu (pv 0) pe_str (pe_bm0 PySem.F.plainAttrs_list PySem.F.slot_list_pop PySem.F.type_list_pop mt_pop (pv 2)) rfl)))
      (pss_cons (ps_set (i := 3) e0 rfl (Or.inl rfl) (pe_dget hu (pv 0) pe_str (fun _ _ => rfl)))
      (pss_cons (ps_if (pt_cmpR op_gt (pv 3) pe_int (nomark _)) (pss_cons (ps_dput hu (pv 0) pe_str (pe_op op_fdiv (pv 3) (pv 1)) rfl)
      (pss_one (ps_ret (pe_op op_mod (pe_callTy call_int1 rfl gI (by decide +kernel) (pa_cons (pv 3) pa_nil)) (pv 1))))) pss_nil)
      (pss_cons (ps_dput hu (pv 0) pe_str (pe_op op_add (pe_dget hu (pv 0) pe_str (fun _ _ => rfl)) pe_int) rfl)
      (pss_cons (ps_set (i := 4) e0 rfl (Or.inl rfl) (pe_dget hu (pv 0) pe_str (fun _ _ => rfl)))
      (pss_cons (ps_set (i := 5) e0 rfl (Or.inl rfl) (pe_op op_mod (pe_callTy call_int1 rfl gI (by decide +kernel) (pa_cons (pe_op op_add (pe_dget hu (pv 0) pe_str (fun _ _ => rfl)) (pe_op op_mul (pv 4) pe_int)) pa_nil)) pe_int))
      (pss_cons (ps_set (i := 5) e0 rfl (Or.inl rfl) (pe_op op_mod (pe_callTy call_int1 rfl gI (by decide +kernel) (pa_cons (pe_op op_add (pe_op op_mul (pv 5) (pv 5)) (pe_op op_mul (pv 4) pe_int)) pa_nil)) pe_int))
      (pss_one (ps_ret (pe_op op_mod (pe_callTy call_int1 rfl gI (by decide +kernel) (pa_cons (pe_op op_fdiv (pv 5) pe_int) pa_nil)) (pv 1)))))))))))))
  · obtain ⟨sp, cc, sr, m, e, q⟩ := h
    cases e
    exact pick0_reads (D := ⟨fun _ H' => Q .non H', Q, fun _ _ => False, fun _ _ => False⟩) ⟨sp, cc, sr, m, rfl, q⟩
theorem ok_src (F : FnP K "_law_open_cells" (top 10) f fd) (gI : mg "int" = none) (gA : mg "abs" = none) : FnG Pg w K mg base 1 f fd ["script"] (spSrc K) := by
  refine funD_okG F scSrc (fun vs H Q ⟨_, _, e, _⟩ => by rw [e]; rfl) fun cdv A outer s H vs Q hr hgu h => ⟨tSrcA K, ?_, ?_⟩
  · have hu := hu_of hr
    have e0 := scSrc.nd
    exact (pss_cons (ps_set (i := 1) e0 rfl (Or.inl rfl) pe_int)
      (pss_cons (ps_for PassesOwn.never rfl (pi_list (pv 0)) (pg_name e0 (i := 2) rfl (Or.inl rfl) (Or.inl rfl)) (pss_one (ps_set (i := 1) e0 rfl (Or.inl rfl) (pe_op op_mod (pe_callTy call_int1 rfl gI (by decide +kernel) (pa_cons (pe_op op_add (pe_op op_add (pe_op op_mul (pv 1) pe_int) (pe_op op_mul (pv 2) pe_int)) pe_int) pa_nil)) pe_int))))
      (pss_cons (ps_setLc (i := 3) rfl e0 rfl rfl (sw_true rfl rfl rfl rfl) (pi_list (pv 0)) (blkOk_by (own := [("cell", 2)]) (by kernel_rfl)) (fun _ _ _ _ _ => pg_name e0 (i := 2) rfl (Or.inl rfl) (Or.inr rfl)) (fun _ _ _ _ _ => pts_nil) (fun _ _ _ _ _ => pe_callB call_abs rfl gA (by decide +kernel) (pa_cons (pv 2) pa_nil)) (fun _ => rfl))
      (pss_one (ps_ret (pe_disp (pps_cons pe_str (pe_revL (pv 3)) (pps_cons pe_str pe_int (pps_cons pe_str (pv 1) (pps_cons pe_str pe_int pps_nil)))) rfl rfl (by decide) (by decide)))))))
  · obtain ⟨a, ns, e, q⟩ := h
    cases e
    exact srcA_reads (D := ⟨fun _ H' => Q .non H', Q, fun _ _ => False, fun _ _ => False⟩) ⟨a, ns, rfl, q⟩
end
def dd (x : Str) (st : Stmt) : He.DefD := ⟨(x, none), x, x, defArgs st, defBody st, defScope st, [], []⟩
def fn : List He.DefD := [dd "pairs_below" (top 1), dd "shi_planes" (top 2), dd "shi_signs" (top 3), dd "signs_by_pair" (top 4), dd "region_list" (top 5), dd "without_inner" (top 6), dd "great_arcs" (top 7), dd "region_by" (top 8), dd "_law_any_order" (top 12), dd "_law_power" (top 13), dd "_law_pairs" (top 14), dd "_law_signs" (top 15), dd "_law_point" (top 16), dd "_law_great" (top 17), dd "_law_arcs" (top 18), dd "_law_put" (top 19), dd "_law_pick" (top 11), dd "_law_open_cells" (top 10), dd "law" (top 20)]
def fa : List He.Fa := [.glo "pairs_below", .glo "shi_planes", .glo "shi_signs", .glo "signs_by_pair", .glo "region_list", .glo "without_inner", .glo "great_arcs", .glo "region_by", .glo "_law_any_order", .glo "_law_power", .glo "_law_pairs", .glo "_law_signs", .glo "_law_point", .glo "_law_great", .glo "_law_arcs", .glo "_law_put", .glo "_law_pick", .glo "_law_open_cells", .glo "law", .free "len", .free "abs", .free "tuple", .free "list", .free "int", .free "bool", .free "sum", .free "any", .free "all", .free "max", .free "min", .free "repr", .free "sorted", .free "range", .free "enumerate", .free "zip", .free "isinstance", .free "str", .free "dict", .free "set", .free "type"]
abbrev R : PySem.W.OpenRow := PySem.W.OpenLaw.row PySem.Challenge.rw_signedplanes_k82_whole_regions_by_great
abbrev hk : PySem.W.Hook := He.hookD 4 fa fn
def ob (s : PySem.W.SharedT) : He.AlD := He.obsDG 4 fa fn (HandSHeadRun.getT s)
theorem ob_eq (s : PySem.W.SharedT) : ob s = hk.obs s.abs := He.obsDG_eq (HandSHeadRun.getT_eq s)
theorem run (w : World) : HandSHeadRun.RunEq R (PySem.W.view R.prog [20]) hk ob 4000 ["pairs_below", "shi_planes", "shi_signs", "signs_by_pair", "region_list", "without_inner", "great_arcs", "region_by", "_law_open_cells", "_law_pick", "_law_any_order", "_law_power", "_law_pairs", "_law_signs", "_law_point", "_law_great", "_law_arcs", "_law_put"] w := by
  intro os
  kernel_rfl
theorem facts {Pg : Program} {w : World} {K : PySem.W.Frag} {h : Heap} {mg : Str → Option Value} {f : Addr} (X : K.In h) (G : h.Ns mainGlobals mg) (hfa : mg ("law" : Str) = some (.ref f)) (c : He.SaysD fa fn K) (says : Says false (callN false P depth) rest 18) :
    ∃ fd : FuncData, (∀ (s : Shared) (v : Value), BindsTo s fd ⟨[v], []⟩ [("script", v)]) ∧ ∀ base : Heap, K.In base → base.Ns mainGlobals mg → FnG Pg w K mg base (depth + 3) f fd ["script"] (spLaw K) := by
  obtain ⟨fd0, F0⟩ := c.def_ 0 (d := dd "pairs_below" (top 1)) rfl
  have g0 := He.glo_ok X G (c.fact 0 (f := .glo "pairs_below") rfl)
  have b0_ : Binds K fd0 ["n"] [] := L2.FunD.bindsN F0 fun _ _ _ _ _ _ us hl => match us, hl with | [_], _ => rfl
  obtain ⟨fd1, F1⟩ := c.def_ 1 (d := dd "shi_planes" (top 2)) rfl
  have g1 := He.glo_ok X G (c.fact 1 (f := .glo "shi_planes") rfl)
  have b1_ : Binds K fd1 ["n"] [] := L2.FunD.bindsN F1 fun _ _ _ _ _ _ us hl => match us, hl with | [_], _ => rfl
  obtain ⟨fd2, F2⟩ := c.def_ 2 (d := dd "shi_signs" (top 3)) rfl
  have g2 := He.glo_ok X G (c.fact 2 (f := .glo "shi_signs") rfl)
  have b2_ : Binds K fd2 ["x"] [] := L2.FunD.bindsN F2 fun _ _ _ _ _ _ us hl => match us, hl with | [_], _ => rfl
  obtain ⟨fd3, F3⟩ := c.def_ 3 (d := dd "signs_by_pair" (top 4)) rfl
  have g3 := He.glo_ok X G (c.fact 3 (f := .glo "signs_by_pair") rfl)
  have b3_ : Binds K fd3 ["n", "signs"] [] := L2.FunD.bindsN F3 fun _ _ _ _ _ _ us hl => match us, hl with | [_, _], _ => rfl
  obtain ⟨fd4, F4⟩ := c.def_ 4 (d := dd "region_list" (top 5)) rfl
  have g4 := He.glo_ok X G (c.fact 4 (f := .glo "region_list") rfl)
  have b4_ : Binds K fd4 ["n", "signs"] [] := L2.FunD.bindsN F4 fun _ _ _ _ _ _ us hl => match us, hl with | [_, _], _ => rfl
  obtain ⟨fd5, F5⟩ := c.def_ 5 (d := dd "without_inner" (top 6)) rfl
  have g5 := He.glo_ok X G (c.fact 5 (f := .glo "without_inner") rfl)
  have b5_ : Binds K fd5 ["arcs"] [] := L2.FunD.bindsN F5 fun _ _ _ _ _ _ us hl => match us, hl with | [_], _ => rfl
  obtain ⟨fd6, F6⟩ := c.def_ 6 (d := dd "great_arcs" (top 7)) rfl
  have g6 := He.glo_ok X G (c.fact 6 (f := .glo "great_arcs") rfl)
  have b6_ : Binds K fd6 ["n", "signs"] [] := L2.FunD.bindsN F6 fun _ _ _ _ _ _ us hl => match us, hl with | [_, _], _ => rfl
  obtain ⟨fd7, F7⟩ := c.def_ 7 (d := dd "region_by" (top 8)) rfl
  have g7 := He.glo_ok X G (c.fact 7 (f := .glo "region_by") rfl)
  have b7_ : Binds K fd7 ["row", "arcs"] [] := L2.FunD.bindsN F7 fun _ _ _ _ _ _ us hl => match us, hl with | [_, _], _ => rfl
  obtain ⟨fd8, F8⟩ := c.def_ 8 (d := dd "_law_any_order" (top 12)) rfl
  have g8 := He.glo_ok X G (c.fact 8 (f := .glo "_law_any_order") rfl)
  have b8_ : Binds K fd8 ["source", "things"] [] := L2.FunD.bindsN F8 fun _ _ _ _ _ _ us hl => match us, hl with | [_, _], _ => rfl
  obtain ⟨fd9, F9⟩ := c.def_ 9 (d := dd "_law_power" (top 13)) rfl
  have g9 := He.glo_ok X G (c.fact 9 (f := .glo "_law_power") rfl)
  have b9_ : Binds K fd9 ["number", "n"] [] := L2.FunD.bindsN F9 fun _ _ _ _ _ _ us hl => match us, hl with | [_, _], _ => rfl
  obtain ⟨fd10, F10⟩ := c.def_ 10 (d := dd "_law_pairs" (top 14)) rfl
  have g10 := He.glo_ok X G (c.fact 10 (f := .glo "_law_pairs") rfl)
  have b10_ : Binds K fd10 ["n"] [] := L2.FunD.bindsN F10 fun _ _ _ _ _ _ us hl => match us, hl with | [_], _ => rfl
  obtain ⟨fd11, F11⟩ := c.def_ 11 (d := dd "_law_signs" (top 15)) rfl
  have g11 := He.glo_ok X G (c.fact 11 (f := .glo "_law_signs") rfl)
  have b11_ : Binds K fd11 ["x"] [] := L2.FunD.bindsN F11 fun _ _ _ _ _ _ us hl => match us, hl with | [_], _ => rfl
  obtain ⟨fd12, F12⟩ := c.def_ 12 (d := dd "_law_point" (top 16)) rfl
  have g12 := He.glo_ok X G (c.fact 12 (f := .glo "_law_point") rfl)
  have b12_ : Binds K fd12 ["source", "n"] [] := L2.FunD.bindsN F12 fun _ _ _ _ _ _ us hl => match us, hl with | [_, _], _ => rfl
  obtain ⟨fd13, F13⟩ := c.def_ 13 (d := dd "_law_great" (top 17)) rfl
  have g13 := He.glo_ok X G (c.fact 13 (f := .glo "_law_great") rfl)
  have b13_ : Binds K fd13 ["numbers", "far"] [] := L2.FunD.bindsN F13 fun _ _ _ _ _ _ us hl => match us, hl with | [_, _], _ => rfl
  obtain ⟨fd14, F14⟩ := c.def_ 14 (d := dd "_law_arcs" (top 18)) rfl
  have g14 := He.glo_ok X G (c.fact 14 (f := .glo "_law_arcs") rfl)
  have b14_ : Binds K fd14 ["source", "row"] [] := L2.FunD.bindsN F14 fun _ _ _ _ _ _ us hl => match us, hl with | [_, _], _ => rfl
  obtain ⟨fd15, F15⟩ := c.def_ 15 (d := dd "_law_put" (top 19)) rfl
  have g15 := He.glo_ok X G (c.fact 15 (f := .glo "_law_put") rfl)
  have b15_ : Binds K fd15 ["row", "arcs"] [] := L2.FunD.bindsN F15 fun _ _ _ _ _ _ us hl => match us, hl with | [_, _], _ => rfl
  obtain ⟨fd16, F16⟩ := c.def_ 16 (d := dd "_law_pick" (top 11)) rfl
  have g16 := He.glo_ok X G (c.fact 16 (f := .glo "_law_pick") rfl)
  have b16_ : Binds K fd16 ["source", "most"] [] := L2.FunD.bindsN F16 fun _ _ _ _ _ _ us hl => match us, hl with | [_, _], _ => rfl
  obtain ⟨fd17, F17⟩ := c.def_ 17 (d := dd "_law_open_cells" (top 10)) rfl
  have g17 := He.glo_ok X G (c.fact 17 (f := .glo "_law_open_cells") rfl)
  have b17_ : Binds K fd17 ["script"] [] := L2.FunD.bindsN F17 fun _ _ _ _ _ _ us hl => match us, hl with | [_], _ => rfl
  obtain ⟨fd18, F18⟩ := c.def_ 18 (d := dd "law" (top 20)) rfl
  have g18 := He.glo_ok X G (c.fact 18 (f := .glo "law") rfl)
  have h0 := He.free_ok X G (c.fact 19 (f := .free "len") rfl)
  have h1 := He.free_ok X G (c.fact 20 (f := .free "abs") rfl)
  have h2 := He.free_ok X G (c.fact 21 (f := .free "tuple") rfl)
  have h3 := He.free_ok X G (c.fact 22 (f := .free "list") rfl)
  have h4 := He.free_ok X G (c.fact 23 (f := .free "int") rfl)
  have h5 := He.free_ok X G (c.fact 24 (f := .free "bool") rfl)
  have h6 := He.free_ok X G (c.fact 25 (f := .free "sum") rfl)
  have h7 := He.free_ok X G (c.fact 26 (f := .free "any") rfl)
  have h8 := He.free_ok X G (c.fact 27 (f := .free "all") rfl)
  have h9 := He.free_ok X G (c.fact 28 (f := .free "max") rfl)
  have h10 := He.free_ok X G (c.fact 29 (f := .free "min") rfl)
  have h11 := He.free_ok X G (c.fact 30 (f := .free "repr") rfl)
  have h12 := He.free_ok X G (c.fact 31 (f := .free "sorted") rfl)
  have h13 := He.free_ok X G (c.fact 32 (f := .free "range") rfl)
  have h14 := He.free_ok X G (c.fact 33 (f := .free "enumerate") rfl)
  have h15 := He.free_ok X G (c.fact 34 (f := .free "zip") rfl)
  have h16 := He.free_ok X G (c.fact 35 (f := .free "isinstance") rfl)
  have h17 := He.free_ok X G (c.fact 36 (f := .free "str") rfl)
  have h18 := He.free_ok X G (c.fact 37 (f := .free "dict") rfl)
  have h19 := He.free_ok X G (c.fact 38 (f := .free "set") rfl)
  have h20 := He.free_ok X G (c.fact 39 (f := .free "type") rfl)
  have fx : ∀ x ∈ frees, mg x = none := by
    intro x hx
    rcases List.mem_cons.mp hx with rfl | hx
    · exact h0
    rcases List.mem_cons.mp hx with rfl | hx
    · exact h1
    rcases List.mem_cons.mp hx with rfl | hx
    · exact h2
    rcases List.mem_cons.mp hx with rfl | hx
    · exact h3
    rcases List.mem_cons.mp hx with rfl | hx
    · exact h4
    rcases List.mem_cons.mp hx with rfl | hx
    · exact h5
    rcases List.mem_cons.mp hx with rfl | hx
    · exact h6
    rcases List.mem_cons.mp hx with rfl | hx
    · exact h7
    rcases List.mem_cons.mp hx with rfl | hx
    · exact h8
    rcases List.mem_cons.mp hx with rfl | hx
    · exact h9
    rcases List.mem_cons.mp hx with rfl | hx
    · exact h10
    rcases List.mem_cons.mp hx with rfl | hx
    · exact h11
    rcases List.mem_cons.mp hx with rfl | hx
    · exact h12
    rcases List.mem_cons.mp hx with rfl | hx
    · exact h13
    rcases List.mem_cons.mp hx with rfl | hx
    · exact h14
    rcases List.mem_cons.mp hx with rfl | hx
    · exact h15
    rcases List.mem_cons.mp hx with rfl | hx
    · exact h16
    rcases List.mem_cons.mp hx with rfl | hx
    · exact h17
    rcases List.mem_cons.mp hx with rfl | hx
    · exact h18
    rcases List.mem_cons.mp hx with rfl | hx
    · exact h19
    rcases List.mem_cons.mp hx with rfl | hx
    · exact h20
    cases hx
  have bl := L2.FunD.bindsA (ps := ["script"]) F18 fun _ _ _ _ _ _ us hl => match us, hl with | [_], _ => rfl
  cases hfa.symm.trans g18
  refine ⟨fd18, fun s v => bl s [v] rfl, fun base _ _ => ?_⟩
  have pk : Bd Pg w K mg base 1 L.pick (spPick false) := ⟨_, fd16, _, g16, F16.kp, b16_, ok_pick F16 h4 h0⟩
  have so : Bd Pg w K mg base 1 "_law_open_cells" (spSrc K) := ⟨_, fd17, _, g17, F17.kp, b17_, ok_src F17 h4 h1⟩
  have hP := prog_ok (v := false) (P := P) (L := L) (m := 60) fx pk (fun f x e => by
    match f, e with
    | 0, e => cases e; exact ⟨_, _, _, _, _, fd0, _, _, rfl, g0, F0, b0_, m0⟩
    | 1, e => cases e; exact ⟨_, _, _, _, _, fd1, _, _, rfl, g1, F1, b1_, m1⟩
    | 2, e => cases e; exact ⟨_, _, _, _, _, fd2, _, _, rfl, g2, F2, b2_, m2⟩
    | 3, e => cases e; exact ⟨_, _, _, _, _, fd3, _, _, rfl, g3, F3, b3_, m3⟩
    | 4, e => cases e; exact ⟨_, _, _, _, _, fd4, _, _, rfl, g4, F4, b4_, m4⟩
    | 5, e => cases e; exact ⟨_, _, _, _, _, fd5, _, _, rfl, g5, F5, b5_, m5⟩
    | 6, e => cases e; exact ⟨_, _, _, _, _, fd6, _, _, rfl, g6, F6, b6_, m6⟩
    | 7, e => cases e; exact ⟨_, _, _, _, _, fd7, _, _, rfl, g7, F7, b7_, m7⟩
    | 8, e => cases e; exact ⟨_, _, _, _, _, fd8, _, _, rfl, g8, F8, b8_, m8⟩
    | 9, e => cases e; exact ⟨_, _, _, _, _, fd9, _, _, rfl, g9, F9, b9_, m9⟩
    | 10, e => cases e; exact ⟨_, _, _, _, _, fd10, _, _, rfl, g10, F10, b10_, m10⟩
    | 11, e => cases e; exact ⟨_, _, _, _, _, fd11, _, _, rfl, g11, F11, b11_, m11⟩
    | 12, e => cases e; exact ⟨_, _, _, _, _, fd12, _, _, rfl, g12, F12, b12_, m12⟩
    | 13, e => cases e; exact ⟨_, _, _, _, _, fd13, _, _, rfl, g13, F13, b13_, m13⟩
    | 14, e => cases e; exact ⟨_, _, _, _, _, fd14, _, _, rfl, g14, F14, b14_, m14⟩
    | 15, e => cases e; exact ⟨_, _, _, _, _, fd15, _, _, rfl, g15, F15, b15_, m15⟩
    | _ + 16, e => cases e) depth
  exact law_ok fx pk so hP F18 mLawIs says
end Fz.K82
open PySem PySem.W PySem.Calls PyProof.Rows
theorem PySem.Challenge.cw_signedplanes_k82_whole_regions_by_great_holds : PySem.Challenge.rw_signedplanes_k82_whole_regions_by_great.Holds := by
  w_on; o_law
  refine HandSHeadRun.head_any (r := OpenLaw.row PySem.Challenge.rw_signedplanes_k82_whole_regions_by_great) (q := view (OpenLaw.row PySem.Challenge.rw_signedplanes_k82_whole_regions_by_great).prog [20]) (H := Fz.K82.hk) (ob := Fz.K82.ob) (M := 4000) (loose := ["pairs_below", "shi_planes", "shi_signs", "signs_by_pair", "region_list", "without_inner", "great_arcs", "region_by", "_law_open_cells", "_law_pick", "_law_any_order", "_law_power", "_law_pairs", "_law_signs", "_law_point", "_law_great", "_law_arcs", "_law_put"]) (d := HandSHeadRun.topDef (OpenLaw.row PySem.Challenge.rw_signedplanes_k82_whole_regions_by_great).prog 20) (kwd := []) Fz.K82.ob_eq
    (by kernel_rfl) (fun s => by kernel_rfl) Fz.K82.run (by kernel_rfl) (by kernel_rfl) (by kernel_rfl) (by rfl) (by first | assumption | decide +kernel) (by decide +kernel) ⟨rfl, rfl, rfl, rfl, rfl, by decide +kernel⟩ ?hw ?hc
  case hw => w_witness2
  case hc =>
    refine Fz.walk_ofG (l := PySem.Challenge.rw_signedplanes_k82_whole_regions_by_great) (n := 63) (k := Fz.K82.depth + 3) (x := "script") rfl (by decide) (by kernel_rfl) ⟨rfl, by decide, by decide⟩ ?F
    intro w mg fa h Y G hmg0
    obtain ⟨K, KX, c⟩ := Y
    have hmg : mg ("law" : PySem.Str) = some (.ref fa) := by
      have e : (HandSHeadRun.topDef (OpenLaw.row PySem.Challenge.rw_signedplanes_k82_whole_regions_by_great).prog 20).name = ("law" : PySem.Str) := by kernel_rfl
      rw [← e]
      exact hmg0
    obtain ⟨fd, hb, hF⟩ := Fz.K82.facts (Pg := (PySem.Challenge.rw_signedplanes_k82_whole_regions_by_great).prog) (w := w) KX G hmg c Fz.K82.says
    exact ⟨K, fd, Fz.spLaw K, KX, hb, fun H a ns hl _ hS => ⟨a, ns, rfl, hS, Nat.le_trans hl (by decide), fun _ => rfl⟩, hF⟩
