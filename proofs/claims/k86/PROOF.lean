import PyProof.Rows.All
import HandS.ForMost
import HandS.Exc
import HandS.ExcInit
import HandS.Defaults
import HandS.Gcd
import HandS.Wide
import HandS.Deep
import HandS.Flow
import HandS.HeadHook2
import HandS.ExcOwn
import HandS.TupAny
import HandS.IsInst
import HandS.Style
import KE.GoesEnum
import HandS.Iter
import HandS.Zip
import HandS.Comp
import HandS.TupMul
import HandS.Text
import HandS.Conv
import PyProof.FactsAll.list
import PyProof.FactsAll.str
import HandS.Dict
import HandS.DictTup
import HandS.TupLen
import HandS.Codes
import KE.KStateDown
import HandS.Head0
import HandS.Head1
import HandS.Head2
import HandS.Head3
import HandS.HeadEnd
import HandS.HeadHook1
import PySem.Challenge.RW_wholeplays_k86_whole_figures_and_rests_t
set_option linter.all false
set_option autoImplicit false
/-! W0: data, expressions, statements of a small language and what they compute. Plain Lean. -/
namespace Wp

/-- a text, by its signs -/
abbrev Tx := List Nat

/-- data -/
inductive D where
  | non | bl (b : Bool) | int (i : Int) | str (s : Tx)
  | tup (xs : List D) | lst (xs : List D)
  | fn (x : String)
  | exc (c : String) (v : D)
  | frz (xs : List D)
  deriving Inhabited

/-- an argument, what stands in a slot: data, a cell, or a tuple that was made here (a dict may have it for a key) -/
inductive A where
  | v (d : D) | c (n : Nat) | t (d : D)
  deriving Inhabited
/-- how a value is promised: a value, a new list, a tuple made here -/
inductive Md where
  | v | n | t

/-- what a cell holds -/
inductive C where
  | dead
  | lst (xs : List D)
  | dK (kvs : List (D × D))
  | dT (kvs : List (D × D))
  deriving Inhabited

structure Cell where
  fz : Bool
  c : C
  deriving Inhabited

abbrev Mu := List Cell
abbrev Env := List (Option A)

inductive Res (α : Type) where
  | ok (a : α) (μ : Mu)
  | exc (c : String) (d : D) (μ : Mu)
  | no

abbrev Fn := List A → Mu → Res D
abbrev Pr := List D → Option D

def SL : Nat := 16777216

/-- what an argument reads as -/
def dr (μ : Mu) : A → Option D
  | .v d => some d
  | .t d => some d
  | .c n => match μ[n]? with
    | some ⟨_, .lst xs⟩ => some (.lst xs)
    | _ => none
def drs (μ : Mu) : List A → Option (List D)
  | [] => some []
  | a :: as => match dr μ a, drs μ as with
    | some d, some ds => some (d :: ds)
    | _, _ => none
/-- arguments that are data -/
def vals : List A → Option (List D)
  | [] => some []
  | .v d :: as => match vals as with
    | some ds => some (d :: ds)
    | none => none
  | .t d :: as => match vals as with
    | some ds => some (d :: ds)
    | none => none
  | .c _ :: _ => none

def tru : D → Option Bool
  | .non => some false
  | .bl b => some b
  | .int i => some (i != 0)
  | .str s => if s.length ≤ SL then some (!s.isEmpty) else none
  | .tup xs => some (!xs.isEmpty)
  | .lst xs => some (!xs.isEmpty)
  | .fn _ => none
  | .exc _ _ => none
  | .frz _ => none

inductive Ty where
  | int | bool | str | tuple | list | dict
  deriving DecidableEq

/-- the operations on values -/
inductive P where
  | iadd | isub | add | sub | mul | fdiv | mod | pow | neg
  | lt | le | gt | ge | eq | ne | isN | notN | isB | notB | inn | notin
  | not | len | idx | slLo | slHi | slLH | asI | abs | max | min | int | intS | str | tuple | list | lrange | sum | any | all | gcd
  | isinst (ts : List Ty)
  | lenset | index | split | partition | join | startswith | endswith
  deriving DecidableEq

/-- the operations that change a cell, that look at one -/
inductive Mt where
  | append | extend | pop
  deriving DecidableEq
inductive Lk where
  | get | len | get1 | get2
  deriving DecidableEq

inductive T where
  | n (i : Nat)
  | t (ts : List T)

mutual
inductive E where
  | var (i : Nat)
  | k (d : D)
  | g (x : String) (d : D)
  | prim (p : P) (es : List E)
  | tup (es : List E)
  | lst (es : List E)
  | call (f : String) (F : Fn) (es : List E)
  | callK (f : String) (F : Fn) (es : List E) (ks : List String) (perm : List Nat) (ws : List E)
  | callv (tbl : List (String × Fn)) (f : E) (es : List E)
  | meth (p : P) (x : E) (es : List E)
  | mut (p : Mt) (x : E) (es : List E)
  | look (p : Lk) (x : E) (es : List E)
  | inD (p : Bool) (k x : E)
  | fz (e : E)
  | and (a b : E)
  | or (a b : E)
  | ife (c a b : E)
  | chain (p q : P) (a b c : E)
  | lc (g : I) (t : T) (cs : List E) (e : E) (own : List Nat)
inductive I where
  | of (e : E)
  | rng (es : List E)
  | enum (e : E)
  | zip (es : List E)
end

/-- a part of a parallel assignment: a value, a tuple made here, a new list, a new dict (cell j) -/
inductive Pi where
  | v (e : E)
  | t (e : E)
  | n (j : Nat) (e : E)
  | dK (j : Nat)
  | dT (j : Nat)

inductive S where
  | set (t : T) (e : E)
  | setT (i : Nat) (e : E)
  | stuck
  | par (is : List Nat) (es : List Pi)
  | new (i j : Nat) (e : E)
  | newD (i j : Nat) (c : C)
  | updL (x k v : E)
  | updD (x k v : E)
  | aug (i : Nat) (p : P) (e : E)
  | augL (x k : E) (p : P) (e : E)
  | augD (x k : E) (p : P) (e : E)
  | xp (e : E)
  | ife (c : E) (a b : List S)
  | for (t : T) (g : I) (b : List S)
  | whl (n : Nat) (c : E) (b : List S)
  | ret (e : E)
  | retC (i : Nat)
  | brk | cnt | pas
  | rai (c : String) (e : E)
  | tryV (b : List S) (c : String) (i k : Nat) (f : D → D)
  | swapL (x k l a b : E)

def Res.bind {α β : Type} : Res α → (α → Mu → Res β) → Res β
  | .ok a μ, k => k a μ
  | .exc c d μ, _ => .exc c d μ
  | .no, _ => .no

def optR {α : Type} (o : Option α) (μ : Mu) : Res α := match o with
  | some a => .ok a μ
  | none => .no

/- targets -/
mutual
def asg : T → D → Env → Option Env
  | .n i, d, ρ => if i < ρ.length then some (ρ.set i (some (.v d))) else none
  | .t ts, .tup xs, ρ => asgs ts xs ρ
  | .t ts, _, ρ => none
def asgs : List T → List D → Env → Option Env
  | [], [], ρ => some ρ
  | t :: ts, d :: ds, ρ => match asg t d ρ with
    | some ρ' => asgs ts ds ρ'
    | none => none
  | _, _, _ => none
end

def wipeE (ρ : Env) : List Nat → Env
  | [] => ρ
  | i :: is => (wipeE ρ is).set i none

def rngL (lo : Int) : Nat → List D
  | 0 => []
  | n + 1 => .int lo :: rngL (lo + 1) n
def rngOf : List D → Option (List D)
  | [.int n] => if -(2 ^ 62) ≤ n ∧ n < 2 ^ 62 then some (rngL 0 n.toNat) else none
  | [.int a, .int b] => if -(2 ^ 62) ≤ a ∧ a < 2 ^ 62 ∧ -(2 ^ 62) ≤ b ∧ b < 2 ^ 62 then some (rngL a (b - a).toNat) else none
  | _ => none
def itOf : D → Option (List D)
  | .lst xs => some xs
  | .tup xs => some xs
  | .str s => some (s.map fun c => .str [c])
  | _ => none
def enumL (i : Nat) : List D → List D
  | [] => []
  | x :: xs => .tup [.int i, x] :: enumL (i + 1) xs
def zipL : List D → List D → List D
  | x :: xs, y :: ys => .tup [x, y] :: zipL xs ys
  | _, _ => []

/-- x[k] = v of a cell -/
def ixN (n : Nat) (i : Int) : Option Nat := if 0 ≤ i then (if i < n then some i.toNat else none) else if -(n : Int) ≤ i then some (i + n).toNat else none
def isKeyK : D → Bool
  | .int _ => true
  | .str _ => true
  | _ => false
def isKeyT : D → Bool
  | .tup xs => xs.all isKeyK
  | _ => false

mutual
def D.eqv : D → D → Bool
  | .non, .non => true
  | .bl a, .bl b => a == b
  | .bl a, .int j => (if a then 1 else 0) == j
  | .int i, .bl b => i == (if b then 1 else 0)
  | .int i, .int j => i == j
  | .str s, .str t => s == t
  | .tup xs, .tup ys => D.eqvs xs ys
  | .lst xs, .lst ys => D.eqvs xs ys
  | _, _ => false
def D.eqvs : List D → List D → Bool
  | [], [] => true
  | x :: xs, y :: ys => D.eqv x y && D.eqvs xs ys
  | _, _ => false
end
/- of data alone, at most n deep -/
mutual
def D.okN : Nat → D → Bool
  | _, .non => true
  | _, .bl _ => true
  | _, .int _ => true
  | _, .str s => s.all (· < 1114112)
  | 0, .tup _ => false
  | 0, .lst _ => false
  | n + 1, .tup xs => D.okNs n xs
  | n + 1, .lst xs => D.okNs n xs
  | _, .fn _ => false
  | _, .exc _ _ => false
  | _, .frz _ => false
def D.okNs : Nat → List D → Bool
  | _, [] => true
  | n, x :: xs => D.okN n x && D.okNs n xs
end

def dLook (k : D) : List (D × D) → Option D
  | [] => none
  | (x, y) :: r => if D.eqv x k then some y else dLook k r
def dPut (k v : D) (l : List (D × D)) : List (D × D) := if l.any (fun p => D.eqv p.1 k) then l.map (fun p => if D.eqv p.1 k then (p.1, v) else p) else l ++ [(k, v)]
def updL (c : C) (k v : D) : Option C := match c, k with
  | .lst xs, .int i => (ixN xs.length i).map fun j => .lst (xs.set j v)
  | _, _ => none
/-- a key for this dict -/
def keyFor : C → A → Option D
  | .dK _, .v k => if isKeyK k then some k else none
  | .dT _, .t k => if isKeyT k then some k else none
  | _, _ => none
def updD (c : C) (k : A) (v : D) : Option C := (keyFor c k).bind fun k => match c with
  | .dK kvs => if kvs.length < SL then some (.dK (dPut k v kvs)) else none
  | .dT kvs => if kvs.length < SL then some (.dT (dPut k v kvs)) else none
  | _ => none
def lookL (c : C) (k : D) : Option D := match c, k with
  | .lst xs, .int i => (ixN xs.length i).bind fun j => xs[j]?
  | _, _ => none
/-- what the dict holds at k -/
def dictAt (c : C) (k : A) : Option (Option D) := (keyFor c k).map fun k => match c with
  | .dK kvs => dLook k kvs
  | .dT kvs => dLook k kvs
  | _ => none
def lookD (c : C) (k : A) : Option D := (dictAt c k).bind id

def mulOk (a b : Int) : Bool := decide (a.natAbs.log2 + b.natAbs.log2 < 1000000)
def divOk (b : Int) : Bool := decide (b ≠ 0) && decide (b.natAbs.log2 < 9000)
/-- a part of a slice -/
def sIx (n d : Nat) : Option Int → Nat
  | none => d
  | some v => if v < 0 then (v + n).toNat else min v.toNat n
def cut {α : Type} (xs : List α) (lo hi : Option Int) : List α := (xs.drop (sIx xs.length 0 lo)).take (sIx xs.length xs.length hi - sIx xs.length 0 lo)
def atI {α : Type} (xs : List α) (i : Int) : Option α := (ixN xs.length i).bind fun j => xs[j]?
def rep {α : Type} (xs : List α) (n : Nat) : List α := (List.replicate n xs).flatten
def ltL : List Nat → List Nat → Bool
  | [], [] => false
  | [], _ :: _ => true
  | _ :: _, [] => false
  | x :: xs, y :: ys => if x = y then ltL xs ys else decide (x < y)
def ltI : List Int → List Int → Bool
  | [], [] => false
  | [], _ :: _ => true
  | _ :: _, [] => false
  | x :: xs, y :: ys => if x = y then ltI xs ys else decide (x < y)
def intsOf : List D → Option (List Int)
  | [] => some []
  | .int i :: r => (intsOf r).map (i :: ·)
  | _ :: _ => none
def blsOf : List D → Option (List Bool)
  | [] => some []
  | .bl b :: r => (blsOf r).map (b :: ·)
  | _ :: _ => none
def strsOf : List D → Option (List Tx)
  | [] => some []
  | .str b :: r => (strsOf r).map (b :: ·)
  | _ :: _ => none
def digit (c : Nat) : Bool := decide (48 ≤ c) && decide (c ≤ 57)
def digVal (s : Tx) : Nat := s.foldl (fun a c => a * 10 + (c - 48)) 0
def numTx (n : Nat) : Tx := (Nat.toDigits 10 n).map Char.toNat
def intTx (i : Int) : Tx := if i < 0 then 45 :: numTx i.natAbs else numTx i.natAbs
/-- does S stand at the begin of l -/
def pre (S l : Tx) : Bool := l.take S.length == S
def spl (S : Tx) : Nat → Tx → Tx → List Tx
  | _, acc, [] => [acc]
  | k + 1, acc, _ :: r => spl S k acc r
  | 0, acc, c :: r => if pre S (c :: r) then acc :: spl S (S.length - 1) [] r else spl S 0 (acc ++ [c]) r
def par (S : Tx) : Tx → Tx → Option (Tx × Tx)
  | _, [] => none
  | acc, c :: r => if pre S (c :: r) then some (acc, (c :: r).drop S.length) else par S (acc ++ [c]) r
def joinL (S : Tx) : List Tx → Tx
  | [] => []
  | [x] => x
  | x :: y :: r => x ++ S ++ joinL S (y :: r)
def low (s : Tx) : Bool := s.all (· < 256)
def isIn (S : Tx) : Tx → Bool
  | [] => S.isEmpty
  | c :: r => pre S (c :: r) || isIn S r
def findD (d : D) : Nat → List D → Option Nat
  | _, [] => none
  | i, x :: r => if D.eqv x d then some i else findD d (i + 1) r
def isTy : D → Ty → Bool
  | .bl _, .bool => true
  | .bl _, .int => true
  | .int _, .int => true
  | .str _, .str => true
  | .tup _, .tuple => true
  | .lst _, .list => true
  | _, _ => false
def okD (d : D) : Bool := D.okN 60 d

def cutD (a : D) (lo hi : Option Int) : Option D := match a with
  | .lst a => some (.lst (cut a lo hi))
  | .tup a => some (.tup (cut a lo hi))
  | .str a => if a.length ≤ SL then some (.str (cut a lo hi)) else none
  | _ => none
/-- a in b -/
def inOf (a : D) : D → Option Bool
  | .lst l => if okD a && D.okNs 59 l then some (l.any fun z => D.eqv z a) else none
  | .tup l => if okD a && D.okNs 59 l then some (l.any fun z => D.eqv z a) else none
  | .str t => (match a with
    | .str [c] => some (t.contains c)
    | _ => none)
  | _ => none
def P.f1 : P → D → Option D
  | .neg, .int a => some (.int (-a))
  | .isN, .non => some (.bl true)
  | .isN, .bl _ => some (.bl false)
  | .isN, .int _ => some (.bl false)
  | .isN, .str _ => some (.bl false)
  | .isN, .tup _ => some (.bl false)
  | .isN, .lst _ => some (.bl false)
  | .notN, .non => some (.bl false)
  | .notN, .bl _ => some (.bl true)
  | .notN, .int _ => some (.bl true)
  | .notN, .str _ => some (.bl true)
  | .notN, .tup _ => some (.bl true)
  | .notN, .lst _ => some (.bl true)
  | .not, a => (tru a).map fun b => .bl (!b)
  | .len, .str a => if a.length ≤ SL then some (.int a.length) else none
  | .len, .tup a => some (.int a.length)
  | .len, .lst a => some (.int a.length)
  | .asI, .int a => some (.int a)
  | .abs, .int a => some (.int (if a < 0 then -a else a))
  | .int, .int a => some (.int a)
  | .int, .bl a => some (.int (if a then 1 else 0))
  | .intS, .str s => if s.all digit && !s.isEmpty && decide (s.length ≤ 640) then some (.int (digVal s)) else none
  | .str, .int a => if a.natAbs.log2 < 1920 then some (.str (intTx a)) else none
  | .tuple, .lst a => some (.tup a)
  | .tuple, .tup a => some (.tup a)
  | .list, .lst a => some (.lst a)
  | .list, .tup a => some (.lst a)
  | .list, .frz a => some (.lst a)
  | .lenset, .lst a => (intsOf a).map fun is => .int (is.eraseDups.length : Nat)
  | .sum, .lst a => (intsOf a).map fun is => .int is.sum
  | .any, .lst a => (blsOf a).map fun bs => .bl (bs.any id)
  | .all, .lst a => (blsOf a).map fun bs => .bl (bs.all id)
  | .isinst ts, .fn _ => none
  | .isinst ts, .exc _ _ => none
  | .isinst ts, .frz _ => none
  | .isinst ts, a => some (.bl (ts.any (isTy a)))
  | .lrange, a => (rngOf [a]).bind fun xs => if xs.length ≤ SL then some (.lst xs) else none
  | _, _ => none
def P.f2 : P → D → D → Option D
  | .iadd, .int a, .int b => some (.int (a + b))
  | .isub, .int a, .int b => some (.int (a - b))
  | .add, .int a, .int b => some (.int (a + b))
  | .add, .str a, .str b => if a.length + b.length ≤ SL then some (.str (a ++ b)) else none
  | .add, .tup a, .tup b => if a.length + b.length ≤ SL then some (.tup (a ++ b)) else none
  | .add, .lst a, .lst b => if a.length + b.length ≤ SL then some (.lst (a ++ b)) else none
  | .sub, .int a, .int b => some (.int (a - b))
  | .mul, .int a, .int b => if mulOk a b then some (.int (a * b)) else none
  | .mul, .lst a, .int b => if (-(2 ^ 63) ≤ b ∧ b < 2 ^ 63) ∧ a.length * b.toNat ≤ SL then some (.lst (rep a b.toNat)) else none
  | .mul, .tup a, .int b => if a.isEmpty = false ∧ 1 ≤ b ∧ b ≤ 1000 ∧ a.length ≤ 1000 then some (.tup (rep a b.toNat)) else none
  | .fdiv, .int a, .int b => if divOk b then some (.int (a.fdiv b)) else none
  | .mod, .int a, .int b => if b ≠ 0 then some (.int (a.fmod b)) else none
  | .pow, .int a, .int b => if (0 ≤ b ∧ b ≤ 1000000) ∧ a.natAbs < 2 ^ 64 then some (.int (a ^ b.toNat)) else none
  | .lt, .int a, .int b => some (.bl (decide (a < b)))
  | .le, .int a, .int b => some (.bl (decide (a ≤ b)))
  | .gt, .int a, .int b => some (.bl (decide (b < a)))
  | .ge, .int a, .int b => some (.bl (decide (b ≤ a)))
  | .eq, .str a, .str b => some (.bl (a == b))
  | .eq, a, b => if okD a && okD b then some (.bl (D.eqv a b)) else none
  | .ne, .str a, .str b => some (.bl (!(a == b)))
  | .ne, a, b => if okD a && okD b then some (.bl (!D.eqv a b)) else none
  | .isB, .bl a, .bl b => some (.bl (decide (a = b)))
  | .notB, .bl a, .bl b => some (.bl (!decide (a = b)))
  | .inn, a, b => (inOf a b).map .bl
  | .notin, a, b => (inOf a b).map fun k => .bl (!k)
  | .idx, .lst a, .int i => atI a i
  | .idx, .tup a, .int i => atI a i
  | .idx, .str a, .int i => if a.length ≤ SL then (atI a i).map fun c => .str [c] else none
  | .slLo, a, .int l => cutD a (some l) none
  | .slHi, a, .int h => cutD a none (some h)
  | .max, .int a, .int b => some (.int (if b > a then b else a))
  | .min, .int a, .int b => some (.int (if b < a then b else a))
  | .gcd, .int a, .int b => some (.int (Nat.gcd a.natAbs b.natAbs : Nat))
  | .index, .lst b, a => if okD a && D.okNs 59 b then (findD a 0 b).map (fun j : Nat => D.int (j : Int)) else none
  | .split, .str a, .str b => if !b.isEmpty && low b && decide (a.length + 2 ≤ SL) then some (.lst ((spl b 0 [] a).map .str)) else none
  | .partition, .str a, .str b => if !b.isEmpty && low b && decide (a.length ≤ SL) then (match par b [] a with
    | some (x, y) => some (.tup [.str x, .str b, .str y])
    | none => some (.tup [.str a, .str [], .str []])) else none
  | .join, .str a, .lst b => (strsOf b).bind fun ys => if (ys.map (·.length)).sum + ys.length * a.length ≤ SL then some (.str (joinL a ys)) else none
  | .startswith, .str a, .str b => some (.bl (pre b a))
  | .endswith, .str a, .str b => some (.bl (b.length ≤ a.length && a.drop (a.length - b.length) == b))
  | .lrange, a, b => (rngOf [a, b]).bind fun xs => if xs.length ≤ SL then some (.lst xs) else none
  | _, _, _ => none
def P.f3 : P → D → D → D → Option D
  | .slLH, a, .int l, .int h => cutD a (some l) (some h)
  | _, _, _, _ => none
def P.f (p : P) : List D → Option D
  | [a] => p.f1 a
  | [a, b] => p.f2 a b
  | [a, b, c] => p.f3 a b c
  | _ => none

/-- is what it gives a new list -/
def P.new : P → Bool
  | .add => true
  | .mul => true
  | .slLo => true
  | .slHi => true
  | .slLH => true
  | .list => true
  | .lrange => true
  | .split => true
  | _ => false

def Mt.f : Mt → C → List D → Option (C × D)
  | .append, .lst xs, [d] => if xs.length < SL then some (.lst (xs ++ [d]), .non) else none
  | .extend, .lst xs, [.lst ys] => if xs.length + ys.length ≤ SL then some (.lst (xs ++ ys), .non) else none
  | .pop, .lst xs, [] => match xs[xs.length - 1]? with
    | some d => some (.lst xs.dropLast, d)
    | none => none
  | _, _, _ => none
def Lk.f : Lk → C → List A → Option D
  | .get, c, [k] => lookD c k
  | .get1, c, [k] => (dictAt c k).map fun o => o.getD .non
  | .get2, c, [k, .v x] => (dictAt c k).map fun o => o.getD x
  | .len, .dK kvs, [] => some (.int kvs.length)
  | .len, .dT kvs, [] => some (.int kvs.length)
  | _, _, _ => none

/-- the turns of a list comprehension; cell n holds the new list -/
def lcGo (tg : D → Env → Option Env) (test : Env → Mu → Res Bool) (el : Env → Mu → Res D) (n : Nat) (ρ : Env) : List D → Mu → Res Unit
  | [], μ => .ok () μ
  | x :: xs, μ => match tg x ρ with
    | none => .no
    | some ρ' => (test ρ' μ).bind fun b μ1 => if b then (el ρ' μ1).bind fun d μ2 => match μ2[n]? with
        | some ⟨false, .lst acc⟩ => if acc.length < SL then lcGo tg test el n ρ xs (μ2.set n ⟨false, .lst (acc ++ [d])⟩) else .no
        | _ => .no
      else lcGo tg test el n ρ xs μ1
/-- the new list, at the end -/
def lcEnd (n : Nat) (μ : Mu) : Res A := match μ[n]? with
  | some ⟨false, .lst ds⟩ => .ok (.v (.lst ds)) (μ.take n)
  | _ => .no

def noExc {α : Type} : Res α → Res α
  | .ok a μ => .ok a μ
  | _ => .no

def permute (perm : List Nat) (as : List A) : Option (List A) := perm.mapM fun i => as[i]?

def toV : A → Mu → Res D
  | .v d, μ => .ok d μ
  | .t d, μ => .ok d μ
  | .c _, _ => .no

/-- may p be a method of d -/
def recv : P → Option D → Bool
  | .index, some (.lst _) => true
  | .split, some (.str _) => true
  | .partition, some (.str _) => true
  | .join, some (.str _) => true
  | .startswith, some (.str _) => true
  | .endswith, some (.str _) => true
  | _, _ => false
def isL (μ : Mu) (n : Nat) : Bool := match μ[n]? with
  | some ⟨_, .lst _⟩ => true
  | _ => false
def isD (μ : Mu) (n : Nat) : Bool := match μ[n]? with
  | some ⟨_, .dK _⟩ => true
  | some ⟨_, .dT _⟩ => true
  | _ => false
mutual
def ev : E → Env → Mu → Res A
  | .var i, ρ, μ => match ρ[i]? with
    | some (some a) => .ok a μ
    | _ => .no
  | .k d, _, μ => .ok (.v d) μ
  | .g _ d, _, μ => .ok (.v d) μ
  | .prim p es, ρ, μ => (evs es ρ μ).bind fun as μ1 => (optR ((drs μ1 as).bind p.f) μ1).bind fun d μ2 => .ok (.v d) μ2
  | .tup es, ρ, μ => (evs es ρ μ).bind fun as μ1 => (optR (vals as) μ1).bind fun ds μ2 => .ok (.v (.tup ds)) μ2
  | .lst es, ρ, μ => (evs es ρ μ).bind fun as μ1 => (optR (vals as) μ1).bind fun ds μ2 => .ok (.v (.lst ds)) μ2
  | .call _ F es, ρ, μ => (evs es ρ μ).bind fun as μ1 => (F as μ1).bind fun d μ2 => .ok (.v d) μ2
  | .callK _ F es _ perm ws, ρ, μ => (evs es ρ μ).bind fun as μ1 => (evs ws ρ μ1).bind fun bs μ2 => (optR (permute perm (as ++ bs)) μ2).bind fun as' μ3 => (F as' μ3).bind fun d μ4 => .ok (.v d) μ4
  | .callv tbl f es, ρ, μ => (ev f ρ μ).bind fun fv μ0 => match fv with
    | .v (.fn x) => match tbl.lookup x with
      | some g => (evs es ρ μ0).bind fun as μ1 => (g as μ1).bind fun d μ2 => .ok (.v d) μ2
      | none => .no
    | _ => .no
  | .meth p x es, ρ, μ => (ev x ρ μ).bind fun xa μ0 => if recv p (dr μ0 xa) then (evs es ρ μ0).bind fun as μ1 => (optR ((drs μ1 (xa :: as)).bind p.f) μ1).bind fun d μ2 => .ok (.v d) μ2 else .no
  | .mut p x es, ρ, μ => (ev x ρ μ).bind fun xa μ0 => match xa with
    | .c n => if isL μ0 n then (evs es ρ μ0).bind fun as μ1 => match μ1[n]?, vals as with
      | some ⟨false, c⟩, some ds => match p.f c ds with
        | some (c', d) => .ok (.v d) (μ1.set n ⟨false, c'⟩)
        | none => .no
      | _, _ => .no
      else .no
    | _ => .no
  | .look p x es, ρ, μ => (ev x ρ μ).bind fun xa μ0 => match xa with
    | .c n => if isD μ0 n then (evs es ρ μ0).bind fun as μ1 => match μ1[n]? with
      | some ⟨_, c⟩ => match p.f c as with
        | some d => .ok (.v d) μ1
        | none => .no
      | _ => .no
      else .no
    | _ => .no
  | .inD p k x, ρ, μ => (ev k ρ μ).bind fun ka μ1 => (ev x ρ μ1).bind fun xa μ2 => match xa with
    | .c n => match μ2[n]? with
      | some ⟨_, c⟩ => match dictAt c ka with
        | some o => .ok (.v (.bl (if p then o.isSome else !o.isSome))) μ2
        | none => .no
      | none => .no
    | _ => .no
  | .fz e, ρ, μ => (ev e ρ μ).bind fun a μ1 => match a with
    | .v d => .ok (.v d) μ1
    | .t d => .ok (.v d) μ1
    | .c n => match μ1[n]? with
      | some ⟨_, .lst xs⟩ => .ok (.v (.lst xs)) (μ1.set n ⟨true, .lst xs⟩)
      | _ => .no
  | .and a b, ρ, μ => (ev a ρ μ).bind fun x μ1 => match (dr μ1 x).bind tru with
    | some true => ev b ρ μ1
    | some false => .ok x μ1
    | none => .no
  | .or a b, ρ, μ => (ev a ρ μ).bind fun x μ1 => match (dr μ1 x).bind tru with
    | some true => .ok x μ1
    | some false => ev b ρ μ1
    | none => .no
  | .ife c a b, ρ, μ => (ev c ρ μ).bind fun x μ1 => match (dr μ1 x).bind tru with
    | some true => ev a ρ μ1
    | some false => ev b ρ μ1
    | none => .no
  | .chain p q a b c, ρ, μ => (ev a ρ μ).bind fun x μ1 => (ev b ρ μ1).bind fun y μ2 => (optR ((drs μ2 [x, y]).bind p.f) μ2).bind fun r μ3 => match r with
    | .bl true => (ev c ρ μ3).bind fun z μ4 => (optR ((drs μ4 [y, z]).bind q.f) μ4).bind fun r μ5 => .ok (.v r) μ5
    | .bl false => .ok (.v (.bl false)) μ3
    | _ => .no
  | .lc g t cs e own, ρ, μ => (evI g ρ μ).bind fun xs μ1 =>
      (noExc (lcGo (asg t) (evC cs) (fun ρ μ => (ev e ρ μ).bind toV) μ1.length (wipeE ρ own) xs (μ1 ++ [⟨false, .lst []⟩]))).bind fun _ μ2 => lcEnd μ1.length μ2
def evs : List E → Env → Mu → Res (List A)
  | [], _, μ => .ok [] μ
  | e :: es, ρ, μ => (ev e ρ μ).bind fun a μ1 => (evs es ρ μ1).bind fun as μ2 => .ok (a :: as) μ2
/-- all of a clause's tests -/
def evC : List E → Env → Mu → Res Bool
  | [], _, μ => .ok true μ
  | e :: es, ρ, μ => (ev e ρ μ).bind fun x μ1 => match (dr μ1 x).bind tru with
    | some true => evC es ρ μ1
    | some false => .ok false μ1
    | none => .no
def evI : I → Env → Mu → Res (List D)
  | .of e, ρ, μ => (ev e ρ μ).bind fun a μ1 => match a with
    | .v d => optR (itOf d) μ1
    | _ => .no
  | .rng es, ρ, μ => (evs es ρ μ).bind fun as μ1 => optR ((vals as).bind rngOf) μ1
  | .enum e, ρ, μ => (ev e ρ μ).bind fun a μ1 => match a with
    | .v (.lst xs) => .ok (enumL 0 xs) μ1
    | .v (.tup xs) => .ok (enumL 0 xs) μ1
    | _ => .no
  | .zip es, ρ, μ => (evs es ρ μ).bind fun as μ1 => match as with
    | [.v (.lst xs), .v (.lst ys)] => .ok (zipL xs ys) μ1
    | [.v (.tup xs), .v (.tup ys)] => .ok (zipL xs ys) μ1
    | _ => .no
end


inductive Out where
  | nx (ρ : Env) (μ : Mu)
  | brk (ρ : Env) (μ : Mu)
  | cnt (ρ : Env) (μ : Mu)
  | ret (d : D) (μ : Mu)
  | exc (c : String) (d : D) (ρ : Env) (μ : Mu)
  | no

def Res.st {α : Type} (r : Res α) (ρ : Env) (k : α → Mu → Out) : Out := match r with
  | .ok a μ => k a μ
  | .exc c d μ => .exc c d ρ μ
  | .no => .no

def Out.seq (o : Out) (k : Env → Mu → Out) : Out := match o with
  | .nx ρ μ => k ρ μ
  | o => o

def forGo (tg : D → Env → Option Env) (body : Env → Mu → Out) : List D → Env → Mu → Out
  | [], ρ, μ => .nx ρ μ
  | x :: xs, ρ, μ => match tg x ρ with
    | none => .no
    | some ρ' => match body ρ' μ with
      | .nx ρ μ => forGo tg body xs ρ μ
      | .cnt ρ μ => forGo tg body xs ρ μ
      | .brk ρ μ => .nx ρ μ
      | o => o

def whGo (test : Env → Mu → Res Bool) (body : Env → Mu → Out) : Nat → Env → Mu → Out
  | 0, _, _ => .no
  | n + 1, ρ, μ => (test ρ μ).st ρ fun b μ1 => if b then match body ρ μ1 with
      | .nx ρ μ => whGo test body n ρ μ
      | .cnt ρ μ => whGo test body n ρ μ
      | .brk ρ μ => .nx ρ μ
      | o => o
    else .nx ρ μ1

def evT (e : E) (ρ : Env) (μ : Mu) : Res Bool := (ev e ρ μ).bind fun x μ1 => optR ((dr μ1 x).bind tru) μ1

/-- the slots that hold cell n forgotten -/
def killC (n : Nat) : Env → Env
  | [] => []
  | some (.c k) :: r => (if k = n then none else some (.c k)) :: killC n r
  | o :: r => o :: killC n r

def putAll (ρ : Env) : List Nat → List A → Option Env
  | [], [] => some ρ
  | i :: is, a :: as => if i < ρ.length then putAll (ρ.set i (some a)) is as else none
  | _, _ => none
/-- a cell is begun anew -/
def begC (n : Nat) (c : C) (ρ : Env) (μ : Mu) : Res (A × Env) := if n < μ.length then .ok (.c n, killC n ρ) (μ.set n ⟨false, c⟩) else .no
def ev1 (n0 : Nat) : Pi → Env → Mu → Res (A × Env)
  | .v e, ρ, μ => (ev e ρ μ).bind fun a μ1 => match a with
    | .v d => .ok (.v d, ρ) μ1
    | _ => .no
  | .t e, ρ, μ => (ev e ρ μ).bind fun a μ1 => match a with
    | .v d => .ok (.t d, ρ) μ1
    | _ => .no
  | .n j e, ρ, μ => (ev e ρ μ).bind fun a μ1 => match a with
    | .v (.lst xs) => begC (n0 + j) (.lst xs) ρ μ1
    | _ => .no
  | .dK j, ρ, μ => begC (n0 + j) (.dK []) ρ μ
  | .dT j, ρ, μ => begC (n0 + j) (.dT []) ρ μ
def Pi.plain : Pi → Bool
  | .v _ => true
  | .t _ => true
  | _ => false
def Pi.cells : List Pi → List Nat
  | [] => []
  | .n j _ :: r => j :: Pi.cells r
  | .dK j :: r => j :: Pi.cells r
  | .dT j :: r => j :: Pi.cells r
  | _ :: r => Pi.cells r
def evk (n0 : Nat) : List Pi → Env → Mu → Res (List A × Env)
  | [], ρ, μ => .ok ([], ρ) μ
  | p :: ps, ρ, μ => (ev1 n0 p ρ μ).bind fun x μ1 => (if p.plain then evk n0 ps x.2 μ1 else noExc (evk n0 ps x.2 μ1)).bind fun y μ2 => .ok (x.1 :: y.1, y.2) μ2

mutual
/-- n0: how many cells stood at the def's entry -/
def ex (n0 : Nat) : S → Env → Mu → Out
  | .set t e, ρ, μ => (ev e ρ μ).st ρ fun a μ1 => match a with
    | .v d => match asg t d ρ with
      | some ρ' => .nx ρ' μ1
      | none => .no
    | _ => .no
  | .setT i e, ρ, μ => (ev e ρ μ).st ρ fun a μ1 => match a with
    | .v d => if i < ρ.length then .nx (ρ.set i (some (.t d))) μ1 else .no
    | _ => .no
  | .par is es, ρ, μ => (evk n0 es ρ μ).st ρ fun x μ1 => match putAll x.2 is x.1 with
    | some ρ' => .nx ρ' μ1
    | none => .no
  | .new i j e, ρ, μ => (ev e ρ μ).st ρ fun a μ1 => match a with
    | .v (.lst xs) => if i < ρ.length ∧ n0 + j < μ1.length then .nx ((killC (n0 + j) ρ).set i (some (.c (n0 + j)))) (μ1.set (n0 + j) ⟨false, .lst xs⟩) else .no
    | _ => .no
  | .newD i j c, ρ, μ => if i < ρ.length ∧ n0 + j < μ.length then .nx ((killC (n0 + j) ρ).set i (some (.c (n0 + j)))) (μ.set (n0 + j) ⟨false, c⟩) else .no
  | .updL x k v, ρ, μ => (ev v ρ μ).st ρ fun va μ1 => (ev x ρ μ1).st ρ fun xa μ2 => (ev k ρ μ2).st ρ fun ka μ3 => match va, xa, ka with
    | .v vd, .c n, .v kd => match μ3[n]? with
      | some ⟨false, c⟩ => match updL c kd vd with
        | some c' => .nx ρ (μ3.set n ⟨false, c'⟩)
        | none => .no
      | _ => .no
    | _, _, _ => .no
  | .updD x k v, ρ, μ => (ev v ρ μ).st ρ fun va μ1 => (ev x ρ μ1).st ρ fun xa μ2 => (ev k ρ μ2).st ρ fun ka μ3 => match va, xa with
    | .v vd, .c n => match μ3[n]? with
      | some ⟨false, c⟩ => match updD c ka vd with
        | some c' => .nx ρ (μ3.set n ⟨false, c'⟩)
        | none => .no
      | _ => .no
    | _, _ => .no
  | .aug i p e, ρ, μ => match ρ[i]? with
    | some (some (.v x)) => (ev e ρ μ).st ρ fun a μ1 => match dr μ1 a with
      | some y => match p.f [x, y] with
        | some d => .nx (ρ.set i (some (.v d))) μ1
        | none => .no
      | none => .no
    | _ => .no
  | .augL x k p e, ρ, μ => (ev x ρ μ).st ρ fun xa μ1 => (ev k ρ μ1).st ρ fun ka μ2 => match xa, ka with
    | .c n, .v kd => match μ2[n]? with
      | some ⟨_, c⟩ => match lookL c kd with
        | some old => (ev e ρ μ2).st ρ fun a μ3 => match dr μ3 a, μ3[n]? with
          | some y, some ⟨false, c3⟩ => match p.f [old, y] with
            | some d => match updL c3 kd d with
              | some c' => .nx ρ (μ3.set n ⟨false, c'⟩)
              | none => .no
            | none => .no
          | _, _ => .no
        | none => .no
      | none => .no
    | _, _ => .no
  | .augD x k p e, ρ, μ => (ev x ρ μ).st ρ fun xa μ1 => (ev k ρ μ1).st ρ fun ka μ2 => match xa with
    | .c n => match μ2[n]? with
      | some ⟨_, c⟩ => match lookD c ka with
        | some old => (ev e ρ μ2).st ρ fun a μ3 => match dr μ3 a, μ3[n]? with
          | some y, some ⟨false, c3⟩ => match p.f [old, y] with
            | some d => match updD c3 ka d with
              | some c' => .nx ρ (μ3.set n ⟨false, c'⟩)
              | none => .no
            | none => .no
          | _, _ => .no
        | none => .no
      | none => .no
    | _ => .no
  | .xp e, ρ, μ => (ev e ρ μ).st ρ fun _ μ1 => .nx ρ μ1
  | .ife c a b, ρ, μ => (evT c ρ μ).st ρ fun t μ1 => if t then exs n0 a ρ μ1 else exs n0 b ρ μ1
  | .for t g b, ρ, μ => (evI g ρ μ).st ρ fun xs μ1 => forGo (asg t) (exs n0 b) xs ρ μ1
  | .whl n c b, ρ, μ => whGo (evT c) (exs n0 b) n ρ μ
  | .ret e, ρ, μ => (ev e ρ μ).st ρ fun a μ1 => match a with
    | .v d => .ret d μ1
    | .t d => .ret d μ1
    | .c _ => .no
  | .retC i, ρ, μ => match ρ[i]? with
    | some (some (.c n)) => if n0 ≤ n then match μ[n]? with
      | some ⟨false, .lst xs⟩ => .ret (.lst xs) μ
      | _ => .no
      else .no
    | _ => .no
  | .stuck, ρ, μ => .no
  | .brk, ρ, μ => .brk ρ μ
  | .cnt, ρ, μ => .cnt ρ μ
  | .pas, ρ, μ => .nx ρ μ
  | .rai c e, ρ, μ => (ev e ρ μ).st ρ fun a μ1 => match a with
    | .v d => .exc c d ρ μ1
    | _ => .no
  | .tryV b c i k f, ρ, μ => match exs n0 b ρ μ with
    | .exc c' d ρ' μ' => if c' = c ∧ i < ρ'.length ∧ k < ρ'.length ∧ i ≠ k then .nx ((ρ'.set k (some (.v (f d)))).set i none) μ' else .no
    | o => o
  | .swapL x k l a b, ρ, μ => (ev a ρ μ).st ρ fun va μ1 => (ev b ρ μ1).st ρ fun vb μ2 => (ev x ρ μ2).st ρ fun xa μ3 => (ev k ρ μ3).st ρ fun ka μ4 => match va, xa, ka with
    | .v vd, .c n, .v kd => match μ4[n]? with
      | some ⟨false, c⟩ => match updL c kd vd with
        | some c' => (ev x ρ (μ4.set n ⟨false, c'⟩)).st ρ fun xb μ5 => (ev l ρ μ5).st ρ fun la μ6 => match vb, xb, la with
          | .v wd, .c n2, .v ld => match μ6[n2]? with
            | some ⟨false, c2⟩ => match updL c2 ld wd with
              | some c2' => .nx ρ (μ6.set n2 ⟨false, c2'⟩)
              | none => .no
            | _ => .no
          | _, _, _ => .no
        | none => .no
      | _ => .no
    | _, _, _ => .no
def exs (n0 : Nat) : List S → Env → Mu → Out
  | [], ρ, μ => .nx ρ μ
  | s :: r, ρ, μ => (ex n0 s ρ μ).seq (exs n0 r)
end

/-- a def: its number of slots, of cells of its own, its body -/
structure Df where
  slots : Nat
  cells : Nat
  body : List S

def Df.run (f : Df) (as : List A) (μ : Mu) : Res D :=
  match exs μ.length f.body (as.map some ++ List.replicate (f.slots - as.length) none) (μ ++ List.replicate f.cells ⟨false, .dead⟩) with
  | .nx _ μ' => .ok .non (μ'.take μ.length)
  | .ret d μ' => .ok d (μ'.take μ.length)
  | .exc c d _ μ' => .exc c d (μ'.take μ.length)
  | _ => .no

end Wp

set_option Elab.async false
set_option linter.all false
set_option maxRecDepth 100000
set_option autoImplicit true
/-! W1a: data in the abstract heap; readings by what the small language computes. -/
namespace Wp
open PySem PySem.Spec PyProof.Rows L2

abbrev Frag := PySem.W.Frag
def sx (s : Tx) : Str := ⟨s.toArray⟩
theorem sx_tl (s : Tx) : TL.tl (sx s) = s := rfl

mutual
inductive Rep (K : Frag) (F : Hp) : V → D → Prop
  | non : Rep K F .non .non
  | bl (b : Bool) : Rep K F (.bl b) (.bl b)
  | int (i : Int) : Rep K F (.int i) (.int i)
  | str (s : Tx) : Rep K F (.str (sx s)) (.str s)
  | tup {a : Addr} {vs : List V} {ds : List D} : SqT K F a vs → Reps K F vs ds → Rep K F (.ref a) (.tup ds)
  | lst {a : Addr} {vs : List V} {ds : List D} : F a = some (.lst vs) → Reps K F vs ds → Rep K F (.ref a) (.lst ds)
  | frz {a : Addr} {vs : List V} {ds : List D} : SqL K F a vs → Reps K F vs ds → Rep K F (.ref a) (.frz ds)
  | fn (x : String) : Rep K F (.ref (He.ga K (Str.ofString x))) (.fn x)
inductive Reps (K : Frag) (F : Hp) : List V → List D → Prop
  | nil : Reps K F [] []
  | cons {v : V} {d : D} {vs : List V} {ds : List D} : Rep K F v d → Reps K F vs ds → Reps K F (v :: vs) (d :: ds)
end

theorem same_tup {K : Frag} {H H' : Hp} {a : Addr} {xs : List V} (e : Same H H') (h : SqT K H a xs) : SqT K H' a xs := by
  rcases h with (h | ⟨o, h⟩) | h
  · exact .inl (.inl (e _ _ h))
  · exact .inl (.inr ⟨o, e _ _ h⟩)
  · exact .inr h
mutual
theorem Rep.mono {K : Frag} {F F' : Hp} (s : Same F F') : ∀ {v : V} {d : D}, Rep K F v d → Rep K F' v d
  | _, _, .non => .non
  | _, _, .bl b => .bl b
  | _, _, .int i => .int i
  | _, _, .str x => .str x
  | _, _, .tup h r => .tup (same_tup s h) (Reps.mono s r)
  | _, _, .lst h r => .lst (s _ _ h) (Reps.mono s r)
  | _, _, .frz h r => .frz (s.seq h) (Reps.mono s r)
  | _, _, .fn x => .fn x
theorem Reps.mono {K : Frag} {F F' : Hp} (s : Same F F') : ∀ {vs : List V} {ds : List D}, Reps K F vs ds → Reps K F' vs ds
  | _, _, .nil => .nil
  | _, _, .cons a b => .cons (Rep.mono s a) (Reps.mono s b)
end
theorem Reps.length {K : Frag} {F : Hp} : ∀ {vs : List V} {ds : List D}, Reps K F vs ds → vs.length = ds.length
  | _, _, .nil => rfl
  | _, _, .cons _ b => congrArg Nat.succ b.length
theorem Reps.get {K : Frag} {F : Hp} : ∀ {vs : List V} {ds : List D} {i : Nat} {d : D}, Reps K F vs ds → ds[i]? = some d → ∃ v, vs[i]? = some v ∧ Rep K F v d
  | _, _, _, _, .nil, h => by simp at h
  | _, _, 0, _, .cons a _, h => by simp at h; subst h; exact ⟨_, rfl, a⟩
  | _, _, i + 1, _, .cons _ b, h => by
    obtain ⟨v, e, r⟩ := b.get (i := i) (by simpa using h)
    exact ⟨v, by simpa using e, r⟩
theorem Reps.append {K : Frag} {F : Hp} : ∀ {vs ws : List V} {ds es : List D}, Reps K F vs ds → Reps K F ws es → Reps K F (vs ++ ws) (ds ++ es)
  | _, _, _, _, .nil, s => s
  | _, _, _, _, .cons a b, s => .cons a (b.append s)
theorem Reps.take {K : Frag} {F : Hp} : ∀ {vs : List V} {ds : List D} (n : Nat), Reps K F vs ds → Reps K F (vs.take n) (ds.take n)
  | _, _, 0, _ => .nil
  | _, _, _ + 1, .nil => .nil
  | _, _, n + 1, .cons a b => .cons a (b.take n)
theorem Reps.drop {K : Frag} {F : Hp} : ∀ {vs : List V} {ds : List D} (n : Nat), Reps K F vs ds → Reps K F (vs.drop n) (ds.drop n)
  | _, _, 0, r => r
  | _, _, _ + 1, .nil => .nil
  | _, _, n + 1, .cons _ b => b.drop n
theorem Reps.set {K : Frag} {F : Hp} {v : V} {d : D} (r : Rep K F v d) : ∀ {vs : List V} {ds : List D} (i : Nat), Reps K F vs ds → Reps K F (vs.set i v) (ds.set i d)
  | _, _, _, .nil => .nil
  | _, _, 0, .cons _ b => .cons r b
  | _, _, i + 1, .cons a b => .cons a (b.set r i)

/-- what cell a holds, at address a -/
def CellOk (K : Frag) (F H : Hp) (a : Addr) : Cell → Prop
  | ⟨_, .dead⟩ => True
  | ⟨false, .lst ds⟩ => ∃ vs, H a = some (.lst vs) ∧ Reps K F vs ds ∧ F a = none
  | ⟨true, .lst ds⟩ => ∃ vs, F a = some (.lst vs) ∧ Reps K F vs ds
  | ⟨_, .dK kvs⟩ => ∃ ks : List (Key × V), H a = some (.dK ks) ∧ F a = none ∧ Paired (fun (p : Key × V) (q : D × D) => Rep K F (kV p.1) q.1 ∧ Rep K F p.2 q.2) ks kvs
  | ⟨_, .dT kvs⟩ => ∃ ks : List (List Key × V), H a = some (.dT ks) ∧ F a = none ∧ Paired (fun (p : List Key × V) (q : D × D) => (∃ es, q.1 = .tup es ∧ Reps K F (p.1.map kV) es) ∧ Rep K F p.2 q.2) ks kvs
def Cell.live : Cell → Prop
  | ⟨_, .dead⟩ => False
  | _ => True

structure Sim (K : Frag) (F : Hp) (m : List Addr) (μ : Mu) (H : Hp) : Prop where
  len : m.length = μ.length
  sub : Same F H
  cell : ∀ (i : Nat) a c, m[i]? = some a → μ[i]? = some c → CellOk K F H a c
  inj : ∀ (i j : Nat) a c c', m[i]? = some a → m[j]? = some a → μ[i]? = some c → μ[j]? = some c' → c.live → c'.live → i = j

/-- a tuple that was made here -/
def RepT (K : Frag) (F : Hp) (v : V) : D → Prop
  | .tup ds => ∃ a vs, v = .ref a ∧ F a = some (.tup vs) ∧ Reps K F vs ds
  | d => Rep K F v d
theorem RepT.rep {K : Frag} {F : Hp} {v : V} {d : D} (h : RepT K F v d) : Rep K F v d := by
  cases d with
  | tup ds =>
    obtain ⟨a, vs, rfl, h1, h2⟩ := h
    exact .tup (.of h1) h2
  | _ => exact h
theorem RepT.mono {K : Frag} {F F' : Hp} {v : V} {d : D} (s : Same F F') (h : RepT K F v d) : RepT K F' v d := by
  cases d with
  | tup ds =>
    obtain ⟨a, vs, e1, h1, h2⟩ := h
    exact ⟨a, vs, e1, s _ _ h1, h2.mono s⟩
  | _ => exact Rep.mono s h
def RepA (K : Frag) (F : Hp) (m : List Addr) : V → A → Prop
  | v, .v d => Rep K F v d
  | v, .t d => RepT K F v d
  | v, .c n => ∃ a, m[n]? = some a ∧ v = .ref a
theorem RepA.mono {K : Frag} {F F' : Hp} {m : List Addr} (s : Same F F') {v : V} {a : A} (h : RepA K F m v a) : RepA K F' m v a := by
  cases a with
  | v d => exact Rep.mono s h
  | t d => exact RepT.mono s h
  | c n => exact h
/-- a list of arguments -/
abbrev RepAs (K : Frag) (F : Hp) (m : List Addr) : List V → List A → Prop := Paired (RepA K F m)
theorem RepAs.mono {K : Frag} {F F' : Hp} {m : List Addr} (s : Same F F') : ∀ {vs : List V} {as : List A}, RepAs K F m vs as → RepAs K F' m vs as
  | _, _, .nil => .nil
  | _, _, .cons a b => .cons (a.mono s) (RepAs.mono s b)
/-- the slots -/
structure RepS (K : Frag) (F : Hp) (m : List Addr) (σ : L2.St) (ρ : Env) : Prop where
  len : σ.length = ρ.length
  get : ∀ (i : Nat) a, ρ[i]? = some (some a) → ∃ v, σ[i]? = some (some v) ∧ RepA K F m v a
theorem RepS.mono {K : Frag} {F F' : Hp} {m : List Addr} {σ : L2.St} {ρ : Env} (s : Same F F') (h : RepS K F m σ ρ) : RepS K F' m σ ρ :=
  ⟨h.len, fun i a e => let ⟨v, e1, r⟩ := h.get i a e; ⟨v, e1, r.mono s⟩⟩

/-- what stands there now -/
def Rn (K : Frag) (F H : Hp) (v : V) (d : D) : Prop := Rep K F v d ∨ ∃ a vs ds, v = .ref a ∧ d = .lst ds ∧ H a = some (.lst vs) ∧ Reps K F vs ds
theorem Sim.dr {K : Frag} {F H : Hp} {m : List Addr} {μ : Mu} (S : Sim K F m μ H) {v : V} {a : A} {d : D} (r : RepA K F m v a) (e : Wp.dr μ a = some d) : Rn K F H v d := by
  cases a with
  | v d' =>
    cases e
    exact .inl r
  | t d' =>
    cases e
    exact .inl (RepT.rep r)
  | c n =>
    obtain ⟨a, ea, rfl⟩ := r
    have e : (match μ[n]? with
      | some ⟨_, .lst xs⟩ => some (.lst xs)
      | _ => none) = some d := e
    split at e
    · rename_i fz xs ec
      cases e
      have h := S.cell n a _ ea ec
      cases fz with
      | false =>
        obtain ⟨vs, h1, h2, _⟩ := h
        exact .inr ⟨a, vs, xs, rfl, rfl, h1, h2⟩
      | true =>
        obtain ⟨vs, h1, h2⟩ := h
        exact .inr ⟨a, vs, xs, rfl, rfl, S.sub _ _ h1, h2⟩
    · cases e
theorem Sim.lstH {K : Frag} {F H : Hp} {m : List Addr} {μ : Mu} (S : Sim K F m μ H) {v : V} {ds : List D} (r : Rn K F H v (.lst ds)) : ∃ a vs, v = .ref a ∧ H a = some (.lst vs) ∧ Reps K F vs ds := by
  rcases r with r | ⟨a, vs, ds', rfl, e, h1, h2⟩
  · cases r with
    | lst h rs => exact ⟨_, _, rfl, S.sub _ _ h, rs⟩
  · cases e
    exact ⟨a, vs, rfl, h1, h2⟩
theorem Sim.seqL {K : Frag} {F H : Hp} {m : List Addr} {μ : Mu} (S : Sim K F m μ H) {v : V} {ds : List D} (r : Rn K F H v (.lst ds)) : ∃ a vs, v = .ref a ∧ SqL K H a vs ∧ Reps K F vs ds :=
  let ⟨a, vs, e, h, q⟩ := S.lstH r
  ⟨a, vs, e, .of h, q⟩
theorem Sim.seqT {K : Frag} {F H : Hp} {m : List Addr} {μ : Mu} (S : Sim K F m μ H) {v : V} {ds : List D} (r : Rn K F H v (.tup ds)) : ∃ a vs, v = .ref a ∧ SqT K H a vs ∧ Reps K F vs ds := by
  rcases r with r | ⟨a, vs, ds', rfl, e, h1, h2⟩
  · cases r with
    | tup h rs => exact ⟨_, _, rfl, same_tup S.sub h, rs⟩
  · cases e
theorem Rn.int {K : Frag} {F H : Hp} {v : V} {i : Int} (r : Rn K F H v (.int i)) : v = .int i := by
  rcases r with r | ⟨a, vs, ds', rfl, e, h1, h2⟩
  · cases r; rfl
  · cases e
theorem Rn.bl {K : Frag} {F H : Hp} {v : V} {i : Bool} (r : Rn K F H v (.bl i)) : v = .bl i := by
  rcases r with r | ⟨a, vs, ds', rfl, e, h1, h2⟩
  · cases r; rfl
  · cases e
theorem Rn.str {K : Frag} {F H : Hp} {v : V} {i : Tx} (r : Rn K F H v (.str i)) : v = .str (sx i) := by
  rcases r with r | ⟨a, vs, ds', rfl, e, h1, h2⟩
  · cases r; rfl
  · cases e
theorem Rn.non {K : Frag} {F H : Hp} {v : V} (r : Rn K F H v .non) : v = .non := by
  rcases r with r | ⟨a, vs, ds', rfl, e, h1, h2⟩
  · cases r; rfl
  · cases e

/-- a new list, not yet frozen; other data as they are -/
def RepN (K : Frag) (F : Hp) (m : List Addr) (μ : Mu) (H : Hp) (v : V) : D → Prop
  | .lst ds => ∃ a vs, v = .ref a ∧ H a = some (.lst vs) ∧ Reps K F vs ds ∧ F a = none ∧ ∀ (i : Nat) c, m[i]? = some a → μ[i]? = some c → ¬ c.live
  | d => Rep K F v d
def RepR (K : Frag) (new : Md) (F : Hp) (m : List Addr) (μ : Mu) (H : Hp) (v : V) (a : A) : Prop := match new, a with
  | .n, .v d => RepN K F m μ H v d
  | .t, .v d => RepT K F v d
  | .v, a => RepA K F m v a
  | _, _ => False

theorem same_upd {F : Hp} {p : Addr} {o : HO} (h : F p = none) : Same F (upd F p o) := fun b x e => by
  rw [upd_ne (ne_of_none e h)]
  exact e
theorem same_upd2 {F H : Hp} {p : Addr} {o : HO} (s : Same F H) (h : F p = none) : Same F (upd H p o) := fun b x e => by
  rw [upd_ne (ne_of_none e h)]
  exact s b x e
theorem mem_of_getm {m : List Addr} {i : Nat} {a : Addr} (h : m[i]? = some a) : a ∈ m := List.mem_of_getElem? h

theorem Paired.imp {α β : Type} {R S : α → β → Prop} : ∀ {l : List α} {l' : List β}, Paired R l l' → (∀ a b, R a b → S a b) → Paired S l l'
  | _, _, .nil, _ => .nil
  | _, _, .cons r t, f => .cons (f _ _ r) (Paired.imp t f)

theorem CellOk.mono {K : Frag} {F F' H H' : Hp} {a : Addr} {c : Cell} (s : Same F F') (h : CellOk K F H a c) (hH : ∀ o, H a = some o → H' a = some o) (hF : F a = none → F' a = none) : CellOk K F' H' a c := by
  obtain ⟨fz, c⟩ := c
  cases c with
  | dead => trivial
  | lst ds =>
    cases fz with
    | false =>
      obtain ⟨vs, h1, h2, h3⟩ := h
      exact ⟨vs, hH _ h1, h2.mono s, hF h3⟩
    | true =>
      obtain ⟨vs, h1, h2⟩ := h
      exact ⟨vs, s _ _ h1, h2.mono s⟩
  | dK kvs =>
    cases fz <;>
    · obtain ⟨ks, h1, h2, h3⟩ := h
      exact ⟨ks, hH _ h1, hF h2, Paired.imp h3 fun _ _ z => ⟨z.1.mono s, z.2.mono s⟩⟩
  | dT kvs =>
    cases fz <;>
    · obtain ⟨ks, h1, h2, h3⟩ := h
      exact ⟨ks, hH _ h1, hF h2, Paired.imp h3 fun _ _ z => ⟨let ⟨es, e, q⟩ := z.1; ⟨es, e, q.mono s⟩, z.2.mono s⟩⟩
/-- a cell's address is not a free one -/
theorem CellOk.there {K : Frag} {F H : Hp} {a : Addr} {c : Cell} (s : Same F H) (h : CellOk K F H a c) (hl : c.live) : H a ≠ none := by
  obtain ⟨fz, c⟩ := c
  cases c with
  | dead => exact hl.elim
  | lst ds =>
    cases fz with
    | false =>
      obtain ⟨vs, h1, h2, h3⟩ := h
      rw [h1]; simp
    | true =>
      obtain ⟨vs, h1, h2⟩ := h
      rw [s _ _ h1]; simp
  | dK kvs => cases fz <;> (obtain ⟨ks, h1, _⟩ := h; rw [h1]; simp)
  | dT kvs => cases fz <;> (obtain ⟨ks, h1, _⟩ := h; rw [h1]; simp)
/-- a new object, not tracked by us -/
theorem Sim.laid {K : Frag} {F H : Hp} {m : List Addr} {μ : Mu} {p : Addr} {o : HO} (S : Sim K F m μ H) (hp : H p = none) : Sim K F m μ (upd H p o) := by
  have hF : F p = none := S.sub.free hp
  refine ⟨S.len, same_upd2 S.sub hF, fun i a c e1 e2 => ?_, S.inj⟩
  by_cases hl : c.live
  · have := (S.cell i a c e1 e2).there S.sub hl
    exact (S.cell i a c e1 e2).mono (Same.refl F) (fun x e => by rw [upd_ne (ne_of_none e hp)]; exact e) id
  · obtain ⟨fz, c⟩ := c
    cases c with
    | dead => trivial
    | _ => exact (hl trivial).elim
/-- .. a new frozen object -/
theorem Sim.frozen {K : Frag} {F H : Hp} {m : List Addr} {μ : Mu} {p : Addr} {o : HO} (S : Sim K F m μ H) (hp : H p = none) : Same F (upd F p o) ∧ Sim K (upd F p o) m μ (upd H p o) := by
  have hF : F p = none := S.sub.free hp
  have sF : Same F (upd F p o) := same_upd hF
  refine ⟨sF, S.len, fun b x e => ?_, fun i a c e1 e2 => ?_, S.inj⟩
  · by_cases hb : b = p
    · subst hb
      rw [upd_same] at e ⊢
      exact e
    · rw [upd_ne hb] at e ⊢
      exact S.sub _ _ e
  · by_cases hl : c.live
    · have ht := (S.cell i a c e1 e2).there S.sub hl
      have hap : a ≠ p := fun z => by rw [z] at ht; exact ht hp
      exact (S.cell i a c e1 e2).mono sF (fun x e => by rw [upd_ne hap]; exact e) fun z => by rw [upd_ne hap]; exact z
    · obtain ⟨fz, c⟩ := c
      cases c with
      | dead => trivial
      | _ => exact (hl trivial).elim
/-- a free address is no live cell's -/
theorem Sim.notCell {K : Frag} {F H : Hp} {m : List Addr} {μ : Mu} {p : Addr} (S : Sim K F m μ H) (hp : H p = none) (i : Nat) (c : Cell) (e1 : m[i]? = some p) (e2 : μ[i]? = some c) : ¬ c.live := fun hl =>
  (S.cell i p c e1 e2).there S.sub hl hp
/-- a new list is frozen -/
theorem Sim.freezeN {K : Frag} {F H : Hp} {m : List Addr} {μ : Mu} {v : V} {d : D} (S : Sim K F m μ H) (r : RepN K F m μ H v d) : ∃ F', Same F F' ∧ Sim K F' m μ H ∧ Rep K F' v d := by
  cases d with
  | lst ds =>
    obtain ⟨a, vs, rfl, h1, h2, h3, h4⟩ := r
    have sF : Same F (upd F a (.lst vs)) := same_upd h3
    refine ⟨upd F a (.lst vs), sF, ⟨S.len, fun b x e => ?_, fun i b c e1 e2 => ?_, S.inj⟩, .lst upd_same (h2.mono sF)⟩
    · by_cases hb : b = a
      · subst hb
        rw [upd_same] at e
        cases e
        exact h1
      · rw [upd_ne hb] at e
        exact S.sub _ _ e
    · by_cases hl : c.live
      · have hba : b ≠ a := fun z => h4 i c (z ▸ e1) e2 hl
        exact (S.cell i b c e1 e2).mono sF (fun x e => e) fun z => by rw [upd_ne hba]; exact z
      · obtain ⟨fz, c⟩ := c
        cases c with
        | dead => trivial
        | _ => exact (hl trivial).elim
  | _ => exact ⟨F, Same.refl F, S, r⟩

/-! ### readings -/
/-- an exception that lies there -/
def ExcAt (K : Frag) (F H : Hp) (c : String) (d : D) (cls : Value) (dx : Option Addr) : Prop :=
  ∃ (x : Addr) (v : V), cls = .ref (He.ga K (Str.ofString c)) ∧ dx = some x ∧ H x = some (.xd [("value", v)]) ∧ Rep K F v d
/-- behind a computation of the small language -/
def Post {α : Type} (K : Frag) (F : Hp) (m : List Addr) (k : Hp → Hp → Mu → α → Prop) (x : Hp → Hp → Mu → Value → Option Addr → Prop) : Res α → Prop
  | .ok a μ' => ∀ F' H', Same F F' → Sim K F' m μ' H' → k F' H' μ' a
  | .exc c d μ' => ∀ F' H' cls dx, Same F F' → Sim K F' m μ' H' → ExcAt K F' H' c d cls dx → x F' H' μ' cls dx
  | .no => False

/-- an expression's reading: W what is wanted of an exception -/
def tE (K : Frag) (W : WX) (new : Md) (e : E) : TE := fun σ H Q => ∃ F m μ ρ, Sim K F m μ H ∧ RepS K F m σ ρ ∧
  Post K F m (fun F' H' μ' a => ∀ v, RepR K new F' m μ' H' v a → Q v H') (fun _ H' _ cls dx => W cls dx σ H') (ev e ρ μ)
def tEs (K : Frag) (W : WX) (es : List E) : TA := fun σ H Q => ∃ F m μ ρ, Sim K F m μ H ∧ RepS K F m σ ρ ∧
  Post K F m (fun F' H' _ as => ∀ vs, RepAs K F' m vs as → Q vs H') (fun _ H' _ cls dx => W cls dx σ H') (evs es ρ μ)

theorem PE.imp {X : Cx} {e : Expr} {t t' : TE} (h : PE X e t) (i : ∀ σ H Q, t' σ H Q → t σ H Q) : PE X e t' := ⟨fun pins s σ H Q I q => h.run pins s σ H Q I (i σ H Q q)⟩
theorem PA.imp {X : Cx} {e : List Expr} {t t' : TA} (h : PA X e t) (i : ∀ σ H Q, t' σ H Q → t σ H Q) : PA X e t' := ⟨fun pos pins s σ H Q I q => h.run pos pins s σ H Q I (i σ H Q q)⟩
theorem PT.imp {X : Cx} {e : Expr} {t t' : TT} (h : PT X e t) (i : ∀ σ H Q, t' σ H Q → t σ H Q) : PT X e t' := ⟨fun pins s σ H Q I q => h.run pins s σ H Q I (i σ H Q q)⟩
theorem PW.imp {X : Cx} {e : Expr} {t t' : TT} (h : PW X e t) (i : ∀ σ H Q, t' σ H Q → t σ H Q) : PW X e t' := ⟨fun w pins s σ H Q I q => h.run w pins s σ H Q I (i σ H Q q)⟩
theorem PS.imp {X : Cx} {e : Stmt} {t t' : TS} (h : PS X e t) (i : ∀ D σ H, t' D σ H → t D σ H) : PS X e t' := ⟨fun pins s σ H D I q => h.run pins s σ H D I (i D σ H q)⟩
theorem PSs.imp {X : Cx} {e : List Stmt} {t t' : TS} (h : PSs X e t) (i : ∀ D σ H, t' D σ H → t D σ H) : PSs X e t' := ⟨fun pins s σ H D I q => h.run pins s σ H D I (i D σ H q)⟩

/-- Post through a bind -/
theorem Post.bind {α β : Type} {K : Frag} {F : Hp} {m : List Addr} {r : Res α} {f : α → Mu → Res β} {k : Hp → Hp → Mu → β → Prop} {x : Hp → Hp → Mu → Value → Option Addr → Prop}
    (h : Post K F m k x (r.bind f)) : Post K F m (fun F' H' μ' a => Post K F' m k x (f a μ')) x r := by
  cases r with
  | ok a μ' =>
    intro F' H' s S
    have h : Post K F m k x (f a μ') := h
    show Post K F' m k x (f a μ')
    cases q : f a μ' with
    | ok b μ2 =>
      rw [q] at h
      exact fun F2 H2 s2 S2 => h F2 H2 (s.trans s2) S2
    | exc c d μ2 =>
      rw [q] at h
      exact fun F2 H2 cls dx s2 S2 e => h F2 H2 cls dx (s.trans s2) S2 e
    | no =>
      rw [q] at h
      exact h
  | exc c d μ' => exact h
  | no => exact h
theorem Post.imp {α : Type} {K : Frag} {F : Hp} {m : List Addr} {r : Res α} {k k' : Hp → Hp → Mu → α → Prop} {x x' : Hp → Hp → Mu → Value → Option Addr → Prop}
    (h : Post K F m k x r) (hk : ∀ F' H' μ' a, Same F F' → Sim K F' m μ' H' → k F' H' μ' a → k' F' H' μ' a) (hx : ∀ F' H' μ' c d, x F' H' μ' c d → x' F' H' μ' c d) : Post K F m k' x' r := by
  cases r with
  | ok a μ' => exact fun F' H' s S => hk _ _ _ _ s S (h F' H' s S)
  | exc c d μ' => exact fun F' H' cls dx s S e => hx _ _ _ _ _ (h F' H' cls dx s S e)
  | no => exact h
theorem Post.ok {α : Type} {K : Frag} {F : Hp} {m : List Addr} {a : α} {μ : Mu} {H : Hp} {k : Hp → Hp → Mu → α → Prop} {x : Hp → Hp → Mu → Value → Option Addr → Prop} (h : Post K F m k x (.ok a μ)) (S : Sim K F m μ H) : k F H μ a := h F H (Same.refl F) S
end Wp

set_option Elab.async false
set_option linter.all false
set_option maxRecDepth 100000
set_option autoImplicit true
/-! W1b: the rules for expressions. -/
namespace Wp
open PySem PySem.Spec PyProof.Rows L2

abbrev LA := List Wp.A
section
variable {X : Cx} {W : WX} {e a b : Expr} {es : List Expr} {A B : E} {pos : Pos}

theorem okE_var {i : Nat} {x : Str} (hN : X.N[i]? = some x) (hv : Vis X.env.scope x) (hd : (x == ("__debug__" : Str)) = false) (hcd : (x == ("__classdict__" : Str)) = false) :
    PE X (.Name x pos) (tE X.K W .v (.var i)) := by
  refine PE.imp (pe_var hN hv hd hcd) fun σ H Q h => ?_
  obtain ⟨F, m, μ, ρ, S, R, h⟩ := h
  unfold ev at h
  split at h
  · rename_i y e1
    obtain ⟨v, e2, r⟩ := R.get i y e1
    exact ⟨v, e2, h F H (Same.refl F) S v r⟩
  · exact h.elim
/-- a constant value -/
theorem okE_k {d : D} {v : V} (h : PE X e (tC v)) (r : ∀ F, Rep X.K F v d) : PE X e (tE X.K W .v (.k d)) := by
  refine PE.imp h fun σ H Q h => ?_
  obtain ⟨F, m, μ, ρ, S, R, h⟩ := h
  exact h F H (Same.refl F) S v (r F)
/-- forgetting that it is new -/
theorem n2e (h : PE X e (tE X.K W .n A)) : PE X e (tE X.K W .v A) := by
  refine PE.imp h fun σ H Q h => ?_
  obtain ⟨F, m, μ, ρ, S, R, h⟩ := h
  refine ⟨F, m, μ, ρ, S, R, ?_⟩
  cases q : ev A ρ μ with
  | no => rw [q] at h; exact h
  | exc c d μ' => rw [q] at h; exact h
  | ok a μ' =>
    rw [q] at h
    intro F' H' s S' v r
    cases a with
    | c n => exact (show False from r).elim
    | t n => exact (show False from r).elim
    | v d =>
      obtain ⟨F2, s2, S2, r2⟩ := S'.freezeN (show RepN X.K F' m μ' H' v d from r)
      exact h F2 H' (s.trans s2) S2 v r2
/-- forgetting that it was made here -/
theorem t2e (h : PE X e (tE X.K W .t A)) : PE X e (tE X.K W .v A) := by
  refine PE.imp h fun σ H Q h => ?_
  obtain ⟨F, m, μ, ρ, S, R, h⟩ := h
  refine ⟨F, m, μ, ρ, S, R, ?_⟩
  cases q : ev A ρ μ with
  | no => rw [q] at h; exact h
  | exc c d μ' => rw [q] at h; exact h
  | ok a μ' =>
    rw [q] at h
    intro F' H' s S' v r
    cases a with
    | c n => exact (show False from r).elim
    | t n => exact (show False from r).elim
    | v d => exact h F' H' s S' v (RepT.rep (show RepT X.K F' v d from r))

/-! ### lists of expressions -/
theorem okEs_nil : PA X [] (tEs X.K W []) := by
  refine PA.imp pa_nil fun σ H Q h => ?_
  obtain ⟨F, m, μ, ρ, S, R, h⟩ := h
  exact h F H (Same.refl F) S [] .nil
theorem tEs_cons {A : E} {As : List E} {K : Frag} {σ : L2.St} {H : Hp} {Q : List V → Hp → Prop} (h : tEs K W (A :: As) σ H Q) :
    tE K W .v A σ H fun x H1 => tEs K W As σ H1 fun xs H2 => Q (x :: xs) H2 := by
  obtain ⟨F, m, μ, ρ, S, R, h⟩ := h
  refine ⟨F, m, μ, ρ, S, R, ?_⟩
  unfold evs at h
  refine (h.bind).imp (fun F' H' μ' x s S' q v r => ?_) fun _ _ _ _ _ x => x
  refine ⟨F', m, μ', ρ, S', R.mono s, ?_⟩
  refine (q.bind).imp (fun F2 H2 μ2 as s2 S2 q2 vs rs => ?_) fun _ _ _ _ _ x => x
  exact q2.ok S2 (v :: vs) (.cons (RepA.mono s2 r) rs)
theorem okEs_cons {As : List E} (ha : PE X e (tE X.K W .v A)) (hr : PA X es (tEs X.K W As)) (hs : starEach (e :: es) X.env = (false, eval e X.env) :: starEach es X.env) : PA X (e :: es) (tEs X.K W (A :: As)) :=
  PA.imp (pa_cons ha hr hs) fun _ _ _ h => tEs_cons h
theorem tEs_two {K : Frag} {σ : L2.St} {H : Hp} {Q : List V → Hp → Prop} (h : tEs K W [A, B] σ H Q) : tE K W .v A σ H fun x H1 => tE K W .v B σ H1 fun y H2 => Q [x, y] H2 := by
  obtain ⟨F, m, μ, ρ, S, R, h⟩ := tEs_cons h
  refine ⟨F, m, μ, ρ, S, R, h.imp (fun F' H' μ' x s S' q v r => ?_) fun _ _ _ _ _ x => x⟩
  obtain ⟨F1, m1, μ1, ρ1, S1, R1, h1⟩ := tEs_cons (q v r)
  refine ⟨F1, m1, μ1, ρ1, S1, R1, h1.imp (fun F2 H2 μ2 y s2 S2 q2 w r2 => ?_) fun _ _ _ _ _ x => x⟩
  obtain ⟨F3, m3, μ3, ρ3, S3, R3, h3⟩ := q2 w r2
  exact h3.ok S3 [] .nil
theorem tEs_one {K : Frag} {σ : L2.St} {H : Hp} {Q : List V → Hp → Prop} (h : tEs K W [A] σ H Q) : tE K W .v A σ H fun x H1 => Q [x] H1 := by
  obtain ⟨F, m, μ, ρ, S, R, h⟩ := tEs_cons h
  refine ⟨F, m, μ, ρ, S, R, h.imp (fun F' H' μ' x s S' q v r => ?_) fun _ _ _ _ _ x => x⟩
  obtain ⟨F3, m3, μ3, ρ3, S3, R3, h3⟩ := q v r
  exact h3.ok S3 [] .nil

/-! ### operations on values -/
/-- the values' rule rr does what p says -/
def PrimN (K : Frag) (new : Md) (rr : List V → Hp → VK → Prop) (p : Pr) : Prop :=
  ∀ (F : Hp) (m : List Addr) (μ : Mu) (H : Hp) (vs : List V) (ds : List D) (res : D) (Q : VK), Sim K F m μ H → Paired (Rn K F H) vs ds → p ds = some res →
    (∀ F' H' v, Same F F' → Sim K F' m μ H' → RepR K new F' m μ H' v (.v res) → Q v H') → rr vs H Q
theorem drs_rel {K : Frag} {F H : Hp} {m : List Addr} {μ : Mu} (S : Sim K F m μ H) : ∀ {vs : List V} {as : LA} {ds : List D}, RepAs K F m vs as → drs μ as = some ds → Paired (Rn K F H) vs ds
  | _, _, _, .nil, e => by cases e; exact .nil
  | _, _, _, .cons r rs, e => by
    unfold drs at e
    split at e
    · rename_i d ds' e1 e2
      cases e
      exact .cons (S.dr r e1) (drs_rel S rs e2)
    · cases e
theorem vals_rel {K : Frag} {F : Hp} {m : List Addr} : ∀ {vs : List V} {as : LA} {ds : List D}, RepAs K F m vs as → vals as = some ds → Reps K F vs ds
  | _, _, _, .nil, e => by cases e; exact .nil
  | _, _, _, @Paired.cons _ _ _ v a vs as r rs, e => by
    cases a with
    | c n => cases e
    | v d =>
      unfold vals at e
      split at e
      · rename_i ds' e1
        cases e
        exact .cons r (vals_rel rs e1)
      · cases e
    | t d =>
      unfold vals at e
      split at e
      · rename_i ds' e1
        cases e
        exact .cons (RepT.rep r) (vals_rel rs e1)
      · cases e
theorem tE_prim {K : Frag} {new : Md} {p : P} {As : List E} {rr : List V → Hp → VK → Prop} (hp : PrimN K new rr p.f) {σ : L2.St} {H : Hp} {Q : VK} (h : tE K W new (.prim p As) σ H Q) :
    tEs K W As σ H fun vs H1 => rr vs H1 Q := by
  obtain ⟨F, m, μ, ρ, S, R, h⟩ := h
  unfold ev at h
  refine ⟨F, m, μ, ρ, S, R, (h.bind).imp (fun F' H' μ' as s S' q vs rs => ?_) fun _ _ _ _ _ x => x⟩
  cases e1 : drs μ' as with
  | none => rw [e1] at q; exact (show False from q).elim
  | some ds =>
    rw [e1] at q
    cases e2 : p.f ds with
    | none =>
      have q : Post K F' m _ _ ((optR (p.f ds) μ').bind _) := q
      rw [e2] at q
      exact (show False from q).elim
    | some res =>
      have q : Post K F' m _ _ ((optR (p.f ds) μ').bind _) := q
      rw [e2] at q
      exact hp F' m μ' H' vs ds res Q S' (drs_rel S' rs e1) e2 fun F2 H2 v s2 S2 r => q F2 H2 s2 S2 v r
/-- an operator's rule, by values -/
def rr2 (r : R2) : List V → Hp → VK → Prop := fun vs H Q => ∃ x y, vs = [x, y] ∧ r x y H Q
theorem okE_op {op : Operator} {r : R2} {p : P} {new : Md} (ho : OpR X (binaryOp op) r) (hp : PrimN X.K new (rr2 r) p.f) (ha : PE X a (tE X.K W .v A)) (hb : PE X b (tE X.K W .v B)) :
    PE X (.BinOp a op b pos) (tE X.K W new (.prim p [A, B])) := by
  refine PE.imp (pe_op ho ha hb) fun σ H Q h => ?_
  obtain ⟨F, m, μ, ρ, S, R, h⟩ := tEs_two (tE_prim hp h)
  refine ⟨F, m, μ, ρ, S, R, h.imp (fun F' H' μ' x s S' q v r1 => ?_) fun _ _ _ _ _ x => x⟩
  obtain ⟨F1, m1, μ1, ρ1, S1, R1, h1⟩ := q v r1
  refine ⟨F1, m1, μ1, ρ1, S1, R1, h1.imp (fun F2 H2 μ2 y s2 S2 q2 w r2 => ?_) fun _ _ _ _ _ x => x⟩
  obtain ⟨x', y', e, h⟩ := q2 w r2
  cases e
  exact h
theorem okE_cmp {op : CmpOp} {r : R2} {p : P} {new : Md} (ho : OpR X (compareOp op) r) (hp : PrimN X.K new (rr2 r) p.f) (ha : PE X a (tE X.K W .v A)) (hb : PE X b (tE X.K W .v B)) (hm : behindInMarks op b = false) :
    PE X (.Compare a [op] [b] pos) (tE X.K W new (.prim p [A, B])) := by
  refine PE.imp (pe_cmpR ho ha hb hm) fun σ H Q h => ?_
  obtain ⟨F, m, μ, ρ, S, R, h⟩ := tEs_two (tE_prim hp h)
  refine ⟨F, m, μ, ρ, S, R, h.imp (fun F' H' μ' x s S' q v r1 => ?_) fun _ _ _ _ _ x => x⟩
  obtain ⟨F1, m1, μ1, ρ1, S1, R1, h1⟩ := q v r1
  refine ⟨F1, m1, μ1, ρ1, S1, R1, h1.imp (fun F2 H2 μ2 y s2 S2 q2 w r2 => ?_) fun _ _ _ _ _ x => x⟩
  obtain ⟨x', y', e, h⟩ := q2 w r2
  cases e
  exact h

/-- one operand -/
def rr1 (r : V → Hp → VK → Prop) : List V → Hp → VK → Prop := fun vs H Q => ∃ x, vs = [x] ∧ r x H Q
theorem tE_one {K : Frag} {r : V → Hp → VK → Prop} {σ : L2.St} {H : Hp} {Q : VK} (h : tEs K W [A] σ H fun vs H1 => rr1 r vs H1 Q) : tE K W .v A σ H fun x H1 => r x H1 Q := by
  obtain ⟨F, m, μ, ρ, S, R, h⟩ := tEs_one h
  refine ⟨F, m, μ, ρ, S, R, h.imp (fun F' H' μ' x s S' q v r1 => ?_) fun _ _ _ _ _ x => x⟩
  obtain ⟨x', e, h⟩ := q v r1
  cases e
  exact h
theorem okE_un {op : UnaryOp} {r : V → Hp → VK → Prop} {p : P} {new : Md} (ho : UnR X (unaryOp op) r) (hp : PrimN X.K new (rr1 r) p.f) (ha : PE X a (tE X.K W .v A)) :
    PE X (.UnaryOp op a pos) (tE X.K W new (.prim p [A])) := PE.imp (pe_un ho ha) fun _ _ _ h => tE_one (tE_prim hp h)

/-! ### truth -/
theorem tru_rel {K : Frag} {F H : Hp} {m : List Addr} {μ : Mu} (S : Sim K F m μ H) {v : V} {d : D} {b : Bool} (r : Rn K F H v d) (e : tru d = some b) : TruV K v H b := by
  cases d with
  | non =>
    cases r.non
    cases e
    exact rfl
  | bl c =>
    cases r.bl
    cases e
    exact rfl
  | int i =>
    cases r.int
    cases e
    exact rfl
  | str x =>
    cases r.str
    have e : (if x.length ≤ SL then some (!x.isEmpty) else none) = some b := e
    split at e
    · rename_i hl
      cases e
      refine ⟨by show (sx x).cps.size ≤ _; simpa [sx, sizeLine_eq, SL] using hl, ?_⟩
      show (!x.isEmpty) = (((sx x).cps.size : Int) != 0)
      cases x with
      | nil => rfl
      | cons c l =>
        have h1 : (((sx (c :: l)).cps.size : Nat) : Int) ≠ 0 := by simp only [sx, List.size_toArray, List.length_cons]; omega
        have h2 : ((((sx (c :: l)).cps.size : Nat) : Int) != 0) = true := by simpa using h1
        rw [h2]; rfl
    · cases e
  | tup xs =>
    obtain ⟨a, vs, rfl, h1, h2⟩ := S.seqT r
    cases e
    refine .inr (.inl ⟨vs, h1, ?_⟩)
    cases h2 <;> rfl
  | lst xs =>
    obtain ⟨a, vs, rfl, h1, h2⟩ := S.seqL r
    cases e
    refine .inl ⟨vs, h1, ?_⟩
    cases h2 <;> rfl
  | fn x => cases e
  | exc c v => cases e
  | frz xs => cases e

/-- a test's reading -/
def tT (K : Frag) (W : WX) (e : E) : TT := fun σ H Q => ∃ F m μ ρ, Sim K F m μ H ∧ RepS K F m σ ρ ∧
  Post K F m (fun _ H' _ b => Q b H') (fun _ H' _ cls dx => W cls dx σ H') (evT e ρ μ)
/-- an expression, as a value and as a test -/
structure Ok (X : Cx) (W : WX) (x : Expr) (A : E) : Prop where
  ve : PE X x (tE X.K W .v A)
  te : PT X x (tT X.K W A)
/-- a chain of and, or -/
structure OkW (X : Cx) (W : WX) (x : Expr) (A : E) : Prop where
  ve : PE X x (tE X.K W .v A)
  te : PW X x (tT X.K W A)
theorem OkW.ok {x : Expr} (h : OkW X W x A) : Ok X W x A := ⟨h.ve, h.te.pt⟩
theorem tT_tE {K : Frag} {σ : L2.St} {H : Hp} {Q : Bool → Hp → Prop} (h : tT K W A σ H Q) : tE K W .v A σ H fun x H1 => ∃ k, TruV K x H1 k ∧ Q k H1 := by
  obtain ⟨F, m, μ, ρ, S, R, h⟩ := h
  unfold evT at h
  refine ⟨F, m, μ, ρ, S, R, (h.bind).imp (fun F' H' μ' x s S' q v r => ?_) fun _ _ _ _ _ x => x⟩
  cases e1 : dr μ' x with
  | none => rw [e1] at q; exact (show False from q).elim
  | some d =>
    rw [e1] at q
    cases e2 : tru d with
    | none =>
      have q : Post K F' m _ _ (optR (tru d) μ') := q
      rw [e2] at q
      exact (show False from q).elim
    | some b =>
      have q : Post K F' m _ _ (optR (tru d) μ') := q
      rw [e2] at q
      exact ⟨b, tru_rel S' (S'.dr r e1) e2, q.ok S'⟩
/-- a form that has no test of its own -/
theorem Ok.plain (h : PE X e (tE X.K W .v A)) (he : ∀ whole, isTrue e X.env whole = (do let v ← whole; standAt e.pos; holding [v] (truthy v))) : Ok X W e A :=
  ⟨h, PT.imp (pt_truth h he) fun _ _ _ q => tT_tE q⟩
/-- a comparison -/
theorem ok_cmp {op : CmpOp} {r : R2} {p : P} (ho : OpR X (compareOp op) r) (hp : PrimN X.K .v (rr2 r) p.f) (hb' : ∀ ds d, p.f ds = some d → ∃ b, d = .bl b) (ha : PE X a (tE X.K W .v A)) (hb : PE X b (tE X.K W .v B)) (hm : behindInMarks op b = false) :
    Ok X W (.Compare a [op] [b] pos) (.prim p [A, B]) := by
  refine ⟨okE_cmp ho hp ha hb hm, PT.imp (pt_cmpR ho ha hb hm) fun σ H Q h => ?_⟩
  have h1 : tE X.K W .v (.prim p [A, B]) σ H fun x H1 => ∃ k, x = V.bl k ∧ Q k H1 := by
    obtain ⟨F, m, μ, ρ, S, R, h⟩ := h
    refine ⟨F, m, μ, ρ, S, R, ?_⟩
    unfold evT at h
    have h2 := h.bind
    cases q : ev (.prim p [A, B]) ρ μ with
    | no => rw [q] at h2; exact h2
    | exc c d μ' => rw [q] at h2; exact h2
    | ok x μ' =>
      rw [q] at h2
      obtain ⟨b, rfl⟩ : ∃ b, x = .v (.bl b) := by
        unfold ev at q
        cases q1 : evs [A, B] ρ μ with
        | no => rw [q1] at q; cases q
        | exc c d μ' => rw [q1] at q; cases q
        | ok as μ1 =>
          rw [q1] at q
          have q : ((optR ((drs μ1 as).bind p.f) μ1).bind fun d μ2 => Res.ok (Wp.A.v d) μ2) = .ok x μ' := q
          cases q2 : (drs μ1 as).bind p.f with
          | none => rw [q2] at q; cases q
          | some d =>
            rw [q2] at q
            have q : Res.ok (Wp.A.v d) μ1 = .ok x μ' := q
            cases q
            cases q3 : drs μ' as with
            | none => rw [q3] at q2; cases q2
            | some ds =>
              rw [q3] at q2
              obtain ⟨b, rfl⟩ := hb' ds d q2
              exact ⟨b, rfl⟩
      intro F' H' s S' v r
      have h3 := h2 F' H' s S'
      cases (show Rep X.K F' v (.bl b) from r)
      exact ⟨b, rfl, h3.ok S'⟩
  obtain ⟨F, m, μ, ρ, S, R, h⟩ := tEs_two (tE_prim hp h1)
  refine ⟨F, m, μ, ρ, S, R, h.imp (fun F' H' μ' x s S' q v r1 => ?_) fun _ _ _ _ _ x => x⟩
  obtain ⟨F1, m1, μ1, ρ1, S1, R1, h1⟩ := q v r1
  refine ⟨F1, m1, μ1, ρ1, S1, R1, h1.imp (fun F2 H2 μ2 y s2 S2 q2 w r2 => ?_) fun _ _ _ _ _ x => x⟩
  obtain ⟨x', y', e, h⟩ := q2 w r2
  cases e
  exact h

theorem rep_tru {K : Frag} {F H : Hp} {m : List Addr} {μ : Mu} (S : Sim K F m μ H) {v : V} {x : Wp.A} {b : Bool} (r : RepA K F m v x) (e : (dr μ x).bind tru = some b) : TruV K v H b := by
  cases e1 : dr μ x with
  | none => rw [e1] at e; cases e
  | some d => rw [e1] at e; exact tru_rel S (S.dr r e1) e
theorem ok_and1 (ha : Ok X W a A) : OkW X W (.BoolOp .And [a] pos) A := ⟨pe_one ha.ve, pw_and1 ha.te⟩
theorem ok_or1 (ha : Ok X W a A) : OkW X W (.BoolOp .Or [a] pos) A := ⟨pe_one ha.ve, pw_or1 ha.te⟩
/-- the test's value twice asked -/
theorem evT_and (A B : E) (ρ : Env) (μ : Mu) : evT (.and A B) ρ μ = (evT A ρ μ).bind fun b μ1 => if b then evT B ρ μ1 else .ok false μ1 := by
  unfold evT
  rw [ev]
  cases ev A ρ μ with
  | no => rfl
  | exc c d μ1 => rfl
  | ok x μ1 =>
    show (Res.bind (match (dr μ1 x).bind tru with | some true => ev B ρ μ1 | some false => .ok x μ1 | none => .no) _) = Res.bind (optR ((dr μ1 x).bind tru) μ1) _
    cases q : (dr μ1 x).bind tru with
    | none => rfl
    | some b =>
      cases b with
      | true => rfl
      | false =>
        show optR ((dr μ1 x).bind tru) μ1 = Res.ok false μ1
        rw [q]; rfl
theorem evT_or (A B : E) (ρ : Env) (μ : Mu) : evT (.or A B) ρ μ = (evT A ρ μ).bind fun b μ1 => if b then .ok true μ1 else evT B ρ μ1 := by
  unfold evT
  rw [ev]
  cases ev A ρ μ with
  | no => rfl
  | exc c d μ1 => rfl
  | ok x μ1 =>
    show (Res.bind (match (dr μ1 x).bind tru with | some true => .ok x μ1 | some false => ev B ρ μ1 | none => .no) _) = Res.bind (optR ((dr μ1 x).bind tru) μ1) _
    cases q : (dr μ1 x).bind tru with
    | none => rfl
    | some b =>
      cases b with
      | false => rfl
      | true =>
        show optR ((dr μ1 x).bind tru) μ1 = Res.ok true μ1
        rw [q]; rfl
theorem evT_ife (C A B : E) (ρ : Env) (μ : Mu) : evT (.ife C A B) ρ μ = (evT C ρ μ).bind fun b μ1 => if b then evT A ρ μ1 else evT B ρ μ1 := by
  unfold evT
  rw [ev]
  cases ev C ρ μ with
  | no => rfl
  | exc c d μ1 => rfl
  | ok x μ1 =>
    show (Res.bind (match (dr μ1 x).bind tru with | some true => ev A ρ μ1 | some false => ev B ρ μ1 | none => .no) _) = Res.bind (optR ((dr μ1 x).bind tru) μ1) _
    cases q : (dr μ1 x).bind tru with
    | none => rfl
    | some b => cases b <;> rfl
theorem ok_and {rest : List Expr} (ha : Ok X W a A) (hb : OkW X W (.BoolOp .And (b :: rest) pos) B) : OkW X W (.BoolOp .And (a :: b :: rest) pos) (.and A B) := by
  refine ⟨PE.imp (pe_andT ha.ve hb.ve) fun σ H Q h => ?_, PW.imp (pw_and ha.te hb.te) fun σ H Q h => ?_⟩
  · obtain ⟨F, m, μ, ρ, S, R, h⟩ := h
    unfold ev at h
    refine ⟨F, m, μ, ρ, S, R, (h.bind).imp (fun F' H' μ' x s S' q v r => ?_) fun _ _ _ _ _ x => x⟩
    cases e1 : (dr μ' x).bind tru with
    | none => rw [e1] at q; exact (show False from q).elim
    | some k =>
      rw [e1] at q
      refine ⟨k, rep_tru S' r e1, ?_⟩
      cases k with
      | true => exact ⟨F', m, μ', ρ, S', R.mono s, q⟩
      | false => exact Post.ok q S' v r
  · obtain ⟨F, m, μ, ρ, S, R, h⟩ := h
    rw [evT_and] at h
    refine ⟨F, m, μ, ρ, S, R, (h.bind).imp (fun F' H' μ' k s S' q => ?_) fun _ _ _ _ _ x => x⟩
    cases k with
    | true => exact ⟨F', m, μ', ρ, S', R.mono s, q⟩
    | false => exact Post.ok q S'
theorem ok_or {rest : List Expr} (ha : Ok X W a A) (hb : OkW X W (.BoolOp .Or (b :: rest) pos) B) : OkW X W (.BoolOp .Or (a :: b :: rest) pos) (.or A B) := by
  refine ⟨PE.imp (pe_orT ha.ve hb.ve) fun σ H Q h => ?_, PW.imp (pw_or ha.te hb.te) fun σ H Q h => ?_⟩
  · obtain ⟨F, m, μ, ρ, S, R, h⟩ := h
    unfold ev at h
    refine ⟨F, m, μ, ρ, S, R, (h.bind).imp (fun F' H' μ' x s S' q v r => ?_) fun _ _ _ _ _ x => x⟩
    cases e1 : (dr μ' x).bind tru with
    | none => rw [e1] at q; exact (show False from q).elim
    | some k =>
      rw [e1] at q
      refine ⟨k, rep_tru S' r e1, ?_⟩
      cases k with
      | false => exact ⟨F', m, μ', ρ, S', R.mono s, q⟩
      | true => exact Post.ok q S' v r
  · obtain ⟨F, m, μ, ρ, S, R, h⟩ := h
    rw [evT_or] at h
    refine ⟨F, m, μ, ρ, S, R, (h.bind).imp (fun F' H' μ' k s S' q => ?_) fun _ _ _ _ _ x => x⟩
    cases k with
    | false => exact ⟨F', m, μ', ρ, S', R.mono s, q⟩
    | true => exact Post.ok q S'
/-- a if c else b, as a test -/
theorem pt_ifExp {c : Expr} {tc ta tb : TT} (hc : PT X c tc) (ha : PT X a ta) (hb : PT X b tb) : PT X (.IfExp c a b pos) (fun σ H Q => tc σ H fun k H1 => if k = true then ta σ H1 Q else tb σ H1 Q) := by
  refine ⟨fun pins s σ H Q I h => ?_⟩
  refine isTrue_IfExp (thn (hc.run pins s σ H _ I h) fun d s1 ⟨H1, I1, q1⟩ => ?_)
  cases d with
  | true => exact ha.run pins s1 σ H1 Q I1 q1
  | false => exact hb.run pins s1 σ H1 Q I1 q1
theorem ok_ife {c : Expr} {C : E} (hc : Ok X W c C) (ha : Ok X W a A) (hb : Ok X W b B) : Ok X W (.IfExp c a b pos) (.ife C A B) := by
  refine ⟨PE.imp (pe_ifExp hc.te ha.ve hb.ve) fun σ H Q h => ?_, PT.imp (pt_ifExp hc.te ha.te hb.te) fun σ H Q h => ?_⟩
  · obtain ⟨F, m, μ, ρ, S, R, h⟩ := h
    refine ⟨F, m, μ, ρ, S, R, ?_⟩
    have h2 : Post X.K F m (fun F' H' μ' a => ∀ v, RepR X.K .v F' m μ' H' v a → Q v H') (fun _ H' _ cls dx => W cls dx σ H') ((evT C ρ μ).bind fun b μ1 => if b then ev A ρ μ1 else ev B ρ μ1) := by
      have e : ev (.ife C A B) ρ μ = (evT C ρ μ).bind fun b μ1 => if b then ev A ρ μ1 else ev B ρ μ1 := by
        unfold evT
        rw [ev]
        cases ev C ρ μ with
        | no => rfl
        | exc c d μ1 => rfl
        | ok x μ1 =>
          show (match (dr μ1 x).bind tru with | some true => ev A ρ μ1 | some false => ev B ρ μ1 | none => .no) = Res.bind (optR ((dr μ1 x).bind tru) μ1) _
          cases q : (dr μ1 x).bind tru with
          | none => rfl
          | some b => cases b <;> rfl
      rw [← e]
      exact h
    refine (h2.bind).imp (fun F' H' μ' k s S' q => ?_) fun _ _ _ _ _ x => x
    cases k with
    | true => exact ⟨F', m, μ', ρ, S', R.mono s, q⟩
    | false => exact ⟨F', m, μ', ρ, S', R.mono s, q⟩
  · obtain ⟨F, m, μ, ρ, S, R, h⟩ := h
    rw [evT_ife] at h
    refine ⟨F, m, μ, ρ, S, R, (h.bind).imp (fun F' H' μ' k s S' q => ?_) fun _ _ _ _ _ x => x⟩
    cases k with
    | true => exact ⟨F', m, μ', ρ, S', R.mono s, q⟩
    | false => exact ⟨F', m, μ', ρ, S', R.mono s, q⟩
/-- not -/
theorem prim1 {K : Frag} {new : Md} {p : P} {r : V → Hp → VK → Prop} (h2 : ∀ a b, p.f2 a b = none) (h3 : ∀ a b c, p.f3 a b c = none)
    (h : ∀ (F : Hp) (m : List Addr) (μ : Mu) (H : Hp) (x : V) (a res : D) (Q : VK), Sim K F m μ H → Rn K F H x a → p.f1 a = some res → (∀ F' H' v, Same F F' → Sim K F' m μ H' → RepR K new F' m μ H' v (.v res) → Q v H') → r x H Q) : PrimN K new (rr1 r) p.f := by
  intro F m μ H vs ds res Q S rs e q
  match vs, ds, rs with
  | _, _, .nil => cases e
  | _, _, .cons r1 .nil => exact ⟨_, rfl, h F m μ H _ _ res Q S r1 e q⟩
  | _, _, .cons r1 (.cons r2 .nil) => exact absurd ((h2 _ _).symm.trans e) (by simp)
  | _, _, .cons r1 (.cons r2 (.cons r3 .nil)) => exact absurd ((h3 _ _ _).symm.trans e) (by simp)
  | _, _, .cons r1 (.cons r2 (.cons r3 (.cons r4 rr))) => cases e
theorem prim2 {K : Frag} {new : Md} {p : P} {r : R2} (h1 : ∀ a, p.f1 a = none) (h3 : ∀ a b c, p.f3 a b c = none)
    (h : ∀ (F : Hp) (m : List Addr) (μ : Mu) (H : Hp) (x y : V) (a b res : D) (Q : VK), Sim K F m μ H → Rn K F H x a → Rn K F H y b → p.f2 a b = some res → (∀ F' H' v, Same F F' → Sim K F' m μ H' → RepR K new F' m μ H' v (.v res) → Q v H') → r x y H Q) : PrimN K new (rr2 r) p.f := by
  intro F m μ H vs ds res Q S rs e q
  match vs, ds, rs with
  | _, _, .nil => cases e
  | _, _, .cons r1 .nil => exact absurd ((h1 _).symm.trans e) (by simp)
  | _, _, .cons r1 (.cons r2 .nil) => exact ⟨_, _, rfl, h F m μ H _ _ _ _ res Q S r1 r2 e q⟩
  | _, _, .cons r1 (.cons r2 (.cons r3 .nil)) => exact absurd ((h3 _ _ _).symm.trans e) (by simp)
  | _, _, .cons r1 (.cons r2 (.cons r3 (.cons r4 rr))) => cases e
theorem prim_not {K : Frag} : PrimN K .v (rr1 fun x H Q => ∃ k, TruV K x H k ∧ Q (.bl (!k)) H) P.not.f := by
  refine prim1 (fun _ _ => rfl) (fun _ _ _ => rfl) fun F m μ H x a res Q S r e q => ?_
  have e : (tru a).map (fun b => D.bl (!b)) = some res := e
  cases e1 : tru a with
  | none => rw [e1] at e; cases e
  | some k =>
    rw [e1] at e
    cases e
    exact ⟨k, tru_rel S r e1, q F H _ (Same.refl F) S (.bl _)⟩
theorem evT_not (A : E) (ρ : Env) (μ : Mu) : evT (.prim .not [A]) ρ μ = (evT A ρ μ).bind fun b μ1 => .ok (!b) μ1 := by
  unfold evT
  rw [ev, evs.eq_2]
  cases ev A ρ μ with
  | no => rfl
  | exc c d μ1 => rfl
  | ok x μ1 =>
    show Res.bind (Res.bind (optR ((drs μ1 [x]).bind P.not.f) μ1) _) _ = Res.bind (optR ((dr μ1 x).bind tru) μ1) _
    have e0 : drs μ1 [x] = (dr μ1 x).map fun d => [d] := by
      rw [drs.eq_2]
      cases dr μ1 x <;> rfl
    rw [e0]
    cases e1 : dr μ1 x with
    | none => rfl
    | some d =>
      show Res.bind (Res.bind (optR ((tru d).map fun b => D.bl (!b)) μ1) _) _ = Res.bind (optR (tru d) μ1) _
      cases tru d with
      | none => rfl
      | some b => rfl
theorem ok_not (ha : Ok X W a A) : Ok X W (.UnaryOp .Not a pos) (.prim .not [A]) := by
  refine ⟨PE.imp (pe_notT ha.ve) fun σ H Q h => tE_one (tE_prim prim_not h), PT.imp (pt_not ha.te) fun σ H Q h => ?_⟩
  obtain ⟨F, m, μ, ρ, S, R, h⟩ := h
  rw [evT_not] at h
  refine ⟨F, m, μ, ρ, S, R, (h.bind).imp (fun F' H' μ' k s S' q => ?_) fun _ _ _ _ _ x => x⟩
  exact Post.ok q S'
end
end Wp

set_option Elab.async false
set_option linter.all false
set_option maxRecDepth 100000
set_option autoImplicit true
/-! W1c: displays, calls, freezing. -/
namespace Wp
open PySem PySem.Spec PyProof.Rows L2

section
variable {X : Cx} {W : WX} {e a b : Expr} {es : List Expr} {A B : E} {As : List E} {pos : Pos}

theorem evs_length : ∀ (As : List E) (ρ : Env) (μ μ' : Mu) (as : LA), evs As ρ μ = .ok as μ' → as.length = As.length
  | [], ρ, μ, μ', as, h => by
    rw [evs.eq_1] at h
    cases h
    rfl
  | A :: As, ρ, μ, μ', as, h => by
    rw [evs.eq_2] at h
    cases q : ev A ρ μ with
    | no => rw [q] at h; cases h
    | exc c d μ1 => rw [q] at h; cases h
    | ok x μ1 =>
      rw [q] at h
      have h : ((evs As ρ μ1).bind fun as μ2 => Res.ok (x :: as) μ2) = .ok as μ' := h
      cases q2 : evs As ρ μ1 with
      | no => rw [q2] at h; cases h
      | exc c d μ1 => rw [q2] at h; cases h
      | ok xs μ2 =>
        rw [q2] at h
        have h : Res.ok (x :: xs) μ2 = .ok as μ' := h
        cases h
        rw [List.length_cons, List.length_cons, evs_length As ρ μ1 _ xs q2]
/-- .. what is known of the arguments behind evs -/
theorem Post.withEq {α : Type} {K : Frag} {F : Hp} {m : List Addr} {r : Res α} {k : Hp → Hp → Mu → α → Prop} {x : Hp → Hp → Mu → Value → Option Addr → Prop} (h : Post K F m k x r) : Post K F m (fun F' H' μ' a => k F' H' μ' a ∧ r = .ok a μ') x r := by
  cases r with
  | ok a μ' => exact fun F' H' s S => ⟨h F' H' s S, rfl⟩
  | exc c d μ' => exact h
  | no => exact h
theorem sl_eq : SL = sizeLine := by rw [sizeLine_eq]; rfl
theorem okE_tup {k1 : Nat} (h : PA X es (tEs X.K W As)) (hl : As.length ≤ 1000) : PE X (.Tuple es k1 pos) (tE X.K W .v (.tup As)) := by
  refine PE.imp (pe_tup h) fun σ H Q h => ?_
  obtain ⟨F, m, μ, ρ, S, R, h⟩ := h
  unfold ev at h
  refine ⟨F, m, μ, ρ, S, R, (h.bind).withEq.imp (fun F' H' μ' as s S' q vs rs => ?_) fun _ _ _ _ _ x => x⟩
  obtain ⟨q, eq⟩ := q
  have hz : vs.length = As.length := by rw [← evs_length As ρ μ μ' as eq]; exact Paired.length rs
  refine ⟨Nat.le_of_lt (small1000 (by omega)), fun p hp => ?_⟩
  cases e1 : vals as with
  | none => rw [e1] at q; exact (show False from q).elim
  | some ds =>
    rw [e1] at q
    have rd := vals_rel rs e1
    obtain ⟨sF, S2⟩ := S'.frozen (o := .tup vs) hp
    exact q _ _ sF S2 _ (.tup (.of upd_same) (rd.mono sF))
theorem okT_tup {k1 : Nat} (h : PA X es (tEs X.K W As)) (hl : As.length ≤ 1000) : PE X (.Tuple es k1 pos) (tE X.K W .t (.tup As)) := by
  refine PE.imp (pe_tup h) fun σ H Q h => ?_
  obtain ⟨F, m, μ, ρ, S, R, h⟩ := h
  unfold ev at h
  refine ⟨F, m, μ, ρ, S, R, (h.bind).withEq.imp (fun F' H' μ' as s S' q vs rs => ?_) fun _ _ _ _ _ x => x⟩
  obtain ⟨q, eq⟩ := q
  have hz : vs.length = As.length := by rw [← evs_length As ρ μ μ' as eq]; exact Paired.length rs
  refine ⟨Nat.le_of_lt (small1000 (by omega)), fun p hp => ?_⟩
  cases e1 : vals as with
  | none => rw [e1] at q; exact (show False from q).elim
  | some ds =>
    rw [e1] at q
    have rd := vals_rel rs e1
    obtain ⟨sF, S2⟩ := S'.frozen (o := .tup vs) hp
    exact q _ _ sF S2 _ ⟨p, vs, rfl, upd_same, rd.mono sF⟩
theorem okN_lst (h : PA X es (tEs X.K W As)) (hl : As.length ≤ 1000) : PE X (.List es pos) (tE X.K W .n (.lst As)) := by
  refine PE.imp (pe_lst h) fun σ H Q h => ?_
  obtain ⟨F, m, μ, ρ, S, R, h⟩ := h
  unfold ev at h
  refine ⟨F, m, μ, ρ, S, R, (h.bind).withEq.imp (fun F' H' μ' as s S' q vs rs => ?_) fun _ _ _ _ _ x => x⟩
  obtain ⟨q, eq⟩ := q
  have hz : vs.length = As.length := by rw [← evs_length As ρ μ μ' as eq]; exact Paired.length rs
  refine ⟨Nat.le_of_lt (small1000 (by omega)), fun p hp => ?_⟩
  cases e1 : vals as with
  | none => rw [e1] at q; exact (show False from q).elim
  | some ds =>
    rw [e1] at q
    have rd := vals_rel rs e1
    exact q _ _ (Same.refl _) (S'.laid hp) _ ⟨p, vs, rfl, upd_same, rd, S'.sub.free hp, fun i c e1 e2 => S'.notCell hp i c e1 e2⟩

/-! ### freezing a cell -/
theorem Sim.freezeC {K : Frag} {F H : Hp} {m : List Addr} {μ : Mu} {n : Nat} {a : Addr} {fz : Bool} {xs : List D} (S : Sim K F m μ H) (e1 : m[n]? = some a) (e2 : μ[n]? = some ⟨fz, .lst xs⟩) :
    ∃ F', Same F F' ∧ Sim K F' m (μ.set n ⟨true, .lst xs⟩) H ∧ Rep K F' (.ref a) (.lst xs) := by
  have hc := S.cell n a _ e1 e2
  have hn : n < μ.length := (List.getElem?_eq_some_iff.mp e2).1
  have inj' : ∀ (i j : Nat) b c c', m[i]? = some b → m[j]? = some b → (μ.set n ⟨true, .lst xs⟩)[i]? = some c → (μ.set n ⟨true, .lst xs⟩)[j]? = some c' → c.live → c'.live → i = j := by
    intro i j b c c' h1 h2 h3 h4 l1 l2
    have old : ∀ (i : Nat) c, (μ.set n ⟨true, .lst xs⟩)[i]? = some c → c.live → ∃ c', μ[i]? = some c' ∧ c'.live := by
      intro i c h l
      by_cases hi : n = i
      · subst hi
        exact ⟨_, e2, trivial⟩
      · rw [List.getElem?_set_ne hi] at h
        exact ⟨c, h, l⟩
    obtain ⟨d, h5, l3⟩ := old i c h3 l1
    obtain ⟨d', h6, l4⟩ := old j c' h4 l2
    exact S.inj i j b d d' h1 h2 h5 h6 l3 l4
  cases fz with
  | true =>
    obtain ⟨vs, h1, h2⟩ := hc
    refine ⟨F, Same.refl F, ⟨by rw [List.length_set]; exact S.len, S.sub, fun i b c h3 h4 => ?_, inj'⟩, .lst h1 h2⟩
    by_cases hi : n = i
    · subst hi
      rw [List.getElem?_set_self hn] at h4
      cases h4
      rw [e1] at h3
      cases h3
      exact ⟨vs, h1, h2⟩
    · rw [List.getElem?_set_ne hi] at h4
      exact S.cell i b c h3 h4
  | false =>
    obtain ⟨vs, h1, h2, h3⟩ := hc
    have sF : Same F (upd F a (.lst vs)) := same_upd h3
    refine ⟨upd F a (.lst vs), sF, ⟨by rw [List.length_set]; exact S.len, fun b x e => ?_, fun i b c h4 h5 => ?_, inj'⟩, .lst upd_same (h2.mono sF)⟩
    · by_cases hb : b = a
      · subst hb
        rw [upd_same] at e
        cases e
        exact h1
      · rw [upd_ne hb] at e
        exact S.sub _ _ e
    · by_cases hi : n = i
      · subst hi
        rw [List.getElem?_set_self hn] at h5
        cases h5
        rw [e1] at h4
        cases h4
        exact ⟨vs, upd_same, h2.mono sF⟩
      · rw [List.getElem?_set_ne hi] at h5
        by_cases hl : c.live
        · have hba : b ≠ a := fun z => by
            subst z
            exact hi (S.inj i n b c _ h4 e1 h5 e2 hl trivial).symm
          exact (S.cell i b c h4 h5).mono sF (fun x e => e) fun z => by rw [upd_ne hba]; exact z
        · obtain ⟨fz, c⟩ := c
          cases c with
          | dead => trivial
          | _ => exact (hl trivial).elim
theorem okE_fz (h : PE X e (tE X.K W .v A)) : PE X e (tE X.K W .v (.fz A)) := by
  refine PE.imp h fun σ H Q h => ?_
  obtain ⟨F, m, μ, ρ, S, R, h⟩ := h
  unfold ev at h
  refine ⟨F, m, μ, ρ, S, R, (h.bind).imp (fun F' H' μ' a s S' q v r => ?_) fun _ _ _ _ _ x => x⟩
  cases a with
  | v d => exact Post.ok q S' v r
  | t d => exact Post.ok q S' v (RepT.rep r)
  | c n =>
    obtain ⟨a, e1, rfl⟩ := r
    cases e2 : μ'[n]? with
    | none =>
      dsimp only at q
      rw [e2] at q
      exact (show False from q).elim
    | some c =>
      dsimp only at q
      rw [e2] at q
      obtain ⟨fz, c⟩ := c
      cases c with
      | lst xs =>
        obtain ⟨F2, s2, S2, r2⟩ := S'.freezeC e1 e2
        exact q F2 H' s2 S2 _ r2
      | _ => exact (show False from q).elim

/-! ### calls of built-ins -/
theorem okE_callB {x : Str} {id : String} {r : List V → Hp → VK → Prop} {p : P} {new : Md} {ps : Pos} (hc : CallR X (.builtin id) r) (hp : PrimN X.K new r p.f) (hg : Gl X x) (hm : X.mg x = none) (hv : bootBuiltins x = some (.builtin id))
    (ha : PA X (e :: es) (tEs X.K W As)) (hn : x ≠ "__name__") (hdb : (x == ("__debug__" : Str)) = false) (he : starEach (e :: es) X.env = (false, eval e X.env) :: starEach es X.env) (hpl : (backTo pos (starEach es X.env)).any (·.1) = false) :
    PE X (.Call (.Name x ps) (e :: es) [] pos) (tE X.K W new (.prim p As)) := PE.imp (pe_callB hc hg hm hv ha hn hdb he hpl) fun _ _ _ h => tE_prim hp h
theorem okE_callTy {x : Str} {T : String} {r : List V → Hp → VK → Prop} {p : P} {new : Md} {ps : Pos} (hc : CallR X (.type T) r) (hp : PrimN X.K new r p.f) (hg : Gl X x) (hm : X.mg x = none) (hv : bootBuiltins x = some (.type T))
    (ha : PA X (e :: es) (tEs X.K W As)) (hn : x ≠ "__name__") (hdb : (x == ("__debug__" : Str)) = false) (he : starEach (e :: es) X.env = (false, eval e X.env) :: starEach es X.env) (hpl : (backTo pos (starEach es X.env)).any (·.1) = false) :
    PE X (.Call (.Name x ps) (e :: es) [] pos) (tE X.K W new (.prim p As)) := PE.imp (pe_callTy hc hg hm hv ha hn hdb he hpl) fun _ _ _ h => tE_prim hp h
theorem okE_callF {x : Str} {id : String} {r : List V → Hp → VK → Prop} {p : P} {new : Md} {ps : Pos} (hc : CallR X (.builtin id) r) (hp : PrimN X.K new r p.f) (hg : Gl X x) (hm : X.mg x = some (.builtin id))
    (ha : PA X (e :: es) (tEs X.K W As)) (hdb : (x == ("__debug__" : Str)) = false) (he : starEach (e :: es) X.env = (false, eval e X.env) :: starEach es X.env) (hpl : (backTo pos (starEach es X.env)).any (·.1) = false) :
    PE X (.Call (.Name x ps) (e :: es) [] pos) (tE X.K W new (.prim p As)) := PE.imp (pe_callBfun hc hg hm ha hdb he hpl) fun _ _ _ h => tE_prim hp h

/-! ### calls of defs -/
/-- a def's promise: it computes F -/
def spOf (K : Frag) (n : Nat) (new : Md) (F : Fn) : Sp := fun vs H Q E => vs.length = n ∧ ∃ Fz m μ as, Sim K Fz m μ H ∧ RepAs K Fz m vs as ∧
  Post K Fz m (fun F' H' μ' d => ∀ v, RepR K new F' m μ' H' v (.v d) → Q v H') (fun _ H' _ cls dx => E cls dx H') (F as μ)
/-- the values by the permutation -/
def pg {α : Type} (perm : List Nat) (us ws : List α) : List α := perm.filterMap fun i => (us ++ ws)[i]?
structure FnAt (P : Program) (w : World) (K : Frag) (mg : Str → Option Value) (base : Heap) (k : Nat) (x : Str) (n : Nat) (new : Md) (F : Fn) (kw : List (Nat × List Str × List Nat)) : Prop where
  at_ : ∃ f fd ps, mg x = some (.ref f) ∧ PySem.W.keepIn K (.ref f) = true ∧ Binds K fd ps [] ∧ (∀ c ∈ kw, KBn K fd ps c.1 c.2.1 (pg c.2.2) (pg c.2.2)) ∧ FnOk P w K mg base (L2.CX P w) k f fd ps (spOf K n new F)
theorem tE_call {K : Frag} {f : String} {F : Fn} {new : Md} {σ : L2.St} {H : Hp} {Q : VK} {n : Nat} (hn : As.length = n) (h : tE K W new (.call f F As) σ H Q) :
    tEs K W As σ H fun vs H1 => spOf K n new F vs H1 Q (WE W σ) := by
  obtain ⟨Fz, m, μ, ρ, S, R, h⟩ := h
  unfold ev at h
  refine ⟨Fz, m, μ, ρ, S, R, (h.bind).withEq.imp (fun F' H' μ' as s S' q vs rs => ?_) fun _ _ _ _ _ x => x⟩
  obtain ⟨q, eq⟩ := q
  refine ⟨by rw [← hn, ← evs_length As ρ μ μ' as eq]; exact Paired.length rs, F', m, μ', as, S', rs, ?_⟩
  refine (q.bind).imp (fun F2 H2 μ2 d s2 S2 q2 v r => ?_) fun _ _ _ _ _ x => x
  exact Post.ok q2 S2 v r
theorem okE_call {x : Str} {f : String} {F : Fn} {n k : Nat} {new : Md} {ps : Pos} {kw : List (Nat × List Str × List Nat)} (hF : FnAt X.prog X.w X.K X.mg X.base k x n new F kw) (hr : Room k X.A) (hg : Gl X x) (tk : Takes X W) (hn : As.length = n)
    (ha : PA X (e :: es) (tEs X.K W As)) (hdb : (x == ("__debug__" : Str)) = false) (he : starEach (e :: es) X.env = (false, eval e X.env) :: starEach es X.env) (hpl : (backTo pos (starEach es X.env)).any (·.1) = false) :
    PE X (.Call (.Name x ps) (e :: es) [] pos) (tE X.K W new (.call f F As)) := by
  obtain ⟨fa, fd, pn, hm, hk, hb, _, G⟩ := hF.at_
  exact PE.imp (pe_callS G hr hg hm hk hb (fun σ => passAt tk σ) ha hdb he hpl) fun σ H Q h => tE_call hn h
theorem okE_call0 {x : Str} {f : String} {F : Fn} {k : Nat} {new : Md} {ps : Pos} {kw : List (Nat × List Str × List Nat)} (hF : FnAt X.prog X.w X.K X.mg X.base k x 0 new F kw) (hr : Room k X.A) (hg : Gl X x) (tk : Takes X W) (hdb : (x == ("__debug__" : Str)) = false) :
    PE X (.Call (.Name x ps) [] [] pos) (tE X.K W new (.call f F [])) := by
  obtain ⟨fa, fd, pn, hm, hk, hb, _, G⟩ := hF.at_
  refine ⟨fun pins s σ H Q I h => ?_⟩
  refine wpAny_Call_Name_kw (ld_glob I hg hm ?_ hdb)
  obtain ⟨Fz, m, μ, ρ, S, R, h⟩ := tE_call (As := []) rfl h
  have h := Post.ok h S [] .nil
  exact PySem.W.callWith_K0 I.kIn hk (run_fnS (us := []) G hr hb (passAt tk σ) I .nil h)
end
end Wp

set_option Elab.async false
set_option linter.all false
set_option maxRecDepth 100000
set_option autoImplicit true
/-! W1d: statements. -/
namespace Wp
open PySem PySem.Spec PyProof.Rows L2

/-- behind a statement -/
def PostS (K : Frag) (W : WX) (n0 : Nat) (new : Md) (F : Hp) (m : List Addr) (D : Ends) : Out → Prop
  | .nx ρ' μ' => ∀ F' m' H' σ', Same F F' → m'.take n0 = m.take n0 → Sim K F' m' μ' H' → RepS K F' m' σ' ρ' → D.nx σ' H'
  | .brk ρ' μ' => ∀ F' m' H' σ', Same F F' → m'.take n0 = m.take n0 → Sim K F' m' μ' H' → RepS K F' m' σ' ρ' → D.bk σ' H'
  | .cnt ρ' μ' => ∀ F' m' H' σ', Same F F' → m'.take n0 = m.take n0 → Sim K F' m' μ' H' → RepS K F' m' σ' ρ' → D.ct σ' H'
  | .ret d μ' => ∀ F' H' v, Same F F' → Sim K F' (m.take n0) (μ'.take n0) H' → RepR K new F' (m.take n0) (μ'.take n0) H' v (.v d) → D.rt v H'
  | .exc c d ρ' μ' => ∀ F' m' H' σ' cls dx, Same F F' → m'.take n0 = m.take n0 → Sim K F' m' μ' H' → RepS K F' m' σ' ρ' → ExcAt K F' H' c d cls dx → W cls dx σ' H'
  | .no => False
theorem PostS.weak {K : Frag} {W : WX} {n0 : Nat} {new : Md} {F F1 : Hp} {m m1 : List Addr} {D : Ends} {o : Out} (s : Same F F1) (e : m1.take n0 = m.take n0) (h : PostS K W n0 new F m D o) : PostS K W n0 new F1 m1 D o := by
  cases o with
  | nx ρ μ => exact fun F' m' H' σ' s' e' S R => h F' m' H' σ' (s.trans s') (e'.trans e) S R
  | brk ρ μ => exact fun F' m' H' σ' s' e' S R => h F' m' H' σ' (s.trans s') (e'.trans e) S R
  | cnt ρ μ => exact fun F' m' H' σ' s' e' S R => h F' m' H' σ' (s.trans s') (e'.trans e) S R
  | ret d μ =>
    intro F' H' v s' S R
    rw [e] at S R
    exact h F' H' v (s.trans s') S R
  | exc c d ρ μ => exact fun F' m' H' σ' cls dx s' e' S R x => h F' m' H' σ' cls dx (s.trans s') (e'.trans e) S R x
  | no => exact h

def tS (K : Frag) (W : WX) (n0 : Nat) (new : Md) (s : S) : TS := fun D σ H => ∃ F m μ ρ, Sim K F m μ H ∧ RepS K F m σ ρ ∧ PostS K W n0 new F m D (ex n0 s ρ μ)
def tSs (K : Frag) (W : WX) (n0 : Nat) (new : Md) (s : List S) : TS := fun D σ H => ∃ F m μ ρ, Sim K F m μ H ∧ RepS K F m σ ρ ∧ PostS K W n0 new F m D (exs n0 s ρ μ)

/-- from an expression's computation to the statement's -/
theorem post_st {α : Type} {K : Frag} {W : WX} {n0 : Nat} {new : Md} {F : Hp} {m : List Addr} {D : Ends} {σ : L2.St} {ρ : Env} {r : Res α} {k : α → Mu → Out} (R : RepS K F m σ ρ) (h : PostS K W n0 new F m D (r.st ρ k)) :
    Post K F m (fun F' H' μ' a => PostS K W n0 new F' m D (k a μ')) (fun _ H' _ cls dx => W cls dx σ H') r := by
  cases r with
  | ok a μ' => exact fun F' H' s S => PostS.weak s rfl h
  | exc c d μ' => exact fun F' H' cls dx s S x => h F' m H' σ cls dx s rfl S (R.mono s) x
  | no => exact h

section
variable {X : Cx} {W : WX} {n0 : Nat} {new : Md} {e a b : Expr} {A B : E} {pos : Pos}

theorem okS_nil : PSs X [] (tSs X.K W n0 new []) := by
  refine PSs.imp pss_nil fun D σ H h => ?_
  obtain ⟨F, m, μ, ρ, S, R, h⟩ := h
  rw [exs] at h
  exact h F m H σ (Same.refl F) rfl S R
theorem okS_cons {st : Stmt} {rest : List Stmt} {s : S} {r : List S} (h1 : PS X st (tS X.K W n0 new s)) (h2 : PSs X rest (tSs X.K W n0 new r)) : PSs X (st :: rest) (tSs X.K W n0 new (s :: r)) := by
  refine PSs.imp (pss_cons h1 h2) fun D σ H h => ?_
  obtain ⟨F, m, μ, ρ, S, R, h⟩ := h
  rw [exs] at h
  refine ⟨F, m, μ, ρ, S, R, ?_⟩
  cases q : ex n0 s ρ μ with
  | nx ρ' μ' =>
    rw [q] at h
    have h : PostS X.K W n0 new F m D (exs n0 r ρ' μ') := h
    exact fun F' m' H' σ' s' e' S' R' => ⟨F', m', μ', ρ', S', R', PostS.weak s' e' h⟩
  | brk ρ' μ' => rw [q] at h; exact h
  | cnt ρ' μ' => rw [q] at h; exact h
  | ret d μ' => rw [q] at h; exact h
  | exc c d ρ' μ' => rw [q] at h; exact h
  | no => rw [q] at h; exact h
theorem okS_pas : PS X (.Pass pos) (tS X.K W n0 new .pas) := by
  refine PS.imp ps_pass fun D σ H h => ?_
  obtain ⟨F, m, μ, ρ, S, R, h⟩ := h
  rw [ex] at h
  exact h F m H σ (Same.refl F) rfl S R
theorem okS_brk : PS X (.Break pos) (tS X.K W n0 new .brk) := by
  refine PS.imp ps_break fun D σ H h => ?_
  obtain ⟨F, m, μ, ρ, S, R, h⟩ := h
  rw [ex] at h
  exact h F m H σ (Same.refl F) rfl S R
theorem okS_cnt : PS X (.Continue pos) (tS X.K W n0 new .cnt) := by
  refine PS.imp ps_continue fun D σ H h => ?_
  obtain ⟨F, m, μ, ρ, S, R, h⟩ := h
  rw [ex] at h
  exact h F m H σ (Same.refl F) rfl S R
theorem okS_xp (he : PE X e (tE X.K W .v A)) (hs : swapsWith e none pos.line X.env = pure false) : PS X (.Expr e pos) (tS X.K W n0 new (.xp A)) := by
  refine PS.imp (ps_expr he hs) fun D σ H h => ?_
  obtain ⟨F, m, μ, ρ, S, R, h⟩ := h
  rw [ex] at h
  exact ⟨F, m, μ, ρ, S, R, (post_st R h).imp (fun F' H' μ' a s S' q v r => q F' m H' σ (Same.refl _) rfl S' (R.mono s)) fun _ _ _ _ _ x => x⟩
theorem okS_if {c : Expr} {C : E} {p q : List Stmt} {s t : List S} (hc : PT X c (tT X.K W C)) (hp : PSs X p (tSs X.K W n0 new s)) (hq : PSs X q (tSs X.K W n0 new t)) : PS X (.If c p q pos) (tS X.K W n0 new (.ife C s t)) := by
  refine PS.imp (ps_if hc hp hq) fun D σ H h => ?_
  obtain ⟨F, m, μ, ρ, S, R, h⟩ := h
  rw [ex] at h
  refine ⟨F, m, μ, ρ, S, R, (post_st R h).imp (fun F' H' μ' k s S' q => ?_) fun _ _ _ _ _ x => x⟩
  cases k with
  | true => exact ⟨F', m, μ', ρ, S', R.mono s, q⟩
  | false => exact ⟨F', m, μ', ρ, S', R.mono s, q⟩
/-- the first cells alone -/
theorem Sim.take {K : Frag} {F H : Hp} {m : List Addr} {μ : Mu} (S : Sim K F m μ H) (n : Nat) : Sim K F (m.take n) (μ.take n) H := by
  have low : ∀ {α : Type} {l : List α} {i : Nat} {x : α}, (l.take n)[i]? = some x → l[i]? = some x := fun {α l i x} h => by
    rw [List.getElem?_take] at h
    split at h
    · exact h
    · cases h
  exact ⟨by rw [List.length_take, List.length_take, S.len], S.sub, fun i a c e1 e2 => S.cell i a c (low e1) (low e2), fun i j a c c' e1 e2 e3 e4 => S.inj i j a c c' (low e1) (low e2) (low e3) (low e4)⟩
theorem RepN.take {K : Frag} {F : Hp} {m : List Addr} {μ : Mu} {H : Hp} {v : V} {d : D} (n : Nat) (r : RepN K F m μ H v d) : RepN K F (m.take n) (μ.take n) H v d := by
  have low : ∀ {α : Type} {l : List α} {i : Nat} {x : α}, (l.take n)[i]? = some x → l[i]? = some x := fun {α l i x} h => by
    rw [List.getElem?_take] at h
    split at h
    · exact h
    · cases h
  cases d with
  | lst ds =>
    obtain ⟨a, vs, e, h1, h2, h3, h4⟩ := r
    exact ⟨a, vs, e, h1, h2, h3, fun i c e1 e2 => h4 i c (low e1) (low e2)⟩
  | _ => exact r
theorem okS_ret (he : PE X e (tE X.K W new A)) : PS X (.Return (some e) pos) (tS X.K W n0 new (.ret A)) := by
  refine PS.imp (ps_ret he) fun D σ H h => ?_
  obtain ⟨F, m, μ, ρ, S, R, h⟩ := h
  rw [ex] at h
  refine ⟨F, m, μ, ρ, S, R, (post_st R h).imp (fun F' H' μ' a s S' q v r => ?_) fun _ _ _ _ _ x => x⟩
  cases a with
  | v d =>
    refine q F' H' v (Same.refl _) (S'.take n0) ?_
    cases new with
    | v => exact r
    | n => exact RepN.take n0 r
    | t => exact r
  | t d =>
    cases new with
    | v => exact q F' H' v (Same.refl _) (S'.take n0) (RepT.rep r)
    | n => exact (show False from r).elim
    | t => exact (show False from r).elim
  | c n => exact (show False from q).elim
/-- a local list handed back -/
theorem okS_retC {i : Nat} {x : Str} {ps : Pos} (hN : X.N[i]? = some x) (hv : Vis X.env.scope x) (hd : (x == ("__debug__" : Str)) = false) (hcd : (x == ("__classdict__" : Str)) = false) (new : Md) :
    PS X (.Return (some (.Name x ps)) pos) (tS X.K W n0 new (.retC i)) := by
  refine PS.imp (ps_ret (pe_var hN hv hd hcd)) fun D σ H h => ?_
  obtain ⟨F, m, μ, ρ, S, R, h⟩ := h
  rw [ex] at h
  cases e1 : ρ[i]? with
  | none => rw [e1] at h; exact (show False from h).elim
  | some o =>
    cases o with
    | none => rw [e1] at h; exact (show False from h).elim
    | some y =>
      cases y with
      | v d => rw [e1] at h; exact (show False from h).elim
      | t d => rw [e1] at h; exact (show False from h).elim
      | c n =>
        rw [e1] at h
        dsimp only at h
        by_cases hn : n0 ≤ n
        · rw [if_pos hn] at h
          obtain ⟨v, e2, a, e3, rfl⟩ := R.get i _ e1
          refine ⟨_, e2, ?_⟩
          cases e4 : μ[n]? with
          | none => rw [e4] at h; exact (show False from h).elim
          | some c =>
            obtain ⟨fz, c⟩ := c
            rw [e4] at h
            cases fz with
            | true => exact (show False from h).elim
            | false =>
              cases c with
              | lst xs =>
                have hc := S.cell n a _ e3 e4
                obtain ⟨vs, h1, h2, h3⟩ := hc
                have rn : RepN X.K F (m.take n0) (μ.take n0) H (.ref a) (.lst xs) := by
                  refine ⟨a, vs, rfl, h1, h2, h3, fun j c e5 e6 l => ?_⟩
                  rw [List.getElem?_take] at e5 e6
                  split at e5
                  · rename_i hj
                    rw [if_pos hj] at e6
                    have := S.inj j n a c _ e5 e3 e6 e4 l trivial
                    omega
                  · cases e5
                have h : PostS X.K W n0 new F m D (.ret (.lst xs) μ) := h
                cases new with
                | n => exact h F H _ (Same.refl F) (S.take n0) rn
                | _ =>
                  obtain ⟨F2, s2, S2, r2⟩ := S.freezeC e3 e4
                  have S3 := S2.take n0
                  have et : (μ.set n ⟨true, .lst xs⟩).take n0 = μ.take n0 := by
                    rw [List.take_set]
                    exact List.set_eq_of_length_le (by rw [List.length_take]; omega)
                  rw [et] at S3
                  exact h F2 H _ s2 S3 r2
              | _ => exact (show False from h).elim
        · rw [if_neg hn] at h
          exact (show False from h).elim
end
end Wp

set_option Elab.async false
set_option linter.all false
set_option maxRecDepth 100000
set_option autoImplicit true
/-! W1e: assignments. -/
namespace Wp
open PySem PySem.Spec PyProof.Rows L2

section
variable {X : Cx} {W : WX} {n0 : Nat} {new : Md} {e a b : Expr} {A B : E} {pos : Pos}

theorem RepS.set {K : Frag} {F : Hp} {m : List Addr} {σ : L2.St} {ρ : Env} (R : RepS K F m σ ρ) {i : Nat} {v : V} {x : Wp.A} (r : RepA K F m v x) (hi : i < ρ.length) : RepS K F m (σ.set i (some v)) (ρ.set i (some x)) := by
  refine ⟨by rw [List.length_set, List.length_set]; exact R.len, fun j y e => ?_⟩
  by_cases h : i = j
  · subst h
    rw [List.getElem?_set_self hi] at e
    cases e
    exact ⟨v, by rw [List.getElem?_set_self (by rw [R.len]; exact hi)], r⟩
  · rw [List.getElem?_set_ne h] at e ⊢
    exact R.get j y e

mutual
/-- the slots of a target -/
def T.slots : T → List Nat
  | .n i => [i]
  | .t ts => T.slotss ts
def T.slotss : List T → List Nat
  | [] => []
  | u :: us => T.slots u ++ T.slotss us
end
/-- the other slots stay -/
def Oth (is : List Nat) (σ σ' : L2.St) : Prop := σ'.length = σ.length ∧ ∀ j, j ∉ is → σ'[j]? = σ[j]?
theorem Oth.refl (is : List Nat) (σ : L2.St) : Oth is σ σ := ⟨rfl, fun _ _ => rfl⟩
/-- a target's reading: what asg does -/
def OkG (P : Cx → Prop) (K : Frag) (tg : Expr) (t : T) : Prop := ∃ g, (∀ X, P X → PG X tg g) ∧
  ∀ (F : Hp) (m : List Addr) (μ : Mu) (H : Hp) (σ : L2.St) (ρ ρ' : Env) (v : V) (d : D) (Q : L2.St → Hp → Prop), Sim K F m μ H → RepS K F m σ ρ → Rep K F v d → asg t d ρ = some ρ' →
    (∀ σ', RepS K F m σ' ρ' → Oth t.slots σ σ' → Q σ' H) → g v σ H Q
def OkGs (P : Cx → Prop) (K : Frag) (tgs : List Expr) (ts : List T) : Prop := ∃ g, (∀ X, P X → PGs X tgs g) ∧
  ∀ (F : Hp) (m : List Addr) (μ : Mu) (H : Hp) (σ : L2.St) (ρ ρ' : Env) (vs : List V) (ds : List D) (Q : L2.St → Hp → Prop), Sim K F m μ H → RepS K F m σ ρ → Reps K F vs ds → asgs ts ds ρ = some ρ' →
    (∀ σ', RepS K F m σ' ρ' → Oth (T.slotss ts) σ σ' → Q σ' H) → g vs σ H Q
theorem okG_name {P : Cx → Prop} {K : Frag} {i : Nat} {x : Str} (h : ∀ X, P X → X.N.Nodup ∧ X.N[i]? = some x ∧ Loc X.env.scope x ∧ (X.fn x = true ∨ X.env.scope.names.lookup x = some .local)) : OkG P K (.Name x pos) (.n i) := by
  refine ⟨_, fun X hX => pg_name (h X hX).1 (h X hX).2.1 (h X hX).2.2.1 (h X hX).2.2.2, fun F m μ H σ ρ ρ' v d Q S R r e q => ?_⟩
  unfold asg at e
  split at e
  · rename_i hl
    cases e
    refine q _ (R.set r hl) ⟨List.length_set, fun j hj => ?_⟩
    have hij : i ≠ j := fun z => hj (by rw [z, T.slots]; simp)
    exact List.getElem?_set_ne hij
  · cases e
theorem okGs_nil {P : Cx → Prop} {K : Frag} : OkGs P K [] [] := by
  refine ⟨_, fun X _ => pgs_nil, fun F m μ H σ ρ ρ' vs ds Q S R r e q => ?_⟩
  cases r with
  | nil =>
    cases e
    exact ⟨rfl, q σ R (Oth.refl _ _)⟩
  | cons _ _ => cases e
theorem okGs_cons {P : Cx → Prop} {K : Frag} {t : T} {ts : List T} {tgs : List Expr} (h1 : OkG P K e t) (h2 : OkGs P K tgs ts) (hs : ∀ X, P X → (assignEach (e :: tgs) X.env).map (·.2) = assign e X.env :: (assignEach tgs X.env).map (·.2)) : OkGs P K (e :: tgs) (t :: ts) := by
  obtain ⟨g1, p1, k1⟩ := h1
  obtain ⟨g2, p2, k2⟩ := h2
  refine ⟨_, fun X hX => pgs_cons (p1 X hX) (p2 X hX) (hs X hX), fun F m μ H σ ρ ρ' vs ds Q S R r e q => ?_⟩
  cases r with
  | nil => cases e
  | cons r rs =>
    rename_i v d vs ds
    unfold asgs at e
    cases e1 : asg t d ρ with
    | none => rw [e1] at e; cases e
    | some ρ1 =>
      rw [e1] at e
      refine ⟨v, vs, rfl, k1 F m μ H σ ρ ρ1 v d _ S R r e1 fun σ1 R1 o1 => k2 F m μ H σ1 ρ1 ρ' vs ds Q S R1 rs e fun σ2 R2 o2 => q σ2 R2 ⟨o2.1.trans o1.1, fun j hj => ?_⟩⟩
      rw [T.slotss, List.mem_append, not_or] at hj
      exact (o2.2 j hj.2).trans (o1.2 j hj.1)
theorem asgs_len : ∀ {ts : List T} {ds : List D} {ρ ρ' : Env}, asgs ts ds ρ = some ρ' → ds.length = ts.length
  | [], [], _, _, _ => rfl
  | [], _ :: _, _, _, e => by cases e
  | _ :: _, [], _, _, e => by cases e
  | t :: ts, d :: ds, ρ, ρ', e => by
    unfold asgs at e
    cases e1 : asg t d ρ with
    | none => rw [e1] at e; cases e
    | some ρ1 =>
      rw [e1] at e
      exact congrArg Nat.succ (asgs_len e)
theorem okG_tup {P : Cx → Prop} {K : Frag} {ts : List T} {tgs : List Expr} {k : Nat} (hK : ∀ X, P X → X.K = K) (hc : ∀ X, P X → X.calm = true) (h : OkGs P K tgs ts) (hn : ∀ X, P X → (assignEach tgs X.env).length = ts.length) (hst : ∀ X, P X → (assignEach tgs X.env).findIdx? (·.1) = none) : OkG P K (.Tuple tgs k pos) (.t ts) := by
  obtain ⟨g, p, kk⟩ := h
  refine ⟨_, fun X hX => by
    have z := pg_tup (n := ts.length) (k := k) (pos := pos) (hc X hX) (p X hX) (hn X hX) (hst X hX)
    rw [hK X hX] at z
    exact z, fun F m μ H σ ρ ρ' v d Q S R r e q => ?_⟩
  cases d with
  | tup ds =>
    cases r with
    | tup h1 h2 =>
      rename_i a vs
      have e : asgs ts ds ρ = some ρ' := by rw [asg] at e; exact e
      exact ⟨a, vs, rfl, same_tup S.sub h1, by rw [h2.length]; exact asgs_len e, kk F m μ H σ ρ ρ' vs ds Q S R h2 e q⟩
  | _ => simp [asg] at e

/-- target = e -/
theorem okS_set {tg : Expr} {t : T} (he : PE X e (tE X.K W .v A)) (hg : OkG (· = X) X.K tg t) (hs : swapsWithSole [tg] e pos.line X.env = pure false) (hw : swappedStores [tg] e X.env = pure none) (h1 : (assignEach [tg] X.env).map (·.2) = [assign tg X.env]) :
    PS X (.Assign [tg] e pos) (tS X.K W n0 new (.set t A)) := by
  obtain ⟨g, p, k⟩ := hg
  refine PS.imp (ps_asg he (p X rfl) hs hw h1) fun D σ H h => ?_
  obtain ⟨F, m, μ, ρ, S, R, h⟩ := h
  rw [ex] at h
  refine ⟨F, m, μ, ρ, S, R, (post_st R h).imp (fun F' H' μ' x s S' q v r => ?_) fun _ _ _ _ _ x => x⟩
  cases x with
  | c n => exact (show False from q).elim
  | t n => exact (show False from q).elim
  | v d =>
    dsimp only at q
    cases e1 : asg t d ρ with
    | none => rw [e1] at q; exact (show False from q).elim
    | some ρ' =>
      rw [e1] at q
      exact k F' m μ' H' σ ρ ρ' v d _ S' (R.mono s) r e1 fun σ' R' _ => q F' m H' σ' (Same.refl _) rfl S' R'
/-- .. from any rule for an assignment to a name (a comprehension's) -/
theorem okS_setBy {i : Nat} {st : Stmt} (h : PS X st (tAsg (tE X.K W .v A) (gName i))) : PS X st (tS X.K W n0 new (.set (.n i) A)) := by
  refine PS.imp h fun D σ H h => ?_
  obtain ⟨F, m, μ, ρ, S, R, h⟩ := h
  rw [ex] at h
  refine ⟨F, m, μ, ρ, S, R, (post_st R h).imp (fun F' H' μ' x s S' q v r => ?_) fun _ _ _ _ _ x => x⟩
  cases x with
  | c n => exact (show False from q).elim
  | t n => exact (show False from q).elim
  | v d =>
    dsimp only at q
    cases e1 : asg (.n i) d ρ with
    | none => rw [e1] at q; exact (show False from q).elim
    | some ρ' =>
      rw [e1] at q
      unfold asg at e1
      split at e1
      · rename_i hl
        cases e1
        exact q F' m H' _ (Same.refl _) rfl S' ((R.mono s).set r hl)
      · cases e1

/-- a tuple made here, held as such -/
theorem okS_setT {i : Nat} {x : Str} {ps : Pos} (hN : X.N.Nodup) (hi : X.N[i]? = some x) (hx : Loc X.env.scope x) (hf : X.fn x = true ∨ X.env.scope.names.lookup x = some .local) (he : PE X e (tE X.K W .t A))
    (hs : swapsWithSole [.Name x ps] e pos.line X.env = pure false) (hw : swappedStores [.Name x ps] e X.env = pure none) (h1 : (assignEach [.Name x ps] X.env).map (·.2) = [assign (.Name x ps) X.env]) :
    PS X (.Assign [.Name x ps] e pos) (tS X.K W n0 new (.setT i A)) := by
  refine PS.imp (ps_asg he (pg_name hN hi hx hf) hs hw h1) fun D σ H h => ?_
  obtain ⟨F, m, μ, ρ, S, R, h⟩ := h
  rw [ex] at h
  refine ⟨F, m, μ, ρ, S, R, (post_st R h).imp (fun F' H' μ' x s S' q v r => ?_) fun _ _ _ _ _ x => x⟩
  cases x with
  | v d =>
    dsimp only at q
    split at q
    · rename_i hl
      exact q F' m H' _ (Same.refl _) rfl S' ((R.mono s).set (x := .t d) r hl)
    · exact (show False from q).elim
  | _ => exact (show False from q).elim
/-- what the law never comes to -/
theorem okS_stuck {st : Stmt} : PS X st (tS X.K W n0 new .stuck) := by
  refine ⟨fun pins s σ H D I h => ?_⟩
  obtain ⟨F, m, μ, ρ, S, R, h⟩ := h
  rw [ex] at h
  exact (show False from h).elim

/-! ### a cell of one's own -/
theorem killC_get {n : Nat} : ∀ {ρ : Env} {i : Nat} {a : Wp.A}, (killC n ρ)[i]? = some (some a) → ρ[i]? = some (some a) ∧ ∀ k, a = .c k → k ≠ n
  | [], _, _, h => by simp [killC] at h
  | o :: r, i, a, h => by
    cases o with
    | none =>
      rw [killC] at h
      · cases i with
        | zero => simp at h
        | succ i => simpa using killC_get (ρ := r) (i := i) (by simpa using h)
      · intro k z; cases z
    | some x =>
      cases x with
      | v d =>
        rw [killC] at h
        · cases i with
          | zero =>
            simp at h
            subst h
            exact ⟨rfl, fun k z => by cases z⟩
          | succ i => simpa using killC_get (ρ := r) (i := i) (by simpa using h)
        · intro k z; cases z
      | t d =>
        rw [killC] at h
        · cases i with
          | zero =>
            simp at h
            subst h
            exact ⟨rfl, fun k z => by cases z⟩
          | succ i => simpa using killC_get (ρ := r) (i := i) (by simpa using h)
        · intro k z; cases z
      | c k =>
        rw [killC] at h
        cases i with
        | zero =>
          by_cases hk : k = n
          · simp [hk] at h
          · rw [if_neg hk] at h
            simp at h
            subst h
            exact ⟨rfl, fun k' z => by cases z; exact hk⟩
        | succ i => simpa using killC_get (ρ := r) (i := i) (by simpa using h)
theorem killC_len (n : Nat) : ∀ ρ : Env, (killC n ρ).length = ρ.length
  | [] => rfl
  | o :: r => by
    cases o with
    | none =>
      rw [killC]
      · exact congrArg Nat.succ (killC_len n r)
      · intro k z; cases z
    | some x =>
      cases x with
      | v d =>
        rw [killC]
        · exact congrArg Nat.succ (killC_len n r)
        · intro k z; cases z
      | t d =>
        rw [killC]
        · exact congrArg Nat.succ (killC_len n r)
        · intro k z; cases z
      | c k =>
        rw [killC]
        exact congrArg Nat.succ (killC_len n r)
theorem take_set_ge {α : Type} (l : List α) {n i : Nat} (h : n ≤ i) (x : α) : (l.set i x).take n = l.take n := by
  rw [List.take_set]
  exact List.set_eq_of_length_le (by rw [List.length_take]; omega)
/-- cell n is from now on at address a, and holds c -/
theorem Sim.newCell {K : Frag} {F H : Hp} {m : List Addr} {μ : Mu} {n : Nat} {a : Addr} {c : Cell} (S : Sim K F m μ H) (hn : n < μ.length) (hc : CellOk K F H a c) (hf : ∀ (i : Nat) c', m[i]? = some a → μ[i]? = some c' → ¬ c'.live) :
    Sim K F (m.set n a) (μ.set n c) H := by
  have hm : n < m.length := by rw [S.len]; exact hn
  refine ⟨by rw [List.length_set, List.length_set]; exact S.len, S.sub, fun i b c' e1 e2 => ?_, fun i j b c1 c2 e1 e2 e3 e4 l1 l2 => ?_⟩
  · by_cases hi : n = i
    · subst hi
      rw [List.getElem?_set_self hm] at e1
      rw [List.getElem?_set_self hn] at e2
      cases e1
      cases e2
      exact hc
    · rw [List.getElem?_set_ne hi] at e1 e2
      exact S.cell i b c' e1 e2
  · by_cases hi : n = i
    · by_cases hj : n = j
      · omega
      · subst hi
        rw [List.getElem?_set_self hm] at e1
        rw [List.getElem?_set_ne hj] at e2 e4
        cases e1
        exact (hf j c2 e2 e4 l2).elim
    · by_cases hj : n = j
      · subst hj
        rw [List.getElem?_set_self hm] at e2
        rw [List.getElem?_set_ne hi] at e1 e3
        cases e2
        exact (hf i c1 e1 e3 l1).elim
      · rw [List.getElem?_set_ne hi] at e1 e3
        rw [List.getElem?_set_ne hj] at e2 e4
        exact S.inj i j b c1 c2 e1 e2 e3 e4 l1 l2
theorem RepS.newCell {K : Frag} {F : Hp} {m : List Addr} {σ : L2.St} {ρ : Env} {n i : Nat} {a : Addr} (R : RepS K F m σ ρ) (hn : n < m.length) (hi : i < ρ.length) :
    RepS K F (m.set n a) (σ.set i (some (.ref a))) ((killC n ρ).set i (some (.c n))) := by
  have hi' : i < (killC n ρ).length := by rw [killC_len]; exact hi
  refine ⟨by rw [List.length_set, List.length_set, killC_len]; exact R.len, fun j y e => ?_⟩
  by_cases h : i = j
  · subst h
    rw [List.getElem?_set_self hi'] at e
    cases e
    exact ⟨_, by rw [List.getElem?_set_self (by rw [R.len]; exact hi)], a, by rw [List.getElem?_set_self hn], rfl⟩
  · rw [List.getElem?_set_ne h] at e ⊢
    obtain ⟨e, hk⟩ := killC_get e
    obtain ⟨v, e2, r⟩ := R.get j y e
    refine ⟨v, e2, ?_⟩
    cases y with
    | v d => exact r
    | t d => exact r
    | c k =>
      obtain ⟨b, e3, e4⟩ := r
      exact ⟨b, by rw [List.getElem?_set_ne (fun z => hk k rfl z.symm)]; exact e3, e4⟩
theorem okS_newBy {i j : Nat} {st : Stmt} (h : PS X st (tAsg (tE X.K W .n A) (gName i))) : PS X st (tS X.K W n0 new (.new i j A)) := by
  refine PS.imp h fun D σ H h => ?_
  obtain ⟨F, m, μ, ρ, S, R, h⟩ := h
  rw [ex] at h
  refine ⟨F, m, μ, ρ, S, R, (post_st R h).imp (fun F' H' μ' x s S' q v r => ?_) fun _ _ _ _ _ x => x⟩
  cases x with
  | c n => exact (show False from r).elim
  | t n => exact (show False from r).elim
  | v d =>
    cases d with
    | lst xs =>
      obtain ⟨a, vs, rfl, h1, h2, h3, h4⟩ := r
      dsimp only at q
      by_cases hi : i < ρ.length ∧ n0 + j < μ'.length
      · rw [if_pos hi] at q
        have hm : n0 + j < m.length := by rw [S'.len]; exact hi.2
        exact q F' (m.set (n0 + j) a) H' _ (Same.refl _) (take_set_ge m (by omega) a) (S'.newCell hi.2 ⟨vs, h1, h2, h3⟩ h4) ((R.mono s).newCell hm hi.1)
      · rw [if_neg hi] at q
        exact (show False from q).elim
    | _ => exact (show False from q).elim
theorem okS_newE {i j : Nat} {x : Str} {ps : Pos} (hN : X.N.Nodup) (hi : X.N[i]? = some x) (hx : Loc X.env.scope x) (hf : X.fn x = true ∨ X.env.scope.names.lookup x = some .local) (he : PE X e (tE X.K W .n A)) (hs : swapsWith e (some (.Name x ps)) pos.line X.env = pure false) :
    PS X (.Assign [.Name x ps] e pos) (tS X.K W n0 new (.new i j A)) := okS_newBy (ps_set hN hi hx he hs hf)
end
end Wp

set_option Elab.async false
set_option linter.all false
set_option maxRecDepth 100000
set_option autoImplicit true
/-! W1f: stores into cells, augmented assignments, pairs at once. -/
namespace Wp
open PySem PySem.Spec PyProof.Rows L2

section
variable {es : List Expr} {X : Cx} {W : WX} {n0 : Nat} {new : Md} {e a b c : Expr} {A B C : E} {pos : Pos}

/-- behind the parts of a parallel assignment -/
def PostK (K : Frag) (W : WX) (n0 : Nat) (cs : List Nat) (F : Hp) (m : List Addr) (σ : L2.St) (k : Hp → Hp → List Addr → Mu → LA → Env → List V → Prop) : Res (LA × Env) → Prop
  | .ok y μ' => ∀ F' m' H', Same F F' → m'.take n0 = m.take n0 → (∀ i, (∀ j ∈ cs, i ≠ n0 + j) → m'[i]? = m[i]?) → Sim K F' m' μ' H' → RepS K F' m' σ y.2 → ∀ vs, RepAs K F' m' vs y.1 → k F' H' m' μ' y.1 y.2 vs
  | .exc c d μ' => ∀ F' H' cls dx, Same F F' → Sim K F' m μ' H' → ExcAt K F' H' c d cls dx → W cls dx σ H'
  | .no => False
def tPk (K : Frag) (W : WX) (n0 : Nat) (ps : List Pi) : TA := fun σ H Q => ∃ F m μ ρ, Sim K F m μ H ∧ RepS K F m σ ρ ∧
  PostK K W n0 (Pi.cells ps) F m σ (fun _ H' _ _ _ _ vs => Q vs H') (evk n0 ps ρ μ)
theorem okPk_nil : PA X [] (tPk X.K W n0 []) := by
  refine PA.imp pa_nil fun σ H Q h => ?_
  obtain ⟨F, m, μ, ρ, S, R, h⟩ := h
  exact h F m H (Same.refl F) rfl (fun _ _ => rfl) S R [] .nil
theorem RepAs.m {K : Frag} {F : Hp} {m m' : List Addr} (h : ∀ i : Nat, (∃ a, m[i]? = some a) → m'[i]? = m[i]?) : ∀ {v : V} {a : Wp.A}, RepA K F m v a → RepA K F m' v a := by
  intro v a r
  cases a with
  | v d => exact r
  | t d => exact r
  | c n =>
    obtain ⟨b, e, rfl⟩ := r
    exact ⟨b, by rw [h n ⟨b, e⟩]; exact e, rfl⟩
theorem tPk_imp {K : Frag} {ps : List Pi} {σ : L2.St} {H : Hp} {Q Q' : List V → Hp → Prop} (h : tPk K W n0 ps σ H Q) (i : ∀ vs H, Q vs H → Q' vs H) : tPk K W n0 ps σ H Q' := by
  obtain ⟨F, m, μ, ρ, S, R, h⟩ := h
  refine ⟨F, m, μ, ρ, S, R, ?_⟩
  cases e0 : evk n0 ps ρ μ with
  | no => rw [e0] at h; exact h
  | exc c d μ' => rw [e0] at h; exact h
  | ok y μ' =>
    rw [e0] at h
    exact fun F' m' H' s t o S' R' vs rs => i _ _ (h F' m' H' s t o S' R' vs rs)
theorem okPk_v {ps : List Pi} (ha : PE X e (tE X.K W .v A)) (hr : PA X es (tPk X.K W n0 ps)) (hs : starEach (e :: es) X.env = (false, eval e X.env) :: starEach es X.env) : PA X (e :: es) (tPk X.K W n0 (.v A :: ps)) := by
  refine PA.imp (pa_cons ha hr hs) fun σ H Q h => ?_
  obtain ⟨F, m, μ, ρ, S, R, h⟩ := h
  rw [evk, ev1] at h
  refine ⟨F, m, μ, ρ, S, R, ?_⟩
  cases e0 : ev A ρ μ with
  | no => rw [e0] at h; exact h
  | exc c d μ' => rw [e0] at h; exact h
  | ok x μ' =>
    rw [e0] at h
    intro F1 H1 s1 S1 v r
    cases x with
    | v d =>
      have h : PostK X.K W n0 _ F m σ _ ((evk n0 ps ρ μ').bind fun y μ2 => .ok (.v d :: y.1, y.2) μ2) := h
      refine ⟨F1, m, μ', ρ, S1, R.mono s1, ?_⟩
      cases e1 : evk n0 ps ρ μ' with
      | no => rw [e1] at h; exact h
      | exc c d' μ2 => rw [e1] at h; exact fun F2 H2 cls dx s2 => h F2 H2 cls dx (s1.trans s2)
      | ok y μ2 =>
        rw [e1] at h
        exact fun F2 m2 H2 s2 t2 o2 S2 R2 vs rs => h F2 m2 H2 (s1.trans s2) t2 o2 S2 R2 (v :: vs) (.cons (show Rep X.K F2 v d from (show Rep X.K F1 v d from r).mono s2) rs)
    | _ => exact (show False from h).elim
theorem okPk_t {ps : List Pi} (ha : PE X e (tE X.K W .t A)) (hr : PA X es (tPk X.K W n0 ps)) (hs : starEach (e :: es) X.env = (false, eval e X.env) :: starEach es X.env) : PA X (e :: es) (tPk X.K W n0 (.t A :: ps)) := by
  refine PA.imp (pa_cons ha hr hs) fun σ H Q h => ?_
  obtain ⟨F, m, μ, ρ, S, R, h⟩ := h
  rw [evk, ev1] at h
  refine ⟨F, m, μ, ρ, S, R, ?_⟩
  cases e0 : ev A ρ μ with
  | no => rw [e0] at h; exact h
  | exc c d μ' => rw [e0] at h; exact h
  | ok x μ' =>
    rw [e0] at h
    intro F1 H1 s1 S1 v r
    cases x with
    | v d =>
      have h : PostK X.K W n0 _ F m σ _ ((evk n0 ps ρ μ').bind fun y μ2 => .ok (.t d :: y.1, y.2) μ2) := h
      refine ⟨F1, m, μ', ρ, S1, R.mono s1, ?_⟩
      cases e1 : evk n0 ps ρ μ' with
      | no => rw [e1] at h; exact h
      | exc c d' μ2 => rw [e1] at h; exact fun F2 H2 cls dx s2 => h F2 H2 cls dx (s1.trans s2)
      | ok y μ2 =>
        rw [e1] at h
        exact fun F2 m2 H2 s2 t2 o2 S2 R2 vs rs => h F2 m2 H2 (s1.trans s2) t2 o2 S2 R2 (v :: vs) (.cons (show RepT X.K F2 v d from (show RepT X.K F1 v d from r).mono s2) rs)
    | _ => exact (show False from h).elim
theorem RepS.kill {K : Frag} {F : Hp} {m : List Addr} {σ : L2.St} {ρ : Env} {n : Nat} {a : Addr} (R : RepS K F m σ ρ) : RepS K F (m.set n a) σ (killC n ρ) := by
  refine ⟨by rw [killC_len]; exact R.len, fun j y e => ?_⟩
  obtain ⟨e, hk⟩ := killC_get e
  obtain ⟨v, e2, r⟩ := R.get j y e
  refine ⟨v, e2, ?_⟩
  cases y with
  | v d => exact r
  | t d => exact r
  | c k =>
    obtain ⟨b, e3, e4⟩ := r
    exact ⟨b, by rw [List.getElem?_set_ne (fun z => hk k rfl z.symm)]; exact e3, e4⟩
/-- a cell begun anew, and the rest -/
theorem begun {K : Frag} {σ : L2.St} {F F1 H1 : Hp} {m : List Addr} {μ' : Mu} {ρ : Env} {a : Addr} {j : Nat} {c : Wp.C} {ps : List Pi} {cs : List Nat} {Q : List V → Hp → Prop} (s1 : Same F F1) (S1 : Sim K F1 m μ' H1) (R1 : RepS K F1 m σ ρ) (hc : CellOk K F1 H1 a ⟨false, c⟩) (hf : ∀ (i : Nat) c', m[i]? = some a → μ'[i]? = some c' → ¬ c'.live)
    (hj : j ∉ Pi.cells ps) (hcs : ∀ i ∈ j :: Pi.cells ps, i ∈ cs)
    (h : PostK K W n0 cs F m σ (fun _ H' _ _ _ _ vs => Q vs H') ((begC (n0 + j) c ρ μ').bind fun x μ1 => (noExc (evk n0 ps x.2 μ1)).bind fun y μ2 => .ok (x.1 :: y.1, y.2) μ2)) :
    tPk K W n0 ps σ H1 fun vs H2 => Q (.ref a :: vs) H2 := by
  unfold begC at h
  by_cases hn : n0 + j < μ'.length
  · rw [if_pos hn] at h
    have h : PostK K W n0 _ F m σ _ ((noExc (evk n0 ps (killC (n0 + j) ρ) (μ'.set (n0 + j) ⟨false, c⟩))).bind fun y μ2 => .ok (.c (n0 + j) :: y.1, y.2) μ2) := h
    have hm : n0 + j < m.length := by rw [S1.len]; exact hn
    refine ⟨F1, m.set (n0 + j) a, μ'.set (n0 + j) ⟨false, c⟩, killC (n0 + j) ρ, S1.newCell hn hc hf, R1.kill, ?_⟩
    cases e1 : evk n0 ps (killC (n0 + j) ρ) (μ'.set (n0 + j) ⟨false, c⟩) with
    | no => rw [e1] at h; exact h
    | exc c d' μ2 => rw [e1] at h; exact (show False from h).elim
    | ok y μ2 =>
      rw [e1] at h
      intro F2 m2 H2 s2 t2 o2 S2 R2 vs rs
      refine h F2 m2 H2 (s1.trans s2) (t2.trans (take_set_ge m (Nat.le_add_right _ _) a)) (fun i hi => ?_) S2 R2 (.ref a :: vs) (.cons ⟨a, ?_, rfl⟩ rs)
      · rw [o2 i fun k hk => hi k (hcs k (List.mem_cons_of_mem _ hk))]
        exact List.getElem?_set_ne (fun z => hi j (hcs j List.mem_cons_self) z.symm)
      · rw [o2 (n0 + j) fun k hk z => hj (by have : j = k := by omega
                                             rw [this]; exact hk)]
        exact List.getElem?_set_self hm
  · rw [if_neg hn] at h
    exact (show False from h).elim
theorem okPk_n {ps : List Pi} {j : Nat} (ha : PE X e (tE X.K W .n A)) (hr : PA X es (tPk X.K W n0 ps)) (hs : starEach (e :: es) X.env = (false, eval e X.env) :: starEach es X.env) (hj : j ∉ Pi.cells ps) : PA X (e :: es) (tPk X.K W n0 (.n j A :: ps)) := by
  refine PA.imp (pa_cons ha hr hs) fun σ H Q h => ?_
  obtain ⟨F, m, μ, ρ, S, R, h⟩ := h
  rw [evk, ev1] at h
  refine ⟨F, m, μ, ρ, S, R, ?_⟩
  cases e0 : ev A ρ μ with
  | no => rw [e0] at h; exact h
  | exc c d μ' => rw [e0] at h; exact h
  | ok x μ' =>
    rw [e0] at h
    intro F1 H1 s1 S1 v r
    cases x with
    | v d =>
      cases d with
      | lst xs =>
        obtain ⟨a, vs, rfl, h1, h2, h3, h4⟩ := (show RepN X.K F1 m μ' H1 v (.lst xs) from r)
        exact begun (c := .lst xs) s1 S1 (R.mono s1) ⟨vs, h1, h2, h3⟩ h4 hj (fun i hi => hi) h
      | _ => exact (show False from h).elim
    | _ => exact (show False from h).elim
theorem okPk_dK {ps : List Pi} {j : Nat} {pd : Pos} (hr : PA X es (tPk X.K W n0 ps)) (hs : starEach (.Dict [] [] pd :: es) X.env = (false, eval (.Dict [] [] pd) X.env) :: starEach es X.env) (hj : j ∉ Pi.cells ps) : PA X (.Dict [] [] pd :: es) (tPk X.K W n0 (.dK j :: ps)) := by
  refine PA.imp (pa_cons pe_dnewK hr hs) fun σ H Q h => ?_
  obtain ⟨F, m, μ, ρ, S, R, h⟩ := h
  rw [evk, ev1] at h
  intro p hp
  exact begun (c := .dK []) (Same.refl F) (S.laid hp) R ⟨[], upd_same, S.sub.free hp, .nil⟩ (fun i c e1 e2 => S.notCell hp i c e1 e2) hj (fun i hi => hi) h
theorem okPk_dT {ps : List Pi} {j : Nat} {pd : Pos} (hr : PA X es (tPk X.K W n0 ps)) (hs : starEach (.Dict [] [] pd :: es) X.env = (false, eval (.Dict [] [] pd) X.env) :: starEach es X.env) (hj : j ∉ Pi.cells ps) : PA X (.Dict [] [] pd :: es) (tPk X.K W n0 (.dT j :: ps)) := by
  refine PA.imp (pa_cons pe_dnewT hr hs) fun σ H Q h => ?_
  obtain ⟨F, m, μ, ρ, S, R, h⟩ := h
  rw [evk, ev1] at h
  intro p hp
  exact begun (c := .dT []) (Same.refl F) (S.laid hp) R ⟨[], upd_same, S.sub.free hp, .nil⟩ (fun i c e1 e2 => S.notCell hp i c e1 e2) hj (fun i hi => hi) h
theorem evk_len : ∀ {ps : List Pi} {ρ : Env} {μ μ' : Mu} {y : LA × Env}, evk n0 ps ρ μ = .ok y μ' → y.1.length = ps.length
  | [], ρ, μ, μ', y, h => by
    unfold evk at h
    cases h
    rfl
  | p :: ps, ρ, μ, μ', y, h => by
    unfold evk at h
    cases e0 : ev1 n0 p ρ μ with
    | no => rw [e0] at h; cases h
    | exc c d μ1 => rw [e0] at h; cases h
    | ok x μ1 =>
      rw [e0] at h
      have h : ((if p.plain = true then evk n0 ps x.2 μ1 else noExc (evk n0 ps x.2 μ1)).bind fun y μ2 => .ok (x.1 :: y.1, y.2) μ2) = .ok y μ' := h
      cases e1 : evk n0 ps x.2 μ1 with
      | no => rw [e1] at h; split at h <;> cases h
      | exc c d μ2 => rw [e1] at h; split at h <;> cases h
      | ok z μ2 =>
        rw [e1] at h
        have h : Res.ok (x.1 :: z.1, z.2) μ2 = .ok y μ' := by split at h <;> exact h
        cases h
        exact congrArg Nat.succ (evk_len e1)
/-- from the parts to the assignment -/
theorem tPk_st {K : Frag} {D : Ends} {σ : L2.St} {H : Hp} {is : List Nat} {ps : List Pi} (h : tS K W n0 new (.par is ps) D σ H) :
    tPk K W n0 ps σ H fun vs H1 => vs.length = ps.length ∧ ∃ F m μ ρ as, Sim K F m μ H1 ∧ RepS K F m σ ρ ∧ RepAs K F m vs as ∧ PostS K W n0 new F m D (match putAll ρ is as with | some ρ' => .nx ρ' μ | none => .no) := by
  obtain ⟨F, m, μ, ρ, S, R, h⟩ := h
  rw [ex] at h
  refine ⟨F, m, μ, ρ, S, R, ?_⟩
  cases e0 : evk n0 ps ρ μ with
  | no => rw [e0] at h; exact h
  | exc c d μ' =>
    rw [e0] at h
    exact fun F' H' cls dx s S' x => h F' m H' σ cls dx s rfl S' (R.mono s) x
  | ok y μ' =>
    rw [e0] at h
    exact fun F' m' H' s t o S' R' vs rs => ⟨by rw [Paired.length rs]; exact evk_len e0, F', m', μ', y.2, y.1, S', R', rs, PostS.weak s t h⟩
theorem okS_par2 {i j : Nat} {x y : Str} {p1 p2 : Pi} {px py pt pt2 : Pos} {kt k2 : Nat} (hc : X.calm = true) (hN : X.N.Nodup) (hi : X.N[i]? = some x) (hj : X.N[j]? = some y) (hij : i ≠ j)
    (hx : X.env.scope.names.lookup x = some .local) (hy : X.env.scope.names.lookup y = some .local) (ha : PA X [a, b] (tPk X.K W n0 [p1, p2]))
    (hw : swappedStores [.Tuple [.Name x px, .Name y py] kt pt] (.Tuple [a, b] k2 pt2) X.env = pure (some [x, y])) (hs : swapsWithSole [.Tuple [.Name x px, .Name y py] kt pt] (.Tuple [a, b] k2 pt2) pos.line X.env = pure false) :
    PS X (.Assign [.Tuple [.Name x px, .Name y py] kt pt] (.Tuple [a, b] k2 pt2) pos) (tS X.K W n0 new (.par [i, j] [p1, p2])) := by
  refine PS.imp (ps_par hc hN hi hj hij hx hy ha hw hs) fun D σ H h => tPk_imp (tPk_st h) fun vs H1 q => ?_
  obtain ⟨hl, F, m, μ, ρ, as, S, R, rs, q⟩ := q
  match vs, as, rs, hl with
  | [v1, v2], _, .cons (b := a1) r1 (.cons (b := a2) r2 .nil), _ =>
    refine ⟨v1, v2, rfl, ?_⟩
    unfold putAll at q
    by_cases h1 : i < ρ.length
    · rw [if_pos h1] at q
      unfold putAll at q
      by_cases h2 : j < (ρ.set i (some a1)).length
      · rw [if_pos h2] at q
        unfold putAll at q
        exact q F m H1 _ (Same.refl _) rfl S ((R.set r1 h1).set r2 h2)
      · rw [if_neg h2] at q
        exact (show False from q).elim
    · rw [if_neg h1] at q
      exact (show False from q).elim
theorem okS_par3 {i j l : Nat} {x y z : Str} {p1 p2 p3 : Pi} {px py pz pt pt2 : Pos} {kt k2 : Nat} (hc : X.calm = true) (hN : X.N.Nodup) (hi : X.N[i]? = some x) (hj : X.N[j]? = some y) (hl : X.N[l]? = some z) (hij : i ≠ j) (hil : i ≠ l) (hjl : j ≠ l)
    (hx : X.env.scope.names.lookup x = some .local) (hy : X.env.scope.names.lookup y = some .local) (hz : X.env.scope.names.lookup z = some .local) (ha : PA X [a, b, c] (tPk X.K W n0 [p1, p2, p3]))
    (hw : swappedStores [.Tuple [.Name x px, .Name y py, .Name z pz] kt pt] (.Tuple [a, b, c] k2 pt2) X.env = pure (some [x, y, z])) (hs : swapsWithSole [.Tuple [.Name x px, .Name y py, .Name z pz] kt pt] (.Tuple [a, b, c] k2 pt2) pos.line X.env = pure false) :
    PS X (.Assign [.Tuple [.Name x px, .Name y py, .Name z pz] kt pt] (.Tuple [a, b, c] k2 pt2) pos) (tS X.K W n0 new (.par [i, j, l] [p1, p2, p3])) := by
  refine PS.imp (ps_par3 hc hN hi hj hl hij hil hjl hx hy hz ha hw hs) fun D σ H h => tPk_imp (tPk_st h) fun vs H1 q => ?_
  obtain ⟨hl, F, m, μ, ρ, as, S, R, rs, q⟩ := q
  match vs, as, rs, hl with
  | [v1, v2, v3], _, .cons (b := a1) r1 (.cons (b := a2) r2 (.cons (b := a3) r3 .nil)), _ =>
    refine ⟨v1, v2, v3, rfl, ?_⟩
    unfold putAll at q
    by_cases h1 : i < ρ.length
    · rw [if_pos h1] at q
      unfold putAll at q
      by_cases h2 : j < (ρ.set i (some a1)).length
      · rw [if_pos h2] at q
        unfold putAll at q
        by_cases h3 : l < ((ρ.set i (some a1)).set j (some a2)).length
        · rw [if_pos h3] at q
          unfold putAll at q
          exact q F m H1 _ (Same.refl _) rfl S (((R.set r1 h1).set r2 h2).set r3 h3)
        · rw [if_neg h3] at q
          exact (show False from q).elim
      · rw [if_neg h2] at q
        exact (show False from q).elim
    · rw [if_neg h1] at q
      exact (show False from q).elim

/-! ### a cell changed -/
theorem CellOk.unfrozen {K : Frag} {F H : Hp} {a : Addr} {c : Wp.C} (h : CellOk K F H a ⟨false, c⟩) (hl : c ≠ .dead) : F a = none := by
  cases c with
  | dead => exact (hl rfl).elim
  | lst ds => obtain ⟨_, _, _, h⟩ := h; exact h
  | dK ds => obtain ⟨_, _, h, _⟩ := h; exact h
  | dT ds => obtain ⟨_, _, h, _⟩ := h; exact h
theorem live_of {fz : Bool} {c : Wp.C} (h : c ≠ .dead) : (⟨fz, c⟩ : Cell).live := by
  cases c with
  | dead => exact h rfl
  | _ => trivial
theorem Sim.write {K : Frag} {F H : Hp} {m : List Addr} {μ : Mu} {n : Nat} {a : Addr} {c c' : Wp.C} {o : HO} (S : Sim K F m μ H) (e1 : m[n]? = some a) (e2 : μ[n]? = some ⟨false, c⟩) (hl : c ≠ .dead) (hc : CellOk K F (upd H a o) a ⟨false, c'⟩) :
    Sim K F m (μ.set n ⟨false, c'⟩) (upd H a o) := by
  have hn : n < μ.length := (List.getElem?_eq_some_iff.mp e2).1
  have hF := CellOk.unfrozen (S.cell n a _ e1 e2) hl
  refine ⟨by rw [List.length_set]; exact S.len, same_upd2 S.sub hF, fun i b d h1 h2 => ?_, fun i j b d d' h1 h2 h3 h4 l1 l2 => ?_⟩
  · by_cases hi : n = i
    · subst hi
      rw [List.getElem?_set_self hn] at h2
      rw [e1] at h1
      cases h1
      cases h2
      exact hc
    · rw [List.getElem?_set_ne hi] at h2
      by_cases l : d.live
      · have hba : b ≠ a := fun z => by
          subst z
          exact hi (S.inj i n b d _ h1 e1 h2 e2 l (live_of hl)).symm
        exact (S.cell i b d h1 h2).mono (Same.refl F) (fun x e => by rw [upd_ne hba]; exact e) id
      · obtain ⟨fz, d⟩ := d
        cases d with
        | dead => trivial
        | _ => exact (l trivial).elim
  · have old : ∀ (i : Nat) d, (μ.set n ⟨false, c'⟩)[i]? = some d → d.live → ∃ d', μ[i]? = some d' ∧ d'.live := by
      intro i d h l
      by_cases hi : n = i
      · subst hi
        exact ⟨_, e2, live_of hl⟩
      · rw [List.getElem?_set_ne hi] at h
        exact ⟨d, h, l⟩
    obtain ⟨x, h5, l3⟩ := old i d h3 l1
    obtain ⟨y, h6, l4⟩ := old j d' h4 l2
    exact S.inj i j b x y h1 h2 h5 h6 l3 l4
theorem ixN_eq (n : Nat) (i : Int) : L2.ixN n i = Wp.ixN n i := rfl

/-- x[k] = v, x a list -/
theorem okS_updL {o k v : Expr} {xo kk vv : E} {ps : Pos} (ho : PE X o (tE X.K W .v xo)) (hk : PE X k (tE X.K W .v kk)) (hv : PE X v (tE X.K W .v vv))
    (hs : swapsWithSole [.Subscript o k ps] v pos.line X.env = pure false) (hw : swappedStores [.Subscript o k ps] v X.env = pure none) (h1 : (assignEach [.Subscript o k ps] X.env).map (·.2) = [assign (.Subscript o k ps) X.env])
    (ha : ∀ w, assign (.Subscript o k ps) X.env w = (do
      let ov ← holding [w] (eval o X.env)
      let iv ← holding [w, ov] (eval k X.env)
      standAt ps
      holding [w, ov, iv] (setItem ov iv w)
      release [w, ov, iv] [])) :
    PS X (.Assign [.Subscript o k ps] v pos) (tS X.K W n0 new (.updL xo kk vv)) := by
  refine PS.imp (ps_asg hv (pg_sub ho hk set_list ha) hs hw h1) fun D σ H h => ?_
  obtain ⟨F, m, μ, ρ, S, R, h⟩ := h
  rw [ex] at h
  refine ⟨F, m, μ, ρ, S, R, (post_st R h).imp (fun F1 H1 μ1 va s1 S1 q v1 r1 => ?_) fun _ _ _ _ _ x => x⟩
  refine ⟨F1, m, μ1, ρ, S1, R.mono s1, (post_st (R.mono s1) q).imp (fun F2 H2 μ2 xa s2 S2 q v2 r2 => ?_) fun _ _ _ _ _ x => x⟩
  have R2 := (R.mono s1).mono s2
  refine ⟨F2, m, μ2, ρ, S2, R2, (post_st R2 q).imp (fun F3 H3 μ3 ka s3 S3 q v3 r3 => ?_) fun _ _ _ _ _ x => x⟩
  cases va with
  | c n => exact (show False from q).elim
  | t n => exact (show False from q).elim
  | v vd =>
    cases xa with
    | v d => exact (show False from q).elim
    | t d => exact (show False from q).elim
    | c n =>
      cases ka with
      | c n => exact (show False from q).elim
      | t n => exact (show False from q).elim
      | v kd =>
        dsimp only at q
        obtain ⟨a, e1, rfl⟩ := r2
        cases e2 : μ3[n]? with
        | none => rw [e2] at q; exact (show False from q).elim
        | some cc =>
          obtain ⟨fz, xc⟩ := cc
          rw [e2] at q
          cases fz with
          | true => exact (show False from q).elim
          | false =>
            dsimp only at q
            cases xc with
            | lst xs =>
              cases kd with
              | int i =>
                have q : PostS X.K W n0 new F3 m D (match (Wp.ixN xs.length i).map fun j => Wp.C.lst (xs.set j vd) with | some c' => .nx ρ (μ3.set n ⟨false, c'⟩) | none => .no) := q
                cases e3 : Wp.ixN xs.length i with
                | none => rw [e3] at q; exact (show False from q).elim
                | some j =>
                  rw [e3] at q
                  obtain ⟨vs, h1, h2, h3⟩ := S3.cell n a _ e1 e2
                  cases (show Rep X.K F3 v3 (.int i) from r3)
                  have r1' : Rep X.K F3 v1 vd := (show Rep X.K F1 v1 vd from r1).mono (s2.trans s3)
                  refine ⟨a, vs, i, j, rfl, rfl, h1, by rw [h2.length]; exact e3, ?_⟩
                  exact q F3 m _ σ (Same.refl _) rfl (S3.write e1 e2 (by simp) ⟨_, upd_same, h2.set r1' j, h3⟩) (R2.mono s3)
              | _ => exact (show False from q).elim
            | _ => exact (show False from q).elim
/-- xs[i], read by values -/
theorem get_list : PGet X (rIxL X.K) := by
  intro pins s σ H x y v u Q I rx ry h
  obtain ⟨p, xs, i, z, rfl, rfl, hq, he, q⟩ := h
  cases rx
  obtain ⟨t, rfl⟩ := ry
  obtain ⟨its, r, pl, hz⟩ := I.list hq
  obtain ⟨j, h1, h2, h3, h4, h5⟩ := atI_get he
  obtain ⟨w, ew, rw'⟩ := r.get h2
  have hl := r.length
  have hn := line63
  have fin : EP X pins σ Q w s := ⟨z, H, I, rw', q⟩
  by_cases h0 : 0 ≤ i
  · have hj : i.toNat = j := by
      rw [seqIndex_of h0 h5] at h1
      exact Option.some.inj h1
    exact wpAny_getItem_list pl.isList h0 (by omega) (by rw [hj]; simpa using ew) fin
  · have hj : (i + (its.toArray.size : Int)).toNat = j := by
      rw [seqIndex_neg (by omega) h4] at h1
      rw [List.size_toArray, ← hl]
      exact Option.some.inj h1
    exact wpAny_getItem_list_neg pl.isList (by omega) (by rw [List.size_toArray] <;> omega) (by omega) (by rw [hj]; simpa using ew) fin
theorem Reps.atI {K : Frag} {F : Hp} {vs : List V} {ds : List D} {i : Int} {j : Nat} {d : D} (r : Reps K F vs ds) (e : Wp.ixN ds.length i = some j) (h : ds[j]? = some d) : ∃ v, L2.atI vs i = some v ∧ Rep K F v d := by
  obtain ⟨v, ev, rv⟩ := r.get h
  refine ⟨v, ?_, rv⟩
  unfold L2.atI
  rw [r.length, show L2.ixN ds.length i = some j from e]
  exact ev
/-- x[k] op= e, x a list -/
theorem okS_augL {o k : Expr} {xo kk : E} {op : Operator} {r : R2} {p : P} {ps : Pos} (ho : PE X o (tE X.K W .v xo)) (hk : PE X k (tE X.K W .v kk)) (he : PE X e (tE X.K W .v A)) (hop : PIp X op r) (hp : PrimN X.K .v (rr2 r) p.f)
    (ha : ∀ ov iv new, augStore k ov iv new = (do holding [new, ov, iv] (setItem ov iv new); release [new, ov, iv] []; pure .next)) :
    PS X (.AugAssign (.Subscript o k ps) op e pos) (tS X.K W n0 new (.augL xo kk p A)) := by
  refine PS.imp (ps_augS ho hk get_list he hop set_list ha) fun D σ H h => ?_
  obtain ⟨F, m, μ, ρ, S, R, h⟩ := h
  rw [ex] at h
  refine ⟨F, m, μ, ρ, S, R, (post_st R h).imp (fun F1 H1 μ1 xa s1 S1 q v1 r1 => ?_) fun _ _ _ _ _ x => x⟩
  refine ⟨F1, m, μ1, ρ, S1, R.mono s1, (post_st (R.mono s1) q).imp (fun F2 H2 μ2 ka s2 S2 q v2 r2 => ?_) fun _ _ _ _ _ x => x⟩
  have R2 := (R.mono s1).mono s2
  cases xa with
  | v d => exact (show False from q).elim
  | t d => exact (show False from q).elim
  | c n =>
    cases ka with
    | c n => exact (show False from q).elim
    | t n => exact (show False from q).elim
    | v kd =>
      dsimp only at q
      obtain ⟨a, e1, rfl⟩ := r1
      cases e2 : μ2[n]? with
      | none => rw [e2] at q; exact (show False from q).elim
      | some cc =>
        obtain ⟨fz, xc⟩ := cc
        rw [e2] at q
        dsimp only at q
        cases xc with
        | lst xs =>
          cases kd with
          | int i =>
            cases (show Rep X.K F2 v2 (.int i) from r2)
            cases e3 : lookL (.lst xs) (.int i) with
            | none => rw [e3] at q; exact (show False from q).elim
            | some old =>
              rw [e3] at q
              dsimp only at q
              have e3' : (Wp.ixN xs.length i).bind (fun j => xs[j]?) = some old := e3
              cases e4 : Wp.ixN xs.length i with
              | none => rw [e4] at e3'; cases e3'
              | some j =>
                rw [e4] at e3'
                have e5 : xs[j]? = some old := e3'
                -- what is read
                have rd : ∃ vs, SqL X.K H2 a vs ∧ Reps X.K F2 vs xs := by
                  have hc := S2.cell n a _ e1 e2
                  cases fz with
                  | false =>
                    obtain ⟨vs, h1, h2, h3⟩ := hc
                    exact ⟨vs, .of h1, h2⟩
                  | true =>
                    obtain ⟨vs, h1, h2⟩ := hc
                    exact ⟨vs, .of (S2.sub _ _ h1), h2⟩
                obtain ⟨vs, hs, hr⟩ := rd
                obtain ⟨ov, eo, ro⟩ := hr.atI e4 e5
                refine ⟨a, vs, i, ov, rfl, rfl, hs, eo, F2, m, μ2, ρ, S2, R2, (post_st R2 q).imp (fun F3 H3 μ3 ya s3 S3 q w r3 => ?_) fun _ _ _ _ _ x => x⟩
                cases e6 : dr μ3 ya with
                | none => rw [e6] at q; exact (show False from q).elim
                | some y =>
                  rw [e6] at q
                  cases e7 : μ3[n]? with
                  | none => rw [e7] at q; exact (show False from q).elim
                  | some cc =>
                    obtain ⟨fz3, c3⟩ := cc
                    rw [e7] at q
                    cases fz3 with
                    | true => exact (show False from q).elim
                    | false =>
                      dsimp only at q
                      cases e8 : p.f [old, y] with
                      | none => rw [e8] at q; exact (show False from q).elim
                      | some d =>
                        rw [e8] at q
                        dsimp only at q
                        obtain ⟨x', y', ee, hr⟩ := hp F3 m μ3 H3 [ov, w] [old, y] d (fun z H5 => rSetL (.ref a) (.int i) z H5 fun H6 => D.nx σ H6) S3 (.cons (.inl (ro.mono s3)) (.cons (S3.dr r3 e6) .nil)) e8 fun F4 H4 z s4 S4 rz => by
                          cases c3 with
                          | lst ys =>
                            have q : PostS X.K W n0 new F3 m D (match (Wp.ixN ys.length i).map fun j => Wp.C.lst (ys.set j d) with | some c' => .nx ρ (μ3.set n ⟨false, c'⟩) | none => .no) := q
                            cases e9 : Wp.ixN ys.length i with
                            | none => rw [e9] at q; exact (show False from q).elim
                            | some l =>
                              rw [e9] at q
                              obtain ⟨ws, h1, h2, h3⟩ := S4.cell n a _ e1 e7
                              refine ⟨a, ws, i, l, rfl, rfl, h1, by rw [h2.length]; exact e9, ?_⟩
                              exact q F4 m _ σ s4 rfl (S4.write e1 e7 (by simp) ⟨_, upd_same, h2.set rz l, h3⟩) ((R2.mono s3).mono s4)
                          | _ => exact (show False from q).elim
                        cases ee
                        exact hr
          | _ => exact (show False from q).elim
        | _ =>
          cases kd <;> exact (show False from q).elim
/-- x op= e -/
theorem okS_aug {i : Nat} {x : Str} {op : Operator} {r : R2} {p : P} {ps : Pos} (hN : X.N.Nodup) (hi : X.N[i]? = some x) (hx : Loc X.env.scope x) (hf : X.fn x = true ∨ X.env.scope.names.lookup x = some .local) (he : PE X e (tE X.K W .v A)) (ho : PIp X op r) (hp : PrimN X.K .v (rr2 r) p.f) :
    PS X (.AugAssign (.Name x ps) op e pos) (tS X.K W n0 new (.aug i p A)) := by
  refine PS.imp (ps_aug hN hi hx he ho hf) fun D σ H h => ?_
  obtain ⟨F, m, μ, ρ, S, R, h⟩ := h
  rw [ex] at h
  cases e1 : ρ[i]? with
  | none => rw [e1] at h; exact (show False from h).elim
  | some o =>
    cases o with
    | none => rw [e1] at h; exact (show False from h).elim
    | some y =>
      cases y with
      | c n => rw [e1] at h; exact (show False from h).elim
      | t n => rw [e1] at h; exact (show False from h).elim
      | v xd =>
        rw [e1] at h
        dsimp only at h
        obtain ⟨v, e2, r0⟩ := R.get i _ e1
        refine ⟨v, e2, F, m, μ, ρ, S, R, (post_st R h).imp (fun F' H' μ' a s S' q w r1 => ?_) fun _ _ _ _ _ x => x⟩
        cases e3 : dr μ' a with
        | none => rw [e3] at q; exact (show False from q).elim
        | some y =>
          rw [e3] at q
          dsimp only at q
          cases e4 : p.f [xd, y] with
          | none => rw [e4] at q; exact (show False from q).elim
          | some d =>
            rw [e4] at q
            have hil : i < ρ.length := (List.getElem?_eq_some_iff.mp e1).1
            have r0' : Rep X.K F' v xd := (show Rep X.K F v xd from r0).mono s
            obtain ⟨x', y', ee, hr⟩ := hp F' m μ' H' [v, w] [xd, y] d (fun z H2 => D.nx (σ.set i (some z)) H2) S' (.cons (.inl r0') (.cons (S'.dr r1 e3) .nil)) e4 fun F2 H2 z s2 S2 rz => q F2 m H2 _ s2 rfl S2 (((R.mono s).mono s2).set rz hil)
            cases ee
            exact hr
end
end Wp

set_option Elab.async false
set_option linter.all false
set_option maxRecDepth 100000
set_option autoImplicit true
/-! W1g: what a loop walks. -/
namespace PySem
open Sem (wp)
set_option maxHeartbeats 1000000 in
theorem wp_meets_enumerate_new1 {v : Value} {o : Obj} {H : Heap → Prop} (B : Begins v o H) :
    Meets (Builtin.«enumerate.__new__» ⟨[.type "enumerate", v], []⟩) (fun _ R s => H s.heap ∧
      R (.ok (.ret (.ref (s.heap.push o).objs.size))) { s with heap := (s.heap.push o).push { cls := .type "enumerate", data := .fields #[.none, .bool false, .ref s.heap.objs.size, rawInt 0, .none, .none] } }) :=
  .of_wp fun prog w A R s h => by
    obtain ⟨hp, g, d, tk, os⟩ := s; obtain ⟨h1, h⟩ := h
    have hsub := sub_enumerate
    have q1 : ∀ {A' : Around} {E : Value → Shared → Prop} {Q : Value → Shared → Prop}, Q (.ref hp.objs.size) ⟨hp.push o, g, d, tk, os⟩ → wpAny (model prog w) A' (pyIter v) Q E ⟨hp, g, d, tk, os⟩ :=
      fun q => B.iter prog w _ _ ⟨hp, g, d, tk, os⟩ _ h1 q
    wp_walk using q1
    refine wpAny_stack_any fun st => wpAny_pure ?_
    split
    · rename_i c _ _ _ _ _
      cases (c == Value.type "enumerate")
      · wp_walk using q1
        exact ⟨_, rfl, h⟩
      · wp_walk using q1
        exact ⟨_, rfl, h⟩
    · wp_walk using q1
      exact ⟨_, rfl, h⟩
/-- enumerate(v): its two new objects -/
theorem wp_enum_begins1 {prog : Program} {w : World} {A : Around} {E : Value → Shared → Prop} {s : Shared} {v : Value} {o : Obj} {H : Heap → Prop} {Q : Value → Shared → Prop} (B : Begins v o H) (h1 : H s.heap)
    (h : ∀ h', IsEnum h' (s.heap.objs.size + 1) s.heap.objs.size 0 .none → h'.get? s.heap.objs.size = some o → h'.objs.size = s.heap.objs.size + 2 →
      (∀ b o, s.heap.get? b = some o → h'.get? b = some o) → Q (.ref (s.heap.objs.size + 1)) { s with heap := h' }) :
    wpAny (model prog w) A (call (.type "enumerate") [v]) Q E s := by
  refine callType_new F.called_enumerate (by decide) (F.typeCall_enumerate_1 _) (F.newCall_enumerate_1 _) (fun obj => F.args_object_init_2 obj _) F.entry_enumerate_new
    (wp_meets_enumerate_new1 B) ⟨h1, ?_⟩
  have hz : (s.heap.push o).objs.size = s.heap.objs.size + 1 := Heap.size_push ..
  show _ ∧ _
  rw [hz]
  have he : IsEnum ((s.heap.push o).push { cls := .type "enumerate", data := .fields #[.none, .bool false, .ref s.heap.objs.size, rawInt 0, .none, .none] }) (s.heap.objs.size + 1) s.heap.objs.size 0 .none := by
    have := Heap.get?_push_size (s.heap.push o) (o := { cls := .type "enumerate", data := .fields #[.none, .bool false, .ref s.heap.objs.size, rawInt 0, .none, .none] }) rfl
    rw [hz] at this; exact this
  refine ⟨⟨_, he, rfl⟩, h _ he (Heap.get?_push_of_some _ (Heap.get?_push_size _ B.free)) (by rw [Heap.size_push, hz]) fun b o x => Heap.get?_push_of_some _ (Heap.get?_push_of_some _ x)⟩
end PySem

namespace Wp
open PySem PySem.Spec PyProof.Rows L2

/-! ### enumerate of a tuple -/
def IteT (K : Frag) (a : Addr) : It :=
  ⟨fun i H => ∃ (xs : List V) (x : V), SqT K H a xs ∧ xs[i]? = some x, fun i H v H' => ∃ T x, v = .ref T ∧ H T = none ∧ H' = upd H T (.tup [.int (i : Nat), x]) ∧ ∀ xs, SqT K H a xs → xs[i]? = some x, fun i H => ∃ xs : List V, SqT K H a xs ∧ xs.length = i⟩
theorem turn_enumT {P : Program} {w : World} {K : Frag} {elts : List Expr} {kk : Nat} {tpos : Pos} (a e it : Addr) :
    Turn P w K (.Tuple elts kk tpos) (IteT K a) [e, it] e (fun i h => (∃ old, IsEnum h e it ((i : Nat) : Int) old) ∧ h.IsTupleIter it a i ∧ e ≠ it ∧ a ≠ it ∧ a ≠ e) where
  mem := by simp
  obj := fun i h st b hb => by
    obtain ⟨⟨old, he⟩, ⟨o, ho, hc, hd⟩, _⟩ := st
    have e' : b = e ∨ b = it := by simpa using hb
    rcases e' with z | z
    · rw [z]; exact ⟨_, he, fun v q => nomatch q⟩
    · rw [z]; exact ⟨o, ho, fun v q => by rw [hd] at q; cases q⟩
  keep := fun i h h' st k => let ⟨⟨old, he⟩, hi, hne⟩ := st; ⟨⟨old, k e (by simp) _ he⟩, hi.at fun o q => k it (by simp) o q, hne⟩
  item := by
    intro X hP hw hK hc i pins s σ H E I hf st hg
    subst hP hw hK
    obtain ⟨⟨old, he⟩, hit, hne, hai, hae⟩ := st
    obtain ⟨xs, x, hq, hx⟩ := hg
    obtain ⟨its, rv, p, hz⟩ := I.tuple hq
    obtain ⟨u, hu, ru⟩ := rv.get hx
    have hel : e < s.heap.objs.size := Heap.lt_size he
    have hil : it < s.heap.objs.size := by obtain ⟨_, q, _⟩ := hit; exact Heap.lt_size q
    have D := Draws.tuple (prog := X.prog) (w := X.w) (A := X.A.in1) (I.ok.hd hc) it a hai its.toArray
    have hlt : i < its.toArray.size := by
      have := (List.getElem?_eq_some_iff.mp hu).1
      simpa using this
    refine wpAny_pyNext_enum_itemD D he ⟨hit, p⟩ hlt hne (by simp [hne, Ne.symm hae]) fun u' h' tk hP ho hst' hT hsz hk => ?_
    have hu' : u' = u := by
      have h1 : its.toArray[i]? = some u' := hP
      rw [show its.toArray[i]? = its[i]? by simp, hu] at h1
      exact (Option.some.inj h1).symm
    subst hu'
    refine ⟨_, rfl, wpAny_letOwnedTupleGo_enum (s := { s with heap := h', toks := tk + 1 }) ho fun h'' he' sb => ?_⟩
    have hT2 : h''.get? s.heap.objs.size = some { cls := .type "tuple", data := .seq #[.int i tk, u'] } := (sb.2 _ (Nat.ne_of_gt hel)).trans hT
    have new : ObjOk X.prog X.w (upd H s.heap.objs.size (.tup [.int (i : Nat), x])) h'' s.heap.objs.size (.tup [.int (i : Nat), x]) :=
      ⟨by show 2 ≤ sizeLine; decide, [.int i tk, u'], .cons ⟨_, rfl⟩ (.cons ru .nil), ⟨_, hT2, rfl, _, rfl⟩⟩
    have I1 : Inv X pins σ (upd H s.heap.objs.size (.tup [.int (i : Nat), x])) { s with heap := h'', toks := tk + 1 } :=
      I.turnedNew (ch := [e, it]) (fun b ob hb q => (sb.2 b (fun z => hb (by simp [z]))).trans (hk b ob (fun z => hb (by simp [z])) (fun z => hb (by simp [z])) q)) hf (Nat.le_refl _) new
    refine ⟨.ref s.heap.objs.size, _, I1, rfl, ⟨_, x, rfl, I.hok.fresh (Nat.le_refl _), rfl, fun ys hy => by rw [I.tuple_inj hy hq]; exact hx⟩, ⟨⟨u', ?_⟩, hst'.1.at fun o q => (sb.2 it (Ne.symm hne)).trans q, hne, hai, hae⟩, fun b hb => ?_⟩
    · have e1 : ((i + 1 : Nat) : Int) = (i : Int) + 1 := by omega
      rw [e1]; exact he'
    · have hb' : b < s.heap.objs.size := by
        have e' : b = e ∨ b = it := by simpa using hb
        rcases e' with z | z
        · rw [z]; exact hel
        · rw [z]; exact hil
      rw [upd_ne (Nat.ne_of_lt hb')]
      exact (hf b hb).1
  done := by
    intro X hP hw hK hc i pins s σ H E I hf st hg
    subst hP hw hK
    obtain ⟨⟨old, he⟩, hit, hne, hai, hae⟩ := st
    obtain ⟨xs, hq, hx⟩ := hg
    obtain ⟨its, rv, p, hz⟩ := I.tuple hq
    obtain ⟨f0, f1, f2, f3, f4, f5⟩ := hf it (by simp)
    have hl := rv.length
    have D := Draws.tuple (prog := X.prog) (w := X.w) (A := X.A.in1) (I.ok.hd hc) it a hai its.toArray
    have hi : i = its.toArray.size := by simp; omega
    refine wpAny_pyNext_enum_endD D he (by rw [← hi]; exact ⟨hit, p⟩) fun h' eb => ⟨rfl, I.turned (t' := s.toks) (fun b o hb q => eb b o hb q) f0 f1 f3 f4 f5⟩
  self := fun A i s Q E st h => let ⟨⟨_, he⟩, _⟩ := st; wpAny_pyIter_enum he h

section
variable {X : Cx} {tg : Expr}
/-- enumerate of a list or of a tuple -/
def iEnumA (K : Frag) (ta : TA) : TI := fun σ H R => ta σ H fun vs H1 => ∃ a xs, vs = [.ref a] ∧ ((SqL K H1 a xs ∧ R (Ite K a) H1) ∨ (SqT K H1 a xs ∧ R (IteT K a) H1))
theorem pi_enumA {e : Expr} {ta : TA} {p pos tpos : Pos} {elts : List Expr} {kk : Nat} (hg : Gl X "enumerate") (hm : X.mg "enumerate" = none) (ha : PA X [e] ta) (hs : starEach [e] X.env = [(false, eval e X.env)] := by rfl) :
    PI X (.Tuple elts kk tpos) (.Call (.Name "enumerate" p) [e] [] pos) (iEnumA X.K ta) := by
  refine ⟨fun pins s σ H R I h => ?_⟩
  refine Call_ (ld_blt I hg hm boot_enumerate (PyProof.Rows.callWith_type1 (thn (ha.run pos pins s σ H _ I h) fun us s1 ⟨vs, H1, I1, r1, q1⟩ => ?_) hs rfl))
  obtain ⟨a, xs, ex, q1⟩ := q1
  subst ex
  cases r1 with
  | cons r rr =>
    cases rr
    cases r
    have fp2 : ∀ b ∈ [s1.heap.objs.size + 1, s1.heap.objs.size], FpOk X pins H1 b := fun b hb => by
      have e' : b = s1.heap.objs.size + 1 ∨ b = s1.heap.objs.size := by simpa using hb
      have hle : s1.heap.objs.size ≤ b := by
        rcases e' with z | z
        · rw [z]; exact Nat.le_add_right _ _
        · rw [z]; exact Nat.le_refl _
      exact I1.fpOk hle (I1.hok.fresh hle)
    rcases q1 with ⟨hq, q⟩ | ⟨hq, q⟩
    · obtain ⟨its, rv, p', hz⟩ := I1.list hq
      refine call_enumerate_list p'.isList fun h' he hit hsz hk => wpAny_pyIter_enum he ?_
      have I2 : Inv X pins σ H1 { s1 with heap := h' } := I1.kept (t' := s1.toks) hk
      exact ⟨s1.heap.objs.size + 1, [s1.heap.objs.size + 1, s1.heap.objs.size], _, _, H1, rfl, I2, turn_enum a (s1.heap.objs.size + 1) s1.heap.objs.size, ⟨⟨.none, he⟩, hit, Nat.succ_ne_self _⟩, fp2, q⟩
    · obtain ⟨its, rv, p', hz⟩ := I1.tuple hq
      obtain ⟨o1, ho1, _⟩ := id p'
      have hal : a < s1.heap.objs.size := Heap.lt_size ho1
      refine wp_enum_begins1 (begins_tuple a its.toArray) (show s1.heap.IsTuple a its.toArray from p') fun h' he hit hsz hk => wpAny_pyIter_enum he ?_
      have I2 : Inv X pins σ H1 { s1 with heap := h' } := I1.kept (t' := s1.toks) hk
      refine ⟨s1.heap.objs.size + 1, [s1.heap.objs.size + 1, s1.heap.objs.size], _, _, H1, rfl, I2, turn_enumT a (s1.heap.objs.size + 1) s1.heap.objs.size, ⟨⟨.none, he⟩, ⟨_, hit, rfl, rfl⟩, Nat.succ_ne_self _, Nat.ne_of_lt hal, ?_⟩, fp2, q⟩
      exact Nat.ne_of_lt (Nat.lt_succ_of_lt hal)

/-- a list, a tuple or a str -/
def iSeq (K : Frag) (tl : TE) : TI := fun σ H R => tl σ H fun x H1 => (∃ a xs, x = .ref a ∧ SqL K H1 a xs ∧ R (Itl K a) H1) ∨ (∃ a xs, x = .ref a ∧ SqT K H1 a xs ∧ R (Itt K a) H1) ∨ ∃ y, x = .str y ∧ R (Its y) H1
theorem pi_seq {l : Expr} {tl : TE} (hl : PE X l tl) : PI X tg l (iSeq X.K tl) := by
  refine ⟨fun pins s σ H R I h => ?_⟩
  refine thn (hl.run pins s σ H _ I h) fun v s1 ⟨x, H1, I1, r1, q1⟩ => ?_
  rcases q1 with ⟨a, xs, e, hq, q⟩ | ⟨a, xs, e, hq, q⟩ | ⟨y, e, q⟩
  · subst e
    cases r1
    obtain ⟨its, rv, p, hz⟩ := I1.list hq
    exact wpAny_pyIter_list p.isList (pi_one (tk := s1.toks) I1 _ (turn_list a _) ⟨_, Heap.get?_push_size _ rfl, rfl, rfl⟩ q)
  · subst e
    cases r1
    obtain ⟨its, rv, p, hz⟩ := I1.tuple hq
    exact wpAny_pyIter_tuple (show s1.heap.IsTuple a its.toArray from p) (pi_one (tk := s1.toks) I1 _ (turn_tuple a _) ⟨_, Heap.get?_push_size _ rfl, rfl, rfl⟩ q)
  · subst e
    obtain ⟨t, rfl⟩ := r1
    cases ha : y.cps.all (· < 128)
    · exact wpAny_pyIter_wide ha (pi_one (tk := s1.toks) I1 _ (turn_str _ y t "str_iterator" (.inr rfl)) ⟨_, Heap.get?_push_size _ rfl, rfl, rfl⟩ q)
    · exact wpAny_pyIter_ascii ha (pi_one (tk := s1.toks) I1 _ (turn_str _ y t "str_ascii_iterator" (.inl rfl)) ⟨_, Heap.get?_push_size _ rfl, rfl, rfl⟩ q)
end

/-! ### the readings -/
/-- J yields ds, from any heap that has what F1 has -/
def Wk (K : Frag) (F1 : Hp) (J : It) (ds : List D) : Prop := ∀ (F H : Hp) (m : List Addr) (μ : Mu), Same F1 F → Sim K F m μ H →
  (∀ (i : Nat) d, ds[i]? = some d → J.go i H ∧ ∀ x H', J.yld i H x H' → ∃ F', Same F F' ∧ Sim K F' m μ H' ∧ Rep K F' x d) ∧ J.stop ds.length H
def tI (K : Frag) (W : WX) (g : I) : TI := fun σ H R => ∃ F m μ ρ, Sim K F m μ H ∧ RepS K F m σ ρ ∧
  Post K F m (fun F' H' _ ds => ∀ J, Wk K F' J ds → R J H') (fun _ H' _ cls dx => W cls dx σ H') (evI g ρ μ)
theorem PI.imp {X : Cx} {tg e : Expr} {t t' : TI} (h : PI X tg e t) (i : ∀ σ H R, t' σ H R → t σ H R) : PI X tg e t' := ⟨fun pins s σ H R I q => h.run pins s σ H R I (i σ H R q)⟩

theorem wk_list {K : Frag} {F1 : Hp} {a : Addr} {vs : List V} {ds : List D} (h : SqL K F1 a vs) (r : Reps K F1 vs ds) : Wk K F1 (Itl K a) ds := by
  intro F H m μ s S
  have hH : SqL K H a vs := S.sub.seq (s.seq h)
  refine ⟨fun i d e => ?_, ⟨vs, hH, by rw [r.length]; exact Nat.le_refl _⟩⟩
  obtain ⟨v, ev, rv⟩ := r.get e
  refine ⟨⟨vs, v, hH, ev⟩, fun x H' y => ?_⟩
  obtain ⟨rfl, y⟩ := y
  have := y vs hH
  rw [ev] at this
  cases this
  exact ⟨F, Same.refl F, S, rv.mono s⟩
theorem wk_tup {K : Frag} {F1 : Hp} {a : Addr} {vs : List V} {ds : List D} (h : SqT K F1 a vs) (r : Reps K F1 vs ds) : Wk K F1 (Itt K a) ds := by
  intro F H m μ s S
  have hH : SqT K H a vs := same_tup S.sub (same_tup s h)
  refine ⟨fun i d e => ?_, ⟨vs, hH, by rw [r.length]; exact Nat.le_refl _⟩⟩
  obtain ⟨v, ev, rv⟩ := r.get e
  refine ⟨⟨vs, v, hH, ev⟩, fun x H' y => ?_⟩
  obtain ⟨rfl, y⟩ := y
  have := y vs hH
  rw [ev] at this
  cases this
  exact ⟨F, Same.refl F, S, rv.mono s⟩
theorem wk_str {K : Frag} {F1 : Hp} (x : Tx) : Wk K F1 (Its (sx x)) (x.map fun c => .str [c]) := by
  intro F H m μ s S
  refine ⟨fun i d e => ?_, by show (sx x).cps.size ≤ _; simp [sx]⟩
  rw [List.getElem?_map] at e
  cases e1 : x[i]? with
  | none => rw [e1] at e; cases e
  | some c =>
    rw [e1] at e
    cases e
    have hi := (List.getElem?_eq_some_iff.mp e1).1
    refine ⟨by show i < (sx x).cps.size; simpa [sx] using hi, fun y H' q => ?_⟩
    obtain ⟨rfl, c', e2, rfl⟩ := q
    have e2 : x[i]? = some c' := by simpa [sx] using e2
    rw [e1] at e2
    cases e2
    exact ⟨F, Same.refl F, S, .str [c]⟩
theorem rngL_length : ∀ (n : Nat) (lo : Int), (rngL lo n).length = n
  | 0, _ => rfl
  | n + 1, lo => congrArg Nat.succ (rngL_length n (lo + 1))
theorem rngL_get : ∀ (n : Nat) (lo : Int) (i : Nat), i < n → (rngL lo n)[i]? = some (.int (lo + i))
  | 0, _, _, h => absurd h (Nat.not_lt_zero _)
  | n + 1, lo, 0, _ => by simp [rngL]
  | n + 1, lo, i + 1, h => by
    rw [rngL, List.getElem?_cons_succ, rngL_get n (lo + 1) i (Nat.lt_of_succ_lt_succ h)]
    congr 2
    omega
theorem wk_rng {K : Frag} {F1 : Hp} (lo : Int) (n : Nat) : Wk K F1 (Itr lo n) (rngL lo n) := by
  intro F H m μ s S
  refine ⟨fun i d e => ?_, by show n ≤ _; rw [rngL_length]; exact Nat.le_refl _⟩
  have hi : i < n := by
    have := (List.getElem?_eq_some_iff.mp e).1
    rwa [rngL_length] at this
  rw [rngL_get n lo i hi] at e
  cases e
  refine ⟨hi, fun x H' q => ?_⟩
  obtain ⟨rfl, rfl⟩ := q
  exact ⟨F, Same.refl F, S, .int _⟩
theorem enumL_length : ∀ (ds : List D) (k : Nat), (enumL k ds).length = ds.length
  | [], _ => rfl
  | _ :: ds, k => congrArg Nat.succ (enumL_length ds (k + 1))
theorem enumL_get : ∀ (ds : List D) (k i : Nat), (enumL k ds)[i]? = (ds[i]?).map fun d => .tup [.int ((k + i : Nat) : Int), d]
  | [], _, _ => by simp [enumL]
  | d :: ds, k, 0 => by simp [enumL]
  | d :: ds, k, i + 1 => by
    rw [enumL, List.getElem?_cons_succ, List.getElem?_cons_succ, enumL_get ds (k + 1) i]
    congr 1
    funext d
    have e : k + 1 + i = k + (i + 1) := by omega
    rw [e]
theorem zipL_length : ∀ (xs ys : List D), (zipL xs ys).length = min xs.length ys.length
  | [], [] => rfl
  | [], _ :: _ => by simp [zipL]
  | _ :: _, [] => by simp [zipL]
  | x :: xs, y :: ys => by simp only [zipL, List.length_cons, zipL_length xs ys]; omega
theorem zipL_get : ∀ (xs ys : List D) (i : Nat) (d : D), (zipL xs ys)[i]? = some d → ∃ x y, xs[i]? = some x ∧ ys[i]? = some y ∧ d = .tup [x, y]
  | [], [], i, d, h => by simp [zipL] at h
  | [], _ :: _, i, d, h => by simp [zipL] at h
  | _ :: _, [], i, d, h => by simp [zipL] at h
  | x :: xs, y :: ys, 0, d, h => by
    simp [zipL] at h
    exact ⟨x, y, rfl, rfl, h.symm⟩
  | x :: xs, y :: ys, i + 1, d, h => by
    obtain ⟨a, b, h1, h2, h3⟩ := zipL_get xs ys i d (by simpa [zipL] using h)
    exact ⟨a, b, by simpa using h1, by simpa using h2, h3⟩
theorem pair_new {K : Frag} {F H : Hp} {m : List Addr} {μ : Mu} {T : Addr} {v u : V} {d e : D} (S : Sim K F m μ H) (hT : H T = none) (r : Rep K F v d) (q : Rep K F u e) :
    ∃ F', Same F F' ∧ Sim K F' m μ (upd H T (.tup [v, u])) ∧ Rep K F' (.ref T) (.tup [d, e]) := by
  obtain ⟨sF, S2⟩ := S.frozen (o := .tup [v, u]) hT
  exact ⟨_, sF, S2, .tup (.of upd_same) (.cons (r.mono sF) (.cons (q.mono sF) .nil))⟩
theorem wk_enum {K : Frag} {F1 : Hp} {a : Addr} {vs : List V} {ds : List D} (h : SqL K F1 a vs) (r : Reps K F1 vs ds) : Wk K F1 (Ite K a) (enumL 0 ds) := by
  intro F H m μ s S
  have hH : SqL K H a vs := S.sub.seq (s.seq h)
  refine ⟨fun i d e => ?_, ⟨vs, hH, by rw [enumL_length, r.length]; exact Nat.le_refl _⟩⟩
  rw [enumL_get] at e
  cases e1 : ds[i]? with
  | none => rw [e1] at e; cases e
  | some y =>
    rw [e1] at e
    cases e
    obtain ⟨v, ev, rv⟩ := r.get e1
    refine ⟨⟨vs, v, hH, ev⟩, fun x H' q => ?_⟩
    obtain ⟨T, x', rfl, hT, rfl, q⟩ := q
    have := q vs hH
    rw [ev] at this
    cases this
    have e0 : ((0 + i : Nat) : Int) = (i : Int) := by rw [Nat.zero_add]
    rw [e0]
    exact pair_new S hT (.int _) (rv.mono s)
theorem wk_enumT {K : Frag} {F1 : Hp} {a : Addr} {vs : List V} {ds : List D} (h : SqT K F1 a vs) (r : Reps K F1 vs ds) : Wk K F1 (IteT K a) (enumL 0 ds) := by
  intro F H m μ s S
  have hH : SqT K H a vs := same_tup S.sub (same_tup s h)
  refine ⟨fun i d e => ?_, ⟨vs, hH, by rw [enumL_length, r.length]⟩⟩
  rw [enumL_get] at e
  cases e1 : ds[i]? with
  | none => rw [e1] at e; cases e
  | some y =>
    rw [e1] at e
    cases e
    obtain ⟨v, ev, rv⟩ := r.get e1
    refine ⟨⟨vs, v, hH, ev⟩, fun x H' q => ?_⟩
    obtain ⟨T, x', rfl, hT, rfl, q⟩ := q
    have := q vs hH
    rw [ev] at this
    cases this
    have e0 : ((0 + i : Nat) : Int) = (i : Int) := by rw [Nat.zero_add]
    rw [e0]
    exact pair_new S hT (.int _) (rv.mono s)
theorem wk_zip {K : Frag} {F1 : Hp} {a b : Addr} {vs us : List V} {ds es : List D} (h : SqL K F1 a vs) (r : Reps K F1 vs ds) (h2 : SqL K F1 b us) (r2 : Reps K F1 us es) : Wk K F1 (Itz K a b) (zipL ds es) := by
  intro F H m μ s S
  have hH : SqL K H a vs := S.sub.seq (s.seq h)
  have hH2 : SqL K H b us := S.sub.seq (s.seq h2)
  refine ⟨fun i d e => ?_, ⟨vs, us, hH, hH2, by rw [zipL_length, r.length, r2.length]; omega⟩⟩
  obtain ⟨x, y, e1, e2, rfl⟩ := zipL_get ds es i d e
  obtain ⟨v, ev, rv⟩ := r.get e1
  obtain ⟨u, eu, ru⟩ := r2.get e2
  refine ⟨⟨vs, us, v, u, hH, hH2, ev, eu⟩, fun x H' q => ?_⟩
  obtain ⟨T, x', y', rfl, hT, rfl, q1, q2⟩ := q
  have := q1 vs hH
  rw [ev] at this
  cases this
  have := q2 us hH2
  rw [eu] at this
  cases this
  exact pair_new S hT (rv.mono s) (ru.mono s)
theorem wk_zipT {K : Frag} {F1 : Hp} {a b : Addr} {vs us : List V} {ds es : List D} (h : SqT K F1 a vs) (r : Reps K F1 vs ds) (h2 : SqT K F1 b us) (r2 : Reps K F1 us es) : Wk K F1 (RZ.ItzT K a b) (zipL ds es) := by
  intro F H m μ s S
  have hH : SqT K H a vs := same_tup S.sub (same_tup s h)
  have hH2 : SqT K H b us := same_tup S.sub (same_tup s h2)
  refine ⟨fun i d e => ?_, ⟨vs, us, hH, hH2, by rw [zipL_length, r.length, r2.length]; omega⟩⟩
  obtain ⟨x, y, e1, e2, rfl⟩ := zipL_get ds es i d e
  obtain ⟨v, ev, rv⟩ := r.get e1
  obtain ⟨u, eu, ru⟩ := r2.get e2
  refine ⟨⟨vs, us, v, u, hH, hH2, ev, eu⟩, fun x H' q => ?_⟩
  obtain ⟨T, x', y', rfl, hT, rfl, q1, q2⟩ := q
  have := q1 vs hH
  rw [ev] at this
  cases this
  have := q2 us hH2
  rw [eu] at this
  cases this
  exact pair_new S hT (rv.mono s) (ru.mono s)

section
variable {X : Cx} {W : WX} {tg e a b : Expr} {A B : E} {As : List E} {pos : Pos}
theorem tE_of {K : Frag} {σ : L2.St} {H : Hp} {R : It → Hp → Prop} (h : tI K W (.of A) σ H R) : iSeq K (tE K W .v A) σ H R := by
  obtain ⟨F, m, μ, ρ, S, RS, h⟩ := h
  unfold evI at h
  refine ⟨F, m, μ, ρ, S, RS, (h.bind).imp (fun F' H' μ' x s S' q v r => ?_) fun _ _ _ _ _ x => x⟩
  cases x with
  | c n => exact (show False from q).elim
  | t n => exact (show False from q).elim
  | v d =>
    dsimp only at q
    cases d with
    | lst ds =>
      cases r with
      | lst h1 h2 => exact .inl ⟨_, _, rfl, S'.sub.seq (.of h1), q F' H' (Same.refl _) S' _ (wk_list (.of h1) h2)⟩
    | tup ds =>
      cases r with
      | tup h1 h2 => exact .inr (.inl ⟨_, _, rfl, same_tup S'.sub h1, q F' H' (Same.refl _) S' _ (wk_tup h1 h2)⟩)
    | str x =>
      cases r with
      | str => exact .inr (.inr ⟨_, rfl, q F' H' (Same.refl _) S' _ (wk_str x)⟩)
    | _ => exact (show False from q).elim
theorem okI_of (h : PE X e (tE X.K W .v A)) : PI X tg e (tI X.K W (.of A)) := PI.imp (pi_seq h) fun _ _ _ q => tE_of q
theorem rngOf1 {ds l : List D} (e : rngOf ds = some l) (hl : ds.length = 1) : ∃ n : Int, ds = [.int n] ∧ -(2 ^ 62) ≤ n ∧ n < 2 ^ 62 ∧ l = rngL 0 n.toNat := by
  unfold rngOf at e
  split at e
  · rename_i n
    split at e
    · rename_i h
      cases e
      exact ⟨n, rfl, h.1, h.2, rfl⟩
    · cases e
  · cases hl
  · cases e
theorem rngOf2 {ds l : List D} (e : rngOf ds = some l) (hl : ds.length = 2) : ∃ n k : Int, ds = [.int n, .int k] ∧ (-(2 ^ 62) ≤ n ∧ n < 2 ^ 62 ∧ -(2 ^ 62) ≤ k ∧ k < 2 ^ 62) ∧ l = rngL n (k - n).toNat := by
  unfold rngOf at e
  split at e
  · cases hl
  · rename_i n k
    split at e
    · rename_i h
      cases e
      exact ⟨n, k, rfl, h, rfl⟩
    · cases e
  · cases e
theorem Reps.lenEq {K : Frag} {F : Hp} {m : List Addr} {vs : List V} {as : LA} {ds : List D} (r : RepAs K F m vs as) (e : vals as = some ds) : ds.length = as.length := by
  have h := (vals_rel r e).length
  rw [← h]; exact Paired.length r
theorem tI_rng {K : Frag} {σ : L2.St} {H : Hp} {R : It → Hp → Prop} (h : tI K W (.rng As) σ H R) : tEs K W As σ H fun vs H1 => ∃ F m μ ds l, Sim K F m μ H1 ∧ Reps K F vs ds ∧ ds.length = As.length ∧ rngOf ds = some l ∧ ∀ J, Wk K F J l → R J H1 := by
  obtain ⟨F, m, μ, ρ, S, RS, h⟩ := h
  unfold evI at h
  refine ⟨F, m, μ, ρ, S, RS, (h.bind).withEq.imp (fun F' H' μ' as s S' q vs rs => ?_) fun _ _ _ _ _ x => x⟩
  obtain ⟨q, eq⟩ := q
  cases e1 : vals as with
  | none => rw [e1] at q; exact (show False from q).elim
  | some ds =>
    rw [e1] at q
    have q : Post K F' m _ _ (optR (rngOf ds) μ') := q
    cases e2 : rngOf ds with
    | none => rw [e2] at q; exact (show False from q).elim
    | some l =>
      rw [e2] at q
      exact ⟨F', m, μ', ds, l, S', vals_rel rs e1, by rw [Reps.lenEq rs e1]; exact evs_length _ _ _ _ _ eq, e2, q F' H' (Same.refl _) S'⟩
theorem tEs.imp {K : Frag} {σ : L2.St} {H : Hp} {Q Q' : List V → Hp → Prop} (h : tEs K W As σ H Q) (i : ∀ vs H, Q vs H → Q' vs H) : tEs K W As σ H Q' := by
  obtain ⟨F, m, μ, ρ, S, RS, h⟩ := h
  exact ⟨F, m, μ, ρ, S, RS, h.imp (fun F' H' μ' as s S' q vs rs => i _ _ (q vs rs)) fun _ _ _ _ _ x => x⟩
theorem okI_rng1 {p : Pos} (hg : Gl X "range") (hm : X.mg "range" = none) (ha : PA X [a] (tEs X.K W [A])) (hs : starEach [a] X.env = [(false, eval a X.env)]) : PI X tg (.Call (.Name "range" p) [a] [] pos) (tI X.K W (.rng [A])) := by
  refine PI.imp (pi_range1 hg hm ha hs) fun σ H R h => (tI_rng h).imp fun vs H1 q => ?_
  obtain ⟨F, m, μ, ds, l, S, r, hl, e, q⟩ := q
  obtain ⟨n, rfl, h1, h2, rfl⟩ := rngOf1 e hl
  cases r with
  | cons r rr =>
    cases rr
    cases r
    exact ⟨n, rfl, h1, h2, q _ (wk_rng 0 n.toNat)⟩
theorem okI_rng2 {p : Pos} (hg : Gl X "range") (hm : X.mg "range" = none) (ha : PA X [a, b] (tEs X.K W [A, B])) (hs : starEach [a, b] X.env = [(false, eval a X.env), (false, eval b X.env)]) (hs2 : starEach [b] X.env = [(false, eval b X.env)]) : PI X tg (.Call (.Name "range" p) [a, b] [] pos) (tI X.K W (.rng [A, B])) := by
  refine PI.imp (pi_range2 hg hm ha hs hs2) fun σ H R h => (tI_rng h).imp fun vs H1 q => ?_
  obtain ⟨F, m, μ, ds, l, S, r, hl, e, q⟩ := q
  obtain ⟨n, k, rfl, h1, rfl⟩ := rngOf2 e hl
  cases r with
  | cons r rr =>
    cases rr with
    | cons r' rr =>
      cases rr
      cases r
      cases r'
      exact ⟨n, k, rfl, h1, q _ (wk_rng n _)⟩
theorem okI_enum {p tpos : Pos} {elts : List Expr} {kk : Nat} (hg : Gl X "enumerate") (hm : X.mg "enumerate" = none) (ha : PA X [e] (tEs X.K W [A])) (hs : starEach [e] X.env = [(false, eval e X.env)]) : PI X (.Tuple elts kk tpos) (.Call (.Name "enumerate" p) [e] [] pos) (tI X.K W (.enum A)) := by
  refine PI.imp (pi_enumA hg hm ha hs) fun σ H R h => ?_
  obtain ⟨F, m, μ, ρ, S, RS, h⟩ := h
  unfold evI at h
  refine ⟨F, m, μ, ρ, S, RS, ?_⟩
  unfold evs
  have h := h.bind
  cases e0 : ev A ρ μ with
  | no => rw [e0] at h; exact h
  | exc c d μ' => rw [e0] at h; exact h
  | ok x μ' =>
    rw [e0] at h
    show Post X.K F m _ _ (Res.bind (evs [] ρ μ') fun as μ2 => Res.ok (x :: as) μ2)
    rw [evs.eq_1]
    intro F' H' s S' vs rs
    have q := h F' H' s S'
    cases rs with
    | cons r rr =>
      cases rr
      cases x with
      | c n => exact (show False from q).elim
      | t n => exact (show False from q).elim
      | v d =>
        try dsimp only at q
        cases d with
        | lst ds =>
          cases r with
          | lst h1 h2 => exact ⟨_, _, rfl, .inl ⟨S'.sub.seq (.of h1), q F' H' (Same.refl _) S' _ (wk_enum (.of h1) h2)⟩⟩
        | tup ds =>
          cases r with
          | tup h1 h2 => exact ⟨_, _, rfl, .inr ⟨same_tup S'.sub h1, q F' H' (Same.refl _) S' _ (wk_enumT h1 h2)⟩⟩
        | str x => exact (show False from q).elim
        | _ => exact (show False from q).elim
theorem okI_zip {p tpos : Pos} {elts : List Expr} {kk : Nat} (hg : Gl X "zip") (hm : X.mg "zip" = none) (ha : PA X [a, b] (tEs X.K W [A, B])) (hs : starEach [a, b] X.env = (false, eval a X.env) :: starEach [b] X.env) (hpl : (backTo pos (starEach [b] X.env)).any (·.1) = false) :
    PI X (.Tuple elts kk tpos) (.Call (.Name "zip" p) [a, b] [] pos) (tI X.K W (.zip [A, B])) := by
  refine PI.imp (RZ.pi_zipA hg hm ha hs hpl) fun σ H R h => ?_
  obtain ⟨F, m, μ, ρ, S, RS, h⟩ := h
  unfold evI at h
  refine ⟨F, m, μ, ρ, S, RS, (h.bind).imp (fun F' H' μ' as s S' q vs rs => ?_) fun _ _ _ _ _ x => x⟩
  try dsimp only at q
  split at q
  · cases rs with
    | cons r rr =>
      cases rr with
      | cons r' rr =>
        cases rr
        cases r with
        | lst h1 h2 =>
          cases r' with
          | lst h3 h4 => exact ⟨_, _, _, _, rfl, .inl ⟨S'.sub.seq (.of h1), S'.sub.seq (.of h3), q F' H' (Same.refl _) S' _ (wk_zip (.of h1) h2 (.of h3) h4)⟩⟩
  · cases rs with
    | cons r rr =>
      cases rr with
      | cons r' rr =>
        cases rr
        cases r with
        | tup h1 h2 =>
          cases r' with
          | tup h3 h4 => exact ⟨_, _, _, _, rfl, .inr ⟨same_tup S'.sub h1, same_tup S'.sub h3, q F' H' (Same.refl _) S' _ (wk_zipT h1 h2 h3 h4)⟩⟩
  · exact (show False from q).elim
end
end Wp

set_option Elab.async false
set_option linter.all false
set_option maxRecDepth 100000
set_option autoImplicit true
/-! W1h: loops, list comprehensions. -/
namespace Wp
open PySem PySem.Spec PyProof.Rows L2

section
variable {X : Cx} {W : WX} {n0 : Nat} {new : Md} {e a b tg iter : Expr} {A B : E} {pos : Pos}

theorem drop_cons {α : Type} {l : List α} {i : Nat} (h : i < l.length) : l.drop i = l[i] :: l.drop (i + 1) := List.drop_eq_getElem_cons h

/-- for target in iter -/
theorem okS_for {body : List Stmt} {t : T} {g : I} {b : List S} (hp : PassesOwn (model X.prog X.w) X.A X.env X.xe) (hc : X.calm = true) (hi : PI X tg iter (tI X.K W g)) (hg : OkG (· = X) X.K tg t) (hb : PSs X body (tSs X.K W n0 new b))
    (hs : ∀ x, foldedSetIterable iter X.env x = pure x) : PS X (.For tg iter body [] pos) (tS X.K W n0 new (.for t g b)) := by
  obtain ⟨gg, hg, kg⟩ := hg
  refine PS.imp (ps_for hp hc hi (hg X rfl) hb hs) fun D σ H h => ?_
  obtain ⟨F, m, μ, ρ, S, R, h⟩ := h
  rw [ex] at h
  refine ⟨F, m, μ, ρ, S, R, (post_st R h).imp (fun F1 H1 μ1 ds s S1 q J wk => ?_) fun _ _ _ _ _ x => x⟩
  refine ⟨fun i k σ2 H2 => k = ds.length - i ∧ i ≤ ds.length ∧ ∃ F2 m2 μ2 ρ2, Same F1 F2 ∧ m2.take n0 = m.take n0 ∧ Sim X.K F2 m2 μ2 H2 ∧ RepS X.K F2 m2 σ2 ρ2 ∧ PostS X.K W n0 new F2 m2 D (forGo (asg t) (exs n0 b) (ds.drop i) ρ2 μ2),
    ⟨ds.length, by simp, Nat.zero_le _, F1, m, μ1, ρ, Same.refl _, rfl, S1, R.mono s, q⟩, ?_⟩
  rintro i k σ2 H2 ⟨rfl, hil, F2, m2, μ2, ρ2, s2, e2, S2, R2, q2⟩
  have w := wk F2 H2 m2 μ2 s2 S2
  by_cases hlt : i < ds.length
  · refine .inr ?_
    rw [drop_cons hlt] at q2
    unfold forGo at q2
    cases e1 : asg t ds[i] ρ2 with
    | none => rw [e1] at q2; exact (show False from q2).elim
    | some ρ3 =>
      rw [e1] at q2
      dsimp only at q2
      obtain ⟨go, yld⟩ := w.1 i ds[i] (by simp [hlt])
      refine ⟨go, fun σ4 H4 => ∃ F4 m4 μ4 ρ4, Same F1 F4 ∧ m4.take n0 = m.take n0 ∧ Sim X.K F4 m4 μ4 H4 ∧ RepS X.K F4 m4 σ4 ρ4 ∧ PostS X.K W n0 new F4 m4 D (forGo (asg t) (exs n0 b) (ds.drop (i + 1)) ρ4 μ4),
        fun σ4 H4 h4 => ⟨ds.length - (i + 1), by omega, rfl, hlt, h4⟩, fun x H3 y => ?_⟩
      obtain ⟨F3, s3, S3, r3⟩ := yld x H3 y
      refine kg F3 m2 μ2 H3 σ2 ρ2 ρ3 x ds[i] _ S3 (R2.mono s3) r3 e1 fun σ3 R3 _ => ?_
      refine ⟨F3, m2, μ2, ρ3, S3, R3, ?_⟩
      cases e4 : exs n0 b ρ3 μ2 with
      | nx ρ4 μ4 =>
        rw [e4] at q2
        exact fun F4 m4 H4 σ4 s4 e4 S4 R4 => ⟨F4, m4, μ4, ρ4, (s2.trans s3).trans s4, e4.trans e2, S4, R4, PostS.weak (s3.trans s4) e4 q2⟩
      | cnt ρ4 μ4 =>
        rw [e4] at q2
        exact fun F4 m4 H4 σ4 s4 e4 S4 R4 => ⟨F4, m4, μ4, ρ4, (s2.trans s3).trans s4, e4.trans e2, S4, R4, PostS.weak (s3.trans s4) e4 q2⟩
      | brk ρ4 μ4 =>
        rw [e4] at q2
        exact fun F4 m4 H4 σ4 s4 e4 S4 R4 => PostS.weak s3 rfl q2 F4 m4 H4 σ4 s4 e4 S4 R4
      | ret d μ4 =>
        rw [e4] at q2
        exact PostS.weak s3 rfl q2
      | exc c d ρ4 μ4 =>
        rw [e4] at q2
        exact PostS.weak s3 rfl q2
      | no =>
        rw [e4] at q2
        exact q2
  · refine .inl ?_
    have hi : i = ds.length := by omega
    subst hi
    rw [List.drop_length] at q2
    unfold forGo at q2
    exact ⟨w.2, q2 F2 m2 H2 σ2 (Same.refl _) rfl S2 R2⟩

/-- while c, at most n turns -/
theorem okS_whl {c : Expr} {body : List Stmt} {C : E} {n : Nat} {b : List S} (hp : PassesOwn (model X.prog X.w) X.A X.env X.xe) (hc : PT X c (tT X.K W C)) (hb : PSs X body (tSs X.K W n0 new b)) : PS X (.While c body [] pos) (tS X.K W n0 new (.whl n C b)) := by
  refine PS.imp (ps_while hp hc hb) fun D σ H h => ?_
  obtain ⟨F, m, μ, ρ, S, R, h⟩ := h
  rw [ex] at h
  refine ⟨fun k σ2 H2 => ∃ F2 m2 μ2 ρ2, m2.take n0 = m.take n0 ∧ Sim X.K F2 m2 μ2 H2 ∧ RepS X.K F2 m2 σ2 ρ2 ∧ PostS X.K W n0 new F2 m2 D (whGo (evT C) (exs n0 b) k ρ2 μ2), ⟨n, F, m, μ, ρ, rfl, S, R, h⟩, ?_⟩
  rintro k σ2 H2 ⟨F2, m2, μ2, ρ2, e2, S2, R2, q2⟩
  cases k with
  | zero => exact (show False from q2).elim
  | succ k =>
    unfold whGo at q2
    refine ⟨F2, m2, μ2, ρ2, S2, R2, (post_st R2 q2).imp (fun F3 H3 μ3 t s3 S3 q => ?_) fun _ _ _ _ _ x => x⟩
    cases t with
    | false => exact (show PostS X.K W n0 new F3 m2 D (.nx ρ2 μ3) from q) F3 m2 H3 σ2 (Same.refl _) rfl S3 (R2.mono s3)
    | true =>
      refine ⟨fun σ4 H4 => ∃ F4 m4 μ4 ρ4, m4.take n0 = m.take n0 ∧ Sim X.K F4 m4 μ4 H4 ∧ RepS X.K F4 m4 σ4 ρ4 ∧ PostS X.K W n0 new F4 m4 D (whGo (evT C) (exs n0 b) k ρ4 μ4),
        fun σ4 H4 h4 => ⟨k, Nat.lt_succ_self _, h4⟩, F3, m2, μ3, ρ2, S3, R2.mono s3, ?_⟩
      rw [if_pos rfl] at q
      cases e4 : exs n0 b ρ2 μ3 with
      | nx ρ4 μ4 =>
        rw [e4] at q
        exact fun F4 m4 H4 σ4 s4 e4 S4 R4 => ⟨F4, m4, μ4, ρ4, e4.trans e2, S4, R4, PostS.weak s4 e4 q⟩
      | cnt ρ4 μ4 =>
        rw [e4] at q
        exact fun F4 m4 H4 σ4 s4 e4 S4 R4 => ⟨F4, m4, μ4, ρ4, e4.trans e2, S4, R4, PostS.weak s4 e4 q⟩
      | brk ρ4 μ4 =>
        rw [e4] at q
        exact q
      | ret d μ4 =>
        rw [e4] at q
        exact q
      | exc c d ρ4 μ4 =>
        rw [e4] at q
        exact q
      | no =>
        rw [e4] at q
        exact q

/-! ### list comprehensions -/
theorem RepS.wipe {K : Frag} {F : Hp} {m : List Addr} {σ : L2.St} {ρ : Env} (R : RepS K F m σ ρ) : ∀ is : List Nat, RepS K F m (L2.wipe σ is) (wipeE ρ is)
  | [] => R
  | i :: is => by
    have R' := RepS.wipe R is
    refine ⟨by unfold L2.wipe wipeE; rw [List.length_set, List.length_set]; exact R'.len, fun j a e => ?_⟩
    unfold wipeE at e
    unfold L2.wipe
    by_cases h : i = j
    · subst h
      by_cases hl : i < (wipeE ρ is).length
      · rw [List.getElem?_set_self hl] at e; cases e
      · rw [List.getElem?_eq_none (by simpa using hl)] at e; cases e
    · rw [List.getElem?_set_ne h] at e ⊢
      exact R'.get j a e
theorem RepA.more {K : Frag} {F : Hp} {m : List Addr} {v : V} {a : Wp.A} (x : Addr) (h : RepA K F m v a) : RepA K F (m ++ [x]) v a := by
  cases a with
  | v d => exact h
  | t d => exact h
  | c n =>
    obtain ⟨b, e, rfl⟩ := h
    exact ⟨b, by rw [List.getElem?_append_left (List.getElem?_eq_some_iff.mp e).1]; exact e, rfl⟩
theorem RepS.more {K : Frag} {F : Hp} {m : List Addr} {σ : L2.St} {ρ : Env} (x : Addr) (R : RepS K F m σ ρ) : RepS K F (m ++ [x]) σ ρ :=
  ⟨R.len, fun i a e => let ⟨v, h, r⟩ := R.get i a e; ⟨v, h, r.more x⟩⟩
/-- a cell more, a new empty list -/
theorem Sim.more {K : Frag} {F H : Hp} {m : List Addr} {μ : Mu} {p : Addr} (S : Sim K F m μ H) (hp : H p = none) : Sim K F (m ++ [p]) (μ ++ [⟨false, .lst []⟩]) (upd H p (.lst [])) := by
  have S1 := S.laid (o := .lst []) hp
  refine ⟨by rw [List.length_append, List.length_append, S.len]; rfl, S1.sub, fun i a c e1 e2 => ?_, fun i j a c c' e1 e2 e3 e4 l1 l2 => ?_⟩
  · by_cases hi : i < m.length
    · rw [List.getElem?_append_left hi] at e1
      rw [List.getElem?_append_left (by rw [← S.len]; exact hi)] at e2
      exact S1.cell i a c e1 e2
    · rw [List.getElem?_append_right (by omega)] at e1
      rw [List.getElem?_append_right (by rw [← S.len]; omega)] at e2
      have h0 : i - m.length = 0 := by
        have := (List.getElem?_eq_some_iff.mp e1).1
        simpa using this
      rw [h0] at e1
      rw [← S.len, h0] at e2
      cases e1
      cases e2
      exact ⟨[], upd_same, .nil, S.sub.free hp⟩
  · have key : ∀ (i : Nat) c, (m ++ [p])[i]? = some a → (μ ++ [⟨false, .lst []⟩])[i]? = some c → c.live → (i < m.length ∧ m[i]? = some a ∧ μ[i]? = some c ∧ a ≠ p) ∨ (i = m.length ∧ a = p) := by
      intro i c k1 k2 l
      by_cases hi : i < m.length
      · rw [List.getElem?_append_left hi] at k1
        rw [List.getElem?_append_left (by rw [← S.len]; exact hi)] at k2
        exact .inl ⟨hi, k1, k2, fun z => S.notCell hp i c (by rw [← z]; exact k1) k2 l⟩
      · rw [List.getElem?_append_right (by omega)] at k1
        have := (List.getElem?_eq_some_iff.mp k1).1
        have h0 : i - m.length = 0 := by simpa using this
        rw [h0] at k1
        exact .inr ⟨by omega, by simpa using k1.symm⟩
    rcases key i c e1 e3 l1 with ⟨h1, h2, h3, h4⟩ | ⟨h1, h2⟩ <;> rcases key j c' e2 e4 l2 with ⟨h5, h6, h7, h8⟩ | ⟨h5, h6⟩
    · exact S.inj i j a c c' h2 h6 h3 h7 l1 l2
    · exact absurd h6 h4
    · exact absurd h2 h8
    · rw [h1, h5]
theorem Post.weakF {α : Type} {K : Frag} {F F' : Hp} {m : List Addr} {r : Res α} {k : Hp → Hp → Mu → α → Prop} {x : Hp → Hp → Mu → Value → Option Addr → Prop} (s : Same F F') (h : Post K F m k x r) : Post K F' m k x r := by
  cases r with
  | ok a μ => exact fun F2 H2 s2 => h F2 H2 (s.trans s2)
  | exc c d μ => exact fun F2 H2 cls dx s2 => h F2 H2 cls dx (s.trans s2)
  | no => exact h
theorem Post.noExc {α : Type} {K : Frag} {F : Hp} {m : List Addr} {r : Res α} {k : Hp → Hp → Mu → α → Prop} {x y : Hp → Hp → Mu → Value → Option Addr → Prop} (h : Post K F m k x (Wp.noExc r)) : Post K F m k y r := by
  cases r with
  | ok a μ => exact h
  | exc c d μ => exact (show False from h).elim
  | no => exact h
abbrev W0 : WX := fun _ _ _ _ => False
/-- a clause's tests -/
def tTs (K : Frag) (cs : List E) : TT := fun σ H Q => ∃ F m μ ρ, Sim K F m μ H ∧ RepS K F m σ ρ ∧
  Post K F m (fun _ H' _ b => Q b H') (fun _ _ _ _ _ => False) (evC cs ρ μ)
theorem okTs_nil : PTs X [] (tTs X.K []) := by
  refine ⟨fun pins s σ H Q I h => ?_⟩
  obtain ⟨F, m, μ, ρ, S, R, h⟩ := h
  rw [evC] at h
  exact pts_nil.run pins s σ H Q I (h F H (Same.refl _) S)
theorem okTs_one {c : Expr} {C : E} (h : PT X c (tT X.K W0 C)) : PTs X [c] (tTs X.K [C]) := by
  refine ⟨fun pins s σ H Q I hw => (pts_one h).run pins s σ H Q I ?_⟩
  obtain ⟨F, m, μ, ρ, S, R, hw⟩ := hw
  refine ⟨F, m, μ, ρ, S, R, ?_⟩
  unfold evC at hw
  unfold evT
  cases e1 : ev C ρ μ with
  | no => rw [e1] at hw; exact hw
  | exc c d μ1 => rw [e1] at hw; exact hw
  | ok x μ1 =>
    rw [e1] at hw
    show Post X.K F m _ _ (optR ((dr μ1 x).bind tru) μ1)
    have hw : Post X.K F m _ _ (match (dr μ1 x).bind tru with | some true => evC [] ρ μ1 | some false => .ok false μ1 | none => .no) := hw
    cases e2 : (dr μ1 x).bind tru with
    | none => rw [e2] at hw; exact hw
    | some t =>
      rw [e2] at hw
      cases t with
      | true => rw [evC] at hw; exact hw
      | false => exact hw

def Blk (X : Cx) (scope : Scope) : Cx → Prop := fun Y => ∃ (s : Shared) (H : Hp) (C : Addr) (cl : List (Str × Addr)) (fp : List Addr), Y = X.blk s H scope (compEnvC scope cl C X.env) fp
theorem wipe_eq {σ σ' : L2.St} {is own : List Nat} (h : Oth is σ σ') (hs : ∀ i ∈ is, i ∈ own) : L2.wipe σ' own = L2.wipe σ own := by
  apply List.ext_getElem?
  intro j
  have key : ∀ (own : List Nat) (σ : L2.St), (L2.wipe σ own)[j]? = if j ∈ own then (if j < σ.length then some none else none) else σ[j]? := by
    intro own
    induction own with
    | nil => intro σ; simp [L2.wipe]
    | cons v vs ih =>
      intro σ
      unfold L2.wipe
      rw [List.getElem?_set, L2.wipe_length, ih σ]
      by_cases h1 : v = j
      · subst h1; simp
      · have h2 : (j = v) = False := by simp; exact fun z => h1 z.symm
        simp only [if_neg h1, List.mem_cons, h2, false_or]
  rw [key, key, h.1]
  by_cases hj : j ∈ own
  · rw [if_pos hj, if_pos hj]
  · rw [if_neg hj, if_neg hj, h.2 j fun z => hj (hs j z)]

theorem tLc_ok {K : Frag} {t : T} {g : I} {cs : List E} {el : E} {own : List Nat} {gg : TG} {σ : L2.St} {H : Hp} {Q : VK}
    (kg : ∀ (F : Hp) (m : List Addr) (μ : Mu) (H : Hp) (σ : L2.St) (ρ ρ' : Env) (v : V) (d : D) (Q : L2.St → Hp → Prop), Sim K F m μ H → RepS K F m σ ρ → Rep K F v d → asg t d ρ = some ρ' →
      (∀ σ', RepS K F m σ' ρ' → Oth t.slots σ σ' → Q σ' H) → gg v σ H Q) (ho : ∀ i ∈ t.slots, i ∈ own) (h : tE K W .n (.lc g t cs el own) σ H Q) :
    tLc (tI K W g) gg (tTs K cs) (tE K W0 .v el) own σ H Q := by
  obtain ⟨F, m, μ, ρ, S, R, h⟩ := h
  unfold ev at h
  refine ⟨F, m, μ, ρ, S, R, (h.bind).imp (fun F1 H1 μ1 ds s S1 q J wk D hD => ?_) fun _ _ _ _ _ x => x⟩
  have S2 := S1.more hD
  have RB := ((R.mono s).more D).wipe own
  have q1 : Post K F1 (m ++ [D]) (fun F' H' μ' (_ : Unit) => Post K F' m (fun F2 H2 μ2 a => ∀ v, RepR K .n F2 m μ2 H2 v a → Q v H2) (fun _ H' _ cls dx => W cls dx σ H') (lcEnd μ1.length μ')) (fun _ _ _ _ _ => False)
      (lcGo (asg t) (evC cs) (fun ρ μ => (ev el ρ μ).bind toV) μ1.length (wipeE ρ own) ds (μ1 ++ [⟨false, .lst []⟩])) := by
    generalize lcGo (asg t) (evC cs) (fun ρ μ => (ev el ρ μ).bind toV) μ1.length (wipeE ρ own) ds (μ1 ++ [⟨false, .lst []⟩]) = r at q
    cases r with
    | no => exact q
    | exc c d μ' => exact (show False from q).elim
    | ok u μ' =>
      intro F' H' s' S'
      have q : Post K F1 m _ _ (lcEnd μ1.length μ') := q
      generalize lcEnd μ1.length μ' = r2 at q ⊢
      cases r2 with
      | no => exact q
      | exc c d μ2 => exact fun F2 H2 cls dx s2 => q F2 H2 cls dx (s'.trans s2)
      | ok a μ2 => exact fun F2 H2 s2 => q F2 H2 (s'.trans s2)
  refine ⟨fun i k H2 => k = ds.length - i ∧ i ≤ ds.length ∧ ∃ F2 μ2, Same F1 F2 ∧ Sim K F2 (m ++ [D]) μ2 H2 ∧
      Post K F2 (m ++ [D]) (fun F' H' μ' (_ : Unit) => Post K F' m (fun F2 H2 μ2 a => ∀ v, RepR K .n F2 m μ2 H2 v a → Q v H2) (fun _ H' _ cls dx => W cls dx σ H') (lcEnd μ1.length μ')) (fun _ _ _ _ _ => False)
        (lcGo (asg t) (evC cs) (fun ρ μ => (ev el ρ μ).bind toV) μ1.length (wipeE ρ own) (ds.drop i) μ2),
    ⟨ds.length, by simp, Nat.zero_le _, F1, _, Same.refl _, S2, q1⟩, ?_⟩
  rintro i k H2 ⟨rfl, hil, F2, μ2, s2, S2, q2⟩
  have w := wk F2 H2 (m ++ [D]) μ2 s2 S2
  by_cases hlt : i < ds.length
  · refine .inr ?_
    rw [drop_cons hlt] at q2
    unfold lcGo at q2
    cases e1 : asg t ds[i] (wipeE ρ own) with
    | none => rw [e1] at q2; exact (show False from q2).elim
    | some ρ3 =>
      rw [e1] at q2
      dsimp only at q2
      obtain ⟨go, yld⟩ := w.1 i ds[i] (by simp [hlt])
      refine ⟨go, fun H4 => ∃ F4 μ4, Same F1 F4 ∧ Sim K F4 (m ++ [D]) μ4 H4 ∧
        Post K F4 (m ++ [D]) (fun F' H' μ' (_ : Unit) => Post K F' m (fun F2 H2 μ2 a => ∀ v, RepR K .n F2 m μ2 H2 v a → Q v H2) (fun _ H' _ cls dx => W cls dx σ H') (lcEnd μ1.length μ')) (fun _ _ _ _ _ => False)
          (lcGo (asg t) (evC cs) (fun ρ μ => (ev el ρ μ).bind toV) μ1.length (wipeE ρ own) (ds.drop (i + 1)) μ4),
        fun H4 h4 => ⟨ds.length - (i + 1), by omega, rfl, hlt, h4⟩, fun x H3 y => ?_⟩
      obtain ⟨F3, s3, S3, r3⟩ := yld x H3 y
      refine kg F3 (m ++ [D]) μ2 H3 _ (wipeE ρ own) ρ3 x ds[i] _ S3 (RB.mono (s2.trans s3)) r3 e1 fun σ3 R3 o3 => ?_
      refine ⟨?_, F3, m ++ [D], μ2, ρ3, S3, R3, ((Post.weakF s3 q2).bind).imp (fun F4 H4 μ4 b s4 S4 q4 => ?_) fun _ _ _ _ _ x => x⟩
      · rw [wipe_eq o3 ho]
        apply List.ext_getElem?
        intro j
        have key : ∀ (own' : List Nat) (σ : L2.St), (L2.wipe σ own')[j]? = if j ∈ own' then (if j < σ.length then some none else none) else σ[j]? := by
          intro own'
          induction own' with
          | nil => intro σ; simp [L2.wipe]
          | cons v vs ih =>
            intro σ
            unfold L2.wipe
            rw [List.getElem?_set, L2.wipe_length, ih σ]
            by_cases h1 : v = j
            · subst h1; simp
            · have h2 : (j = v) = False := by simp; exact fun z => h1 z.symm
              simp only [if_neg h1, List.mem_cons, h2, false_or]
        rw [key, key, L2.wipe_length]
        split <;> rfl
      · cases b with
        | false =>
          rw [if_neg Bool.false_ne_true]
          exact ⟨F4, μ4, (s2.trans s3).trans s4, S4, q4⟩
        | true =>
          rw [if_pos rfl]
          rw [if_pos rfl] at q4
          refine ⟨F4, m ++ [D], μ4, ρ3, S4, R3.mono s4, ((q4.bind).bind).imp (fun F5 H5 μ5 a s5 S5 q5 v r5 => ?_) fun _ _ _ _ _ x => x⟩
          have key : ∀ d, Rep K F5 v d → Post K F5 (m ++ [D]) (fun F' H' μ' (_ : Unit) => Post K F' m (fun F2 H2 μ2 a => ∀ v, RepR K .n F2 m μ2 H2 v a → Q v H2) (fun _ H' _ cls dx => W cls dx σ H') (lcEnd μ1.length μ')) (fun _ _ _ _ _ => False)
              (match μ5[μ1.length]? with
                | some ⟨false, .lst acc⟩ => if acc.length < SL then lcGo (asg t) (evC cs) (fun ρ μ => (ev el ρ μ).bind toV) μ1.length (wipeE ρ own) (ds.drop (i + 1)) (μ5.set μ1.length ⟨false, .lst (acc ++ [d])⟩) else .no
                | _ => .no) → ∃ acc, H5 D = some (.lst acc) ∧ acc.length < sizeLine ∧ ∃ F4 μ4, Same F1 F4 ∧ Sim K F4 (m ++ [D]) μ4 (upd H5 D (.lst (acc ++ [v]))) ∧
                Post K F4 (m ++ [D]) (fun F' H' μ' (_ : Unit) => Post K F' m (fun F2 H2 μ2 a => ∀ v, RepR K .n F2 m μ2 H2 v a → Q v H2) (fun _ H' _ cls dx => W cls dx σ H') (lcEnd μ1.length μ')) (fun _ _ _ _ _ => False)
                  (lcGo (asg t) (evC cs) (fun ρ μ => (ev el ρ μ).bind toV) μ1.length (wipeE ρ own) (ds.drop (i + 1)) μ4) := by
            intro d r5 q5
            cases e6 : μ5[μ1.length]? with
            | none => rw [e6] at q5; exact (show False from q5).elim
            | some cc =>
              obtain ⟨fz, c⟩ := cc
              rw [e6] at q5
              cases fz with
              | true => exact (show False from q5).elim
              | false =>
                cases c with
                | lst acc =>
                  dsimp only at q5
                  split at q5
                  · rename_i hacc
                    have eD : (m ++ [D])[μ1.length]? = some D := by
                      rw [← S1.len, List.getElem?_append_right (Nat.le_refl _)]; simp
                    obtain ⟨vs, h1, h2, h3⟩ := S5.cell _ D _ eD e6
                    refine ⟨vs, h1, by rw [h2.length, ← sl_eq]; exact hacc, F5, _, ((s2.trans s3).trans s4).trans s5, S5.write (c' := .lst (acc ++ [d])) eD e6 (by simp) ⟨_, upd_same, h2.append (.cons r5 .nil), h3⟩, q5⟩
                  · exact (show False from q5).elim
                | _ => exact (show False from q5).elim
          cases a with
          | c n => exact (show False from q5).elim
          | t d => exact key d (RepT.rep r5) (Post.ok q5 S5)
          | v d => exact key d r5 (Post.ok q5 S5)
  · refine .inl ?_
    have hi : i = ds.length := by omega
    subst hi
    rw [List.drop_length] at q2
    unfold lcGo at q2
    refine ⟨w.2, ?_⟩
    have q3 := Post.ok q2 S2
    unfold lcEnd at q3
    cases e6 : μ2[μ1.length]? with
    | none => rw [e6] at q3; exact (show False from q3).elim
    | some cc =>
      obtain ⟨fz, c⟩ := cc
      rw [e6] at q3
      cases fz with
      | true => exact (show False from q3).elim
      | false =>
        cases c with
        | lst acc =>
          dsimp only at q3
          have eD : (m ++ [D])[μ1.length]? = some D := by
            rw [← S1.len, List.getElem?_append_right (Nat.le_refl _)]; simp
          obtain ⟨vs, h1, h2, h3⟩ := S2.cell _ D _ eD e6
          have S3 := S2.take μ1.length
          rw [show (m ++ [D]).take μ1.length = m by rw [← S1.len]; simp] at S3
          refine Post.ok q3 S3 _ ⟨D, vs, rfl, h1, h2, h3, fun j c e1 e2 hl => ?_⟩
          have hj : j < m.length := (List.getElem?_eq_some_iff.mp e1).1
          have e1' : (m ++ [D])[j]? = some D := by rw [List.getElem?_append_left hj]; exact e1
          have e2' : μ2[j]? = some c := by
            rw [List.getElem?_take] at e2
            split at e2
            · exact e2
            · cases e2
          have := S2.inj j μ1.length D c _ e1' eD e2' e6 hl trivial
          rw [← S1.len] at this
          omega
        | _ => exact (show False from q3).elim
/-- [elt for target in iter if ..] -/
theorem okN_lc {elt tg iter : Expr} {ifs : List Expr} {scope : Scope} {own : List (Str × Nat)} {pos : Pos} {t : T} {g : I} {cs : List E} {el : E} (hc : X.calm = true) (hN : X.N.Nodup) (hi : PI X tg iter (tI X.K W g)) (ok : BlkOk X.N X.env.scope scope own)
    (hg : OkG (Blk X scope) X.K tg t) (ho : ∀ i ∈ t.slots, i ∈ own.map (·.2)) (ht : ∀ Y, Blk X scope Y → PTs Y ifs (tTs X.K cs)) (he : ∀ Y, Blk X scope Y → PE Y elt (tE X.K W0 .v el)) (hs : ∀ x, foldedSetIterable iter X.env x = pure x) :
    PE X (.ListComp elt [⟨tg, iter, ifs, 0⟩] scope pos) (tE X.K W .n (.lc g t cs el (own.map (·.2)))) := by
  obtain ⟨gg, hg, kg⟩ := hg
  exact PE.imp (pe_lc hc hN hi ok (fun s H C cl fp => hg _ ⟨s, H, C, cl, fp, rfl⟩) (fun s H C cl fp => ht _ ⟨s, H, C, cl, fp, rfl⟩) (fun s H C cl fp => he _ ⟨s, H, C, cl, fp, rfl⟩) hs) fun σ H Q h => tLc_ok kg ho h
/-- name = [..] -/
theorem tAsg_lc {i : Nat} {y : Str} {py : Pos} {elt tg iter : Expr} {ifs : List Expr} {scope : Scope} {own : List (Str × Nat)} {pos spos : Pos} {t : T} {g : I} {cs : List E} {el : E} (hc : X.calm = true) (hN : X.N.Nodup) (hy : X.N[i]? = some y) (hyl : X.env.scope.names.lookup y = some .local)
    (hsw : swapsWith (.ListComp elt [⟨tg, iter, ifs, 0⟩] scope pos) (some (.Name y py)) spos.line X.env = pure true) (hi : PI X tg iter (tI X.K W g)) (ok : BlkOk X.N X.env.scope scope own)
    (hg : OkG (Blk X scope) X.K tg t) (ho : ∀ i ∈ t.slots, i ∈ own.map (·.2)) (ht : ∀ Y, Blk X scope Y → PTs Y ifs (tTs X.K cs)) (he : ∀ Y, Blk X scope Y → PE Y elt (tE X.K W0 .v el)) (hs : ∀ x, foldedSetIterable iter X.env x = pure x) :
    PS X (.Assign [.Name y py] (.ListComp elt [⟨tg, iter, ifs, 0⟩] scope pos) spos) (tAsg (tE X.K W .n (.lc g t cs el (own.map (·.2)))) (gName i)) := by
  obtain ⟨gg, hg, kg⟩ := hg
  exact PS.imp (ps_setLc hc hN hy hyl hsw hi ok (fun s H C cl fp => hg _ ⟨s, H, C, cl, fp, rfl⟩) (fun s H C cl fp => ht _ ⟨s, H, C, cl, fp, rfl⟩) (fun s H C cl fp => he _ ⟨s, H, C, cl, fp, rfl⟩) hs) fun D σ H h => tLc_ok kg ho h
end
end Wp

set_option Elab.async false
set_option linter.all false
set_option maxRecDepth 100000
set_option maxHeartbeats 4000000
namespace L2
open PySem PySem.Spec PyProof.Rows
theorem tuple_mul1 (l : Addr) (items : Array Value) (n : Nat) (dd : Option Addr) (sl : Array (Option Value)) (u : Tok) :
    Meets (Builtin.«tuple.__mul__» ⟨[.ref l, .int 1 u], []⟩) (fun _ R s => s.heap.get? l = some { cls := .type "tuple", dict := dd, data := .seq items n, slots := sl } ∧
      R (.ok (.ret (Value.ref l))) s) :=
  .of_wp fun prog w A R s h => by
    obtain ⟨hp, g, d, tk, os⟩ := s
    obtain ⟨hl, h⟩ := h
    have f1 := AutoSeq1.idx_int
    have c0 : (decide ((1:Int) < -(2 ^ 63)) || decide ((1:Int) ≥ 2 ^ 63)) = false := by decide
    have c1 : (items.isEmpty || (1:Int) == 1) = true := by simp
    wp_walk using wpAny_loadPart' hl
    repeat (first
      | (refine wpAny_ite_false (decide_eq_false (by rw [c0]; exact Bool.false_ne_true)) ?_; wp_walk using wpAny_loadPart' hl)
      | (refine wpAny_ite_true (decide_eq_true c1) ?_; wp_walk using wpAny_loadPart' hl))
    exact ⟨_, rfl, h⟩
/-- a tuple so often: once it is itself -/
def rRepU (K : PySem.W.Frag) : R2 := fun x y H Q => ∃ l k xs, x = .ref l ∧ y = .int k ∧ SqT K H l xs ∧ xs ≠ [] ∧ 1 ≤ k ∧ k ≤ 1000 ∧ xs.length ≤ 1000 ∧ (k = 1 → Q (.ref l) H) ∧ (2 ≤ k → ∀ p, H p = none → Q (.ref p) (upd H p (.tup (List.replicate k.toNat xs).flatten)))
theorem op_repU {X : Cx} : OpR X (binaryOp .Mult) (rRepU X.K) := by
  intro pins s σ H x y v u Q I rx ry h
  obtain ⟨l, k, xs, rfl, rfl, hT, hne, h1, h2, hz, q1, q2⟩ := h
  by_cases hk : k = 1
  · subst hk
    cases rx
    obtain ⟨t, rfl⟩ := ry
    obtain ⟨its, r, ⟨⟨cls, dd, data, sl⟩, ho, hc, n, hd⟩, hs⟩ := I.tuple hT
    simp only at hc hd
    subst hc hd
    refine wpAny_binaryOp_repeat_ref (T := "tuple") (U := "int") (by decide) ⟨_, ho, rfl⟩ (fun s' => typeIs_int s' 1 t) noFill_tuple_mul F.fills_int_mul F.slot_int_rmul repeat_tuple F.slot_int_index.lookup
      (call_meets F.slot_int_rmul (typeIs_int s 1 t) F.entry_int_rmul (F.args_int_rmul_2 _ _) (int_rmul_tuple 1 t l its.toArray n dd sl)
        ⟨ho, rfl, ⟨_, ho, rfl⟩, call_meets F.slot_tuple_mul ⟨_, ho, rfl⟩ F.entry_tuple_mul (F.args_tuple_mul_2 _ _) (tuple_mul1 l its.toArray n dd sl t) ⟨ho, ?_⟩⟩)
    exact ⟨.ref l, _, I, rfl, q1 rfl⟩
  · exact op_repT pins s σ H _ _ v u Q I rx ry ⟨l, k, xs, rfl, rfl, hT, hne, by omega, h2, hz, q2 (by omega)⟩
end L2

set_option Elab.async false
set_option linter.all false
set_option maxRecDepth 100000
set_option autoImplicit true
/-! W2a: operators. -/
namespace Wp
open PySem PySem.Spec PyProof.Rows L2

theorem sx_len (a : Tx) : (sx a).length = a.length := by simp [sx, Str.length]
theorem sx_app (a b : Tx) : sx a ++ sx b = sx (a ++ b) := by
  show (⟨(sx a).cps ++ (sx b).cps⟩ : Str) = _
  simp [sx]
theorem sx_inj {a b : Tx} (h : sx a = sx b) : a = b := by
  have := congrArg Str.cps h
  simpa [sx] using this

section
variable {X : Cx}
def rAdd (K : Frag) : R2 := fun x y H Q => rI0 (fun i j => .int (i + j)) x y H Q ∨ (∃ i j, x = V.str i ∧ y = V.str j ∧ i.length + j.length ≤ sizeLine ∧ Q (.str (i ++ j)) H) ∨ rCatA K x y H Q ∨ rCat x y H Q
theorem op_addA : OpR X (binaryOp .Add) (rAdd X.K) := op_add.or (op_add_str.or (op_catA.or op_cat))
theorem prim_add {K : Frag} : PrimN K .n (rr2 (rAdd K)) P.add.f := by
  refine prim2 (fun _ => rfl) (fun _ _ _ => rfl) fun F m μ H x y a b res Q S r1 r2 e q => ?_
  cases a <;> cases b <;> try (cases e; done)
  · cases r1.int
    cases r2.int
    cases e
    exact .inl ⟨_, _, rfl, rfl, q F H _ (Same.refl F) S (.int _)⟩
  · rename_i a b
    cases r1.str
    cases r2.str
    have e : (if a.length + b.length ≤ SL then some (D.str (a ++ b)) else none) = some res := e
    split at e
    · rename_i h
      cases e
      refine .inr (.inl ⟨_, _, rfl, rfl, by rw [sx_len, sx_len, ← sl_eq]; exact h, ?_⟩)
      rw [sx_app]
      exact q F H _ (Same.refl F) S (.str _)
    · cases e
  · rename_i a b
    have e : (if a.length + b.length ≤ SL then some (D.tup (a ++ b)) else none) = some res := e
    split at e
    · rename_i h
      cases e
      obtain ⟨p, vs, rfl, h1, h2⟩ := S.seqT r1
      obtain ⟨p', us, rfl, h3, h4⟩ := S.seqT r2
      have R1 : Rep K F (.ref p) (.tup a) := by
        rcases r1 with r | ⟨_, _, _, _, z, _⟩
        · exact r
        · cases z
      have R2 : Rep K F (.ref p') (.tup b) := by
        rcases r2 with r | ⟨_, _, _, _, z, _⟩
        · exact r
        · cases z
      refine .inr (.inr (.inl ⟨p, p', vs, us, rfl, rfl, h1, h3, by rw [h2.length, h4.length, ← sl_eq]; exact h, fun hv => ?_, fun hv hu => ?_, fun hv hu t ht => ?_⟩))
      · subst hv
        cases h2
        exact q F H _ (Same.refl F) S R2
      · subst hu
        cases h4
        exact q F H _ (Same.refl F) S (by rw [List.append_nil]; exact R1)
      · obtain ⟨sF, S2⟩ := S.frozen (o := .tup (vs ++ us)) ht
        exact q _ _ _ sF S2 (.tup (.of upd_same) ((h2.append h4).mono sF))
    · cases e
  · rename_i a b
    have e : (if a.length + b.length ≤ SL then some (D.lst (a ++ b)) else none) = some res := e
    split at e
    · rename_i h
      cases e
      obtain ⟨p, vs, rfl, h1, h2⟩ := S.lstH r1
      obtain ⟨p', us, rfl, h3, h4⟩ := S.lstH r2
      exact .inr (.inr (.inr ⟨p, p', vs, us, rfl, rfl, h1, h3, by rw [h2.length, h4.length, ← sl_eq]; exact h, fun t ht =>
        q F _ _ (Same.refl F) (S.laid ht) ⟨t, _, rfl, upd_same, h2.append h4, S.sub.free ht, fun i c e1 e2 => S.notCell ht i c e1 e2⟩⟩))
    · cases e
theorem prim_sub {K : Frag} : PrimN K .v (rr2 (rI0 fun i j => .int (i - j))) P.sub.f := by
  refine prim2 (fun _ => rfl) (fun _ _ _ => rfl) fun F m μ H x y a b res Q S r1 r2 e q => ?_
  cases a <;> cases b <;> try (cases e; done)
  cases r1.int
  cases r2.int
  cases e
  exact ⟨_, _, rfl, rfl, q F H _ (Same.refl F) S (.int _)⟩
def rMul (K : Frag) : R2 := fun x y H Q => rI CMulW (fun i j => .int (i * j)) x y H Q ∨ rRep x y H Q ∨ rRepU K x y H Q
theorem op_mulA : OpR X (binaryOp .Mult) (rMul X.K) := op_mulW.or (op_rep.or op_repU)
theorem Reps.flat {K : Frag} {F : Hp} {vs : List V} {ds : List D} (r : Reps K F vs ds) : ∀ n, Reps K F (List.replicate n vs).flatten (rep ds n)
  | 0 => .nil
  | n + 1 => by
    unfold rep
    rw [List.replicate_succ, List.replicate_succ, List.flatten_cons, List.flatten_cons]
    exact r.append (Reps.flat r n)
theorem prim_mul {K : Frag} : PrimN K .n (rr2 (rMul K)) P.mul.f := by
  refine prim2 (fun _ => rfl) (fun _ _ _ => rfl) fun F m μ H x y a b res Q S r1 r2 e q => ?_
  cases a <;> cases b <;> try (cases e; done)
  · rename_i a b
    cases r1.int
    cases r2.int
    have e : (if mulOk a b then some (D.int (a * b)) else none) = some res := e
    split at e
    · rename_i h
      cases e
      exact .inl ⟨_, _, rfl, rfl, of_decide_eq_true (p := a.natAbs.log2 + b.natAbs.log2 < 1000000) h, q F H _ (Same.refl F) S (.int _)⟩
    · cases e
  · rename_i a b
    have e : (if a.isEmpty = false ∧ 1 ≤ b ∧ b ≤ 1000 ∧ a.length ≤ 1000 then some (D.tup (rep a b.toNat)) else none) = some res := e
    split at e
    · rename_i h
      cases e
      obtain ⟨p, vs, rfl, h1, h2⟩ := S.seqT r1
      cases r2.int
      have R1 : Rep K F (.ref p) (.tup a) := by
        rcases r1 with r | ⟨_, _, _, _, z, _⟩
        · exact r
        · cases z
      refine .inr (.inr ⟨p, b, vs, rfl, rfl, h1, ?_, h.2.1, h.2.2.1, by rw [h2.length]; exact h.2.2.2, fun hb => ?_, fun hb t ht => ?_⟩)
      · intro hv
        have := h2.length
        rw [hv] at this
        have h0 := h.1
        cases a with
        | nil => cases h0
        | cons x a => cases this
      · subst hb
        have : rep a (1 : Int).toNat = a := by
          show (List.replicate 1 a).flatten = a
          simp
        rw [this] at q
        exact q F H _ (Same.refl F) S R1
      · obtain ⟨sF, S2⟩ := S.frozen (o := .tup (List.replicate b.toNat vs).flatten) ht
        exact q _ _ _ sF S2 (.tup (.of upd_same) ((h2.flat _).mono sF))
    · cases e
  · rename_i a b
    have e : (if (-(2 ^ 63) ≤ b ∧ b < 2 ^ 63) ∧ a.length * b.toNat ≤ SL then some (D.lst (rep a b.toNat)) else none) = some res := e
    split at e
    · rename_i h
      cases e
      obtain ⟨p, vs, rfl, h1, h2⟩ := S.lstH r1
      cases r2.int
      exact .inr (.inl ⟨p, b, vs, rfl, rfl, h1, h.1.1, h.1.2, by rw [h2.length, ← sl_eq]; exact h.2, fun t ht =>
        q F _ _ (Same.refl F) (S.laid ht) ⟨t, _, rfl, upd_same, h2.flat _, S.sub.free ht, fun i c e1 e2 => S.notCell ht i c e1 e2⟩⟩)
    · cases e
/-- // of any sign, of a divisor of less than 9000 bits -/
def CDivZ (_ j : Int) : Prop := j ≠ 0 ∧ j.natAbs.log2 < 9000
theorem op_fdivZ : OpR X (binaryOp .FloorDiv) (rI CDivZ fun i j => .int (i.fdiv j)) := opI fun i j _ _ _ _ _ hc q => by
  exact floordiv_int hc.1 q (.inl (PyProof.noPylong_of_log2 hc.2))
theorem prim_fdiv {K : Frag} : PrimN K .v (rr2 (rI CDivZ fun i j => .int (i.fdiv j))) P.fdiv.f := by
  refine prim2 (fun _ => rfl) (fun _ _ _ => rfl) fun F m μ H x y a b res Q S r1 r2 e q => ?_
  cases a <;> cases b <;> try (cases e; done)
  rename_i a b
  cases r1.int
  cases r2.int
  have e : (if divOk b then some (D.int (a.fdiv b)) else none) = some res := e
  split at e
  · rename_i h
    cases e
    unfold divOk at h
    rw [Bool.and_eq_true, decide_eq_true_eq, decide_eq_true_eq] at h
    exact ⟨_, _, rfl, rfl, h, q F H _ (Same.refl F) S (.int _)⟩
  · cases e
theorem prim_mod {K : Frag} : PrimN K .v (rr2 (rI (fun _ j => j ≠ 0) fun i j => .int (i.fmod j))) P.mod.f := by
  refine prim2 (fun _ => rfl) (fun _ _ _ => rfl) fun F m μ H x y a b res Q S r1 r2 e q => ?_
  cases a <;> cases b <;> try (cases e; done)
  rename_i a b
  cases r1.int
  cases r2.int
  have e : (if b ≠ 0 then some (D.int (a.fmod b)) else none) = some res := e
  split at e
  · rename_i h
    cases e
    exact ⟨_, _, rfl, rfl, h, q F H _ (Same.refl F) S (.int _)⟩
  · cases e
theorem prim_pow {K : Frag} : PrimN K .v (rr2 (rI CPow fun i j => .int (i ^ j.toNat))) P.pow.f := by
  refine prim2 (fun _ => rfl) (fun _ _ _ => rfl) fun F m μ H x y a b res Q S r1 r2 e q => ?_
  cases a <;> cases b <;> try (cases e; done)
  rename_i a b
  cases r1.int
  cases r2.int
  have e : (if (0 ≤ b ∧ b ≤ 1000000) ∧ a.natAbs < 2 ^ 64 then some (D.int (a ^ b.toNat)) else none) = some res := e
  split at e
  · rename_i h
    cases e
    exact ⟨_, _, rfl, rfl, ⟨h.1.1, h.1.2, h.2⟩, q F H _ (Same.refl F) S (.int _)⟩
  · cases e
theorem prim_neg {K : Frag} : PrimN K .v (rr1 (rU fun i => .int (-i))) P.neg.f := by
  refine prim1 (fun _ _ => rfl) (fun _ _ _ => rfl) fun F m μ H x a res Q S r1 e q => ?_
  cases a <;> try (cases e; done)
  cases r1.int
  cases e
  exact ⟨_, rfl, q F H _ (Same.refl F) S (.int _)⟩
theorem prim_lt {K : Frag} : PrimN K .v (rr2 (rI0 fun i j => .bl (decide (i < j)))) P.lt.f := by
  refine prim2 (fun _ => rfl) (fun _ _ _ => rfl) fun F m μ H x y a b res Q S r1 r2 e q => ?_
  cases a <;> cases b <;> try (cases e; done)
  cases r1.int
  cases r2.int
  cases e
  exact ⟨_, _, rfl, rfl, q F H _ (Same.refl F) S (.bl _)⟩
theorem prim_le {K : Frag} : PrimN K .v (rr2 (rI0 fun i j => .bl (decide (i ≤ j)))) P.le.f := by
  refine prim2 (fun _ => rfl) (fun _ _ _ => rfl) fun F m μ H x y a b res Q S r1 r2 e q => ?_
  cases a <;> cases b <;> try (cases e; done)
  cases r1.int
  cases r2.int
  cases e
  exact ⟨_, _, rfl, rfl, q F H _ (Same.refl F) S (.bl _)⟩
theorem prim_gt {K : Frag} : PrimN K .v (rr2 (rI0 fun i j => .bl (decide (j < i)))) P.gt.f := by
  refine prim2 (fun _ => rfl) (fun _ _ _ => rfl) fun F m μ H x y a b res Q S r1 r2 e q => ?_
  cases a <;> cases b <;> try (cases e; done)
  cases r1.int
  cases r2.int
  cases e
  exact ⟨_, _, rfl, rfl, q F H _ (Same.refl F) S (.bl _)⟩
theorem prim_ge {K : Frag} : PrimN K .v (rr2 (rI0 fun i j => .bl (decide (j ≤ i)))) P.ge.f := by
  refine prim2 (fun _ => rfl) (fun _ _ _ => rfl) fun F m μ H x y a b res Q S r1 r2 e q => ?_
  cases a <;> cases b <;> try (cases e; done)
  cases r1.int
  cases r2.int
  cases e
  exact ⟨_, _, rfl, rfl, q F H _ (Same.refl F) S (.bl _)⟩

/-! ### data of any depth -/
mutual
def toPy : D → PyData
  | .non => .none
  | .bl b => .bool b
  | .int i => .int i
  | .str s => .str (sx s)
  | .tup xs => .tuple (toPys xs)
  | .lst xs => .list (toPys xs)
  | .fn _ => .none
  | .exc _ _ => .none
  | .frz _ => .none
def toPys : List D → List PyData
  | [] => []
  | x :: xs => toPy x :: toPys xs
end
mutual
theorem rep_dp {K : Frag} {F H : Hp} (s : Same F H) : ∀ (n : Nat) {v : V} {d : D}, Rep K F v d → D.okN n d = true → Dp K H v (toPy d)
  | _, _, _, .non, _ => by rw [toPy]; exact .non
  | _, _, _, .bl b, _ => by rw [toPy]; exact .bl b
  | _, _, _, .int i, _ => by rw [toPy]; exact .int i
  | _, _, _, .str x, _ => by rw [toPy]; exact .str _
  | 0, _, _, .tup h r, e => by simp [D.okN] at e
  | n + 1, _, _, .tup h r, e => by rw [toPy]; exact .tup (same_tup s h) (reps_dp s n r (by simpa [D.okN] using e))
  | 0, _, _, .lst h r, e => by simp [D.okN] at e
  | n + 1, _, _, .lst h r, e => by rw [toPy]; exact .lst (.of (s _ _ h)) (reps_dp s n r (by simpa [D.okN] using e))
  | _, _, _, .fn x, e => by simp [D.okN] at e
  | _, _, _, .frz h r, e => by simp [D.okN] at e
theorem reps_dp {K : Frag} {F H : Hp} (s : Same F H) : ∀ (n : Nat) {vs : List V} {ds : List D}, Reps K F vs ds → D.okNs n ds = true → DpAll K H vs (toPys ds)
  | _, _, _, .nil, _ => by rw [toPys]; exact .nil
  | n, _, _, .cons a b, e => by
    rw [D.okNs, Bool.and_eq_true] at e
    rw [toPys]; exact .cons (rep_dp s n a e.1) (reps_dp s n b e.2)
end
mutual
theorem lay_of : ∀ (n : Nat) (d : D), D.okN n d = true → (toPy d).canLay0 = true ∧ (toPy d).depth ≤ n
  | n, .non, _ => by simp [toPy, PyData.canLay0, PyData.depth]
  | n, .bl _, _ => by simp [toPy, PyData.canLay0, PyData.depth]
  | n, .int _, _ => by simp [toPy, PyData.canLay0, PyData.depth]
  | n, .str s, h => by
    have h : s.all (· < 1114112) = true := by simpa [D.okN] using h
    refine ⟨?_, by simp [toPy, PyData.depth]⟩
    simp only [toPy, PyData.canLay0, PyData.strOk, sx]
    simpa using h
  | 0, .tup _, h => by simp [D.okN] at h
  | 0, .lst _, h => by simp [D.okN] at h
  | n + 1, .tup xs, h => by
    obtain ⟨h1, h2⟩ := lays_of n xs (by simpa [D.okN] using h)
    simp only [toPy, PyData.canLay0, PyData.depth]
    exact ⟨h1, by omega⟩
  | n + 1, .lst xs, h => by
    obtain ⟨h1, h2⟩ := lays_of n xs (by simpa [D.okN] using h)
    simp only [toPy, PyData.canLay0, PyData.depth]
    exact ⟨h1, by omega⟩
  | n, .fn _, h => by simp [D.okN] at h
  | n, .exc _ _, h => by simp [D.okN] at h
  | n, .frz _, h => by simp [D.okN] at h
theorem lays_of : ∀ (n : Nat) (ds : List D), D.okNs n ds = true → PyData.canLayAll0 (toPys ds) = true ∧ PyData.depthAll (toPys ds) ≤ n
  | n, [], _ => by simp [toPys, PyData.canLayAll0, PyData.depthAll]
  | n, d :: ds, h => by
    rw [D.okNs, Bool.and_eq_true] at h
    obtain ⟨h1, h2⟩ := lay_of n d h.1
    obtain ⟨h3, h4⟩ := lays_of n ds h.2
    simp only [toPys, PyData.canLayAll0, PyData.depthAll, h1, h3]
    exact ⟨rfl, by omega⟩
end
theorem shaped_of {d : D} (h : okD d = true) : SeqAt.shaped (toPy d) = true := by
  obtain ⟨h1, h2⟩ := lay_of 60 d h
  unfold SeqAt.shaped
  rw [h1, Bool.true_and, decide_eq_true_eq]
  omega
mutual
theorem eqv_py : ∀ (n : Nat) (d e : D), D.okN n d = true → D.okN n e = true → PyData.eqv (toPy d) (toPy e) = D.eqv d e
  | n, .fn _, _, h, _ => by simp [D.okN] at h
  | n, .exc _ _, _, h, _ => by simp [D.okN] at h
  | n, .frz _, _, h, _ => by simp [D.okN] at h
  | n, d, .fn _, _, h => by simp [D.okN] at h
  | n, d, .exc _ _, _, h => by simp [D.okN] at h
  | n, d, .frz _, _, h => by simp [D.okN] at h
  | 0, .tup _, _, h, _ => by simp [D.okN] at h
  | 0, .lst _, _, h, _ => by simp [D.okN] at h
  | n + 1, .tup xs, .tup ys, h, k => by
    simp only [toPy, PyData.eqv, D.eqv]
    exact eqvs_py n xs ys (by simpa [D.okN] using h) (by simpa [D.okN] using k)
  | n + 1, .lst xs, .lst ys, h, k => by
    simp only [toPy, PyData.eqv, D.eqv]
    exact eqvs_py n xs ys (by simpa [D.okN] using h) (by simpa [D.okN] using k)
  | n, .str a, .str b, _, _ => by
    simp only [toPy, PyData.eqv, D.eqv]
    rw [Bool.eq_iff_iff]
    simp only [beq_iff_eq]
    exact ⟨sx_inj, fun h => by rw [h]⟩
  | n, .non, .non, _, _ => by simp [toPy, PyData.eqv, D.eqv]
  | n, .non, .bl _, _, _ => by simp [toPy, PyData.eqv, D.eqv]
  | n, .non, .int _, _, _ => by simp [toPy, PyData.eqv, D.eqv]
  | n, .non, .str _, _, _ => by simp [toPy, PyData.eqv, D.eqv]
  | n, .non, .tup _, _, _ => by simp [toPy, PyData.eqv, D.eqv]
  | n, .non, .lst _, _, _ => by simp [toPy, PyData.eqv, D.eqv]
  | n, .bl _, .non, _, _ => by simp [toPy, PyData.eqv, D.eqv]
  | n, .bl _, .bl _, _, _ => by simp [toPy, PyData.eqv, D.eqv]
  | n, .bl _, .int _, _, _ => by simp [toPy, PyData.eqv, D.eqv]
  | n, .bl _, .str _, _, _ => by simp [toPy, PyData.eqv, D.eqv]
  | n, .bl _, .tup _, _, _ => by simp [toPy, PyData.eqv, D.eqv]
  | n, .bl _, .lst _, _, _ => by simp [toPy, PyData.eqv, D.eqv]
  | n, .int _, .non, _, _ => by simp [toPy, PyData.eqv, D.eqv]
  | n, .int _, .bl _, _, _ => by simp [toPy, PyData.eqv, D.eqv]
  | n, .int _, .int _, _, _ => by simp [toPy, PyData.eqv, D.eqv]
  | n, .int _, .str _, _, _ => by simp [toPy, PyData.eqv, D.eqv]
  | n, .int _, .tup _, _, _ => by simp [toPy, PyData.eqv, D.eqv]
  | n, .int _, .lst _, _, _ => by simp [toPy, PyData.eqv, D.eqv]
  | n, .str _, .non, _, _ => by simp [toPy, PyData.eqv, D.eqv]
  | n, .str _, .bl _, _, _ => by simp [toPy, PyData.eqv, D.eqv]
  | n, .str _, .int _, _, _ => by simp [toPy, PyData.eqv, D.eqv]
  | n, .str _, .tup _, _, _ => by simp [toPy, PyData.eqv, D.eqv]
  | n, .str _, .lst _, _, _ => by simp [toPy, PyData.eqv, D.eqv]
  | n, .tup _, .non, _, _ => by simp [toPy, PyData.eqv, D.eqv]
  | n, .tup _, .bl _, _, _ => by simp [toPy, PyData.eqv, D.eqv]
  | n, .tup _, .int _, _, _ => by simp [toPy, PyData.eqv, D.eqv]
  | n, .tup _, .str _, _, _ => by simp [toPy, PyData.eqv, D.eqv]
  | n, .tup _, .lst _, _, _ => by simp [toPy, PyData.eqv, D.eqv]
  | n, .lst _, .non, _, _ => by simp [toPy, PyData.eqv, D.eqv]
  | n, .lst _, .bl _, _, _ => by simp [toPy, PyData.eqv, D.eqv]
  | n, .lst _, .int _, _, _ => by simp [toPy, PyData.eqv, D.eqv]
  | n, .lst _, .str _, _, _ => by simp [toPy, PyData.eqv, D.eqv]
  | n, .lst _, .tup _, _, _ => by simp [toPy, PyData.eqv, D.eqv]
theorem eqvs_py : ∀ (n : Nat) (ds es : List D), D.okNs n ds = true → D.okNs n es = true → PyData.eqvAll (toPys ds) (toPys es) = D.eqvs ds es
  | n, [], [], _, _ => by simp [toPys, PyData.eqvAll, D.eqvs]
  | n, [], _ :: _, _, _ => by simp [toPys, PyData.eqvAll, D.eqvs]
  | n, _ :: _, [], _, _ => by simp [toPys, PyData.eqvAll, D.eqvs]
  | n, d :: ds, e :: es, h, k => by
    rw [D.okNs, Bool.and_eq_true] at h k
    simp only [toPys, PyData.eqvAll, D.eqvs]
    rw [eqv_py n d e h.1 k.1, eqvs_py n ds es h.2 k.2]
end
theorem rn_dp {K : Frag} {F H : Hp} {m : List Addr} {μ : Mu} (S : Sim K F m μ H) {v : V} {d : D} (r : Rn K F H v d) {n : Nat} (h : D.okN n d = true) : Dp K H v (toPy d) := by
  rcases r with r | ⟨a, vs, ds, rfl, rfl, h1, h2⟩
  · exact rep_dp S.sub n r h
  · cases n with
    | zero => simp [D.okN] at h
    | succ n =>
      rw [toPy]
      exact .lst (.of h1) (reps_dp S.sub n h2 (by simpa [D.okN] using h))
end
end Wp

set_option Elab.async false
set_option linter.all false
set_option maxRecDepth 100000
set_option autoImplicit true
/-! W2b: equality, in, is, isinstance; len, index, slices; conversions. -/
namespace Wp
open PySem PySem.Spec PyProof.Rows L2

section
variable {X : Cx}
theorem if_some {c : Bool} {x res : D} (e : (if c = true then some x else none) = some res) : c = true ∧ res = x := by
  cases c with
  | true => exact ⟨rfl, (Option.some.inj e).symm⟩
  | false => cases e
theorem eq_f2 (a b : D) : P.eq.f2 a b = (match a, b with | .str s, .str t => some (.bl (s == t)) | a, b => if okD a && okD b then some (.bl (D.eqv a b)) else none) := by
  cases a <;> cases b <;> rfl
theorem eq_e {a b res : D} (e : P.eq.f2 a b = some res) : (∃ s t, a = .str s ∧ b = .str t ∧ res = .bl (s == t)) ∨ (okD a = true ∧ okD b = true ∧ res = .bl (D.eqv a b)) := by
  rw [eq_f2] at e
  split at e
  · exact .inl ⟨_, _, rfl, rfl, (Option.some.inj e).symm⟩
  · obtain ⟨h, r⟩ := if_some e
    rw [Bool.and_eq_true] at h
    exact .inr ⟨h.1, h.2, r⟩
theorem ne_f2 (a b : D) : P.ne.f2 a b = (match a, b with | .str s, .str t => some (.bl (!(s == t))) | a, b => if okD a && okD b then some (.bl (!D.eqv a b)) else none) := by
  cases a <;> cases b <;> rfl
theorem ne_e {a b res : D} (e : P.ne.f2 a b = some res) : (∃ s t, a = .str s ∧ b = .str t ∧ res = .bl (!(s == t))) ∨ (okD a = true ∧ okD b = true ∧ res = .bl (!D.eqv a b)) := by
  rw [ne_f2] at e
  split at e
  · exact .inl ⟨_, _, rfl, rfl, (Option.some.inj e).symm⟩
  · obtain ⟨h, r⟩ := if_some e
    rw [Bool.and_eq_true] at h
    exact .inr ⟨h.1, h.2, r⟩
def rEqA (K : Frag) : R2 := fun x y H Q => rEq x y H Q ∨ rEqD K x y H Q
def rNeA (K : Frag) : R2 := fun x y H Q => rNe x y H Q ∨ rNeD K x y H Q
theorem op_eqA (hu : X.A.units + 64 < cLine) : OpR X (compareOp .Eq) (rEqA X.K) := op_eq.or (op_eqD hu)
theorem op_neA (hu : X.A.units + 64 < cLine) : OpR X (compareOp .NotEq) (rNeA X.K) := op_ne.or (op_neD hu)
theorem dec_sx (s t : Tx) : decide (V.str (sx s) = V.str (sx t)) = (s == t) := by
  rw [Bool.eq_iff_iff]
  simp only [decide_eq_true_eq, beq_iff_eq, V.str.injEq]
  exact ⟨sx_inj, fun h => by rw [h]⟩
theorem prim_eq {K : Frag} : PrimN K .v (rr2 (rEqA K)) P.eq.f := by
  refine prim2 (fun _ => rfl) (fun _ _ _ => rfl) fun F m μ H x y a b res Q S r1 r2 e q => ?_
  rcases eq_e e with ⟨s, t, rfl, rfl, rfl⟩ | ⟨h1, h2, rfl⟩
  · cases r1.str
    cases r2.str
    refine .inl ⟨rfl, ?_⟩
    rw [dec_sx]
    exact q F H _ (Same.refl F) S (.bl _)
  · refine .inr ⟨_, _, rn_dp S r1 h1, rn_dp S r2 h2, shaped_of h1, shaped_of h2, ?_⟩
    rw [eqv_py 60 a b h1 h2]
    exact q F H _ (Same.refl F) S (.bl _)
theorem prim_ne {K : Frag} : PrimN K .v (rr2 (rNeA K)) P.ne.f := by
  refine prim2 (fun _ => rfl) (fun _ _ _ => rfl) fun F m μ H x y a b res Q S r1 r2 e q => ?_
  rcases ne_e e with ⟨s, t, rfl, rfl, rfl⟩ | ⟨h1, h2, rfl⟩
  · cases r1.str
    cases r2.str
    refine .inl ⟨rfl, ?_⟩
    rw [dec_sx]
    exact q F H _ (Same.refl F) S (.bl _)
  · refine .inr ⟨_, _, rn_dp S r1 h1, rn_dp S r2 h2, shaped_of h1, shaped_of h2, ?_⟩
    rw [eqv_py 60 a b h1 h2]
    exact q F H _ (Same.refl F) S (.bl _)
/-! ### in -/
def rInT (K : Frag) : R2 := fun x y H Q => ∃ d ds, Dp K H x d ∧ Dp K H y (.tuple ds) ∧ SeqAt.shaped d = true ∧ SeqAt.shaped (.tuple ds) = true ∧ Q (.bl (ds.any fun z => PyData.eqv z d)) H
def rNotInT (K : Frag) : R2 := fun x y H Q => ∃ d ds, Dp K H x d ∧ Dp K H y (.tuple ds) ∧ SeqAt.shaped d = true ∧ SeqAt.shaped (.tuple ds) = true ∧ Q (.bl (!ds.any fun z => PyData.eqv z d)) H
theorem op_inT (hu : X.A.units + 65 < cLine) : OpR X (compareOp .In) (rInT X.K) := by
  intro pins s σ H x y v u Q I rx ry h
  obtain ⟨d, ds, hd, he, sd, se, q⟩ := h
  obtain ⟨as, r1⟩ := Dp.reads I d x v hd rx
  obtain ⟨bs, r2⟩ := Dp.reads I (.tuple ds) y u he ry
  exact SeqAt.in_tuple_reads r2 r1 (SeqAt.canLay_of_shaped se) (SeqAt.canLay_of_shaped sd) (room_in_shaped sd hu) ⟨.bl _, H, I, rfl, q⟩
theorem op_notInT (hu : X.A.units + 65 < cLine) : OpR X (compareOp .NotIn) (rNotInT X.K) := by
  intro pins s σ H x y v u Q I rx ry h
  obtain ⟨d, ds, hd, he, sd, se, q⟩ := h
  obtain ⟨as, r1⟩ := Dp.reads I d x v hd rx
  obtain ⟨bs, r2⟩ := Dp.reads I (.tuple ds) y u he ry
  exact SeqAt.notIn_tuple_reads r2 r1 (SeqAt.canLay_of_shaped se) (SeqAt.canLay_of_shaped sd) (room_in_shaped sd hu) ⟨.bl _, H, I, rfl, q⟩
def rInA (K : Frag) : R2 := fun x y H Q => rInD K x y H Q ∨ rInT K x y H Q ∨ ∃ (c : Nat) (z : Str), x = .str ⟨#[c]⟩ ∧ y = .str z ∧ Q (.bl (decide (c ∈ z.cps.toList))) H
def rNotInA (K : Frag) : R2 := fun x y H Q => rNotInD K x y H Q ∨ rNotInT K x y H Q ∨ ∃ (c : Nat) (z : Str), x = .str ⟨#[c]⟩ ∧ y = .str z ∧ Q (.bl (!decide (c ∈ z.cps.toList))) H
theorem op_inA (hu : X.A.units + 65 < cLine) : OpR X (compareOp .In) (rInA X.K) := (op_inD hu).or ((op_inT hu).or op_in_sign)
theorem op_notInA (hu : X.A.units + 65 < cLine) : OpR X (compareOp .NotIn) (rNotInA X.K) := (op_notInD hu).or ((op_notInT hu).or op_notIn_sign)
theorem inOf_e {a b : D} {k : Bool} (e : inOf a b = some k) : (∃ c t, a = .str [c] ∧ b = .str t ∧ k = t.contains c) ∨ (∃ l, b = .lst l ∧ okD a = true ∧ D.okNs 59 l = true ∧ k = l.any fun z => D.eqv z a) ∨ (∃ l, b = .tup l ∧ okD a = true ∧ D.okNs 59 l = true ∧ k = l.any fun z => D.eqv z a) := by
  unfold inOf at e
  split at e
  · split at e
    · rename_i h
      rw [Bool.and_eq_true] at h
      exact .inr (.inl ⟨_, rfl, h.1, h.2, (Option.some.inj e).symm⟩)
    · cases e
  · split at e
    · rename_i h
      rw [Bool.and_eq_true] at h
      exact .inr (.inr ⟨_, rfl, h.1, h.2, (Option.some.inj e).symm⟩)
    · cases e
  · split at e
    · exact .inl ⟨_, _, rfl, rfl, (Option.some.inj e).symm⟩
    · cases e
  · cases e
theorem in_e {a b res : D} (e : P.inn.f2 a b = some res) : ∃ k, inOf a b = some k ∧ res = .bl k := by
  have e : (inOf a b).map D.bl = some res := e
  cases h : inOf a b with
  | none => rw [h] at e; cases e
  | some k => rw [h] at e; exact ⟨k, rfl, (Option.some.inj e).symm⟩
theorem notin_e {a b res : D} (e : P.notin.f2 a b = some res) : ∃ k, inOf a b = some k ∧ res = .bl (!k) := by
  have e : (inOf a b).map (fun k => D.bl (!k)) = some res := e
  cases h : inOf a b with
  | none => rw [h] at e; cases e
  | some k => rw [h] at e; exact ⟨k, rfl, (Option.some.inj e).symm⟩
theorem any_py {a : D} (ha : D.okN 60 a = true) : ∀ {l : List D}, D.okNs 60 l = true → ((toPys l).any fun z => PyData.eqv z (toPy a)) = l.any fun z => D.eqv z a
  | [], _ => by simp [toPys]
  | x :: l, h => by
    rw [D.okNs, Bool.and_eq_true] at h
    rw [toPys, List.any_cons, List.any_cons, eqv_py 60 x a h.1 ha, any_py ha h.2]
mutual
theorem okN_mono : ∀ (n k : Nat) (d : D), n ≤ k → D.okN n d = true → D.okN k d = true
  | n, k, .non, _, h => by simp [D.okN]
  | n, k, .bl _, _, h => by simp [D.okN]
  | n, k, .int _, _, h => by simp [D.okN]
  | n, k, .str _, _, h => by simpa [D.okN] using h
  | 0, k, .tup _, _, h => by simp [D.okN] at h
  | 0, k, .lst _, _, h => by simp [D.okN] at h
  | n + 1, 0, .tup _, hk, h => by omega
  | n + 1, 0, .lst _, hk, h => by omega
  | n + 1, k + 1, .tup l, hk, h => by
    simp only [D.okN] at h ⊢
    exact okNs_mono n k l (by omega) h
  | n + 1, k + 1, .lst l, hk, h => by
    simp only [D.okN] at h ⊢
    exact okNs_mono n k l (by omega) h
  | n, k, .fn _, _, h => by simp [D.okN] at h
  | n, k, .exc _ _, _, h => by simp [D.okN] at h
  | n, k, .frz _, _, h => by simp [D.okN] at h
theorem okNs_mono : ∀ (n k : Nat) (ds : List D), n ≤ k → D.okNs n ds = true → D.okNs k ds = true
  | n, k, [], _, _ => by simp [D.okNs]
  | n, k, d :: ds, hk, h => by
    rw [D.okNs, Bool.and_eq_true] at h ⊢
    exact ⟨okN_mono n k d hk h.1, okNs_mono n k ds hk h.2⟩
end
theorem mem_sx (c : Nat) (t : Tx) : decide (c ∈ (sx t).cps.toList) = t.contains c := by
  rw [Bool.eq_iff_iff, List.contains_iff_mem, decide_eq_true_eq]
  rfl
theorem sx_one (c : Nat) : (⟨#[c]⟩ : Str) = sx [c] := rfl
theorem prim_in {K : Frag} : PrimN K .v (rr2 (rInA K)) P.inn.f := by
  refine prim2 (fun _ => rfl) (fun _ _ _ => rfl) fun F m μ H x y a b res Q S r1 r2 e q => ?_
  obtain ⟨k, e', rfl⟩ := in_e e
  rcases inOf_e e' with ⟨c, t, rfl, rfl, rfl⟩ | ⟨l, rfl, h1, h2, rfl⟩ | ⟨l, rfl, h1, h2, rfl⟩
  · cases r1.str
    cases r2.str
    refine .inr (.inr ⟨c, sx t, rfl, rfl, ?_⟩)
    rw [mem_sx]
    exact q F H _ (Same.refl F) S (.bl _)
  · have h3 : D.okN 60 (.lst l) = true := by simpa [D.okN] using h2
    have r3 := rn_dp S r2 h3
    have h4 := shaped_of h3
    rw [toPy] at r3 h4
    refine .inl ⟨_, _, rn_dp S r1 h1, r3, shaped_of h1, h4, ?_⟩
    rw [any_py h1 (okNs_mono 59 60 l (by omega) h2)]
    exact q F H _ (Same.refl F) S (.bl _)
  · have h3 : D.okN 60 (.tup l) = true := by simpa [D.okN] using h2
    have r3 := rn_dp S r2 h3
    have h4 := shaped_of h3
    rw [toPy] at r3 h4
    refine .inr (.inl ⟨_, _, rn_dp S r1 h1, r3, shaped_of h1, h4, ?_⟩)
    rw [any_py h1 (okNs_mono 59 60 l (by omega) h2)]
    exact q F H _ (Same.refl F) S (.bl _)
theorem prim_notin {K : Frag} : PrimN K .v (rr2 (rNotInA K)) P.notin.f := by
  refine prim2 (fun _ => rfl) (fun _ _ _ => rfl) fun F m μ H x y a b res Q S r1 r2 e q => ?_
  obtain ⟨k, e', rfl⟩ := notin_e e
  rcases inOf_e e' with ⟨c, t, rfl, rfl, rfl⟩ | ⟨l, rfl, h1, h2, rfl⟩ | ⟨l, rfl, h1, h2, rfl⟩
  · cases r1.str
    cases r2.str
    refine .inr (.inr ⟨c, sx t, rfl, rfl, ?_⟩)
    rw [mem_sx]
    exact q F H _ (Same.refl F) S (.bl _)
  · have h3 : D.okN 60 (.lst l) = true := by simpa [D.okN] using h2
    have r3 := rn_dp S r2 h3
    have h4 := shaped_of h3
    rw [toPy] at r3 h4
    refine .inl ⟨_, _, rn_dp S r1 h1, r3, shaped_of h1, h4, ?_⟩
    rw [any_py h1 (okNs_mono 59 60 l (by omega) h2)]
    exact q F H _ (Same.refl F) S (.bl _)
  · have h3 : D.okN 60 (.tup l) = true := by simpa [D.okN] using h2
    have r3 := rn_dp S r2 h3
    have h4 := shaped_of h3
    rw [toPy] at r3 h4
    refine .inr (.inl ⟨_, _, rn_dp S r1 h1, r3, shaped_of h1, h4, ?_⟩)
    rw [any_py h1 (okNs_mono 59 60 l (by omega) h2)]
    exact q F H _ (Same.refl F) S (.bl _)

/-! ### is None, is True -/
theorem rn_notNon {K : Frag} {F H : Hp} {v : V} {d : D} (r : Rn K F H v d) (h : d ≠ .non) : v ≠ .non := by
  rcases r with r | ⟨a, vs, ds, rfl, rfl, _⟩
  · cases r <;> first
      | exact (h rfl).elim
      | (intro z; cases z)
  · intro z; cases z
theorem isN_e {a res : D} (e : P.isN.f1 a = some res) : (a = .non ∧ res = .bl true) ∨ (a ≠ .non ∧ res = .bl false) := by
  cases a <;> first
    | exact .inl ⟨rfl, (Option.some.inj e).symm⟩
    | exact .inr ⟨by simp, (Option.some.inj e).symm⟩
    | cases e
theorem notN_e {a res : D} (e : P.notN.f1 a = some res) : (a = .non ∧ res = .bl false) ∨ (a ≠ .non ∧ res = .bl true) := by
  cases a <;> first
    | exact .inl ⟨rfl, (Option.some.inj e).symm⟩
    | exact .inr ⟨by simp, (Option.some.inj e).symm⟩
    | cases e
theorem prim_isN {K : Frag} : PrimN K .v (rr1 fun x H Q => Q (.bl (decide (x = .non))) H) P.isN.f := by
  refine prim1 (fun _ _ => rfl) (fun _ _ _ => rfl) fun F m μ H x a res Q S r1 e q => ?_
  rcases isN_e e with ⟨rfl, rfl⟩ | ⟨h, rfl⟩
  · cases r1.non
    exact q F H _ (Same.refl F) S (.bl _)
  · rw [decide_eq_false (rn_notNon r1 h)]
    exact q F H _ (Same.refl F) S (.bl _)
theorem prim_notN {K : Frag} : PrimN K .v (rr1 fun x H Q => Q (.bl (!decide (x = .non))) H) P.notN.f := by
  refine prim1 (fun _ _ => rfl) (fun _ _ _ => rfl) fun F m μ H x a res Q S r1 e q => ?_
  rcases notN_e e with ⟨rfl, rfl⟩ | ⟨h, rfl⟩
  · cases r1.non
    exact q F H _ (Same.refl F) S (.bl _)
  · rw [decide_eq_false (rn_notNon r1 h)]
    exact q F H _ (Same.refl F) S (.bl _)
theorem prim_isB {K : Frag} : PrimN K .v (rr2 rIsB) P.isB.f := by
  refine prim2 (fun _ => rfl) (fun _ _ _ => rfl) fun F m μ H x y a b res Q S r1 r2 e q => ?_
  cases a <;> cases b <;> try (cases e; done)
  cases r1.bl
  cases r2.bl
  cases e
  exact ⟨_, _, rfl, rfl, q F H _ (Same.refl F) S (.bl _)⟩
theorem prim_notB {K : Frag} : PrimN K .v (rr2 rNotB) P.notB.f := by
  refine prim2 (fun _ => rfl) (fun _ _ _ => rfl) fun F m μ H x y a b res Q S r1 r2 e q => ?_
  cases a <;> cases b <;> try (cases e; done)
  cases r1.bl
  cases r2.bl
  cases e
  exact ⟨_, _, rfl, rfl, q F H _ (Same.refl F) S (.bl _)⟩
end
end Wp

set_option Elab.async false
set_option linter.all false
set_option maxRecDepth 100000
set_option autoImplicit true
/-! W2c: isinstance, len, subscripts, slices, conversions. -/
namespace Wp
open PySem PySem.Spec PyProof.Rows L2

section
variable {X : Cx} {W : WX} {e a b c : Expr} {es : List Expr} {A B C : E} {pos : Pos}

def D.tn : D → Option String
  | .non => some "NoneType"
  | .bl _ => some "bool"
  | .int _ => some "int"
  | .str _ => some "str"
  | .tup _ => some "tuple"
  | .lst _ => some "list"
  | _ => none
def Ty.tn : Ty → String
  | .int => "int" | .bool => "bool" | .str => "str" | .tuple => "tuple" | .list => "list" | .dict => "dict"
theorem rn_ty {K : Frag} {F H : Hp} {m : List Addr} {μ : Mu} (S : Sim K F m μ H) {v : V} {d : D} {n : String} (r : Rn K F H v d) (h : d.tn = some n) : TyX K H v (.type n) := by
  cases d with
  | non => cases r.non; cases h; exact .base .non
  | bl b => cases r.bl; cases h; exact .base (.bl _)
  | int i => cases r.int; cases h; exact .base (.int _)
  | str s => cases r.str; cases h; exact .base (.str _)
  | tup xs =>
    cases h
    obtain ⟨a, vs, rfl, h1, h2⟩ := S.seqT r
    rcases h1 with (h1 | ⟨o, h1⟩) | ⟨o, its, k, h1, h2, _⟩
    · exact .base (.tup h1)
    · exact .fTuple h1
    · exact .kTuple h1 h2
  | lst xs =>
    cases h
    obtain ⟨a, vs, rfl, h1, h2⟩ := S.lstH r
    exact .base (.lst h1)
  | fn x => cases h
  | exc c v => cases h
  | frz xs => cases h
theorem kit_one {K : Frag} : ∀ (d : D) (t : Ty) (n : String), d.tn = some n → PySem.W.kitOne K (.type n) (.type t.tn) = some (isTy d t) := by
  intro d t n h
  have g1 : ∀ (a b : String) (k : Bool), kitB a b = some k → PySem.W.kitOne K (.type a) (.type b) = some k := fun a b k h => kit_ty h
  cases d <;> cases h <;> cases t <;> first
    | exact g1 _ _ true (by decide +kernel)
    | exact g1 _ _ false (by decide +kernel)
theorem kit_any {K : Frag} (d : D) (n : String) (h : d.tn = some n) : ∀ ts : List Ty, PySem.W.kitAny K (.type n) (ts.map fun t => .type t.tn) = some (ts.any (isTy d))
  | [] => rfl
  | t :: ts => by
    rw [List.map_cons]
    refine kitAny_cons (kit_one d t n h) (fun hb => ?_) fun hb => ?_
    · rw [List.any_cons, hb, Bool.false_or]
      exact kit_any d n h ts
    · rw [List.any_cons, hb, Bool.true_or]
theorem isi_e {ts : List Ty} {d res : D} (e : (P.isinst ts).f1 d = some res) : ∃ n, d.tn = some n ∧ res = .bl (ts.any (isTy d)) := by
  cases d <;> first
    | exact ⟨_, rfl, (Option.some.inj e).symm⟩
    | cases e
theorem clsV_all : ∀ ts : List Ty, Paired ClsV (ts.map fun t => V.ty t.tn) (ts.map fun t => Value.type t.tn)
  | [] => .nil
  | t :: ts => .cons (.ty _) (clsV_all ts)
/-- the one operand of tE (.prim p [A]), computed -/
theorem tE_prim1 {K : Frag} {p : P} {σ : L2.St} {H : Hp} {Q : VK} (h : tE K W .v (.prim p [A]) σ H Q) :
    tE K W .v A σ H fun x H1 => ∃ F m μ d res, Sim K F m μ H1 ∧ Rn K F H1 x d ∧ p.f1 d = some res ∧ ∀ F' H' v, Same F F' → Sim K F' m μ H' → Rep K F' v res → Q v H' := by
  obtain ⟨F, m, μ, ρ, S, R, h⟩ := h
  refine ⟨F, m, μ, ρ, S, R, ?_⟩
  rw [ev, evs.eq_2] at h
  cases e0 : ev A ρ μ with
  | no => rw [e0] at h; exact (show False from h).elim
  | exc c d μ' => rw [e0] at h; exact h
  | ok x μ' =>
    rw [e0] at h
    have h : Post K F m _ _ ((Res.bind (Res.bind (evs [] ρ μ') fun as μ2 => .ok (x :: as) μ2) _)) := h
    rw [evs.eq_1] at h
    have h : Post K F m _ _ (Res.bind (optR ((drs μ' [x]).bind p.f) μ') fun d μ2 => .ok (Wp.A.v d) μ2) := h
    intro F' H' s S' v r
    cases e1 : dr μ' x with
    | none =>
      have e2 : drs μ' [x] = none := by rw [drs.eq_2, e1]
      rw [e2] at h
      exact (show False from h).elim
    | some d =>
      have e2 : drs μ' [x] = some [d] := by rw [drs.eq_2, e1]; rfl
      rw [e2] at h
      have h : Post K F m _ _ (Res.bind (optR (p.f1 d) μ') fun d μ2 => .ok (Wp.A.v d) μ2) := h
      cases e3 : p.f1 d with
      | none => rw [e3] at h; exact (show False from h).elim
      | some res =>
        rw [e3] at h
        exact ⟨F', m, μ', d, res, S', S'.dr r e1, e3, fun F2 H2 w s2 S2 r2 => h F2 H2 (s.trans s2) S2 w r2⟩
/-- isinstance(e, T) -/
theorem okE_isi {n : Str} {t : Ty} {p p2 : Pos} (hg : Gl X "isinstance") (hm : X.mg "isinstance" = none) (he : PE X e (tE X.K W .v A)) (hc : PE X c (tC (.ty t.tn)))
    (h1 : starEach [e, c] X.env = (false, eval e X.env) :: starEach [c] X.env) (h2 : starEach [c] X.env = (false, eval c X.env) :: starEach [] X.env) (hpl : (backTo pos (starEach [c] X.env)).any (·.1) = false) :
    PE X (.Call (.Name "isinstance" p) [e, c] [] pos) (tE X.K W .v (.prim (.isinst [t]) [A])) := by
  refine PE.imp (pe_callB call_isi hg hm boot_isinstance (pa_cons he (pa_cons hc pa_nil h2) h1) (by decide) (by decide) h1 hpl) fun σ H Q h => ?_
  obtain ⟨F, m, μ, ρ, S, R, h⟩ := tE_prim1 h
  refine ⟨F, m, μ, ρ, S, R, h.imp (fun F' H' μ' x s S' q v r => ?_) fun _ _ _ _ _ x => x⟩
  obtain ⟨F2, m2, μ2, d, res, S2, r2, e2, q⟩ := q v r
  obtain ⟨n, hn, rfl⟩ := isi_e e2
  refine ⟨v, .ty t.tn, .type n, .type t.tn, _, rfl, .ty _, rn_ty S2 r2 hn, kit_one d t n hn, ?_⟩
  have := q F2 H' _ (Same.refl _) S2 (.bl (([t]).any (isTy d)))
  simpa using this
/-- isinstance(e, (T1, T2, ..)) -/
theorem okE_isiT {ts : List Ty} {cs : List Expr} {p p2 : Pos} {k : Nat} (hg : Gl X "isinstance") (hm : X.mg "isinstance" = none) (he : PE X e (tE X.K W .v A)) (hc : PA X cs (fun σ H Q => Q (ts.map fun t => V.ty t.tn) H)) (hl : ts.length ≤ 1000)
    (h1 : starEach [e, .Tuple cs k p2] X.env = (false, eval e X.env) :: starEach [.Tuple cs k p2] X.env) (h2 : starEach [.Tuple cs k p2] X.env = (false, eval (.Tuple cs k p2) X.env) :: starEach [] X.env) (hpl : (backTo pos (starEach [.Tuple cs k p2] X.env)).any (·.1) = false) :
    PE X (.Call (.Name "isinstance" p) [e, .Tuple cs k p2] [] pos) (tE X.K W .v (.prim (.isinst ts) [A])) := by
  refine PE.imp (pe_callB call_isiT hg hm boot_isinstance (pa_cons he (pa_cons (pe_tup hc) pa_nil h2) h1) (by decide) (by decide) h1 hpl) fun σ H Q h => ?_
  obtain ⟨F, m, μ, ρ, S, R, h⟩ := tE_prim1 h
  refine ⟨F, m, μ, ρ, S, R, h.imp (fun F' H' μ' x s S' q v r => ?_) fun _ _ _ _ _ x => x⟩
  obtain ⟨F2, m2, μ2, d, res, S2, r2, e2, q⟩ := q v r
  obtain ⟨n, hn, rfl⟩ := isi_e e2
  refine ⟨by rw [List.length_map]; exact Nat.le_of_lt (small1000 (by omega)), fun t ht => ?_⟩
  have S3 := S2.laid (o := .tup (ts.map fun t => V.ty t.tn)) ht
  have r3 : Rn X.K F2 (upd H' t (.tup (ts.map fun t => V.ty t.tn))) v d := by
    rcases r2 with r | ⟨a, vs, ds, e1, e2, h3, h4⟩
    · exact .inl r
    · exact .inr ⟨a, vs, ds, e1, e2, by rw [upd_ne (ne_of_none h3 ht)]; exact h3, h4⟩
  exact ⟨v, t, _, .type n, _, _, rfl, upd_same, clsV_all ts, rn_ty S3 r3 hn, kit_any d n hn ts, q F2 _ _ (Same.refl _) S3 (.bl _)⟩

/-! ### calls of one value -/
def rc1 (r : V → Hp → VK → Prop) : List V → Hp → VK → Prop := rr1 r
theorem prim_len {K : Frag} : PrimN K .v (fun xs H Q => ∃ x n, xs = [x] ∧ LenV K x H n ∧ Q (.int n) H) P.len.f := by
  have h : PrimN K .v (rr1 fun x H Q => ∃ n, LenV K x H n ∧ Q (.int n) H) P.len.f := by
    refine prim1 (fun _ _ => rfl) (fun _ _ _ => rfl) fun F m μ H x a res Q S r1 e q => ?_
    cases a <;> try (cases e; done)
    · rename_i s
      cases r1.str
      have e : (if s.length ≤ SL then some (D.int s.length) else none) = some res := e
      split at e
      · rename_i h
        cases e
        exact ⟨s.length, ⟨by rw [sx_len, ← sl_eq]; exact h, (sx_len s).symm⟩, q F H _ (Same.refl F) S (.int _)⟩
      · cases e
    · cases e
      obtain ⟨p, vs, rfl, h1, h2⟩ := S.seqT r1
      exact ⟨_, .inr ⟨vs, h1, h2.length.symm⟩, q F H _ (Same.refl F) S (.int _)⟩
    · cases e
      obtain ⟨p, vs, rfl, h1, h2⟩ := S.seqL r1
      exact ⟨_, .inl ⟨vs, h1, h2.length.symm⟩, q F H _ (Same.refl F) S (.int _)⟩
  intro F m μ H vs ds res Q S r e q
  obtain ⟨x, ex, n, hl, hq⟩ := h F m μ H vs ds res Q S r e q
  exact ⟨x, n, ex, hl, hq⟩
theorem prim_abs {K : Frag} : PrimN K .v (fun xs H Q => ∃ i, xs = [.int i] ∧ Q (.int (if i < 0 then -i else i)) H) P.abs.f := by
  have h : PrimN K .v (rr1 fun x H Q => ∃ i, x = .int i ∧ Q (.int (if i < 0 then -i else i)) H) P.abs.f := by
    refine prim1 (fun _ _ => rfl) (fun _ _ _ => rfl) fun F m μ H x a res Q S r1 e q => ?_
    cases a <;> try (cases e; done)
    cases r1.int
    cases e
    exact ⟨_, rfl, q F H _ (Same.refl F) S (.int _)⟩
  intro F m μ H vs ds res Q S r e q
  obtain ⟨x, rfl, i, rfl, hq⟩ := h F m μ H vs ds res Q S r e q
  exact ⟨i, rfl, hq⟩
theorem prim_max {K : Frag} : PrimN K .v (fun xs H Q => ∃ i j, xs = [.int i, .int j] ∧ Q (.int (if j > i then j else i)) H) P.max.f := by
  have h : PrimN K .v (rr2 fun x y H Q => ∃ i j, x = .int i ∧ y = .int j ∧ Q (.int (if j > i then j else i)) H) P.max.f := by
    refine prim2 (fun _ => rfl) (fun _ _ _ => rfl) fun F m μ H x y a b res Q S r1 r2 e q => ?_
    cases a <;> cases b <;> try (cases e; done)
    cases r1.int
    cases r2.int
    cases e
    exact ⟨_, _, rfl, rfl, q F H _ (Same.refl F) S (.int _)⟩
  intro F m μ H vs ds res Q S r e q
  obtain ⟨x, y, rfl, i, j, rfl, rfl, hq⟩ := h F m μ H vs ds res Q S r e q
  exact ⟨i, j, rfl, hq⟩
theorem prim_min {K : Frag} : PrimN K .v (fun xs H Q => ∃ i j, xs = [.int i, .int j] ∧ Q (.int (if j < i then j else i)) H) P.min.f := by
  have h : PrimN K .v (rr2 fun x y H Q => ∃ i j, x = .int i ∧ y = .int j ∧ Q (.int (if j < i then j else i)) H) P.min.f := by
    refine prim2 (fun _ => rfl) (fun _ _ _ => rfl) fun F m μ H x y a b res Q S r1 r2 e q => ?_
    cases a <;> cases b <;> try (cases e; done)
    cases r1.int
    cases r2.int
    cases e
    exact ⟨_, _, rfl, rfl, q F H _ (Same.refl F) S (.int _)⟩
  intro F m μ H vs ds res Q S r e q
  obtain ⟨x, y, rfl, i, j, rfl, rfl, hq⟩ := h F m μ H vs ds res Q S r e q
  exact ⟨i, j, rfl, hq⟩
theorem prim_gcd {K : Frag} : PrimN K .v rGcd P.gcd.f := by
  have h : PrimN K .v (rr2 fun x y H Q => ∃ i j : Int, x = .int i ∧ y = .int j ∧ Q (.int ((Nat.gcd i.natAbs j.natAbs : Nat) : Int)) H) P.gcd.f := by
    refine prim2 (fun _ => rfl) (fun _ _ _ => rfl) fun F m μ H x y a b res Q S r1 r2 e q => ?_
    cases a <;> cases b <;> try (cases e; done)
    cases r1.int
    cases r2.int
    cases e
    exact ⟨_, _, rfl, rfl, q F H _ (Same.refl F) S (.int _)⟩
  intro F m μ H vs ds res Q S r e q
  obtain ⟨x, y, rfl, i, j, rfl, rfl, hq⟩ := h F m μ H vs ds res Q S r e q
  exact ⟨i, j, rfl, hq⟩
/-- tuple(x), list(x) -/
theorem prim_tuple {K : Frag} : PrimN K .v (fun xs H Q => ∃ p ys, xs = [.ref p] ∧ ((SqL K H p ys ∧ ∀ l, H l = none → Q (.ref l) (upd H l (.tup ys))) ∨ (SqT K H p ys ∧ Q (.ref p) H))) P.tuple.f := by
  have h : PrimN K .v (rr1 fun x H Q => ∃ p ys, x = .ref p ∧ ((SqL K H p ys ∧ ∀ l, H l = none → Q (.ref l) (upd H l (.tup ys))) ∨ (SqT K H p ys ∧ Q (.ref p) H))) P.tuple.f := by
    refine prim1 (fun _ _ => rfl) (fun _ _ _ => rfl) fun F m μ H x a res Q S r1 e q => ?_
    cases a <;> try (cases e; done)
    · cases e
      obtain ⟨p, vs, rfl, h1, h2⟩ := S.seqT r1
      refine ⟨p, vs, rfl, .inr ⟨h1, q F H _ (Same.refl F) S ?_⟩⟩
      rcases r1 with r | ⟨_, _, _, _, z, _⟩
      · exact r
      · cases z
    · cases e
      obtain ⟨p, vs, rfl, h1, h2⟩ := S.seqL r1
      refine ⟨p, vs, rfl, .inl ⟨h1, fun t ht => ?_⟩⟩
      obtain ⟨sF, S2⟩ := S.frozen (o := .tup vs) ht
      exact q _ _ _ sF S2 (.tup (.of upd_same) (h2.mono sF))
  intro F m μ H vs ds res Q S r e q
  obtain ⟨x, rfl, p, ys, rfl, hq⟩ := h F m μ H vs ds res Q S r e q
  exact ⟨p, ys, rfl, hq⟩
theorem prim_list {K : Frag} : PrimN K .n (fun xs H Q => ∃ p ys, xs = [.ref p] ∧ (SqL K H p ys ∨ SqT K H p ys) ∧ ∀ l, H l = none → Q (.ref l) (upd H l (.lst ys))) P.list.f := by
  have h : PrimN K .n (rr1 fun x H Q => ∃ p ys, x = .ref p ∧ (SqL K H p ys ∨ SqT K H p ys) ∧ ∀ l, H l = none → Q (.ref l) (upd H l (.lst ys))) P.list.f := by
    refine prim1 (fun _ _ => rfl) (fun _ _ _ => rfl) fun F m μ H x a res Q S r1 e q => ?_
    cases a <;> try (cases e; done)
    · cases e
      obtain ⟨p, vs, rfl, h1, h2⟩ := S.seqT r1
      exact ⟨p, vs, rfl, .inr h1, fun t ht => q F _ _ (Same.refl F) (S.laid ht) ⟨t, _, rfl, upd_same, h2, S.sub.free ht, fun i c e1 e2 => S.notCell ht i c e1 e2⟩⟩
    · cases e
      obtain ⟨p, vs, rfl, h1, h2⟩ := S.seqL r1
      exact ⟨p, vs, rfl, .inl h1, fun t ht => q F _ _ (Same.refl F) (S.laid ht) ⟨t, _, rfl, upd_same, h2, S.sub.free ht, fun i c e1 e2 => S.notCell ht i c e1 e2⟩⟩
    · cases e
      rcases r1 with r | ⟨_, _, _, _, z, _⟩
      · cases r with
        | frz h1 h2 => exact ⟨_, _, rfl, .inl (S.sub.seq h1), fun t ht => q F _ _ (Same.refl F) (S.laid ht) ⟨t, _, rfl, upd_same, h2, S.sub.free ht, fun i c e1 e2 => S.notCell ht i c e1 e2⟩⟩
      · cases z
  intro F m μ H vs ds res Q S r e q
  obtain ⟨x, rfl, p, ys, rfl, hq⟩ := h F m μ H vs ds res Q S r e q
  exact ⟨p, ys, rfl, hq⟩
theorem intsOf_vals {K : Frag} {F : Hp} : ∀ {vs : List V} {ds : List D} {is : List Int}, Reps K F vs ds → intsOf ds = some is → vs = is.map V.int
  | _, [], _, .nil, e => by cases e; rfl
  | _, d :: ds, is, .cons a b, e => by
    cases d with
    | int i =>
      have e : (intsOf ds).map (i :: ·) = some is := e
      cases h : intsOf ds with
      | none => rw [h] at e; cases e
      | some js =>
        rw [h] at e
        cases e
        cases a
        rw [intsOf_vals b h]; rfl
    | _ => cases e
theorem blsOf_vals {K : Frag} {F : Hp} : ∀ {vs : List V} {ds : List D} {is : List Bool}, Reps K F vs ds → blsOf ds = some is → vs = is.map V.bl
  | _, [], _, .nil, e => by cases e; rfl
  | _, d :: ds, is, .cons a b, e => by
    cases d with
    | bl i =>
      have e : (blsOf ds).map (i :: ·) = some is := e
      cases h : blsOf ds with
      | none => rw [h] at e; cases e
      | some js =>
        rw [h] at e
        cases e
        cases a
        rw [blsOf_vals b h]; rfl
    | _ => cases e
theorem strsOf_vals {K : Frag} {F : Hp} : ∀ {vs : List V} {ds : List D} {is : List Tx}, Reps K F vs ds → strsOf ds = some is → vs = (is.map sx).map V.str
  | _, [], _, .nil, e => by cases e; rfl
  | _, d :: ds, is, .cons a b, e => by
    cases d with
    | str i =>
      have e : (strsOf ds).map (i :: ·) = some is := e
      cases h : strsOf ds with
      | none => rw [h] at e; cases e
      | some js =>
        rw [h] at e
        cases e
        cases a
        rw [strsOf_vals b h]; rfl
    | _ => cases e
theorem prim_sum {K : Frag} : PrimN K .v (rSum K) P.sum.f := by
  have h : PrimN K .v (rr1 fun x H Q => ∃ (a : Addr) (ns : List Int), x = V.ref a ∧ SqL K H a (ns.map V.int) ∧ Q (.int ns.sum) H) P.sum.f := by
    refine prim1 (fun _ _ => rfl) (fun _ _ _ => rfl) fun F m μ H x a res Q S r1 e q => ?_
    cases a <;> try (cases e; done)
    rename_i ds
    have e : (intsOf ds).map (fun is => D.int is.sum) = some res := e
    cases h : intsOf ds with
    | none => rw [h] at e; cases e
    | some is =>
      rw [h] at e
      cases e
      obtain ⟨p, vs, rfl, h1, h2⟩ := S.seqL r1
      rw [intsOf_vals h2 h] at h1
      exact ⟨p, is, rfl, h1, q F H _ (Same.refl F) S (.int _)⟩
  intro F m μ H vs ds res Q S r e q
  obtain ⟨x, rfl, p, ys, rfl, hq⟩ := h F m μ H vs ds res Q S r e q
  exact ⟨p, ys, rfl, hq⟩
theorem prim_any {K : Frag} : PrimN K .v (rAny K) P.any.f := by
  have h : PrimN K .v (rr1 fun x H Q => ∃ (a : Addr) (ns : List Bool), x = V.ref a ∧ SqL K H a (ns.map V.bl) ∧ Q (.bl (ns.any id)) H) P.any.f := by
    refine prim1 (fun _ _ => rfl) (fun _ _ _ => rfl) fun F m μ H x a res Q S r1 e q => ?_
    cases a <;> try (cases e; done)
    rename_i ds
    have e : (blsOf ds).map (fun is => D.bl (is.any id)) = some res := e
    cases h : blsOf ds with
    | none => rw [h] at e; cases e
    | some is =>
      rw [h] at e
      cases e
      obtain ⟨p, vs, rfl, h1, h2⟩ := S.seqL r1
      rw [blsOf_vals h2 h] at h1
      exact ⟨p, is, rfl, h1, q F H _ (Same.refl F) S (.bl _)⟩
  intro F m μ H vs ds res Q S r e q
  obtain ⟨x, rfl, p, ys, rfl, hq⟩ := h F m μ H vs ds res Q S r e q
  exact ⟨p, ys, rfl, hq⟩
theorem prim_all {K : Frag} : PrimN K .v (rAll K) P.all.f := by
  have h : PrimN K .v (rr1 fun x H Q => ∃ (a : Addr) (ns : List Bool), x = V.ref a ∧ SqL K H a (ns.map V.bl) ∧ Q (.bl (ns.all id)) H) P.all.f := by
    refine prim1 (fun _ _ => rfl) (fun _ _ _ => rfl) fun F m μ H x a res Q S r1 e q => ?_
    cases a <;> try (cases e; done)
    rename_i ds
    have e : (blsOf ds).map (fun is => D.bl (is.all id)) = some res := e
    cases h : blsOf ds with
    | none => rw [h] at e; cases e
    | some is =>
      rw [h] at e
      cases e
      obtain ⟨p, vs, rfl, h1, h2⟩ := S.seqL r1
      rw [blsOf_vals h2 h] at h1
      exact ⟨p, is, rfl, h1, q F H _ (Same.refl F) S (.bl _)⟩
  intro F m μ H vs ds res Q S r e q
  obtain ⟨x, rfl, p, ys, rfl, hq⟩ := h F m μ H vs ds res Q S r e q
  exact ⟨p, ys, rfl, hq⟩

/-! ### subscripts -/
theorem Rn.tup {K : Frag} {F H : Hp} {v : V} {ds : List D} (r : Rn K F H v (.tup ds)) : Rep K F v (.tup ds) := by
  rcases r with r | ⟨_, _, _, _, z, _⟩
  · exact r
  · cases z
theorem prim_idx {K : Frag} : PrimN K .v (rr2 (rIx K)) P.idx.f := by
  refine prim2 (fun _ => rfl) (fun _ _ _ => rfl) fun F m μ H x y a b res Q S r1 r2 e q => ?_
  have look : ∀ {vs : List V} {ds : List D} {i : Int}, Reps K F vs ds → Wp.atI ds i = some res → ∃ v, L2.atI vs i = some v ∧ Rep K F v res := by
    intro vs ds i r e
    unfold Wp.atI at e
    cases h : Wp.ixN ds.length i with
    | none => rw [h] at e; cases e
    | some j =>
      rw [h] at e
      exact r.atI h e
  cases b <;> try (cases a <;> cases e; done)
  rename_i i
  cases r2.int
  cases a <;> try (cases e; done)
  · rename_i s
    cases r1.str
    have e : (if s.length ≤ SL then (Wp.atI s i).map (fun c => D.str [c]) else none) = some res := e
    split at e
    · rename_i h
      cases h2 : Wp.atI s i with
      | none => rw [h2] at e; cases e
      | some c =>
        rw [h2] at e
        cases e
        refine .inr (.inr ⟨sx s, i, c, rfl, rfl, by rw [sx_len, ← sl_eq]; exact h, ?_, q F H _ (Same.refl F) S (.str [c])⟩)
        exact h2
    · cases e
  · obtain ⟨p, vs, rfl, h1, h2⟩ := S.seqT r1
    obtain ⟨v, ev, rv⟩ := look h2 e
    exact .inr (.inl ⟨p, vs, i, v, rfl, rfl, h1, ev, q F H _ (Same.refl F) S rv⟩)
  · obtain ⟨p, vs, rfl, h1, h2⟩ := S.seqL r1
    obtain ⟨v, ev, rv⟩ := look h2 e
    exact .inl ⟨p, vs, i, v, rfl, rfl, h1, ev, q F H _ (Same.refl F) S rv⟩
theorem okE_idx (ha : PE X a (tE X.K W .v A)) (hb : PE X b (tE X.K W .v B)) (hs : PlainIx b) : PE X (.Subscript a b pos) (tE X.K W .v (.prim .idx [A, B])) := by
  refine PE.imp (pe_ix ix_seq ha hb hs) fun σ H Q h => ?_
  obtain ⟨F, m, μ, ρ, S, R, h⟩ := tEs_two (tE_prim prim_idx h)
  refine ⟨F, m, μ, ρ, S, R, h.imp (fun F' H' μ' x s S' q v r1 => ?_) fun _ _ _ _ _ x => x⟩
  obtain ⟨F1, m1, μ1, ρ1, S1, R1, h1⟩ := q v r1
  refine ⟨F1, m1, μ1, ρ1, S1, R1, h1.imp (fun F2 H2 μ2 y s2 S2 q2 w r2 => ?_) fun _ _ _ _ _ x => x⟩
  obtain ⟨x', y', e, h⟩ := q2 w r2
  cases e
  exact h
end
end Wp

set_option Elab.async false
set_option linter.all false
set_option maxRecDepth 100000
set_option autoImplicit true
/-! W2d: slices, ranges as lists, chains, is None, keyword calls, globals, index. -/
namespace Wp
open PySem PySem.Spec PyProof.Rows L2

section
variable {X : Cx} {W : WX} {e a b c : Expr} {es : List Expr} {A B C : E} {As : List E} {pos : Pos}

/-! ### slices -/
theorem sIx_eq (n d : Nat) (o : Option Int) : HT.sIx n d o = Wp.sIx n d o := by cases o <;> rfl
theorem Reps.cut {K : Frag} {F : Hp} {vs : List V} {ds : List D} (r : Reps K F vs ds) (lo hi : Option Int) : Reps K F (cutV vs lo hi) (Wp.cut ds lo hi) := by
  unfold cutV Wp.cut
  rw [r.length, sIx_eq, sIx_eq]
  exact (r.drop _).take _
def rSl (K : Frag) : V → Option Int → Option Int → Hp → VK → Prop := fun x lo hi H Q => rSlL K x lo hi H Q ∨ rSlA K x lo hi H Q ∨ rSlS x lo hi H Q
theorem sl_any : SlR X (rSl X.K) := sl_list.or (sl_tupA.or sl_str)
theorem cutD_rel {K : Frag} {F H : Hp} {m : List Addr} {μ : Mu} {x : V} {a res : D} {lo hi : Option Int} {Q : VK} (S : Sim K F m μ H) (r : Rn K F H x a) (e : cutD a lo hi = some res)
    (q : ∀ F' H' v, Same F F' → Sim K F' m μ H' → RepR K .n F' m μ H' v (.v res) → Q v H') : rSl K x lo hi H Q := by
  cases a <;> try (cases e; done)
  · rename_i s
    cases r.str
    have e : (if s.length ≤ SL then some (D.str (Wp.cut s lo hi)) else none) = some res := e
    split at e
    · rename_i h
      cases e
      refine .inr (.inr ⟨sx s, rfl, by rw [sx_len, ← sl_eq]; exact h, ?_⟩)
      have e2 : cutS (sx s) lo hi = sx (Wp.cut s lo hi) := by
        unfold cutS Wp.cut sx
        simp only [Str.length, List.size_toArray, sIx_eq]
      rw [e2]
      exact q F H _ (Same.refl F) S (.str _)
    · cases e
  · rename_i ds
    cases e
    obtain ⟨p, vs, rfl, h1, h2⟩ := S.seqT r
    refine .inr (.inl ⟨p, vs, rfl, h1, fun hw => ?_, fun hw t ht => ?_⟩)
    · have e2 : Wp.cut ds lo hi = ds := by
        unfold Wp.cut
        rw [← sIx_eq, ← sIx_eq, ← h2.length, hw.1, hw.2, List.drop_zero, Nat.sub_zero, h2.length, List.take_length]
      exact q F H _ (Same.refl F) S (by show Rep K F _ (.tup (Wp.cut ds lo hi)); rw [e2]; exact r.tup)
    · obtain ⟨sF, S2⟩ := S.frozen (o := .tup (cutV vs lo hi)) ht
      exact q _ _ _ sF S2 (.tup (.of upd_same) ((h2.cut lo hi).mono sF))
  · rename_i ds
    cases e
    obtain ⟨p, vs, rfl, h1, h2⟩ := S.seqL r
    exact .inl ⟨p, vs, rfl, h1, fun t ht => q F _ _ (Same.refl F) (S.laid ht) ⟨t, _, rfl, upd_same, h2.cut lo hi, S.sub.free ht, fun i c e1 e2 => S.notCell ht i c e1 e2⟩⟩
theorem prim_slLo {K : Frag} : PrimN K .n (rr2 fun x y H Q => ∃ l, y = .int l ∧ rSl K x (some l) none H Q) P.slLo.f := by
  refine prim2 (fun _ => rfl) (fun _ _ _ => rfl) fun F m μ H x y a b res Q S r1 r2 e q => ?_
  cases b <;> try (cases e; done)
  cases r2.int
  exact ⟨_, rfl, cutD_rel S r1 e q⟩
theorem prim_slHi {K : Frag} : PrimN K .n (rr2 fun x y H Q => ∃ l, y = .int l ∧ rSl K x none (some l) H Q) P.slHi.f := by
  refine prim2 (fun _ => rfl) (fun _ _ _ => rfl) fun F m μ H x y a b res Q S r1 r2 e q => ?_
  cases b <;> try (cases e; done)
  cases r2.int
  exact ⟨_, rfl, cutD_rel S r1 e q⟩
theorem prim3 {K : Frag} {new : Md} {p : P} {r : V → V → V → Hp → VK → Prop} (h1 : ∀ a, p.f1 a = none) (h2 : ∀ a b, p.f2 a b = none)
    (h : ∀ (F : Hp) (m : List Addr) (μ : Mu) (H : Hp) (x y z : V) (a b c res : D) (Q : VK), Sim K F m μ H → Rn K F H x a → Rn K F H y b → Rn K F H z c → p.f3 a b c = some res → (∀ F' H' v, Same F F' → Sim K F' m μ H' → RepR K new F' m μ H' v (.v res) → Q v H') → r x y z H Q) :
    PrimN K new (fun vs H Q => ∃ x y z, vs = [x, y, z] ∧ r x y z H Q) p.f := by
  intro F m μ H vs ds res Q S rs e q
  match vs, ds, rs with
  | _, _, .nil => cases e
  | _, _, .cons r1 .nil => exact absurd ((h1 _).symm.trans e) (by simp)
  | _, _, .cons r1 (.cons r2 .nil) => exact absurd ((h2 _ _).symm.trans e) (by simp)
  | _, _, .cons r1 (.cons r2 (.cons r3 .nil)) => exact ⟨_, _, _, rfl, h F m μ H _ _ _ _ _ _ res Q S r1 r2 r3 e q⟩
  | _, _, .cons r1 (.cons r2 (.cons r3 (.cons r4 rr))) => cases e
theorem prim_slLH {K : Frag} : PrimN K .n (fun vs H Q => ∃ x y z, vs = [x, y, z] ∧ ∃ l u, y = .int l ∧ z = .int u ∧ rSl K x (some l) (some u) H Q) P.slLH.f := by
  refine prim3 (fun _ => rfl) (fun _ _ => rfl) fun F m μ H x y z a b c res Q S r1 r2 r3 e q => ?_
  cases b <;> try (cases e; done)
  cases c <;> try (cases e; done)
  cases r2.int
  cases r3.int
  exact ⟨_, _, rfl, rfl, cutD_rel S r1 e q⟩
theorem tEs_three {K : Frag} {σ : L2.St} {H : Hp} {Q : List V → Hp → Prop} (h : tEs K W [A, B, C] σ H Q) : tE K W .v A σ H fun x H1 => tE K W .v B σ H1 fun y H2 => tE K W .v C σ H2 fun z H3 => Q [x, y, z] H3 := by
  obtain ⟨F, m, μ, ρ, S, R, h⟩ := tEs_cons h
  refine ⟨F, m, μ, ρ, S, R, h.imp (fun F' H' μ' x s S' q v r => ?_) fun _ _ _ _ _ x => x⟩
  exact tEs_two (q v r)
theorem tE.imp {K : Frag} {md : Md} {σ : L2.St} {H : Hp} {Q Q' : VK} (h : tE K W md A σ H Q) (i : ∀ v H, Q v H → Q' v H) : tE K W md A σ H Q' := by
  obtain ⟨F, m, μ, ρ, S, RS, h⟩ := h
  exact ⟨F, m, μ, ρ, S, RS, h.imp (fun F' H' μ' a s S' q v r => i _ _ (q v r)) fun _ _ _ _ _ x => x⟩
theorem okN_slLo {p2 : Pos} (he : PE X e (tE X.K W .v A)) (hl : PE X a (tE X.K W .v B)) : PE X (.Subscript e (.Slice (some a) none none p2) pos) (tE X.K W .n (.prim .slLo [A, B])) := by
  refine PE.imp (pe_slice sl_any he (po_some hl) po_none) fun σ H Q h => (tEs_two (tE_prim prim_slLo h)).imp fun x H1 q => q.imp fun y H2 q => ?_
  obtain ⟨x', y', e, l, rfl, h⟩ := q
  cases e
  exact ⟨l, rfl, h⟩
theorem okN_slHi {p2 : Pos} (he : PE X e (tE X.K W .v A)) (hl : PE X a (tE X.K W .v B)) : PE X (.Subscript e (.Slice none (some a) none p2) pos) (tE X.K W .n (.prim .slHi [A, B])) := by
  refine PE.imp (pe_slice sl_any he po_none (po_some hl)) fun σ H Q h => (tEs_two (tE_prim prim_slHi h)).imp fun x H1 q => q.imp fun y H2 q => ?_
  obtain ⟨x', y', e, l, rfl, h⟩ := q
  cases e
  exact ⟨l, rfl, h⟩
theorem tE_asI {K : Frag} {σ : L2.St} {H : Hp} {Q : VK} (h : tE K W .v (.prim .asI [B]) σ H Q) : tE K W .v B σ H fun x H1 => ∃ i, x = .int i ∧ Q x H1 := by
  refine (tE_prim1 h).imp fun x H1 q => ?_
  obtain ⟨F, m, μ, d, res, S, r, e, q⟩ := q
  cases d <;> try (cases e; done)
  cases r.int
  cases e
  exact ⟨_, rfl, q F H1 _ (Same.refl F) S (.int _)⟩
theorem okN_slLH {p2 : Pos} (he : PE X e (tE X.K W .v A)) (hl : PE X a (tE X.K W .v B)) (hh : PE X b (tE X.K W .v C)) : PE X (.Subscript e (.Slice (some a) (some b) none p2) pos) (tE X.K W .n (.prim .slLH [A, .prim .asI [B], C])) := by
  refine PE.imp (pe_slice sl_any he (po_some hl) (po_some hh)) fun σ H Q h => (tEs_three (tE_prim prim_slLH h)).imp fun x H1 q => (tE_asI q).imp fun y H2 q => ?_
  obtain ⟨i, rfl, q⟩ := q
  refine ⟨i, rfl, q.imp fun z H3 q => ?_⟩
  obtain ⟨x', y', z', e, l, u, rfl, rfl, h⟩ := q
  cases e
  exact ⟨u, rfl, h⟩

/-! ### list(range(..)) -/
theorem rgV_reps {K : Frag} {F : Hp} : ∀ (n : Nat) (lo : Int), Reps K F ((List.range n).map fun i => V.int (lo + (i : Nat))) (rngL lo n)
  | 0, lo => .nil
  | n + 1, lo => by
    rw [List.range_succ_eq_map, List.map_cons, List.map_map]
    unfold rngL
    refine .cons ?_ ?_
    · have : lo + ((0 : Nat) : Int) = lo := by omega
      rw [this]
      exact .int lo
    · have := rgV_reps (K := K) (F := F) n (lo + 1)
      have e : ((fun i : Nat => V.int (lo + (i : Nat))) ∘ Nat.succ) = fun i : Nat => V.int (lo + 1 + (i : Nat)) := by
        funext i
        show V.int (lo + ((i + 1 : Nat) : Int)) = _
        congr 1
        omega
      rw [e]
      exact this
theorem lr_e {o : Option (List D)} {res : D} (e : (o.bind fun xs => if xs.length ≤ SL then some (D.lst xs) else none) = some res) : ∃ l, o = some l ∧ l.length ≤ SL ∧ res = .lst l := by
  cases o with
  | none => cases e
  | some l =>
    have e : (if l.length ≤ SL then some (D.lst l) else none) = some res := e
    split at e
    · rename_i hl
      exact ⟨l, rfl, hl, (Option.some.inj e).symm⟩
    · cases e
/-- as tE_prim1, the result of the mode md -/
theorem tE_prim1M {K : Frag} {md : Md} {p : P} {σ : L2.St} {H : Hp} {Q : VK} (h : tE K W md (.prim p [A]) σ H Q) :
    tE K W .v A σ H fun x H1 => ∃ F m μ d res, Sim K F m μ H1 ∧ Rn K F H1 x d ∧ p.f1 d = some res ∧ ∀ F' H' v, Same F F' → Sim K F' m μ H' → RepR K md F' m μ H' v (.v res) → Q v H' := by
  have hp : PrimN K md (fun vs H Q => vs.length = 1 → ∃ x, vs = [x] ∧ ∃ F m μ d res, Sim K F m μ H ∧ Rn K F H x d ∧ p.f1 d = some res ∧ ∀ F' H' v, Same F F' → Sim K F' m μ H' → RepR K md F' m μ H' v (.v res) → Q v H') p.f := by
    intro F m μ H vs ds res Q S r e q hl
    match vs, ds, r, hl with
    | _, _, .cons r1 .nil, _ => exact ⟨_, rfl, F, m, μ, _, res, S, r1, e, q⟩
  refine (tEs_one (tE_prim hp h)).imp fun x H1 q => ?_
  obtain ⟨y, e, q⟩ := q rfl
  cases e
  exact q
theorem okN_lrange1 {p p2 pos2 : Pos} (hc : X.calm = true) (hg : Gl X "list") (hm : X.mg "list" = none) (hg2 : Gl X "range") (hm2 : X.mg "range" = none) (ha : PE X a (tE X.K W .v A))
    (na : starEach [a] X.env = (false, eval a X.env) :: starEach [] X.env) (nb : starEach [.Call (.Name "range" p2) [a] [] pos2] X.env = (false, eval (.Call (.Name "range" p2) [a] [] pos2) X.env) :: starEach [] X.env) :
    PE X (.Call (.Name "list" p) [.Call (.Name "range" p2) [a] [] pos2] [] pos) (tE X.K W .n (.prim .lrange [A])) := by
  refine PE.imp (pe_listRg hc hg hm (prg_1 hg2 hm2 ha na) nb) fun σ H Q h => (tE_prim1M h).imp fun x H1 q => ?_
  obtain ⟨F, m, μ, d, res, S, r, e, q⟩ := q
  obtain ⟨l, h1, h2, rfl⟩ := lr_e e
  obtain ⟨n, h3, h4, h5, rfl⟩ := rngOf1 h1 rfl
  cases h3
  cases r.int
  rw [rngL_length] at h2
  have hsl : SL = 2 ^ 24 := rfl
  refine ⟨n, rfl, ⟨by omega, by omega, h4, h5, by rw [Int.sub_zero]; omega⟩, fun t ht => ?_⟩
  refine q F _ _ (Same.refl F) (S.laid ht) ⟨t, _, rfl, upd_same, ?_, S.sub.free ht, fun i c e1 e2 => S.notCell ht i c e1 e2⟩
  unfold rgV
  rw [Int.sub_zero]
  exact rgV_reps n.toNat 0
theorem okN_lrange2 {p p2 pos2 : Pos} (hc : X.calm = true) (hg : Gl X "list") (hm : X.mg "list" = none) (hg2 : Gl X "range") (hm2 : X.mg "range" = none) (ha : PE X a (tE X.K W .v A)) (hb : PE X b (tE X.K W .v B))
    (na : starEach [a, b] X.env = (false, eval a X.env) :: starEach [b] X.env) (nb : starEach [b] X.env = (false, eval b X.env) :: starEach [] X.env) (hp : (backTo pos2 (starEach [b] X.env)).any (·.1) = false)
    (nc : starEach [.Call (.Name "range" p2) [a, b] [] pos2] X.env = (false, eval (.Call (.Name "range" p2) [a, b] [] pos2) X.env) :: starEach [] X.env) :
    PE X (.Call (.Name "list" p) [.Call (.Name "range" p2) [a, b] [] pos2] [] pos) (tE X.K W .n (.prim .lrange [A, B])) := by
  refine PE.imp (pe_listRg hc hg hm (prg_2 hg2 hm2 ha hb na nb hp) nc) fun σ H Q h => ?_
  have hp : PrimN X.K .n (rr2 fun x y H Q => ∃ i j, x = .int i ∧ y = .int j ∧ RgOk i j ∧ ∀ q, H q = none → Q (.ref q) (upd H q (.lst (rgV i j)))) (fun ds => match ds with | [a, b] => P.lrange.f2 a b | _ => none) := by
    intro F m μ H vs ds res Q S r e q
    match vs, ds, r with
    | _, _, .nil => cases e
    | _, _, .cons r1 .nil => cases e
    | _, _, .cons (b := d1) r1 (.cons (b := d2) r2 .nil) =>
      obtain ⟨l, h1, h2, rfl⟩ := lr_e (o := rngOf [d1, d2]) e
      obtain ⟨n, k, h3, ⟨h4, h5, h6, h7⟩, rfl⟩ := rngOf2 h1 rfl
      cases h3
      cases r1.int
      cases r2.int
      rw [rngL_length] at h2
      have hsl : SL = 2 ^ 24 := rfl
      refine ⟨_, _, rfl, n, k, rfl, rfl, ⟨h4, h5, h6, h7, by omega⟩, fun t ht => ?_⟩
      exact q F _ _ (Same.refl F) (S.laid ht) ⟨t, _, rfl, upd_same, rgV_reps (k - n).toNat n, S.sub.free ht, fun i c e1 e2 => S.notCell ht i c e1 e2⟩
    | _, _, .cons r1 (.cons r2 (.cons r3 rr)) => cases e
  have h' : tEs X.K W [A, B] σ H fun vs H1 => (rr2 fun x y H Q => ∃ i j, x = .int i ∧ y = .int j ∧ RgOk i j ∧ ∀ q, H q = none → Q (.ref q) (upd H q (.lst (rgV i j)))) vs H1 Q := by
    have h0 : tEs X.K W [A, B] σ H fun vs H1 => vs.length = 2 ∧ ∃ F m μ ds res, Sim X.K F m μ H1 ∧ Paired (Rn X.K F H1) vs ds ∧ P.lrange.f ds = some res ∧ ∀ F' H' v, Same F F' → Sim X.K F' m μ H' → RepR X.K .n F' m μ H' v (.v res) → Q v H' := by
      have hp0 : PrimN X.K .n (fun vs H Q => ∃ F m μ ds res, Sim X.K F m μ H ∧ Paired (Rn X.K F H) vs ds ∧ P.lrange.f ds = some res ∧ ∀ F' H' v, Same F F' → Sim X.K F' m μ H' → RepR X.K .n F' m μ H' v (.v res) → Q v H') P.lrange.f :=
        fun F m μ H vs ds res Q S r e q => ⟨F, m, μ, ds, res, S, r, e, q⟩
      obtain ⟨F, m, μ, ρ, S, R, hh⟩ := tE_prim hp0 h
      refine ⟨F, m, μ, ρ, S, R, hh.withEq.imp (fun F' H' μ' as s S' q vs rs => ?_) fun _ _ _ _ _ x => x⟩
      obtain ⟨q, eq⟩ := q
      exact ⟨by rw [Paired.length rs, evs_length _ _ _ _ _ eq]; rfl, q vs rs⟩
    refine h0.imp fun vs H1 q => ?_
    obtain ⟨hl, F, m, μ, ds, res, S, r, e, q⟩ := q
    have hd : ds.length = 2 := by rw [← Paired.length r]; exact hl
    match ds, hd, e with
    | [d1, d2], _, e => exact hp F m μ H1 vs [d1, d2] res Q S r e q
  refine (tEs_two h').imp fun x H1 q => q.imp fun y H2 q => ?_
  obtain ⟨x', y', e, i, j, rfl, rfl, h1, h2⟩ := q
  cases e
  exact ⟨i, j, rfl, rfl, h1, h2⟩

/-! ### is None -/
theorem okE_isN {j : Nat} {p2 : Pos} (ha : PE X a (tE X.K W .v A)) (hm : behindInMarks .Is (.Constant .none j p2) = false) : PE X (.Compare a [.Is] [.Constant .none j p2] pos) (tE X.K W .v (.prim .isN [A])) :=
  PE.imp (pe_cmp (pc_isN ha) hm) fun _ _ _ h => tE_one (tE_prim prim_isN h)
theorem okE_notN {j : Nat} {p2 : Pos} (ha : PE X a (tE X.K W .v A)) (hm : behindInMarks .IsNot (.Constant .none j p2) = false) : PE X (.Compare a [.IsNot] [.Constant .none j p2] pos) (tE X.K W .v (.prim .notN [A])) :=
  PE.imp (pe_cmp (pc_notN ha) hm) fun _ _ _ h => tE_one (tE_prim prim_notN h)
end
end Wp

set_option Elab.async false
set_option linter.all false
set_option maxRecDepth 100000
set_option autoImplicit true
/-! W2e: tests of comparisons, chains, globals, keyword calls, methods. -/
namespace Wp
open PySem PySem.Spec PyProof.Rows L2

section
variable {X : Cx} {W : WX} {e a b c : Expr} {es : List Expr} {A B C : E} {As : List E} {pos : Pos}

/-- an expression whose value is a bool -/
def BlE (A : E) : Prop := ∀ ρ μ x μ', ev A ρ μ = .ok x μ' → ∃ b, x = .v (.bl b)
theorem blE_prim {p : P} (hb : ∀ ds d, p.f ds = some d → ∃ b, d = .bl b) : BlE (.prim p As) := by
  intro ρ μ x μ' q
  unfold ev at q
  cases q1 : evs As ρ μ with
  | no => rw [q1] at q; cases q
  | exc c d μ' => rw [q1] at q; cases q
  | ok as μ1 =>
    rw [q1] at q
    have q : ((optR ((drs μ1 as).bind p.f) μ1).bind fun d μ2 => Res.ok (Wp.A.v d) μ2) = .ok x μ' := q
    cases q2 : (drs μ1 as).bind p.f with
    | none => rw [q2] at q; cases q
    | some d =>
      rw [q2] at q
      have q : Res.ok (Wp.A.v d) μ1 = .ok x μ' := q
      cases q
      cases q3 : drs μ' as with
      | none => rw [q3] at q2; cases q2
      | some ds =>
        rw [q3] at q2
        obtain ⟨b, rfl⟩ := hb ds d q2
        exact ⟨b, rfl⟩
theorem tT_bl {K : Frag} {σ : L2.St} {H : Hp} {Q : Bool → Hp → Prop} (hb : BlE A) (h : tT K W A σ H Q) : tE K W .v A σ H fun x H1 => ∃ k, x = V.bl k ∧ Q k H1 := by
  obtain ⟨F, m, μ, ρ, S, R, h⟩ := h
  refine ⟨F, m, μ, ρ, S, R, ?_⟩
  unfold evT at h
  have h2 := h.bind
  cases q : ev A ρ μ with
  | no => rw [q] at h2; exact h2
  | exc c d μ' => rw [q] at h2; exact h2
  | ok x μ' =>
    rw [q] at h2
    obtain ⟨b, rfl⟩ := hb ρ μ x μ' q
    intro F' H' s S' v r
    have h3 := h2 F' H' s S'
    cases (show Rep K F' v (.bl b) from r)
    exact ⟨b, rfl, h3.ok S'⟩
/-- a form with its own test of a bool -/
theorem Ok.bl {t : TE} (hv : PE X e (tE X.K W .v A)) (ht : PT X e (tB t)) (hb : BlE A) (i : ∀ σ H Q, tE X.K W .v A σ H Q → t σ H Q) : Ok X W e A :=
  ⟨hv, PT.imp ht fun _ _ _ q => i _ _ _ (tT_bl hb q)⟩
theorem bl_f1 {p : P} (h1 : ∀ a d, p.f1 a = some d → ∃ b, d = .bl b) (h2 : ∀ a b d, p.f2 a b = some d → ∃ b, d = .bl b) (h3 : ∀ a b c d, p.f3 a b c = some d → ∃ b, d = .bl b) : ∀ ds d, p.f ds = some d → ∃ b, d = .bl b
  | [], d, e => by cases e
  | [a], d, e => h1 a d e
  | [a, b], d, e => h2 a b d e
  | [a, b, c], d, e => h3 a b c d e
  | _ :: _ :: _ :: _ :: _, d, e => by cases e
theorem isN_bl : ∀ ds d, P.isN.f ds = some d → ∃ b, d = .bl b := bl_f1 (fun a d e => by rcases isN_e e with ⟨_, rfl⟩ | ⟨_, rfl⟩ <;> exact ⟨_, rfl⟩) (fun a b d e => by cases e) fun a b c d e => by cases e
theorem notN_bl : ∀ ds d, P.notN.f ds = some d → ∃ b, d = .bl b := bl_f1 (fun a d e => by rcases notN_e e with ⟨_, rfl⟩ | ⟨_, rfl⟩ <;> exact ⟨_, rfl⟩) (fun a b d e => by cases e) fun a b c d e => by cases e
theorem eq_bl : ∀ ds d, P.eq.f ds = some d → ∃ b, d = .bl b := bl_f1 (fun a d e => by cases e) (fun a b d e => by rcases eq_e e with ⟨_, _, _, _, rfl⟩ | ⟨_, _, rfl⟩ <;> exact ⟨_, rfl⟩) fun a b c d e => by cases e
theorem ne_bl : ∀ ds d, P.ne.f ds = some d → ∃ b, d = .bl b := bl_f1 (fun a d e => by cases e) (fun a b d e => by rcases ne_e e with ⟨_, _, _, _, rfl⟩ | ⟨_, _, rfl⟩ <;> exact ⟨_, rfl⟩) fun a b c d e => by cases e
theorem in_bl : ∀ ds d, P.inn.f ds = some d → ∃ b, d = .bl b := bl_f1 (fun a d e => by cases e) (fun a b d e => by obtain ⟨k, _, rfl⟩ := in_e e; exact ⟨_, rfl⟩) fun a b c d e => by cases e
theorem notin_bl : ∀ ds d, P.notin.f ds = some d → ∃ b, d = .bl b := bl_f1 (fun a d e => by cases e) (fun a b d e => by obtain ⟨k, _, rfl⟩ := notin_e e; exact ⟨_, rfl⟩) fun a b c d e => by cases e
theorem cmp_bl {p : P} (h : p = .lt ∨ p = .le ∨ p = .gt ∨ p = .ge) : ∀ ds d, p.f ds = some d → ∃ b, d = .bl b := by
  rcases h with rfl | rfl | rfl | rfl <;> refine bl_f1 (fun a d e => by cases e) (fun a b d e => ?_) (fun a b c d e => by cases e) <;> (cases a <;> cases b <;> first | (cases e; done) | (cases e; exact ⟨_, rfl⟩))
theorem isB_bl : ∀ ds d, P.isB.f ds = some d → ∃ b, d = .bl b := bl_f1 (fun a d e => by cases e) (fun a b d e => by cases a <;> cases b <;> first | (cases e; done) | (cases e; exact ⟨_, rfl⟩)) fun a b c d e => by cases e
theorem notB_bl : ∀ ds d, P.notB.f ds = some d → ∃ b, d = .bl b := bl_f1 (fun a d e => by cases e) (fun a b d e => by cases a <;> cases b <;> first | (cases e; done) | (cases e; exact ⟨_, rfl⟩)) fun a b c d e => by cases e
theorem ok_isN {j : Nat} {p2 : Pos} (ha : PE X a (tE X.K W .v A)) (hm : behindInMarks .Is (.Constant .none j p2) = false) : Ok X W (.Compare a [.Is] [.Constant .none j p2] pos) (.prim .isN [A]) :=
  Ok.bl (okE_isN ha hm) (pt_cmp (pc_isN ha) hm) (blE_prim isN_bl) fun _ _ _ h => tE_one (tE_prim prim_isN h)
theorem ok_notN {j : Nat} {p2 : Pos} (ha : PE X a (tE X.K W .v A)) (hm : behindInMarks .IsNot (.Constant .none j p2) = false) : Ok X W (.Compare a [.IsNot] [.Constant .none j p2] pos) (.prim .notN [A]) :=
  Ok.bl (okE_notN ha hm) (pt_cmp (pc_notN ha) hm) (blE_prim notN_bl) fun _ _ _ h => tE_one (tE_prim prim_notN h)

/-! ### a < b < c -/
theorem drs_two {μ : Mu} {x y : Wp.A} {ds : List D} (h : drs μ [x, y] = some ds) : ∃ d e, dr μ x = some d ∧ dr μ y = some e ∧ ds = [d, e] := by
  rw [drs.eq_2] at h
  cases h1 : dr μ x with
  | none => rw [h1] at h; cases h
  | some d =>
    rw [h1, drs.eq_2] at h
    cases h2 : dr μ y with
    | none => rw [h2] at h; cases h
    | some e =>
      rw [h2, drs.eq_1] at h
      cases h
      exact ⟨d, e, rfl, rfl, rfl⟩
/-- reading then operating keeps what is read of data -/
theorem rnA {K : Frag} {F H : Hp} {m : List Addr} {μ : Mu} (S : Sim K F m μ H) {v : V} {x : Wp.A} {d : D} (r : RepA K F m v x) (e : dr μ x = some d) : Rn K F H v d := S.dr r e
theorem tE_chain {K : Frag} {p q : P} {r r' : R2} (hp : PrimN K .v (rr2 r) p.f) (hq : PrimN K .v (rr2 r') q.f) (hpb : ∀ ds d, p.f ds = some d → ∃ b, d = .bl b) {σ : L2.St} {H : Hp} {Q : VK} (h : tE K W .v (.chain p q A B C) σ H Q) :
    tChain r r' (tE K W .v A) (tE K W .v B) (tE K W .v C) σ H Q := by
  obtain ⟨F, m, μ, ρ, S, R, h⟩ := h
  unfold ev at h
  refine ⟨F, m, μ, ρ, S, R, (h.bind).imp (fun F1 H1 μ1 x s1 S1 h v1 r1 => ?_) fun _ _ _ _ _ x => x⟩
  have R1 := R.mono s1
  refine ⟨F1, m, μ1, ρ, S1, R1, (h.bind).imp (fun F2 H2 μ2 y s2 S2 h v2 r2 => ?_) fun _ _ _ _ _ x => x⟩
  have R2 := R1.mono s2
  cases e1 : drs μ2 [x, y] with
  | none => rw [e1] at h; exact (show False from h).elim
  | some ds =>
    rw [e1] at h
    have hx : Post K F2 m _ _ ((optR (p.f ds) μ2).bind _) := h
    clear h
    cases e2 : p.f ds with
    | none => rw [e2] at hx; exact (show False from hx).elim
    | some res =>
      rw [e2] at hx
      obtain ⟨k, rfl⟩ := hpb ds res e2
      obtain ⟨d, e, e3, e4, rfl⟩ := drs_two e1
      have hr := hp F2 m μ2 H2 [v1, v2] [d, e] (.bl k) (fun z H3 => ∃ k, z = .bl k ∧ (if k = true then tE K W .v C σ H3 fun w' H4 => r' v2 w' H4 Q else Q (.bl false) H3)) S2 (.cons (S2.dr (r1.mono s2) e3) (.cons (S2.dr r2 e4) .nil)) e2 fun F3 H3 z s3 S3 rz => by
        cases (show Rep K F3 z (.bl k) from rz)
        refine ⟨k, rfl, ?_⟩
        have h3 := Post.weakF s3 hx
        cases k with
        | false => rw [if_neg Bool.false_ne_true]; exact Post.ok h3 S3 _ (.bl false)
        | true =>
          rw [if_pos rfl]
          refine ⟨F3, m, μ2, ρ, S3, R2.mono s3, ((show Post K F3 m _ _ ((ev C ρ μ2).bind _) from h3).bind).imp (fun F4 H4 μ4 z s4 S4 h v4 r4 => ?_) fun _ _ _ _ _ x => x⟩
          cases e5 : drs μ4 [y, z] with
          | none => rw [e5] at h; exact (show False from h).elim
          | some ds2 =>
            rw [e5] at h
            have hy : Post K F4 m _ _ ((optR (q.f ds2) μ4).bind _) := h
            clear h
            cases e6 : q.f ds2 with
            | none => rw [e6] at hy; exact (show False from hy).elim
            | some res2 =>
              rw [e6] at hy
              obtain ⟨d', e', e7, e8, rfl⟩ := drs_two e5
              obtain ⟨x', y', ee, hh⟩ := hq F4 m μ4 H4 [v2, v4] [d', e'] res2 Q S4 (.cons (S4.dr ((r2.mono s3).mono s4) e7) (.cons (S4.dr r4 e8) .nil)) e6 fun F5 H5 w s5 S5 rw' => hy F5 H5 s5 S5 w rw'
              cases ee
              exact hh
      obtain ⟨x', y', ee, hh⟩ := hr
      cases ee
      exact hh
theorem chain_bl {p q : P} (hq : ∀ ds d, q.f ds = some d → ∃ b, d = .bl b) : BlE (.chain p q A B C) := by
  intro ρ μ x μ' h
  unfold ev at h
  cases q1 : ev A ρ μ with
  | no => rw [q1] at h; cases h
  | exc c d μ' => rw [q1] at h; cases h
  | ok a μ1 =>
    rw [q1] at h
    have h : (ev B ρ μ1).bind _ = _ := h
    cases q2 : ev B ρ μ1 with
    | no => rw [q2] at h; cases h
    | exc c d μ' => rw [q2] at h; cases h
    | ok b μ2 =>
      rw [q2] at h
      have h : (optR ((drs μ2 [a, b]).bind p.f) μ2).bind _ = _ := h
      cases q3 : (drs μ2 [a, b]).bind p.f with
      | none => rw [q3] at h; cases h
      | some r =>
        rw [q3] at h
        cases r with
        | bl k =>
          cases k with
          | false => cases h; exact ⟨false, rfl⟩
          | true =>
            have h : (ev C ρ μ2).bind _ = _ := h
            cases q4 : ev C ρ μ2 with
            | no => rw [q4] at h; cases h
            | exc c d μ' => rw [q4] at h; cases h
            | ok c μ4 =>
              rw [q4] at h
              have h : (optR ((drs μ4 [b, c]).bind q.f) μ4).bind _ = _ := h
              cases q5 : drs μ4 [b, c] with
              | none => rw [q5] at h; cases h
              | some ds =>
                rw [q5] at h
                have h : (optR (q.f ds) μ4).bind _ = _ := h
                cases q6 : q.f ds with
                | none => rw [q6] at h; cases h
                | some r =>
                  rw [q6] at h
                  cases h
                  obtain ⟨b, rfl⟩ := hq ds r q6
                  exact ⟨b, rfl⟩
        | _ => cases h
theorem ok_chain {op op' : CmpOp} {p q : P} {r r' : R2} (ho : OpR X (compareOp op) r) (ho' : OpR X (compareOp op') r') (hp : PrimN X.K .v (rr2 r) p.f) (hq : PrimN X.K .v (rr2 r') q.f) (hpb : ∀ ds d, p.f ds = some d → ∃ b, d = .bl b) (hqb : ∀ ds d, q.f ds = some d → ∃ b, d = .bl b)
    (ha : PE X a (tE X.K W .v A)) (hb : PE X b (tE X.K W .v B)) (hc : PE X c (tE X.K W .v C)) (hm : lastMarks [op, op'] [b, c] = false) : Ok X W (.Compare a [op, op'] [b, c] pos) (.chain p q A B C) :=
  Ok.bl (PE.imp (pe_chain ho ho' ha hb hc hm) fun _ _ _ h => tE_chain hp hq hpb h) (pt_chain ho ho' ha hb hc hm) (chain_bl hqb) fun _ _ _ h => tE_chain hp hq hpb h
/-- a global's value -/
theorem okE_g {n : String} {d : D} {v : V} (h : PE X e (tC v)) (r : ∀ F, Rep X.K F v d) : PE X e (tE X.K W .v (.g n d)) := by
  refine PE.imp h fun σ H Q h => ?_
  obtain ⟨F, m, μ, ρ, S, R, h⟩ := h
  rw [ev] at h
  exact h F H (Same.refl F) S v (r F)
end
end Wp

set_option Elab.async false
set_option linter.all false
set_option maxRecDepth 100000
set_option autoImplicit true
/-! W2f: keyword calls; methods of texts and lists; lists changed. -/
namespace Wp
open PySem PySem.Spec PyProof.Rows L2

theorem vals_get {vs : List V} {us : List Value} (h : Vals vs us) (i : Nat) : (∃ v u, vs[i]? = some v ∧ us[i]? = some u ∧ RelV v u) ∨ (vs[i]? = none ∧ us[i]? = none) := by
  cases e : vs[i]? with
  | some v =>
    obtain ⟨u, e2, r⟩ := h.get e
    exact .inl ⟨v, u, rfl, e2, r⟩
  | none =>
    refine .inr ⟨rfl, ?_⟩
    rw [List.getElem?_eq_none_iff] at e ⊢
    rw [← h.length]; exact e
theorem vals_pg (perm : List Nat) {vs zs : List V} {us ws : List Value} (h1 : Vals vs us) (h2 : Vals zs ws) : Vals (pg perm vs zs) (pg perm us ws) := by
  have h := h1.append h2
  unfold pg
  induction perm with
  | nil => exact .nil
  | cons i is ih =>
    rw [List.filterMap_cons, List.filterMap_cons]
    rcases vals_get h i with ⟨v, u, e1, e2, r⟩ | ⟨e1, e2⟩
    · rw [e1, e2]; exact .cons r ih
    · rw [e1, e2]; exact ih
/-- a call's keywords bind -/
theorem kbn_of {K : Frag} {fd : FuncData} {ps : List Str} {n : Nat} {ks : List Str} {perm : List Nat} (h : ∀ us ws : List Value, us.length = n → ws.length = ks.length → bindArgs fd ⟨us, ks.zip ws⟩ = pure (ps.zip (pg perm us ws))) : KBn K fd ps n ks (pg perm) (pg perm) :=
  ⟨fun s us ws _ h1 h2 => .of_eq (h us ws h1 h2), fun h1 h2 => vals_pg perm h1 h2⟩
theorem repAs_pg {K : Frag} {F : Hp} {m : List Addr} {vs zs : List V} {as bs as' : LA} {perm : List Nat} (h1 : RepAs K F m vs as) (h2 : RepAs K F m zs bs) (e : permute perm (as ++ bs) = some as') : RepAs K F m (pg perm vs zs) as' ∧ (pg perm vs zs).length = perm.length := by
  have app : ∀ {vs as zs bs}, RepAs K F m vs as → RepAs K F m zs bs → RepAs K F m (vs ++ zs) (as ++ bs) := by
    intro vs as zs bs h1 h2
    induction h1 with
    | nil => exact h2
    | cons r t ih => exact .cons r ih
  have h := app h1 h2
  have get : ∀ {vs : List V} {as : LA} {i : Nat} {a}, RepAs K F m vs as → as[i]? = some a → ∃ v, vs[i]? = some v ∧ RepA K F m v a := by
    intro vs as i a h
    induction h generalizing i with
    | nil => intro e; simp at e
    | cons r t ih =>
      intro e
      cases i with
      | zero => simp at e; subst e; exact ⟨_, rfl, r⟩
      | succ i => simpa using ih (by simpa using e)
  unfold permute at e
  unfold pg
  induction perm generalizing as' with
  | nil =>
    cases e
    exact ⟨.nil, rfl⟩
  | cons i is ih =>
    rw [List.mapM_cons] at e
    cases e1 : (as ++ bs)[i]? with
    | none => rw [e1] at e; cases e
    | some a =>
      rw [e1] at e
      cases e2 : is.mapM (fun i => (as ++ bs)[i]?) with
      | none =>
        rw [e2] at e; cases e
      | some l =>
        rw [e2] at e
        cases e
        obtain ⟨v, e3, r⟩ := get h e1
        obtain ⟨t, hl⟩ := ih e2
        rw [List.filterMap_cons, e3]
        exact ⟨.cons r t, congrArg Nat.succ hl⟩

section
variable {X : Cx} {W : WX} {e a b c : Expr} {es : List Expr} {A B C : E} {As Bs : List E} {pos : Pos}
theorem PK.imp {kws : List Keyword} {t t' : TA} (h : PK X kws t) (i : ∀ σ H Q, t' σ H Q → t σ H Q) : PK X kws t' := ⟨fun pos pins s σ H Q I q => h.run pos pins s σ H Q I (i σ H Q q)⟩
theorem okK_nil : PK X [] (tEs X.K W []) := by
  refine PK.imp pk_nil fun σ H Q h => ?_
  obtain ⟨F, m, μ, ρ, S, R, h⟩ := h
  exact h F H (Same.refl F) S [] .nil
theorem okK_cons {kws : List Keyword} {nm : Option Str} {kpos : Pos} (ha : PE X e (tE X.K W .v A)) (hr : PK X kws (tEs X.K W As)) : PK X (⟨nm, e, kpos⟩ :: kws) (tEs X.K W (A :: As)) :=
  PK.imp (pk_cons ha hr) fun _ _ _ h => tEs_cons h
theorem run_fnkS {pins : List (Addr × Obj)} {σ : L2.St} {H : Hp} {s : Shared} {Q : VK} {us ws : List Value} {vs zs : List V} {CX : CXT} {k : Nat} {f : Addr} {fd : FuncData} {ps ks : List Str} {n : Nat} {g : List Value → List Value → List Value} {gV : List V → List V → List V} {sp : Sp} {E : L2.St → XK}
    (F : FnOk X.prog X.w X.K X.mg X.base CX k f fd ps sp) (hr : Room k X.A) (hb : KBn X.K fd ps n ks g gV) (hx : PassesAt CX X σ (E σ))
    (I : Inv X pins σ H s) (r : Vals vs us) (rz : Vals zs ws) (h1 : vs.length = n) (h2 : zs.length = ks.length) (h : sp (gV vs zs) H Q (E σ)) : wpAny (model X.prog X.w) X.A (call (.ref f) us (ks.zip ws)) (EP X pins σ Q) X.xe s := by
  have r2 := hb.rel r rz
  refine wpAny_call (codeAny_mono (F.run X.A X.stack s H ⟨us, ks.zip ws⟩ (g us ws) (gV vs zs) Q (E σ) hr I.env0 (hb.to s us ws I.kIn (by rw [← r.length]; exact h1) (by rw [← rz.length]; exact h2)) r2 h) fun r s' hq => ?_)
  cases r with
  | error e => exact hx pins H s e s' I hq
  | ok fl =>
    cases fl with
    | ret u => exact I.after hq
    | next => exact False.elim hq
    | brk => exact False.elim hq
    | cont => exact False.elim hq
theorem tE_callK {K : Frag} {f : String} {F : Fn} {ks : List String} {perm : List Nat} {new : Md} {σ : L2.St} {H : Hp} {Q : VK} {n : Nat} (hn : perm.length = n) (h : tE K W new (.callK f F As ks perm Bs) σ H Q) :
    tEs K W As σ H fun vs H1 => vs.length = As.length ∧ tEs K W Bs σ H1 fun zs H2 => zs.length = Bs.length ∧ spOf K n new F (pg perm vs zs) H2 Q (WE W σ) := by
  obtain ⟨Fz, m, μ, ρ, S, R, h⟩ := h
  unfold ev at h
  refine ⟨Fz, m, μ, ρ, S, R, (h.bind).withEq.imp (fun F1 H1 μ1 as s1 S1 q vs rs => ?_) fun _ _ _ _ _ x => x⟩
  obtain ⟨q, eq⟩ := q
  refine ⟨by rw [Paired.length rs]; exact evs_length _ _ _ _ _ eq, F1, m, μ1, ρ, S1, R.mono s1, (q.bind).withEq.imp (fun F2 H2 μ2 bs s2 S2 q zs rz => ?_) fun _ _ _ _ _ x => x⟩
  obtain ⟨q, eq2⟩ := q
  refine ⟨by rw [Paired.length rz]; exact evs_length _ _ _ _ _ eq2, ?_⟩
  cases e1 : permute perm (as ++ bs) with
  | none => rw [e1] at q; exact (show False from q).elim
  | some as' =>
    rw [e1] at q
    have q : Post K F2 m _ _ ((F as' μ2).bind _) := q
    obtain ⟨r, hl⟩ := repAs_pg (RepAs.mono s2 rs) rz e1
    refine ⟨hl.trans hn, F2, m, μ2, as', S2, r, (q.bind).imp (fun F3 H3 μ3 d s3 S3 q3 v r3 => ?_) fun _ _ _ _ _ x => x⟩
    exact Post.ok q3 S3 v r3
theorem okE_callK {x : Str} {f : String} {F : Fn} {n k : Nat} {new : Md} {ps : Pos} {kw : List (Nat × List Str × List Nat)} {ks : List Str} {ks' : List String} {perm : List Nat} {kws : List Keyword} (hF : FnAt X.prog X.w X.K X.mg X.base k x n new F kw) (hr : Room k X.A) (hg : Gl X x) (tk : Takes X W)
    (hc : (As.length, ks, perm) ∈ kw) (hn : perm.length = n) (hkl : Bs.length = ks.length) (ha : PA X (e :: es) (tEs X.K W As)) (hkw : PK X kws (tEs X.K W Bs))
    (hall : (backToKw pos (keywordEach kws X.env)).all (·.1.isSome) = true) (hks : (backToKw pos (keywordEach kws X.env)).filterMap (·.1) = ks) (hdb : (x == ("__debug__" : Str)) = false)
    (he : starEach (e :: es) X.env = (false, eval e X.env) :: starEach es X.env) (hpl : ((backTo pos (starEach (e :: es) X.env)).any (·.1) || (backToKw pos (keywordEach kws X.env)).any (·.1.isNone)) = false) :
    PE X (.Call (.Name x ps) (e :: es) kws pos) (tE X.K W new (.callK f F As ks' perm Bs)) := by
  obtain ⟨fa, fd, pn, hm, hk, hb, hkb, G⟩ := hF.at_
  refine ⟨fun pins s σ H Q I h => ?_⟩
  have h := tE_callK hn h
  refine wpAny_Call_Name_kw (ld_glob I hg hm ?_ hdb)
  refine PySem.W.callWith_KW (h₀ := X.base) I.ok.mod.kin hk hall (thn (ha.run pos pins s σ H _ I h) fun us s1 ⟨vs, H1, I1, r, hl, q⟩ => ?_) hpl he
  refine thn (hkw.run pos pins s1 σ H1 _ I1 q) fun ws s2 ⟨zs, H2, I2, rz, hl2, q2⟩ => ⟨I2.kIn, ?_⟩
  rw [hks]
  exact run_fnkS G hr (hkb _ hc) (passAt tk σ) I2 r rz hl (hl2.trans hkl) q2
theorem okE_callK0 {x : Str} {f : String} {F : Fn} {n k : Nat} {new : Md} {ps : Pos} {kw : List (Nat × List Str × List Nat)} {ks : List Str} {ks' : List String} {perm : List Nat} {kws : List Keyword} (hF : FnAt X.prog X.w X.K X.mg X.base k x n new F kw) (hr : Room k X.A) (hg : Gl X x) (tk : Takes X W)
    (hc : (0, ks, perm) ∈ kw) (hn : perm.length = n) (hkl : Bs.length = ks.length) (hkw : PK X kws (tEs X.K W Bs))
    (hall : (backToKw pos (keywordEach kws X.env)).all (·.1.isSome) = true) (hks : (backToKw pos (keywordEach kws X.env)).filterMap (·.1) = ks) (hdb : (x == ("__debug__" : Str)) = false)
    (hpl : ((backTo pos (starEach [] X.env)).any (·.1) || (backToKw pos (keywordEach kws X.env)).any (·.1.isNone)) = false) :
    PE X (.Call (.Name x ps) [] kws pos) (tE X.K W new (.callK f F [] ks' perm Bs)) := by
  obtain ⟨fa, fd, pn, hm, hk, hb, hkb, G⟩ := hF.at_
  refine ⟨fun pins s σ H Q I h => ?_⟩
  have h := tE_callK hn h
  obtain ⟨F0, m, μ, ρ, S, R, h⟩ := h
  obtain ⟨hl, h⟩ := Post.ok h S [] .nil
  refine wpAny_Call_Name_kw (ld_glob I hg hm ?_ hdb)
  refine PySem.W.callWith_KW0 (h₀ := X.base) I.ok.mod.kin hk hall ?_ hpl
  refine thn (hkw.run pos pins s σ H _ I h) fun ws s2 ⟨zs, H2, I2, rz, hl2, q2⟩ => ⟨I2.kIn, ?_⟩
  rw [hks]
  exact run_fnkS (us := []) (vs := []) G hr (hkb _ hc) (passAt tk σ) I2 .nil rz hl (hl2.trans hkl) q2
end
end Wp

set_option Elab.async false
set_option linter.all false
set_option maxRecDepth 100000
set_option autoImplicit true
/-! W2g: methods of lists; lists changed. -/
namespace Wp
open PySem PySem.Spec PyProof.Rows L2

section
variable {X : Cx} {W : WX} {e a b c : Expr} {es : List Expr} {A B C : E} {As Bs : List E} {pos : Pos}

/-! ### methods of values -/
theorem tE_meth {K : Frag} {md : Md} {p : P} {T : String} {r : V → List V → Hp → VK → Prop} (hp : PrimN K md (fun vs H Q => ∃ x xs, vs = x :: xs ∧ r x xs H Q) p.f)
    (hT : ∀ (F : Hp) (m : List Addr) (μ : Mu) (H : Hp) (v : V) (d : D), Sim K F m μ H → Rn K F H v d → recv p (some d) = true → tyV K T v H) {σ : L2.St} {H : Hp} {Q : VK} (h : tE K W md (.meth p A As) σ H Q) : tBM K T r (tE K W .v A) (tEs K W As) σ H Q := by
  obtain ⟨F, m, μ, ρ, S, R, h⟩ := h
  unfold ev at h
  refine ⟨F, m, μ, ρ, S, R, (h.bind).imp (fun F1 H1 μ1 x s1 S1 h v1 r1 => ?_) fun _ _ _ _ _ x => x⟩
  cases e1 : dr μ1 x with
  | none =>
    rw [e1] at h
    have e2 : recv p none = false := by cases p <;> rfl
    rw [e2] at h
    exact (show False from h).elim
  | some d =>
    rw [e1] at h
    by_cases e2 : recv p (some d) = true
    · rw [if_pos e2] at h
      refine ⟨hT F1 m μ1 H1 v1 d S1 (S1.dr r1 e1) e2, F1, m, μ1, ρ, S1, R.mono s1, (h.bind).imp (fun F2 H2 μ2 as s2 S2 h vs rs => ?_) fun _ _ _ _ _ x => x⟩
      cases e3 : drs μ2 (x :: as) with
      | none => rw [e3] at h; exact (show False from h).elim
      | some ds =>
        rw [e3] at h
        have h : Post K F2 m _ _ ((optR (p.f ds) μ2).bind _) := h
        cases e4 : p.f ds with
        | none => rw [e4] at h; exact (show False from h).elim
        | some res =>
          rw [e4] at h
          obtain ⟨x', xs, e5, hh⟩ := hp F2 m μ2 H2 (v1 :: vs) ds res Q S2 (drs_rel S2 (.cons (r1.mono s2) rs) e3) e4 fun F3 H3 w s3 S3 rw' => h F3 H3 s3 S3 w rw'
          cases e5
          exact hh
    · rw [if_neg e2] at h
      exact (show False from h).elim
theorem ty_list {K : Frag} : ∀ (F : Hp) (m : List Addr) (μ : Mu) (H : Hp) (v : V) (d : D), Sim K F m μ H → Rn K F H v d → recv .index (some d) = true → tyV K "list" v H := by
  intro F m μ H v d S r e
  cases d <;> try (cases e; done)
  obtain ⟨a, vs, rfl, h1, h2⟩ := S.seqL r
  exact .inl ⟨rfl, vs, h1⟩
theorem ty_str {K : Frag} {p : P} (hp : ∀ d, recv p (some d) = true → ∃ s, d = .str s) : ∀ (F : Hp) (m : List Addr) (μ : Mu) (H : Hp) (v : V) (d : D), Sim K F m μ H → Rn K F H v d → recv p (some d) = true → tyV K "str" v H := by
  intro F m μ H v d S r e
  obtain ⟨s, rfl⟩ := hp d e
  cases r.str
  exact rfl
theorem findD_e {d : D} : ∀ {ds : List D} {k j : Nat}, findD d k ds = some j → ∃ i x, j = k + i ∧ ds[i]? = some x ∧ D.eqv x d = true ∧ ∀ (m : Nat) y, m < i → ds[m]? = some y → D.eqv y d = false
  | [], k, j, h => by cases h
  | x :: ds, k, j, h => by
    unfold findD at h
    by_cases e : D.eqv x d = true
    · rw [if_pos e] at h
      cases h
      exact ⟨0, x, rfl, rfl, e, fun m y hm => absurd hm (Nat.not_lt_zero _)⟩
    · rw [if_neg e] at h
      obtain ⟨i, y, e1, e2, e3, e4⟩ := findD_e h
      refine ⟨i + 1, y, by omega, by simpa using e2, e3, fun m z hm hz => ?_⟩
      cases m with
      | zero =>
        simp at hz
        subst hz
        simpa using e
      | succ m => exact e4 m z (by omega) (by simpa using hz)
theorem toPys_get : ∀ {ds : List D} {i : Nat}, (toPys ds)[i]? = (ds[i]?).map toPy
  | [], i => by simp [toPys]
  | d :: ds, 0 => by simp [toPys]
  | d :: ds, i + 1 => by simp [toPys, toPys_get (ds := ds) (i := i)]
theorem okNs_get : ∀ {n : Nat} {ds : List D} {i : Nat} {d : D}, D.okNs n ds = true → ds[i]? = some d → D.okN n d = true
  | n, [], i, d, _, h => by simp at h
  | n, x :: ds, 0, d, e, h => by
    rw [D.okNs, Bool.and_eq_true] at e
    simp at h
    subst h
    exact e.1
  | n, x :: ds, i + 1, d, e, h => by
    rw [D.okNs, Bool.and_eq_true] at e
    exact okNs_get e.2 (by simpa using h)
theorem prim_index {K : Frag} : PrimN K .v (fun vs H Q => ∃ x xs, vs = x :: xs ∧ rIndexD K x xs H Q) P.index.f := by
  have h : PrimN K .v (rr2 fun x y H Q => rIndexD K x [y] H Q) P.index.f := by
    refine prim2 (fun _ => rfl) (fun _ _ _ => rfl) fun F m μ H x y a b res Q S r1 r2 e q => ?_
    cases a <;> try (cases e; done)
    rename_i l
    have e : (if (okD b && D.okNs 59 l) = true then (findD b 0 l).map (fun j : Nat => D.int j) else none) = some res := by
      rw [← e]
      cases b <;> rfl
    split at e
    · rename_i hk
      rw [Bool.and_eq_true] at hk
      cases e1 : findD b 0 l with
      | none => rw [e1] at e; cases e
      | some j =>
        rw [e1] at e
        cases e
        obtain ⟨i, z, e2, e3, e4, e5⟩ := findD_e e1
        have h3 : D.okN 60 (.lst l) = true := by simpa [D.okN] using hk.2
        have hl60 := okNs_mono 59 60 l (by omega) hk.2
        obtain ⟨p, vs, rfl, _⟩ := S.lstH r1
        have r3 := rn_dp S r1 h3
        have h4 := shaped_of h3
        rw [toPy] at r3 h4
        have e6 : j = i := by omega
        subst e6
        refine ⟨p, y, toPy b, toPys l, j, toPy z, rfl, rfl, r3, rn_dp S r2 hk.1, h4, shaped_of hk.1, ?_, ?_, ?_, q F H _ (Same.refl F) S (.int _)⟩
        · rw [toPys_get, e3]; rfl
        · rw [eqv_py 60 z b (okNs_get hl60 e3) hk.1]; exact e4
        · intro m z' hm hz
          rw [toPys_get] at hz
          cases e7 : l[m]? with
          | none => rw [e7] at hz; cases hz
          | some w =>
            rw [e7] at hz
            cases hz
            rw [eqv_py 60 w b (okNs_get hl60 e7) hk.1]
            exact e5 m w hm e7
    · cases e
  intro F m μ H vs ds res Q S r e q
  obtain ⟨x, y, rfl, hq⟩ := h F m μ H vs ds res Q S r e q
  exact ⟨x, [y], rfl, hq⟩
theorem okE_index {o : Expr} {apos : Pos} (hu : X.A.units + 65 < cLine) (ho : PE X o (tE X.K W .v A)) (ha : PA X [e] (tEs X.K W [B])) (hbase : attributeBase o "index" X.env (eval o X.env) = eval o X.env)
    (hfew : ((backTo pos (starEach [e] X.env)).all (fun x => !x.1) && (backToKw pos (keywordEach [] X.env)).all (fun x => x.1.isSome)
      && decide (([e] : List Expr).length + ([] : List Keyword).length + (if ([] : List Keyword).isEmpty then 0 else 1) < 30)) = true)
    (hline : (apos.endLine == pos.line) = true) (hs : starEach [e] X.env = (false, eval e X.env) :: starEach [] X.env) (hplain : (backTo pos (starEach [] X.env)).any (·.1) = false) :
    PE X (.Call (.Attribute o "index" apos) [e] [] pos) (tE X.K W .v (.meth .index A [B])) :=
  PE.imp (pe_bm F.plainAttrs_list F.slot_list_index F.type_list_index (mt_indexD hu) ho ha hbase hfew hline hs hplain) fun _ _ _ h => tE_meth prim_index ty_list h

/-! ### a list changed -/
theorem Sim.isL {K : Frag} {F H : Hp} {m : List Addr} {μ : Mu} {n : Nat} {v : V} (S : Sim K F m μ H) (r : RepA K F m v (.c n)) (h : Wp.isL μ n = true) : tyV K "list" v H := by
  obtain ⟨a, e1, rfl⟩ := r
  unfold Wp.isL at h
  split at h
  · rename_i fz xs e2
    have hc := S.cell n a _ e1 e2
    cases fz with
    | false =>
      obtain ⟨vs, h1, _⟩ := hc
      exact .inl ⟨rfl, vs, .of h1⟩
    | true =>
      obtain ⟨vs, h1, _⟩ := hc
      exact .inl ⟨rfl, vs, .of (S.sub _ _ h1)⟩
  · cases h
theorem tE_mut {K : Frag} {p : Mt} {r : V → List V → Hp → VK → Prop}
    (hp : ∀ (F H : Hp) (m : List Addr) (μ : Mu) (n : Nat) (a : Addr) (xs : List D) (vs us : List V) (ds : List D) (c : Wp.C) (d : D) (Q : VK), Sim K F m μ H → m[n]? = some a → μ[n]? = some ⟨false, .lst xs⟩ → H a = some (.lst vs) → Reps K F vs xs → F a = none → Reps K F us ds →
      p.f (.lst xs) ds = some (c, d) → (∀ H' v, Sim K F m (μ.set n ⟨false, c⟩) H' → Rep K F v d → Q v H') → r (.ref a) us H Q) {σ : L2.St} {H : Hp} {Q : VK} (h : tE K W .v (.mut p A As) σ H Q) : tBM K "list" r (tE K W .v A) (tEs K W As) σ H Q := by
  obtain ⟨F, m, μ, ρ, S, R, h⟩ := h
  unfold ev at h
  refine ⟨F, m, μ, ρ, S, R, (h.bind).imp (fun F1 H1 μ1 x s1 S1 h v1 r1 => ?_) fun _ _ _ _ _ x => x⟩
  cases x with
  | v d => exact (show False from h).elim
  | t d => exact (show False from h).elim
  | c n =>
    dsimp only at h
    by_cases e2 : Wp.isL μ1 n = true
    · rw [if_pos e2] at h
      refine ⟨S1.isL r1 e2, F1, m, μ1, ρ, S1, R.mono s1, (h.bind).imp (fun F2 H2 μ2 as s2 S2 h vs rs => ?_) fun _ _ _ _ _ x => x⟩
      obtain ⟨a, e1, rfl⟩ := r1
      cases e3 : μ2[n]? with
      | none => rw [e3] at h; exact (show False from h).elim
      | some cc =>
        obtain ⟨fz, c⟩ := cc
        rw [e3] at h
        cases e4 : vals as with
        | none =>
          rw [e4] at h
          cases fz <;> exact (show False from h).elim
        | some ds =>
          rw [e4] at h
          cases fz with
          | true => exact (show False from h).elim
          | false =>
            dsimp only at h
            cases e5 : p.f c ds with
            | none => rw [e5] at h; exact (show False from h).elim
            | some cd =>
              obtain ⟨c', d⟩ := cd
              rw [e5] at h
              have hc := S2.cell n a _ e1 e3
              cases c with
              | lst xs =>
                obtain ⟨ws, h1, h2, h3⟩ := hc
                exact hp F2 H2 m μ2 n a xs ws vs ds c' d Q S2 e1 e3 h1 h2 h3 (vals_rel rs e4) e5 fun H' v S' r' => h F2 H' (Same.refl _) S' v r'
              | _ => cases p <;> cases ds <;> cases e5
    · rw [if_neg e2] at h
      exact (show False from h).elim
theorem mut_append {K : Frag} {σ : L2.St} {H : Hp} {Q : VK} (h : tE K W .v (.mut .append A As) σ H Q) : tBM K "list" rAppend (tE K W .v A) (tEs K W As) σ H Q := by
  refine tE_mut (fun F H m μ n a xs vs us ds c d Q S e1 e2 h1 h2 h3 r e q => ?_) h
  match ds, us, r, e with
  | [], _, _, e => cases e
  | [y], _, .cons (v := u) ry .nil, e =>
    have e : (if xs.length < SL then some (Wp.C.lst (xs ++ [y]), D.non) else none) = some (c, d) := e
    split at e
    · rename_i hl
      cases e
      exact ⟨a, vs, u, rfl, rfl, h1, by rw [h2.length, ← sl_eq]; exact hl, q _ _ (S.write e1 e2 (by simp) ⟨_, upd_same, h2.append (.cons ry .nil), h3⟩) .non⟩
    · cases e
  | _ :: _ :: _, _, _, e => cases e
theorem mut_extend {K : Frag} {σ : L2.St} {H : Hp} {Q : VK} (h : tE K W .v (.mut .extend A As) σ H Q) : tBM K "list" rExtend (tE K W .v A) (tEs K W As) σ H Q := by
  refine tE_mut (fun F H m μ n a xs vs us ds c d Q S e1 e2 h1 h2 h3 r e q => ?_) h
  match ds, us, r, e with
  | [], _, _, e => cases e
  | [y], _, .cons (v := u) ry .nil, e =>
    cases y <;> try (cases e; done)
    rename_i ys
    cases ry with
    | lst k1 k2 =>
      rename_i b ws
      have e : (if xs.length + ys.length ≤ SL then some (Wp.C.lst (xs ++ ys), D.non) else none) = some (c, d) := e
      split at e
      · rename_i hl
        cases e
        exact ⟨a, b, vs, ws, rfl, rfl, h1, S.sub _ _ k1, by rw [h2.length, k2.length, ← sl_eq]; exact hl, q _ _ (S.write (c' := .lst (xs ++ ys)) e1 e2 (by simp) ⟨_, upd_same, h2.append k2, h3⟩) .non⟩
      · cases e
  | y :: _ :: _, _, _, e => cases y <;> cases e
theorem Reps.dropLast {K : Frag} {F : Hp} {vs : List V} {ds : List D} (r : Reps K F vs ds) : Reps K F vs.dropLast ds.dropLast := by
  rw [List.dropLast_eq_take, List.dropLast_eq_take, r.length]
  exact r.take _
theorem mut_pop {K : Frag} {σ : L2.St} {H : Hp} {Q : VK} (h : tE K W .v (.mut .pop A As) σ H Q) : tBM K "list" rPop (tE K W .v A) (tEs K W As) σ H Q := by
  refine tE_mut (fun F H m μ n a xs vs us ds c d Q S e1 e2 h1 h2 h3 r e q => ?_) h
  match ds, us, r, e with
  | [], _, .nil, e =>
    have e : (match xs[xs.length - 1]? with | some d => some (Wp.C.lst xs.dropLast, d) | none => none) = some (c, d) := e
    cases e3 : xs[xs.length - 1]? with
    | none => rw [e3] at e; cases e
    | some y =>
      rw [e3] at e
      cases e
      obtain ⟨v, ev, rv⟩ := h2.get e3
      exact ⟨a, vs, v, rfl, rfl, h1, by rw [h2.length]; exact ev, q _ _ (S.write (c' := .lst xs.dropLast) e1 e2 (by simp) ⟨_, upd_same, h2.dropLast, h3⟩) rv⟩
  | _ :: _, _, _, e => cases e
theorem okE_append {o : Expr} {apos : Pos} (ho : PE X o (tE X.K W .v A)) (ha : PA X [e] (tEs X.K W As)) (hbase : attributeBase o "append" X.env (eval o X.env) = eval o X.env)
    (hfew : ((backTo pos (starEach [e] X.env)).all (fun x => !x.1) && (backToKw pos (keywordEach [] X.env)).all (fun x => x.1.isSome)
      && decide (([e] : List Expr).length + ([] : List Keyword).length + (if ([] : List Keyword).isEmpty then 0 else 1) < 30)) = true)
    (hline : (apos.endLine == pos.line) = true) (hs : starEach [e] X.env = (false, eval e X.env) :: starEach [] X.env) (hplain : (backTo pos (starEach [] X.env)).any (·.1) = false) :
    PE X (.Call (.Attribute o "append" apos) [e] [] pos) (tE X.K W .v (.mut .append A As)) :=
  PE.imp (pe_bm F.plainAttrs_list F.slot_list_append F.type_list_append mt_append ho ha hbase hfew hline hs hplain) fun _ _ _ h => mut_append h
theorem okE_extend {o : Expr} {apos : Pos} (ho : PE X o (tE X.K W .v A)) (ha : PA X [e] (tEs X.K W As)) (hbase : attributeBase o "extend" X.env (eval o X.env) = eval o X.env)
    (hfew : ((backTo pos (starEach [e] X.env)).all (fun x => !x.1) && (backToKw pos (keywordEach [] X.env)).all (fun x => x.1.isSome)
      && decide (([e] : List Expr).length + ([] : List Keyword).length + (if ([] : List Keyword).isEmpty then 0 else 1) < 30)) = true)
    (hline : (apos.endLine == pos.line) = true) (hs : starEach [e] X.env = (false, eval e X.env) :: starEach [] X.env) (hplain : (backTo pos (starEach [] X.env)).any (·.1) = false) :
    PE X (.Call (.Attribute o "extend" apos) [e] [] pos) (tE X.K W .v (.mut .extend A As)) :=
  PE.imp (pe_bm F.plainAttrs_list F.slot_list_extend F.type_list_extend mt_extend ho ha hbase hfew hline hs hplain) fun _ _ _ h => mut_extend h
theorem okE_pop {o : Expr} {apos : Pos} (ho : PE X o (tE X.K W .v A)) (hbase : attributeBase o "pop" X.env (eval o X.env) = eval o X.env) (hline : (apos.endLine == pos.line) = true) :
    PE X (.Call (.Attribute o "pop" apos) [] [] pos) (tE X.K W .v (.mut .pop A [])) := by
  refine PE.imp (pe_bm0 F.plainAttrs_list F.slot_list_pop F.type_list_pop mt_pop ho hbase hline) fun σ H Q h => tE.imp (mut_pop h) fun x H1 q => ?_
  obtain ⟨ty, F, m, μ, ρ, S, R, h⟩ := q
  rw [evs] at h
  exact ⟨ty, h F H1 (Same.refl F) S [] .nil⟩
end
end Wp

set_option Elab.async false
set_option linter.all false
set_option maxRecDepth 100000
set_option autoImplicit true
/-! W2h: dicts. -/
namespace Wp
open PySem PySem.Spec PyProof.Rows L2

def keyD : Key → D
  | .inl i => .int i
  | .inr s => .str s.cps.toList
theorem sx_back (s : Str) : sx s.cps.toList = s := by
  cases s with
  | mk c => simp [sx]
theorem rep_key {K : Frag} {F : Hp} {k : Key} {d : D} (r : Rep K F (kV k) d) : d = keyD k := by
  cases k with
  | inl i =>
    generalize hv : kV (.inl i) = v at r
    cases r <;> cases hv
    rfl
  | inr s =>
    generalize hv : kV (.inr s) = v at r
    cases r <;> cases hv
    simp [keyD, sx]
theorem key_rep {K : Frag} {F : Hp} (k : Key) : Rep K F (kV k) (keyD k) := by
  cases k with
  | inl i => exact .int i
  | inr s =>
    show Rep K F (.str s) (.str s.cps.toList)
    have := Rep.str (K := K) (F := F) s.cps.toList
    rwa [sx_back] at this
theorem keyD_eq (a b : Key) : D.eqv (keyD a) (keyD b) = decide (a = b) := by
  cases a <;> cases b
  · rename_i s t
    simp only [keyD, D.eqv]
    rw [Bool.eq_iff_iff]
    simp
  · simp [keyD, D.eqv]
  · simp [keyD, D.eqv]
  · rename_i s t
    simp only [keyD, D.eqv]
    rw [Bool.eq_iff_iff]
    simp only [beq_iff_eq, decide_eq_true_eq, Sum.inr.injEq]
    refine ⟨fun h => ?_, fun h => by rw [h]⟩
    rw [← sx_back s, ← sx_back t, h]
theorem keysD_eq : ∀ (a b : List Key), D.eqvs (a.map keyD) (b.map keyD) = decide (a = b)
  | [], [] => by simp [D.eqvs]
  | [], _ :: _ => by simp [D.eqvs]
  | _ :: _, [] => by simp [D.eqvs]
  | x :: a, y :: b => by
    simp only [List.map_cons, D.eqvs]
    rw [keyD_eq, keysD_eq a b, Bool.eq_iff_iff]
    simp
def keyT (k : List Key) : D := .tup (k.map keyD)
theorem keyT_eq (a b : List Key) : D.eqv (keyT a) (keyT b) = decide (a = b) := by
  unfold keyT
  rw [D.eqv]
  exact keysD_eq a b
theorem reps_keys {K : Frag} {F : Hp} : ∀ {ks : List Key} {es : List D}, Reps K F (ks.map kV) es → es = ks.map keyD
  | [], _, .nil => rfl
  | k :: ks, _, .cons a b => by rw [rep_key a, reps_keys b]; rfl
/-- a value of a key's kind -/
theorem keyK_of {K : Frag} {F : Hp} {v : V} {d : D} (r : Rep K F v d) (h : isKeyK d = true) : ∃ k : Key, v = kV k ∧ d = keyD k := by
  cases d <;> try (cases h; done)
  · cases r
    exact ⟨.inl _, rfl, rfl⟩
  · cases r
    exact ⟨.inr _, rfl, by simp [keyD, sx]⟩
theorem keysK_of {K : Frag} {F : Hp} : ∀ {vs : List V} {es : List D}, Reps K F vs es → es.all isKeyK = true → ∃ ks : List Key, vs = ks.map kV ∧ es = ks.map keyD
  | _, _, .nil, _ => ⟨[], rfl, rfl⟩
  | _, _, .cons a b, h => by
    rw [List.all_cons, Bool.and_eq_true] at h
    obtain ⟨k, rfl, rfl⟩ := keyK_of a h.1
    obtain ⟨ks, rfl, rfl⟩ := keysK_of b h.2
    exact ⟨k :: ks, rfl, rfl⟩

section
variable {κ : Type} [DecidableEq κ] {kd : κ → D} {R : V → D → Prop}
/-- the entries -/
def Ent (kd : κ → D) (R : V → D → Prop) (p : κ × V) (q : D × D) : Prop := q.1 = kd p.1 ∧ R p.2 q.2
theorem ent_look (heq : ∀ a b, D.eqv (kd a) (kd b) = decide (a = b)) (k : κ) : ∀ {ks : List (κ × V)} {kvs : List (D × D)}, Paired (Ent kd R) ks kvs →
    (valV ks k = none ∧ dLook (kd k) kvs = none) ∨ ∃ v d, valV ks k = some v ∧ dLook (kd k) kvs = some d ∧ R v d
  | _, _, .nil => .inl ⟨rfl, rfl⟩
  | (a, v) :: ks, (x, y) :: kvs, .cons r t => by
    obtain ⟨e, rv⟩ := r
    cases e
    by_cases h : a = k
    · refine .inr ⟨v, y, valV_pos h, ?_, rv⟩
      rw [dLook, heq, if_pos (by simpa using h)]
    · rw [valV_neg (p := (a, v)) h, dLook, heq, if_neg (by simpa using h)]
      exact ent_look heq k t
theorem ent_any (heq : ∀ a b, D.eqv (kd a) (kd b) = decide (a = b)) (k : κ) : ∀ {ks : List (κ × V)} {kvs : List (D × D)}, Paired (Ent kd R) ks kvs → (ks.any fun kv => decide (kv.1 = k)) = kvs.any fun p => D.eqv p.1 (kd k)
  | _, _, .nil => rfl
  | (a, v) :: ks, (x, y) :: kvs, .cons r t => by
    obtain ⟨e, rv⟩ := r
    cases e
    rw [List.any_cons, List.any_cons, ent_any heq k t, heq]
theorem ent_map (heq : ∀ a b, D.eqv (kd a) (kd b) = decide (a = b)) (k : κ) {v : V} {d : D} (r : R v d) {ks : List (κ × V)} {kvs : List (D × D)} (h : Paired (Ent kd R) ks kvs) :
    Paired (Ent kd R) (ks.map fun kv => if kv.1 = k then (kv.1, v) else kv) (kvs.map fun p => if D.eqv p.1 (kd k) then (p.1, d) else p) := by
  induction h with
  | nil => exact .nil
  | @cons p q ks kvs hp t ih =>
    rw [List.map_cons, List.map_cons]
    refine .cons ?_ ih
    obtain ⟨e, rv⟩ := hp
    rw [e, heq]
    by_cases h : p.1 = k
    · rw [if_pos h, if_pos (by simpa using h)]; exact ⟨rfl, r⟩
    · rw [if_neg h, if_neg (by simpa using h)]; exact ⟨e, rv⟩
theorem ent_put (heq : ∀ a b, D.eqv (kd a) (kd b) = decide (a = b)) (k : κ) {v : V} {d : D} (r : R v d) {ks : List (κ × V)} {kvs : List (D × D)} (h : Paired (Ent kd R) ks kvs) : Paired (Ent kd R) (putK ks k v) (dPut (kd k) d kvs) := by
  unfold putK dPut
  rw [ent_any heq k h]
  split
  · exact ent_map heq k r h
  · exact Paired.snoc h ⟨rfl, r⟩
end
theorem paired_len {α β : Type} {R : α → β → Prop} : ∀ {l : List α} {m : List β}, Paired R l m → l.length = m.length := fun h => Paired.length h
/-- cell n, a dict, with this key: what the kit's rules ask -/
theorem cell_get {K : Frag} {F H : Hp} {m : List Addr} {μ : Mu} {n : Nat} {a : Addr} {fz : Bool} {c : Wp.C} {v : V} {k : Wp.A} {o : Option D} (S : Sim K F m μ H) (e1 : m[n]? = some a) (e2 : μ[n]? = some ⟨fz, c⟩) (r : RepA K F m v k) (e : dictAt c k = some o) :
    ∃ ov : Option V, DGet H a v ov ∧ (ov = none ∧ o = none ∨ ∃ x d, ov = some x ∧ o = some d ∧ Rep K F x d) := by
  have hc := S.cell n a _ e1 e2
  cases c with
  | dead => cases k <;> cases e
  | lst xs => cases k <;> cases e
  | dK kvs =>
    have hc : ∃ ks : List (Key × V), H a = some (.dK ks) ∧ F a = none ∧ Paired (fun (p : Key × V) (q : D × D) => Rep K F (kV p.1) q.1 ∧ Rep K F p.2 q.2) ks kvs := by cases fz <;> exact hc
    obtain ⟨ks, h1, h2, h3⟩ := hc
    have h3 : Paired (Ent keyD (Rep K F)) ks kvs := Paired.imp h3 fun p q z => ⟨rep_key z.1, z.2⟩
    cases k with
    | v d =>
      have e : (if isKeyK d = true then some d else none).map (fun k => dLook k kvs) = some o := e
      split at e
      · rename_i hk
        cases e
        obtain ⟨k, rfl, rfl⟩ := keyK_of r hk
        refine ⟨valV ks k, DGet.k h1, ?_⟩
        rcases ent_look keyD_eq k h3 with ⟨e1, e2⟩ | ⟨x, d, e1, e2, e3⟩
        · exact .inl ⟨e1, e2⟩
        · exact .inr ⟨x, d, e1, e2, e3⟩
      · cases e
    | c n => cases e
    | t d => cases e
  | dT kvs =>
    have hc : ∃ ks : List (List Key × V), H a = some (.dT ks) ∧ F a = none ∧ Paired (fun (p : List Key × V) (q : D × D) => (∃ es, q.1 = .tup es ∧ Reps K F (p.1.map kV) es) ∧ Rep K F p.2 q.2) ks kvs := by cases fz <;> exact hc
    obtain ⟨ks, h1, h2, h3⟩ := hc
    have h3 : Paired (Ent keyT (Rep K F)) ks kvs := Paired.imp h3 fun p q z => by
      obtain ⟨⟨es, z1, z2⟩, z3⟩ := z
      exact ⟨by rw [z1, reps_keys z2]; rfl, z3⟩
    cases k with
    | t d =>
      have e : (if isKeyT d = true then some d else none).map (fun k => dLook k kvs) = some o := e
      split at e
      · rename_i hk
        cases e
        cases d <;> try (cases hk; done)
        rename_i es
        obtain ⟨b, vs, rfl, f1, f2⟩ := (show RepT K F v (.tup es) from r)
        obtain ⟨k, rfl, rfl⟩ := keysK_of f2 hk
        refine ⟨valV ks k, DGet.t h1 (S.sub _ _ f1), ?_⟩
        rcases ent_look keyT_eq k h3 with ⟨e1, e2⟩ | ⟨x, d, e1, e2, e3⟩
        · exact .inl ⟨e1, e2⟩
        · exact .inr ⟨x, d, e1, e2, e3⟩
      · cases e
    | c n => cases e
    | v d => cases e
theorem cell_put {K : Frag} {F H : Hp} {m : List Addr} {μ : Mu} {n : Nat} {a : Addr} {c c' : Wp.C} {v u : V} {k : Wp.A} {d : D} (S : Sim K F m μ H) (e1 : m[n]? = some a) (e2 : μ[n]? = some ⟨false, c⟩) (r : RepA K F m v k) (ru : Rep K F u d) (e : updD c k d = some c') :
    ∃ H', DPut H a v u H' ∧ Sim K F m (μ.set n ⟨false, c'⟩) H' := by
  have hc := S.cell n a _ e1 e2
  cases c with
  | dead => cases k <;> cases e
  | lst xs => cases k <;> cases e
  | dK kvs =>
    obtain ⟨ks, h1, h2, h3⟩ := hc
    have h3 : Paired (Ent keyD (Rep K F)) ks kvs := Paired.imp h3 fun p q z => ⟨rep_key z.1, z.2⟩
    cases k with
    | v kd =>
      have e : ((if isKeyK kd = true then some kd else none).bind fun k => if kvs.length < SL then some (Wp.C.dK (dPut k d kvs)) else none) = some c' := e
      split at e
      · rename_i hk
        have e : (if kvs.length < SL then some (Wp.C.dK (dPut kd d kvs)) else none) = some c' := e
        split at e
        · rename_i hl
          cases e
          obtain ⟨k, rfl, rfl⟩ := keyK_of r hk
          refine ⟨_, DPut.k h1 (by rw [Paired.length h3, ← sl_eq]; exact hl), S.write e1 e2 (by simp) ⟨_, upd_same, h2, Paired.imp (ent_put keyD_eq k ru h3) fun p q z => ⟨by rw [z.1]; exact key_rep _, z.2⟩⟩⟩
        · cases e
      · cases e
    | c n => cases e
    | t d => cases e
  | dT kvs =>
    obtain ⟨ks, h1, h2, h3⟩ := hc
    have h3 : Paired (Ent keyT (Rep K F)) ks kvs := Paired.imp h3 fun p q z => by
      obtain ⟨⟨es, z1, z2⟩, z3⟩ := z
      exact ⟨by rw [z1, reps_keys z2]; rfl, z3⟩
    cases k with
    | t kd =>
      have e : ((if isKeyT kd = true then some kd else none).bind fun k => if kvs.length < SL then some (Wp.C.dT (dPut k d kvs)) else none) = some c' := e
      split at e
      · rename_i hk
        have e : (if kvs.length < SL then some (Wp.C.dT (dPut kd d kvs)) else none) = some c' := e
        split at e
        · rename_i hl
          cases e
          obtain ⟨es, rfl⟩ : ∃ es, kd = .tup es := by cases kd <;> first | (cases hk; done) | exact ⟨_, rfl⟩
          obtain ⟨b, vs, rfl, f1, f2⟩ := (show RepT K F v (.tup es) from r)
          obtain ⟨k, rfl, rfl⟩ := keysK_of f2 hk
          have reps_of : ∀ l : List Key, Reps K F (l.map kV) (l.map keyD) := by
            intro l
            induction l with
            | nil => exact .nil
            | cons x l ih => exact .cons (key_rep x) ih
          refine ⟨_, DPut.t h1 (S.sub _ _ f1) (by rw [Paired.length h3, ← sl_eq]; exact hl), S.write e1 e2 (by simp) ⟨_, upd_same, h2, Paired.imp (ent_put keyT_eq k ru h3) fun p q z => ⟨⟨_, z.1, reps_of _⟩, z.2⟩⟩⟩
        · cases e
      · cases e
    | c n => cases e
    | v d => cases e

section
variable {X : Cx} {W : WX} {n0 : Nat} {new : Md} {e a b c o i : Expr} {es : List Expr} {A B C : E} {As Bs : List E} {pos : Pos}
/-- reading x[k], k in x: x a dict's cell -/
theorem tE_look {K : Frag} {p : Lk} {σ : L2.St} {H : Hp} {Q : VK} (h : tE K W .v (.look p A [B]) σ H Q) :
    tE K W .v A σ H fun x H1 => tE K W .v B σ H1 fun y H2 => ∃ (F : Hp) (m : List Addr) (μ : Mu) (n : Nat) (a : Addr) (fz : Bool) (c : Wp.C) (k : Wp.A) (d : D), Sim K F m μ H2 ∧ x = .ref a ∧ m[n]? = some a ∧ μ[n]? = some ⟨fz, c⟩ ∧ RepA K F m y k ∧ p.f c [k] = some d ∧ (∀ v, Rep K F v d → Q v H2) := by
  obtain ⟨F, m, μ, ρ, S, R, h⟩ := h
  unfold ev at h
  refine ⟨F, m, μ, ρ, S, R, (h.bind).imp (fun F1 H1 μ1 x s1 S1 h v1 r1 => ?_) fun _ _ _ _ _ x => x⟩
  cases x with
  | v d => exact (show False from h).elim
  | t d => exact (show False from h).elim
  | c n =>
    dsimp only at h
    by_cases e2 : Wp.isD μ1 n = true
    · rw [if_pos e2] at h
      refine ⟨F1, m, μ1, ρ, S1, R.mono s1, ?_⟩
      unfold evs at h
      have h := (h.bind).bind
      refine h.imp (fun F2 H2 μ2 y s2 S2 h v2 r2 => ?_) fun _ _ _ _ _ x => x
      obtain ⟨a, e1, rfl⟩ := r1
      have h : Post K F2 m _ _ ((evs [] ρ μ2).bind fun as μ3 => Res.ok (y :: as) μ3) := h
      rw [evs.eq_1] at h
      have h := Post.ok h S2
      cases e3 : μ2[n]? with
      | none => rw [e3] at h; exact (show False from h).elim
      | some cc =>
        obtain ⟨fz, c⟩ := cc
        rw [e3] at h
        dsimp only at h
        cases e4 : p.f c [y] with
        | none => rw [e4] at h; exact (show False from h).elim
        | some d =>
          rw [e4] at h
          exact ⟨F2, m, μ2, n, a, fz, c, y, d, S2, rfl, e1, e3, r2, e4, fun v rv => Post.ok h S2 v rv⟩
    · rw [if_neg e2] at h
      exact (show False from h).elim
theorem okE_get (hu : X.A.units + 1 < cLine) (ho : PE X o (tE X.K W .v A)) (hi : PE X i (tE X.K W .v B)) (hs : NoSl i) : PE X (.Subscript o i pos) (tE X.K W .v (.look .get A [B])) := by
  refine PE.imp (pe_dget hu ho hi hs) fun σ H Q h => tE.imp (tE_look h) fun x H1 q => tE.imp q fun y H2 q => ?_
  obtain ⟨F, m, μ, n, a, fz, c, k, d, S, rfl, e1, e2, r, e, q⟩ := q
  have e : (dictAt c k).bind id = some d := e
  cases e3 : dictAt c k with
  | none => rw [e3] at e; cases e
  | some od =>
    rw [e3] at e
    cases (show od = some d from e)
    obtain ⟨ov, hg, hv⟩ := cell_get S e1 e2 r e3
    rcases hv with ⟨_, z⟩ | ⟨x, d', rfl, z, rx⟩
    · cases z
    · cases z
      exact ⟨a, x, rfl, hg, q x rx⟩
/-- k in d: the key first -/
theorem tE_inD {K : Frag} {p : Bool} {σ : L2.St} {H : Hp} {Q : VK} (h : tE K W .v (.inD p B A) σ H Q) :
    tE K W .v B σ H fun y H1 => tE K W .v A σ H1 fun x H2 => ∃ (a : Addr) (ov : Option V), x = .ref a ∧ DGet H2 a y ov ∧ Q (.bl (if p then ov.isSome else !ov.isSome)) H2 := by
  obtain ⟨F, m, μ, ρ, S, R, h⟩ := h
  unfold ev at h
  refine ⟨F, m, μ, ρ, S, R, (h.bind).imp (fun F1 H1 μ1 k s1 S1 h v1 r1 => ?_) fun _ _ _ _ _ x => x⟩
  refine ⟨F1, m, μ1, ρ, S1, R.mono s1, (h.bind).imp (fun F2 H2 μ2 x s2 S2 h v2 r2 => ?_) fun _ _ _ _ _ x => x⟩
  cases x with
  | v d => exact (show False from h).elim
  | t d => exact (show False from h).elim
  | c n =>
    obtain ⟨a, e1, rfl⟩ := r2
    dsimp only at h
    cases e3 : μ2[n]? with
    | none => rw [e3] at h; exact (show False from h).elim
    | some cc =>
      obtain ⟨fz, c⟩ := cc
      rw [e3] at h
      dsimp only at h
      cases e4 : dictAt c k with
      | none => rw [e4] at h; exact (show False from h).elim
      | some od =>
        rw [e4] at h
        obtain ⟨ov, hg, hv⟩ := cell_get S2 e1 e3 (r1.mono s2) e4
        refine ⟨a, ov, rfl, hg, ?_⟩
        have e5 : ov.isSome = od.isSome := by
          rcases hv with ⟨rfl, rfl⟩ | ⟨x, d, rfl, rfl, _⟩ <;> rfl
        rw [e5]
        exact Post.ok h S2 _ (.bl _)
theorem inD_bl {p : Bool} : BlE (.inD p B A) := by
  intro ρ μ x μ' h
  unfold ev at h
  cases q1 : ev B ρ μ with
  | no => rw [q1] at h; cases h
  | exc c d μ' => rw [q1] at h; cases h
  | ok k μ1 =>
    rw [q1] at h
    have h : (ev A ρ μ1).bind _ = _ := h
    cases q2 : ev A ρ μ1 with
    | no => rw [q2] at h; cases h
    | exc c d μ' => rw [q2] at h; cases h
    | ok y μ2 =>
      rw [q2] at h
      cases y with
      | v d => cases h
      | t d => cases h
      | c n =>
        have h : (match μ2[n]? with
          | some ⟨_, c⟩ => (match dictAt c k with
            | some o => Res.ok (Wp.A.v (.bl (if p then o.isSome else !o.isSome))) μ2
            | none => .no)
          | none => .no) = Res.ok x μ' := h
        split at h
        · split at h
          · cases h
            exact ⟨_, rfl⟩
          · cases h
        · cases h
theorem ok_inD (hu : X.A.units + 1 < cLine) (hi : PE X i (tE X.K W .v B)) (ho : PE X o (tE X.K W .v A)) (hm : behindInMarks .In o = false) : Ok X W (.Compare i [.In] [o] pos) (.inD true B A) := by
  have k : ∀ σ H Q, tE X.K W .v (.inD true B A) σ H Q → tDIn (tE X.K W .v B) (tE X.K W .v A) σ H Q := fun σ H Q h => tE.imp (tE_inD h) fun y H1 q => tE.imp q fun x H2 q => q
  exact Ok.bl (PE.imp (pe_cmp (pc_din hu hi ho) hm) k) (pt_cmp (pc_din hu hi ho) hm) inD_bl k
theorem ok_notinD (hu : X.A.units + 1 < cLine) (hi : PE X i (tE X.K W .v B)) (ho : PE X o (tE X.K W .v A)) (hm : behindInMarks .NotIn o = false) : Ok X W (.Compare i [.NotIn] [o] pos) (.inD false B A) := by
  have k : ∀ σ H Q, tE X.K W .v (.inD false B A) σ H Q → tDNotIn (tE X.K W .v B) (tE X.K W .v A) σ H Q := fun σ H Q h => tE.imp (tE_inD h) fun y H1 q => tE.imp q fun x H2 q => q
  exact Ok.bl (PE.imp (pe_cmp (pc_dnotin hu hi ho) hm) k) (pt_cmp (pc_dnotin hu hi ho) hm) inD_bl k
/-- x[k] = v, x a dict -/
theorem okS_updD {o k v : Expr} {xo kk vv : E} {ps : Pos} (hu : X.A.units + 1 < cLine) (ho : PE X o (tE X.K W .v xo)) (hk : PE X k (tE X.K W .v kk)) (hv : PE X v (tE X.K W .v vv))
    (hs : swapsWith v (some (.Subscript o k ps)) pos.line X.env = pure false) : PS X (.Assign [.Subscript o k ps] v pos) (tS X.K W n0 new (.updD xo kk vv)) := by
  refine PS.imp (ps_dput hu ho hk hv hs) fun D σ H h => ?_
  obtain ⟨F, m, μ, ρ, S, R, h⟩ := h
  rw [ex] at h
  refine ⟨F, m, μ, ρ, S, R, (post_st R h).imp (fun F1 H1 μ1 va s1 S1 q v1 r1 => ?_) fun _ _ _ _ _ x => x⟩
  refine ⟨F1, m, μ1, ρ, S1, R.mono s1, (post_st (R.mono s1) q).imp (fun F2 H2 μ2 xa s2 S2 q v2 r2 => ?_) fun _ _ _ _ _ x => x⟩
  have R2 := (R.mono s1).mono s2
  refine ⟨F2, m, μ2, ρ, S2, R2, (post_st R2 q).imp (fun F3 H3 μ3 ka s3 S3 q v3 r3 => ?_) fun _ _ _ _ _ x => x⟩
  cases va with
  | v vd =>
    cases xa with
    | c n =>
      obtain ⟨a, e1, rfl⟩ := r2
      dsimp only at q
      cases e2 : μ3[n]? with
      | none => rw [e2] at q; exact (show False from q).elim
      | some cc =>
        obtain ⟨fz, c⟩ := cc
        rw [e2] at q
        cases fz with
        | true => exact (show False from q).elim
        | false =>
          dsimp only at q
          cases e3 : updD c ka vd with
          | none => rw [e3] at q; exact (show False from q).elim
          | some c' =>
            rw [e3] at q
            obtain ⟨H4, hp, S4⟩ := cell_put S3 e1 e2 r3 ((show Rep X.K F1 v1 vd from r1).mono (s2.trans s3)) e3
            exact ⟨a, H4, rfl, hp, q F3 m H4 σ (Same.refl _) rfl S4 (R2.mono s3)⟩
    | _ => exact (show False from q).elim
  | _ => exact (show False from q).elim
/-- x = {} -/
theorem okS_newDK {x : Str} {i j : Nat} {ps pd : Pos} (hN : X.N.Nodup) (hi : X.N[i]? = some x) (hx : Loc X.env.scope x) (hf : X.fn x = true ∨ X.env.scope.names.lookup x = some .local) (hs : swapsWith (.Dict [] [] pd) (some (.Name x ps)) pos.line X.env = pure false) :
    PS X (.Assign [.Name x ps] (.Dict [] [] pd) pos) (tS X.K W n0 new (.newD i j (.dK []))) := by
  refine PS.imp (ps_set hN hi hx pe_dnewK hs hf) fun D σ H h => ?_
  obtain ⟨F, m, μ, ρ, S, R, h⟩ := h
  rw [ex] at h
  intro p hp
  split at h
  · rename_i hl
    have hm : n0 + j < m.length := by rw [S.len]; exact hl.2
    have S1 := (S.laid (o := .dK []) hp).newCell (n := n0 + j) (a := p) (c := ⟨false, .dK []⟩) hl.2 ⟨[], upd_same, S.sub.free hp, .nil⟩ (fun i c e1 e2 => S.notCell hp i c e1 e2)
    exact h F _ _ _ (Same.refl F) (take_set_ge m (Nat.le_add_right _ _) p) S1 (R.newCell hm hl.1)
  · exact (show False from h).elim
theorem okS_newDT {x : Str} {i j : Nat} {ps pd : Pos} (hN : X.N.Nodup) (hi : X.N[i]? = some x) (hx : Loc X.env.scope x) (hf : X.fn x = true ∨ X.env.scope.names.lookup x = some .local) (hs : swapsWith (.Dict [] [] pd) (some (.Name x ps)) pos.line X.env = pure false) :
    PS X (.Assign [.Name x ps] (.Dict [] [] pd) pos) (tS X.K W n0 new (.newD i j (.dT []))) := by
  refine PS.imp (ps_set hN hi hx pe_dnewT hs hf) fun D σ H h => ?_
  obtain ⟨F, m, μ, ρ, S, R, h⟩ := h
  rw [ex] at h
  intro p hp
  split at h
  · rename_i hl
    have hm : n0 + j < m.length := by rw [S.len]; exact hl.2
    have S1 := (S.laid (o := .dT []) hp).newCell (n := n0 + j) (a := p) (c := ⟨false, .dT []⟩) hl.2 ⟨[], upd_same, S.sub.free hp, .nil⟩ (fun i c e1 e2 => S.notCell hp i c e1 e2)
    exact h F _ _ _ (Same.refl F) (take_set_ge m (Nat.le_add_right _ _) p) S1 (R.newCell hm hl.1)
  · exact (show False from h).elim
end
end Wp

set_option Elab.async false
set_option linter.all false
set_option maxRecDepth 100000
set_option autoImplicit true
/-! W3a: the rule for a def. -/
namespace Wp
open PySem PySem.Spec PyProof.Rows L2

section
variable {P : Program} {w : World} {K : Frag} {mg : Str → Option Value} {base : Heap}
/-- a def's context -/
abbrev Xof (P : Program) (w : World) (K : Frag) (mg : Str → Option Value) (base : Heap) (N : List Str) (qual : Str) (scope : Scope) (f : Addr) (cdv : Value) (A : Around) (outer : List PySem.Env) (s : Shared) (H : Hp) (E : XK) : Cx := cxOf (L2.CX P w) P w K mg base N qual scope f cdv A outer s H E
end
end Wp
namespace Wp
open PySem PySem.Spec PyProof.Rows L2
section
variable {P : Program} {w : World} {K : Frag} {mg : Str → Option Value} {base : Heap}
abbrev WOf (E : XK) : WX := fun cls d _ H => E cls d H
theorem takes_X {N : List Str} {qual : Str} {scope : Scope} {f : Addr} {cdv : Value} {A : Around} {outer : List PySem.Env} {s : Shared} {H : Hp} {E : XK} : Takes (Xof P w K mg base N qual scope f cdv A outer s H E) (WOf E) :=
  takes_of (E := E) rfl rfl rfl rfl
theorem passes_X {N : List Str} {qual : Str} {scope : Scope} {f : Addr} {cdv : Value} {A : Around} {outer : List PySem.Env} {s : Shared} {H : Hp} {E : XK} : PassesOwn (model P w) (Xof P w K mg base N qual scope f cdv A outer s H E).A (Xof P w K mg base N qual scope f cdv A outer s H E).env (Xof P w K mg base N qual scope f cdv A outer s H E).xe :=
  passes_of (X := Xof P w K mg base N qual scope f cdv A outer s H E) rfl
theorem start_rep {K : Frag} {F : Hp} {m : List Addr} {vs : List V} {as : LA} {N : List Str} {slots : Nat} (h : RepAs K F m vs as) (hN : N.length = slots) : RepS K F m (L2.start N vs) (as.map some ++ List.replicate (slots - as.length) none) := by
  have hl := Paired.length h
  unfold L2.start
  refine ⟨by simp [hl, hN], fun i a e => ?_⟩
  have hi : i < as.length := by
    by_cases hi : i < as.length
    · exact hi
    · rw [List.getElem?_append_right (by simpa using hi), List.getElem?_replicate] at e
      split at e <;> cases e
  rw [List.getElem?_append_left (by simpa using hi), List.getElem?_map] at e
  rw [List.getElem?_append_left (by simpa [hl] using hi), List.getElem?_map]
  have get : ∀ {vs : List V} {as : LA} {i : Nat} {a}, RepAs K F m vs as → as[i]? = some a → ∃ v, vs[i]? = some v ∧ RepA K F m v a := by
    intro vs as i a h
    induction h generalizing i with
    | nil => intro e; simp at e
    | cons r t ih =>
      intro e
      cases i with
      | zero => simp at e; subst e; exact ⟨_, rfl, r⟩
      | succ i => simpa using ih (by simpa using e)
  cases e2 : as[i]? with
  | none => rw [e2] at e; cases e
  | some b =>
    rw [e2] at e
    cases e
    obtain ⟨v, e3, r⟩ := get h e2
    exact ⟨v, by rw [e3]; rfl, r⟩
theorem RepA.app {K : Frag} {F : Hp} {m : List Addr} {v : V} {a : Wp.A} (l : List Addr) (h : RepA K F m v a) : RepA K F (m ++ l) v a := by
  cases a with
  | v d => exact h
  | t d => exact h
  | c n =>
    obtain ⟨b, e, rfl⟩ := h
    exact ⟨b, by rw [List.getElem?_append_left (List.getElem?_eq_some_iff.mp e).1]; exact e, rfl⟩
theorem Sim.dead {K : Frag} {F H : Hp} {m : List Addr} {μ : Mu} (S : Sim K F m μ H) (n : Nat) : Sim K F (m ++ List.replicate n 0) (μ ++ List.replicate n ⟨false, .dead⟩) H := by
  have low : ∀ (i : Nat) a c, (m ++ List.replicate n 0)[i]? = some a → (μ ++ List.replicate n ⟨false, .dead⟩)[i]? = some c → (m[i]? = some a ∧ μ[i]? = some c) ∨ c = ⟨false, .dead⟩ := by
    intro i a c e1 e2
    by_cases hi : i < m.length
    · rw [List.getElem?_append_left hi] at e1
      rw [List.getElem?_append_left (by rw [← S.len]; exact hi)] at e2
      exact .inl ⟨e1, e2⟩
    · rw [List.getElem?_append_right (by rw [← S.len]; omega), List.getElem?_replicate] at e2
      split at e2
      · cases e2; exact .inr rfl
      · cases e2
  refine ⟨by simp [S.len], S.sub, fun i a c e1 e2 => ?_, fun i j a c c' e1 e2 e3 e4 l1 l2 => ?_⟩
  · rcases low i a c e1 e2 with ⟨h1, h2⟩ | rfl
    · exact S.cell i a c h1 h2
    · exact True.intro
  · rcases low i a c e1 e3 with ⟨h1, h2⟩ | rfl
    · rcases low j a c' e2 e4 with ⟨h3, h4⟩ | rfl
      · exact S.inj i j a c c' h1 h3 h2 h4 l1 l2
      · exact l2.elim
    · exact l1.elim
theorem RepR.non {K : Frag} {F : Hp} {m : List Addr} {μ : Mu} {H : Hp} (md : Md) : RepR K md F m μ H .non (.v .non) := by
  cases md <;> exact Rep.non
/-- the def's promise from its body's reading -/
theorem sp_run {df : Df} {N : List Str} {md : Md} {n : Nat} {vs : List V} {H : Hp} {Q : VK} {E : XK} (hN : N.length = df.slots) (h : spOf K n md df.run vs H Q E) :
    ∃ n0, tSs K (WOf E) n0 md df.body { nx := fun _ H' => Q .non H', rt := Q } (L2.start N vs) H := by
  obtain ⟨hl, F, m, μ, as, S, rs, h⟩ := h
  have hm : (m ++ List.replicate df.cells 0).take μ.length = m := by rw [← S.len]; simp
  refine ⟨μ.length, F, m ++ List.replicate df.cells 0, μ ++ List.replicate df.cells ⟨false, .dead⟩, as.map some ++ List.replicate (df.slots - as.length) none, S.dead df.cells, ?_, ?_⟩
  · have R := start_rep rs hN
    exact ⟨R.len, fun i a e => let ⟨v, e1, r⟩ := R.get i a e; ⟨v, e1, r.app _⟩⟩
  · unfold Df.run at h
    cases e : exs μ.length df.body (as.map some ++ List.replicate (df.slots - as.length) none) (μ ++ List.replicate df.cells ⟨false, .dead⟩) with
    | nx ρ' μ' =>
      rw [e] at h
      intro F' m' H' σ' s t S' R'
      have S2 := S'.take μ.length
      rw [t, hm] at S2
      exact h F' H' s S2 .non (RepR.non md)
    | ret d μ' =>
      rw [e] at h
      intro F' H' v s S' r
      rw [hm] at S' r
      exact h F' H' s S' v r
    | exc c d ρ' μ' =>
      rw [e] at h
      intro F' m' H' σ' cls dx s t S' R' x
      have S2 := S'.take μ.length
      rw [t, hm] at S2
      exact h F' H' cls dx s S2 x
    | brk ρ' μ' => rw [e] at h; exact (show False from h).elim
    | cnt ρ' μ' => rw [e] at h; exact (show False from h).elim
    | no => rw [e] at h; exact h
/-- THE RULE for a def -/
theorem okFn {x qual : Str} {params : Arguments} {body : List Stmt} {scope : Scope} {f : Addr} {fd : FuncData} {N ps : List Str} {k n : Nat} {md : Md} {df : Df} (F : FunD K x qual params body scope [] [] f fd) (S : C8.scC N ps scope = true) (hn : ps.length = n) (hN : N.length = df.slots)
    (hbody : ∀ (cdv : Value) (A : Around) (outer : List PySem.Env) (s : Shared) (H : Hp) (E : XK) (n0 : Nat), Room k (A.deeper (envOfC qual scope s.heap.objs.size f cdv)) → PSs (Xof P w K mg base N qual scope f cdv A outer s H E) body (tSs K (WOf E) n0 md df.body)) :
    FnOk P w K mg base (L2.CX P w) (k + 1) f fd ps (spOf K n md df.run) := by
  refine F.ok (C8.fnScope_by S) (fun vs H Q E h => h.1.trans hn.symm) fun cdv A outer s H vs Q E hr hsp => ?_
  obtain ⟨n0, h⟩ := sp_run hN hsp
  exact ⟨_, hbody cdv A outer s H E n0 hr, h⟩
theorem okDef {x qual : Str} {params : Arguments} {body : List Stmt} {scope : Scope} {f : Addr} {fd : FuncData} {N ps : List Str} {k n : Nat} {md : Md} {df : Df} {kw : List (Nat × List Str × List Nat)} (F : FunD K x qual params body scope [] [] f fd) (hm : mg x = some (.ref f)) (S : C8.scC N ps scope = true) (hn : ps.length = n) (hN : N.length = df.slots)
    (hb : ∀ (kV doc pm : Value) (an : Option Addr) (cdv ct : Value) (us : List Value), us.length = ps.length → bindArgs (PySem.W.fnOf x qual params body scope .none kV doc pm an cdv ct) ⟨us, []⟩ = pure (ps.zip us))
    (hk : ∀ c ∈ kw, ∀ (kV doc pm : Value) (an : Option Addr) (cdv ct : Value) (us ws : List Value), us.length = c.1 → ws.length = c.2.1.length → bindArgs (PySem.W.fnOf x qual params body scope .none kV doc pm an cdv ct) ⟨us, c.2.1.zip ws⟩ = pure (ps.zip (pg c.2.2 us ws)))
    (hbody : ∀ (cdv : Value) (A : Around) (outer : List PySem.Env) (s : Shared) (H : Hp) (E : XK) (n0 : Nat), Room k (A.deeper (envOfC qual scope s.heap.objs.size f cdv)) → PSs (Xof P w K mg base N qual scope f cdv A outer s H E) body (tSs K (WOf E) n0 md df.body)) :
    FnAt P w K mg base (k + 1) x n md df.run kw := by
  refine ⟨⟨f, fd, ps, hm, F.kp, F.bindsN hb, ?_, okFn F S hn hN hbody⟩⟩
  intro c hc
  obtain ⟨oc, od, dV, kV, doc, pm, an, cdv, ct, osl, rfl, lk, hcd, hD, hK⟩ := F.ex
  rcases hD with ⟨_, rfl⟩ | ⟨e, _⟩
  · exact kbn_of (hk c hc kV doc pm an cdv ct)
  · exact absurd rfl e
theorem FnAt.mono {j k n : Nat} {x : Str} {md : Md} {F : Fn} {kw : List (Nat × List Str × List Nat)} (h : FnAt P w K mg base j x n md F kw) (hk : j ≤ k) : FnAt P w K mg base k x n md F kw := by
  obtain ⟨f, fd, ps, h1, h2, h3, h4, h5⟩ := h.at_
  exact ⟨⟨f, fd, ps, h1, h2, h3, h4, h5.mono hk⟩⟩
end
end Wp

set_option Elab.async false
set_option linter.all false
set_option maxRecDepth 100000
set_option autoImplicit true
/-! W3b: small helpers of the printed proofs. -/
namespace Wp
open PySem PySem.Spec PyProof.Rows L2
section
variable {X : Cx} {W : WX} {n0 : Nat} {new : Md} {e a b c o i : Expr} {es : List Expr} {A B C : E} {As Bs : List E} {pos : Pos}
theorem takes_W0 : Takes X W0 := fun u s' ⟨_, _, _, _, _, _, _, _, _, _, _, _, _, _, _, _, w⟩ => w.elim
theorem tE_n2v {K : Frag} {σ : L2.St} {H : Hp} {Q : VK} (h : tE K W .v A σ H Q) : tE K W .n A σ H Q := by
  obtain ⟨F, m, μ, ρ, S, R, h⟩ := h
  refine ⟨F, m, μ, ρ, S, R, ?_⟩
  cases q : ev A ρ μ with
  | no => rw [q] at h; exact h
  | exc c d μ' => rw [q] at h; exact h
  | ok a μ' =>
    rw [q] at h
    intro F' H' s S' v r
    cases a with
    | c n => exact (show False from r).elim
    | t n => exact (show False from r).elim
    | v d =>
      obtain ⟨F2, s2, S2, r2⟩ := S'.freezeN (show RepN K F' m μ' H' v d from r)
      exact h F2 H' (s.trans s2) S2 v r2
theorem okS_setByN {i : Nat} {st : Stmt} (h : PS X st (tAsg (tE X.K W .n A) (gName i))) : PS X st (tS X.K W n0 new (.set (.n i) A)) :=
  okS_setBy (PS.imp h fun D σ H q => tE_n2v q)
theorem prim_iadd {K : Frag} : PrimN K .v (rr2 (ipI fun i j => i + j)) P.iadd.f := by
  refine prim2 (fun _ => rfl) (fun _ _ _ => rfl) fun F m μ H x y a b res Q S r1 r2 e q => ?_
  cases a <;> cases b <;> try (cases e; done)
  cases r1.int
  cases r2.int
  cases e
  exact ⟨_, _, rfl, rfl, q F H _ (Same.refl F) S (.int _)⟩
theorem prim_isub {K : Frag} : PrimN K .v (rr2 (ipI fun i j => i - j)) P.isub.f := by
  refine prim2 (fun _ => rfl) (fun _ _ _ => rfl) fun F m μ H x y a b res Q S r1 r2 e q => ?_
  cases a <;> cases b <;> try (cases e; done)
  cases r1.int
  cases r2.int
  cases e
  exact ⟨_, _, rfl, rfl, q F H _ (Same.refl F) S (.int _)⟩
theorem okE_int {z : Int} {j : Nat} : PE X (.Constant (.int z) j pos) (tE X.K W .v (.k (.int z))) := okE_k pe_int fun _ => .int _
theorem okE_bl {z : Bool} {j : Nat} : PE X (.Constant (.bool z) j pos) (tE X.K W .v (.k (.bl z))) := okE_k pe_bl fun _ => .bl _
theorem okE_non {j : Nat} : PE X (.Constant .none j pos) (tE X.K W .v (.k .non)) := okE_k pe_non fun _ => .non
theorem okE_str {x : Str} {s : Tx} {j : Nat} (h : x = sx s) : PE X (.Constant (.str x) j pos) (tE X.K W .v (.k (.str s))) := by
  subst h
  exact okE_k pe_str fun _ => .str _
theorem okE_neg (ha : PE X a (tE X.K W .v A)) : PE X (.UnaryOp .USub a pos) (tE X.K W .v (.prim .neg [A])) := okE_un un_neg prim_neg ha
theorem okN_add (ha : PE X a (tE X.K W .v A)) (hb : PE X b (tE X.K W .v B)) : PE X (.BinOp a .Add b pos) (tE X.K W .n (.prim .add [A, B])) := okE_op op_addA prim_add ha hb
theorem okE_sub (ha : PE X a (tE X.K W .v A)) (hb : PE X b (tE X.K W .v B)) : PE X (.BinOp a .Sub b pos) (tE X.K W .v (.prim .sub [A, B])) := okE_op op_sub prim_sub ha hb
theorem okN_mul (ha : PE X a (tE X.K W .v A)) (hb : PE X b (tE X.K W .v B)) : PE X (.BinOp a .Mult b pos) (tE X.K W .n (.prim .mul [A, B])) := okE_op op_mulA prim_mul ha hb
theorem okE_fdiv (ha : PE X a (tE X.K W .v A)) (hb : PE X b (tE X.K W .v B)) : PE X (.BinOp a .FloorDiv b pos) (tE X.K W .v (.prim .fdiv [A, B])) := okE_op op_fdivZ prim_fdiv ha hb
theorem okE_mod (ha : PE X a (tE X.K W .v A)) (hb : PE X b (tE X.K W .v B)) : PE X (.BinOp a .Mod b pos) (tE X.K W .v (.prim .mod [A, B])) := okE_op op_modN prim_mod ha hb
theorem okE_pow (ha : PE X a (tE X.K W .v A)) (hb : PE X b (tE X.K W .v B)) : PE X (.BinOp a .Pow b pos) (tE X.K W .v (.prim .pow [A, B])) := okE_op op_pow prim_pow ha hb
theorem ok_lt (ha : PE X a (tE X.K W .v A)) (hb : PE X b (tE X.K W .v B)) (hm : behindInMarks .Lt b = false) : Ok X W (.Compare a [.Lt] [b] pos) (.prim .lt [A, B]) := ok_cmp op_lt prim_lt (cmp_bl (.inl rfl)) ha hb hm
theorem ok_le (ha : PE X a (tE X.K W .v A)) (hb : PE X b (tE X.K W .v B)) (hm : behindInMarks .LtE b = false) : Ok X W (.Compare a [.LtE] [b] pos) (.prim .le [A, B]) := ok_cmp op_le prim_le (cmp_bl (.inr (.inl rfl))) ha hb hm
theorem ok_gt (ha : PE X a (tE X.K W .v A)) (hb : PE X b (tE X.K W .v B)) (hm : behindInMarks .Gt b = false) : Ok X W (.Compare a [.Gt] [b] pos) (.prim .gt [A, B]) := ok_cmp op_gt prim_gt (cmp_bl (.inr (.inr (.inl rfl)))) ha hb hm
theorem ok_ge (ha : PE X a (tE X.K W .v A)) (hb : PE X b (tE X.K W .v B)) (hm : behindInMarks .GtE b = false) : Ok X W (.Compare a [.GtE] [b] pos) (.prim .ge [A, B]) := ok_cmp op_ge prim_ge (cmp_bl (.inr (.inr (.inr rfl)))) ha hb hm
theorem ok_eq (hu : X.A.units + 64 < cLine) (ha : PE X a (tE X.K W .v A)) (hb : PE X b (tE X.K W .v B)) (hm : behindInMarks .Eq b = false) : Ok X W (.Compare a [.Eq] [b] pos) (.prim .eq [A, B]) := ok_cmp (op_eqA hu) prim_eq eq_bl ha hb hm
theorem ok_ne (hu : X.A.units + 64 < cLine) (ha : PE X a (tE X.K W .v A)) (hb : PE X b (tE X.K W .v B)) (hm : behindInMarks .NotEq b = false) : Ok X W (.Compare a [.NotEq] [b] pos) (.prim .ne [A, B]) := ok_cmp (op_neA hu) prim_ne ne_bl ha hb hm
theorem ok_in (hu : X.A.units + 65 < cLine) (ha : PE X a (tE X.K W .v A)) (hb : PE X b (tE X.K W .v B)) (hm : behindInMarks .In b = false) : Ok X W (.Compare a [.In] [b] pos) (.prim .inn [A, B]) := ok_cmp (op_inA hu) prim_in in_bl ha hb hm
theorem ok_notin (hu : X.A.units + 65 < cLine) (ha : PE X a (tE X.K W .v A)) (hb : PE X b (tE X.K W .v B)) (hm : behindInMarks .NotIn b = false) : Ok X W (.Compare a [.NotIn] [b] pos) (.prim .notin [A, B]) := ok_cmp (op_notInA hu) prim_notin notin_bl ha hb hm
theorem ok_isB (ha : PE X a (tE X.K W .v A)) (hb : PE X b (tE X.K W .v B)) (hm : behindInMarks .Is b = false) : Ok X W (.Compare a [.Is] [b] pos) (.prim .isB [A, B]) := ok_cmp op_isBl prim_isB isB_bl ha hb hm
theorem ok_notB (ha : PE X a (tE X.K W .v A)) (hb : PE X b (tE X.K W .v B)) (hm : behindInMarks .IsNot b = false) : Ok X W (.Compare a [.IsNot] [b] pos) (.prim .notB [A, B]) := ok_cmp op_notBl prim_notB notB_bl ha hb hm
theorem ok_chLL (ha : PE X a (tE X.K W .v A)) (hb : PE X b (tE X.K W .v B)) (hc : PE X c (tE X.K W .v C)) (hm : lastMarks [.Lt, .Lt] [b, c] = false) : Ok X W (.Compare a [.Lt, .Lt] [b, c] pos) (.chain .lt .lt A B C) := ok_chain op_lt op_lt prim_lt prim_lt (cmp_bl (.inl rfl)) (cmp_bl (.inl rfl)) ha hb hc hm
theorem ok_chLE (ha : PE X a (tE X.K W .v A)) (hb : PE X b (tE X.K W .v B)) (hc : PE X c (tE X.K W .v C)) (hm : lastMarks [.Lt, .LtE] [b, c] = false) : Ok X W (.Compare a [.Lt, .LtE] [b, c] pos) (.chain .lt .le A B C) := ok_chain op_lt op_le prim_lt prim_le (cmp_bl (.inl rfl)) (cmp_bl (.inr (.inl rfl))) ha hb hc hm
theorem ok_chEL (ha : PE X a (tE X.K W .v A)) (hb : PE X b (tE X.K W .v B)) (hc : PE X c (tE X.K W .v C)) (hm : lastMarks [.LtE, .Lt] [b, c] = false) : Ok X W (.Compare a [.LtE, .Lt] [b, c] pos) (.chain .le .lt A B C) := ok_chain op_le op_lt prim_le prim_lt (cmp_bl (.inr (.inl rfl))) (cmp_bl (.inl rfl)) ha hb hc hm
theorem ok_chEE (ha : PE X a (tE X.K W .v A)) (hb : PE X b (tE X.K W .v B)) (hc : PE X c (tE X.K W .v C)) (hm : lastMarks [.LtE, .LtE] [b, c] = false) : Ok X W (.Compare a [.LtE, .LtE] [b, c] pos) (.chain .le .le A B C) := ok_chain op_le op_le prim_le prim_le (cmp_bl (.inr (.inl rfl))) (cmp_bl (.inr (.inl rfl))) ha hb hc hm
theorem okG_nameX {i : Nat} {x : Str} (hN : X.N.Nodup) (hi : X.N[i]? = some x) (hx : Loc X.env.scope x) (hf : X.fn x = true ∨ X.env.scope.names.lookup x = some .local) : OkG (· = X) X.K (.Name x pos) (.n i) :=
  okG_name fun Y hY => by cases hY; exact ⟨hN, hi, hx, hf⟩
/-- in a comprehension's block a name of its own -/
theorem okG_nameB {i : Nat} {x : Str} {scope : Scope} (hN : X.N.Nodup) (hi : X.N[i]? = some x) (hx : (relS scope X.env.scope).names.lookup x = some .local) : OkG (Blk X scope) X.K (.Name x pos) (.n i) :=
  okG_name fun Y hY => by
    obtain ⟨s, H, C, cl, fp, rfl⟩ := hY
    exact ⟨hN, hi, .inl hx, .inr hx⟩
theorem room65 {k : Nat} (r : Room k X.A) : X.A.units + 65 < cLine := by have := r.un; omega
theorem room1 {k : Nat} (r : Room k X.A) : X.A.units + 1 < cLine := by have := r.un; omega
theorem prim_int {K : Frag} : PrimN K .v (fun xs H Q => (∃ i, xs = [.int i] ∧ Q (.int i) H) ∨ ∃ k, xs = [.bl k] ∧ Q (.int (if k then 1 else 0)) H) P.int.f := by
  have h : PrimN K .v (rr1 fun x H Q => (∃ i, x = .int i ∧ Q (.int i) H) ∨ ∃ k, x = .bl k ∧ Q (.int (if k then 1 else 0)) H) P.int.f := by
    refine prim1 (fun _ _ => rfl) (fun _ _ _ => rfl) fun F m μ H x a res Q S r1 e q => ?_
    cases a <;> try (cases e; done)
    · cases r1.bl
      cases e
      exact .inr ⟨_, rfl, q F H _ (Same.refl F) S (.int _)⟩
    · cases r1.int
      cases e
      exact .inl ⟨_, rfl, q F H _ (Same.refl F) S (.int _)⟩
  intro F m μ H vs ds res Q S r e q
  obtain ⟨x, rfl, h⟩ := h F m μ H vs ds res Q S r e q
  rcases h with ⟨i, rfl, hq⟩ | ⟨i, rfl, hq⟩
  · exact .inl ⟨i, rfl, hq⟩
  · exact .inr ⟨i, rfl, hq⟩
theorem cr_intA : CallR X (.type "int") (fun xs H Q => (∃ i, xs = [.int i] ∧ Q (.int i) H) ∨ ∃ k, xs = [.bl k] ∧ Q (.int (if k then 1 else 0)) H) := call_int1
/-- of a def that is never called so deep -/
theorem okDef0 {P : Program} {w : World} {K : Frag} {mg : Str → Option Value} {base : Heap} {x qual : Str} {params : Arguments} {body : List Stmt} {scope : Scope} {f : Addr} {fd : FuncData} {ps : List Str} {k n : Nat} {md : Md} (F : FunD K x qual params body scope [] [] f fd) (hm : mg x = some (.ref f)) (hn : ps.length = n)
    (hb : ∀ (kV doc pm : Value) (an : Option Addr) (cdv ct : Value) (us : List Value), us.length = ps.length → bindArgs (PySem.W.fnOf x qual params body scope .none kV doc pm an cdv ct) ⟨us, []⟩ = pure (ps.zip us)) :
    FnAt P w K mg base k x n md (fun _ _ => .no) [] := by
  refine ⟨⟨f, fd, ps, hm, F.kp, F.bindsN hb, fun (c : Nat × List Str × List Nat) hc => (List.not_mem_nil hc).elim, ⟨fun vs H Q E h => h.1.trans hn.symm, fun A outer s H args us vs Q E hr e0 b r h => ?_⟩⟩⟩
  obtain ⟨_, _, _, _, _, _, _, h⟩ := h
  exact (show False from h).elim
def tTy (ts : List Ty) : TA := fun _ H Q => Q (ts.map fun t => V.ty t.tn) H
theorem okTy_nil : PA X [] (tTy []) := PA.imp pa_nil fun _ _ _ h => h
theorem okTy_cons {t : Ty} {ts : List Ty} (ha : PE X e (tC (.ty t.tn))) (hr : PA X es (tTy ts)) (hs : starEach (e :: es) X.env = (false, eval e X.env) :: starEach es X.env) : PA X (e :: es) (tTy (t :: ts)) :=
  PA.imp (pa_cons ha hr hs) fun _ _ _ h => h
end
end Wp

set_option Elab.async false
set_option linter.all false
set_option maxRecDepth 100000
set_option autoImplicit true
/-! W4: the head, with facts of one's own; the end. -/
namespace Wp
open PySem PySem.Spec PyProof.Rows L2
abbrev AlX : Type := Bool × He.AlD
def obsX (ex : Frag → Bool) (n : Nat) (fa : List He.Fa) (fn : List He.DefD) (g : Addr → Option Obj) : AlX := (ex (He.frG g (He.asD g n)), He.obsD fa fn (He.frG g (He.asD g n)))
def hookX (ex : Frag → Bool) (n : Nat) (fa : List He.Fa) (fn : List He.DefD) : PySem.W.Hook where
  α := AlX
  obs := fun s => obsX ex n fa fn s.heap.get?
  val := fun _ => (true, He.valD fn)
  says := fun _ h => ∃ K : Frag, K.In h ∧ ex K = true ∧ He.SaysD fa fn K
  of := fun _ _ e => ⟨_, He.frG_in, congrArg (fun z : AlX => z.1) e, congrArg (fun z : AlX => z.2) e⟩
  keeps := fun _ _ _ ⟨K, hK, c1, c2⟩ k => ⟨K, PySem.W.Frag.In.keeps hK k, c1, c2⟩
theorem obsX_eq {ex : Frag → Bool} {n : Nat} {fa : List He.Fa} {fn : List He.DefD} {g : Addr → Option Obj} {s : Shared} (h : ∀ a, g a = s.heap.get? a) : obsX ex n fa fn g = (hookX ex n fa fn).obs s := by
  have e : g = s.heap.get? := funext h
  rw [e] <;> rfl
/-- a module's name for a built-in function -/
def bltB (K : Frag) (x : Str) (id : String) : Bool := He.eqO (PySem.W.nsIn K mainGlobals x) (some (some (.builtin id)))
theorem bltB_ok {K : Frag} {h : Heap} {mg : Str → Option Value} (X : K.In h) (G : h.Ns mainGlobals mg) {x : Str} {id : String} (c : bltB K x id = true) : mg x = some (.builtin id) := PySem.W.mg_of X G (He.eqO_ok c)
/-- the constants of ints and texts in a tuple -/
theorem rep_ctup {K : Frag} {x : Str} {vs : List He.Dv} {ds : List D} (h : He.tupB K x vs = true) (r : ∀ F, Reps K F (vs.map (He.Dv.v K)) ds) (F : Hp) : Rep K F (.ref (He.ga K x)) (.tup ds) := .tup (He.tupB_ok h F) (r F)
theorem reps_ints {K : Frag} {F : Hp} : ∀ ns : List Int, Reps K F (ns.map V.int) (ns.map D.int)
  | [] => .nil
  | n :: ns => .cons (.int n) (reps_ints ns)
/-- the law's promise from what its text computes -/
theorem law_sp {K : Frag} {F : Fn} {H : Hp} {a : Addr} {ns : List Int} (hS : SqL K H a (ns.map V.int)) (h : ∃ μ, F [.v (.frz (ns.map D.int))] [] = .ok (.bl true) μ) : spOf K 1 .v F [.ref a] H (fun v _ => v = .bl true) fun _ _ _ => False := by
  obtain ⟨μ, h⟩ := h
  refine ⟨rfl, H, [], [], [.v (.frz (ns.map D.int))], ⟨rfl, Same.refl H, fun i a c e => by simp at e, fun i j a c c' e => by simp at e⟩, .cons (Rep.frz hS (reps_ints ns)) .nil, ?_⟩
  rw [h]
  intro F' H' s S' v r
  cases (show Rep K F' v (.bl true) from r)
  rfl
/-- nothing is let out -/
theorem ok_CX0 {P : Program} {w : World} {K : Frag} {mg : Str → Option Value} {base : Heap} {k : Nat} {f : Addr} {fd : FuncData} {ps : List Str} {sp : Sp} (F : FnOk P w K mg base (L2.CX P w) k f fd ps sp) : FnOk P w K mg base C8.CX0 k f fd ps (fun vs H Q _ => sp vs H Q fun _ _ _ => False) := by
  refine ⟨fun vs H Q E h => F.len _ _ _ _ h, fun A outer s H args us vs Q E hr e0 hb hv h => codeAny_mono (F.run A outer s H args us vs Q (fun _ _ _ => False) hr e0 hb hv h) fun r s' q => ?_⟩
  cases r with
  | error e =>
    obtain ⟨_, _, _, _, _, _, _, _, _, _, _, _, z⟩ := (show L2.CX P w outer H s (fun _ _ _ => False) e s' from q)
    exact z.elim
  | ok fl => cases fl <;> exact q
end Wp

set_option linter.all false
set_option maxRecDepth 100000
namespace Lw
open Wp

def D_is_integer : Df := ⟨1, 0, [(.ret (.and (.prim (.isinst [.int]) [(.var 0)]) (.prim .not [(.prim (.isinst [.bool]) [(.var 0)])])))]⟩
abbrev F_is_integer : Fn := D_is_integer.run
def D_is_natural : Df := ⟨1, 0, [(.ret (.and (.call "is_integer" F_is_integer [(.var 0)]) (.prim .ge [(.var 0), (.k (.int 0))])))]⟩
abbrev F_is_natural : Fn := D_is_natural.run
def D_is_below : Df := ⟨2, 0, [(.ret (.and (.call "is_natural" F_is_natural [(.var 0)]) (.prim .lt [(.var 0), (.var 1)])))]⟩
abbrev F_is_below : Fn := D_is_below.run
def D_is_pair : Df := ⟨1, 0, [(.ret (.and (.prim (.isinst [.tuple]) [(.var 0)]) (.prim .eq [(.prim .len [(.var 0)]), (.k (.int 2))])))]⟩
abbrev F_is_pair : Fn := D_is_pair.run
def D_lowest : Df := ⟨3, 0, [(.set (.n 2) (.prim .gcd [(.var 0), (.var 1)])),
  (.ife (.prim .lt [(.var 1), (.k (.int 0))]) [(.set (.n 2) (.prim .neg [(.var 2)]))] []),
  (.ret (.tup [(.prim .fdiv [(.var 0), (.var 2)]), (.prim .fdiv [(.var 1), (.var 2)])]))]⟩
abbrev F_lowest : Fn := D_lowest.run
def D_is_number_of : Df := ⟨1, 0, [(.ife (.or (.prim .not [(.call "is_pair" F_is_pair [(.var 0)])]) (.or (.prim .not [(.call "is_integer" F_is_integer [(.prim .idx [(.var 0), (.k (.int 0))])])]) (.prim .not [(.call "is_integer" F_is_integer [(.prim .idx [(.var 0), (.k (.int 1))])])]))) [(.ret (.k (.bl false)))] []),
  (.ret (.and (.prim .gt [(.prim .idx [(.var 0), (.k (.int 1))]), (.k (.int 0))]) (.prim .eq [(.call "lowest" F_lowest [(.prim .idx [(.var 0), (.k (.int 0))]), (.prim .idx [(.var 0), (.k (.int 1))])]), (.var 0)])))]⟩
abbrev F_is_number_of : Fn := D_is_number_of.run
def D_is_part_of_one : Df := ⟨1, 0, [(.ret (.and (.call "is_number_of" F_is_number_of [(.var 0)]) (.chain .le .le (.k (.int 0)) (.prim .idx [(.var 0), (.k (.int 0))]) (.prim .idx [(.var 0), (.k (.int 1))]))))]⟩
abbrev F_is_part_of_one : Fn := D_is_part_of_one.run
def D_whole : Df := ⟨1, 0, [(.ret (.tup [(.var 0), (.k (.int 1))]))]⟩
abbrev F_whole : Fn := D_whole.run
def D_sum_of_two : Df := ⟨2, 0, [(.ret (.call "lowest" F_lowest [(.prim .add [(.prim .mul [(.prim .idx [(.var 0), (.k (.int 0))]), (.prim .idx [(.var 1), (.k (.int 1))])]), (.prim .mul [(.prim .idx [(.var 1), (.k (.int 0))]), (.prim .idx [(.var 0), (.k (.int 1))])])]), (.prim .mul [(.prim .idx [(.var 0), (.k (.int 1))]), (.prim .idx [(.var 1), (.k (.int 1))])])]))]⟩
abbrev F_sum_of_two : Fn := D_sum_of_two.run
def D_product : Df := ⟨2, 0, [(.ret (.call "lowest" F_lowest [(.prim .mul [(.prim .idx [(.var 0), (.k (.int 0))]), (.prim .idx [(.var 1), (.k (.int 0))])]), (.prim .mul [(.prim .idx [(.var 0), (.k (.int 1))]), (.prim .idx [(.var 1), (.k (.int 1))])])]))]⟩
abbrev F_product : Fn := D_product.run
def D_quotient : Df := ⟨2, 0, [(.ret (.call "lowest" F_lowest [(.prim .mul [(.prim .idx [(.var 0), (.k (.int 0))]), (.prim .idx [(.var 1), (.k (.int 1))])]), (.prim .mul [(.prim .idx [(.var 0), (.k (.int 1))]), (.prim .idx [(.var 1), (.k (.int 0))])])]))]⟩
abbrev F_quotient : Fn := D_quotient.run
def D_is_less : Df := ⟨2, 0, [(.ret (.prim .lt [(.prim .mul [(.prim .idx [(.var 0), (.k (.int 0))]), (.prim .idx [(.var 1), (.k (.int 1))])]), (.prim .mul [(.prim .idx [(.var 1), (.k (.int 0))]), (.prim .idx [(.var 0), (.k (.int 1))])])]))]⟩
abbrev F_is_less : Fn := D_is_less.run
def D_sum_of_all : Df := ⟨3, 0, [(.set (.n 1) (.g "ZERO" (.tup [(.int 0), (.int 1)]))),
  (.for (.n 2) (.of (.var 0)) [(.set (.n 1) (.call "sum_of_two" F_sum_of_two [(.var 1), (.var 2)]))]),
  (.ret (.var 1))]⟩
abbrev F_sum_of_all : Fn := D_sum_of_all.run
def D_power : Df := ⟨4, 0, [(.set (.n 2) (.k (.int 1))),
  (.for (.n 3) (.rng [(.var 1)]) [(.set (.n 2) (.prim .mul [(.var 2), (.var 0)]))]),
  (.ret (.var 2))]⟩
abbrev F_power : Fn := D_power.run
def D_by_halves : Df := ⟨2, 0, [(.ret (.call "lowest" F_lowest [(.prim .idx [(.var 0), (.k (.int 0))]), (.prim .mul [(.prim .idx [(.var 0), (.k (.int 1))]), (.call "power" F_power [(.k (.int 2)), (.var 1)])])]))]⟩
abbrev F_by_halves : Fn := D_by_halves.run
def D_check_part : Df := ⟨1, 0, [(.ife (.prim .not [(.call "is_part_of_one" F_is_part_of_one [(.var 0)])]) [.stuck] [])]⟩
abbrev F_check_part : Fn := D_check_part.run
def D_check_natural : Df := ⟨1, 0, [(.ife (.prim .not [(.call "is_natural" F_is_natural [(.var 0)])]) [.stuck] [])]⟩
abbrev F_check_natural : Fn := D_check_natural.run
def D_rest_of : Df := ⟨4, 0, [(.set (.t [(.n 2), (.n 3)]) (.var 0)),
  (.ret (.call "lowest" F_lowest [(.prim .mod [(.prim .mul [(.var 2), (.call "power" F_power [(.k (.int 2)), (.var 1)])]), (.var 3)]), (.var 3)]))]⟩
abbrev F_rest_of : Fn := D_rest_of.run
def D_figure_of : Df := ⟨4, 0, [(.set (.t [(.n 2), (.n 3)]) (.var 0)),
  (.ret (.prim .mod [(.prim .fdiv [(.prim .mul [(.var 2), (.call "power" F_power [(.k (.int 2)), (.var 1)])]), (.var 3)]), (.k (.int 2))]))]⟩
abbrev F_figure_of : Fn := D_figure_of.run
def D_shortest : Df := ⟨3, 0, [(.for (.n 2) (.rng [(.prim .len [(.var 0)])]) [(.ife (.prim .ne [(.prim .idx [(.var 0), (.prim .neg [(.k (.int 1))])]), (.prim .idx [(.var 1), (.prim .neg [(.k (.int 1))])])]) [.brk] []),
  (.par [0, 1] [.v (.prim .slHi [(.var 0), (.prim .neg [(.k (.int 1))])]), .v (.prim .add [(.prim .slLo [(.var 1), (.prim .neg [(.k (.int 1))])]), (.prim .slHi [(.var 1), (.prim .neg [(.k (.int 1))])])])])]),
  (.ret (.tup [(.var 0), (.var 1)]))]⟩
abbrev F_shortest : Fn := D_shortest.run
def D_figures_of : Df := ⟨7, 2, [(.par [1, 2, 3] [.n 0 (.lst [(.call "figure_of" F_figure_of [(.var 0), (.k (.int 0))])]), .dT 1, .t (.call "rest_of" F_rest_of [(.var 0), (.k (.int 0))])]),
  (.for (.n 4) (.rng [(.prim .add [(.prim .idx [(.var 0), (.k (.int 1))]), (.k (.int 1))])]) [(.ife (.inD true (.var 3) (.var 2)) [.brk] []),
  (.updD (.var 2) (.var 3) (.prim .len [(.var 1)])),
  (.set (.n 6) (.call "product" F_product [(.fz (.var 3)), (.call "whole" F_whole [(.k (.int 2))])])),
  (.xp (.mut .append (.var 1) [(.prim .int [(.prim .not [(.call "is_less" F_is_less [(.var 6), (.g "ONE" (.tup [(.int 1), (.int 1)]))])])])])),
  (.setT 3 (.call "rest_of" F_rest_of [(.fz (.var 3)), (.k (.int 1))]))]),
  (.set (.n 5) (.look .get (.var 2) [(.var 3)])),
  (.ret (.call "shortest" F_shortest [(.prim .tuple [(.prim .slHi [(.var 1), (.var 5)])]), (.prim .tuple [(.prim .slLo [(.var 1), (.var 5)])])]))]⟩
abbrev F_figures_of : Fn := D_figures_of.run
def D_figures : Df := ⟨1, 0, [(.xp (.call "check_part" F_check_part [(.var 0)])),
  (.ret (.call "figures_of" F_figures_of [(.var 0)]))]⟩
abbrev F_figures : Fn := D_figures.run
def D_are_figures : Df := ⟨2, 0, [(.ret (.and (.prim (.isinst [.tuple]) [(.var 0)]) (.prim .all [(.lc (.of (.var 0)) (.n 1) [] (.call "is_below" F_is_below [(.var 1), (.k (.int 2))]) [1])])))]⟩
abbrev F_are_figures : Fn := D_are_figures.run
def D_sum_of_figures : Df := ⟨4, 0, [(.ret (.call "sum_of_all" F_sum_of_all [(.lc (.enum (.var 0)) (.t [(.n 2), (.n 3)]) [] (.call "by_halves" F_by_halves [(.call "whole" F_whole [(.var 3)]), (.prim .add [(.var 1), (.var 2)])]) [2, 3])]))]⟩
abbrev F_sum_of_figures : Fn := D_sum_of_figures.run
def D_again_and_again : Df := ⟨2, 0, [(.ret (.call "quotient" F_quotient [(.var 0), (.call "lowest" F_lowest [(.prim .sub [(.call "power" F_power [(.k (.int 2)), (.var 1)]), (.k (.int 1))]), (.call "power" F_power [(.k (.int 2)), (.var 1)])])]))]⟩
abbrev F_again_and_again : Fn := D_again_and_again.run
def D_number_of : Df := ⟨3, 0, [(.set (.t [(.n 1), (.n 2)]) (.var 0)),
  (.ret (.call "sum_of_two" F_sum_of_two [(.call "sum_of_figures" F_sum_of_figures [(.var 1), (.k (.int 0))]), (.call "again_and_again" F_again_and_again [(.call "sum_of_figures" F_sum_of_figures [(.var 2), (.prim .len [(.var 1)])]), (.prim .len [(.var 2)])])]))]⟩
abbrev F_number_of : Fn := D_number_of.run
def D_number : Df := ⟨2, 0, [(.ife (.or (.prim .not [(.call "is_pair" F_is_pair [(.var 0)])]) (.or (.prim .not [(.call "are_figures" F_are_figures [(.prim .idx [(.var 0), (.k (.int 0))])])]) (.or (.prim .not [(.call "are_figures" F_are_figures [(.prim .idx [(.var 0), (.k (.int 1))])])]) (.prim .eq [(.prim .len [(.prim .idx [(.var 0), (.k (.int 1))])]), (.k (.int 0))])))) [.stuck] []),
  (.set (.n 1) (.call "number_of" F_number_of [(.var 0)])),
  (.ife (.call "is_less" F_is_less [(.g "ONE" (.tup [(.int 1), (.int 1)])), (.var 1)]) [.stuck] []),
  (.ret (.var 1))]⟩
abbrev F_number : Fn := D_number.run
def D_figure : Df := ⟨2, 0, [(.xp (.call "check_part" F_check_part [(.var 0)])),
  (.xp (.call "check_natural" F_check_natural [(.var 1)])),
  (.ret (.call "figure_of" F_figure_of [(.var 0), (.var 1)]))]⟩
abbrev F_figure : Fn := D_figure.run
def D_cost_of : Df := ⟨11, 0, [(.set (.t [(.n 1), (.n 2)]) (.call "figures_of" F_figures_of [(.var 0)])),
  (.set (.n 3) (.call "sum_of_all" F_sum_of_all [(.lc (.enum (.var 1)) (.t [(.n 10), (.n 7)]) [] (.call "by_halves" F_by_halves [(.call "whole" F_whole [(.prim .mul [(.var 10), (.var 7)])]), (.var 10)]) [10, 7])])),
  (.set (.n 4) (.prim .len [(.var 2)])),
  (.set (.n 5) (.g "ZERO" (.tup [(.int 0), (.int 1)]))),
  (.for (.t [(.n 6), (.n 7)]) (.enum (.var 2)) [(.set (.n 10) (.prim .add [(.prim .len [(.var 1)]), (.var 6)])),
  (.set (.n 5) (.call "sum_of_two" F_sum_of_two [(.var 5), (.call "by_halves" F_by_halves [(.call "whole" F_whole [(.prim .mul [(.var 10), (.var 7)])]), (.var 10)])]))]),
  (.set (.n 8) (.call "again_and_again" F_again_and_again [(.call "sum_of_figures" F_sum_of_figures [(.var 2), (.prim .len [(.var 1)])]), (.var 4)])),
  (.set (.n 9) (.call "quotient" F_quotient [(.call "product" F_product [(.call "whole" F_whole [(.var 4)]), (.var 8)]), (.call "whole" F_whole [(.prim .sub [(.call "power" F_power [(.k (.int 2)), (.var 4)]), (.k (.int 1))])])])),
  (.ret (.call "sum_of_all" F_sum_of_all [(.lst [(.var 3), (.call "again_and_again" F_again_and_again [(.var 5), (.var 4)]), (.var 9)])]))]⟩
abbrev F_cost_of : Fn := D_cost_of.run
def D_cost : Df := ⟨1, 0, [(.xp (.call "check_part" F_check_part [(.var 0)])),
  (.ret (.call "cost_of" F_cost_of [(.var 0)]))]⟩
abbrev F_cost : Fn := D_cost.run
def D_rest : Df := ⟨2, 0, [(.xp (.call "check_part" F_check_part [(.var 0)])),
  (.xp (.call "check_natural" F_check_natural [(.var 1)])),
  (.ret (.call "rest_of" F_rest_of [(.var 0), (.var 1)]))]⟩
abbrev F_rest : Fn := D_rest.run
def D__law_pot : Df := ⟨1, 0, [(.ret (.prim .add [(.lst [(.k (.int 0)), (.k (.int 5801)), (.k (.int 3))]), (.prim .list [(.var 0)])]))]⟩
abbrev F__law_pot : Fn := D__law_pot.run
def D__law_take : Df := ⟨5, 0, [(.ife (.and (.prim .eq [(.prim .idx [(.var 0), (.k (.int 0))]), (.k (.int 0))]) (.prim .lt [(.prim .idx [(.var 0), (.k (.int 2))]), (.prim .len [(.var 0)])])) [(.set (.n 2) (.prim .idx [(.var 0), (.prim .idx [(.var 0), (.k (.int 2))])])),
  (.augL (.var 0) (.k (.int 2)) .iadd (.k (.int 1))),
  (.ife (.prim .ge [(.var 2), (.prim .pow [(.k (.int 10)), (.k (.int 18))])]) [(.updL (.var 0) (.k (.int 0)) (.prim .sub [(.var 2), (.prim .pow [(.k (.int 10)), (.k (.int 18))])]))] [(.set (.n 4) (.prim .mod [(.prim .int [(.var 2)]), (.k (.int 2147483647))])),
  (.set (.n 4) (.prim .mod [(.prim .int [(.prim .add [(.prim .add [(.prim .mul [(.var 4), (.var 4)]), (.prim .mul [(.k (.int 48271)), (.var 4)])]), (.prim .mul [(.k (.int 613)), (.prim .idx [(.var 0), (.k (.int 2))])])])]), (.k (.int 2147483629))])),
  (.updL (.var 0) (.k (.int 1)) (.prim .mod [(.prim .int [(.prim .add [(.prim .idx [(.var 0), (.k (.int 1))]), (.var 4)])]), (.k (.int 2147483629))]))])] []),
  (.ife (.prim .gt [(.prim .idx [(.var 0), (.k (.int 0))]), (.k (.int 0))]) [(.set (.n 3) (.prim .mod [(.prim .int [(.prim .idx [(.var 0), (.k (.int 0))])]), (.var 1)])),
  (.updL (.var 0) (.k (.int 0)) (.prim .fdiv [(.prim .idx [(.var 0), (.k (.int 0))]), (.var 1)])),
  (.ret (.var 3))] []),
  (.updL (.var 0) (.k (.int 1)) (.prim .mod [(.prim .int [(.prim .add [(.prim .add [(.prim .mul [(.prim .idx [(.var 0), (.k (.int 1))]), (.k (.int 69621))]), (.prim .mul [(.k (.int 30323)), (.prim .idx [(.var 0), (.k (.int 2))])])]), (.k (.int 19))])]), (.k (.int 2147483647))])),
  (.updL (.var 0) (.k (.int 1)) (.prim .mod [(.prim .int [(.prim .add [(.prim .mul [(.prim .idx [(.var 0), (.k (.int 1))]), (.prim .idx [(.var 0), (.k (.int 1))])]), (.k (.int 5))])]), (.k (.int 2147483629))])),
  (.ret (.prim .mod [(.prim .int [(.prim .fdiv [(.prim .idx [(.var 0), (.k (.int 1))]), (.k (.int 16))])]), (.var 1)]))]⟩
abbrev F__law_take : Fn := D__law_take.run
def D__law_same (F : Fn) : Df := ⟨3, 0, [(.ife (.prim .isN [(.var 1)]) [(.ret (.prim .isN [(.var 0)]))] []),
  (.ife (.prim (.isinst [.bool, .str]) [(.var 1)]) [(.ret (.and (.prim .eq [(.prim (.isinst [.bool]) [(.var 0)]), (.prim (.isinst [.bool]) [(.var 1)])]) (.and (.prim (.isinst [.bool, .str]) [(.var 0)]) (.prim .eq [(.var 0), (.var 1)]))))] []),
  (.ife (.prim (.isinst [.int]) [(.var 1)]) [(.ret (.and (.prim (.isinst [.int]) [(.var 0)]) (.and (.prim .not [(.prim (.isinst [.bool]) [(.var 0)])]) (.prim .eq [(.var 0), (.var 1)]))))] []),
  (.ife (.or (.prim .ne [(.prim (.isinst [.list]) [(.var 1)]), (.prim (.isinst [.list]) [(.var 0)])]) (.prim .ne [(.prim (.isinst [.tuple]) [(.var 1)]), (.prim (.isinst [.tuple]) [(.var 0)])])) [(.ret (.k (.bl false)))] []),
  (.ret (.and (.prim .eq [(.prim .len [(.var 0)]), (.prim .len [(.var 1)])]) (.prim .all [(.lc (.rng [(.prim .len [(.var 1)])]) (.n 2) [] (.call "_law_same" F [(.prim .idx [(.var 0), (.var 2)]), (.prim .idx [(.var 1), (.var 2)])]) [2])])))]⟩
def G__law_same : Nat → Fn
  | 0 => fun _ _ => .no
  | k + 1 => (D__law_same (G__law_same k)).run
abbrev F__law_same : Fn := G__law_same 40
def D__law_divisor : Df := ⟨5, 0, [(.par [2, 3] [.v (.prim .abs [(.var 0)]), .v (.prim .abs [(.var 1)])]),
  (.for (.n 4) (.rng [(.k (.int 20000))]) [(.ife (.prim .eq [(.var 3), (.k (.int 0))]) [.brk] []),
  (.par [2, 3] [.v (.var 3), .v (.prim .mod [(.prim .int [(.var 2)]), (.var 3)])])]),
  (.ret (.var 2))]⟩
abbrev F__law_divisor : Fn := D__law_divisor.run
def D__law_low : Df := ⟨3, 0, [(.set (.n 2) (.ife (.prim .gt [(.var 1), (.k (.int 0))]) (.call "_law_divisor" F__law_divisor [(.var 0), (.var 1)]) (.prim .sub [(.k (.int 0)), (.call "_law_divisor" F__law_divisor [(.var 0), (.var 1)])]))),
  (.ret (.tup [(.prim .fdiv [(.var 0), (.var 2)]), (.prim .fdiv [(.var 1), (.var 2)])]))]⟩
abbrev F__law_low : Fn := D__law_low.run
def D__law_add : Df := ⟨2, 0, [(.ret (.call "_law_low" F__law_low [(.prim .add [(.prim .mul [(.prim .idx [(.var 0), (.k (.int 0))]), (.prim .idx [(.var 1), (.k (.int 1))])]), (.prim .mul [(.prim .idx [(.var 1), (.k (.int 0))]), (.prim .idx [(.var 0), (.k (.int 1))])])]), (.prim .mul [(.prim .idx [(.var 0), (.k (.int 1))]), (.prim .idx [(.var 1), (.k (.int 1))])])]))]⟩
abbrev F__law_add : Fn := D__law_add.run
def D__law_mul : Df := ⟨2, 0, [(.ret (.call "_law_low" F__law_low [(.prim .mul [(.prim .idx [(.var 0), (.k (.int 0))]), (.prim .idx [(.var 1), (.k (.int 0))])]), (.prim .mul [(.prim .idx [(.var 0), (.k (.int 1))]), (.prim .idx [(.var 1), (.k (.int 1))])])]))]⟩
abbrev F__law_mul : Fn := D__law_mul.run
def D__law_doubled : Df := ⟨7, 2, [(.par [2, 3] [.v (.prim .fdiv [(.prim .idx [(.var 0), (.k (.int 0))]), (.prim .idx [(.var 0), (.k (.int 1))])]), .v (.prim .mod [(.prim .int [(.prim .idx [(.var 0), (.k (.int 0))])]), (.prim .idx [(.var 0), (.k (.int 1))])])]),
  (.par [4, 5] [.n 0 (.lst [(.var 2)]), .n 1 (.lst [(.call "_law_low" F__law_low [(.var 3), (.prim .idx [(.var 0), (.k (.int 1))])])])]),
  (.for (.n 6) (.rng [(.k (.int 1)), (.var 1)]) [(.set (.n 3) (.prim .mul [(.k (.int 2)), (.var 3)])),
  (.xp (.mut .append (.var 4) [(.prim .fdiv [(.var 3), (.prim .idx [(.var 0), (.k (.int 1))])])])),
  (.set (.n 3) (.prim .mod [(.prim .int [(.var 3)]), (.prim .idx [(.var 0), (.k (.int 1))])])),
  (.xp (.mut .append (.var 5) [(.call "_law_low" F__law_low [(.var 3), (.prim .idx [(.var 0), (.k (.int 1))])])]))]),
  (.ret (.tup [(.fz (.var 4)), (.fz (.var 5))]))]⟩
abbrev F__law_doubled : Fn := D__law_doubled.run
def D__law_figures : Df := ⟨9, 0, [(.set (.t [(.n 1), (.n 2)]) (.call "_law_doubled" F__law_doubled [(.var 0), (.prim .add [(.prim .mul [(.k (.int 2)), (.prim .idx [(.var 0), (.k (.int 1))])]), (.k (.int 12))])])),
  (.set (.n 3) (.prim .idx [(.lc (.rng [(.prim .len [(.var 2)])]) (.n 8) [(.prim .inn [(.prim .idx [(.var 2), (.var 8)]), (.prim .slLo [(.var 2), (.prim .add [(.var 8), (.k (.int 1))])])])] (.var 8) [8]), (.k (.int 0))])),
  (.set (.n 4) (.prim .add [(.meth .index (.prim .slLo [(.var 2), (.prim .add [(.var 3), (.k (.int 1))])]) [(.prim .idx [(.var 2), (.var 3)])]), (.k (.int 1))])),
  (.par [5, 6] [.v (.prim .tuple [(.prim .slHi [(.var 1), (.prim .add [(.var 3), (.k (.int 1))])])]), .v (.prim .tuple [(.prim .slLH [(.var 1), .prim .asI [(.prim .add [(.var 3), (.k (.int 1))])], (.prim .add [(.prim .add [(.var 3), (.k (.int 1))]), (.var 4)])])])]),
  (.for (.n 7) (.rng [(.prim .len [(.var 5)])]) [(.ife (.prim .eq [(.prim .idx [(.var 5), (.prim .neg [(.k (.int 1))])]), (.prim .idx [(.var 6), (.prim .neg [(.k (.int 1))])])]) [(.par [5, 6] [.v (.prim .slHi [(.var 5), (.prim .neg [(.k (.int 1))])]), .v (.prim .add [(.prim .slLo [(.var 6), (.prim .neg [(.k (.int 1))])]), (.prim .slHi [(.var 6), (.prim .neg [(.k (.int 1))])])])]),
  (.ife (.prim .eq [(.var 5), (.tup [])]) [.brk] [])] [.brk])]),
  (.ret (.tup [(.var 5), (.var 6)]))]⟩
abbrev F__law_figures : Fn := D__law_figures.run
def D__law_power : Df := ⟨4, 0, [(.set (.n 2) (.k (.int 1))),
  (.for (.n 3) (.rng [(.var 1)]) [(.set (.n 2) (.prim .mul [(.var 2), (.var 0)]))]),
  (.ret (.var 2))]⟩
abbrev F__law_power : Fn := D__law_power.run
def D__law_cost : Df := ⟨10, 0, [(.set (.t [(.n 1), (.n 2)]) (.var 0)),
  (.set (.t [(.n 3), (.n 4), (.n 5)]) (.tup [(.tup [(.k (.int 0)), (.k (.int 1))]), (.tup [(.k (.int 0)), (.k (.int 1))]), (.tup [(.k (.int 0)), (.k (.int 1))])])),
  (.for (.n 6) (.rng [(.prim .len [(.var 1)])]) [(.set (.n 3) (.call "_law_add" F__law_add [(.var 3), (.call "_law_low" F__law_low [(.prim .mul [(.var 6), (.prim .idx [(.var 1), (.var 6)])]), (.call "_law_power" F__law_power [(.k (.int 2)), (.var 6)])])]))]),
  (.for (.n 7) (.rng [(.prim .len [(.var 2)])]) [(.set (.n 6) (.prim .add [(.prim .len [(.var 1)]), (.var 7)])),
  (.set (.n 4) (.call "_law_add" F__law_add [(.var 4), (.call "_law_low" F__law_low [(.prim .mul [(.var 6), (.prim .idx [(.var 2), (.var 7)])]), (.call "_law_power" F__law_power [(.k (.int 2)), (.var 6)])])])),
  (.set (.n 5) (.call "_law_add" F__law_add [(.var 5), (.call "_law_low" F__law_low [(.prim .idx [(.var 2), (.var 7)]), (.call "_law_power" F__law_power [(.k (.int 2)), (.var 6)])])]))]),
  (.set (.n 8) (.call "_law_power" F__law_power [(.k (.int 2)), (.prim .len [(.var 2)])])),
  (.set (.n 9) (.call "_law_mul" F__law_mul [(.var 5), (.call "_law_low" F__law_low [(.prim .mul [(.prim .len [(.var 2)]), (.var 8)]), (.prim .mul [(.prim .sub [(.var 8), (.k (.int 1))]), (.prim .sub [(.var 8), (.k (.int 1))])])])])),
  (.ret (.call "_law_add" F__law_add [(.var 3), (.call "_law_add" F__law_add [(.call "_law_mul" F__law_mul [(.var 4), (.call "_law_low" F__law_low [(.var 8), (.prim .sub [(.var 8), (.k (.int 1))])])]), (.var 9)])]))]⟩
abbrev F__law_cost : Fn := D__law_cost.run
def D__law_part : Df := ⟨3, 0, [(.set (.n 1) (.call "_law_take" F__law_take [(.var 0), (.k (.int 6))])),
  (.ife (.prim .eq [(.var 1), (.k (.int 0))]) [(.ret (.prim .idx [(.lst [(.tup [(.k (.int 0)), (.k (.int 1))]), (.tup [(.k (.int 1)), (.k (.int 1))]), (.tup [(.k (.int 1)), (.k (.int 2))])]), (.call "_law_take" F__law_take [(.var 0), (.k (.int 3))])]))] []),
  (.set (.n 2) (.ife (.prim .eq [(.var 1), (.k (.int 1))]) (.prim .idx [(.lst [(.k (.int 128)), (.k (.int 64)), (.k (.int 96)), (.k (.int 160)), (.k (.int 192))]), (.call "_law_take" F__law_take [(.var 0), (.k (.int 5))])]) (.prim .add [(.k (.int 1)), (.call "_law_take" F__law_take [(.var 0), (.k (.int 200))])]))),
  (.ret (.call "_law_low" F__law_low [(.call "_law_take" F__law_take [(.var 0), (.prim .add [(.var 2), (.k (.int 1))])]), (.var 2)]))]⟩
abbrev F__law_part : Fn := D__law_part.run
def D_law : Df := ⟨13, 2, [(.new 1 0 (.call "_law_pot" F__law_pot [(.var 0)])),
  (.for (.n 2) (.rng [(.k (.int 4))]) [(.set (.n 3) (.call "_law_part" F__law_part [(.var 1)])),
  (.set (.t [(.n 4), (.n 5)]) (.call "_law_doubled" F__law_doubled [(.var 3), (.k (.int 301))])),
  (.for (.n 6) (.of (.tup [(.k (.int 0)), (.k (.int 1)), (.call "_law_take" F__law_take [(.var 1), (.k (.int 20))]), (.prim .add [(.k (.int 80)), (.call "_law_take" F__law_take [(.var 1), (.k (.int 221))])]), (.k (.int 300))])) [(.set (.n 12) (.lst [(.call "figure" F_figure [(.var 3), (.var 6)]), (.call "rest" F_rest [(.var 3), (.var 6)]), (.callK "figure" F_figure [] ["number", "k"] [0, 1] [(.var 3), (.var 6)]), (.callK "rest" F_rest [] ["k", "number"] [1, 0] [(.var 6), (.var 3)])])),
  (.ife (.prim .not [(.call "_law_same" F__law_same [(.var 12), (.prim .mul [(.lst [(.prim .idx [(.var 4), (.var 6)]), (.prim .idx [(.var 5), (.var 6)])]), (.k (.int 2))])])]) [(.ret (.k (.bl false)))] [])]),
  (.set (.n 7) (.call "_law_figures" F__law_figures [(.var 3)])),
  (.ife (.prim .not [(.call "_law_same" F__law_same [(.lst [(.call "figures" F_figures [(.var 3)]), (.callK "figures" F_figures [] ["number"] [0] [(.var 3)]), (.call "number" F_number [(.var 7)]), (.callK "number" F_number [] ["told"] [0] [(.var 7)])]), (.lst [(.var 7), (.var 7), (.var 3), (.var 3)])])]) [(.ret (.k (.bl false)))] []),
  (.set (.t [(.n 8), (.n 9)]) (.var 7)),
  (.new 10 1 (.lst [(.tup [(.prim .add [(.var 8), (.var 9)]), (.var 9)]), (.tup [(.var 8), (.prim .mul [(.var 9), (.prim .add [(.k (.int 1)), (.call "_law_take" F__law_take [(.var 1), (.k (.int 3))])])])]), (.tup [(.prim .add [(.var 8), (.prim .slHi [(.var 9), (.k (.int 1))])]), (.prim .add [(.prim .slLo [(.var 9), (.k (.int 1))]), (.prim .slHi [(.var 9), (.k (.int 1))])])])])),
  (.ife (.and (.prim .gt [(.prim .idx [(.var 3), (.k (.int 0))]), (.k (.int 0))]) (.and (.prim .eq [(.var 9), (.tup [(.k (.int 0))])]) (.prim .eq [(.prim .idx [(.var 8), (.prim .neg [(.k (.int 1))])]), (.k (.int 1))]))) [(.xp (.mut .append (.var 10) [(.tup [(.prim .add [(.prim .slHi [(.var 8), (.prim .neg [(.k (.int 1))])]), (.tup [(.k (.int 0))])]), (.tup [(.k (.int 1))])])]))] []),
  (.for (.n 11) (.of (.fz (.var 10))) [(.ife (.and (.prim .le [(.prim .add [(.prim .len [(.prim .idx [(.var 11), (.k (.int 0))])]), (.prim .len [(.prim .idx [(.var 11), (.k (.int 1))])])]), (.k (.int 300))]) (.prim .not [(.call "_law_same" F__law_same [(.call "number" F_number [(.var 11)]), (.var 3)])])) [(.ret (.k (.bl false)))] [])]),
  (.ife (.prim .not [(.call "_law_same" F__law_same [(.lst [(.call "cost" F_cost [(.var 3)]), (.callK "cost" F_cost [] ["number"] [0] [(.var 3)])]), (.lst [(.call "_law_cost" F__law_cost [(.var 7)]), (.call "_law_cost" F__law_cost [(.var 7)])])])]) [(.ret (.k (.bl false)))] [])]),
  (.ret (.k (.bl true)))]⟩
abbrev F_law : Fn := D_law.run
end Lw

set_option Elab.async false
set_option linter.all false
set_option maxRecDepth 100000
set_option maxHeartbeats 0
namespace Lw
open PySem PySem.Spec PyProof.Rows L2 Wp
def top (i : Nat) : Stmt := PySem.Challenge.pw_wholeplays_k86_whole_figures_and_rests_t.main.body.getD i (.Pass ⟨0, 0, 0, 0⟩)
structure Hd (K : PySem.W.Frag) (mg : Str → Option Value) : Prop where
  f_is_integer : ∃ fd f, mg "is_integer" = some (.ref f) ∧ FunD K "is_integer" "is_integer" (defArgs (top 8)) (defBody (top 8)) (defScope (top 8)) [] [] f fd
  f_is_natural : ∃ fd f, mg "is_natural" = some (.ref f) ∧ FunD K "is_natural" "is_natural" (defArgs (top 9)) (defBody (top 9)) (defScope (top 9)) [] [] f fd
  f_is_below : ∃ fd f, mg "is_below" = some (.ref f) ∧ FunD K "is_below" "is_below" (defArgs (top 10)) (defBody (top 10)) (defScope (top 10)) [] [] f fd
  f_is_pair : ∃ fd f, mg "is_pair" = some (.ref f) ∧ FunD K "is_pair" "is_pair" (defArgs (top 11)) (defBody (top 11)) (defScope (top 11)) [] [] f fd
  f_lowest : ∃ fd f, mg "lowest" = some (.ref f) ∧ FunD K "lowest" "lowest" (defArgs (top 12)) (defBody (top 12)) (defScope (top 12)) [] [] f fd
  f_is_number_of : ∃ fd f, mg "is_number_of" = some (.ref f) ∧ FunD K "is_number_of" "is_number_of" (defArgs (top 13)) (defBody (top 13)) (defScope (top 13)) [] [] f fd
  f_is_part_of_one : ∃ fd f, mg "is_part_of_one" = some (.ref f) ∧ FunD K "is_part_of_one" "is_part_of_one" (defArgs (top 14)) (defBody (top 14)) (defScope (top 14)) [] [] f fd
  f_whole : ∃ fd f, mg "whole" = some (.ref f) ∧ FunD K "whole" "whole" (defArgs (top 15)) (defBody (top 15)) (defScope (top 15)) [] [] f fd
  f_sum_of_two : ∃ fd f, mg "sum_of_two" = some (.ref f) ∧ FunD K "sum_of_two" "sum_of_two" (defArgs (top 16)) (defBody (top 16)) (defScope (top 16)) [] [] f fd
  f_product : ∃ fd f, mg "product" = some (.ref f) ∧ FunD K "product" "product" (defArgs (top 17)) (defBody (top 17)) (defScope (top 17)) [] [] f fd
  f_quotient : ∃ fd f, mg "quotient" = some (.ref f) ∧ FunD K "quotient" "quotient" (defArgs (top 18)) (defBody (top 18)) (defScope (top 18)) [] [] f fd
  f_is_less : ∃ fd f, mg "is_less" = some (.ref f) ∧ FunD K "is_less" "is_less" (defArgs (top 19)) (defBody (top 19)) (defScope (top 19)) [] [] f fd
  f_sum_of_all : ∃ fd f, mg "sum_of_all" = some (.ref f) ∧ FunD K "sum_of_all" "sum_of_all" (defArgs (top 20)) (defBody (top 20)) (defScope (top 20)) [] [] f fd
  f_power : ∃ fd f, mg "power" = some (.ref f) ∧ FunD K "power" "power" (defArgs (top 21)) (defBody (top 21)) (defScope (top 21)) [] [] f fd
  f_by_halves : ∃ fd f, mg "by_halves" = some (.ref f) ∧ FunD K "by_halves" "by_halves" (defArgs (top 22)) (defBody (top 22)) (defScope (top 22)) [] [] f fd
  f_check_part : ∃ fd f, mg "check_part" = some (.ref f) ∧ FunD K "check_part" "check_part" (defArgs (top 24)) (defBody (top 24)) (defScope (top 24)) [] [] f fd
  f_check_natural : ∃ fd f, mg "check_natural" = some (.ref f) ∧ FunD K "check_natural" "check_natural" (defArgs (top 25)) (defBody (top 25)) (defScope (top 25)) [] [] f fd
  f_rest_of : ∃ fd f, mg "rest_of" = some (.ref f) ∧ FunD K "rest_of" "rest_of" (defArgs (top 26)) (defBody (top 26)) (defScope (top 26)) [] [] f fd
  f_figure_of : ∃ fd f, mg "figure_of" = some (.ref f) ∧ FunD K "figure_of" "figure_of" (defArgs (top 27)) (defBody (top 27)) (defScope (top 27)) [] [] f fd
  f_shortest : ∃ fd f, mg "shortest" = some (.ref f) ∧ FunD K "shortest" "shortest" (defArgs (top 28)) (defBody (top 28)) (defScope (top 28)) [] [] f fd
  f_figures_of : ∃ fd f, mg "figures_of" = some (.ref f) ∧ FunD K "figures_of" "figures_of" (defArgs (top 29)) (defBody (top 29)) (defScope (top 29)) [] [] f fd
  f_figures : ∃ fd f, mg "figures" = some (.ref f) ∧ FunD K "figures" "figures" (defArgs (top 30)) (defBody (top 30)) (defScope (top 30)) [] [] f fd
  f_are_figures : ∃ fd f, mg "are_figures" = some (.ref f) ∧ FunD K "are_figures" "are_figures" (defArgs (top 31)) (defBody (top 31)) (defScope (top 31)) [] [] f fd
  f_sum_of_figures : ∃ fd f, mg "sum_of_figures" = some (.ref f) ∧ FunD K "sum_of_figures" "sum_of_figures" (defArgs (top 32)) (defBody (top 32)) (defScope (top 32)) [] [] f fd
  f_again_and_again : ∃ fd f, mg "again_and_again" = some (.ref f) ∧ FunD K "again_and_again" "again_and_again" (defArgs (top 33)) (defBody (top 33)) (defScope (top 33)) [] [] f fd
  f_number_of : ∃ fd f, mg "number_of" = some (.ref f) ∧ FunD K "number_of" "number_of" (defArgs (top 34)) (defBody (top 34)) (defScope (top 34)) [] [] f fd
  f_number : ∃ fd f, mg "number" = some (.ref f) ∧ FunD K "number" "number" (defArgs (top 35)) (defBody (top 35)) (defScope (top 35)) [] [] f fd
  f_figure : ∃ fd f, mg "figure" = some (.ref f) ∧ FunD K "figure" "figure" (defArgs (top 36)) (defBody (top 36)) (defScope (top 36)) [] [] f fd
  f_cost_of : ∃ fd f, mg "cost_of" = some (.ref f) ∧ FunD K "cost_of" "cost_of" (defArgs (top 37)) (defBody (top 37)) (defScope (top 37)) [] [] f fd
  f_cost : ∃ fd f, mg "cost" = some (.ref f) ∧ FunD K "cost" "cost" (defArgs (top 38)) (defBody (top 38)) (defScope (top 38)) [] [] f fd
  f_rest : ∃ fd f, mg "rest" = some (.ref f) ∧ FunD K "rest" "rest" (defArgs (top 39)) (defBody (top 39)) (defScope (top 39)) [] [] f fd
  f__law_pot : ∃ fd f, mg "_law_pot" = some (.ref f) ∧ FunD K "_law_pot" "_law_pot" (defArgs (top 41)) (defBody (top 41)) (defScope (top 41)) [] [] f fd
  f__law_take : ∃ fd f, mg "_law_take" = some (.ref f) ∧ FunD K "_law_take" "_law_take" (defArgs (top 42)) (defBody (top 42)) (defScope (top 42)) [] [] f fd
  f__law_same : ∃ fd f, mg "_law_same" = some (.ref f) ∧ FunD K "_law_same" "_law_same" (defArgs (top 43)) (defBody (top 43)) (defScope (top 43)) [] [] f fd
  f__law_divisor : ∃ fd f, mg "_law_divisor" = some (.ref f) ∧ FunD K "_law_divisor" "_law_divisor" (defArgs (top 44)) (defBody (top 44)) (defScope (top 44)) [] [] f fd
  f__law_low : ∃ fd f, mg "_law_low" = some (.ref f) ∧ FunD K "_law_low" "_law_low" (defArgs (top 45)) (defBody (top 45)) (defScope (top 45)) [] [] f fd
  f__law_add : ∃ fd f, mg "_law_add" = some (.ref f) ∧ FunD K "_law_add" "_law_add" (defArgs (top 46)) (defBody (top 46)) (defScope (top 46)) [] [] f fd
  f__law_mul : ∃ fd f, mg "_law_mul" = some (.ref f) ∧ FunD K "_law_mul" "_law_mul" (defArgs (top 47)) (defBody (top 47)) (defScope (top 47)) [] [] f fd
  f__law_doubled : ∃ fd f, mg "_law_doubled" = some (.ref f) ∧ FunD K "_law_doubled" "_law_doubled" (defArgs (top 48)) (defBody (top 48)) (defScope (top 48)) [] [] f fd
  f__law_figures : ∃ fd f, mg "_law_figures" = some (.ref f) ∧ FunD K "_law_figures" "_law_figures" (defArgs (top 49)) (defBody (top 49)) (defScope (top 49)) [] [] f fd
  f__law_power : ∃ fd f, mg "_law_power" = some (.ref f) ∧ FunD K "_law_power" "_law_power" (defArgs (top 50)) (defBody (top 50)) (defScope (top 50)) [] [] f fd
  f__law_cost : ∃ fd f, mg "_law_cost" = some (.ref f) ∧ FunD K "_law_cost" "_law_cost" (defArgs (top 51)) (defBody (top 51)) (defScope (top 51)) [] [] f fd
  f__law_part : ∃ fd f, mg "_law_part" = some (.ref f) ∧ FunD K "_law_part" "_law_part" (defArgs (top 52)) (defBody (top 52)) (defScope (top 52)) [] [] f fd
  f_law : ∃ fd f, mg "law" = some (.ref f) ∧ FunD K "law" "law" (defArgs (top 53)) (defBody (top 53)) (defScope (top 53)) [] [] f fd
  b_abs : mg "abs" = none
  b_all : mg "all" = none
  b_bool : mg "bool" = none
  b_enumerate : mg "enumerate" = none
  b_gcd : mg "gcd" = some (.builtin "math.gcd")
  b_int : mg "int" = none
  b_isinstance : mg "isinstance" = none
  b_len : mg "len" = none
  b_list : mg "list" = none
  b_range : mg "range" = none
  b_str : mg "str" = none
  b_tuple : mg "tuple" = none
  g_ONE : ∃ u, mg "ONE" = some u ∧ RelV (V.ref (He.ga K "ONE")) u
  r_ONE : ∀ F, Rep K F (V.ref (He.ga K "ONE")) (.tup [(.int 1), (.int 1)])
  g_ZERO : ∃ u, mg "ZERO" = some u ∧ RelV (V.ref (He.ga K "ZERO")) u
  r_ZERO : ∀ F, Rep K F (V.ref (He.ga K "ZERO")) (.tup [(.int 0), (.int 1)])
section
variable {P : Program} {w : World} {K : PySem.W.Frag} {mg : Str → Option Value} {base : Heap}
theorem h_is_integer (Z : Hd K mg) : FnAt P w K mg base 1 "is_integer" 1 .v F_is_integer [] := by
  have b_bool := Z.b_bool
  have b_int := Z.b_int
  have b_isinstance := Z.b_isinstance
  obtain ⟨fd, f, hm, F⟩ := Z.f_is_integer
  refine okDef (df := D_is_integer) (N := ["value"]) (ps := ["value"]) F hm (by decide +kernel) rfl rfl ?_ ?_ ?_
  · intro kV doc pm an cdv ct us hl
    match us, hl with
    | [u0], _ => rfl
  · exact fun c hc => (List.not_mem_nil hc).elim
  · intro cdv A outer s H E n0 hr
    have hN : (["value"] : List Str).Nodup := by decide +kernel
    exact (okS_cons (okS_ret (Ok.ve (OkW.ok (ok_and (Ok.plain (okE_isi (n := "") (t := .int) (p2 := ⟨0, 0, 0, 0⟩) rfl b_isinstance (okE_var rfl (by first | exact .inl rfl | exact .inr (.inl rfl) | exact .inr (.inr rfl)) rfl rfl) (pe_bltn rfl b_int boot_int rfl) rfl rfl rfl) (fun _ => rfl)) (ok_and1 (ok_not (Ok.plain (okE_isi (n := "") (t := .bool) (p2 := ⟨0, 0, 0, 0⟩) rfl b_isinstance (okE_var rfl (by first | exact .inl rfl | exact .inr (.inl rfl) | exact .inr (.inr rfl)) rfl rfl) (pe_bltn rfl b_bool boot_bool rfl) rfl rfl rfl) (fun _ => rfl)))))))) okS_nil)
theorem h_is_natural (Z : Hd K mg) : FnAt P w K mg base 2 "is_natural" 1 .v F_is_natural [] := by
  have h_is_integer := h_is_integer (P := P) (w := w) (base := base) Z
  obtain ⟨fd, f, hm, F⟩ := Z.f_is_natural
  refine okDef (df := D_is_natural) (N := ["value"]) (ps := ["value"]) F hm (by decide +kernel) rfl rfl ?_ ?_ ?_
  · intro kV doc pm an cdv ct us hl
    match us, hl with
    | [u0], _ => rfl
  · exact fun c hc => (List.not_mem_nil hc).elim
  · intro cdv A outer s H E n0 hr
    have hN : (["value"] : List Str).Nodup := by decide +kernel
    exact (okS_cons (okS_ret (Ok.ve (OkW.ok (ok_and (Ok.plain (okE_call h_is_integer (hr.mono (by decide)) rfl takes_X rfl (okEs_cons (okE_var rfl (by first | exact .inl rfl | exact .inr (.inl rfl) | exact .inr (.inr rfl)) rfl rfl) okEs_nil rfl) rfl rfl rfl) (fun _ => rfl)) (ok_and1 (ok_ge (okE_var rfl (by first | exact .inl rfl | exact .inr (.inl rfl) | exact .inr (.inr rfl)) rfl rfl) okE_int rfl)))))) okS_nil)
theorem h_is_below (Z : Hd K mg) : FnAt P w K mg base 3 "is_below" 2 .v F_is_below [] := by
  have h_is_natural := h_is_natural (P := P) (w := w) (base := base) Z
  obtain ⟨fd, f, hm, F⟩ := Z.f_is_below
  refine okDef (df := D_is_below) (N := ["value", "many"]) (ps := ["value", "many"]) F hm (by decide +kernel) rfl rfl ?_ ?_ ?_
  · intro kV doc pm an cdv ct us hl
    match us, hl with
    | [u0, u1], _ => rfl
  · exact fun c hc => (List.not_mem_nil hc).elim
  · intro cdv A outer s H E n0 hr
    have hN : (["value", "many"] : List Str).Nodup := by decide +kernel
    exact (okS_cons (okS_ret (Ok.ve (OkW.ok (ok_and (Ok.plain (okE_call h_is_natural (hr.mono (by decide)) rfl takes_X rfl (okEs_cons (okE_var rfl (by first | exact .inl rfl | exact .inr (.inl rfl) | exact .inr (.inr rfl)) rfl rfl) okEs_nil rfl) rfl rfl rfl) (fun _ => rfl)) (ok_and1 (ok_lt (okE_var rfl (by first | exact .inl rfl | exact .inr (.inl rfl) | exact .inr (.inr rfl)) rfl rfl) (okE_var rfl (by first | exact .inl rfl | exact .inr (.inl rfl) | exact .inr (.inr rfl)) rfl rfl) rfl)))))) okS_nil)
theorem h_is_pair (Z : Hd K mg) : FnAt P w K mg base 1 "is_pair" 1 .v F_is_pair [] := by
  have b_isinstance := Z.b_isinstance
  have b_len := Z.b_len
  have b_tuple := Z.b_tuple
  obtain ⟨fd, f, hm, F⟩ := Z.f_is_pair
  refine okDef (df := D_is_pair) (N := ["value"]) (ps := ["value"]) F hm (by decide +kernel) rfl rfl ?_ ?_ ?_
  · intro kV doc pm an cdv ct us hl
    match us, hl with
    | [u0], _ => rfl
  · exact fun c hc => (List.not_mem_nil hc).elim
  · intro cdv A outer s H E n0 hr
    have hN : (["value"] : List Str).Nodup := by decide +kernel
    exact (okS_cons (okS_ret (Ok.ve (OkW.ok (ok_and (Ok.plain (okE_isi (n := "") (t := .tuple) (p2 := ⟨0, 0, 0, 0⟩) rfl b_isinstance (okE_var rfl (by first | exact .inl rfl | exact .inr (.inl rfl) | exact .inr (.inr rfl)) rfl rfl) (pe_bltn rfl b_tuple boot_tuple rfl) rfl rfl rfl) (fun _ => rfl)) (ok_and1 (ok_eq hr.units (okE_callB (id := "len") call_len prim_len rfl b_len (by decide +kernel) (okEs_cons (okE_var rfl (by first | exact .inl rfl | exact .inr (.inl rfl) | exact .inr (.inr rfl)) rfl rfl) okEs_nil rfl) (by decide) rfl rfl rfl) okE_int rfl)))))) okS_nil)
theorem h_lowest (Z : Hd K mg) : FnAt P w K mg base 1 "lowest" 2 .t F_lowest [] := by
  have b_gcd := Z.b_gcd
  obtain ⟨fd, f, hm, F⟩ := Z.f_lowest
  refine okDef (df := D_lowest) (N := ["top", "bottom", "common"]) (ps := ["top", "bottom"]) F hm (by decide +kernel) rfl rfl ?_ ?_ ?_
  · intro kV doc pm an cdv ct us hl
    match us, hl with
    | [u0, u1], _ => rfl
  · exact fun c hc => (List.not_mem_nil hc).elim
  · intro cdv A outer s H E n0 hr
    have hN : (["top", "bottom", "common"] : List Str).Nodup := by decide +kernel
    exact (okS_cons (okS_set (okE_callF (id := "math.gcd") cr_gcd prim_gcd rfl b_gcd (okEs_cons (okE_var rfl (by first | exact .inl rfl | exact .inr (.inl rfl) | exact .inr (.inr rfl)) rfl rfl) (okEs_cons (okE_var rfl (by first | exact .inl rfl | exact .inr (.inl rfl) | exact .inr (.inr rfl)) rfl rfl) okEs_nil rfl) rfl) rfl rfl rfl) (okG_nameX hN rfl (by first | exact .inl rfl | exact .inr rfl) (.inl rfl)) rfl rfl rfl) (okS_cons (okS_if (Ok.te (ok_lt (okE_var rfl (by first | exact .inl rfl | exact .inr (.inl rfl) | exact .inr (.inr rfl)) rfl rfl) okE_int rfl)) (okS_cons (okS_set (okE_neg (okE_var rfl (by first | exact .inl rfl | exact .inr (.inl rfl) | exact .inr (.inr rfl)) rfl rfl)) (okG_nameX hN rfl (by first | exact .inl rfl | exact .inr rfl) (.inl rfl)) rfl rfl rfl) okS_nil) okS_nil) (okS_cons (okS_ret (okT_tup (okEs_cons (okE_fdiv (okE_var rfl (by first | exact .inl rfl | exact .inr (.inl rfl) | exact .inr (.inr rfl)) rfl rfl) (okE_var rfl (by first | exact .inl rfl | exact .inr (.inl rfl) | exact .inr (.inr rfl)) rfl rfl)) (okEs_cons (okE_fdiv (okE_var rfl (by first | exact .inl rfl | exact .inr (.inl rfl) | exact .inr (.inr rfl)) rfl rfl) (okE_var rfl (by first | exact .inl rfl | exact .inr (.inl rfl) | exact .inr (.inr rfl)) rfl rfl)) okEs_nil rfl) rfl) (by decide))) okS_nil)))
theorem h_is_number_of (Z : Hd K mg) : FnAt P w K mg base 2 "is_number_of" 1 .v F_is_number_of [] := by
  have h_is_integer := h_is_integer (P := P) (w := w) (base := base) Z
  have h_lowest := h_lowest (P := P) (w := w) (base := base) Z
  have h_is_pair := h_is_pair (P := P) (w := w) (base := base) Z
  obtain ⟨fd, f, hm, F⟩ := Z.f_is_number_of
  refine okDef (df := D_is_number_of) (N := ["told"]) (ps := ["told"]) F hm (by decide +kernel) rfl rfl ?_ ?_ ?_
  · intro kV doc pm an cdv ct us hl
    match us, hl with
    | [u0], _ => rfl
  · exact fun c hc => (List.not_mem_nil hc).elim
  · intro cdv A outer s H E n0 hr
    have hN : (["told"] : List Str).Nodup := by decide +kernel
    exact (okS_cons (okS_if (Ok.te (OkW.ok (ok_or (ok_not (Ok.plain (okE_call h_is_pair (hr.mono (by decide)) rfl takes_X rfl (okEs_cons (okE_var rfl (by first | exact .inl rfl | exact .inr (.inl rfl) | exact .inr (.inr rfl)) rfl rfl) okEs_nil rfl) rfl rfl rfl) (fun _ => rfl))) (ok_or (ok_not (Ok.plain (okE_call h_is_integer (hr.mono (by decide)) rfl takes_X rfl (okEs_cons (okE_idx (okE_var rfl (by first | exact .inl rfl | exact .inr (.inl rfl) | exact .inr (.inr rfl)) rfl rfl) okE_int (fun _ _ => rfl)) okEs_nil rfl) rfl rfl rfl) (fun _ => rfl))) (ok_or1 (ok_not (Ok.plain (okE_call h_is_integer (hr.mono (by decide)) rfl takes_X rfl (okEs_cons (okE_idx (okE_var rfl (by first | exact .inl rfl | exact .inr (.inl rfl) | exact .inr (.inr rfl)) rfl rfl) okE_int (fun _ _ => rfl)) okEs_nil rfl) rfl rfl rfl) (fun _ => rfl)))))))) (okS_cons (okS_ret okE_bl) okS_nil) okS_nil) (okS_cons (okS_ret (Ok.ve (OkW.ok (ok_and (ok_gt (okE_idx (okE_var rfl (by first | exact .inl rfl | exact .inr (.inl rfl) | exact .inr (.inr rfl)) rfl rfl) okE_int (fun _ _ => rfl)) okE_int rfl) (ok_and1 (ok_eq hr.units (t2e (okE_call h_lowest (hr.mono (by decide)) rfl takes_X rfl (okEs_cons (okE_idx (okE_var rfl (by first | exact .inl rfl | exact .inr (.inl rfl) | exact .inr (.inr rfl)) rfl rfl) okE_int (fun _ _ => rfl)) (okEs_cons (okE_idx (okE_var rfl (by first | exact .inl rfl | exact .inr (.inl rfl) | exact .inr (.inr rfl)) rfl rfl) okE_int (fun _ _ => rfl)) okEs_nil rfl) rfl) rfl rfl rfl)) (okE_var rfl (by first | exact .inl rfl | exact .inr (.inl rfl) | exact .inr (.inr rfl)) rfl rfl) rfl)))))) okS_nil))
theorem h_is_part_of_one (Z : Hd K mg) : FnAt P w K mg base 3 "is_part_of_one" 1 .v F_is_part_of_one [] := by
  have h_is_number_of := h_is_number_of (P := P) (w := w) (base := base) Z
  obtain ⟨fd, f, hm, F⟩ := Z.f_is_part_of_one
  refine okDef (df := D_is_part_of_one) (N := ["told"]) (ps := ["told"]) F hm (by decide +kernel) rfl rfl ?_ ?_ ?_
  · intro kV doc pm an cdv ct us hl
    match us, hl with
    | [u0], _ => rfl
  · exact fun c hc => (List.not_mem_nil hc).elim
  · intro cdv A outer s H E n0 hr
    have hN : (["told"] : List Str).Nodup := by decide +kernel
    exact (okS_cons (okS_ret (Ok.ve (OkW.ok (ok_and (Ok.plain (okE_call h_is_number_of (hr.mono (by decide)) rfl takes_X rfl (okEs_cons (okE_var rfl (by first | exact .inl rfl | exact .inr (.inl rfl) | exact .inr (.inr rfl)) rfl rfl) okEs_nil rfl) rfl rfl rfl) (fun _ => rfl)) (ok_and1 (ok_chEE okE_int (okE_idx (okE_var rfl (by first | exact .inl rfl | exact .inr (.inl rfl) | exact .inr (.inr rfl)) rfl rfl) okE_int (fun _ _ => rfl)) (okE_idx (okE_var rfl (by first | exact .inl rfl | exact .inr (.inl rfl) | exact .inr (.inr rfl)) rfl rfl) okE_int (fun _ _ => rfl)) (by with_unfolding_all rfl))))))) okS_nil)
theorem h_whole (Z : Hd K mg) : FnAt P w K mg base 1 "whole" 1 .v F_whole [] := by

  obtain ⟨fd, f, hm, F⟩ := Z.f_whole
  refine okDef (df := D_whole) (N := ["a"]) (ps := ["a"]) F hm (by decide +kernel) rfl rfl ?_ ?_ ?_
  · intro kV doc pm an cdv ct us hl
    match us, hl with
    | [u0], _ => rfl
  · exact fun c hc => (List.not_mem_nil hc).elim
  · intro cdv A outer s H E n0 hr
    have hN : (["a"] : List Str).Nodup := by decide +kernel
    exact (okS_cons (okS_ret (okE_tup (okEs_cons (okE_var rfl (by first | exact .inl rfl | exact .inr (.inl rfl) | exact .inr (.inr rfl)) rfl rfl) (okEs_cons okE_int okEs_nil rfl) rfl) (by decide))) okS_nil)
theorem h_sum_of_two (Z : Hd K mg) : FnAt P w K mg base 2 "sum_of_two" 2 .v F_sum_of_two [] := by
  have h_lowest := h_lowest (P := P) (w := w) (base := base) Z
  obtain ⟨fd, f, hm, F⟩ := Z.f_sum_of_two
  refine okDef (df := D_sum_of_two) (N := ["a", "b"]) (ps := ["a", "b"]) F hm (by decide +kernel) rfl rfl ?_ ?_ ?_
  · intro kV doc pm an cdv ct us hl
    match us, hl with
    | [u0, u1], _ => rfl
  · exact fun c hc => (List.not_mem_nil hc).elim
  · intro cdv A outer s H E n0 hr
    have hN : (["a", "b"] : List Str).Nodup := by decide +kernel
    exact (okS_cons (okS_ret (t2e (okE_call h_lowest (hr.mono (by decide)) rfl takes_X rfl (okEs_cons (n2e (okN_add (n2e (okN_mul (okE_idx (okE_var rfl (by first | exact .inl rfl | exact .inr (.inl rfl) | exact .inr (.inr rfl)) rfl rfl) okE_int (fun _ _ => rfl)) (okE_idx (okE_var rfl (by first | exact .inl rfl | exact .inr (.inl rfl) | exact .inr (.inr rfl)) rfl rfl) okE_int (fun _ _ => rfl)))) (n2e (okN_mul (okE_idx (okE_var rfl (by first | exact .inl rfl | exact .inr (.inl rfl) | exact .inr (.inr rfl)) rfl rfl) okE_int (fun _ _ => rfl)) (okE_idx (okE_var rfl (by first | exact .inl rfl | exact .inr (.inl rfl) | exact .inr (.inr rfl)) rfl rfl) okE_int (fun _ _ => rfl)))))) (okEs_cons (n2e (okN_mul (okE_idx (okE_var rfl (by first | exact .inl rfl | exact .inr (.inl rfl) | exact .inr (.inr rfl)) rfl rfl) okE_int (fun _ _ => rfl)) (okE_idx (okE_var rfl (by first | exact .inl rfl | exact .inr (.inl rfl) | exact .inr (.inr rfl)) rfl rfl) okE_int (fun _ _ => rfl)))) okEs_nil rfl) rfl) rfl rfl rfl))) okS_nil)
theorem h_product (Z : Hd K mg) : FnAt P w K mg base 2 "product" 2 .v F_product [] := by
  have h_lowest := h_lowest (P := P) (w := w) (base := base) Z
  obtain ⟨fd, f, hm, F⟩ := Z.f_product
  refine okDef (df := D_product) (N := ["a", "b"]) (ps := ["a", "b"]) F hm (by decide +kernel) rfl rfl ?_ ?_ ?_
  · intro kV doc pm an cdv ct us hl
    match us, hl with
    | [u0, u1], _ => rfl
  · exact fun c hc => (List.not_mem_nil hc).elim
  · intro cdv A outer s H E n0 hr
    have hN : (["a", "b"] : List Str).Nodup := by decide +kernel
    exact (okS_cons (okS_ret (t2e (okE_call h_lowest (hr.mono (by decide)) rfl takes_X rfl (okEs_cons (n2e (okN_mul (okE_idx (okE_var rfl (by first | exact .inl rfl | exact .inr (.inl rfl) | exact .inr (.inr rfl)) rfl rfl) okE_int (fun _ _ => rfl)) (okE_idx (okE_var rfl (by first | exact .inl rfl | exact .inr (.inl rfl) | exact .inr (.inr rfl)) rfl rfl) okE_int (fun _ _ => rfl)))) (okEs_cons (n2e (okN_mul (okE_idx (okE_var rfl (by first | exact .inl rfl | exact .inr (.inl rfl) | exact .inr (.inr rfl)) rfl rfl) okE_int (fun _ _ => rfl)) (okE_idx (okE_var rfl (by first | exact .inl rfl | exact .inr (.inl rfl) | exact .inr (.inr rfl)) rfl rfl) okE_int (fun _ _ => rfl)))) okEs_nil rfl) rfl) rfl rfl rfl))) okS_nil)
theorem h_quotient (Z : Hd K mg) : FnAt P w K mg base 2 "quotient" 2 .v F_quotient [] := by
  have h_lowest := h_lowest (P := P) (w := w) (base := base) Z
  obtain ⟨fd, f, hm, F⟩ := Z.f_quotient
  refine okDef (df := D_quotient) (N := ["a", "b"]) (ps := ["a", "b"]) F hm (by decide +kernel) rfl rfl ?_ ?_ ?_
  · intro kV doc pm an cdv ct us hl
    match us, hl with
    | [u0, u1], _ => rfl
  · exact fun c hc => (List.not_mem_nil hc).elim
  · intro cdv A outer s H E n0 hr
    have hN : (["a", "b"] : List Str).Nodup := by decide +kernel
    exact (okS_cons (okS_ret (t2e (okE_call h_lowest (hr.mono (by decide)) rfl takes_X rfl (okEs_cons (n2e (okN_mul (okE_idx (okE_var rfl (by first | exact .inl rfl | exact .inr (.inl rfl) | exact .inr (.inr rfl)) rfl rfl) okE_int (fun _ _ => rfl)) (okE_idx (okE_var rfl (by first | exact .inl rfl | exact .inr (.inl rfl) | exact .inr (.inr rfl)) rfl rfl) okE_int (fun _ _ => rfl)))) (okEs_cons (n2e (okN_mul (okE_idx (okE_var rfl (by first | exact .inl rfl | exact .inr (.inl rfl) | exact .inr (.inr rfl)) rfl rfl) okE_int (fun _ _ => rfl)) (okE_idx (okE_var rfl (by first | exact .inl rfl | exact .inr (.inl rfl) | exact .inr (.inr rfl)) rfl rfl) okE_int (fun _ _ => rfl)))) okEs_nil rfl) rfl) rfl rfl rfl))) okS_nil)
theorem h_is_less (Z : Hd K mg) : FnAt P w K mg base 1 "is_less" 2 .v F_is_less [] := by

  obtain ⟨fd, f, hm, F⟩ := Z.f_is_less
  refine okDef (df := D_is_less) (N := ["a", "b"]) (ps := ["a", "b"]) F hm (by decide +kernel) rfl rfl ?_ ?_ ?_
  · intro kV doc pm an cdv ct us hl
    match us, hl with
    | [u0, u1], _ => rfl
  · exact fun c hc => (List.not_mem_nil hc).elim
  · intro cdv A outer s H E n0 hr
    have hN : (["a", "b"] : List Str).Nodup := by decide +kernel
    exact (okS_cons (okS_ret (Ok.ve (ok_lt (n2e (okN_mul (okE_idx (okE_var rfl (by first | exact .inl rfl | exact .inr (.inl rfl) | exact .inr (.inr rfl)) rfl rfl) okE_int (fun _ _ => rfl)) (okE_idx (okE_var rfl (by first | exact .inl rfl | exact .inr (.inl rfl) | exact .inr (.inr rfl)) rfl rfl) okE_int (fun _ _ => rfl)))) (n2e (okN_mul (okE_idx (okE_var rfl (by first | exact .inl rfl | exact .inr (.inl rfl) | exact .inr (.inr rfl)) rfl rfl) okE_int (fun _ _ => rfl)) (okE_idx (okE_var rfl (by first | exact .inl rfl | exact .inr (.inl rfl) | exact .inr (.inr rfl)) rfl rfl) okE_int (fun _ _ => rfl)))) rfl))) okS_nil)
theorem h_sum_of_all (Z : Hd K mg) : FnAt P w K mg base 3 "sum_of_all" 1 .v F_sum_of_all [] := by
  have g_ZERO := Z.g_ZERO
  have r_ZERO := Z.r_ZERO
  have h_sum_of_two := h_sum_of_two (P := P) (w := w) (base := base) Z
  obtain ⟨fd, f, hm, F⟩ := Z.f_sum_of_all
  refine okDef (df := D_sum_of_all) (N := ["numbers", "total", "a"]) (ps := ["numbers"]) F hm (by decide +kernel) rfl rfl ?_ ?_ ?_
  · intro kV doc pm an cdv ct us hl
    match us, hl with
    | [u0], _ => rfl
  · exact fun c hc => (List.not_mem_nil hc).elim
  · intro cdv A outer s H E n0 hr
    have hN : (["numbers", "total", "a"] : List Str).Nodup := by decide +kernel
    exact (okS_cons (okS_set (okE_g (C8.pe_gc rfl g_ZERO rfl) r_ZERO) (okG_nameX hN rfl (by first | exact .inl rfl | exact .inr rfl) (.inl rfl)) rfl rfl rfl) (okS_cons (okS_for passes_X rfl (okI_of (okE_var rfl (by first | exact .inl rfl | exact .inr (.inl rfl) | exact .inr (.inr rfl)) rfl rfl)) (okG_nameX hN rfl (by first | exact .inl rfl | exact .inr rfl) (.inl rfl)) (okS_cons (okS_set (okE_call h_sum_of_two (hr.mono (by decide)) rfl takes_X rfl (okEs_cons (okE_var rfl (by first | exact .inl rfl | exact .inr (.inl rfl) | exact .inr (.inr rfl)) rfl rfl) (okEs_cons (okE_var rfl (by first | exact .inl rfl | exact .inr (.inl rfl) | exact .inr (.inr rfl)) rfl rfl) okEs_nil rfl) rfl) rfl rfl rfl) (okG_nameX hN rfl (by first | exact .inl rfl | exact .inr rfl) (.inl rfl)) rfl rfl rfl) okS_nil) (fun _ => rfl)) (okS_cons (okS_ret (okE_var rfl (by first | exact .inl rfl | exact .inr (.inl rfl) | exact .inr (.inr rfl)) rfl rfl)) okS_nil)))
theorem h_power (Z : Hd K mg) : FnAt P w K mg base 1 "power" 2 .v F_power [] := by
  have b_range := Z.b_range
  obtain ⟨fd, f, hm, F⟩ := Z.f_power
  refine okDef (df := D_power) (N := ["b", "n", "found", "turn"]) (ps := ["b", "n"]) F hm (by decide +kernel) rfl rfl ?_ ?_ ?_
  · intro kV doc pm an cdv ct us hl
    match us, hl with
    | [u0, u1], _ => rfl
  · exact fun c hc => (List.not_mem_nil hc).elim
  · intro cdv A outer s H E n0 hr
    have hN : (["b", "n", "found", "turn"] : List Str).Nodup := by decide +kernel
    exact (okS_cons (okS_set okE_int (okG_nameX hN rfl (by first | exact .inl rfl | exact .inr rfl) (.inl rfl)) rfl rfl rfl) (okS_cons (okS_for passes_X rfl (okI_rng1 rfl b_range (okEs_cons (okE_var rfl (by first | exact .inl rfl | exact .inr (.inl rfl) | exact .inr (.inr rfl)) rfl rfl) okEs_nil rfl) rfl) (okG_nameX hN rfl (by first | exact .inl rfl | exact .inr rfl) (.inl rfl)) (okS_cons (okS_set (n2e (okN_mul (okE_var rfl (by first | exact .inl rfl | exact .inr (.inl rfl) | exact .inr (.inr rfl)) rfl rfl) (okE_var rfl (by first | exact .inl rfl | exact .inr (.inl rfl) | exact .inr (.inr rfl)) rfl rfl))) (okG_nameX hN rfl (by first | exact .inl rfl | exact .inr rfl) (.inl rfl)) rfl rfl rfl) okS_nil) (fun _ => rfl)) (okS_cons (okS_ret (okE_var rfl (by first | exact .inl rfl | exact .inr (.inl rfl) | exact .inr (.inr rfl)) rfl rfl)) okS_nil)))
theorem h_by_halves (Z : Hd K mg) : FnAt P w K mg base 2 "by_halves" 2 .v F_by_halves [] := by
  have h_power := h_power (P := P) (w := w) (base := base) Z
  have h_lowest := h_lowest (P := P) (w := w) (base := base) Z
  obtain ⟨fd, f, hm, F⟩ := Z.f_by_halves
  refine okDef (df := D_by_halves) (N := ["a", "k"]) (ps := ["a", "k"]) F hm (by decide +kernel) rfl rfl ?_ ?_ ?_
  · intro kV doc pm an cdv ct us hl
    match us, hl with
    | [u0, u1], _ => rfl
  · exact fun c hc => (List.not_mem_nil hc).elim
  · intro cdv A outer s H E n0 hr
    have hN : (["a", "k"] : List Str).Nodup := by decide +kernel
    exact (okS_cons (okS_ret (t2e (okE_call h_lowest (hr.mono (by decide)) rfl takes_X rfl (okEs_cons (okE_idx (okE_var rfl (by first | exact .inl rfl | exact .inr (.inl rfl) | exact .inr (.inr rfl)) rfl rfl) okE_int (fun _ _ => rfl)) (okEs_cons (n2e (okN_mul (okE_idx (okE_var rfl (by first | exact .inl rfl | exact .inr (.inl rfl) | exact .inr (.inr rfl)) rfl rfl) okE_int (fun _ _ => rfl)) (okE_call h_power (hr.mono (by decide)) rfl takes_X rfl (okEs_cons okE_int (okEs_cons (okE_var rfl (by first | exact .inl rfl | exact .inr (.inl rfl) | exact .inr (.inr rfl)) rfl rfl) okEs_nil rfl) rfl) rfl rfl rfl))) okEs_nil rfl) rfl) rfl rfl rfl))) okS_nil)
theorem h_check_part (Z : Hd K mg) : FnAt P w K mg base 4 "check_part" 1 .v F_check_part [] := by
  have h_is_part_of_one := h_is_part_of_one (P := P) (w := w) (base := base) Z
  obtain ⟨fd, f, hm, F⟩ := Z.f_check_part
  refine okDef (df := D_check_part) (N := ["number"]) (ps := ["number"]) F hm (by decide +kernel) rfl rfl ?_ ?_ ?_
  · intro kV doc pm an cdv ct us hl
    match us, hl with
    | [u0], _ => rfl
  · exact fun c hc => (List.not_mem_nil hc).elim
  · intro cdv A outer s H E n0 hr
    have hN : (["number"] : List Str).Nodup := by decide +kernel
    exact (okS_cons (okS_if (Ok.te (ok_not (Ok.plain (okE_call h_is_part_of_one (hr.mono (by decide)) rfl takes_X rfl (okEs_cons (okE_var rfl (by first | exact .inl rfl | exact .inr (.inl rfl) | exact .inr (.inr rfl)) rfl rfl) okEs_nil rfl) rfl rfl rfl) (fun _ => rfl)))) (okS_cons okS_stuck okS_nil) okS_nil) okS_nil)
theorem h_check_natural (Z : Hd K mg) : FnAt P w K mg base 3 "check_natural" 1 .v F_check_natural [] := by
  have h_is_natural := h_is_natural (P := P) (w := w) (base := base) Z
  obtain ⟨fd, f, hm, F⟩ := Z.f_check_natural
  refine okDef (df := D_check_natural) (N := ["k"]) (ps := ["k"]) F hm (by decide +kernel) rfl rfl ?_ ?_ ?_
  · intro kV doc pm an cdv ct us hl
    match us, hl with
    | [u0], _ => rfl
  · exact fun c hc => (List.not_mem_nil hc).elim
  · intro cdv A outer s H E n0 hr
    have hN : (["k"] : List Str).Nodup := by decide +kernel
    exact (okS_cons (okS_if (Ok.te (ok_not (Ok.plain (okE_call h_is_natural (hr.mono (by decide)) rfl takes_X rfl (okEs_cons (okE_var rfl (by first | exact .inl rfl | exact .inr (.inl rfl) | exact .inr (.inr rfl)) rfl rfl) okEs_nil rfl) rfl rfl rfl) (fun _ => rfl)))) (okS_cons okS_stuck okS_nil) okS_nil) okS_nil)
theorem h_rest_of (Z : Hd K mg) : FnAt P w K mg base 2 "rest_of" 2 .t F_rest_of [] := by
  have h_power := h_power (P := P) (w := w) (base := base) Z
  have h_lowest := h_lowest (P := P) (w := w) (base := base) Z
  obtain ⟨fd, f, hm, F⟩ := Z.f_rest_of
  refine okDef (df := D_rest_of) (N := ["number", "k", "top", "bottom"]) (ps := ["number", "k"]) F hm (by decide +kernel) rfl rfl ?_ ?_ ?_
  · intro kV doc pm an cdv ct us hl
    match us, hl with
    | [u0, u1], _ => rfl
  · exact fun c hc => (List.not_mem_nil hc).elim
  · intro cdv A outer s H E n0 hr
    have hN : (["number", "k", "top", "bottom"] : List Str).Nodup := by decide +kernel
    exact (okS_cons (okS_set (okE_var rfl (by first | exact .inl rfl | exact .inr (.inl rfl) | exact .inr (.inr rfl)) rfl rfl) (okG_tup (fun Y hY => by cases hY; rfl) (fun Y hY => by cases hY; rfl) (okGs_cons (okG_nameX hN rfl (by first | exact .inl rfl | exact .inr rfl) (.inl rfl)) (okGs_cons (okG_nameX hN rfl (by first | exact .inl rfl | exact .inr rfl) (.inl rfl)) okGs_nil (fun Y hY => by cases hY; rfl)) (fun Y hY => by cases hY; rfl)) (fun Y hY => by cases hY; rfl) (fun Y hY => by cases hY; rfl)) rfl rfl rfl) (okS_cons (okS_ret (okE_call h_lowest (hr.mono (by decide)) rfl takes_X rfl (okEs_cons (okE_mod (n2e (okN_mul (okE_var rfl (by first | exact .inl rfl | exact .inr (.inl rfl) | exact .inr (.inr rfl)) rfl rfl) (okE_call h_power (hr.mono (by decide)) rfl takes_X rfl (okEs_cons okE_int (okEs_cons (okE_var rfl (by first | exact .inl rfl | exact .inr (.inl rfl) | exact .inr (.inr rfl)) rfl rfl) okEs_nil rfl) rfl) rfl rfl rfl))) (okE_var rfl (by first | exact .inl rfl | exact .inr (.inl rfl) | exact .inr (.inr rfl)) rfl rfl)) (okEs_cons (okE_var rfl (by first | exact .inl rfl | exact .inr (.inl rfl) | exact .inr (.inr rfl)) rfl rfl) okEs_nil rfl) rfl) rfl rfl rfl)) okS_nil))
theorem h_figure_of (Z : Hd K mg) : FnAt P w K mg base 2 "figure_of" 2 .v F_figure_of [] := by
  have h_power := h_power (P := P) (w := w) (base := base) Z
  obtain ⟨fd, f, hm, F⟩ := Z.f_figure_of
  refine okDef (df := D_figure_of) (N := ["number", "k", "top", "bottom"]) (ps := ["number", "k"]) F hm (by decide +kernel) rfl rfl ?_ ?_ ?_
  · intro kV doc pm an cdv ct us hl
    match us, hl with
    | [u0, u1], _ => rfl
  · exact fun c hc => (List.not_mem_nil hc).elim
  · intro cdv A outer s H E n0 hr
    have hN : (["number", "k", "top", "bottom"] : List Str).Nodup := by decide +kernel
    exact (okS_cons (okS_set (okE_var rfl (by first | exact .inl rfl | exact .inr (.inl rfl) | exact .inr (.inr rfl)) rfl rfl) (okG_tup (fun Y hY => by cases hY; rfl) (fun Y hY => by cases hY; rfl) (okGs_cons (okG_nameX hN rfl (by first | exact .inl rfl | exact .inr rfl) (.inl rfl)) (okGs_cons (okG_nameX hN rfl (by first | exact .inl rfl | exact .inr rfl) (.inl rfl)) okGs_nil (fun Y hY => by cases hY; rfl)) (fun Y hY => by cases hY; rfl)) (fun Y hY => by cases hY; rfl) (fun Y hY => by cases hY; rfl)) rfl rfl rfl) (okS_cons (okS_ret (okE_mod (okE_fdiv (n2e (okN_mul (okE_var rfl (by first | exact .inl rfl | exact .inr (.inl rfl) | exact .inr (.inr rfl)) rfl rfl) (okE_call h_power (hr.mono (by decide)) rfl takes_X rfl (okEs_cons okE_int (okEs_cons (okE_var rfl (by first | exact .inl rfl | exact .inr (.inl rfl) | exact .inr (.inr rfl)) rfl rfl) okEs_nil rfl) rfl) rfl rfl rfl))) (okE_var rfl (by first | exact .inl rfl | exact .inr (.inl rfl) | exact .inr (.inr rfl)) rfl rfl)) okE_int)) okS_nil))
theorem h_shortest (Z : Hd K mg) : FnAt P w K mg base 1 "shortest" 2 .v F_shortest [] := by
  have b_len := Z.b_len
  have b_range := Z.b_range
  obtain ⟨fd, f, hm, F⟩ := Z.f_shortest
  refine okDef (df := D_shortest) (N := ["ahead", "again", "turn"]) (ps := ["ahead", "again"]) F hm (by decide +kernel) rfl rfl ?_ ?_ ?_
  · intro kV doc pm an cdv ct us hl
    match us, hl with
    | [u0, u1], _ => rfl
  · exact fun c hc => (List.not_mem_nil hc).elim
  · intro cdv A outer s H E n0 hr
    have hN : (["ahead", "again", "turn"] : List Str).Nodup := by decide +kernel
    exact (okS_cons (okS_for passes_X rfl (okI_rng1 rfl b_range (okEs_cons (okE_callB (id := "len") call_len prim_len rfl b_len (by decide +kernel) (okEs_cons (okE_var rfl (by first | exact .inl rfl | exact .inr (.inl rfl) | exact .inr (.inr rfl)) rfl rfl) okEs_nil rfl) (by decide) rfl rfl rfl) okEs_nil rfl) rfl) (okG_nameX hN rfl (by first | exact .inl rfl | exact .inr rfl) (.inl rfl)) (okS_cons (okS_if (Ok.te (ok_ne hr.units (okE_idx (okE_var rfl (by first | exact .inl rfl | exact .inr (.inl rfl) | exact .inr (.inr rfl)) rfl rfl) (okE_neg okE_int) (fun _ _ => rfl)) (okE_idx (okE_var rfl (by first | exact .inl rfl | exact .inr (.inl rfl) | exact .inr (.inr rfl)) rfl rfl) (okE_neg okE_int) (fun _ _ => rfl)) rfl)) (okS_cons okS_brk okS_nil) okS_nil) (okS_cons (okS_par2 rfl hN rfl rfl (by decide) rfl rfl (okPk_v (n2e (okN_slHi (okE_var rfl (by first | exact .inl rfl | exact .inr (.inl rfl) | exact .inr (.inr rfl)) rfl rfl) (okE_neg okE_int))) (okPk_v (n2e (okN_add (n2e (okN_slLo (okE_var rfl (by first | exact .inl rfl | exact .inr (.inl rfl) | exact .inr (.inr rfl)) rfl rfl) (okE_neg okE_int))) (n2e (okN_slHi (okE_var rfl (by first | exact .inl rfl | exact .inr (.inl rfl) | exact .inr (.inr rfl)) rfl rfl) (okE_neg okE_int))))) okPk_nil rfl) rfl) rfl rfl) okS_nil)) (fun _ => rfl)) (okS_cons (okS_ret (okE_tup (okEs_cons (okE_var rfl (by first | exact .inl rfl | exact .inr (.inl rfl) | exact .inr (.inr rfl)) rfl rfl) (okEs_cons (okE_var rfl (by first | exact .inl rfl | exact .inr (.inl rfl) | exact .inr (.inr rfl)) rfl rfl) okEs_nil rfl) rfl) (by decide))) okS_nil))
theorem h_figures_of (Z : Hd K mg) : FnAt P w K mg base 3 "figures_of" 1 .v F_figures_of [] := by
  have b_int := Z.b_int
  have b_len := Z.b_len
  have b_range := Z.b_range
  have b_tuple := Z.b_tuple
  have g_ONE := Z.g_ONE
  have r_ONE := Z.r_ONE
  have h_product := h_product (P := P) (w := w) (base := base) Z
  have h_is_less := h_is_less (P := P) (w := w) (base := base) Z
  have h_figure_of := h_figure_of (P := P) (w := w) (base := base) Z
  have h_rest_of := h_rest_of (P := P) (w := w) (base := base) Z
  have h_whole := h_whole (P := P) (w := w) (base := base) Z
  have h_shortest := h_shortest (P := P) (w := w) (base := base) Z
  obtain ⟨fd, f, hm, F⟩ := Z.f_figures_of
  refine okDef (df := D_figures_of) (N := ["number", "found", "met", "rest", "turn", "begin", "twice"]) (ps := ["number"]) F hm (by decide +kernel) rfl rfl ?_ ?_ ?_
  · intro kV doc pm an cdv ct us hl
    match us, hl with
    | [u0], _ => rfl
  · exact fun c hc => (List.not_mem_nil hc).elim
  · intro cdv A outer s H E n0 hr
    have hN : (["number", "found", "met", "rest", "turn", "begin", "twice"] : List Str).Nodup := by decide +kernel
    exact (okS_cons (okS_par3 rfl hN rfl rfl rfl (by decide) (by decide) (by decide) rfl rfl rfl (okPk_n (okN_lst (okEs_cons (okE_call h_figure_of (hr.mono (by decide)) rfl takes_X rfl (okEs_cons (okE_var rfl (by first | exact .inl rfl | exact .inr (.inl rfl) | exact .inr (.inr rfl)) rfl rfl) (okEs_cons okE_int okEs_nil rfl) rfl) rfl rfl rfl) okEs_nil rfl) (by decide)) (okPk_dT (okPk_t (okE_call h_rest_of (hr.mono (by decide)) rfl takes_X rfl (okEs_cons (okE_var rfl (by first | exact .inl rfl | exact .inr (.inl rfl) | exact .inr (.inr rfl)) rfl rfl) (okEs_cons okE_int okEs_nil rfl) rfl) rfl rfl rfl) okPk_nil rfl) rfl (by decide)) rfl (by decide)) rfl rfl) (okS_cons (okS_for passes_X rfl (okI_rng1 rfl b_range (okEs_cons (n2e (okN_add (okE_idx (okE_var rfl (by first | exact .inl rfl | exact .inr (.inl rfl) | exact .inr (.inr rfl)) rfl rfl) okE_int (fun _ _ => rfl)) okE_int)) okEs_nil rfl) rfl) (okG_nameX hN rfl (by first | exact .inl rfl | exact .inr rfl) (.inl rfl)) (okS_cons (okS_if (Ok.te (ok_inD (room1 hr) (okE_var rfl (by first | exact .inl rfl | exact .inr (.inl rfl) | exact .inr (.inr rfl)) rfl rfl) (okE_var rfl (by first | exact .inl rfl | exact .inr (.inl rfl) | exact .inr (.inr rfl)) rfl rfl) rfl)) (okS_cons okS_brk okS_nil) okS_nil) (okS_cons (okS_updD (room1 hr) (okE_var rfl (by first | exact .inl rfl | exact .inr (.inl rfl) | exact .inr (.inr rfl)) rfl rfl) (okE_var rfl (by first | exact .inl rfl | exact .inr (.inl rfl) | exact .inr (.inr rfl)) rfl rfl) (okE_callB (id := "len") call_len prim_len rfl b_len (by decide +kernel) (okEs_cons (okE_var rfl (by first | exact .inl rfl | exact .inr (.inl rfl) | exact .inr (.inr rfl)) rfl rfl) okEs_nil rfl) (by decide) rfl rfl rfl) rfl) (okS_cons (okS_set (okE_call h_product (hr.mono (by decide)) rfl takes_X rfl (okEs_cons (okE_fz (okE_var rfl (by first | exact .inl rfl | exact .inr (.inl rfl) | exact .inr (.inr rfl)) rfl rfl)) (okEs_cons (okE_call h_whole (hr.mono (by decide)) rfl takes_X rfl (okEs_cons okE_int okEs_nil rfl) rfl rfl rfl) okEs_nil rfl) rfl) rfl rfl rfl) (okG_nameX hN rfl (by first | exact .inl rfl | exact .inr rfl) (.inl rfl)) rfl rfl rfl) (okS_cons (okS_xp (okE_append (okE_var rfl (by first | exact .inl rfl | exact .inr (.inl rfl) | exact .inr (.inr rfl)) rfl rfl) (okEs_cons (okE_callTy (T := "int") cr_intA prim_int rfl b_int (by decide +kernel) (okEs_cons (Ok.ve (ok_not (Ok.plain (okE_call h_is_less (hr.mono (by decide)) rfl takes_X rfl (okEs_cons (okE_var rfl (by first | exact .inl rfl | exact .inr (.inl rfl) | exact .inr (.inr rfl)) rfl rfl) (okEs_cons (okE_g (C8.pe_gc rfl g_ONE rfl) r_ONE) okEs_nil rfl) rfl) rfl rfl rfl) (fun _ => rfl)))) okEs_nil rfl) (by decide) rfl rfl rfl) okEs_nil rfl) rfl rfl rfl rfl rfl) rfl) (okS_cons (okS_setT hN rfl (by first | exact .inl rfl | exact .inr rfl) (.inl rfl) (okE_call h_rest_of (hr.mono (by decide)) rfl takes_X rfl (okEs_cons (okE_fz (okE_var rfl (by first | exact .inl rfl | exact .inr (.inl rfl) | exact .inr (.inr rfl)) rfl rfl)) (okEs_cons okE_int okEs_nil rfl) rfl) rfl rfl rfl) rfl rfl rfl) okS_nil))))) (fun _ => rfl)) (okS_cons (okS_set (okE_get (room1 hr) (okE_var rfl (by first | exact .inl rfl | exact .inr (.inl rfl) | exact .inr (.inr rfl)) rfl rfl) (okE_var rfl (by first | exact .inl rfl | exact .inr (.inl rfl) | exact .inr (.inr rfl)) rfl rfl) (fun _ _ => rfl)) (okG_nameX hN rfl (by first | exact .inl rfl | exact .inr rfl) (.inl rfl)) rfl rfl rfl) (okS_cons (okS_ret (okE_call h_shortest (hr.mono (by decide)) rfl takes_X rfl (okEs_cons (okE_callTy (T := "tuple") call_tuple_of prim_tuple rfl b_tuple (by decide +kernel) (okEs_cons (n2e (okN_slHi (okE_var rfl (by first | exact .inl rfl | exact .inr (.inl rfl) | exact .inr (.inr rfl)) rfl rfl) (okE_var rfl (by first | exact .inl rfl | exact .inr (.inl rfl) | exact .inr (.inr rfl)) rfl rfl))) okEs_nil rfl) (by decide) rfl rfl rfl) (okEs_cons (okE_callTy (T := "tuple") call_tuple_of prim_tuple rfl b_tuple (by decide +kernel) (okEs_cons (n2e (okN_slLo (okE_var rfl (by first | exact .inl rfl | exact .inr (.inl rfl) | exact .inr (.inr rfl)) rfl rfl) (okE_var rfl (by first | exact .inl rfl | exact .inr (.inl rfl) | exact .inr (.inr rfl)) rfl rfl))) okEs_nil rfl) (by decide) rfl rfl rfl) okEs_nil rfl) rfl) rfl rfl rfl)) okS_nil))))
theorem h_figures (Z : Hd K mg) : FnAt P w K mg base 5 "figures" 1 .v F_figures [(0, ["number"], [0])] := by
  have h_check_part := h_check_part (P := P) (w := w) (base := base) Z
  have h_figures_of := h_figures_of (P := P) (w := w) (base := base) Z
  obtain ⟨fd, f, hm, F⟩ := Z.f_figures
  refine okDef (df := D_figures) (N := ["number"]) (ps := ["number"]) F hm (by decide +kernel) rfl rfl ?_ ?_ ?_
  · intro kV doc pm an cdv ct us hl
    match us, hl with
    | [u0], _ => rfl
  · intro c hc
    simp only [List.mem_cons, List.mem_nil_iff, or_false] at hc
    subst hc
    · intro kV doc pm an cdv ct us ws h1 h2
      match us, ws, h1, h2 with
      | [], [w0], _, _ => rfl
  · intro cdv A outer s H E n0 hr
    have hN : (["number"] : List Str).Nodup := by decide +kernel
    exact (okS_cons (okS_xp (okE_call h_check_part (hr.mono (by decide)) rfl takes_X rfl (okEs_cons (okE_var rfl (by first | exact .inl rfl | exact .inr (.inl rfl) | exact .inr (.inr rfl)) rfl rfl) okEs_nil rfl) rfl rfl rfl) rfl) (okS_cons (okS_ret (okE_call h_figures_of (hr.mono (by decide)) rfl takes_X rfl (okEs_cons (okE_var rfl (by first | exact .inl rfl | exact .inr (.inl rfl) | exact .inr (.inr rfl)) rfl rfl) okEs_nil rfl) rfl rfl rfl)) okS_nil))
theorem h_are_figures (Z : Hd K mg) : FnAt P w K mg base 4 "are_figures" 1 .v F_are_figures [] := by
  have b_all := Z.b_all
  have b_isinstance := Z.b_isinstance
  have b_tuple := Z.b_tuple
  have h_is_below := h_is_below (P := P) (w := w) (base := base) Z
  obtain ⟨fd, f, hm, F⟩ := Z.f_are_figures
  refine okDef (df := D_are_figures) (N := ["value", "a"]) (ps := ["value"]) F hm (by decide +kernel) rfl rfl ?_ ?_ ?_
  · intro kV doc pm an cdv ct us hl
    match us, hl with
    | [u0], _ => rfl
  · exact fun c hc => (List.not_mem_nil hc).elim
  · intro cdv A outer s H E n0 hr
    have hN : (["value", "a"] : List Str).Nodup := by decide +kernel
    exact (okS_cons (okS_ret (Ok.ve (OkW.ok (ok_and (Ok.plain (okE_isi (n := "") (t := .tuple) (p2 := ⟨0, 0, 0, 0⟩) rfl b_isinstance (okE_var rfl (by first | exact .inl rfl | exact .inr (.inl rfl) | exact .inr (.inr rfl)) rfl rfl) (pe_bltn rfl b_tuple boot_tuple rfl) rfl rfl rfl) (fun _ => rfl)) (ok_and1 (Ok.plain (okE_callB (id := "all") (cr_all rfl) prim_all rfl b_all (by decide +kernel) (okEs_cons (n2e (okN_lc (own := [("a", 1)]) rfl hN (okI_of (okE_var rfl (by first | exact .inl rfl | exact .inr (.inl rfl) | exact .inr (.inr rfl)) rfl rfl)) (blkOk_by (show blkC ["value", "a"] (defScope (top 31)) _ _ = true by decide +kernel)) (okG_nameB hN rfl rfl) (by decide) (fun Y hY => by obtain ⟨s, H, C, cl, fp, rfl⟩ := hY; exact okTs_nil) (fun Y hY => by obtain ⟨s, H, C, cl, fp, rfl⟩ := hY; exact (okE_call h_is_below (hr.mono (by decide)) rfl takes_W0 rfl (okEs_cons (okE_var rfl (by first | exact .inl rfl | exact .inr (.inl rfl) | exact .inr (.inr rfl)) rfl rfl) (okEs_cons okE_int okEs_nil rfl) rfl) rfl rfl rfl)) (fun _ => rfl))) okEs_nil rfl) (by decide) rfl rfl rfl) (fun _ => rfl))))))) okS_nil)
theorem h_sum_of_figures (Z : Hd K mg) : FnAt P w K mg base 4 "sum_of_figures" 2 .v F_sum_of_figures [] := by
  have b_enumerate := Z.b_enumerate
  have h_sum_of_all := h_sum_of_all (P := P) (w := w) (base := base) Z
  have h_whole := h_whole (P := P) (w := w) (base := base) Z
  have h_by_halves := h_by_halves (P := P) (w := w) (base := base) Z
  obtain ⟨fd, f, hm, F⟩ := Z.f_sum_of_figures
  refine okDef (df := D_sum_of_figures) (N := ["some", "begin", "at", "a"]) (ps := ["some", "begin"]) F hm (by decide +kernel) rfl rfl ?_ ?_ ?_
  · intro kV doc pm an cdv ct us hl
    match us, hl with
    | [u0, u1], _ => rfl
  · exact fun c hc => (List.not_mem_nil hc).elim
  · intro cdv A outer s H E n0 hr
    have hN : (["some", "begin", "at", "a"] : List Str).Nodup := by decide +kernel
    exact (okS_cons (okS_ret (okE_call h_sum_of_all (hr.mono (by decide)) rfl takes_X rfl (okEs_cons (n2e (okN_lc (own := [("at", 2), ("a", 3)]) rfl hN (okI_enum rfl b_enumerate (okEs_cons (okE_var rfl (by first | exact .inl rfl | exact .inr (.inl rfl) | exact .inr (.inr rfl)) rfl rfl) okEs_nil rfl) rfl) (blkOk_by (show blkC ["some", "begin", "at", "a"] (defScope (top 32)) _ _ = true by decide +kernel)) (okG_tup (fun Y hY => by obtain ⟨s, H, C, cl, fp, rfl⟩ := hY; rfl) (fun Y hY => by obtain ⟨s, H, C, cl, fp, rfl⟩ := hY; rfl) (okGs_cons (okG_nameB hN rfl rfl) (okGs_cons (okG_nameB hN rfl rfl) okGs_nil (fun Y hY => by obtain ⟨s, H, C, cl, fp, rfl⟩ := hY; rfl)) (fun Y hY => by obtain ⟨s, H, C, cl, fp, rfl⟩ := hY; rfl)) (fun Y hY => by obtain ⟨s, H, C, cl, fp, rfl⟩ := hY; rfl) (fun Y hY => by obtain ⟨s, H, C, cl, fp, rfl⟩ := hY; rfl)) (by decide) (fun Y hY => by obtain ⟨s, H, C, cl, fp, rfl⟩ := hY; exact okTs_nil) (fun Y hY => by obtain ⟨s, H, C, cl, fp, rfl⟩ := hY; exact (okE_call h_by_halves (hr.mono (by decide)) rfl takes_W0 rfl (okEs_cons (okE_call h_whole (hr.mono (by decide)) rfl takes_W0 rfl (okEs_cons (okE_var rfl (by first | exact .inl rfl | exact .inr (.inl rfl) | exact .inr (.inr rfl)) rfl rfl) okEs_nil rfl) rfl rfl rfl) (okEs_cons (n2e (okN_add (okE_var rfl (by first | exact .inl rfl | exact .inr (.inl rfl) | exact .inr (.inr rfl)) rfl rfl) (okE_var rfl (by first | exact .inl rfl | exact .inr (.inl rfl) | exact .inr (.inr rfl)) rfl rfl))) okEs_nil rfl) rfl) rfl rfl rfl)) (fun _ => rfl))) okEs_nil rfl) rfl rfl rfl)) okS_nil)
theorem h_again_and_again (Z : Hd K mg) : FnAt P w K mg base 3 "again_and_again" 2 .v F_again_and_again [] := by
  have h_power := h_power (P := P) (w := w) (base := base) Z
  have h_lowest := h_lowest (P := P) (w := w) (base := base) Z
  have h_quotient := h_quotient (P := P) (w := w) (base := base) Z
  obtain ⟨fd, f, hm, F⟩ := Z.f_again_and_again
  refine okDef (df := D_again_and_again) (N := ["first", "many"]) (ps := ["first", "many"]) F hm (by decide +kernel) rfl rfl ?_ ?_ ?_
  · intro kV doc pm an cdv ct us hl
    match us, hl with
    | [u0, u1], _ => rfl
  · exact fun c hc => (List.not_mem_nil hc).elim
  · intro cdv A outer s H E n0 hr
    have hN : (["first", "many"] : List Str).Nodup := by decide +kernel
    exact (okS_cons (okS_ret (okE_call h_quotient (hr.mono (by decide)) rfl takes_X rfl (okEs_cons (okE_var rfl (by first | exact .inl rfl | exact .inr (.inl rfl) | exact .inr (.inr rfl)) rfl rfl) (okEs_cons (t2e (okE_call h_lowest (hr.mono (by decide)) rfl takes_X rfl (okEs_cons (okE_sub (okE_call h_power (hr.mono (by decide)) rfl takes_X rfl (okEs_cons okE_int (okEs_cons (okE_var rfl (by first | exact .inl rfl | exact .inr (.inl rfl) | exact .inr (.inr rfl)) rfl rfl) okEs_nil rfl) rfl) rfl rfl rfl) okE_int) (okEs_cons (okE_call h_power (hr.mono (by decide)) rfl takes_X rfl (okEs_cons okE_int (okEs_cons (okE_var rfl (by first | exact .inl rfl | exact .inr (.inl rfl) | exact .inr (.inr rfl)) rfl rfl) okEs_nil rfl) rfl) rfl rfl rfl) okEs_nil rfl) rfl) rfl rfl rfl)) okEs_nil rfl) rfl) rfl rfl rfl)) okS_nil)
theorem h_number_of (Z : Hd K mg) : FnAt P w K mg base 5 "number_of" 1 .v F_number_of [] := by
  have b_len := Z.b_len
  have h_sum_of_two := h_sum_of_two (P := P) (w := w) (base := base) Z
  have h_again_and_again := h_again_and_again (P := P) (w := w) (base := base) Z
  have h_sum_of_figures := h_sum_of_figures (P := P) (w := w) (base := base) Z
  obtain ⟨fd, f, hm, F⟩ := Z.f_number_of
  refine okDef (df := D_number_of) (N := ["told", "ahead", "again"]) (ps := ["told"]) F hm (by decide +kernel) rfl rfl ?_ ?_ ?_
  · intro kV doc pm an cdv ct us hl
    match us, hl with
    | [u0], _ => rfl
  · exact fun c hc => (List.not_mem_nil hc).elim
  · intro cdv A outer s H E n0 hr
    have hN : (["told", "ahead", "again"] : List Str).Nodup := by decide +kernel
    exact (okS_cons (okS_set (okE_var rfl (by first | exact .inl rfl | exact .inr (.inl rfl) | exact .inr (.inr rfl)) rfl rfl) (okG_tup (fun Y hY => by cases hY; rfl) (fun Y hY => by cases hY; rfl) (okGs_cons (okG_nameX hN rfl (by first | exact .inl rfl | exact .inr rfl) (.inl rfl)) (okGs_cons (okG_nameX hN rfl (by first | exact .inl rfl | exact .inr rfl) (.inl rfl)) okGs_nil (fun Y hY => by cases hY; rfl)) (fun Y hY => by cases hY; rfl)) (fun Y hY => by cases hY; rfl) (fun Y hY => by cases hY; rfl)) rfl rfl rfl) (okS_cons (okS_ret (okE_call h_sum_of_two (hr.mono (by decide)) rfl takes_X rfl (okEs_cons (okE_call h_sum_of_figures (hr.mono (by decide)) rfl takes_X rfl (okEs_cons (okE_var rfl (by first | exact .inl rfl | exact .inr (.inl rfl) | exact .inr (.inr rfl)) rfl rfl) (okEs_cons okE_int okEs_nil rfl) rfl) rfl rfl rfl) (okEs_cons (okE_call h_again_and_again (hr.mono (by decide)) rfl takes_X rfl (okEs_cons (okE_call h_sum_of_figures (hr.mono (by decide)) rfl takes_X rfl (okEs_cons (okE_var rfl (by first | exact .inl rfl | exact .inr (.inl rfl) | exact .inr (.inr rfl)) rfl rfl) (okEs_cons (okE_callB (id := "len") call_len prim_len rfl b_len (by decide +kernel) (okEs_cons (okE_var rfl (by first | exact .inl rfl | exact .inr (.inl rfl) | exact .inr (.inr rfl)) rfl rfl) okEs_nil rfl) (by decide) rfl rfl rfl) okEs_nil rfl) rfl) rfl rfl rfl) (okEs_cons (okE_callB (id := "len") call_len prim_len rfl b_len (by decide +kernel) (okEs_cons (okE_var rfl (by first | exact .inl rfl | exact .inr (.inl rfl) | exact .inr (.inr rfl)) rfl rfl) okEs_nil rfl) (by decide) rfl rfl rfl) okEs_nil rfl) rfl) rfl rfl rfl) okEs_nil rfl) rfl) rfl rfl rfl)) okS_nil))
theorem h_number (Z : Hd K mg) : FnAt P w K mg base 6 "number" 1 .v F_number [(0, ["told"], [0])] := by
  have b_len := Z.b_len
  have g_ONE := Z.g_ONE
  have r_ONE := Z.r_ONE
  have h_is_less := h_is_less (P := P) (w := w) (base := base) Z
  have h_are_figures := h_are_figures (P := P) (w := w) (base := base) Z
  have h_number_of := h_number_of (P := P) (w := w) (base := base) Z
  have h_is_pair := h_is_pair (P := P) (w := w) (base := base) Z
  obtain ⟨fd, f, hm, F⟩ := Z.f_number
  refine okDef (df := D_number) (N := ["told", "found"]) (ps := ["told"]) F hm (by decide +kernel) rfl rfl ?_ ?_ ?_
  · intro kV doc pm an cdv ct us hl
    match us, hl with
    | [u0], _ => rfl
  · intro c hc
    simp only [List.mem_cons, List.mem_nil_iff, or_false] at hc
    subst hc
    · intro kV doc pm an cdv ct us ws h1 h2
      match us, ws, h1, h2 with
      | [], [w0], _, _ => rfl
  · intro cdv A outer s H E n0 hr
    have hN : (["told", "found"] : List Str).Nodup := by decide +kernel
    exact (okS_cons (okS_if (Ok.te (OkW.ok (ok_or (ok_not (Ok.plain (okE_call h_is_pair (hr.mono (by decide)) rfl takes_X rfl (okEs_cons (okE_var rfl (by first | exact .inl rfl | exact .inr (.inl rfl) | exact .inr (.inr rfl)) rfl rfl) okEs_nil rfl) rfl rfl rfl) (fun _ => rfl))) (ok_or (ok_not (Ok.plain (okE_call h_are_figures (hr.mono (by decide)) rfl takes_X rfl (okEs_cons (okE_idx (okE_var rfl (by first | exact .inl rfl | exact .inr (.inl rfl) | exact .inr (.inr rfl)) rfl rfl) okE_int (fun _ _ => rfl)) okEs_nil rfl) rfl rfl rfl) (fun _ => rfl))) (ok_or (ok_not (Ok.plain (okE_call h_are_figures (hr.mono (by decide)) rfl takes_X rfl (okEs_cons (okE_idx (okE_var rfl (by first | exact .inl rfl | exact .inr (.inl rfl) | exact .inr (.inr rfl)) rfl rfl) okE_int (fun _ _ => rfl)) okEs_nil rfl) rfl rfl rfl) (fun _ => rfl))) (ok_or1 (ok_eq hr.units (okE_callB (id := "len") call_len prim_len rfl b_len (by decide +kernel) (okEs_cons (okE_idx (okE_var rfl (by first | exact .inl rfl | exact .inr (.inl rfl) | exact .inr (.inr rfl)) rfl rfl) okE_int (fun _ _ => rfl)) okEs_nil rfl) (by decide) rfl rfl rfl) okE_int rfl))))))) (okS_cons okS_stuck okS_nil) okS_nil) (okS_cons (okS_set (okE_call h_number_of (hr.mono (by decide)) rfl takes_X rfl (okEs_cons (okE_var rfl (by first | exact .inl rfl | exact .inr (.inl rfl) | exact .inr (.inr rfl)) rfl rfl) okEs_nil rfl) rfl rfl rfl) (okG_nameX hN rfl (by first | exact .inl rfl | exact .inr rfl) (.inl rfl)) rfl rfl rfl) (okS_cons (okS_if (Ok.te (Ok.plain (okE_call h_is_less (hr.mono (by decide)) rfl takes_X rfl (okEs_cons (okE_g (C8.pe_gc rfl g_ONE rfl) r_ONE) (okEs_cons (okE_var rfl (by first | exact .inl rfl | exact .inr (.inl rfl) | exact .inr (.inr rfl)) rfl rfl) okEs_nil rfl) rfl) rfl rfl rfl) (fun _ => rfl))) (okS_cons okS_stuck okS_nil) okS_nil) (okS_cons (okS_ret (okE_var rfl (by first | exact .inl rfl | exact .inr (.inl rfl) | exact .inr (.inr rfl)) rfl rfl)) okS_nil))))
theorem h_figure (Z : Hd K mg) : FnAt P w K mg base 5 "figure" 2 .v F_figure [(0, ["number", "k"], [0, 1])] := by
  have h_check_part := h_check_part (P := P) (w := w) (base := base) Z
  have h_check_natural := h_check_natural (P := P) (w := w) (base := base) Z
  have h_figure_of := h_figure_of (P := P) (w := w) (base := base) Z
  obtain ⟨fd, f, hm, F⟩ := Z.f_figure
  refine okDef (df := D_figure) (N := ["number", "k"]) (ps := ["number", "k"]) F hm (by decide +kernel) rfl rfl ?_ ?_ ?_
  · intro kV doc pm an cdv ct us hl
    match us, hl with
    | [u0, u1], _ => rfl
  · intro c hc
    simp only [List.mem_cons, List.mem_nil_iff, or_false] at hc
    subst hc
    · intro kV doc pm an cdv ct us ws h1 h2
      match us, ws, h1, h2 with
      | [], [w0, w1], _, _ => rfl
  · intro cdv A outer s H E n0 hr
    have hN : (["number", "k"] : List Str).Nodup := by decide +kernel
    exact (okS_cons (okS_xp (okE_call h_check_part (hr.mono (by decide)) rfl takes_X rfl (okEs_cons (okE_var rfl (by first | exact .inl rfl | exact .inr (.inl rfl) | exact .inr (.inr rfl)) rfl rfl) okEs_nil rfl) rfl rfl rfl) rfl) (okS_cons (okS_xp (okE_call h_check_natural (hr.mono (by decide)) rfl takes_X rfl (okEs_cons (okE_var rfl (by first | exact .inl rfl | exact .inr (.inl rfl) | exact .inr (.inr rfl)) rfl rfl) okEs_nil rfl) rfl rfl rfl) rfl) (okS_cons (okS_ret (okE_call h_figure_of (hr.mono (by decide)) rfl takes_X rfl (okEs_cons (okE_var rfl (by first | exact .inl rfl | exact .inr (.inl rfl) | exact .inr (.inr rfl)) rfl rfl) (okEs_cons (okE_var rfl (by first | exact .inl rfl | exact .inr (.inl rfl) | exact .inr (.inr rfl)) rfl rfl) okEs_nil rfl) rfl) rfl rfl rfl)) okS_nil)))
theorem h_cost_of (Z : Hd K mg) : FnAt P w K mg base 5 "cost_of" 1 .v F_cost_of [] := by
  have b_enumerate := Z.b_enumerate
  have b_len := Z.b_len
  have g_ZERO := Z.g_ZERO
  have r_ZERO := Z.r_ZERO
  have h_sum_of_all := h_sum_of_all (P := P) (w := w) (base := base) Z
  have h_power := h_power (P := P) (w := w) (base := base) Z
  have h_again_and_again := h_again_and_again (P := P) (w := w) (base := base) Z
  have h_product := h_product (P := P) (w := w) (base := base) Z
  have h_quotient := h_quotient (P := P) (w := w) (base := base) Z
  have h_sum_of_two := h_sum_of_two (P := P) (w := w) (base := base) Z
  have h_whole := h_whole (P := P) (w := w) (base := base) Z
  have h_figures_of := h_figures_of (P := P) (w := w) (base := base) Z
  have h_sum_of_figures := h_sum_of_figures (P := P) (w := w) (base := base) Z
  have h_by_halves := h_by_halves (P := P) (w := w) (base := base) Z
  obtain ⟨fd, f, hm, F⟩ := Z.f_cost_of
  refine okDef (df := D_cost_of) (N := ["number", "ahead", "again", "total", "many", "later", "at", "a", "worth", "more", "k"]) (ps := ["number"]) F hm (by decide +kernel) rfl rfl ?_ ?_ ?_
  · intro kV doc pm an cdv ct us hl
    match us, hl with
    | [u0], _ => rfl
  · exact fun c hc => (List.not_mem_nil hc).elim
  · intro cdv A outer s H E n0 hr
    have hN : (["number", "ahead", "again", "total", "many", "later", "at", "a", "worth", "more", "k"] : List Str).Nodup := by decide +kernel
    exact (okS_cons (okS_set (okE_call h_figures_of (hr.mono (by decide)) rfl takes_X rfl (okEs_cons (okE_var rfl (by first | exact .inl rfl | exact .inr (.inl rfl) | exact .inr (.inr rfl)) rfl rfl) okEs_nil rfl) rfl rfl rfl) (okG_tup (fun Y hY => by cases hY; rfl) (fun Y hY => by cases hY; rfl) (okGs_cons (okG_nameX hN rfl (by first | exact .inl rfl | exact .inr rfl) (.inl rfl)) (okGs_cons (okG_nameX hN rfl (by first | exact .inl rfl | exact .inr rfl) (.inl rfl)) okGs_nil (fun Y hY => by cases hY; rfl)) (fun Y hY => by cases hY; rfl)) (fun Y hY => by cases hY; rfl) (fun Y hY => by cases hY; rfl)) rfl rfl rfl) (okS_cons (okS_set (okE_call h_sum_of_all (hr.mono (by decide)) rfl takes_X rfl (okEs_cons (n2e (okN_lc (own := [("k", 10), ("a", 7)]) rfl hN (okI_enum rfl b_enumerate (okEs_cons (okE_var rfl (by first | exact .inl rfl | exact .inr (.inl rfl) | exact .inr (.inr rfl)) rfl rfl) okEs_nil rfl) rfl) (blkOk_by (show blkC ["number", "ahead", "again", "total", "many", "later", "at", "a", "worth", "more", "k"] (defScope (top 37)) _ _ = true by decide +kernel)) (okG_tup (fun Y hY => by obtain ⟨s, H, C, cl, fp, rfl⟩ := hY; rfl) (fun Y hY => by obtain ⟨s, H, C, cl, fp, rfl⟩ := hY; rfl) (okGs_cons (okG_nameB hN rfl rfl) (okGs_cons (okG_nameB hN rfl rfl) okGs_nil (fun Y hY => by obtain ⟨s, H, C, cl, fp, rfl⟩ := hY; rfl)) (fun Y hY => by obtain ⟨s, H, C, cl, fp, rfl⟩ := hY; rfl)) (fun Y hY => by obtain ⟨s, H, C, cl, fp, rfl⟩ := hY; rfl) (fun Y hY => by obtain ⟨s, H, C, cl, fp, rfl⟩ := hY; rfl)) (by decide) (fun Y hY => by obtain ⟨s, H, C, cl, fp, rfl⟩ := hY; exact okTs_nil) (fun Y hY => by obtain ⟨s, H, C, cl, fp, rfl⟩ := hY; exact (okE_call h_by_halves (hr.mono (by decide)) rfl takes_W0 rfl (okEs_cons (okE_call h_whole (hr.mono (by decide)) rfl takes_W0 rfl (okEs_cons (n2e (okN_mul (okE_var rfl (by first | exact .inl rfl | exact .inr (.inl rfl) | exact .inr (.inr rfl)) rfl rfl) (okE_var rfl (by first | exact .inl rfl | exact .inr (.inl rfl) | exact .inr (.inr rfl)) rfl rfl))) okEs_nil rfl) rfl rfl rfl) (okEs_cons (okE_var rfl (by first | exact .inl rfl | exact .inr (.inl rfl) | exact .inr (.inr rfl)) rfl rfl) okEs_nil rfl) rfl) rfl rfl rfl)) (fun _ => rfl))) okEs_nil rfl) rfl rfl rfl) (okG_nameX hN rfl (by first | exact .inl rfl | exact .inr rfl) (.inl rfl)) rfl rfl rfl) (okS_cons (okS_set (okE_callB (id := "len") call_len prim_len rfl b_len (by decide +kernel) (okEs_cons (okE_var rfl (by first | exact .inl rfl | exact .inr (.inl rfl) | exact .inr (.inr rfl)) rfl rfl) okEs_nil rfl) (by decide) rfl rfl rfl) (okG_nameX hN rfl (by first | exact .inl rfl | exact .inr rfl) (.inl rfl)) rfl rfl rfl) (okS_cons (okS_set (okE_g (C8.pe_gc rfl g_ZERO rfl) r_ZERO) (okG_nameX hN rfl (by first | exact .inl rfl | exact .inr rfl) (.inl rfl)) rfl rfl rfl) (okS_cons (okS_for passes_X rfl (okI_enum rfl b_enumerate (okEs_cons (okE_var rfl (by first | exact .inl rfl | exact .inr (.inl rfl) | exact .inr (.inr rfl)) rfl rfl) okEs_nil rfl) rfl) (okG_tup (fun Y hY => by cases hY; rfl) (fun Y hY => by cases hY; rfl) (okGs_cons (okG_nameX hN rfl (by first | exact .inl rfl | exact .inr rfl) (.inl rfl)) (okGs_cons (okG_nameX hN rfl (by first | exact .inl rfl | exact .inr rfl) (.inl rfl)) okGs_nil (fun Y hY => by cases hY; rfl)) (fun Y hY => by cases hY; rfl)) (fun Y hY => by cases hY; rfl) (fun Y hY => by cases hY; rfl)) (okS_cons (okS_set (n2e (okN_add (okE_callB (id := "len") call_len prim_len rfl b_len (by decide +kernel) (okEs_cons (okE_var rfl (by first | exact .inl rfl | exact .inr (.inl rfl) | exact .inr (.inr rfl)) rfl rfl) okEs_nil rfl) (by decide) rfl rfl rfl) (okE_var rfl (by first | exact .inl rfl | exact .inr (.inl rfl) | exact .inr (.inr rfl)) rfl rfl))) (okG_nameX hN rfl (by first | exact .inl rfl | exact .inr rfl) (.inl rfl)) rfl rfl rfl) (okS_cons (okS_set (okE_call h_sum_of_two (hr.mono (by decide)) rfl takes_X rfl (okEs_cons (okE_var rfl (by first | exact .inl rfl | exact .inr (.inl rfl) | exact .inr (.inr rfl)) rfl rfl) (okEs_cons (okE_call h_by_halves (hr.mono (by decide)) rfl takes_X rfl (okEs_cons (okE_call h_whole (hr.mono (by decide)) rfl takes_X rfl (okEs_cons (n2e (okN_mul (okE_var rfl (by first | exact .inl rfl | exact .inr (.inl rfl) | exact .inr (.inr rfl)) rfl rfl) (okE_var rfl (by first | exact .inl rfl | exact .inr (.inl rfl) | exact .inr (.inr rfl)) rfl rfl))) okEs_nil rfl) rfl rfl rfl) (okEs_cons (okE_var rfl (by first | exact .inl rfl | exact .inr (.inl rfl) | exact .inr (.inr rfl)) rfl rfl) okEs_nil rfl) rfl) rfl rfl rfl) okEs_nil rfl) rfl) rfl rfl rfl) (okG_nameX hN rfl (by first | exact .inl rfl | exact .inr rfl) (.inl rfl)) rfl rfl rfl) okS_nil)) (fun _ => rfl)) (okS_cons (okS_set (okE_call h_again_and_again (hr.mono (by decide)) rfl takes_X rfl (okEs_cons (okE_call h_sum_of_figures (hr.mono (by decide)) rfl takes_X rfl (okEs_cons (okE_var rfl (by first | exact .inl rfl | exact .inr (.inl rfl) | exact .inr (.inr rfl)) rfl rfl) (okEs_cons (okE_callB (id := "len") call_len prim_len rfl b_len (by decide +kernel) (okEs_cons (okE_var rfl (by first | exact .inl rfl | exact .inr (.inl rfl) | exact .inr (.inr rfl)) rfl rfl) okEs_nil rfl) (by decide) rfl rfl rfl) okEs_nil rfl) rfl) rfl rfl rfl) (okEs_cons (okE_var rfl (by first | exact .inl rfl | exact .inr (.inl rfl) | exact .inr (.inr rfl)) rfl rfl) okEs_nil rfl) rfl) rfl rfl rfl) (okG_nameX hN rfl (by first | exact .inl rfl | exact .inr rfl) (.inl rfl)) rfl rfl rfl) (okS_cons (okS_set (okE_call h_quotient (hr.mono (by decide)) rfl takes_X rfl (okEs_cons (okE_call h_product (hr.mono (by decide)) rfl takes_X rfl (okEs_cons (okE_call h_whole (hr.mono (by decide)) rfl takes_X rfl (okEs_cons (okE_var rfl (by first | exact .inl rfl | exact .inr (.inl rfl) | exact .inr (.inr rfl)) rfl rfl) okEs_nil rfl) rfl rfl rfl) (okEs_cons (okE_var rfl (by first | exact .inl rfl | exact .inr (.inl rfl) | exact .inr (.inr rfl)) rfl rfl) okEs_nil rfl) rfl) rfl rfl rfl) (okEs_cons (okE_call h_whole (hr.mono (by decide)) rfl takes_X rfl (okEs_cons (okE_sub (okE_call h_power (hr.mono (by decide)) rfl takes_X rfl (okEs_cons okE_int (okEs_cons (okE_var rfl (by first | exact .inl rfl | exact .inr (.inl rfl) | exact .inr (.inr rfl)) rfl rfl) okEs_nil rfl) rfl) rfl rfl rfl) okE_int) okEs_nil rfl) rfl rfl rfl) okEs_nil rfl) rfl) rfl rfl rfl) (okG_nameX hN rfl (by first | exact .inl rfl | exact .inr rfl) (.inl rfl)) rfl rfl rfl) (okS_cons (okS_ret (okE_call h_sum_of_all (hr.mono (by decide)) rfl takes_X rfl (okEs_cons (n2e (okN_lst (okEs_cons (okE_var rfl (by first | exact .inl rfl | exact .inr (.inl rfl) | exact .inr (.inr rfl)) rfl rfl) (okEs_cons (okE_call h_again_and_again (hr.mono (by decide)) rfl takes_X rfl (okEs_cons (okE_var rfl (by first | exact .inl rfl | exact .inr (.inl rfl) | exact .inr (.inr rfl)) rfl rfl) (okEs_cons (okE_var rfl (by first | exact .inl rfl | exact .inr (.inl rfl) | exact .inr (.inr rfl)) rfl rfl) okEs_nil rfl) rfl) rfl rfl rfl) (okEs_cons (okE_var rfl (by first | exact .inl rfl | exact .inr (.inl rfl) | exact .inr (.inr rfl)) rfl rfl) okEs_nil rfl) rfl) rfl) (by decide))) okEs_nil rfl) rfl rfl rfl)) okS_nil))))))))
theorem h_cost (Z : Hd K mg) : FnAt P w K mg base 6 "cost" 1 .v F_cost [(0, ["number"], [0])] := by
  have h_check_part := h_check_part (P := P) (w := w) (base := base) Z
  have h_cost_of := h_cost_of (P := P) (w := w) (base := base) Z
  obtain ⟨fd, f, hm, F⟩ := Z.f_cost
  refine okDef (df := D_cost) (N := ["number"]) (ps := ["number"]) F hm (by decide +kernel) rfl rfl ?_ ?_ ?_
  · intro kV doc pm an cdv ct us hl
    match us, hl with
    | [u0], _ => rfl
  · intro c hc
    simp only [List.mem_cons, List.mem_nil_iff, or_false] at hc
    subst hc
    · intro kV doc pm an cdv ct us ws h1 h2
      match us, ws, h1, h2 with
      | [], [w0], _, _ => rfl
  · intro cdv A outer s H E n0 hr
    have hN : (["number"] : List Str).Nodup := by decide +kernel
    exact (okS_cons (okS_xp (okE_call h_check_part (hr.mono (by decide)) rfl takes_X rfl (okEs_cons (okE_var rfl (by first | exact .inl rfl | exact .inr (.inl rfl) | exact .inr (.inr rfl)) rfl rfl) okEs_nil rfl) rfl rfl rfl) rfl) (okS_cons (okS_ret (okE_call h_cost_of (hr.mono (by decide)) rfl takes_X rfl (okEs_cons (okE_var rfl (by first | exact .inl rfl | exact .inr (.inl rfl) | exact .inr (.inr rfl)) rfl rfl) okEs_nil rfl) rfl rfl rfl)) okS_nil))
theorem h_rest (Z : Hd K mg) : FnAt P w K mg base 5 "rest" 2 .v F_rest [(0, ["k", "number"], [1, 0])] := by
  have h_check_part := h_check_part (P := P) (w := w) (base := base) Z
  have h_check_natural := h_check_natural (P := P) (w := w) (base := base) Z
  have h_rest_of := h_rest_of (P := P) (w := w) (base := base) Z
  obtain ⟨fd, f, hm, F⟩ := Z.f_rest
  refine okDef (df := D_rest) (N := ["number", "k"]) (ps := ["number", "k"]) F hm (by decide +kernel) rfl rfl ?_ ?_ ?_
  · intro kV doc pm an cdv ct us hl
    match us, hl with
    | [u0, u1], _ => rfl
  · intro c hc
    simp only [List.mem_cons, List.mem_nil_iff, or_false] at hc
    subst hc
    · intro kV doc pm an cdv ct us ws h1 h2
      match us, ws, h1, h2 with
      | [], [w0, w1], _, _ => rfl
  · intro cdv A outer s H E n0 hr
    have hN : (["number", "k"] : List Str).Nodup := by decide +kernel
    exact (okS_cons (okS_xp (okE_call h_check_part (hr.mono (by decide)) rfl takes_X rfl (okEs_cons (okE_var rfl (by first | exact .inl rfl | exact .inr (.inl rfl) | exact .inr (.inr rfl)) rfl rfl) okEs_nil rfl) rfl rfl rfl) rfl) (okS_cons (okS_xp (okE_call h_check_natural (hr.mono (by decide)) rfl takes_X rfl (okEs_cons (okE_var rfl (by first | exact .inl rfl | exact .inr (.inl rfl) | exact .inr (.inr rfl)) rfl rfl) okEs_nil rfl) rfl rfl rfl) rfl) (okS_cons (okS_ret (t2e (okE_call h_rest_of (hr.mono (by decide)) rfl takes_X rfl (okEs_cons (okE_var rfl (by first | exact .inl rfl | exact .inr (.inl rfl) | exact .inr (.inr rfl)) rfl rfl) (okEs_cons (okE_var rfl (by first | exact .inl rfl | exact .inr (.inl rfl) | exact .inr (.inr rfl)) rfl rfl) okEs_nil rfl) rfl) rfl rfl rfl))) okS_nil)))
theorem h__law_pot (Z : Hd K mg) : FnAt P w K mg base 1 "_law_pot" 1 .n F__law_pot [] := by
  have b_list := Z.b_list
  obtain ⟨fd, f, hm, F⟩ := Z.f__law_pot
  refine okDef (df := D__law_pot) (N := ["script"]) (ps := ["script"]) F hm (by decide +kernel) rfl rfl ?_ ?_ ?_
  · intro kV doc pm an cdv ct us hl
    match us, hl with
    | [u0], _ => rfl
  · exact fun c hc => (List.not_mem_nil hc).elim
  · intro cdv A outer s H E n0 hr
    have hN : (["script"] : List Str).Nodup := by decide +kernel
    exact (okS_cons (okS_ret (okN_add (n2e (okN_lst (okEs_cons okE_int (okEs_cons okE_int (okEs_cons okE_int okEs_nil rfl) rfl) rfl) (by decide))) (n2e (okE_callTy (T := "list") call_list_of prim_list rfl b_list (by decide +kernel) (okEs_cons (okE_var rfl (by first | exact .inl rfl | exact .inr (.inl rfl) | exact .inr (.inr rfl)) rfl rfl) okEs_nil rfl) (by decide) rfl rfl rfl)))) okS_nil)
theorem h__law_take (Z : Hd K mg) : FnAt P w K mg base 1 "_law_take" 2 .v F__law_take [] := by
  have b_int := Z.b_int
  have b_len := Z.b_len
  obtain ⟨fd, f, hm, F⟩ := Z.f__law_take
  refine okDef (df := D__law_take) (N := ["pot", "many", "cell", "digit", "mixed"]) (ps := ["pot", "many"]) F hm (by decide +kernel) rfl rfl ?_ ?_ ?_
  · intro kV doc pm an cdv ct us hl
    match us, hl with
    | [u0, u1], _ => rfl
  · exact fun c hc => (List.not_mem_nil hc).elim
  · intro cdv A outer s H E n0 hr
    have hN : (["pot", "many", "cell", "digit", "mixed"] : List Str).Nodup := by decide +kernel
    exact (okS_cons (okS_if (Ok.te (OkW.ok (ok_and (ok_eq hr.units (okE_idx (okE_var rfl (by first | exact .inl rfl | exact .inr (.inl rfl) | exact .inr (.inr rfl)) rfl rfl) okE_int (fun _ _ => rfl)) okE_int rfl) (ok_and1 (ok_lt (okE_idx (okE_var rfl (by first | exact .inl rfl | exact .inr (.inl rfl) | exact .inr (.inr rfl)) rfl rfl) okE_int (fun _ _ => rfl)) (okE_callB (id := "len") call_len prim_len rfl b_len (by decide +kernel) (okEs_cons (okE_var rfl (by first | exact .inl rfl | exact .inr (.inl rfl) | exact .inr (.inr rfl)) rfl rfl) okEs_nil rfl) (by decide) rfl rfl rfl) rfl))))) (okS_cons (okS_set (okE_idx (okE_var rfl (by first | exact .inl rfl | exact .inr (.inl rfl) | exact .inr (.inr rfl)) rfl rfl) (okE_idx (okE_var rfl (by first | exact .inl rfl | exact .inr (.inl rfl) | exact .inr (.inr rfl)) rfl rfl) okE_int (fun _ _ => rfl)) (fun _ _ => rfl)) (okG_nameX hN rfl (by first | exact .inl rfl | exact .inr rfl) (.inl rfl)) rfl rfl rfl) (okS_cons (okS_augL (p := .iadd) (okE_var rfl (by first | exact .inl rfl | exact .inr (.inl rfl) | exact .inr (.inr rfl)) rfl rfl) okE_int okE_int ip_add prim_iadd (fun _ _ _ => rfl)) (okS_cons (okS_if (Ok.te (ok_ge (okE_var rfl (by first | exact .inl rfl | exact .inr (.inl rfl) | exact .inr (.inr rfl)) rfl rfl) (okE_pow okE_int okE_int) rfl)) (okS_cons (okS_updL (okE_var rfl (by first | exact .inl rfl | exact .inr (.inl rfl) | exact .inr (.inr rfl)) rfl rfl) okE_int (okE_sub (okE_var rfl (by first | exact .inl rfl | exact .inr (.inl rfl) | exact .inr (.inr rfl)) rfl rfl) (okE_pow okE_int okE_int)) rfl rfl rfl (fun _ => rfl)) okS_nil) (okS_cons (okS_set (okE_mod (okE_callTy (T := "int") cr_intA prim_int rfl b_int (by decide +kernel) (okEs_cons (okE_var rfl (by first | exact .inl rfl | exact .inr (.inl rfl) | exact .inr (.inr rfl)) rfl rfl) okEs_nil rfl) (by decide) rfl rfl rfl) okE_int) (okG_nameX hN rfl (by first | exact .inl rfl | exact .inr rfl) (.inl rfl)) rfl rfl rfl) (okS_cons (okS_set (okE_mod (okE_callTy (T := "int") cr_intA prim_int rfl b_int (by decide +kernel) (okEs_cons (n2e (okN_add (n2e (okN_add (n2e (okN_mul (okE_var rfl (by first | exact .inl rfl | exact .inr (.inl rfl) | exact .inr (.inr rfl)) rfl rfl) (okE_var rfl (by first | exact .inl rfl | exact .inr (.inl rfl) | exact .inr (.inr rfl)) rfl rfl))) (n2e (okN_mul okE_int (okE_var rfl (by first | exact .inl rfl | exact .inr (.inl rfl) | exact .inr (.inr rfl)) rfl rfl))))) (n2e (okN_mul okE_int (okE_idx (okE_var rfl (by first | exact .inl rfl | exact .inr (.inl rfl) | exact .inr (.inr rfl)) rfl rfl) okE_int (fun _ _ => rfl)))))) okEs_nil rfl) (by decide) rfl rfl rfl) okE_int) (okG_nameX hN rfl (by first | exact .inl rfl | exact .inr rfl) (.inl rfl)) rfl rfl rfl) (okS_cons (okS_updL (okE_var rfl (by first | exact .inl rfl | exact .inr (.inl rfl) | exact .inr (.inr rfl)) rfl rfl) okE_int (okE_mod (okE_callTy (T := "int") cr_intA prim_int rfl b_int (by decide +kernel) (okEs_cons (n2e (okN_add (okE_idx (okE_var rfl (by first | exact .inl rfl | exact .inr (.inl rfl) | exact .inr (.inr rfl)) rfl rfl) okE_int (fun _ _ => rfl)) (okE_var rfl (by first | exact .inl rfl | exact .inr (.inl rfl) | exact .inr (.inr rfl)) rfl rfl))) okEs_nil rfl) (by decide) rfl rfl rfl) okE_int) rfl rfl rfl (fun _ => rfl)) okS_nil)))) okS_nil))) okS_nil) (okS_cons (okS_if (Ok.te (ok_gt (okE_idx (okE_var rfl (by first | exact .inl rfl | exact .inr (.inl rfl) | exact .inr (.inr rfl)) rfl rfl) okE_int (fun _ _ => rfl)) okE_int rfl)) (okS_cons (okS_set (okE_mod (okE_callTy (T := "int") cr_intA prim_int rfl b_int (by decide +kernel) (okEs_cons (okE_idx (okE_var rfl (by first | exact .inl rfl | exact .inr (.inl rfl) | exact .inr (.inr rfl)) rfl rfl) okE_int (fun _ _ => rfl)) okEs_nil rfl) (by decide) rfl rfl rfl) (okE_var rfl (by first | exact .inl rfl | exact .inr (.inl rfl) | exact .inr (.inr rfl)) rfl rfl)) (okG_nameX hN rfl (by first | exact .inl rfl | exact .inr rfl) (.inl rfl)) rfl rfl rfl) (okS_cons (okS_updL (okE_var rfl (by first | exact .inl rfl | exact .inr (.inl rfl) | exact .inr (.inr rfl)) rfl rfl) okE_int (okE_fdiv (okE_idx (okE_var rfl (by first | exact .inl rfl | exact .inr (.inl rfl) | exact .inr (.inr rfl)) rfl rfl) okE_int (fun _ _ => rfl)) (okE_var rfl (by first | exact .inl rfl | exact .inr (.inl rfl) | exact .inr (.inr rfl)) rfl rfl)) rfl rfl rfl (fun _ => rfl)) (okS_cons (okS_ret (okE_var rfl (by first | exact .inl rfl | exact .inr (.inl rfl) | exact .inr (.inr rfl)) rfl rfl)) okS_nil))) okS_nil) (okS_cons (okS_updL (okE_var rfl (by first | exact .inl rfl | exact .inr (.inl rfl) | exact .inr (.inr rfl)) rfl rfl) okE_int (okE_mod (okE_callTy (T := "int") cr_intA prim_int rfl b_int (by decide +kernel) (okEs_cons (n2e (okN_add (n2e (okN_add (n2e (okN_mul (okE_idx (okE_var rfl (by first | exact .inl rfl | exact .inr (.inl rfl) | exact .inr (.inr rfl)) rfl rfl) okE_int (fun _ _ => rfl)) okE_int)) (n2e (okN_mul okE_int (okE_idx (okE_var rfl (by first | exact .inl rfl | exact .inr (.inl rfl) | exact .inr (.inr rfl)) rfl rfl) okE_int (fun _ _ => rfl)))))) okE_int)) okEs_nil rfl) (by decide) rfl rfl rfl) okE_int) rfl rfl rfl (fun _ => rfl)) (okS_cons (okS_updL (okE_var rfl (by first | exact .inl rfl | exact .inr (.inl rfl) | exact .inr (.inr rfl)) rfl rfl) okE_int (okE_mod (okE_callTy (T := "int") cr_intA prim_int rfl b_int (by decide +kernel) (okEs_cons (n2e (okN_add (n2e (okN_mul (okE_idx (okE_var rfl (by first | exact .inl rfl | exact .inr (.inl rfl) | exact .inr (.inr rfl)) rfl rfl) okE_int (fun _ _ => rfl)) (okE_idx (okE_var rfl (by first | exact .inl rfl | exact .inr (.inl rfl) | exact .inr (.inr rfl)) rfl rfl) okE_int (fun _ _ => rfl)))) okE_int)) okEs_nil rfl) (by decide) rfl rfl rfl) okE_int) rfl rfl rfl (fun _ => rfl)) (okS_cons (okS_ret (okE_mod (okE_callTy (T := "int") cr_intA prim_int rfl b_int (by decide +kernel) (okEs_cons (okE_fdiv (okE_idx (okE_var rfl (by first | exact .inl rfl | exact .inr (.inl rfl) | exact .inr (.inr rfl)) rfl rfl) okE_int (fun _ _ => rfl)) okE_int) okEs_nil rfl) (by decide) rfl rfl rfl) (okE_var rfl (by first | exact .inl rfl | exact .inr (.inl rfl) | exact .inr (.inr rfl)) rfl rfl))) okS_nil)))))
theorem h__law_same (Z : Hd K mg) : FnAt P w K mg base 41 "_law_same" 2 .v F__law_same [] := by
  have b_all := Z.b_all
  have b_bool := Z.b_bool
  have b_int := Z.b_int
  have b_isinstance := Z.b_isinstance
  have b_len := Z.b_len
  have b_list := Z.b_list
  have b_range := Z.b_range
  have b_str := Z.b_str
  have b_tuple := Z.b_tuple
  suffices hk : ∀ k, FnAt P w K mg base (1 + k) "_law_same" 2 .v (G__law_same k) [] from hk 40
  obtain ⟨fd, f, hm, F⟩ := Z.f__law_same
  intro k
  induction k with
  | zero =>
    refine okDef0 (ps := ["got", "due"]) F hm rfl ?_
    intro kV doc pm an cdv ct us hl
    match us, hl with
    | [u0, u1], _ => rfl
  | succ k ih =>
    have h__law_same : FnAt P w K mg base (1 + k) "_law_same" 2 .v (G__law_same k) [] := ih
    refine okDef (df := D__law_same (G__law_same k)) (N := ["got", "due", "k"]) (ps := ["got", "due"]) F hm (by decide +kernel) rfl rfl ?_ ?_ ?_
    · intro kV doc pm an cdv ct us hl
      match us, hl with
      | [u0, u1], _ => rfl
    · exact fun c hc => (List.not_mem_nil hc).elim
    · intro cdv A outer s H E n0 hr
      have hN : (["got", "due", "k"] : List Str).Nodup := by decide +kernel
      exact (okS_cons (okS_if (Ok.te (ok_isN (okE_var rfl (by first | exact .inl rfl | exact .inr (.inl rfl) | exact .inr (.inr rfl)) rfl rfl) rfl)) (okS_cons (okS_ret (Ok.ve (ok_isN (okE_var rfl (by first | exact .inl rfl | exact .inr (.inl rfl) | exact .inr (.inr rfl)) rfl rfl) rfl))) okS_nil) okS_nil) (okS_cons (okS_if (Ok.te (Ok.plain (okE_isiT (ts := [.bool, .str]) rfl b_isinstance (okE_var rfl (by first | exact .inl rfl | exact .inr (.inl rfl) | exact .inr (.inr rfl)) rfl rfl) (okTy_cons (t := .bool) (pe_bltn rfl b_bool boot_bool rfl) (okTy_cons (t := .str) (pe_bltn rfl b_str boot_str rfl) okTy_nil rfl) rfl) (by decide) rfl rfl rfl) (fun _ => rfl))) (okS_cons (okS_ret (Ok.ve (OkW.ok (ok_and (ok_eq hr.units (okE_isi (n := "") (t := .bool) (p2 := ⟨0, 0, 0, 0⟩) rfl b_isinstance (okE_var rfl (by first | exact .inl rfl | exact .inr (.inl rfl) | exact .inr (.inr rfl)) rfl rfl) (pe_bltn rfl b_bool boot_bool rfl) rfl rfl rfl) (okE_isi (n := "") (t := .bool) (p2 := ⟨0, 0, 0, 0⟩) rfl b_isinstance (okE_var rfl (by first | exact .inl rfl | exact .inr (.inl rfl) | exact .inr (.inr rfl)) rfl rfl) (pe_bltn rfl b_bool boot_bool rfl) rfl rfl rfl) rfl) (ok_and (Ok.plain (okE_isiT (ts := [.bool, .str]) rfl b_isinstance (okE_var rfl (by first | exact .inl rfl | exact .inr (.inl rfl) | exact .inr (.inr rfl)) rfl rfl) (okTy_cons (t := .bool) (pe_bltn rfl b_bool boot_bool rfl) (okTy_cons (t := .str) (pe_bltn rfl b_str boot_str rfl) okTy_nil rfl) rfl) (by decide) rfl rfl rfl) (fun _ => rfl)) (ok_and1 (ok_eq hr.units (okE_var rfl (by first | exact .inl rfl | exact .inr (.inl rfl) | exact .inr (.inr rfl)) rfl rfl) (okE_var rfl (by first | exact .inl rfl | exact .inr (.inl rfl) | exact .inr (.inr rfl)) rfl rfl) rfl))))))) okS_nil) okS_nil) (okS_cons (okS_if (Ok.te (Ok.plain (okE_isi (n := "") (t := .int) (p2 := ⟨0, 0, 0, 0⟩) rfl b_isinstance (okE_var rfl (by first | exact .inl rfl | exact .inr (.inl rfl) | exact .inr (.inr rfl)) rfl rfl) (pe_bltn rfl b_int boot_int rfl) rfl rfl rfl) (fun _ => rfl))) (okS_cons (okS_ret (Ok.ve (OkW.ok (ok_and (Ok.plain (okE_isi (n := "") (t := .int) (p2 := ⟨0, 0, 0, 0⟩) rfl b_isinstance (okE_var rfl (by first | exact .inl rfl | exact .inr (.inl rfl) | exact .inr (.inr rfl)) rfl rfl) (pe_bltn rfl b_int boot_int rfl) rfl rfl rfl) (fun _ => rfl)) (ok_and (ok_not (Ok.plain (okE_isi (n := "") (t := .bool) (p2 := ⟨0, 0, 0, 0⟩) rfl b_isinstance (okE_var rfl (by first | exact .inl rfl | exact .inr (.inl rfl) | exact .inr (.inr rfl)) rfl rfl) (pe_bltn rfl b_bool boot_bool rfl) rfl rfl rfl) (fun _ => rfl))) (ok_and1 (ok_eq hr.units (okE_var rfl (by first | exact .inl rfl | exact .inr (.inl rfl) | exact .inr (.inr rfl)) rfl rfl) (okE_var rfl (by first | exact .inl rfl | exact .inr (.inl rfl) | exact .inr (.inr rfl)) rfl rfl) rfl))))))) okS_nil) okS_nil) (okS_cons (okS_if (Ok.te (OkW.ok (ok_or (ok_ne hr.units (okE_isi (n := "") (t := .list) (p2 := ⟨0, 0, 0, 0⟩) rfl b_isinstance (okE_var rfl (by first | exact .inl rfl | exact .inr (.inl rfl) | exact .inr (.inr rfl)) rfl rfl) (pe_bltn rfl b_list boot_list rfl) rfl rfl rfl) (okE_isi (n := "") (t := .list) (p2 := ⟨0, 0, 0, 0⟩) rfl b_isinstance (okE_var rfl (by first | exact .inl rfl | exact .inr (.inl rfl) | exact .inr (.inr rfl)) rfl rfl) (pe_bltn rfl b_list boot_list rfl) rfl rfl rfl) rfl) (ok_or1 (ok_ne hr.units (okE_isi (n := "") (t := .tuple) (p2 := ⟨0, 0, 0, 0⟩) rfl b_isinstance (okE_var rfl (by first | exact .inl rfl | exact .inr (.inl rfl) | exact .inr (.inr rfl)) rfl rfl) (pe_bltn rfl b_tuple boot_tuple rfl) rfl rfl rfl) (okE_isi (n := "") (t := .tuple) (p2 := ⟨0, 0, 0, 0⟩) rfl b_isinstance (okE_var rfl (by first | exact .inl rfl | exact .inr (.inl rfl) | exact .inr (.inr rfl)) rfl rfl) (pe_bltn rfl b_tuple boot_tuple rfl) rfl rfl rfl) rfl))))) (okS_cons (okS_ret okE_bl) okS_nil) okS_nil) (okS_cons (okS_ret (Ok.ve (OkW.ok (ok_and (ok_eq hr.units (okE_callB (id := "len") call_len prim_len rfl b_len (by decide +kernel) (okEs_cons (okE_var rfl (by first | exact .inl rfl | exact .inr (.inl rfl) | exact .inr (.inr rfl)) rfl rfl) okEs_nil rfl) (by decide) rfl rfl rfl) (okE_callB (id := "len") call_len prim_len rfl b_len (by decide +kernel) (okEs_cons (okE_var rfl (by first | exact .inl rfl | exact .inr (.inl rfl) | exact .inr (.inr rfl)) rfl rfl) okEs_nil rfl) (by decide) rfl rfl rfl) rfl) (ok_and1 (Ok.plain (okE_callB (id := "all") (cr_all rfl) prim_all rfl b_all (by decide +kernel) (okEs_cons (n2e (okN_lc (own := [("k", 2)]) rfl hN (okI_rng1 rfl b_range (okEs_cons (okE_callB (id := "len") call_len prim_len rfl b_len (by decide +kernel) (okEs_cons (okE_var rfl (by first | exact .inl rfl | exact .inr (.inl rfl) | exact .inr (.inr rfl)) rfl rfl) okEs_nil rfl) (by decide) rfl rfl rfl) okEs_nil rfl) rfl) (blkOk_by (show blkC ["got", "due", "k"] (defScope (top 43)) _ _ = true by decide +kernel)) (okG_nameB hN rfl rfl) (by decide) (fun Y hY => by obtain ⟨s, H, C, cl, fp, rfl⟩ := hY; exact okTs_nil) (fun Y hY => by obtain ⟨s, H, C, cl, fp, rfl⟩ := hY; exact (okE_call h__law_same (hr.mono (Nat.le_refl _)) rfl takes_W0 rfl (okEs_cons (okE_idx (okE_var rfl (by first | exact .inl rfl | exact .inr (.inl rfl) | exact .inr (.inr rfl)) rfl rfl) (okE_var rfl (by first | exact .inl rfl | exact .inr (.inl rfl) | exact .inr (.inr rfl)) rfl rfl) (fun _ _ => rfl)) (okEs_cons (okE_idx (okE_var rfl (by first | exact .inl rfl | exact .inr (.inl rfl) | exact .inr (.inr rfl)) rfl rfl) (okE_var rfl (by first | exact .inl rfl | exact .inr (.inl rfl) | exact .inr (.inr rfl)) rfl rfl) (fun _ _ => rfl)) okEs_nil rfl) rfl) rfl rfl rfl)) (fun _ => rfl))) okEs_nil rfl) (by decide) rfl rfl rfl) (fun _ => rfl))))))) okS_nil)))))
theorem h__law_divisor (Z : Hd K mg) : FnAt P w K mg base 1 "_law_divisor" 2 .v F__law_divisor [] := by
  have b_abs := Z.b_abs
  have b_int := Z.b_int
  have b_range := Z.b_range
  obtain ⟨fd, f, hm, F⟩ := Z.f__law_divisor
  refine okDef (df := D__law_divisor) (N := ["a", "b", "one", "other", "turn"]) (ps := ["a", "b"]) F hm (by decide +kernel) rfl rfl ?_ ?_ ?_
  · intro kV doc pm an cdv ct us hl
    match us, hl with
    | [u0, u1], _ => rfl
  · exact fun c hc => (List.not_mem_nil hc).elim
  · intro cdv A outer s H E n0 hr
    have hN : (["a", "b", "one", "other", "turn"] : List Str).Nodup := by decide +kernel
    exact (okS_cons (okS_par2 rfl hN rfl rfl (by decide) rfl rfl (okPk_v (okE_callB (id := "abs") call_abs prim_abs rfl b_abs (by decide +kernel) (okEs_cons (okE_var rfl (by first | exact .inl rfl | exact .inr (.inl rfl) | exact .inr (.inr rfl)) rfl rfl) okEs_nil rfl) (by decide) rfl rfl rfl) (okPk_v (okE_callB (id := "abs") call_abs prim_abs rfl b_abs (by decide +kernel) (okEs_cons (okE_var rfl (by first | exact .inl rfl | exact .inr (.inl rfl) | exact .inr (.inr rfl)) rfl rfl) okEs_nil rfl) (by decide) rfl rfl rfl) okPk_nil rfl) rfl) rfl rfl) (okS_cons (okS_for passes_X rfl (okI_rng1 rfl b_range (okEs_cons okE_int okEs_nil rfl) rfl) (okG_nameX hN rfl (by first | exact .inl rfl | exact .inr rfl) (.inl rfl)) (okS_cons (okS_if (Ok.te (ok_eq hr.units (okE_var rfl (by first | exact .inl rfl | exact .inr (.inl rfl) | exact .inr (.inr rfl)) rfl rfl) okE_int rfl)) (okS_cons okS_brk okS_nil) okS_nil) (okS_cons (okS_par2 rfl hN rfl rfl (by decide) rfl rfl (okPk_v (okE_var rfl (by first | exact .inl rfl | exact .inr (.inl rfl) | exact .inr (.inr rfl)) rfl rfl) (okPk_v (okE_mod (okE_callTy (T := "int") cr_intA prim_int rfl b_int (by decide +kernel) (okEs_cons (okE_var rfl (by first | exact .inl rfl | exact .inr (.inl rfl) | exact .inr (.inr rfl)) rfl rfl) okEs_nil rfl) (by decide) rfl rfl rfl) (okE_var rfl (by first | exact .inl rfl | exact .inr (.inl rfl) | exact .inr (.inr rfl)) rfl rfl)) okPk_nil rfl) rfl) rfl rfl) okS_nil)) (fun _ => rfl)) (okS_cons (okS_ret (okE_var rfl (by first | exact .inl rfl | exact .inr (.inl rfl) | exact .inr (.inr rfl)) rfl rfl)) okS_nil)))
theorem h__law_low (Z : Hd K mg) : FnAt P w K mg base 2 "_law_low" 2 .v F__law_low [] := by
  have h__law_divisor := h__law_divisor (P := P) (w := w) (base := base) Z
  obtain ⟨fd, f, hm, F⟩ := Z.f__law_low
  refine okDef (df := D__law_low) (N := ["top", "bottom", "by"]) (ps := ["top", "bottom"]) F hm (by decide +kernel) rfl rfl ?_ ?_ ?_
  · intro kV doc pm an cdv ct us hl
    match us, hl with
    | [u0, u1], _ => rfl
  · exact fun c hc => (List.not_mem_nil hc).elim
  · intro cdv A outer s H E n0 hr
    have hN : (["top", "bottom", "by"] : List Str).Nodup := by decide +kernel
    exact (okS_cons (okS_set (Ok.ve (ok_ife (ok_gt (okE_var rfl (by first | exact .inl rfl | exact .inr (.inl rfl) | exact .inr (.inr rfl)) rfl rfl) okE_int rfl) (Ok.plain (okE_call h__law_divisor (hr.mono (by decide)) rfl takes_X rfl (okEs_cons (okE_var rfl (by first | exact .inl rfl | exact .inr (.inl rfl) | exact .inr (.inr rfl)) rfl rfl) (okEs_cons (okE_var rfl (by first | exact .inl rfl | exact .inr (.inl rfl) | exact .inr (.inr rfl)) rfl rfl) okEs_nil rfl) rfl) rfl rfl rfl) (fun _ => rfl)) (Ok.plain (okE_sub okE_int (okE_call h__law_divisor (hr.mono (by decide)) rfl takes_X rfl (okEs_cons (okE_var rfl (by first | exact .inl rfl | exact .inr (.inl rfl) | exact .inr (.inr rfl)) rfl rfl) (okEs_cons (okE_var rfl (by first | exact .inl rfl | exact .inr (.inl rfl) | exact .inr (.inr rfl)) rfl rfl) okEs_nil rfl) rfl) rfl rfl rfl)) (fun _ => rfl)))) (okG_nameX hN rfl (by first | exact .inl rfl | exact .inr rfl) (.inl rfl)) rfl rfl rfl) (okS_cons (okS_ret (okE_tup (okEs_cons (okE_fdiv (okE_var rfl (by first | exact .inl rfl | exact .inr (.inl rfl) | exact .inr (.inr rfl)) rfl rfl) (okE_var rfl (by first | exact .inl rfl | exact .inr (.inl rfl) | exact .inr (.inr rfl)) rfl rfl)) (okEs_cons (okE_fdiv (okE_var rfl (by first | exact .inl rfl | exact .inr (.inl rfl) | exact .inr (.inr rfl)) rfl rfl) (okE_var rfl (by first | exact .inl rfl | exact .inr (.inl rfl) | exact .inr (.inr rfl)) rfl rfl)) okEs_nil rfl) rfl) (by decide))) okS_nil))
theorem h__law_add (Z : Hd K mg) : FnAt P w K mg base 3 "_law_add" 2 .v F__law_add [] := by
  have h__law_low := h__law_low (P := P) (w := w) (base := base) Z
  obtain ⟨fd, f, hm, F⟩ := Z.f__law_add
  refine okDef (df := D__law_add) (N := ["p", "q"]) (ps := ["p", "q"]) F hm (by decide +kernel) rfl rfl ?_ ?_ ?_
  · intro kV doc pm an cdv ct us hl
    match us, hl with
    | [u0, u1], _ => rfl
  · exact fun c hc => (List.not_mem_nil hc).elim
  · intro cdv A outer s H E n0 hr
    have hN : (["p", "q"] : List Str).Nodup := by decide +kernel
    exact (okS_cons (okS_ret (okE_call h__law_low (hr.mono (by decide)) rfl takes_X rfl (okEs_cons (n2e (okN_add (n2e (okN_mul (okE_idx (okE_var rfl (by first | exact .inl rfl | exact .inr (.inl rfl) | exact .inr (.inr rfl)) rfl rfl) okE_int (fun _ _ => rfl)) (okE_idx (okE_var rfl (by first | exact .inl rfl | exact .inr (.inl rfl) | exact .inr (.inr rfl)) rfl rfl) okE_int (fun _ _ => rfl)))) (n2e (okN_mul (okE_idx (okE_var rfl (by first | exact .inl rfl | exact .inr (.inl rfl) | exact .inr (.inr rfl)) rfl rfl) okE_int (fun _ _ => rfl)) (okE_idx (okE_var rfl (by first | exact .inl rfl | exact .inr (.inl rfl) | exact .inr (.inr rfl)) rfl rfl) okE_int (fun _ _ => rfl)))))) (okEs_cons (n2e (okN_mul (okE_idx (okE_var rfl (by first | exact .inl rfl | exact .inr (.inl rfl) | exact .inr (.inr rfl)) rfl rfl) okE_int (fun _ _ => rfl)) (okE_idx (okE_var rfl (by first | exact .inl rfl | exact .inr (.inl rfl) | exact .inr (.inr rfl)) rfl rfl) okE_int (fun _ _ => rfl)))) okEs_nil rfl) rfl) rfl rfl rfl)) okS_nil)
theorem h__law_mul (Z : Hd K mg) : FnAt P w K mg base 3 "_law_mul" 2 .v F__law_mul [] := by
  have h__law_low := h__law_low (P := P) (w := w) (base := base) Z
  obtain ⟨fd, f, hm, F⟩ := Z.f__law_mul
  refine okDef (df := D__law_mul) (N := ["p", "q"]) (ps := ["p", "q"]) F hm (by decide +kernel) rfl rfl ?_ ?_ ?_
  · intro kV doc pm an cdv ct us hl
    match us, hl with
    | [u0, u1], _ => rfl
  · exact fun c hc => (List.not_mem_nil hc).elim
  · intro cdv A outer s H E n0 hr
    have hN : (["p", "q"] : List Str).Nodup := by decide +kernel
    exact (okS_cons (okS_ret (okE_call h__law_low (hr.mono (by decide)) rfl takes_X rfl (okEs_cons (n2e (okN_mul (okE_idx (okE_var rfl (by first | exact .inl rfl | exact .inr (.inl rfl) | exact .inr (.inr rfl)) rfl rfl) okE_int (fun _ _ => rfl)) (okE_idx (okE_var rfl (by first | exact .inl rfl | exact .inr (.inl rfl) | exact .inr (.inr rfl)) rfl rfl) okE_int (fun _ _ => rfl)))) (okEs_cons (n2e (okN_mul (okE_idx (okE_var rfl (by first | exact .inl rfl | exact .inr (.inl rfl) | exact .inr (.inr rfl)) rfl rfl) okE_int (fun _ _ => rfl)) (okE_idx (okE_var rfl (by first | exact .inl rfl | exact .inr (.inl rfl) | exact .inr (.inr rfl)) rfl rfl) okE_int (fun _ _ => rfl)))) okEs_nil rfl) rfl) rfl rfl rfl)) okS_nil)
theorem h__law_doubled (Z : Hd K mg) : FnAt P w K mg base 3 "_law_doubled" 2 .v F__law_doubled [] := by
  have b_int := Z.b_int
  have b_range := Z.b_range
  have h__law_low := h__law_low (P := P) (w := w) (base := base) Z
  obtain ⟨fd, f, hm, F⟩ := Z.f__law_doubled
  refine okDef (df := D__law_doubled) (N := ["own", "many", "whole_v", "left", "found", "rests", "k"]) (ps := ["own", "many"]) F hm (by decide +kernel) rfl rfl ?_ ?_ ?_
  · intro kV doc pm an cdv ct us hl
    match us, hl with
    | [u0, u1], _ => rfl
  · exact fun c hc => (List.not_mem_nil hc).elim
  · intro cdv A outer s H E n0 hr
    have hN : (["own", "many", "whole_v", "left", "found", "rests", "k"] : List Str).Nodup := by decide +kernel
    exact (okS_cons (okS_par2 rfl hN rfl rfl (by decide) rfl rfl (okPk_v (okE_fdiv (okE_idx (okE_var rfl (by first | exact .inl rfl | exact .inr (.inl rfl) | exact .inr (.inr rfl)) rfl rfl) okE_int (fun _ _ => rfl)) (okE_idx (okE_var rfl (by first | exact .inl rfl | exact .inr (.inl rfl) | exact .inr (.inr rfl)) rfl rfl) okE_int (fun _ _ => rfl))) (okPk_v (okE_mod (okE_callTy (T := "int") cr_intA prim_int rfl b_int (by decide +kernel) (okEs_cons (okE_idx (okE_var rfl (by first | exact .inl rfl | exact .inr (.inl rfl) | exact .inr (.inr rfl)) rfl rfl) okE_int (fun _ _ => rfl)) okEs_nil rfl) (by decide) rfl rfl rfl) (okE_idx (okE_var rfl (by first | exact .inl rfl | exact .inr (.inl rfl) | exact .inr (.inr rfl)) rfl rfl) okE_int (fun _ _ => rfl))) okPk_nil rfl) rfl) rfl rfl) (okS_cons (okS_par2 rfl hN rfl rfl (by decide) rfl rfl (okPk_n (okN_lst (okEs_cons (okE_var rfl (by first | exact .inl rfl | exact .inr (.inl rfl) | exact .inr (.inr rfl)) rfl rfl) okEs_nil rfl) (by decide)) (okPk_n (okN_lst (okEs_cons (okE_call h__law_low (hr.mono (by decide)) rfl takes_X rfl (okEs_cons (okE_var rfl (by first | exact .inl rfl | exact .inr (.inl rfl) | exact .inr (.inr rfl)) rfl rfl) (okEs_cons (okE_idx (okE_var rfl (by first | exact .inl rfl | exact .inr (.inl rfl) | exact .inr (.inr rfl)) rfl rfl) okE_int (fun _ _ => rfl)) okEs_nil rfl) rfl) rfl rfl rfl) okEs_nil rfl) (by decide)) okPk_nil rfl (by decide)) rfl (by decide)) rfl rfl) (okS_cons (okS_for passes_X rfl (okI_rng2 rfl b_range (okEs_cons okE_int (okEs_cons (okE_var rfl (by first | exact .inl rfl | exact .inr (.inl rfl) | exact .inr (.inr rfl)) rfl rfl) okEs_nil rfl) rfl) rfl rfl) (okG_nameX hN rfl (by first | exact .inl rfl | exact .inr rfl) (.inl rfl)) (okS_cons (okS_set (n2e (okN_mul okE_int (okE_var rfl (by first | exact .inl rfl | exact .inr (.inl rfl) | exact .inr (.inr rfl)) rfl rfl))) (okG_nameX hN rfl (by first | exact .inl rfl | exact .inr rfl) (.inl rfl)) rfl rfl rfl) (okS_cons (okS_xp (okE_append (okE_var rfl (by first | exact .inl rfl | exact .inr (.inl rfl) | exact .inr (.inr rfl)) rfl rfl) (okEs_cons (okE_fdiv (okE_var rfl (by first | exact .inl rfl | exact .inr (.inl rfl) | exact .inr (.inr rfl)) rfl rfl) (okE_idx (okE_var rfl (by first | exact .inl rfl | exact .inr (.inl rfl) | exact .inr (.inr rfl)) rfl rfl) okE_int (fun _ _ => rfl))) okEs_nil rfl) rfl rfl rfl rfl rfl) rfl) (okS_cons (okS_set (okE_mod (okE_callTy (T := "int") cr_intA prim_int rfl b_int (by decide +kernel) (okEs_cons (okE_var rfl (by first | exact .inl rfl | exact .inr (.inl rfl) | exact .inr (.inr rfl)) rfl rfl) okEs_nil rfl) (by decide) rfl rfl rfl) (okE_idx (okE_var rfl (by first | exact .inl rfl | exact .inr (.inl rfl) | exact .inr (.inr rfl)) rfl rfl) okE_int (fun _ _ => rfl))) (okG_nameX hN rfl (by first | exact .inl rfl | exact .inr rfl) (.inl rfl)) rfl rfl rfl) (okS_cons (okS_xp (okE_append (okE_var rfl (by first | exact .inl rfl | exact .inr (.inl rfl) | exact .inr (.inr rfl)) rfl rfl) (okEs_cons (okE_call h__law_low (hr.mono (by decide)) rfl takes_X rfl (okEs_cons (okE_var rfl (by first | exact .inl rfl | exact .inr (.inl rfl) | exact .inr (.inr rfl)) rfl rfl) (okEs_cons (okE_idx (okE_var rfl (by first | exact .inl rfl | exact .inr (.inl rfl) | exact .inr (.inr rfl)) rfl rfl) okE_int (fun _ _ => rfl)) okEs_nil rfl) rfl) rfl rfl rfl) okEs_nil rfl) rfl rfl rfl rfl rfl) rfl) okS_nil)))) (fun _ => rfl)) (okS_cons (okS_ret (okE_tup (okEs_cons (okE_fz (okE_var rfl (by first | exact .inl rfl | exact .inr (.inl rfl) | exact .inr (.inr rfl)) rfl rfl)) (okEs_cons (okE_fz (okE_var rfl (by first | exact .inl rfl | exact .inr (.inl rfl) | exact .inr (.inr rfl)) rfl rfl)) okEs_nil rfl) rfl) (by decide))) okS_nil))))
theorem h__law_figures (Z : Hd K mg) : FnAt P w K mg base 4 "_law_figures" 1 .v F__law_figures [] := by
  have b_len := Z.b_len
  have b_range := Z.b_range
  have b_tuple := Z.b_tuple
  have h__law_doubled := h__law_doubled (P := P) (w := w) (base := base) Z
  obtain ⟨fd, f, hm, F⟩ := Z.f__law_figures
  refine okDef (df := D__law_figures) (N := ["own", "found", "rests", "begin", "size", "ahead", "again", "turn", "k"]) (ps := ["own"]) F hm (by decide +kernel) rfl rfl ?_ ?_ ?_
  · intro kV doc pm an cdv ct us hl
    match us, hl with
    | [u0], _ => rfl
  · exact fun c hc => (List.not_mem_nil hc).elim
  · intro cdv A outer s H E n0 hr
    have hN : (["own", "found", "rests", "begin", "size", "ahead", "again", "turn", "k"] : List Str).Nodup := by decide +kernel
    exact (okS_cons (okS_set (okE_call h__law_doubled (hr.mono (by decide)) rfl takes_X rfl (okEs_cons (okE_var rfl (by first | exact .inl rfl | exact .inr (.inl rfl) | exact .inr (.inr rfl)) rfl rfl) (okEs_cons (n2e (okN_add (n2e (okN_mul okE_int (okE_idx (okE_var rfl (by first | exact .inl rfl | exact .inr (.inl rfl) | exact .inr (.inr rfl)) rfl rfl) okE_int (fun _ _ => rfl)))) okE_int)) okEs_nil rfl) rfl) rfl rfl rfl) (okG_tup (fun Y hY => by cases hY; rfl) (fun Y hY => by cases hY; rfl) (okGs_cons (okG_nameX hN rfl (by first | exact .inl rfl | exact .inr rfl) (.inl rfl)) (okGs_cons (okG_nameX hN rfl (by first | exact .inl rfl | exact .inr rfl) (.inl rfl)) okGs_nil (fun Y hY => by cases hY; rfl)) (fun Y hY => by cases hY; rfl)) (fun Y hY => by cases hY; rfl) (fun Y hY => by cases hY; rfl)) rfl rfl rfl) (okS_cons (okS_set (okE_idx (n2e (okN_lc (own := [("k", 8)]) rfl hN (okI_rng1 rfl b_range (okEs_cons (okE_callB (id := "len") call_len prim_len rfl b_len (by decide +kernel) (okEs_cons (okE_var rfl (by first | exact .inl rfl | exact .inr (.inl rfl) | exact .inr (.inr rfl)) rfl rfl) okEs_nil rfl) (by decide) rfl rfl rfl) okEs_nil rfl) rfl) (blkOk_by (show blkC ["own", "found", "rests", "begin", "size", "ahead", "again", "turn", "k"] (defScope (top 49)) _ _ = true by decide +kernel)) (okG_nameB hN rfl rfl) (by decide) (fun Y hY => by obtain ⟨s, H, C, cl, fp, rfl⟩ := hY; exact okTs_one (Ok.te (ok_in (room65 hr) (okE_idx (okE_var rfl (by first | exact .inl rfl | exact .inr (.inl rfl) | exact .inr (.inr rfl)) rfl rfl) (okE_var rfl (by first | exact .inl rfl | exact .inr (.inl rfl) | exact .inr (.inr rfl)) rfl rfl) (fun _ _ => rfl)) (n2e (okN_slLo (okE_var rfl (by first | exact .inl rfl | exact .inr (.inl rfl) | exact .inr (.inr rfl)) rfl rfl) (n2e (okN_add (okE_var rfl (by first | exact .inl rfl | exact .inr (.inl rfl) | exact .inr (.inr rfl)) rfl rfl) okE_int)))) rfl))) (fun Y hY => by obtain ⟨s, H, C, cl, fp, rfl⟩ := hY; exact (okE_var rfl (by first | exact .inl rfl | exact .inr (.inl rfl) | exact .inr (.inr rfl)) rfl rfl)) (fun _ => rfl))) okE_int (fun _ _ => rfl)) (okG_nameX hN rfl (by first | exact .inl rfl | exact .inr rfl) (.inl rfl)) rfl rfl rfl) (okS_cons (okS_set (n2e (okN_add (okE_index (room65 hr) (n2e (okN_slLo (okE_var rfl (by first | exact .inl rfl | exact .inr (.inl rfl) | exact .inr (.inr rfl)) rfl rfl) (n2e (okN_add (okE_var rfl (by first | exact .inl rfl | exact .inr (.inl rfl) | exact .inr (.inr rfl)) rfl rfl) okE_int)))) (okEs_cons (okE_idx (okE_var rfl (by first | exact .inl rfl | exact .inr (.inl rfl) | exact .inr (.inr rfl)) rfl rfl) (okE_var rfl (by first | exact .inl rfl | exact .inr (.inl rfl) | exact .inr (.inr rfl)) rfl rfl) (fun _ _ => rfl)) okEs_nil rfl) rfl rfl rfl rfl rfl) okE_int)) (okG_nameX hN rfl (by first | exact .inl rfl | exact .inr rfl) (.inl rfl)) rfl rfl rfl) (okS_cons (okS_par2 rfl hN rfl rfl (by decide) rfl rfl (okPk_v (okE_callTy (T := "tuple") call_tuple_of prim_tuple rfl b_tuple (by decide +kernel) (okEs_cons (n2e (okN_slHi (okE_var rfl (by first | exact .inl rfl | exact .inr (.inl rfl) | exact .inr (.inr rfl)) rfl rfl) (n2e (okN_add (okE_var rfl (by first | exact .inl rfl | exact .inr (.inl rfl) | exact .inr (.inr rfl)) rfl rfl) okE_int)))) okEs_nil rfl) (by decide) rfl rfl rfl) (okPk_v (okE_callTy (T := "tuple") call_tuple_of prim_tuple rfl b_tuple (by decide +kernel) (okEs_cons (n2e (okN_slLH (okE_var rfl (by first | exact .inl rfl | exact .inr (.inl rfl) | exact .inr (.inr rfl)) rfl rfl) (n2e (okN_add (okE_var rfl (by first | exact .inl rfl | exact .inr (.inl rfl) | exact .inr (.inr rfl)) rfl rfl) okE_int)) (n2e (okN_add (n2e (okN_add (okE_var rfl (by first | exact .inl rfl | exact .inr (.inl rfl) | exact .inr (.inr rfl)) rfl rfl) okE_int)) (okE_var rfl (by first | exact .inl rfl | exact .inr (.inl rfl) | exact .inr (.inr rfl)) rfl rfl))))) okEs_nil rfl) (by decide) rfl rfl rfl) okPk_nil rfl) rfl) rfl rfl) (okS_cons (okS_for passes_X rfl (okI_rng1 rfl b_range (okEs_cons (okE_callB (id := "len") call_len prim_len rfl b_len (by decide +kernel) (okEs_cons (okE_var rfl (by first | exact .inl rfl | exact .inr (.inl rfl) | exact .inr (.inr rfl)) rfl rfl) okEs_nil rfl) (by decide) rfl rfl rfl) okEs_nil rfl) rfl) (okG_nameX hN rfl (by first | exact .inl rfl | exact .inr rfl) (.inl rfl)) (okS_cons (okS_if (Ok.te (ok_eq hr.units (okE_idx (okE_var rfl (by first | exact .inl rfl | exact .inr (.inl rfl) | exact .inr (.inr rfl)) rfl rfl) (okE_neg okE_int) (fun _ _ => rfl)) (okE_idx (okE_var rfl (by first | exact .inl rfl | exact .inr (.inl rfl) | exact .inr (.inr rfl)) rfl rfl) (okE_neg okE_int) (fun _ _ => rfl)) rfl)) (okS_cons (okS_par2 rfl hN rfl rfl (by decide) rfl rfl (okPk_v (n2e (okN_slHi (okE_var rfl (by first | exact .inl rfl | exact .inr (.inl rfl) | exact .inr (.inr rfl)) rfl rfl) (okE_neg okE_int))) (okPk_v (n2e (okN_add (n2e (okN_slLo (okE_var rfl (by first | exact .inl rfl | exact .inr (.inl rfl) | exact .inr (.inr rfl)) rfl rfl) (okE_neg okE_int))) (n2e (okN_slHi (okE_var rfl (by first | exact .inl rfl | exact .inr (.inl rfl) | exact .inr (.inr rfl)) rfl rfl) (okE_neg okE_int))))) okPk_nil rfl) rfl) rfl rfl) (okS_cons (okS_if (Ok.te (ok_eq hr.units (okE_var rfl (by first | exact .inl rfl | exact .inr (.inl rfl) | exact .inr (.inr rfl)) rfl rfl) (okE_tup okEs_nil (by decide)) rfl)) (okS_cons okS_brk okS_nil) okS_nil) okS_nil)) (okS_cons okS_brk okS_nil)) okS_nil) (fun _ => rfl)) (okS_cons (okS_ret (okE_tup (okEs_cons (okE_var rfl (by first | exact .inl rfl | exact .inr (.inl rfl) | exact .inr (.inr rfl)) rfl rfl) (okEs_cons (okE_var rfl (by first | exact .inl rfl | exact .inr (.inl rfl) | exact .inr (.inr rfl)) rfl rfl) okEs_nil rfl) rfl) (by decide))) okS_nil))))))
theorem h__law_power (Z : Hd K mg) : FnAt P w K mg base 1 "_law_power" 2 .v F__law_power [] := by
  have b_range := Z.b_range
  obtain ⟨fd, f, hm, F⟩ := Z.f__law_power
  refine okDef (df := D__law_power) (N := ["own", "times", "found", "turn"]) (ps := ["own", "times"]) F hm (by decide +kernel) rfl rfl ?_ ?_ ?_
  · intro kV doc pm an cdv ct us hl
    match us, hl with
    | [u0, u1], _ => rfl
  · exact fun c hc => (List.not_mem_nil hc).elim
  · intro cdv A outer s H E n0 hr
    have hN : (["own", "times", "found", "turn"] : List Str).Nodup := by decide +kernel
    exact (okS_cons (okS_set okE_int (okG_nameX hN rfl (by first | exact .inl rfl | exact .inr rfl) (.inl rfl)) rfl rfl rfl) (okS_cons (okS_for passes_X rfl (okI_rng1 rfl b_range (okEs_cons (okE_var rfl (by first | exact .inl rfl | exact .inr (.inl rfl) | exact .inr (.inr rfl)) rfl rfl) okEs_nil rfl) rfl) (okG_nameX hN rfl (by first | exact .inl rfl | exact .inr rfl) (.inl rfl)) (okS_cons (okS_set (n2e (okN_mul (okE_var rfl (by first | exact .inl rfl | exact .inr (.inl rfl) | exact .inr (.inr rfl)) rfl rfl) (okE_var rfl (by first | exact .inl rfl | exact .inr (.inl rfl) | exact .inr (.inr rfl)) rfl rfl))) (okG_nameX hN rfl (by first | exact .inl rfl | exact .inr rfl) (.inl rfl)) rfl rfl rfl) okS_nil) (fun _ => rfl)) (okS_cons (okS_ret (okE_var rfl (by first | exact .inl rfl | exact .inr (.inl rfl) | exact .inr (.inr rfl)) rfl rfl)) okS_nil)))
theorem h__law_cost (Z : Hd K mg) : FnAt P w K mg base 4 "_law_cost" 1 .v F__law_cost [] := by
  have b_len := Z.b_len
  have b_range := Z.b_range
  have h__law_low := h__law_low (P := P) (w := w) (base := base) Z
  have h__law_add := h__law_add (P := P) (w := w) (base := base) Z
  have h__law_mul := h__law_mul (P := P) (w := w) (base := base) Z
  have h__law_power := h__law_power (P := P) (w := w) (base := base) Z
  obtain ⟨fd, f, hm, F⟩ := Z.f__law_cost
  refine okDef (df := D__law_cost) (N := ["told", "ahead", "again", "total", "first", "many", "k", "at", "by", "more"]) (ps := ["told"]) F hm (by decide +kernel) rfl rfl ?_ ?_ ?_
  · intro kV doc pm an cdv ct us hl
    match us, hl with
    | [u0], _ => rfl
  · exact fun c hc => (List.not_mem_nil hc).elim
  · intro cdv A outer s H E n0 hr
    have hN : (["told", "ahead", "again", "total", "first", "many", "k", "at", "by", "more"] : List Str).Nodup := by decide +kernel
    exact (okS_cons (okS_set (okE_var rfl (by first | exact .inl rfl | exact .inr (.inl rfl) | exact .inr (.inr rfl)) rfl rfl) (okG_tup (fun Y hY => by cases hY; rfl) (fun Y hY => by cases hY; rfl) (okGs_cons (okG_nameX hN rfl (by first | exact .inl rfl | exact .inr rfl) (.inl rfl)) (okGs_cons (okG_nameX hN rfl (by first | exact .inl rfl | exact .inr rfl) (.inl rfl)) okGs_nil (fun Y hY => by cases hY; rfl)) (fun Y hY => by cases hY; rfl)) (fun Y hY => by cases hY; rfl) (fun Y hY => by cases hY; rfl)) rfl rfl rfl) (okS_cons (okS_set (okE_tup (okEs_cons (okE_tup (okEs_cons okE_int (okEs_cons okE_int okEs_nil rfl) rfl) (by decide)) (okEs_cons (okE_tup (okEs_cons okE_int (okEs_cons okE_int okEs_nil rfl) rfl) (by decide)) (okEs_cons (okE_tup (okEs_cons okE_int (okEs_cons okE_int okEs_nil rfl) rfl) (by decide)) okEs_nil rfl) rfl) rfl) (by decide)) (okG_tup (fun Y hY => by cases hY; rfl) (fun Y hY => by cases hY; rfl) (okGs_cons (okG_nameX hN rfl (by first | exact .inl rfl | exact .inr rfl) (.inl rfl)) (okGs_cons (okG_nameX hN rfl (by first | exact .inl rfl | exact .inr rfl) (.inl rfl)) (okGs_cons (okG_nameX hN rfl (by first | exact .inl rfl | exact .inr rfl) (.inl rfl)) okGs_nil (fun Y hY => by cases hY; rfl)) (fun Y hY => by cases hY; rfl)) (fun Y hY => by cases hY; rfl)) (fun Y hY => by cases hY; rfl) (fun Y hY => by cases hY; rfl)) rfl rfl rfl) (okS_cons (okS_for passes_X rfl (okI_rng1 rfl b_range (okEs_cons (okE_callB (id := "len") call_len prim_len rfl b_len (by decide +kernel) (okEs_cons (okE_var rfl (by first | exact .inl rfl | exact .inr (.inl rfl) | exact .inr (.inr rfl)) rfl rfl) okEs_nil rfl) (by decide) rfl rfl rfl) okEs_nil rfl) rfl) (okG_nameX hN rfl (by first | exact .inl rfl | exact .inr rfl) (.inl rfl)) (okS_cons (okS_set (okE_call h__law_add (hr.mono (by decide)) rfl takes_X rfl (okEs_cons (okE_var rfl (by first | exact .inl rfl | exact .inr (.inl rfl) | exact .inr (.inr rfl)) rfl rfl) (okEs_cons (okE_call h__law_low (hr.mono (by decide)) rfl takes_X rfl (okEs_cons (n2e (okN_mul (okE_var rfl (by first | exact .inl rfl | exact .inr (.inl rfl) | exact .inr (.inr rfl)) rfl rfl) (okE_idx (okE_var rfl (by first | exact .inl rfl | exact .inr (.inl rfl) | exact .inr (.inr rfl)) rfl rfl) (okE_var rfl (by first | exact .inl rfl | exact .inr (.inl rfl) | exact .inr (.inr rfl)) rfl rfl) (fun _ _ => rfl)))) (okEs_cons (okE_call h__law_power (hr.mono (by decide)) rfl takes_X rfl (okEs_cons okE_int (okEs_cons (okE_var rfl (by first | exact .inl rfl | exact .inr (.inl rfl) | exact .inr (.inr rfl)) rfl rfl) okEs_nil rfl) rfl) rfl rfl rfl) okEs_nil rfl) rfl) rfl rfl rfl) okEs_nil rfl) rfl) rfl rfl rfl) (okG_nameX hN rfl (by first | exact .inl rfl | exact .inr rfl) (.inl rfl)) rfl rfl rfl) okS_nil) (fun _ => rfl)) (okS_cons (okS_for passes_X rfl (okI_rng1 rfl b_range (okEs_cons (okE_callB (id := "len") call_len prim_len rfl b_len (by decide +kernel) (okEs_cons (okE_var rfl (by first | exact .inl rfl | exact .inr (.inl rfl) | exact .inr (.inr rfl)) rfl rfl) okEs_nil rfl) (by decide) rfl rfl rfl) okEs_nil rfl) rfl) (okG_nameX hN rfl (by first | exact .inl rfl | exact .inr rfl) (.inl rfl)) (okS_cons (okS_set (n2e (okN_add (okE_callB (id := "len") call_len prim_len rfl b_len (by decide +kernel) (okEs_cons (okE_var rfl (by first | exact .inl rfl | exact .inr (.inl rfl) | exact .inr (.inr rfl)) rfl rfl) okEs_nil rfl) (by decide) rfl rfl rfl) (okE_var rfl (by first | exact .inl rfl | exact .inr (.inl rfl) | exact .inr (.inr rfl)) rfl rfl))) (okG_nameX hN rfl (by first | exact .inl rfl | exact .inr rfl) (.inl rfl)) rfl rfl rfl) (okS_cons (okS_set (okE_call h__law_add (hr.mono (by decide)) rfl takes_X rfl (okEs_cons (okE_var rfl (by first | exact .inl rfl | exact .inr (.inl rfl) | exact .inr (.inr rfl)) rfl rfl) (okEs_cons (okE_call h__law_low (hr.mono (by decide)) rfl takes_X rfl (okEs_cons (n2e (okN_mul (okE_var rfl (by first | exact .inl rfl | exact .inr (.inl rfl) | exact .inr (.inr rfl)) rfl rfl) (okE_idx (okE_var rfl (by first | exact .inl rfl | exact .inr (.inl rfl) | exact .inr (.inr rfl)) rfl rfl) (okE_var rfl (by first | exact .inl rfl | exact .inr (.inl rfl) | exact .inr (.inr rfl)) rfl rfl) (fun _ _ => rfl)))) (okEs_cons (okE_call h__law_power (hr.mono (by decide)) rfl takes_X rfl (okEs_cons okE_int (okEs_cons (okE_var rfl (by first | exact .inl rfl | exact .inr (.inl rfl) | exact .inr (.inr rfl)) rfl rfl) okEs_nil rfl) rfl) rfl rfl rfl) okEs_nil rfl) rfl) rfl rfl rfl) okEs_nil rfl) rfl) rfl rfl rfl) (okG_nameX hN rfl (by first | exact .inl rfl | exact .inr rfl) (.inl rfl)) rfl rfl rfl) (okS_cons (okS_set (okE_call h__law_add (hr.mono (by decide)) rfl takes_X rfl (okEs_cons (okE_var rfl (by first | exact .inl rfl | exact .inr (.inl rfl) | exact .inr (.inr rfl)) rfl rfl) (okEs_cons (okE_call h__law_low (hr.mono (by decide)) rfl takes_X rfl (okEs_cons (okE_idx (okE_var rfl (by first | exact .inl rfl | exact .inr (.inl rfl) | exact .inr (.inr rfl)) rfl rfl) (okE_var rfl (by first | exact .inl rfl | exact .inr (.inl rfl) | exact .inr (.inr rfl)) rfl rfl) (fun _ _ => rfl)) (okEs_cons (okE_call h__law_power (hr.mono (by decide)) rfl takes_X rfl (okEs_cons okE_int (okEs_cons (okE_var rfl (by first | exact .inl rfl | exact .inr (.inl rfl) | exact .inr (.inr rfl)) rfl rfl) okEs_nil rfl) rfl) rfl rfl rfl) okEs_nil rfl) rfl) rfl rfl rfl) okEs_nil rfl) rfl) rfl rfl rfl) (okG_nameX hN rfl (by first | exact .inl rfl | exact .inr rfl) (.inl rfl)) rfl rfl rfl) okS_nil))) (fun _ => rfl)) (okS_cons (okS_set (okE_call h__law_power (hr.mono (by decide)) rfl takes_X rfl (okEs_cons okE_int (okEs_cons (okE_callB (id := "len") call_len prim_len rfl b_len (by decide +kernel) (okEs_cons (okE_var rfl (by first | exact .inl rfl | exact .inr (.inl rfl) | exact .inr (.inr rfl)) rfl rfl) okEs_nil rfl) (by decide) rfl rfl rfl) okEs_nil rfl) rfl) rfl rfl rfl) (okG_nameX hN rfl (by first | exact .inl rfl | exact .inr rfl) (.inl rfl)) rfl rfl rfl) (okS_cons (okS_set (okE_call h__law_mul (hr.mono (by decide)) rfl takes_X rfl (okEs_cons (okE_var rfl (by first | exact .inl rfl | exact .inr (.inl rfl) | exact .inr (.inr rfl)) rfl rfl) (okEs_cons (okE_call h__law_low (hr.mono (by decide)) rfl takes_X rfl (okEs_cons (n2e (okN_mul (okE_callB (id := "len") call_len prim_len rfl b_len (by decide +kernel) (okEs_cons (okE_var rfl (by first | exact .inl rfl | exact .inr (.inl rfl) | exact .inr (.inr rfl)) rfl rfl) okEs_nil rfl) (by decide) rfl rfl rfl) (okE_var rfl (by first | exact .inl rfl | exact .inr (.inl rfl) | exact .inr (.inr rfl)) rfl rfl))) (okEs_cons (n2e (okN_mul (okE_sub (okE_var rfl (by first | exact .inl rfl | exact .inr (.inl rfl) | exact .inr (.inr rfl)) rfl rfl) okE_int) (okE_sub (okE_var rfl (by first | exact .inl rfl | exact .inr (.inl rfl) | exact .inr (.inr rfl)) rfl rfl) okE_int))) okEs_nil rfl) rfl) rfl rfl rfl) okEs_nil rfl) rfl) rfl rfl rfl) (okG_nameX hN rfl (by first | exact .inl rfl | exact .inr rfl) (.inl rfl)) rfl rfl rfl) (okS_cons (okS_ret (okE_call h__law_add (hr.mono (by decide)) rfl takes_X rfl (okEs_cons (okE_var rfl (by first | exact .inl rfl | exact .inr (.inl rfl) | exact .inr (.inr rfl)) rfl rfl) (okEs_cons (okE_call h__law_add (hr.mono (by decide)) rfl takes_X rfl (okEs_cons (okE_call h__law_mul (hr.mono (by decide)) rfl takes_X rfl (okEs_cons (okE_var rfl (by first | exact .inl rfl | exact .inr (.inl rfl) | exact .inr (.inr rfl)) rfl rfl) (okEs_cons (okE_call h__law_low (hr.mono (by decide)) rfl takes_X rfl (okEs_cons (okE_var rfl (by first | exact .inl rfl | exact .inr (.inl rfl) | exact .inr (.inr rfl)) rfl rfl) (okEs_cons (okE_sub (okE_var rfl (by first | exact .inl rfl | exact .inr (.inl rfl) | exact .inr (.inr rfl)) rfl rfl) okE_int) okEs_nil rfl) rfl) rfl rfl rfl) okEs_nil rfl) rfl) rfl rfl rfl) (okEs_cons (okE_var rfl (by first | exact .inl rfl | exact .inr (.inl rfl) | exact .inr (.inr rfl)) rfl rfl) okEs_nil rfl) rfl) rfl rfl rfl) okEs_nil rfl) rfl) rfl rfl rfl)) okS_nil)))))))
theorem h__law_part (Z : Hd K mg) : FnAt P w K mg base 3 "_law_part" 1 .v F__law_part [] := by
  have h__law_low := h__law_low (P := P) (w := w) (base := base) Z
  have h__law_take := h__law_take (P := P) (w := w) (base := base) Z
  obtain ⟨fd, f, hm, F⟩ := Z.f__law_part
  refine okDef (df := D__law_part) (N := ["pot", "way", "bottom"]) (ps := ["pot"]) F hm (by decide +kernel) rfl rfl ?_ ?_ ?_
  · intro kV doc pm an cdv ct us hl
    match us, hl with
    | [u0], _ => rfl
  · exact fun c hc => (List.not_mem_nil hc).elim
  · intro cdv A outer s H E n0 hr
    have hN : (["pot", "way", "bottom"] : List Str).Nodup := by decide +kernel
    exact (okS_cons (okS_set (okE_call h__law_take (hr.mono (by decide)) rfl takes_X rfl (okEs_cons (okE_var rfl (by first | exact .inl rfl | exact .inr (.inl rfl) | exact .inr (.inr rfl)) rfl rfl) (okEs_cons okE_int okEs_nil rfl) rfl) rfl rfl rfl) (okG_nameX hN rfl (by first | exact .inl rfl | exact .inr rfl) (.inl rfl)) rfl rfl rfl) (okS_cons (okS_if (Ok.te (ok_eq hr.units (okE_var rfl (by first | exact .inl rfl | exact .inr (.inl rfl) | exact .inr (.inr rfl)) rfl rfl) okE_int rfl)) (okS_cons (okS_ret (okE_idx (n2e (okN_lst (okEs_cons (okE_tup (okEs_cons okE_int (okEs_cons okE_int okEs_nil rfl) rfl) (by decide)) (okEs_cons (okE_tup (okEs_cons okE_int (okEs_cons okE_int okEs_nil rfl) rfl) (by decide)) (okEs_cons (okE_tup (okEs_cons okE_int (okEs_cons okE_int okEs_nil rfl) rfl) (by decide)) okEs_nil rfl) rfl) rfl) (by decide))) (okE_call h__law_take (hr.mono (by decide)) rfl takes_X rfl (okEs_cons (okE_var rfl (by first | exact .inl rfl | exact .inr (.inl rfl) | exact .inr (.inr rfl)) rfl rfl) (okEs_cons okE_int okEs_nil rfl) rfl) rfl rfl rfl) (fun _ _ => rfl))) okS_nil) okS_nil) (okS_cons (okS_set (Ok.ve (ok_ife (ok_eq hr.units (okE_var rfl (by first | exact .inl rfl | exact .inr (.inl rfl) | exact .inr (.inr rfl)) rfl rfl) okE_int rfl) (Ok.plain (okE_idx (n2e (okN_lst (okEs_cons okE_int (okEs_cons okE_int (okEs_cons okE_int (okEs_cons okE_int (okEs_cons okE_int okEs_nil rfl) rfl) rfl) rfl) rfl) (by decide))) (okE_call h__law_take (hr.mono (by decide)) rfl takes_X rfl (okEs_cons (okE_var rfl (by first | exact .inl rfl | exact .inr (.inl rfl) | exact .inr (.inr rfl)) rfl rfl) (okEs_cons okE_int okEs_nil rfl) rfl) rfl rfl rfl) (fun _ _ => rfl)) (fun _ => rfl)) (Ok.plain (n2e (okN_add okE_int (okE_call h__law_take (hr.mono (by decide)) rfl takes_X rfl (okEs_cons (okE_var rfl (by first | exact .inl rfl | exact .inr (.inl rfl) | exact .inr (.inr rfl)) rfl rfl) (okEs_cons okE_int okEs_nil rfl) rfl) rfl rfl rfl))) (fun _ => rfl)))) (okG_nameX hN rfl (by first | exact .inl rfl | exact .inr rfl) (.inl rfl)) rfl rfl rfl) (okS_cons (okS_ret (okE_call h__law_low (hr.mono (by decide)) rfl takes_X rfl (okEs_cons (okE_call h__law_take (hr.mono (by decide)) rfl takes_X rfl (okEs_cons (okE_var rfl (by first | exact .inl rfl | exact .inr (.inl rfl) | exact .inr (.inr rfl)) rfl rfl) (okEs_cons (n2e (okN_add (okE_var rfl (by first | exact .inl rfl | exact .inr (.inl rfl) | exact .inr (.inr rfl)) rfl rfl) okE_int)) okEs_nil rfl) rfl) rfl rfl rfl) (okEs_cons (okE_var rfl (by first | exact .inl rfl | exact .inr (.inl rfl) | exact .inr (.inr rfl)) rfl rfl) okEs_nil rfl) rfl) rfl rfl rfl)) okS_nil))))
theorem ok_law (Z : Hd K mg) {f : Addr} {fd : FuncData} (F : FunD K "law" "law" (defArgs (top 53)) (defBody (top 53)) (defScope (top 53)) [] [] f fd) : FnOk P w K mg base (L2.CX P w) 42 f fd ["script"] (spOf K 1 .v F_law) := by
  have b_len := Z.b_len
  have b_range := Z.b_range
  have h_number := h_number (P := P) (w := w) (base := base) Z
  have h__law_same := h__law_same (P := P) (w := w) (base := base) Z
  have h__law_pot := h__law_pot (P := P) (w := w) (base := base) Z
  have h__law_part := h__law_part (P := P) (w := w) (base := base) Z
  have h__law_doubled := h__law_doubled (P := P) (w := w) (base := base) Z
  have h__law_figures := h__law_figures (P := P) (w := w) (base := base) Z
  have h_cost := h_cost (P := P) (w := w) (base := base) Z
  have h_rest := h_rest (P := P) (w := w) (base := base) Z
  have h_figures := h_figures (P := P) (w := w) (base := base) Z
  have h_figure := h_figure (P := P) (w := w) (base := base) Z
  have h__law_cost := h__law_cost (P := P) (w := w) (base := base) Z
  have h__law_take := h__law_take (P := P) (w := w) (base := base) Z
  refine okFn (df := D_law) (N := ["script", "pot", "turn", "own", "found", "rests", "k", "due", "ahead", "again", "longer", "value", "told"]) F (by decide +kernel) rfl rfl ?_
  intro cdv A outer s H E n0 hr
  have hN : (["script", "pot", "turn", "own", "found", "rests", "k", "due", "ahead", "again", "longer", "value", "told"] : List Str).Nodup := by decide +kernel
  exact (okS_cons (okS_newE hN rfl (by first | exact .inl rfl | exact .inr rfl) (.inl rfl) (okE_call h__law_pot (hr.mono (by decide)) rfl takes_X rfl (okEs_cons (okE_var rfl (by first | exact .inl rfl | exact .inr (.inl rfl) | exact .inr (.inr rfl)) rfl rfl) okEs_nil rfl) rfl rfl rfl) rfl) (okS_cons (okS_for passes_X rfl (okI_rng1 rfl b_range (okEs_cons okE_int okEs_nil rfl) rfl) (okG_nameX hN rfl (by first | exact .inl rfl | exact .inr rfl) (.inl rfl)) (okS_cons (okS_set (okE_call h__law_part (hr.mono (by decide)) rfl takes_X rfl (okEs_cons (okE_var rfl (by first | exact .inl rfl | exact .inr (.inl rfl) | exact .inr (.inr rfl)) rfl rfl) okEs_nil rfl) rfl rfl rfl) (okG_nameX hN rfl (by first | exact .inl rfl | exact .inr rfl) (.inl rfl)) rfl rfl rfl) (okS_cons (okS_set (okE_call h__law_doubled (hr.mono (by decide)) rfl takes_X rfl (okEs_cons (okE_var rfl (by first | exact .inl rfl | exact .inr (.inl rfl) | exact .inr (.inr rfl)) rfl rfl) (okEs_cons okE_int okEs_nil rfl) rfl) rfl rfl rfl) (okG_tup (fun Y hY => by cases hY; rfl) (fun Y hY => by cases hY; rfl) (okGs_cons (okG_nameX hN rfl (by first | exact .inl rfl | exact .inr rfl) (.inl rfl)) (okGs_cons (okG_nameX hN rfl (by first | exact .inl rfl | exact .inr rfl) (.inl rfl)) okGs_nil (fun Y hY => by cases hY; rfl)) (fun Y hY => by cases hY; rfl)) (fun Y hY => by cases hY; rfl) (fun Y hY => by cases hY; rfl)) rfl rfl rfl) (okS_cons (okS_for passes_X rfl (okI_of (okE_tup (okEs_cons okE_int (okEs_cons okE_int (okEs_cons (okE_call h__law_take (hr.mono (by decide)) rfl takes_X rfl (okEs_cons (okE_var rfl (by first | exact .inl rfl | exact .inr (.inl rfl) | exact .inr (.inr rfl)) rfl rfl) (okEs_cons okE_int okEs_nil rfl) rfl) rfl rfl rfl) (okEs_cons (n2e (okN_add okE_int (okE_call h__law_take (hr.mono (by decide)) rfl takes_X rfl (okEs_cons (okE_var rfl (by first | exact .inl rfl | exact .inr (.inl rfl) | exact .inr (.inr rfl)) rfl rfl) (okEs_cons okE_int okEs_nil rfl) rfl) rfl rfl rfl))) (okEs_cons okE_int okEs_nil rfl) rfl) rfl) rfl) rfl) (by decide))) (okG_nameX hN rfl (by first | exact .inl rfl | exact .inr rfl) (.inl rfl)) (okS_cons (okS_set (n2e (okN_lst (okEs_cons (okE_call h_figure (hr.mono (by decide)) rfl takes_X rfl (okEs_cons (okE_var rfl (by first | exact .inl rfl | exact .inr (.inl rfl) | exact .inr (.inr rfl)) rfl rfl) (okEs_cons (okE_var rfl (by first | exact .inl rfl | exact .inr (.inl rfl) | exact .inr (.inr rfl)) rfl rfl) okEs_nil rfl) rfl) rfl rfl rfl) (okEs_cons (okE_call h_rest (hr.mono (by decide)) rfl takes_X rfl (okEs_cons (okE_var rfl (by first | exact .inl rfl | exact .inr (.inl rfl) | exact .inr (.inr rfl)) rfl rfl) (okEs_cons (okE_var rfl (by first | exact .inl rfl | exact .inr (.inl rfl) | exact .inr (.inr rfl)) rfl rfl) okEs_nil rfl) rfl) rfl rfl rfl) (okEs_cons (okE_callK0 (ks := ["number", "k"]) h_figure (hr.mono (by decide)) rfl takes_X (by decide +kernel) rfl rfl (okK_cons (okE_var rfl (by first | exact .inl rfl | exact .inr (.inl rfl) | exact .inr (.inr rfl)) rfl rfl) (okK_cons (okE_var rfl (by first | exact .inl rfl | exact .inr (.inl rfl) | exact .inr (.inr rfl)) rfl rfl) okK_nil)) rfl rfl rfl rfl) (okEs_cons (okE_callK0 (ks := ["k", "number"]) h_rest (hr.mono (by decide)) rfl takes_X (by decide +kernel) rfl rfl (okK_cons (okE_var rfl (by first | exact .inl rfl | exact .inr (.inl rfl) | exact .inr (.inr rfl)) rfl rfl) (okK_cons (okE_var rfl (by first | exact .inl rfl | exact .inr (.inl rfl) | exact .inr (.inr rfl)) rfl rfl) okK_nil)) rfl rfl rfl rfl) okEs_nil rfl) rfl) rfl) rfl) (by decide))) (okG_nameX hN rfl (by first | exact .inl rfl | exact .inr rfl) (.inl rfl)) rfl rfl rfl) (okS_cons (okS_if (Ok.te (ok_not (Ok.plain (okE_call h__law_same (hr.mono (by decide)) rfl takes_X rfl (okEs_cons (okE_var rfl (by first | exact .inl rfl | exact .inr (.inl rfl) | exact .inr (.inr rfl)) rfl rfl) (okEs_cons (n2e (okN_mul (n2e (okN_lst (okEs_cons (okE_idx (okE_var rfl (by first | exact .inl rfl | exact .inr (.inl rfl) | exact .inr (.inr rfl)) rfl rfl) (okE_var rfl (by first | exact .inl rfl | exact .inr (.inl rfl) | exact .inr (.inr rfl)) rfl rfl) (fun _ _ => rfl)) (okEs_cons (okE_idx (okE_var rfl (by first | exact .inl rfl | exact .inr (.inl rfl) | exact .inr (.inr rfl)) rfl rfl) (okE_var rfl (by first | exact .inl rfl | exact .inr (.inl rfl) | exact .inr (.inr rfl)) rfl rfl) (fun _ _ => rfl)) okEs_nil rfl) rfl) (by decide))) okE_int)) okEs_nil rfl) rfl) rfl rfl rfl) (fun _ => rfl)))) (okS_cons (okS_ret okE_bl) okS_nil) okS_nil) okS_nil)) (fun _ => rfl)) (okS_cons (okS_set (okE_call h__law_figures (hr.mono (by decide)) rfl takes_X rfl (okEs_cons (okE_var rfl (by first | exact .inl rfl | exact .inr (.inl rfl) | exact .inr (.inr rfl)) rfl rfl) okEs_nil rfl) rfl rfl rfl) (okG_nameX hN rfl (by first | exact .inl rfl | exact .inr rfl) (.inl rfl)) rfl rfl rfl) (okS_cons (okS_if (Ok.te (ok_not (Ok.plain (okE_call h__law_same (hr.mono (by decide)) rfl takes_X rfl (okEs_cons (n2e (okN_lst (okEs_cons (okE_call h_figures (hr.mono (by decide)) rfl takes_X rfl (okEs_cons (okE_var rfl (by first | exact .inl rfl | exact .inr (.inl rfl) | exact .inr (.inr rfl)) rfl rfl) okEs_nil rfl) rfl rfl rfl) (okEs_cons (okE_callK0 (ks := ["number"]) h_figures (hr.mono (by decide)) rfl takes_X (by decide +kernel) rfl rfl (okK_cons (okE_var rfl (by first | exact .inl rfl | exact .inr (.inl rfl) | exact .inr (.inr rfl)) rfl rfl) okK_nil) rfl rfl rfl rfl) (okEs_cons (okE_call h_number (hr.mono (by decide)) rfl takes_X rfl (okEs_cons (okE_var rfl (by first | exact .inl rfl | exact .inr (.inl rfl) | exact .inr (.inr rfl)) rfl rfl) okEs_nil rfl) rfl rfl rfl) (okEs_cons (okE_callK0 (ks := ["told"]) h_number (hr.mono (by decide)) rfl takes_X (by decide +kernel) rfl rfl (okK_cons (okE_var rfl (by first | exact .inl rfl | exact .inr (.inl rfl) | exact .inr (.inr rfl)) rfl rfl) okK_nil) rfl rfl rfl rfl) okEs_nil rfl) rfl) rfl) rfl) (by decide))) (okEs_cons (n2e (okN_lst (okEs_cons (okE_var rfl (by first | exact .inl rfl | exact .inr (.inl rfl) | exact .inr (.inr rfl)) rfl rfl) (okEs_cons (okE_var rfl (by first | exact .inl rfl | exact .inr (.inl rfl) | exact .inr (.inr rfl)) rfl rfl) (okEs_cons (okE_var rfl (by first | exact .inl rfl | exact .inr (.inl rfl) | exact .inr (.inr rfl)) rfl rfl) (okEs_cons (okE_var rfl (by first | exact .inl rfl | exact .inr (.inl rfl) | exact .inr (.inr rfl)) rfl rfl) okEs_nil rfl) rfl) rfl) rfl) (by decide))) okEs_nil rfl) rfl) rfl rfl rfl) (fun _ => rfl)))) (okS_cons (okS_ret okE_bl) okS_nil) okS_nil) (okS_cons (okS_set (okE_var rfl (by first | exact .inl rfl | exact .inr (.inl rfl) | exact .inr (.inr rfl)) rfl rfl) (okG_tup (fun Y hY => by cases hY; rfl) (fun Y hY => by cases hY; rfl) (okGs_cons (okG_nameX hN rfl (by first | exact .inl rfl | exact .inr rfl) (.inl rfl)) (okGs_cons (okG_nameX hN rfl (by first | exact .inl rfl | exact .inr rfl) (.inl rfl)) okGs_nil (fun Y hY => by cases hY; rfl)) (fun Y hY => by cases hY; rfl)) (fun Y hY => by cases hY; rfl) (fun Y hY => by cases hY; rfl)) rfl rfl rfl) (okS_cons (okS_newE hN rfl (by first | exact .inl rfl | exact .inr rfl) (.inl rfl) (okN_lst (okEs_cons (okE_tup (okEs_cons (n2e (okN_add (okE_var rfl (by first | exact .inl rfl | exact .inr (.inl rfl) | exact .inr (.inr rfl)) rfl rfl) (okE_var rfl (by first | exact .inl rfl | exact .inr (.inl rfl) | exact .inr (.inr rfl)) rfl rfl))) (okEs_cons (okE_var rfl (by first | exact .inl rfl | exact .inr (.inl rfl) | exact .inr (.inr rfl)) rfl rfl) okEs_nil rfl) rfl) (by decide)) (okEs_cons (okE_tup (okEs_cons (okE_var rfl (by first | exact .inl rfl | exact .inr (.inl rfl) | exact .inr (.inr rfl)) rfl rfl) (okEs_cons (n2e (okN_mul (okE_var rfl (by first | exact .inl rfl | exact .inr (.inl rfl) | exact .inr (.inr rfl)) rfl rfl) (n2e (okN_add okE_int (okE_call h__law_take (hr.mono (by decide)) rfl takes_X rfl (okEs_cons (okE_var rfl (by first | exact .inl rfl | exact .inr (.inl rfl) | exact .inr (.inr rfl)) rfl rfl) (okEs_cons okE_int okEs_nil rfl) rfl) rfl rfl rfl))))) okEs_nil rfl) rfl) (by decide)) (okEs_cons (okE_tup (okEs_cons (n2e (okN_add (okE_var rfl (by first | exact .inl rfl | exact .inr (.inl rfl) | exact .inr (.inr rfl)) rfl rfl) (n2e (okN_slHi (okE_var rfl (by first | exact .inl rfl | exact .inr (.inl rfl) | exact .inr (.inr rfl)) rfl rfl) okE_int)))) (okEs_cons (n2e (okN_add (n2e (okN_slLo (okE_var rfl (by first | exact .inl rfl | exact .inr (.inl rfl) | exact .inr (.inr rfl)) rfl rfl) okE_int)) (n2e (okN_slHi (okE_var rfl (by first | exact .inl rfl | exact .inr (.inl rfl) | exact .inr (.inr rfl)) rfl rfl) okE_int)))) okEs_nil rfl) rfl) (by decide)) okEs_nil rfl) rfl) rfl) (by decide)) rfl) (okS_cons (okS_if (Ok.te (OkW.ok (ok_and (ok_gt (okE_idx (okE_var rfl (by first | exact .inl rfl | exact .inr (.inl rfl) | exact .inr (.inr rfl)) rfl rfl) okE_int (fun _ _ => rfl)) okE_int rfl) (ok_and (ok_eq hr.units (okE_var rfl (by first | exact .inl rfl | exact .inr (.inl rfl) | exact .inr (.inr rfl)) rfl rfl) (okE_tup (okEs_cons okE_int okEs_nil rfl) (by decide)) rfl) (ok_and1 (ok_eq hr.units (okE_idx (okE_var rfl (by first | exact .inl rfl | exact .inr (.inl rfl) | exact .inr (.inr rfl)) rfl rfl) (okE_neg okE_int) (fun _ _ => rfl)) okE_int rfl)))))) (okS_cons (okS_xp (okE_append (okE_var rfl (by first | exact .inl rfl | exact .inr (.inl rfl) | exact .inr (.inr rfl)) rfl rfl) (okEs_cons (okE_tup (okEs_cons (n2e (okN_add (n2e (okN_slHi (okE_var rfl (by first | exact .inl rfl | exact .inr (.inl rfl) | exact .inr (.inr rfl)) rfl rfl) (okE_neg okE_int))) (okE_tup (okEs_cons okE_int okEs_nil rfl) (by decide)))) (okEs_cons (okE_tup (okEs_cons okE_int okEs_nil rfl) (by decide)) okEs_nil rfl) rfl) (by decide)) okEs_nil rfl) rfl rfl rfl rfl rfl) rfl) okS_nil) okS_nil) (okS_cons (okS_for passes_X rfl (okI_of (okE_fz (okE_var rfl (by first | exact .inl rfl | exact .inr (.inl rfl) | exact .inr (.inr rfl)) rfl rfl))) (okG_nameX hN rfl (by first | exact .inl rfl | exact .inr rfl) (.inl rfl)) (okS_cons (okS_if (Ok.te (OkW.ok (ok_and (ok_le (n2e (okN_add (okE_callB (id := "len") call_len prim_len rfl b_len (by decide +kernel) (okEs_cons (okE_idx (okE_var rfl (by first | exact .inl rfl | exact .inr (.inl rfl) | exact .inr (.inr rfl)) rfl rfl) okE_int (fun _ _ => rfl)) okEs_nil rfl) (by decide) rfl rfl rfl) (okE_callB (id := "len") call_len prim_len rfl b_len (by decide +kernel) (okEs_cons (okE_idx (okE_var rfl (by first | exact .inl rfl | exact .inr (.inl rfl) | exact .inr (.inr rfl)) rfl rfl) okE_int (fun _ _ => rfl)) okEs_nil rfl) (by decide) rfl rfl rfl))) okE_int rfl) (ok_and1 (ok_not (Ok.plain (okE_call h__law_same (hr.mono (by decide)) rfl takes_X rfl (okEs_cons (okE_call h_number (hr.mono (by decide)) rfl takes_X rfl (okEs_cons (okE_var rfl (by first | exact .inl rfl | exact .inr (.inl rfl) | exact .inr (.inr rfl)) rfl rfl) okEs_nil rfl) rfl rfl rfl) (okEs_cons (okE_var rfl (by first | exact .inl rfl | exact .inr (.inl rfl) | exact .inr (.inr rfl)) rfl rfl) okEs_nil rfl) rfl) rfl rfl rfl) (fun _ => rfl))))))) (okS_cons (okS_ret okE_bl) okS_nil) okS_nil) okS_nil) (fun _ => rfl)) (okS_cons (okS_if (Ok.te (ok_not (Ok.plain (okE_call h__law_same (hr.mono (by decide)) rfl takes_X rfl (okEs_cons (n2e (okN_lst (okEs_cons (okE_call h_cost (hr.mono (by decide)) rfl takes_X rfl (okEs_cons (okE_var rfl (by first | exact .inl rfl | exact .inr (.inl rfl) | exact .inr (.inr rfl)) rfl rfl) okEs_nil rfl) rfl rfl rfl) (okEs_cons (okE_callK0 (ks := ["number"]) h_cost (hr.mono (by decide)) rfl takes_X (by decide +kernel) rfl rfl (okK_cons (okE_var rfl (by first | exact .inl rfl | exact .inr (.inl rfl) | exact .inr (.inr rfl)) rfl rfl) okK_nil) rfl rfl rfl rfl) okEs_nil rfl) rfl) (by decide))) (okEs_cons (n2e (okN_lst (okEs_cons (okE_call h__law_cost (hr.mono (by decide)) rfl takes_X rfl (okEs_cons (okE_var rfl (by first | exact .inl rfl | exact .inr (.inl rfl) | exact .inr (.inr rfl)) rfl rfl) okEs_nil rfl) rfl rfl rfl) (okEs_cons (okE_call h__law_cost (hr.mono (by decide)) rfl takes_X rfl (okEs_cons (okE_var rfl (by first | exact .inl rfl | exact .inr (.inl rfl) | exact .inr (.inr rfl)) rfl rfl) okEs_nil rfl) rfl rfl rfl) okEs_nil rfl) rfl) (by decide))) okEs_nil rfl) rfl) rfl rfl rfl) (fun _ => rfl)))) (okS_cons (okS_ret okE_bl) okS_nil) okS_nil) okS_nil)))))))))) (fun _ => rfl)) (okS_cons (okS_ret okE_bl) okS_nil)))
end
end Lw

set_option Elab.async false
set_option linter.all false
set_option maxRecDepth 100000
set_option maxHeartbeats 0
namespace Lw
open PySem PySem.Spec PyProof.Rows L2 Wp
def dd (x : Str) (i : Nat) : He.DefD := ⟨(x, none), x, x, defArgs (top i), defBody (top i), defScope (top i), [], []⟩
def fn : List He.DefD := ([dd "is_integer" 8, dd "is_natural" 9, dd "is_below" 10, dd "is_pair" 11, dd "lowest" 12, dd "is_number_of" 13, dd "is_part_of_one" 14, dd "whole" 15, dd "sum_of_two" 16, dd "product" 17, dd "quotient" 18, dd "is_less" 19, dd "sum_of_all" 20, dd "power" 21, dd "by_halves" 22, dd "check_part" 24, dd "check_natural" 25, dd "rest_of" 26, dd "figure_of" 27, dd "shortest" 28, dd "figures_of" 29, dd "figures" 30, dd "are_figures" 31, dd "sum_of_figures" 32, dd "again_and_again" 33, dd "number_of" 34, dd "number" 35, dd "figure" 36, dd "cost_of" 37, dd "cost" 38] : List He.DefD) ++ ([dd "rest" 39, dd "_law_pot" 41, dd "_law_take" 42, dd "_law_same" 43, dd "_law_divisor" 44, dd "_law_low" 45, dd "_law_add" 46, dd "_law_mul" 47, dd "_law_doubled" 48, dd "_law_figures" 49, dd "_law_power" 50, dd "_law_cost" 51, dd "_law_part" 52, dd "law" 53] : List He.DefD)
def fa : List He.Fa := ([.glo "is_integer", .glo "is_natural", .glo "is_below", .glo "is_pair", .glo "lowest", .glo "is_number_of", .glo "is_part_of_one", .glo "whole", .glo "sum_of_two", .glo "product", .glo "quotient", .glo "is_less", .glo "sum_of_all", .glo "power", .glo "by_halves", .glo "check_part", .glo "check_natural", .glo "rest_of", .glo "figure_of", .glo "shortest", .glo "figures_of", .glo "figures", .glo "are_figures", .glo "sum_of_figures", .glo "again_and_again", .glo "number_of", .glo "number", .glo "figure", .glo "cost_of", .glo "cost"] : List He.Fa) ++ ([.glo "rest", .glo "_law_pot", .glo "_law_take", .glo "_law_same", .glo "_law_divisor", .glo "_law_low", .glo "_law_add", .glo "_law_mul", .glo "_law_doubled", .glo "_law_figures", .glo "_law_power", .glo "_law_cost", .glo "_law_part", .glo "law", .glo "ONE", .glo "ZERO", .free "abs", .free "all", .free "bool", .free "enumerate", .free "int", .free "isinstance", .free "len", .free "list", .free "range", .free "str", .free "tuple"] : List He.Fa)
def exf (K : PySem.W.Frag) : Bool := (bltB K "gcd" "math.gcd") && (He.tupB K "ONE" [.int 1, .int 1]) && (He.tupB K "ZERO" [.int 0, .int 1])
abbrev R : PySem.W.OpenRow := PySem.W.OpenLaw.row PySem.Challenge.rw_wholeplays_k86_whole_figures_and_rests_t
abbrev hk : PySem.W.Hook := hookX exf 4 fa fn
def ob (s : PySem.W.SharedT) : AlX := obsX exf 4 fa fn (HandSHeadRun.getT s)
theorem ob_eq (s : PySem.W.SharedT) : ob s = hk.obs s.abs := obsX_eq (HandSHeadRun.getT_eq s)
def loose : List Str := (["TossError", "InvalidNumber", "InvalidFigures", "ZERO", "ONE", "is_integer", "is_natural", "is_below", "is_pair", "lowest", "is_number_of", "is_part_of_one", "whole", "sum_of_two", "product", "quotient", "is_less", "sum_of_all", "power", "by_halves", "check_part", "check_natural", "rest_of", "figure_of", "shortest", "figures_of", "figures", "are_figures", "sum_of_figures", "again_and_again"] : List Str) ++ (["number_of", "number", "figure", "cost_of", "cost", "rest", "_law_pot", "_law_take", "_law_same", "_law_divisor", "_law_low", "_law_add", "_law_mul", "_law_doubled", "_law_figures", "_law_power", "_law_cost", "_law_part"] : List Str)
theorem run (w : World) : HandSHeadRun.RunEqI R (PySem.W.view R.prog [0, 53]) hk ob 3000 loose w := by
  unfold HandSHeadRun.RunEqI
  kernel_rfl
theorem hd {K : PySem.W.Frag} {h : Heap} {mg : Str → Option Value} (X : K.In h) (G : h.Ns mainGlobals mg) (e : exf K = true) (c : He.SaysD fa fn K) : Hd K mg := by
  unfold exf at e
  simp only [Bool.and_eq_true] at e
  constructor
  · obtain ⟨fd, F⟩ := c.def_ 0 (d := dd "is_integer" 8) rfl
    exact ⟨fd, _, He.glo_ok X G (c.fact 0 (f := .glo "is_integer") rfl), F⟩
  · obtain ⟨fd, F⟩ := c.def_ 1 (d := dd "is_natural" 9) rfl
    exact ⟨fd, _, He.glo_ok X G (c.fact 1 (f := .glo "is_natural") rfl), F⟩
  · obtain ⟨fd, F⟩ := c.def_ 2 (d := dd "is_below" 10) rfl
    exact ⟨fd, _, He.glo_ok X G (c.fact 2 (f := .glo "is_below") rfl), F⟩
  · obtain ⟨fd, F⟩ := c.def_ 3 (d := dd "is_pair" 11) rfl
    exact ⟨fd, _, He.glo_ok X G (c.fact 3 (f := .glo "is_pair") rfl), F⟩
  · obtain ⟨fd, F⟩ := c.def_ 4 (d := dd "lowest" 12) rfl
    exact ⟨fd, _, He.glo_ok X G (c.fact 4 (f := .glo "lowest") rfl), F⟩
  · obtain ⟨fd, F⟩ := c.def_ 5 (d := dd "is_number_of" 13) rfl
    exact ⟨fd, _, He.glo_ok X G (c.fact 5 (f := .glo "is_number_of") rfl), F⟩
  · obtain ⟨fd, F⟩ := c.def_ 6 (d := dd "is_part_of_one" 14) rfl
    exact ⟨fd, _, He.glo_ok X G (c.fact 6 (f := .glo "is_part_of_one") rfl), F⟩
  · obtain ⟨fd, F⟩ := c.def_ 7 (d := dd "whole" 15) rfl
    exact ⟨fd, _, He.glo_ok X G (c.fact 7 (f := .glo "whole") rfl), F⟩
  · obtain ⟨fd, F⟩ := c.def_ 8 (d := dd "sum_of_two" 16) rfl
    exact ⟨fd, _, He.glo_ok X G (c.fact 8 (f := .glo "sum_of_two") rfl), F⟩
  · obtain ⟨fd, F⟩ := c.def_ 9 (d := dd "product" 17) rfl
    exact ⟨fd, _, He.glo_ok X G (c.fact 9 (f := .glo "product") rfl), F⟩
  · obtain ⟨fd, F⟩ := c.def_ 10 (d := dd "quotient" 18) rfl
    exact ⟨fd, _, He.glo_ok X G (c.fact 10 (f := .glo "quotient") rfl), F⟩
  · obtain ⟨fd, F⟩ := c.def_ 11 (d := dd "is_less" 19) rfl
    exact ⟨fd, _, He.glo_ok X G (c.fact 11 (f := .glo "is_less") rfl), F⟩
  · obtain ⟨fd, F⟩ := c.def_ 12 (d := dd "sum_of_all" 20) rfl
    exact ⟨fd, _, He.glo_ok X G (c.fact 12 (f := .glo "sum_of_all") rfl), F⟩
  · obtain ⟨fd, F⟩ := c.def_ 13 (d := dd "power" 21) rfl
    exact ⟨fd, _, He.glo_ok X G (c.fact 13 (f := .glo "power") rfl), F⟩
  · obtain ⟨fd, F⟩ := c.def_ 14 (d := dd "by_halves" 22) rfl
    exact ⟨fd, _, He.glo_ok X G (c.fact 14 (f := .glo "by_halves") rfl), F⟩
  · obtain ⟨fd, F⟩ := c.def_ 15 (d := dd "check_part" 24) rfl
    exact ⟨fd, _, He.glo_ok X G (c.fact 15 (f := .glo "check_part") rfl), F⟩
  · obtain ⟨fd, F⟩ := c.def_ 16 (d := dd "check_natural" 25) rfl
    exact ⟨fd, _, He.glo_ok X G (c.fact 16 (f := .glo "check_natural") rfl), F⟩
  · obtain ⟨fd, F⟩ := c.def_ 17 (d := dd "rest_of" 26) rfl
    exact ⟨fd, _, He.glo_ok X G (c.fact 17 (f := .glo "rest_of") rfl), F⟩
  · obtain ⟨fd, F⟩ := c.def_ 18 (d := dd "figure_of" 27) rfl
    exact ⟨fd, _, He.glo_ok X G (c.fact 18 (f := .glo "figure_of") rfl), F⟩
  · obtain ⟨fd, F⟩ := c.def_ 19 (d := dd "shortest" 28) rfl
    exact ⟨fd, _, He.glo_ok X G (c.fact 19 (f := .glo "shortest") rfl), F⟩
  · obtain ⟨fd, F⟩ := c.def_ 20 (d := dd "figures_of" 29) rfl
    exact ⟨fd, _, He.glo_ok X G (c.fact 20 (f := .glo "figures_of") rfl), F⟩
  · obtain ⟨fd, F⟩ := c.def_ 21 (d := dd "figures" 30) rfl
    exact ⟨fd, _, He.glo_ok X G (c.fact 21 (f := .glo "figures") rfl), F⟩
  · obtain ⟨fd, F⟩ := c.def_ 22 (d := dd "are_figures" 31) rfl
    exact ⟨fd, _, He.glo_ok X G (c.fact 22 (f := .glo "are_figures") rfl), F⟩
  · obtain ⟨fd, F⟩ := c.def_ 23 (d := dd "sum_of_figures" 32) rfl
    exact ⟨fd, _, He.glo_ok X G (c.fact 23 (f := .glo "sum_of_figures") rfl), F⟩
  · obtain ⟨fd, F⟩ := c.def_ 24 (d := dd "again_and_again" 33) rfl
    exact ⟨fd, _, He.glo_ok X G (c.fact 24 (f := .glo "again_and_again") rfl), F⟩
  · obtain ⟨fd, F⟩ := c.def_ 25 (d := dd "number_of" 34) rfl
    exact ⟨fd, _, He.glo_ok X G (c.fact 25 (f := .glo "number_of") rfl), F⟩
  · obtain ⟨fd, F⟩ := c.def_ 26 (d := dd "number" 35) rfl
    exact ⟨fd, _, He.glo_ok X G (c.fact 26 (f := .glo "number") rfl), F⟩
  · obtain ⟨fd, F⟩ := c.def_ 27 (d := dd "figure" 36) rfl
    exact ⟨fd, _, He.glo_ok X G (c.fact 27 (f := .glo "figure") rfl), F⟩
  · obtain ⟨fd, F⟩ := c.def_ 28 (d := dd "cost_of" 37) rfl
    exact ⟨fd, _, He.glo_ok X G (c.fact 28 (f := .glo "cost_of") rfl), F⟩
  · obtain ⟨fd, F⟩ := c.def_ 29 (d := dd "cost" 38) rfl
    exact ⟨fd, _, He.glo_ok X G (c.fact 29 (f := .glo "cost") rfl), F⟩
  · obtain ⟨fd, F⟩ := c.def_ 30 (d := dd "rest" 39) rfl
    exact ⟨fd, _, He.glo_ok X G (c.fact 30 (f := .glo "rest") rfl), F⟩
  · obtain ⟨fd, F⟩ := c.def_ 31 (d := dd "_law_pot" 41) rfl
    exact ⟨fd, _, He.glo_ok X G (c.fact 31 (f := .glo "_law_pot") rfl), F⟩
  · obtain ⟨fd, F⟩ := c.def_ 32 (d := dd "_law_take" 42) rfl
    exact ⟨fd, _, He.glo_ok X G (c.fact 32 (f := .glo "_law_take") rfl), F⟩
  · obtain ⟨fd, F⟩ := c.def_ 33 (d := dd "_law_same" 43) rfl
    exact ⟨fd, _, He.glo_ok X G (c.fact 33 (f := .glo "_law_same") rfl), F⟩
  · obtain ⟨fd, F⟩ := c.def_ 34 (d := dd "_law_divisor" 44) rfl
    exact ⟨fd, _, He.glo_ok X G (c.fact 34 (f := .glo "_law_divisor") rfl), F⟩
  · obtain ⟨fd, F⟩ := c.def_ 35 (d := dd "_law_low" 45) rfl
    exact ⟨fd, _, He.glo_ok X G (c.fact 35 (f := .glo "_law_low") rfl), F⟩
  · obtain ⟨fd, F⟩ := c.def_ 36 (d := dd "_law_add" 46) rfl
    exact ⟨fd, _, He.glo_ok X G (c.fact 36 (f := .glo "_law_add") rfl), F⟩
  · obtain ⟨fd, F⟩ := c.def_ 37 (d := dd "_law_mul" 47) rfl
    exact ⟨fd, _, He.glo_ok X G (c.fact 37 (f := .glo "_law_mul") rfl), F⟩
  · obtain ⟨fd, F⟩ := c.def_ 38 (d := dd "_law_doubled" 48) rfl
    exact ⟨fd, _, He.glo_ok X G (c.fact 38 (f := .glo "_law_doubled") rfl), F⟩
  · obtain ⟨fd, F⟩ := c.def_ 39 (d := dd "_law_figures" 49) rfl
    exact ⟨fd, _, He.glo_ok X G (c.fact 39 (f := .glo "_law_figures") rfl), F⟩
  · obtain ⟨fd, F⟩ := c.def_ 40 (d := dd "_law_power" 50) rfl
    exact ⟨fd, _, He.glo_ok X G (c.fact 40 (f := .glo "_law_power") rfl), F⟩
  · obtain ⟨fd, F⟩ := c.def_ 41 (d := dd "_law_cost" 51) rfl
    exact ⟨fd, _, He.glo_ok X G (c.fact 41 (f := .glo "_law_cost") rfl), F⟩
  · obtain ⟨fd, F⟩ := c.def_ 42 (d := dd "_law_part" 52) rfl
    exact ⟨fd, _, He.glo_ok X G (c.fact 42 (f := .glo "_law_part") rfl), F⟩
  · obtain ⟨fd, F⟩ := c.def_ 43 (d := dd "law" 53) rfl
    exact ⟨fd, _, He.glo_ok X G (c.fact 43 (f := .glo "law") rfl), F⟩
  · exact He.free_ok X G (c.fact 46 (f := .free "abs") rfl)
  · exact He.free_ok X G (c.fact 47 (f := .free "all") rfl)
  · exact He.free_ok X G (c.fact 48 (f := .free "bool") rfl)
  · exact He.free_ok X G (c.fact 49 (f := .free "enumerate") rfl)
  · exact bltB_ok X G e.1.1
  · exact He.free_ok X G (c.fact 50 (f := .free "int") rfl)
  · exact He.free_ok X G (c.fact 51 (f := .free "isinstance") rfl)
  · exact He.free_ok X G (c.fact 52 (f := .free "len") rfl)
  · exact He.free_ok X G (c.fact 53 (f := .free "list") rfl)
  · exact He.free_ok X G (c.fact 54 (f := .free "range") rfl)
  · exact He.free_ok X G (c.fact 55 (f := .free "str") rfl)
  · exact He.free_ok X G (c.fact 56 (f := .free "tuple") rfl)
  · exact ⟨_, He.glo_ok X G (c.fact 44 (f := .glo "ONE") rfl), rfl⟩
  · exact rep_ctup e.1.2 fun F => (.cons (.int _) (.cons (.int _) .nil))
  · exact ⟨_, He.glo_ok X G (c.fact 45 (f := .glo "ZERO") rfl), rfl⟩
  · exact rep_ctup e.2 fun F => (.cons (.int _) (.cons (.int _) .nil))
end Lw

set_option linter.all false
set_option maxRecDepth 100000
/-! G0: plain lemmas about the small language, for all laws. -/
namespace Wp
/-- a fraction as the program has it -/
def fr (r : Rat) : D := .tup [.int r.num, .int (r.den : Int)]
theorem log_of {n k : Nat} (h : n < 2 ^ k) (hk : 0 < k) : n.log2 < k := by
  by_cases hn : n = 0
  · subst hn; simpa using hk
  · exact (Nat.log2_lt hn).mpr h
theorem divOk_of {b : Int} (h0 : b ≠ 0) (h : b.natAbs < 2 ^ 9000) : divOk b = true := by
  unfold divOk
  rw [Bool.and_eq_true, decide_eq_true_eq, decide_eq_true_eq]
  exact ⟨h0, log_of h (by omega)⟩
theorem mulOk_of {a b : Int} (k l : Nat) (h : a.natAbs < 2 ^ k) (h' : b.natAbs < 2 ^ l) (hk : 0 < k) (hl : 0 < l) (hkl : k + l < 1000000) : mulOk a b = true := by
  unfold mulOk
  rw [decide_eq_true_eq]
  have := log_of h hk
  have := log_of h' hl
  omega
theorem bind_ok {α β : Type} (a : α) (μ : Mu) (k : α → Mu → Res β) : (Res.ok a μ).bind k = k a μ := rfl
theorem st_ok {α : Type} (a : α) (μ : Mu) (ρ : Env) (k : α → Mu → Out) : (Res.ok a μ).st ρ k = k a μ := rfl
theorem seq_nx (ρ : Env) (μ : Mu) (k : Env → Mu → Out) : (Out.nx ρ μ).seq k = k ρ μ := rfl
theorem seq_ret (d : D) (μ : Mu) (k : Env → Mu → Out) : (Out.ret d μ).seq k = .ret d μ := rfl
theorem seq_brk (ρ : Env) (μ : Mu) (k : Env → Mu → Out) : (Out.brk ρ μ).seq k = .brk ρ μ := rfl
theorem seq_cnt (ρ : Env) (μ : Mu) (k : Env → Mu → Out) : (Out.cnt ρ μ).seq k = .cnt ρ μ := rfl
theorem optR_some {α : Type} (a : α) (μ : Mu) : optR (some a) μ = .ok a μ := rfl
theorem at0 {α : Type} (x : α) (l : List α) : atI (x :: l) 0 = some x := by
  unfold atI ixN
  rw [if_pos (by omega), if_pos (by simp only [List.length_cons]; omega)]; rfl
theorem at1 {α : Type} (x y : α) (l : List α) : atI (x :: y :: l) 1 = some y := by
  unfold atI ixN
  rw [if_pos (by omega), if_pos (by simp only [List.length_cons]; omega)]; rfl
theorem at2 {α : Type} (x y z : α) (l : List α) : atI (x :: y :: z :: l) 2 = some z := by
  unfold atI ixN
  rw [if_pos (by omega), if_pos (by simp only [List.length_cons]; omega)]; rfl
theorem atN {α : Type} (l : List α) (n : Nat) : atI l (n : Int) = l[n]? := by
  unfold atI ixN
  rw [if_pos (by omega)]
  split
  · rfl
  · rw [List.getElem?_eq_none (by omega)]; rfl
theorem ix0 (n : Nat) : ixN (n + 1) 0 = some 0 := by unfold ixN; rw [if_pos (by omega), if_pos (by omega)]; rfl
theorem ix1 (n : Nat) : ixN (n + 1 + 1) 1 = some 1 := by unfold ixN; rw [if_pos (by omega), if_pos (by omega)]; rfl
theorem ix2 (n : Nat) : ixN (n + 1 + 1 + 1) 2 = some 2 := by unfold ixN; rw [if_pos (by omega), if_pos (by omega)]; rfl
/-- the drawing from the script -/
def Dtake (c1 c2 c3 c4 c5 c6 : Int) : Df := ⟨5, 0, [(.ife (.and (.prim .eq [(.prim .idx [(.var 0), (.k (.int 0))]), (.k (.int 0))]) (.prim .lt [(.prim .idx [(.var 0), (.k (.int 2))]), (.prim .len [(.var 0)])])) [(.set (.n 2) (.prim .idx [(.var 0), (.prim .idx [(.var 0), (.k (.int 2))])])),
  (.augL (.var 0) (.k (.int 2)) .iadd (.k (.int 1))),
  (.ife (.prim .ge [(.var 2), (.prim .pow [(.k (.int 10)), (.k (.int 18))])]) [(.updL (.var 0) (.k (.int 0)) (.prim .sub [(.var 2), (.prim .pow [(.k (.int 10)), (.k (.int 18))])]))] [(.set (.n 4) (.prim .mod [(.prim .int [(.var 2)]), (.k (.int 2147483647))])),
  (.set (.n 4) (.prim .mod [(.prim .int [(.prim .add [(.prim .add [(.prim .mul [(.var 4), (.var 4)]), (.prim .mul [(.k (.int c1)), (.var 4)])]), (.prim .mul [(.k (.int c2)), (.prim .idx [(.var 0), (.k (.int 2))])])])]), (.k (.int 2147483629))])),
  (.updL (.var 0) (.k (.int 1)) (.prim .mod [(.prim .int [(.prim .add [(.prim .idx [(.var 0), (.k (.int 1))]), (.var 4)])]), (.k (.int 2147483629))]))])] []),
  (.ife (.prim .gt [(.prim .idx [(.var 0), (.k (.int 0))]), (.k (.int 0))]) [(.set (.n 3) (.prim .mod [(.prim .int [(.prim .idx [(.var 0), (.k (.int 0))])]), (.var 1)])),
  (.updL (.var 0) (.k (.int 0)) (.prim .fdiv [(.prim .idx [(.var 0), (.k (.int 0))]), (.var 1)])),
  (.ret (.var 3))] []),
  (.updL (.var 0) (.k (.int 1)) (.prim .mod [(.prim .int [(.prim .add [(.prim .add [(.prim .mul [(.prim .idx [(.var 0), (.k (.int 1))]), (.k (.int c3))]), (.prim .mul [(.k (.int c4)), (.prim .idx [(.var 0), (.k (.int 2))])])]), (.k (.int c5))])]), (.k (.int 2147483647))])),
  (.updL (.var 0) (.k (.int 1)) (.prim .mod [(.prim .int [(.prim .add [(.prim .mul [(.prim .idx [(.var 0), (.k (.int 1))]), (.prim .idx [(.var 0), (.k (.int 1))])]), (.k (.int c6))])]), (.k (.int 2147483629))])),
  (.ret (.prim .mod [(.prim .int [(.prim .fdiv [(.prim .idx [(.var 0), (.k (.int 1))]), (.k (.int 16))])]), (.var 1)]))]⟩
/-- what the pot may hold -/
def Pot (l : List D) : Prop := ∃ (a b c : Int) (ns : List Int), l = .int a :: .int b :: .int c :: ns.map .int ∧ 0 ≤ a ∧ 0 ≤ b ∧ b < 2147483648 ∧ 3 ≤ c ∧ c ≤ 3 + 63 ∧ ns.length ≤ 63
def PotAt (μ : Mu) (n : Nat) : Prop := ∃ l, μ[n]? = some ⟨false, .lst l⟩ ∧ Pot l
end Wp

set_option linter.all false
set_option maxRecDepth 100000
namespace Wp
theorem mod_lt {x m : Int} (h : 0 < m) : 0 ≤ x.fmod m ∧ x.fmod m < m := ⟨Int.fmod_nonneg_of_pos x h, Int.fmod_lt_of_pos x h⟩
theorem okD_int (i : Int) : okD (.int i) = true := by simp [okD, D.okN]
theorem eqv_int (i j : Int) : D.eqv (.int i) (.int j) = decide (i = j) := by
  rw [D.eqv, Bool.eq_iff_iff]
  simp
theorem set_get {μ : Mu} {n : Nat} {x : Cell} (h : n < μ.length) : (μ.set n x)[n]? = some x := List.getElem?_set_self h
theorem small_mul {a b : Int} (h : a.natAbs < 2 ^ 100) (h' : b.natAbs < 2 ^ 100) : mulOk a b = true := mulOk_of 100 100 h h' (by omega) (by omega) (by omega)
theorem take_tail (c1 c2 c3 c4 c5 c6 : Int) (n0 : Nat) (μ : Mu) (n : Nat) (a b c : Int) (ns : List Int) (many : Int) (x2 x3 x4 : Option A) (hμ : μ[n]? = some ⟨false, .lst (.int a :: .int b :: .int c :: ns.map .int)⟩)
    (ha : 0 ≤ a) (hb : 0 ≤ b) (hb2 : b < 2147483648) (hc : 3 ≤ c) (hc2 : c ≤ 3 + 63) (hns : ns.length ≤ 63) (hm : 0 < many) (hm2 : many.natAbs < 2 ^ 9000) (k3 : c3.natAbs < 2 ^ 60) (k4 : c4.natAbs < 2 ^ 60) :
    ∃ r l', exs n0 ((Dtake c1 c2 c3 c4 c5 c6).body.drop 1) [some (.c n), some (.v (.int many)), x2, x3, x4] μ = .ret (.int r) (μ.set n ⟨false, .lst l'⟩) ∧ 0 ≤ r ∧ r < many ∧ Pot l' := by
  have hn : n < μ.length := (List.getElem?_eq_some_iff.mp hμ).1
  have hmz : many ≠ 0 := by omega
  have hd : divOk many = true := divOk_of hmz hm2
  by_cases h : 0 < a
  · refine ⟨a.fmod many, _, ?_, (mod_lt hm).1, (mod_lt hm).2, a.fdiv many, b, c, ns, rfl, Int.fdiv_nonneg ha (by omega), hb, hb2, hc, hc2, hns⟩
    simp [Dtake, exs, ex, ev, evs, evT, bind_ok, st_ok, seq_nx, seq_ret, optR_some, vals, dr, drs, P.f, P.f1, P.f2, asg, tru, hμ, at0, h, hmz, hd, updL, ix0]
  · have m1 : mulOk b c3 = true := small_mul (by omega) (by omega)
    have m2 : mulOk c4 c = true := small_mul (by omega) (by omega)
    have b1 := mod_lt (x := b * c3 + c4 * c + c5) (m := 2147483647) (by omega)
    generalize hx : (b * c3 + c4 * c + c5).fmod 2147483647 = x at b1
    have m3 : mulOk x x = true := small_mul (by omega) (by omega)
    have b2 := mod_lt (x := x * x + c6) (m := 2147483629) (by omega)
    generalize hy : (x * x + c6).fmod 2147483629 = y at b2
    refine ⟨(y.fdiv 16).fmod many, _, ?_, (mod_lt hm).1, (mod_lt hm).2, a, y, c, ns, rfl, ha, b2.1, by omega, hc, hc2, hns⟩
    have sg : ∀ x, (μ.set n x)[n]? = some x := fun x => set_get hn
    have d16 : divOk 16 = true := divOk_of (by omega) (by decide)
    simp [Dtake, exs, ex, ev, evs, evT, bind_ok, st_ok, seq_nx, seq_ret, optR_some, vals, dr, drs, P.f, P.f1, P.f2, asg, tru, hμ, at0, at1, at2, h, hmz, hd, updL, ix0, ix1, m1, m2, m3, hx, hy, sg, d16]
theorem take_head (c1 c2 c3 c4 c5 c6 : Int) (n0 : Nat) (μ : Mu) (n : Nat) (a b c : Int) (ns : List Int) (many : Int) (hμ : μ[n]? = some ⟨false, .lst (.int a :: .int b :: .int c :: ns.map .int)⟩)
    (ha : 0 ≤ a) (hb : 0 ≤ b) (hb2 : b < 2147483648) (hc : 3 ≤ c) (hc2 : c ≤ 3 + 63) (hns : ns.length ≤ 63) (k1 : c1.natAbs < 2 ^ 60) (k2 : c2.natAbs < 2 ^ 60) :
    ∃ x2 x4 a' b' c', exs n0 ((Dtake c1 c2 c3 c4 c5 c6).body.take 1) [some (.c n), some (.v (.int many)), none, none, none] μ = .nx [some (.c n), some (.v (.int many)), x2, none, x4] (μ.set n ⟨false, .lst (.int a' :: .int b' :: .int c' :: ns.map .int)⟩) ∧ 0 ≤ a' ∧ 0 ≤ b' ∧ b' < 2147483648 ∧ 3 ≤ c' ∧ c' ≤ 3 + 63 := by
  have hn : n < μ.length := (List.getElem?_eq_some_iff.mp hμ).1
  have sg : ∀ x, (μ.set n x)[n]? = some x := fun x => set_get hn
  have same : μ.set n ⟨false, .lst (.int a :: .int b :: .int c :: ns.map .int)⟩ = μ := by
    apply List.ext_getElem?
    intro i
    by_cases hi : n = i
    · subst hi; rw [sg, hμ]
    · rw [List.getElem?_set_ne hi]
  by_cases h : a = 0 ∧ c < (ns.length : Int) + 1 + 1 + 1
  · obtain ⟨h1, h2⟩ := h
    subst h1
    have e1 : ∃ v, atI (D.int 0 :: D.int b :: D.int c :: ns.map .int) c = some (.int v) := by
      obtain ⟨j, rfl⟩ : ∃ j : Nat, c = ((j + 3 : Nat) : Int) := ⟨(c - 3).toNat, by omega⟩
      have hj : j < ns.length := by omega
      refine ⟨ns[j], ?_⟩
      rw [atN]
      simp [hj]
    obtain ⟨v, e1⟩ := e1
    by_cases h3 : (10 : Int) ^ 18 ≤ v
    · refine ⟨some (.v (.int v)), none, v - 10 ^ 18, b, c + 1, ?_, by omega, hb, hb2, by omega, by omega⟩
      have h3' : (1000000000000000000 : Int) ≤ v := by omega
      simp [Dtake, exs, ex, ev, evs, evT, bind_ok, st_ok, seq_nx, seq_ret, optR_some, vals, dr, drs, P.f, P.f1, P.f2, asg, tru, hμ, at0, at1, at2, e1, okD_int, eqv_int, updL, lookL, ix0, ix1, ix2, sg, h2, h3']
    · have h3' : ¬ (1000000000000000000 : Int) ≤ v := by omega
      have b1 := mod_lt (x := v) (m := 2147483647) (by omega)
      generalize hx : v.fmod 2147483647 = x at b1
      have m1 : mulOk x x = true := small_mul (by omega) (by omega)
      have m2 : mulOk c1 x = true := small_mul (by omega) (by omega)
      have m3 : mulOk c2 (c + 1) = true := small_mul (by omega) (by omega)
      generalize hy : (x * x + c1 * x + c2 * (c + 1)).fmod 2147483629 = y
      have b2 := mod_lt (x := b + y) (m := 2147483629) (by omega)
      refine ⟨some (.v (.int v)), some (.v (.int y)), 0, (b + y).fmod 2147483629, c + 1, ?_, by omega, b2.1, by omega, by omega, by omega⟩
      simp [Dtake, exs, ex, ev, evs, evT, bind_ok, st_ok, seq_nx, seq_ret, optR_some, vals, dr, drs, P.f, P.f1, P.f2, asg, tru, hμ, at0, at1, at2, e1, okD_int, eqv_int, updL, lookL, ix0, ix1, ix2, sg, h2, h3', hx, m1, m2, m3, hy]
  · refine ⟨none, none, a, b, c, ?_, ha, hb, hb2, hc, hc2⟩
    rw [same]
    by_cases h1 : a = 0
    · have h2 : ¬ (c < (ns.length : Int) + 1 + 1 + 1) := fun z => h ⟨h1, z⟩
      simp [Dtake, exs, ex, ev, evs, evT, bind_ok, st_ok, seq_nx, seq_ret, optR_some, vals, dr, drs, P.f, P.f1, P.f2, asg, tru, hμ, at0, at1, at2, okD_int, eqv_int, h1, h2]
    · simp [Dtake, exs, ex, ev, evs, evT, bind_ok, st_ok, seq_nx, seq_ret, optR_some, vals, dr, drs, P.f, P.f1, P.f2, asg, tru, hμ, at0, at1, at2, okD_int, eqv_int, h1]
end Wp

set_option linter.all false
set_option maxRecDepth 100000
namespace Wp
theorem exs_app (n0 : Nat) : ∀ (a b : List S) (ρ : Env) (μ : Mu), exs n0 (a ++ b) ρ μ = (exs n0 a ρ μ).seq (exs n0 b)
  | [], b, ρ, μ => by rw [List.nil_append, exs.eq_1]; rfl
  | s :: a, b, ρ, μ => by
    rw [List.cons_append, exs.eq_2, exs.eq_2]
    cases ex n0 s ρ μ with
    | nx ρ' μ' => exact exs_app n0 a b ρ' μ'
    | _ => rfl
theorem run0 (f : Df) (as : List A) (μ : Mu) (hc : f.cells = 0) : f.run as μ = (match exs μ.length f.body (as.map some ++ List.replicate (f.slots - as.length) none) μ with
    | .nx _ μ' => .ok .non (μ'.take μ.length)
    | .ret d μ' => .ok d (μ'.take μ.length)
    | .exc c d _ μ' => .exc c d (μ'.take μ.length)
    | _ => .no) := by
  unfold Df.run
  rw [hc]
  simp only [List.replicate_zero, List.append_nil] <;> rfl
theorem set_set {μ : Mu} {n : Nat} {x y : Cell} : (μ.set n x).set n y = μ.set n y := List.set_set ..
/-- a draw: some number below many; the pot alone is changed -/
theorem s_take (c1 c2 c3 c4 c5 c6 : Int) (k1 : c1.natAbs < 2 ^ 60) (k2 : c2.natAbs < 2 ^ 60) (k3 : c3.natAbs < 2 ^ 60) (k4 : c4.natAbs < 2 ^ 60) (μ : Mu) (n : Nat) (l : List D) (many : Int)
    (hμ : μ[n]? = some ⟨false, .lst l⟩) (hl : Pot l) (hm : 0 < many) (hm2 : many.natAbs < 2 ^ 9000) :
    ∃ r l', (Dtake c1 c2 c3 c4 c5 c6).run [.c n, .v (.int many)] μ = .ok (.int r) (μ.set n ⟨false, .lst l'⟩) ∧ 0 ≤ r ∧ r < many ∧ Pot l' := by
  obtain ⟨a, b, c, ns, rfl, ha, hb, hb2, hc, hc2, hns⟩ := hl
  have hn : n < μ.length := (List.getElem?_eq_some_iff.mp hμ).1
  obtain ⟨x2, x4, a', b', c', e, h1, h2, h3, h4, h5⟩ := take_head c1 c2 c3 c4 c5 c6 μ.length μ n a b c ns many hμ ha hb hb2 hc hc2 hns k1 k2
  obtain ⟨r, l', e2, h6, h7, h8⟩ := take_tail c1 c2 c3 c4 c5 c6 μ.length (μ.set n ⟨false, .lst (.int a' :: .int b' :: .int c' :: ns.map .int)⟩) n a' b' c' ns many x2 none x4 (set_get hn) h1 h2 h3 h4 h5 hns hm hm2 k3 k4
  rw [set_set] at e2
  refine ⟨r, l', ?_, h6, h7, h8⟩
  rw [run0 _ _ _ rfl]
  have eb : (Dtake c1 c2 c3 c4 c5 c6).body = (Dtake c1 c2 c3 c4 c5 c6).body.take 1 ++ (Dtake c1 c2 c3 c4 c5 c6).body.drop 1 := (List.take_append_drop 1 _).symm
  have er : ([A.c n, A.v (.int many)].map some ++ List.replicate ((Dtake c1 c2 c3 c4 c5 c6).slots - [A.c n, A.v (.int many)].length) none) = [some (.c n), some (.v (.int many)), none, none, none] := rfl
  rw [er, eb, exs_app, e, seq_nx, e2]
  have et : (μ.set n ⟨false, .lst l'⟩).take μ.length = μ.set n ⟨false, .lst l'⟩ := List.take_of_length_le (by rw [List.length_set]; exact Nat.le_refl _)
  show Res.ok _ _ = _
  rw [et]
end Wp

set_option linter.all false
set_option maxRecDepth 100000
namespace Wp
/-- a loop, by an invariant -/
theorem for_inv {tg : D → Env → Option Env} {body : Env → Mu → Out} : ∀ {xs : List D} {ρ : Env} {μ : Mu} (I : Nat → Env → Mu → Prop) (k : Nat), I k ρ μ →
    (∀ (i : Nat) x, xs[i]? = some x → ∀ ρ μ, I (k + i) ρ μ → ∃ ρ', tg x ρ = some ρ' ∧ ∃ ρ2 μ2, (body ρ' μ = .nx ρ2 μ2 ∨ body ρ' μ = .cnt ρ2 μ2) ∧ I (k + i + 1) ρ2 μ2) →
    ∃ ρ' μ', forGo tg body xs ρ μ = .nx ρ' μ' ∧ I (k + xs.length) ρ' μ'
  | [], ρ, μ, I, k, h, _ => ⟨ρ, μ, rfl, h⟩
  | x :: xs, ρ, μ, I, k, h, hs => by
    obtain ⟨ρ', e1, ρ2, μ2, e2, h2⟩ := hs 0 x rfl ρ μ h
    obtain ⟨ρ3, μ3, e3, h3⟩ := for_inv (xs := xs) (ρ := ρ2) (μ := μ2) I (k + 1) h2 fun i y hy ρ μ hI => by
      have := hs (i + 1) y (by simpa using hy) ρ μ (by rw [show k + (i + 1) = k + 1 + i by omega]; exact hI)
      rw [show k + (i + 1) + 1 = k + 1 + i + 1 by omega] at this
      exact this
    refine ⟨ρ3, μ3, ?_, by rw [List.length_cons, show k + (xs.length + 1) = k + 1 + xs.length by omega]; exact h3⟩
    rw [forGo, e1]
    rcases e2 with e2 | e2 <;> (show (match body ρ' μ with | .nx ρ μ => _ | .cnt ρ μ => _ | .brk ρ μ => _ | o => o) = _; rw [e2]; exact e3)
/-- a list comprehension of pure parts -/
theorem lc_pure {tg : D → Env → Option Env} {test : Env → Mu → Res Bool} {el : Env → Mu → Res D} {n : Nat} {ρ : Env} {p : D → Bool} {f : D → D} : ∀ {xs : List D} {acc : List D} {μ : Mu}, μ[n]? = some ⟨false, .lst acc⟩ → acc.length + xs.length ≤ SL →
    (∀ x ∈ xs, ∃ ρ', tg x ρ = some ρ' ∧ ∀ acc, test ρ' (μ.set n ⟨false, .lst acc⟩) = .ok (p x) (μ.set n ⟨false, .lst acc⟩) ∧ (p x = true → el ρ' (μ.set n ⟨false, .lst acc⟩) = .ok (f x) (μ.set n ⟨false, .lst acc⟩))) →
    lcGo tg test el n ρ xs (μ.set n ⟨false, .lst acc⟩) = .ok () (μ.set n ⟨false, .lst (acc ++ (xs.filter p).map f)⟩)
  | [], acc, μ, h, _, _ => by simp [lcGo]
  | x :: xs, acc, μ, h, hl, hs => by
    have hn : n < μ.length := (List.getElem?_eq_some_iff.mp h).1
    obtain ⟨ρ', e1, e2⟩ := hs x List.mem_cons_self
    obtain ⟨e3, e4⟩ := e2 acc
    rw [lcGo, e1]
    show ((test ρ' (μ.set n ⟨false, .lst acc⟩)).bind _) = _
    rw [e3, bind_ok]
    cases hp : p x with
    | false =>
      rw [if_neg Bool.false_ne_true, lc_pure h (by simp only [List.length_cons] at hl; omega) fun y hy => hs y (List.mem_cons_of_mem _ hy), List.filter_cons_of_neg (by rw [hp]; simp)]
    | true =>
      rw [if_pos rfl, e4 hp, bind_ok, set_get hn]
      simp only [List.length_cons] at hl
      show (if acc.length < SL then _ else _) = _
      rw [if_pos (by omega), set_set]
      have := lc_pure (tg := tg) (test := test) (el := el) (ρ := ρ) (p := p) (f := f) (xs := xs) (acc := acc ++ [f x]) (μ := μ.set n ⟨false, .lst (acc ++ [f x])⟩) (set_get hn) (by rw [List.length_append]; simp; omega) fun y hy => by
        obtain ⟨ρ'', k1, k2⟩ := hs y (List.mem_cons_of_mem _ hy)
        refine ⟨ρ'', k1, fun acc' => ?_⟩
        rw [set_set]
        exact k2 acc'
      rw [set_set, set_set] at this
      rw [this, List.filter_cons_of_pos (by rw [hp]), List.map_cons, List.append_assoc]
      rfl
theorem app_set {μ : Mu} {c x : Cell} : (μ ++ [c]).set μ.length x = μ ++ [x] := by
  rw [List.set_append_right _ _ (Nat.le_refl _)]
  simp
theorem app_get {μ : Mu} {c : Cell} : (μ ++ [c])[μ.length]? = some c := by
  rw [List.getElem?_append_right (Nat.le_refl _)]; simp
/-- [e for t in g if ..], of pure parts -/
theorem ev_lc {g : I} {t : T} {cs : List E} {e : E} {own : List Nat} {ρ : Env} {μ : Mu} {xs : List D} (p : D → Bool) (f : D → D) (hg : evI g ρ μ = .ok xs μ) (hl : xs.length ≤ SL)
    (hs : ∀ x ∈ xs, ∃ ρ', asg t x (wipeE ρ own) = some ρ' ∧ ∀ c, evC cs ρ' (μ ++ [c]) = .ok (p x) (μ ++ [c]) ∧ (p x = true → (ev e ρ' (μ ++ [c])).bind toV = .ok (f x) (μ ++ [c]))) :
    ev (.lc g t cs e own) ρ μ = .ok (.v (.lst ((xs.filter p).map f))) μ := by
  rw [ev, hg, bind_ok]
  have h := lc_pure (tg := asg t) (test := evC cs) (el := fun ρ μ => (ev e ρ μ).bind toV) (n := μ.length) (ρ := wipeE ρ own) (p := p) (f := f) (xs := xs) (acc := []) (μ := μ ++ [⟨false, .lst []⟩]) app_get (by simpa using hl) fun x hx => by
    obtain ⟨ρ', h1, h2⟩ := hs x hx
    refine ⟨ρ', h1, fun acc => ?_⟩
    rw [app_set]
    exact h2 _
  rw [app_set, app_set] at h
  rw [h]
  show (Res.bind (Res.ok () _) _) = _
  rw [bind_ok]
  unfold lcEnd
  rw [app_get]
  simp
theorem ev_lc0 {g : I} {t : T} {e : E} {own : List Nat} {ρ : Env} {μ : Mu} {xs : List D} (f : D → D) (hg : evI g ρ μ = .ok xs μ) (hl : xs.length ≤ SL)
    (hs : ∀ x ∈ xs, ∃ ρ', asg t x (wipeE ρ own) = some ρ' ∧ ∀ c, (ev e ρ' (μ ++ [c])).bind toV = .ok (f x) (μ ++ [c])) :
    ev (.lc g t [] e own) ρ μ = .ok (.v (.lst (xs.map f))) μ := by
  have := ev_lc (cs := []) (fun _ => true) f hg hl fun x hx => by
    obtain ⟨ρ', h1, h2⟩ := hs x hx
    exact ⟨ρ', h1, fun c => ⟨by rw [evC], fun _ => h2 c⟩⟩
  rw [List.filter_eq_self.mpr fun _ _ => rfl] at this
  exact this
end Wp

set_option linter.all false
set_option maxRecDepth 100000
/-! P0: reading the small language step by step, for simp. Plain Lean. -/
namespace Wp
def fin (n : Nat) : Out → Res D
  | .nx _ μ' => .ok .non (μ'.take n)
  | .ret d μ' => .ok d (μ'.take n)
  | .exc c d _ μ' => .exc c d (μ'.take n)
  | _ => .no
@[simp] theorem fin_nx (n ρ μ) : fin n (.nx ρ μ) = .ok .non (μ.take n) := Eq.trans rfl rfl
@[simp] theorem fin_ret (n d μ) : fin n (.ret d μ) = .ok d (μ.take n) := Eq.trans rfl rfl
@[simp] theorem fin_exc (n c d ρ μ) : fin n (.exc c d ρ μ) = .exc c d (μ.take n) := Eq.trans rfl rfl
theorem run_eq (f : Df) (as : List A) (μ : Mu) : f.run as μ = fin μ.length (exs μ.length f.body (as.map some ++ List.replicate (f.slots - as.length) none) (μ ++ List.replicate f.cells ⟨false, .dead⟩)) := by
  unfold Df.run fin; rfl
theorem run_of {f : Df} {as : List A} {μ : Mu} {r : Res D} (h : fin μ.length (exs μ.length f.body (as.map some ++ List.replicate (f.slots - as.length) none) (μ ++ List.replicate f.cells ⟨false, .dead⟩)) = r) : f.run as μ = r := (run_eq f as μ).trans h
/- results -/
@[simp] theorem r_bind_ok {α β : Type} (a : α) (μ : Mu) (k : α → Mu → Res β) : (Res.ok a μ).bind k = k a μ := Eq.trans rfl rfl
@[simp] theorem r_bind_exc {α β : Type} (c : String) (d : D) (μ : Mu) (k : α → Mu → Res β) : (Res.exc c d μ).bind k = .exc c d μ := Eq.trans rfl rfl
@[simp] theorem r_st_ok {α : Type} (a : α) (μ : Mu) (ρ : Env) (k : α → Mu → Out) : (Res.ok a μ).st ρ k = k a μ := Eq.trans rfl rfl
@[simp] theorem r_st_exc {α : Type} (c : String) (d : D) (μ : Mu) (ρ : Env) (k : α → Mu → Out) : (Res.exc c d μ).st ρ k = .exc c d ρ μ := Eq.trans rfl rfl
@[simp] theorem o_nx (ρ : Env) (μ : Mu) (k : Env → Mu → Out) : (Out.nx ρ μ).seq k = k ρ μ := Eq.trans rfl rfl
@[simp] theorem o_ret (d : D) (μ : Mu) (k : Env → Mu → Out) : (Out.ret d μ).seq k = .ret d μ := Eq.trans rfl rfl
@[simp] theorem o_brk (ρ : Env) (μ : Mu) (k : Env → Mu → Out) : (Out.brk ρ μ).seq k = .brk ρ μ := Eq.trans rfl rfl
@[simp] theorem o_cnt (ρ : Env) (μ : Mu) (k : Env → Mu → Out) : (Out.cnt ρ μ).seq k = .cnt ρ μ := Eq.trans rfl rfl
@[simp] theorem o_exc (c : String) (d : D) (ρ : Env) (μ : Mu) (k : Env → Mu → Out) : (Out.exc c d ρ μ).seq k = .exc c d ρ μ := Eq.trans rfl rfl
@[simp] theorem r_optR {α : Type} (a : α) (μ : Mu) : optR (some a) μ = .ok a μ := Eq.trans rfl rfl
@[simp] theorem r_noExc {α : Type} (a : α) (μ : Mu) : noExc (.ok a μ) = .ok a μ := Eq.trans rfl rfl
/- arguments -/
@[simp] theorem dr_v (μ d) : dr μ (.v d) = some d := Eq.trans rfl rfl
@[simp] theorem dr_t (μ d) : dr μ (.t d) = some d := Eq.trans rfl rfl
theorem dr_c (μ n) : dr μ (.c n) = match μ[n]? with | some ⟨_, .lst xs⟩ => some (.lst xs) | _ => none := rfl
@[simp] theorem drs_nil (μ) : drs μ [] = some [] := Eq.trans rfl rfl
@[simp] theorem drs_cons (μ a as) : drs μ (a :: as) = match dr μ a, drs μ as with | some d, some ds => some (d :: ds) | _, _ => none := Eq.trans rfl rfl
@[simp] theorem vals_nil : vals [] = some [] := Eq.trans rfl rfl
@[simp] theorem vals_v (d as) : vals (.v d :: as) = match vals as with | some ds => some (d :: ds) | none => none := Eq.trans rfl rfl
@[simp] theorem vals_t (d as) : vals (.t d :: as) = match vals as with | some ds => some (d :: ds) | none => none := Eq.trans rfl rfl
@[simp] theorem toV_v (d μ) : toV (.v d) μ = .ok d μ := Eq.trans rfl rfl
@[simp] theorem toV_t (d μ) : toV (.t d) μ = .ok d μ := Eq.trans rfl rfl
/- expressions -/
@[simp] theorem e_var (i ρ μ) : ev (.var i) ρ μ = match ρ[i]? with | some (some a) => .ok a μ | _ => .no := by rw [ev] <;> rfl
@[simp] theorem e_k (d ρ μ) : ev (.k d) ρ μ = .ok (.v d) μ := by rw [ev] <;> rfl
@[simp] theorem e_g (x d ρ μ) : ev (.g x d) ρ μ = .ok (.v d) μ := by rw [ev] <;> rfl
@[simp] theorem e_prim (p es ρ μ) : ev (.prim p es) ρ μ = (evs es ρ μ).bind fun as μ1 => (optR ((drs μ1 as).bind p.f) μ1).bind fun d μ2 => .ok (.v d) μ2 := by rw [ev] <;> rfl
@[simp] theorem e_tup (es ρ μ) : ev (.tup es) ρ μ = (evs es ρ μ).bind fun as μ1 => (optR (vals as) μ1).bind fun ds μ2 => .ok (.v (.tup ds)) μ2 := by rw [ev] <;> rfl
@[simp] theorem e_lst (es ρ μ) : ev (.lst es) ρ μ = (evs es ρ μ).bind fun as μ1 => (optR (vals as) μ1).bind fun ds μ2 => .ok (.v (.lst ds)) μ2 := by rw [ev] <;> rfl
@[simp] theorem e_call (f F es ρ μ) : ev (.call f F es) ρ μ = (evs es ρ μ).bind fun as μ1 => (F as μ1).bind fun d μ2 => .ok (.v d) μ2 := by rw [ev] <;> rfl
@[simp] theorem e_callK (f F es ks perm ws ρ μ) : ev (.callK f F es ks perm ws) ρ μ = (evs es ρ μ).bind fun as μ1 => (evs ws ρ μ1).bind fun bs μ2 => (optR (permute perm (as ++ bs)) μ2).bind fun as' μ3 => (F as' μ3).bind fun d μ4 => .ok (.v d) μ4 := by rw [ev] <;> rfl
@[simp] theorem e_meth (p x es ρ μ) : ev (.meth p x es) ρ μ = (ev x ρ μ).bind fun xa μ0 => if recv p (dr μ0 xa) then (evs es ρ μ0).bind fun as μ1 => (optR ((drs μ1 (xa :: as)).bind p.f) μ1).bind fun d μ2 => .ok (.v d) μ2 else .no := by rw [ev] <;> rfl
@[simp] theorem e_mut (p x es ρ μ) : ev (.mut p x es) ρ μ = (ev x ρ μ).bind fun xa μ0 => match xa with
    | .c n => if isL μ0 n then (evs es ρ μ0).bind fun as μ1 => match μ1[n]?, vals as with
      | some ⟨false, c⟩, some ds => match p.f c ds with
        | some (c', d) => .ok (.v d) (μ1.set n ⟨false, c'⟩)
        | none => .no
      | _, _ => .no
      else .no
    | _ => .no := by rw [ev] <;> rfl
@[simp] theorem e_look (p x es ρ μ) : ev (.look p x es) ρ μ = (ev x ρ μ).bind fun xa μ0 => match xa with
    | .c n => if isD μ0 n then (evs es ρ μ0).bind fun as μ1 => match μ1[n]? with
      | some ⟨_, c⟩ => match p.f c as with
        | some d => .ok (.v d) μ1
        | none => .no
      | _ => .no
      else .no
    | _ => .no := by rw [ev] <;> rfl
@[simp] theorem e_inD (p k x ρ μ) : ev (.inD p k x) ρ μ = (ev k ρ μ).bind fun ka μ1 => (ev x ρ μ1).bind fun xa μ2 => match xa with
    | .c n => match μ2[n]? with
      | some ⟨_, c⟩ => match dictAt c ka with
        | some o => .ok (.v (.bl (if p then o.isSome else !o.isSome))) μ2
        | none => .no
      | none => .no
    | _ => .no := by rw [ev] <;> rfl
@[simp] theorem e_fz (e ρ μ) : ev (.fz e) ρ μ = (ev e ρ μ).bind fun a μ1 => match a with
    | .v d => .ok (.v d) μ1
    | .t d => .ok (.v d) μ1
    | .c n => match μ1[n]? with
      | some ⟨_, .lst xs⟩ => .ok (.v (.lst xs)) (μ1.set n ⟨true, .lst xs⟩)
      | _ => .no := by rw [ev] <;> rfl
@[simp] theorem e_and (a b ρ μ) : ev (.and a b) ρ μ = (ev a ρ μ).bind fun x μ1 => match (dr μ1 x).bind tru with
    | some true => ev b ρ μ1
    | some false => .ok x μ1
    | none => .no := by rw [ev] <;> rfl
@[simp] theorem e_or (a b ρ μ) : ev (.or a b) ρ μ = (ev a ρ μ).bind fun x μ1 => match (dr μ1 x).bind tru with
    | some true => .ok x μ1
    | some false => ev b ρ μ1
    | none => .no := by rw [ev] <;> rfl
@[simp] theorem e_ife (c a b ρ μ) : ev (.ife c a b) ρ μ = (ev c ρ μ).bind fun x μ1 => match (dr μ1 x).bind tru with
    | some true => ev a ρ μ1
    | some false => ev b ρ μ1
    | none => .no := by rw [ev] <;> rfl
@[simp] theorem e_chain (p q a b c ρ μ) : ev (.chain p q a b c) ρ μ = (ev a ρ μ).bind fun x μ1 => (ev b ρ μ1).bind fun y μ2 => (optR ((drs μ2 [x, y]).bind p.f) μ2).bind fun r μ3 => match r with
    | .bl true => (ev c ρ μ3).bind fun z μ4 => (optR ((drs μ4 [y, z]).bind q.f) μ4).bind fun r μ5 => .ok (.v r) μ5
    | .bl false => .ok (.v (.bl false)) μ3
    | _ => .no := by rw [ev] <;> rfl
@[simp] theorem es_nil (ρ μ) : evs [] ρ μ = .ok [] μ := by rw [evs] <;> rfl
@[simp] theorem es_cons (e es ρ μ) : evs (e :: es) ρ μ = (ev e ρ μ).bind fun a μ1 => (evs es ρ μ1).bind fun as μ2 => .ok (a :: as) μ2 := by rw [evs] <;> rfl
@[simp] theorem ec_nil (ρ μ) : evC [] ρ μ = .ok true μ := by rw [evC] <;> rfl
@[simp] theorem ec_cons (e es ρ μ) : evC (e :: es) ρ μ = (ev e ρ μ).bind fun x μ1 => match (dr μ1 x).bind tru with
    | some true => evC es ρ μ1
    | some false => .ok false μ1
    | none => .no := by rw [evC] <;> rfl
@[simp] theorem i_of (e ρ μ) : evI (.of e) ρ μ = (ev e ρ μ).bind fun a μ1 => match a with
    | .v d => optR (itOf d) μ1
    | _ => .no := by rw [evI] <;> rfl
@[simp] theorem i_rng (es ρ μ) : evI (.rng es) ρ μ = (evs es ρ μ).bind fun as μ1 => optR ((vals as).bind rngOf) μ1 := by rw [evI] <;> rfl
@[simp] theorem i_enum (e ρ μ) : evI (.enum e) ρ μ = (ev e ρ μ).bind fun a μ1 => match a with
    | .v (.lst xs) => .ok (enumL 0 xs) μ1
    | .v (.tup xs) => .ok (enumL 0 xs) μ1
    | _ => .no := by rw [evI] <;> rfl
@[simp] theorem i_zip (es ρ μ) : evI (.zip es) ρ μ = (evs es ρ μ).bind fun as μ1 => match as with
    | [.v (.lst xs), .v (.lst ys)] => .ok (zipL xs ys) μ1
    | [.v (.tup xs), .v (.tup ys)] => .ok (zipL xs ys) μ1
    | _ => .no := by rw [evI] <;> rfl
@[simp] theorem it_lst (xs) : itOf (.lst xs) = some xs := Eq.trans rfl rfl
@[simp] theorem it_tup (xs) : itOf (.tup xs) = some xs := Eq.trans rfl rfl
@[simp] theorem t_evT (e ρ μ) : evT e ρ μ = (ev e ρ μ).bind fun x μ1 => optR ((dr μ1 x).bind tru) μ1 := Eq.trans rfl rfl
/- statements -/
@[simp] theorem s_nil (n0 ρ μ) : exs n0 [] ρ μ = .nx ρ μ := by rw [exs] <;> rfl
@[simp] theorem s_cons (n0 s r ρ μ) : exs n0 (s :: r) ρ μ = (ex n0 s ρ μ).seq (exs n0 r) := by rw [exs] <;> rfl
@[simp] theorem s_set (n0 t e ρ μ) : ex n0 (.set t e) ρ μ = (ev e ρ μ).st ρ fun a μ1 => match a with
    | .v d => match asg t d ρ with
      | some ρ' => .nx ρ' μ1
      | none => .no
    | _ => .no := by rw [ex] <;> rfl
@[simp] theorem s_setT (n0 i e ρ μ) : ex n0 (.setT i e) ρ μ = (ev e ρ μ).st ρ fun a μ1 => match a with
    | .v d => if i < ρ.length then .nx (ρ.set i (some (.t d))) μ1 else .no
    | _ => .no := by rw [ex] <;> rfl
@[simp] theorem s_par (n0 is es ρ μ) : ex n0 (.par is es) ρ μ = (evk n0 es ρ μ).st ρ fun x μ1 => match putAll x.2 is x.1 with
    | some ρ' => .nx ρ' μ1
    | none => .no := by rw [ex] <;> rfl
@[simp] theorem s_new (n0 i j e ρ μ) : ex n0 (.new i j e) ρ μ = (ev e ρ μ).st ρ fun a μ1 => match a with
    | .v (.lst xs) => if i < ρ.length ∧ n0 + j < μ1.length then .nx ((killC (n0 + j) ρ).set i (some (.c (n0 + j)))) (μ1.set (n0 + j) ⟨false, .lst xs⟩) else .no
    | _ => .no := by rw [ex] <;> rfl
@[simp] theorem s_newD (n0 i j c ρ μ) : ex n0 (.newD i j c) ρ μ = if i < ρ.length ∧ n0 + j < μ.length then .nx ((killC (n0 + j) ρ).set i (some (.c (n0 + j)))) (μ.set (n0 + j) ⟨false, c⟩) else .no := by rw [ex] <;> rfl
@[simp] theorem s_updL (n0 x k v ρ μ) : ex n0 (.updL x k v) ρ μ = (ev v ρ μ).st ρ fun va μ1 => (ev x ρ μ1).st ρ fun xa μ2 => (ev k ρ μ2).st ρ fun ka μ3 => match va, xa, ka with
    | .v vd, .c n, .v kd => match μ3[n]? with
      | some ⟨false, c⟩ => match updL c kd vd with
        | some c' => .nx ρ (μ3.set n ⟨false, c'⟩)
        | none => .no
      | _ => .no
    | _, _, _ => .no := by rw [ex] <;> rfl
@[simp] theorem s_updD (n0 x k v ρ μ) : ex n0 (.updD x k v) ρ μ = (ev v ρ μ).st ρ fun va μ1 => (ev x ρ μ1).st ρ fun xa μ2 => (ev k ρ μ2).st ρ fun ka μ3 => match va, xa with
    | .v vd, .c n => match μ3[n]? with
      | some ⟨false, c⟩ => match updD c ka vd with
        | some c' => .nx ρ (μ3.set n ⟨false, c'⟩)
        | none => .no
      | _ => .no
    | _, _ => .no := by rw [ex] <;> rfl
@[simp] theorem s_aug (n0 i p e ρ μ) : ex n0 (.aug i p e) ρ μ = match ρ[i]? with
    | some (some (.v x)) => (ev e ρ μ).st ρ fun a μ1 => match dr μ1 a with
      | some y => match p.f [x, y] with
        | some d => .nx (ρ.set i (some (.v d))) μ1
        | none => .no
      | none => .no
    | _ => .no := by rw [ex] <;> rfl
@[simp] theorem s_augL (n0 x k p e ρ μ) : ex n0 (.augL x k p e) ρ μ = (ev x ρ μ).st ρ fun xa μ1 => (ev k ρ μ1).st ρ fun ka μ2 => match xa, ka with
    | .c n, .v kd => match μ2[n]? with
      | some ⟨_, c⟩ => match lookL c kd with
        | some old => (ev e ρ μ2).st ρ fun a μ3 => match dr μ3 a, μ3[n]? with
          | some y, some ⟨false, c3⟩ => match p.f [old, y] with
            | some d => match updL c3 kd d with
              | some c' => .nx ρ (μ3.set n ⟨false, c'⟩)
              | none => .no
            | none => .no
          | _, _ => .no
        | none => .no
      | none => .no
    | _, _ => .no := by rw [ex] <;> rfl
@[simp] theorem s_xp (n0 e ρ μ) : ex n0 (.xp e) ρ μ = (ev e ρ μ).st ρ fun _ μ1 => .nx ρ μ1 := by rw [ex] <;> rfl
@[simp] theorem s_ife (n0 c a b ρ μ) : ex n0 (.ife c a b) ρ μ = (evT c ρ μ).st ρ fun t μ1 => if t then exs n0 a ρ μ1 else exs n0 b ρ μ1 := by rw [ex] <;> rfl
@[simp] theorem s_for (n0 t g b ρ μ) : ex n0 (.for t g b) ρ μ = (evI g ρ μ).st ρ fun xs μ1 => forGo (asg t) (exs n0 b) xs ρ μ1 := by rw [ex] <;> rfl
@[simp] theorem s_whl (n0 n c b ρ μ) : ex n0 (.whl n c b) ρ μ = whGo (evT c) (exs n0 b) n ρ μ := by rw [ex] <;> rfl
@[simp] theorem s_ret (n0 e ρ μ) : ex n0 (.ret e) ρ μ = (ev e ρ μ).st ρ fun a μ1 => match a with
    | .v d => .ret d μ1
    | .t d => .ret d μ1
    | .c _ => .no := by rw [ex] <;> rfl
@[simp] theorem s_retC (n0 i ρ μ) : ex n0 (.retC i) ρ μ = match ρ[i]? with
    | some (some (.c n)) => if n0 ≤ n then match μ[n]? with
      | some ⟨false, .lst xs⟩ => .ret (.lst xs) μ
      | _ => .no
      else .no
    | _ => .no := by rw [ex] <;> rfl
@[simp] theorem s_brk (n0 ρ μ) : ex n0 .brk ρ μ = .brk ρ μ := by rw [ex] <;> rfl
@[simp] theorem s_cnt (n0 ρ μ) : ex n0 .cnt ρ μ = .cnt ρ μ := by rw [ex] <;> rfl
@[simp] theorem s_pas (n0 ρ μ) : ex n0 .pas ρ μ = .nx ρ μ := by rw [ex] <;> rfl
@[simp] theorem s_rai (n0 c e ρ μ) : ex n0 (.rai c e) ρ μ = (ev e ρ μ).st ρ fun a μ1 => match a with
    | .v d => .exc c d ρ μ1
    | _ => .no := by rw [ex] <;> rfl
/- targets -/
@[simp] theorem a_n (i d ρ) : asg (.n i) d ρ = if i < ρ.length then some (ρ.set i (some (.v d))) else none := by rw [asg] <;> rfl
@[simp] theorem a_t (ts xs ρ) : asg (.t ts) (.tup xs) ρ = asgs ts xs ρ := by rw [asg] <;> rfl
@[simp] theorem as_nil (ρ) : asgs [] [] ρ = some ρ := by rw [asgs] <;> rfl
@[simp] theorem as_cons (t ts d ds ρ) : asgs (t :: ts) (d :: ds) ρ = match asg t d ρ with | some ρ' => asgs ts ds ρ' | none => none := by rw [asgs] <;> rfl
@[simp] theorem pA_nil (ρ) : putAll ρ [] [] = some ρ := Eq.trans rfl rfl
@[simp] theorem pA_cons (ρ i is a as) : putAll ρ (i :: is) (a :: as) = if i < ρ.length then putAll (ρ.set i (some a)) is as else none := Eq.trans rfl rfl
@[simp] theorem kill_nil (n) : killC n [] = [] := Eq.trans rfl rfl
@[simp] theorem kill_none (n r) : killC n (none :: r) = none :: killC n r := Eq.trans rfl rfl
@[simp] theorem kill_v (n d r) : killC n (some (.v d) :: r) = some (.v d) :: killC n r := Eq.trans rfl rfl
@[simp] theorem kill_t (n d r) : killC n (some (.t d) :: r) = some (.t d) :: killC n r := Eq.trans rfl rfl
@[simp] theorem kill_c (n k r) : killC n (some (.c k) :: r) = (if k = n then none else some (.c k)) :: killC n r := Eq.trans rfl rfl
@[simp] theorem k_nil (n0 ρ μ) : evk n0 [] ρ μ = .ok ([], ρ) μ := Eq.trans rfl rfl
@[simp] theorem k_v (n0 e ps ρ μ) : evk n0 (.v e :: ps) ρ μ = (ev1 n0 (.v e) ρ μ).bind fun x μ1 => (evk n0 ps x.2 μ1).bind fun y μ2 => .ok (x.1 :: y.1, y.2) μ2 := Eq.trans rfl rfl
@[simp] theorem k_t (n0 e ps ρ μ) : evk n0 (.t e :: ps) ρ μ = (ev1 n0 (.t e) ρ μ).bind fun x μ1 => (evk n0 ps x.2 μ1).bind fun y μ2 => .ok (x.1 :: y.1, y.2) μ2 := Eq.trans rfl rfl
@[simp] theorem k_n (n0 j e ps ρ μ) : evk n0 (.n j e :: ps) ρ μ = (ev1 n0 (.n j e) ρ μ).bind fun x μ1 => (noExc (evk n0 ps x.2 μ1)).bind fun y μ2 => .ok (x.1 :: y.1, y.2) μ2 := Eq.trans rfl rfl
@[simp] theorem k_dK (n0 j ps ρ μ) : evk n0 (.dK j :: ps) ρ μ = (ev1 n0 (.dK j) ρ μ).bind fun x μ1 => (noExc (evk n0 ps x.2 μ1)).bind fun y μ2 => .ok (x.1 :: y.1, y.2) μ2 := Eq.trans rfl rfl
@[simp] theorem k_dT (n0 j ps ρ μ) : evk n0 (.dT j :: ps) ρ μ = (ev1 n0 (.dT j) ρ μ).bind fun x μ1 => (noExc (evk n0 ps x.2 μ1)).bind fun y μ2 => .ok (x.1 :: y.1, y.2) μ2 := Eq.trans rfl rfl
@[simp] theorem k1_v (n0 e ρ μ) : ev1 n0 (.v e) ρ μ = (ev e ρ μ).bind fun a μ1 => match a with | .v d => .ok (.v d, ρ) μ1 | _ => .no := Eq.trans rfl rfl
@[simp] theorem k1_t (n0 e ρ μ) : ev1 n0 (.t e) ρ μ = (ev e ρ μ).bind fun a μ1 => match a with | .v d => .ok (.t d, ρ) μ1 | _ => .no := Eq.trans rfl rfl
@[simp] theorem k1_n (n0 j e ρ μ) : ev1 n0 (.n j e) ρ μ = (ev e ρ μ).bind fun a μ1 => match a with | .v (.lst xs) => begC (n0 + j) (.lst xs) ρ μ1 | _ => .no := Eq.trans rfl rfl
@[simp] theorem k1_dK (n0 j ρ μ) : ev1 n0 (.dK j) ρ μ = begC (n0 + j) (.dK []) ρ μ := Eq.trans rfl rfl
@[simp] theorem k1_dT (n0 j ρ μ) : ev1 n0 (.dT j) ρ μ = begC (n0 + j) (.dT []) ρ μ := Eq.trans rfl rfl
@[simp] theorem begC_eq (n c ρ μ) : begC n c ρ μ = if n < μ.length then .ok (.c n, killC n ρ) (μ.set n ⟨false, c⟩) else .no := Eq.trans rfl rfl
@[simp] theorem wipe_nil (ρ) : wipeE ρ [] = ρ := Eq.trans rfl rfl
@[simp] theorem wipe_cons (ρ i is) : wipeE ρ (i :: is) = (wipeE ρ is).set i none := Eq.trans rfl rfl
/-- a slot behind a cell was begun anew -/
def unc (n : Nat) : Option A → Option A
  | some (.c k) => if k = n then none else some (.c k)
  | o => o
@[simp] theorem unc_v (n d) : unc n (some (.v d)) = some (.v d) := Eq.trans rfl rfl
@[simp] theorem unc_t (n d) : unc n (some (.t d)) = some (.t d) := Eq.trans rfl rfl
@[simp] theorem unc_no (n) : unc n none = none := Eq.trans rfl rfl
@[simp] theorem unc_c (n k) : unc n (some (.c k)) = if k = n then none else some (.c k) := Eq.trans rfl rfl
theorem kill_any (n o r) : killC n (o :: r) = unc n o :: killC n r := by
  cases o with
  | none => rfl
  | some a => cases a <;> rfl
/- truth -/
@[simp] theorem tru_non : tru .non = some false := Eq.trans rfl rfl
@[simp] theorem tru_bl (b) : tru (.bl b) = some b := Eq.trans rfl rfl
@[simp] theorem tru_int (i) : tru (.int i) = some (i != 0) := Eq.trans rfl rfl
@[simp] theorem tru_tup (xs) : tru (.tup xs) = some (!xs.isEmpty) := Eq.trans rfl rfl
@[simp] theorem tru_lst (xs) : tru (.lst xs) = some (!xs.isEmpty) := Eq.trans rfl rfl
/- the heap -/
@[simp] theorem h_get0 {μ L : Mu} : (μ ++ L)[μ.length]? = L[0]? := by
  rw [List.getElem?_append_right (Nat.le_refl _), Nat.sub_self]
@[simp] theorem h_get {μ L : Mu} {j : Nat} : (μ ++ L)[μ.length + j]? = L[j]? := by
  rw [List.getElem?_append_right (by omega)]; congr 1; omega
@[simp] theorem h_set0 {μ L : Mu} {x : Cell} : (μ ++ L).set μ.length x = μ ++ L.set 0 x := by
  rw [List.set_append_right _ _ (Nat.le_refl _), Nat.sub_self]
@[simp] theorem h_set {μ L : Mu} {j : Nat} {x : Cell} : (μ ++ L).set (μ.length + j) x = μ ++ L.set j x := by
  rw [List.set_append_right _ _ (by omega)]; congr 2; omega
theorem h_getl {μ L : Mu} {n : Nat} (h : n < μ.length) : (μ ++ L)[n]? = μ[n]? := List.getElem?_append_left h
theorem h_setl {μ L : Mu} {n : Nat} {x : Cell} (h : n < μ.length) : (μ ++ L).set n x = μ.set n x ++ L := List.set_append_left _ _ h
/- operations -/
@[simp] theorem f_1 (p : P) (a) : p.f [a] = p.f1 a := Eq.trans rfl rfl
@[simp] theorem f_2 (p : P) (a b) : p.f [a, b] = p.f2 a b := Eq.trans rfl rfl
@[simp] theorem f_3 (p : P) (a b c) : p.f [a, b, c] = p.f3 a b c := Eq.trans rfl rfl
@[simp] theorem f_slLH (a l h) : P.f3 .slLH a (.int l) (.int h) = cutD a (some l) (some h) := Eq.trans rfl rfl
@[simp] theorem f_neg (a) : P.f1 .neg (.int a) = some (.int (-a)) := Eq.trans rfl rfl
@[simp] theorem f_not (a) : P.f1 .not a = (tru a).map fun b => .bl (!b) := by cases a <;> rfl
@[simp] theorem f_isN_non : P.f1 .isN .non = some (.bl true) := Eq.trans rfl rfl
@[simp] theorem f_isN_int (a) : P.f1 .isN (.int a) = some (.bl false) := Eq.trans rfl rfl
@[simp] theorem f_isN_bl (a) : P.f1 .isN (.bl a) = some (.bl false) := Eq.trans rfl rfl
@[simp] theorem f_isN_str (a) : P.f1 .isN (.str a) = some (.bl false) := Eq.trans rfl rfl
@[simp] theorem f_isN_tup (a) : P.f1 .isN (.tup a) = some (.bl false) := Eq.trans rfl rfl
@[simp] theorem f_isN_lst (a) : P.f1 .isN (.lst a) = some (.bl false) := Eq.trans rfl rfl
@[simp] theorem f_notN_non : P.f1 .notN .non = some (.bl false) := Eq.trans rfl rfl
@[simp] theorem f_notN_int (a) : P.f1 .notN (.int a) = some (.bl true) := Eq.trans rfl rfl
@[simp] theorem f_notN_bl (a) : P.f1 .notN (.bl a) = some (.bl true) := Eq.trans rfl rfl
@[simp] theorem f_notN_str (a) : P.f1 .notN (.str a) = some (.bl true) := Eq.trans rfl rfl
@[simp] theorem f_notN_tup (a) : P.f1 .notN (.tup a) = some (.bl true) := Eq.trans rfl rfl
@[simp] theorem f_notN_lst (a) : P.f1 .notN (.lst a) = some (.bl true) := Eq.trans rfl rfl
@[simp] theorem f_len_tup (a) : P.f1 .len (.tup a) = some (.int a.length) := Eq.trans rfl rfl
@[simp] theorem f_len_lst (a) : P.f1 .len (.lst a) = some (.int a.length) := Eq.trans rfl rfl
@[simp] theorem f_asI (a) : P.f1 .asI (.int a) = some (.int a) := Eq.trans rfl rfl
@[simp] theorem f_abs (a) : P.f1 .abs (.int a) = some (.int (if a < 0 then -a else a)) := Eq.trans rfl rfl
@[simp] theorem f_int (a) : P.f1 .int (.int a) = some (.int a) := Eq.trans rfl rfl
@[simp] theorem f_intb (a) : P.f1 .int (.bl a) = some (.int (if a then 1 else 0)) := Eq.trans rfl rfl
@[simp] theorem f_tuple_l (a) : P.f1 .tuple (.lst a) = some (.tup a) := Eq.trans rfl rfl
@[simp] theorem f_tuple_t (a) : P.f1 .tuple (.tup a) = some (.tup a) := Eq.trans rfl rfl
@[simp] theorem f_list_l (a) : P.f1 .list (.lst a) = some (.lst a) := Eq.trans rfl rfl
@[simp] theorem f_list_t (a) : P.f1 .list (.tup a) = some (.lst a) := Eq.trans rfl rfl
@[simp] theorem f_list_f (a) : P.f1 .list (.frz a) = some (.lst a) := Eq.trans rfl rfl
@[simp] theorem f_sum (a) : P.f1 .sum (.lst a) = (intsOf a).map fun is => .int is.sum := Eq.trans rfl rfl
@[simp] theorem f_any (a) : P.f1 .any (.lst a) = (blsOf a).map fun bs => .bl (bs.any id) := Eq.trans rfl rfl
@[simp] theorem f_all (a) : P.f1 .all (.lst a) = (blsOf a).map fun bs => .bl (bs.all id) := Eq.trans rfl rfl
@[simp] theorem f_is_int (ts a) : P.f1 (.isinst ts) (.int a) = some (.bl (ts.any (isTy (.int a)))) := Eq.trans rfl rfl
@[simp] theorem f_is_bl (ts a) : P.f1 (.isinst ts) (.bl a) = some (.bl (ts.any (isTy (.bl a)))) := Eq.trans rfl rfl
@[simp] theorem f_is_non (ts) : P.f1 (.isinst ts) .non = some (.bl (ts.any (isTy .non))) := Eq.trans rfl rfl
@[simp] theorem f_is_str (ts a) : P.f1 (.isinst ts) (.str a) = some (.bl (ts.any (isTy (.str a)))) := Eq.trans rfl rfl
@[simp] theorem f_is_tup (ts a) : P.f1 (.isinst ts) (.tup a) = some (.bl (ts.any (isTy (.tup a)))) := Eq.trans rfl rfl
@[simp] theorem f_is_lst (ts a) : P.f1 (.isinst ts) (.lst a) = some (.bl (ts.any (isTy (.lst a)))) := Eq.trans rfl rfl
@[simp] theorem f_iadd (a b) : P.f2 .iadd (.int a) (.int b) = some (.int (a + b)) := Eq.trans rfl rfl
@[simp] theorem f_isub (a b) : P.f2 .isub (.int a) (.int b) = some (.int (a - b)) := Eq.trans rfl rfl
@[simp] theorem f_add (a b) : P.f2 .add (.int a) (.int b) = some (.int (a + b)) := Eq.trans rfl rfl
@[simp] theorem f_add_s (a b) : P.f2 .add (.str a) (.str b) = if a.length + b.length ≤ SL then some (.str (a ++ b)) else none := Eq.trans rfl rfl
@[simp] theorem f_add_t (a b) : P.f2 .add (.tup a) (.tup b) = if a.length + b.length ≤ SL then some (.tup (a ++ b)) else none := Eq.trans rfl rfl
@[simp] theorem f_add_l (a b) : P.f2 .add (.lst a) (.lst b) = if a.length + b.length ≤ SL then some (.lst (a ++ b)) else none := Eq.trans rfl rfl
@[simp] theorem f_sub (a b) : P.f2 .sub (.int a) (.int b) = some (.int (a - b)) := Eq.trans rfl rfl
@[simp] theorem f_mul (a b) : P.f2 .mul (.int a) (.int b) = if mulOk a b then some (.int (a * b)) else none := Eq.trans rfl rfl
@[simp] theorem f_mul_l (a b) : P.f2 .mul (.lst a) (.int b) = if (-(2 ^ 63) ≤ b ∧ b < 2 ^ 63) ∧ a.length * b.toNat ≤ SL then some (.lst (rep a b.toNat)) else none := Eq.trans rfl rfl
@[simp] theorem f_mul_t (a b) : P.f2 .mul (.tup a) (.int b) = if a.isEmpty = false ∧ 1 ≤ b ∧ b ≤ 1000 ∧ a.length ≤ 1000 then some (.tup (rep a b.toNat)) else none := Eq.trans rfl rfl
@[simp] theorem f_fdiv (a b) : P.f2 .fdiv (.int a) (.int b) = if divOk b then some (.int (a.fdiv b)) else none := Eq.trans rfl rfl
@[simp] theorem f_mod (a b) : P.f2 .mod (.int a) (.int b) = if b ≠ 0 then some (.int (a.fmod b)) else none := Eq.trans rfl rfl
@[simp] theorem f_pow (a b) : P.f2 .pow (.int a) (.int b) = if (0 ≤ b ∧ b ≤ 1000000) ∧ a.natAbs < 2 ^ 64 then some (.int (a ^ b.toNat)) else none := Eq.trans rfl rfl
@[simp] theorem f_lt (a b) : P.f2 .lt (.int a) (.int b) = some (.bl (decide (a < b))) := Eq.trans rfl rfl
@[simp] theorem f_le (a b) : P.f2 .le (.int a) (.int b) = some (.bl (decide (a ≤ b))) := Eq.trans rfl rfl
@[simp] theorem f_gt (a b) : P.f2 .gt (.int a) (.int b) = some (.bl (decide (b < a))) := Eq.trans rfl rfl
@[simp] theorem f_ge (a b) : P.f2 .ge (.int a) (.int b) = some (.bl (decide (b ≤ a))) := Eq.trans rfl rfl
@[simp] theorem f_eq_i (a b) : P.f2 .eq (.int a) (.int b) = some (.bl (decide (a = b))) := by
  show (if okD (.int a) && okD (.int b) then some (D.bl (D.eqv (.int a) (.int b))) else none) = _
  simp [okD, D.okN, D.eqv]; rfl
@[simp] theorem f_ne_i (a b) : P.f2 .ne (.int a) (.int b) = some (.bl (!decide (a = b))) := by
  show (if okD (.int a) && okD (.int b) then some (D.bl (!D.eqv (.int a) (.int b))) else none) = _
  simp [okD, D.okN, D.eqv]; rfl
@[simp] theorem f_eq_b (a b) : P.f2 .eq (.bl a) (.bl b) = some (.bl (a == b)) := by
  show (if okD (.bl a) && okD (.bl b) then some (D.bl (D.eqv (.bl a) (.bl b))) else none) = _
  simp [okD, D.okN, D.eqv]
@[simp] theorem f_ne_b (a b) : P.f2 .ne (.bl a) (.bl b) = some (.bl (!(a == b))) := by
  show (if okD (.bl a) && okD (.bl b) then some (D.bl (!D.eqv (.bl a) (.bl b))) else none) = _
  simp [okD, D.okN, D.eqv]
@[simp] theorem f_eq_s (a b) : P.f2 .eq (.str a) (.str b) = some (.bl (a == b)) := Eq.trans rfl rfl
@[simp] theorem f_ne_s (a b) : P.f2 .ne (.str a) (.str b) = some (.bl (!(a == b))) := Eq.trans rfl rfl
@[simp] theorem f_eq_t (a b) : P.f2 .eq (.tup a) (.tup b) = if okD (.tup a) && okD (.tup b) then some (.bl (D.eqvs a b)) else none := by
  show (if okD (.tup a) && okD (.tup b) then some (D.bl (D.eqv (.tup a) (.tup b))) else none) = _
  rw [D.eqv]
@[simp] theorem f_eq_l (a b) : P.f2 .eq (.lst a) (.lst b) = if okD (.lst a) && okD (.lst b) then some (.bl (D.eqvs a b)) else none := by
  show (if okD (.lst a) && okD (.lst b) then some (D.bl (D.eqv (.lst a) (.lst b))) else none) = _
  rw [D.eqv]
@[simp] theorem f_inn (a b) : P.f2 .inn a b = (inOf a b).map .bl := by cases a <;> cases b <;> rfl
@[simp] theorem f_notin (a b) : P.f2 .notin a b = (inOf a b).map fun k => .bl (!k) := by cases a <;> cases b <;> rfl
@[simp] theorem f_idx_l (a i) : P.f2 .idx (.lst a) (.int i) = atI a i := Eq.trans rfl rfl
@[simp] theorem f_idx_t (a i) : P.f2 .idx (.tup a) (.int i) = atI a i := Eq.trans rfl rfl
@[simp] theorem f_slLo (a l) : P.f2 .slLo a (.int l) = cutD a (some l) none := by cases a <;> rfl
@[simp] theorem f_slHi (a l) : P.f2 .slHi a (.int l) = cutD a none (some l) := by cases a <;> rfl
@[simp] theorem cut_l (a l h) : cutD (.lst a) l h = some (.lst (cut a l h)) := Eq.trans rfl rfl
@[simp] theorem cut_t (a l h) : cutD (.tup a) l h = some (.tup (cut a l h)) := Eq.trans rfl rfl
@[simp] theorem f_max (a b) : P.f2 .max (.int a) (.int b) = some (.int (if b > a then b else a)) := Eq.trans rfl rfl
@[simp] theorem f_min (a b) : P.f2 .min (.int a) (.int b) = some (.int (if b < a then b else a)) := Eq.trans rfl rfl
@[simp] theorem f_gcd (a b) : P.f2 .gcd (.int a) (.int b) = some (.int (Nat.gcd a.natAbs b.natAbs : Nat)) := Eq.trans rfl rfl
@[simp] theorem at_0 {α : Type} (x : α) (l : List α) : atI (x :: l) 0 = some x := at0 x l
@[simp] theorem at_1 {α : Type} (x y : α) (l : List α) : atI (x :: y :: l) 1 = some y := at1 x y l
@[simp] theorem at_2 {α : Type} (x y z : α) (l : List α) : atI (x :: y :: z :: l) 2 = some z := at2 x y z l
@[simp] theorem at_n {α : Type} (l : List α) (n : Nat) : atI l (n : Int) = l[n]? := atN l n
/- loops: named as they stand -/
theorem for_o {tg : D → Env → Option Env} {body : Env → Mu → Out} {xs : List D} {ρ : Env} {μ : Mu} {o : Out} (hf : forGo tg body xs ρ μ = o) (I : Nat → Env → Mu → Prop) (h0 : I 0 ρ μ)
    (hs : ∀ (i : Nat) x, xs[i]? = some x → ∀ ρ μ, I i ρ μ → ∃ ρ', tg x ρ = some ρ' ∧ ∃ ρ2 μ2, (body ρ' μ = .nx ρ2 μ2 ∨ body ρ' μ = .cnt ρ2 μ2) ∧ I (i + 1) ρ2 μ2) : ∃ ρ' μ', o = .nx ρ' μ' ∧ I xs.length ρ' μ' := by
  obtain ⟨ρ', μ', h1, h2⟩ := for_inv (xs := xs) I 0 h0 fun i x hx ρ μ hI => by
    have := hs i x hx ρ μ (by simpa using hI)
    simpa using this
  exact ⟨ρ', μ', hf.symm.trans h1, by simpa using h2⟩
/-- a loop that may be left: I at a turn's begin, B where it was left -/
theorem for_brk {tg : D → Env → Option Env} {body : Env → Mu → Out} : ∀ {xs : List D} {ρ : Env} {μ : Mu} (I : Nat → Env → Mu → Prop) (B : Env → Mu → Prop) (k : Nat), I k ρ μ →
    (∀ (i : Nat) x, xs[i]? = some x → ∀ ρ μ, I (k + i) ρ μ → ∃ ρ', tg x ρ = some ρ' ∧ ∃ ρ2 μ2, ((body ρ' μ = .nx ρ2 μ2 ∨ body ρ' μ = .cnt ρ2 μ2) ∧ I (k + i + 1) ρ2 μ2) ∨ (body ρ' μ = .brk ρ2 μ2 ∧ B ρ2 μ2)) →
    ∃ ρ' μ', forGo tg body xs ρ μ = .nx ρ' μ' ∧ (I (k + xs.length) ρ' μ' ∨ B ρ' μ')
  | [], ρ, μ, I, B, k, h, _ => ⟨ρ, μ, rfl, .inl h⟩
  | x :: xs, ρ, μ, I, B, k, h, hs => by
    obtain ⟨ρ', e1, ρ2, μ2, h2⟩ := hs 0 x rfl ρ μ h
    rcases h2 with ⟨e2, h2⟩ | ⟨e2, h2⟩
    · obtain ⟨ρ3, μ3, e3, h3⟩ := for_brk (xs := xs) (ρ := ρ2) (μ := μ2) I B (k + 1) h2 fun i y hy ρ μ hI => by
        have := hs (i + 1) y (by simpa using hy) ρ μ (by rw [show k + (i + 1) = k + 1 + i by omega]; exact hI)
        rw [show k + (i + 1) + 1 = k + 1 + i + 1 by omega] at this
        exact this
      refine ⟨ρ3, μ3, ?_, by rw [List.length_cons, show k + (xs.length + 1) = k + 1 + xs.length by omega]; exact h3⟩
      rw [forGo, e1]
      rcases e2 with e2 | e2 <;> (show (match body ρ' μ with | .nx ρ μ => _ | .cnt ρ μ => _ | .brk ρ μ => _ | o => o) = _; rw [e2]; exact e3)
    · refine ⟨ρ2, μ2, ?_, .inr h2⟩
      rw [forGo, e1]
      show (match body ρ' μ with | .nx ρ μ => _ | .cnt ρ μ => _ | .brk ρ μ => _ | o => o) = _
      rw [e2]
theorem for_ob {tg : D → Env → Option Env} {body : Env → Mu → Out} {xs : List D} {ρ : Env} {μ : Mu} {o : Out} (hf : forGo tg body xs ρ μ = o) (I : Nat → Env → Mu → Prop) (B : Env → Mu → Prop) (h0 : I 0 ρ μ)
    (hs : ∀ (i : Nat) x, xs[i]? = some x → ∀ ρ μ, I i ρ μ → ∃ ρ', tg x ρ = some ρ' ∧ ∃ ρ2 μ2, ((body ρ' μ = .nx ρ2 μ2 ∨ body ρ' μ = .cnt ρ2 μ2) ∧ I (i + 1) ρ2 μ2) ∨ (body ρ' μ = .brk ρ2 μ2 ∧ B ρ2 μ2)) : ∃ ρ' μ', o = .nx ρ' μ' ∧ (I xs.length ρ' μ' ∨ B ρ' μ') := by
  obtain ⟨ρ', μ', h1, h2⟩ := for_brk (xs := xs) I B 0 h0 fun i x hx ρ μ hI => by
    have := hs i x hx ρ μ (by simpa using hI)
    simpa using this
  exact ⟨ρ', μ', hf.symm.trans h1, by simpa using h2⟩
/-- a comprehension as it stands -/
theorem lc_o {g : I} {t : T} {cs : List E} {e : E} {own : List Nat} {ρ : Env} {μ : Mu} {r : Res A} (h : ev (.lc g t cs e own) ρ μ = r) {xs : List D} (p : D → Bool) (f : D → D) (hg : evI g ρ μ = .ok xs μ) (hl : xs.length ≤ SL)
    (hs : ∀ x ∈ xs, ∃ ρ', asg t x (wipeE ρ own) = some ρ' ∧ ∀ c, evC cs ρ' (μ ++ [c]) = .ok (p x) (μ ++ [c]) ∧ (p x = true → (ev e ρ' (μ ++ [c])).bind toV = .ok (f x) (μ ++ [c]))) :
    r = .ok (.v (.lst ((xs.filter p).map f))) μ := h.symm.trans (ev_lc p f hg hl hs)
theorem lc_o0 {g : I} {t : T} {e : E} {own : List Nat} {ρ : Env} {μ : Mu} {r : Res A} (h : ev (.lc g t [] e own) ρ μ = r) {xs : List D} (f : D → D) (hg : evI g ρ μ = .ok xs μ) (hl : xs.length ≤ SL)
    (hs : ∀ x ∈ xs, ∃ ρ', asg t x (wipeE ρ own) = some ρ' ∧ ∀ c, (ev e ρ' (μ ++ [c])).bind toV = .ok (f x) (μ ++ [c])) :
    r = .ok (.v (.lst (xs.map f))) μ := h.symm.trans (ev_lc0 f hg hl hs)
end Wp

set_option linter.all false
set_option maxRecDepth 100000
/-! P1: ranges, sameness, sizes. Plain Lean. -/
namespace Wp
theorem rngL_mem : ∀ {n : Nat} {lo : Int} {x : D}, x ∈ rngL lo n → ∃ i : Nat, i < n ∧ x = .int (lo + i)
  | 0, lo, x, h => by simp [rngL] at h
  | n + 1, lo, x, h => by
    rw [rngL, List.mem_cons] at h
    rcases h with rfl | h
    · exact ⟨0, by omega, by simp⟩
    · obtain ⟨i, h1, rfl⟩ := rngL_mem h
      exact ⟨i + 1, by omega, by congr 1; omega⟩
@[simp] theorem rngL_len : ∀ (n : Nat) (lo : Int), (rngL lo n).length = n
  | 0, _ => rfl
  | n + 1, lo => congrArg Nat.succ (rngL_len n (lo + 1))
theorem rngL_at : ∀ {n : Nat} {lo : Int} {i : Nat} {x : D}, (rngL lo n)[i]? = some x → i < n ∧ x = .int (lo + i)
  | 0, lo, i, x, h => by simp [rngL] at h
  | n + 1, lo, 0, x, h => by
    simp [rngL] at h
    subst h
    exact ⟨by omega, by simp⟩
  | n + 1, lo, i + 1, x, h => by
    rw [rngL, List.getElem?_cons_succ] at h
    obtain ⟨h1, rfl⟩ := rngL_at h
    exact ⟨by omega, by congr 1; omega⟩
theorem rngL_eq (n : Nat) : rngL 0 n = (List.range n).map fun i => D.int ((i : Nat) : Int) := by
  apply List.ext_getElem?
  intro i
  by_cases h : i < n
  · obtain ⟨x, hx⟩ : ∃ x, (rngL 0 n)[i]? = some x := ⟨_, List.getElem?_eq_getElem (by rw [rngL_len]; exact h)⟩
    rw [hx, (rngL_at hx).2]
    simp [h]
  · rw [List.getElem?_eq_none (by rw [rngL_len]; omega), List.getElem?_eq_none (by simp; omega)]
theorem p62 : (2 : Int) ^ 62 = 4611686018427387904 := by decide
theorem p63 : (2 : Int) ^ 63 = 9223372036854775808 := by decide
theorem lim {n : Int} (h : -1000000 ≤ n) (h' : n ≤ 1000000) : -(2 ^ 62) ≤ n ∧ n < 2 ^ 62 := by rw [p62]; omega
theorem rngOf_int (n : Int) (h : -1000000 ≤ n) (h' : n ≤ 1000000) : rngOf [.int n] = some (rngL 0 n.toNat) := by
  rw [rngOf.eq_1, if_pos (lim h h')]
theorem rngOf_nat (n : Nat) (h : n ≤ 1000000) : rngOf [.int n] = some (rngL 0 n) := rngOf_int n (by omega) (by omega)
theorem rngOf_two (a b : Int) (h : -1000000 ≤ a) (h' : a ≤ 1000000) (k : -1000000 ≤ b) (k' : b ≤ 1000000) : rngOf [.int a, .int b] = some (rngL a (b - a).toNat) := by
  rw [rngOf.eq_2, if_pos ⟨(lim h h').1, (lim h h').2, (lim k k').1, (lim k k').2⟩]
@[simp] theorem enumL_len : ∀ (l : List D) (i : Nat), (enumL i l).length = l.length
  | [], _ => rfl
  | x :: l, i => congrArg Nat.succ (enumL_len l (i + 1))
theorem enumL_at : ∀ {l : List D} {j i : Nat} {x : D}, (enumL j l)[i]? = some x → ∃ y, l[i]? = some y ∧ x = .tup [.int ((j + i : Nat) : Int), y]
  | [], j, i, x, h => by simp [enumL] at h
  | y :: l, j, 0, x, h => by
    simp [enumL] at h
    exact ⟨y, rfl, by rw [← h]; rfl⟩
  | y :: l, j, i + 1, x, h => by
    rw [enumL, List.getElem?_cons_succ] at h
    obtain ⟨z, h1, rfl⟩ := enumL_at h
    exact ⟨z, by simpa using h1, by rw [show j + 1 + i = j + (i + 1) by omega]⟩
theorem enumL_map : ∀ (l : List D) (j : Nat) (f : Nat → D → D), (enumL j l).map (fun x => match x with | .tup [.int i, y] => f i.toNat y | _ => .non) = (List.range' j l.length).zipWith f l
  | [], j, f => rfl
  | x :: l, j, f => by
    rw [enumL, List.map_cons, enumL_map l (j + 1) f, List.length_cons, List.range'_succ, List.zipWith_cons_cons]
    simp
theorem SL_eq : SL = 16777216 := rfl
theorem blsOf_true : ∀ l : List D, blsOf (l.map fun _ => D.bl true) = some (l.map fun _ => true)
  | [] => rfl
  | x :: l => by rw [List.map_cons, blsOf, blsOf_true l]; rfl
theorem blsOf_map {α : Type} : ∀ (l : List α) (f : α → Bool), blsOf (l.map fun x => D.bl (f x)) = some (l.map f)
  | [], _ => rfl
  | x :: l, f => by rw [List.map_cons, blsOf, blsOf_map l f]; rfl
theorem all_true (l : List D) : (l.map fun _ => true).all id = true := by simp
theorem okD_bl (b : Bool) : okD (.bl b) = true := by simp [okD, D.okN]
theorem eqv_bl (a b : Bool) : D.eqv (.bl a) (.bl b) = (a == b) := by simp [D.eqv]
mutual
theorem eqv_self : ∀ (n : Nat) (d : D), D.okN n d = true → D.eqv d d = true
  | n, .non, _ => by simp [D.eqv]
  | n, .bl _, _ => by simp [D.eqv]
  | n, .int _, _ => by simp [D.eqv]
  | n, .str _, _ => by simp [D.eqv]
  | 0, .tup _, h => by simp [D.okN] at h
  | 0, .lst _, h => by simp [D.okN] at h
  | n + 1, .tup xs, h => by rw [D.eqv]; exact eqvs_self n xs (by simpa [D.okN] using h)
  | n + 1, .lst xs, h => by rw [D.eqv]; exact eqvs_self n xs (by simpa [D.okN] using h)
  | 0, .fn _, h => by simp [D.okN] at h
  | n + 1, .fn _, h => by simp [D.okN] at h
  | 0, .exc _ _, h => by simp [D.okN] at h
  | n + 1, .exc _ _, h => by simp [D.okN] at h
  | 0, .frz _, h => by simp [D.okN] at h
  | n + 1, .frz _, h => by simp [D.okN] at h
theorem eqvs_self : ∀ (n : Nat) (ds : List D), D.okNs n ds = true → D.eqvs ds ds = true
  | n, [], _ => by simp [D.eqvs]
  | n, x :: ds, h => by
    rw [D.okNs, Bool.and_eq_true] at h
    rw [D.eqvs, eqv_self n x h.1, eqvs_self n ds h.2]; rfl
end
/-- the law's own comparison -/
def Dsame (F : Fn) : Df := ⟨3, 0, [(.ife (.prim .isN [(.var 1)]) [(.ret (.prim .isN [(.var 0)]))] []),
  (.ife (.prim (.isinst [.bool, .str]) [(.var 1)]) [(.ret (.and (.prim .eq [(.prim (.isinst [.bool]) [(.var 0)]), (.prim (.isinst [.bool]) [(.var 1)])]) (.and (.prim (.isinst [.bool, .str]) [(.var 0)]) (.prim .eq [(.var 0), (.var 1)]))))] []),
  (.ife (.prim (.isinst [.int]) [(.var 1)]) [(.ret (.and (.prim (.isinst [.int]) [(.var 0)]) (.and (.prim .not [(.prim (.isinst [.bool]) [(.var 0)])]) (.prim .eq [(.var 0), (.var 1)]))))] []),
  (.ife (.or (.prim .ne [(.prim (.isinst [.list]) [(.var 1)]), (.prim (.isinst [.list]) [(.var 0)])]) (.prim .ne [(.prim (.isinst [.tuple]) [(.var 1)]), (.prim (.isinst [.tuple]) [(.var 0)])])) [(.ret (.k (.bl false)))] []),
  (.ret (.and (.prim .eq [(.prim .len [(.var 0)]), (.prim .len [(.var 1)])]) (.prim .all [(.lc (.rng [(.prim .len [(.var 1)])]) (.n 2) [] (.call "_law_same" F [(.prim .idx [(.var 0), (.var 2)]), (.prim .idx [(.var 1), (.var 2)])]) [2])])))]⟩
def Gsame : Nat → Fn
  | 0 => fun _ _ => .no
  | k + 1 => (Dsame (Gsame k)).run
mutual
/-- data that the comparison walks, at most n deep -/
def D.plN : Nat → D → Bool
  | _, .non => true
  | _, .bl _ => true
  | _, .int _ => true
  | _, .str _ => true
  | 0, .tup _ => false
  | 0, .lst _ => false
  | n + 1, .tup xs => decide (xs.length ≤ 1000000) && D.plNs n xs
  | n + 1, .lst xs => decide (xs.length ≤ 1000000) && D.plNs n xs
  | _, .fn _ => false
  | _, .exc _ _ => false
  | _, .frz _ => false
def D.plNs : Nat → List D → Bool
  | _, [] => true
  | n, x :: xs => D.plN n x && D.plNs n xs
end
theorem plNs_all : ∀ {n : Nat} {ds : List D}, (∀ d ∈ ds, D.plN n d = true) → D.plNs n ds = true
  | n, [], _ => by rw [D.plNs]
  | n, x :: ds, h => by
    rw [D.plNs, h x List.mem_cons_self, plNs_all fun d hd => h d (List.mem_cons_of_mem _ hd)]; rfl
theorem plNs_get : ∀ {n : Nat} {ds : List D} {d : D}, D.plNs n ds = true → d ∈ ds → D.plN n d = true
  | n, [], d, _, h => by simp at h
  | n, x :: ds, d, e, h => by
    rw [D.plNs, Bool.and_eq_true] at e
    rcases List.mem_cons.mp h with rfl | h
    · exact e.1
    · exact plNs_get e.2 h
end Wp

set_option linter.all false
set_option maxRecDepth 100000
namespace Wp
theorem same_seq {K : Nat} {d : D} {xs : List D} {μ : Mu} (hd : d = .tup xs ∨ d = .lst xs) (hl : xs.length ≤ 1000000) (hs : ∀ x ∈ xs, ∀ μ, Gsame K [.v x, .v x] μ = .ok (.bl true) μ) :
    ev (.lc (.rng [(.prim .len [(.var 1)])]) (.n 2) [] (.call "_law_same" (Gsame K) [(.prim .idx [(.var 0), (.var 2)]), (.prim .idx [(.var 1), (.var 2)])]) [2]) [some (.v d), some (.v d), none] μ = .ok (.v (.lst ((rngL 0 xs.length).map fun _ => D.bl true))) μ := by
  refine ev_lc0 (fun _ => D.bl true) ?_ (by rw [rngL_len, SL_eq]; omega) fun x hx => ?_
  · rcases hd with rfl | rfl <;> simp -implicitDefEqProofs [rngOf_nat _ hl]
  obtain ⟨i, hi, rfl⟩ := rngL_mem hx
  refine ⟨[some (.v d), some (.v d), some (.v (.int i))], by simp, fun c => ?_⟩
  have hc := hs xs[i] (List.getElem_mem hi) (μ ++ [c])
  rcases hd with rfl | rfl <;> simp [hi, hc]
theorem s_same : ∀ (k K : Nat) (d : D), D.plN k d = true → k < K → ∀ μ, Gsame K [.v d, .v d] μ = .ok (.bl true) μ := by
  intro k
  induction k with
  | zero =>
    intro K d h hk μ
    obtain ⟨K, rfl⟩ : ∃ j, K = j + 1 := ⟨K - 1, by omega⟩
    rw [Gsame]
    cases d <;> first
      | (simp [D.plN] at h; done)
      | (refine run_of ?_; simp [Dsame, isTy])
  | succ k ih =>
    intro K d h hk μ
    obtain ⟨K, rfl⟩ : ∃ j, K = j + 1 := ⟨K - 1, by omega⟩
    have seq : ∀ xs, (d = .tup xs ∨ d = .lst xs) → xs.length ≤ 1000000 → D.plNs k xs = true → Gsame (K + 1) [.v d, .v d] μ = .ok (.bl true) μ := by
      intro xs hd hl hp
      have hall := same_seq (K := K) (μ := μ) hd hl fun x hx μ => ih K x (plNs_get hp hx) (by omega) μ
      have hb := blsOf_true (rngL 0 xs.length)
      rw [Gsame]
      refine run_of ?_
      rcases hd with rfl | rfl <;> simp [Dsame, isTy, hall, hb]
    cases d with
    | tup xs =>
      simp only [D.plN, Bool.and_eq_true, decide_eq_true_eq] at h
      exact seq xs (.inl rfl) h.1 h.2
    | lst xs =>
      simp only [D.plN, Bool.and_eq_true, decide_eq_true_eq] at h
      exact seq xs (.inr rfl) h.1 h.2
    | _ => first
      | (simp [D.plN] at h; done)
      | (rw [Gsame]; refine run_of ?_; simp [Dsame, isTy])
end Wp

set_option linter.all false
set_option maxRecDepth 100000
/-! P2: slices, dicts, last parts. Plain Lean. -/
namespace Wp
theorem sIx_n (n d k : Nat) : sIx n d (some (k : Int)) = min k n := by
  show (if (k : Int) < 0 then ((k : Int) + n).toNat else min (k : Int).toNat n) = _
  rw [if_neg (by omega), Int.toNat_natCast]
theorem sIx_m1 (n d : Nat) : sIx n d (some (-1)) = n - 1 := by
  show (if (-1 : Int) < 0 then ((-1 : Int) + n).toNat else min (-1 : Int).toNat n) = _
  rw [if_pos (by omega)]; omega
theorem sIx_no (n d : Nat) : sIx n d none = d := rfl
@[simp] theorem cut_hi {α : Type} (xs : List α) (k : Nat) : cut xs none (some (k : Int)) = xs.take k := by
  unfold cut
  rw [sIx_n, sIx_no, List.drop_zero, Nat.sub_zero]
  by_cases h : k ≤ xs.length
  · rw [Nat.min_eq_left h]
  · rw [Nat.min_eq_right (by omega), List.take_length, List.take_of_length_le (by omega)]
@[simp] theorem cut_lo {α : Type} (xs : List α) (k : Nat) : cut xs (some (k : Int)) none = xs.drop k := by
  unfold cut
  rw [sIx_n, sIx_no]
  by_cases h : k ≤ xs.length
  · rw [Nat.min_eq_left h, List.take_of_length_le (by rw [List.length_drop]; omega)]
  · rw [Nat.min_eq_right (by omega), List.drop_length, List.drop_of_length_le (by omega)]; simp
@[simp] theorem cut_lohi {α : Type} (xs : List α) (a b : Nat) : cut xs (some (a : Int)) (some (b : Int)) = (xs.drop a).take (b - a) := by
  unfold cut
  rw [sIx_n, sIx_n]
  by_cases h : a ≤ xs.length
  · rw [Nat.min_eq_left h]
    by_cases h2 : b ≤ xs.length
    · rw [Nat.min_eq_left h2]
    · rw [Nat.min_eq_right (by omega), List.take_of_length_le (by rw [List.length_drop]; omega), List.take_of_length_le (by rw [List.length_drop]; omega)]
  · rw [List.drop_of_length_le (show xs.length ≤ min a xs.length by omega), List.drop_of_length_le (show xs.length ≤ a by omega)]; simp
@[simp] theorem cut_hi1 {α : Type} (xs : List α) (k : Nat) : cut xs none (some ((k : Int) + 1)) = xs.take (k + 1) := cut_hi xs (k + 1)
@[simp] theorem cut_lo1 {α : Type} (xs : List α) (k : Nat) : cut xs (some ((k : Int) + 1)) none = xs.drop (k + 1) := cut_lo xs (k + 1)
@[simp] theorem cut_hi_one {α : Type} (xs : List α) : cut xs none (some 1) = xs.take 1 := cut_hi xs 1
@[simp] theorem cut_lo_one {α : Type} (xs : List α) : cut xs (some 1) none = xs.drop 1 := cut_lo xs 1
theorem cut_hi_n1 {α : Type} (xs : List α) : cut xs none (some (-1)) = xs.dropLast := by
  unfold cut
  rw [sIx_m1, sIx_no, List.dropLast_eq_take]; simp
theorem cut_lo_n1 {α : Type} (xs : List α) : cut xs (some (-1)) none = xs.drop (xs.length - 1) := by
  unfold cut
  rw [sIx_m1, sIx_no]
  exact List.take_of_length_le (by rw [List.length_drop]; omega)
theorem at_n1 {α : Type} (l : List α) : atI l (-1) = l.getLast? := by
  unfold atI ixN
  rw [if_neg (by omega), List.getLast?_eq_getElem?]
  by_cases h : l = []
  · subst h; simp
  · have := List.length_pos_iff.mpr h
    rw [if_pos (by omega)]
    simp only [Option.bind_some]
    congr 1; omega
theorem at_zero {α : Type} (l : List α) : atI l 0 = l[0]? := atN l 0
theorem dLook_find (k : D) : ∀ l : List (D × D), dLook k l = (l.find? (fun p => D.eqv p.1 k)).map (·.2)
  | [] => rfl
  | (x, y) :: l => by
    rw [dLook, List.find?_cons]
    by_cases h : D.eqv x k = true
    · rw [if_pos h]; simp [h]
    · rw [if_neg h, dLook_find k l]; simp [h]
theorem okNs_map {α : Type} {n : Nat} {f : α → D} : ∀ {l : List α}, (∀ a ∈ l, D.okN n (f a) = true) → D.okNs n (l.map f) = true
  | [], _ => by rw [List.map_nil, D.okNs]
  | a :: l, h => by
    rw [List.map_cons, D.okNs, h a List.mem_cons_self, okNs_map fun b hb => h b (List.mem_cons_of_mem _ hb)]; rfl
@[simp] theorem okD_ints (l : List Int) : okD (.tup (l.map D.int)) = true := by
  unfold okD; rw [D.okN]; exact okNs_map fun a _ => by rw [D.okN]
@[simp] theorem okD_nil : okD (.tup []) = true := by unfold okD; rw [D.okN, D.okNs]
theorem eqvs_nil (l : List D) : D.eqvs l [] = l.isEmpty := by cases l <;> simp [D.eqvs]
theorem eqv_int' (i j : Int) : D.eqv (.int i) (.int j) = decide (i = j) := eqv_int i j
theorem php : ∀ (q : Nat) (f : Nat → Nat), (∀ i, i ≤ q → f i < q) → ∃ a b, a < b ∧ b ≤ q ∧ f a = f b
  | 0, f, h => absurd (h 0 (Nat.le_refl 0)) (by omega)
  | q + 1, f, h => by
    by_cases hx : ∃ i, i ≤ q ∧ f i = f (q + 1)
    · obtain ⟨i, h1, h2⟩ := hx
      exact ⟨i, q + 1, by omega, by omega, h2⟩
    · have hne : ∀ i, i ≤ q → f i ≠ f (q + 1) := fun i h1 h2 => hx ⟨i, h1, h2⟩
      have hq := h (q + 1) (Nat.le_refl _)
      obtain ⟨a, b, h1, h2, h3⟩ := php q (fun i => if f (q + 1) < f i then f i - 1 else f i) fun i hi => by
        have := h i (by omega)
        have := hne i hi
        show (if f (q + 1) < f i then f i - 1 else f i) < q
        split <;> omega
      refine ⟨a, b, h1, by omega, ?_⟩
      have ha := hne a (by omega)
      have hb := hne b h2
      have h3 : (if f (q + 1) < f a then f a - 1 else f a) = (if f (q + 1) < f b then f b - 1 else f b) := h3
      split at h3 <;> split at h3 <;> omega
theorem findD_at {d y : D} : ∀ {l : List D} {i t : Nat}, l[t]? = some y → D.eqv y d = true → (∀ s, s < t → ∀ z, l[s]? = some z → D.eqv z d = false) → findD d i l = some (i + t)
  | [], i, t, h, _, _ => by simp at h
  | x :: l, i, 0, h, e, _ => by
    simp at h; subst h
    rw [findD, if_pos e]; rfl
  | x :: l, i, t + 1, h, e, hs => by
    have := hs 0 (by omega) x rfl
    rw [findD, if_neg (by rw [this]; simp), findD_at (i := i + 1) (t := t) (by simpa using h) e fun s h1 z h2 => hs (s + 1) (by omega) z (by simpa using h2)]
    congr 1; omega
end Wp

set_option linter.all false
set_option maxRecDepth 100000
namespace Mw
open Wp Lw
/-- a fraction as the program has it -/
def fr (r : Rat) : D := .tup [.int r.num, .int (r.den : Int)]
theorem log_of {n k : Nat} (h : n < 2 ^ k) (hk : 0 < k) : n.log2 < k := by
  by_cases hn : n = 0
  · subst hn; simpa using hk
  · exact (Nat.log2_lt hn).mpr h
theorem divOk_of {b : Int} (h0 : b ≠ 0) (h : b.natAbs < 2 ^ 9000) : divOk b = true := by
  unfold divOk
  rw [Bool.and_eq_true, decide_eq_true_eq, decide_eq_true_eq]
  exact ⟨h0, log_of h (by omega)⟩
theorem mulOk_of {a b : Int} (k l : Nat) (h : a.natAbs < 2 ^ k) (h' : b.natAbs < 2 ^ l) (hk : 0 < k) (hl : 0 < l) (hkl : k + l < 1000000) : mulOk a b = true := by
  unfold mulOk
  rw [decide_eq_true_eq]
  have := log_of h hk
  have := log_of h' hl
  omega
theorem bind_ok {α β : Type} (a : α) (μ : Mu) (k : α → Mu → Res β) : (Res.ok a μ).bind k = k a μ := rfl
theorem st_ok {α : Type} (a : α) (μ : Mu) (ρ : Env) (k : α → Mu → Out) : (Res.ok a μ).st ρ k = k a μ := rfl
theorem seq_nx (ρ : Env) (μ : Mu) (k : Env → Mu → Out) : (Out.nx ρ μ).seq k = k ρ μ := rfl
theorem seq_ret (d : D) (μ : Mu) (k : Env → Mu → Out) : (Out.ret d μ).seq k = .ret d μ := rfl
theorem seq_brk (ρ : Env) (μ : Mu) (k : Env → Mu → Out) : (Out.brk ρ μ).seq k = .brk ρ μ := rfl
theorem seq_cnt (ρ : Env) (μ : Mu) (k : Env → Mu → Out) : (Out.cnt ρ μ).seq k = .cnt ρ μ := rfl
theorem optR_some {α : Type} (a : α) (μ : Mu) : optR (some a) μ = .ok a μ := rfl
theorem gcd_ok {p q : Int} (hq : q ≠ 0) (hs : q.natAbs < 2 ^ 9000) : divOk (Nat.gcd p.natAbs q.natAbs : Nat) = true ∧ divOk (-(Nat.gcd p.natAbs q.natAbs : Nat)) = true := by
  have h0 : Nat.gcd p.natAbs q.natAbs ≠ 0 := by
    intro h
    have := Nat.eq_zero_of_gcd_eq_zero_right h
    omega
  have h1 : Nat.gcd p.natAbs q.natAbs ≤ q.natAbs := Nat.gcd_le_right _ (by omega)
  exact ⟨divOk_of (by omega) (by rw [Int.natAbs_natCast]; omega), divOk_of (by omega) (by rw [Int.natAbs_neg, Int.natAbs_natCast]; omega)⟩
theorem fdiv_ex {g k : Int} (hg : g ≠ 0) : (g * k).fdiv g = k := Int.mul_fdiv_cancel_left k hg
theorem fdiv_exn {g k : Int} (hg : g ≠ 0) : (g * k).fdiv (-g) = -k := by
  have e : g * k = (-g) * (-k) := by grind
  rw [e]
  exact Int.mul_fdiv_cancel_left _ (by omega)
/-- the fraction p / q by its greatest common divisor -/
theorem low_eq (p q : Int) (hq : q ≠ 0) : ∃ k l : Int, p = ((Nat.gcd p.natAbs q.natAbs : Nat) : Int) * k ∧ q = ((Nat.gcd p.natAbs q.natAbs : Nat) : Int) * l ∧ fr (Rat.divInt p q) = (if q < 0 then .tup [.int (-k), .int (-l)] else .tup [.int k, .int l]) := by
  obtain ⟨k, hk⟩ : ((Nat.gcd p.natAbs q.natAbs : Nat) : Int) ∣ p := Int.ofNat_dvd_left.2 (Nat.gcd_dvd_left _ _)
  obtain ⟨l, hl⟩ : ((Nat.gcd p.natAbs q.natAbs : Nat) : Int) ∣ q := Int.ofNat_dvd_left.2 (Nat.gcd_dvd_right _ _)
  refine ⟨k, l, hk, hl, ?_⟩
  have hg : q.gcd p = Nat.gcd p.natAbs q.natAbs := by rw [Int.gcd]; exact Nat.gcd_comm _ _
  unfold fr
  rw [Rat.num_divInt, Rat.den_divInt, if_neg hq, hg]
  have g0 : Nat.gcd p.natAbs q.natAbs ≠ 0 := by
    intro h
    have := Nat.eq_zero_of_gcd_eq_zero_right h
    omega
  generalize Nat.gcd p.natAbs q.natAbs = g at *
  have e1 : ((q.natAbs / g : Nat) : Int) = l.natAbs := by
    rw [hl, Int.natAbs_mul, Int.natAbs_natCast, Nat.mul_div_cancel_left _ (Nat.pos_of_ne_zero g0)]
  rw [e1]
  have gp : 0 < (g : Int) := by omega
  by_cases h : q < 0
  · have hl0 : l < 0 := by
      by_cases z : l < 0
      · exact z
      · have : 0 ≤ (g : Int) * l := Int.mul_nonneg (by omega) (by omega)
        omega
    rw [if_pos h, Int.sign_eq_neg_one_of_neg h]
    have e2 : -1 * p / (g : Int) = -k := by
      rw [hk]
      have : -1 * ((g : Int) * k) = (g : Int) * (-k) := by grind
      rw [this]
      exact Int.mul_ediv_cancel_left _ (by omega)
    rw [e2]
    congr 4
    omega
  · have hl0 : 0 < l := by
      by_cases z : 0 < l
      · exact z
      · have : 0 ≤ (g : Int) * (-l) := Int.mul_nonneg (by omega) (by omega)
        have : (g : Int) * (-l) = -((g : Int) * l) := by grind
        omega
    rw [if_neg h, Int.sign_eq_one_of_pos (by omega)]
    have e2 : 1 * p / (g : Int) = k := by
      rw [hk, Int.one_mul]
      exact Int.mul_ediv_cancel_left _ (by omega)
    rw [e2]
    congr 4
    omega
theorem s_lowest (p q : Int) (hq : q ≠ 0) (hs : q.natAbs < 2 ^ 9000) (μ : Mu) : F_lowest [.v (.int p), .v (.int q)] μ = .ok (fr (Rat.divInt p q)) μ := by
  obtain ⟨h1, h2⟩ := gcd_ok (p := p) hq hs
  obtain ⟨k, l, hk, hl, e⟩ := low_eq p q hq
  have g0 : ((Nat.gcd p.natAbs q.natAbs : Nat) : Int) ≠ 0 := by
    intro h
    have := Nat.eq_zero_of_gcd_eq_zero_right (Int.ofNat.inj h)
    omega
  have f1 := fdiv_ex (k := k) g0
  have f2 := fdiv_ex (k := l) g0
  have f3 := fdiv_exn (k := k) g0
  have f4 := fdiv_exn (k := l) g0
  rw [← hk] at f1 f3
  rw [← hl] at f2 f4
  rw [e]
  by_cases h : q < 0
  · simp [F_lowest, D_lowest, Df.run, exs, ex, ev, evs, evT, bind_ok, st_ok, seq_nx, seq_ret, optR_some, vals, dr, drs, P.f, P.f1, P.f2, asg, tru, h, h1, h2, f3, f4]
  · simp [F_lowest, D_lowest, Df.run, exs, ex, ev, evs, evT, bind_ok, st_ok, seq_nx, seq_ret, optR_some, vals, dr, drs, P.f, P.f1, P.f2, asg, tru, h, h1, h2, f1, f2]
end Mw

set_option linter.all false
set_option maxRecDepth 100000
namespace Mw
open Wp Lw
/-- a number of small size -/
def Sm (r : Rat) : Prop := ∃ k, k ≤ 4000 ∧ r.num.natAbs < 2 ^ k ∧ r.den < 2 ^ k
theorem lt_mul {a b : Nat} {k l m : Nat} (h : a < 2 ^ k) (h' : b < 2 ^ l) (hm : k + l ≤ m) : a * b < 2 ^ m := by
  have h1 : a * b < 2 ^ k * 2 ^ l := Nat.mul_lt_mul'' h h'
  have h2 : 2 ^ (k + l) ≤ 2 ^ m := Nat.pow_le_pow_right (by omega) hm
  rw [Nat.pow_add] at h2
  omega
theorem lt_up {a k m : Nat} (h : a < 2 ^ k) (hm : k ≤ m) : a < 2 ^ m := Nat.lt_of_lt_of_le h (Nat.pow_le_pow_right (by omega) hm)
theorem mul4 {a b : Int} (k l : Nat) (h : a.natAbs < 2 ^ k) (h' : b.natAbs < 2 ^ l) (hk : k ≤ 9000) (hl : l ≤ 9000) : mulOk a b = true :=
  mulOk_of (k + 1) (l + 1) (lt_up h (by omega)) (lt_up h' (by omega)) (by omega) (by omega) (by omega)
theorem fr_ (r : Rat) : fr r = .tup [.int r.num, .int (r.den : Int)] := rfl
theorem den_ne (r : Rat) : ((r.den : Nat) : Int) ≠ 0 := by have := r.den_nz; omega
theorem den_mul_ne (r s : Rat) : ((r.den : Nat) : Int) * (s.den : Int) ≠ 0 := Int.mul_ne_zero (den_ne r) (den_ne s)
theorem divInt_add (a b : Rat) : Rat.divInt (a.num * b.den + b.num * a.den) (a.den * b.den) = a + b := by
  rw [Rat.add_def', ← Int.natCast_mul, Rat.divInt_ofNat]
theorem divInt_mul (a b : Rat) : Rat.divInt (a.num * b.num) (a.den * b.den) = a * b := by
  rw [Rat.mul_def', ← Int.natCast_mul, Rat.divInt_ofNat]
theorem divInt_div (a b : Rat) (hb : b ≠ 0) : Rat.divInt (a.num * b.den) (a.den * b.num) = a / b := by
  rw [Rat.div_def, Rat.inv_def]
  conv => rhs; rw [← Rat.num_divInt_den a]
  rw [Rat.divInt_mul_divInt]
theorem s_sum_of_two (a b : Rat) (ha : Sm a) (hb : Sm b) (μ : Mu) : F_sum_of_two [.v (fr a), .v (fr b)] μ = .ok (fr (a + b)) μ := by
  obtain ⟨k, hk, a1, a2⟩ := ha
  obtain ⟨l, hl, b1, b2⟩ := hb
  have m1 : mulOk a.num b.den = true := mul4 k l a1 (by rw [Int.natAbs_natCast]; exact b2) (by omega) (by omega)
  have m2 : mulOk b.num a.den = true := mul4 l k b1 (by rw [Int.natAbs_natCast]; exact a2) (by omega) (by omega)
  have m3 : mulOk a.den b.den = true := mul4 k l (by rw [Int.natAbs_natCast]; exact a2) (by rw [Int.natAbs_natCast]; exact b2) (by omega) (by omega)
  have e := s_lowest (a.num * b.den + b.num * a.den) (a.den * b.den) (den_mul_ne a b) (by rw [Int.natAbs_mul, Int.natAbs_natCast, Int.natAbs_natCast]; exact lt_mul a2 b2 (by omega)) μ
  rw [divInt_add] at e
  refine run_of ?_
  simp -implicitDefEqProofs [D_sum_of_two, fr_, m1, m2, m3, e]
theorem s_product (a b : Rat) (ha : Sm a) (hb : Sm b) (μ : Mu) : F_product [.v (fr a), .v (fr b)] μ = .ok (fr (a * b)) μ := by
  obtain ⟨k, hk, a1, a2⟩ := ha
  obtain ⟨l, hl, b1, b2⟩ := hb
  have m1 : mulOk a.num b.num = true := mul4 k l a1 b1 (by omega) (by omega)
  have m3 : mulOk a.den b.den = true := mul4 k l (by rw [Int.natAbs_natCast]; exact a2) (by rw [Int.natAbs_natCast]; exact b2) (by omega) (by omega)
  have e := s_lowest (a.num * b.num) (a.den * b.den) (den_mul_ne a b) (by rw [Int.natAbs_mul, Int.natAbs_natCast, Int.natAbs_natCast]; exact lt_mul a2 b2 (by omega)) μ
  rw [divInt_mul] at e
  refine run_of ?_
  simp -implicitDefEqProofs [D_product, fr_, m1, m3, e]
theorem s_quotient (a b : Rat) (ha : Sm a) (hb : Sm b) (h0 : b ≠ 0) (μ : Mu) : F_quotient [.v (fr a), .v (fr b)] μ = .ok (fr (a / b)) μ := by
  obtain ⟨k, hk, a1, a2⟩ := ha
  obtain ⟨l, hl, b1, b2⟩ := hb
  have m1 : mulOk a.num b.den = true := mul4 k l a1 (by rw [Int.natAbs_natCast]; exact b2) (by omega) (by omega)
  have m3 : mulOk a.den b.num = true := mul4 k l (by rw [Int.natAbs_natCast]; exact a2) b1 (by omega) (by omega)
  have hz : b.num ≠ 0 := fun h => h0 (Rat.num_eq_zero.mp h)
  have e := s_lowest (a.num * b.den) (a.den * b.num) (Int.mul_ne_zero (den_ne a) hz) (by rw [Int.natAbs_mul, Int.natAbs_natCast]; exact lt_mul a2 b1 (by omega)) μ
  rw [divInt_div a b h0] at e
  refine run_of ?_
  simp -implicitDefEqProofs [D_quotient, fr_, m1, m3, e]
theorem s_is_less (a b : Rat) (ha : Sm a) (hb : Sm b) (μ : Mu) : F_is_less [.v (fr a), .v (fr b)] μ = .ok (.bl (decide (a < b))) μ := by
  obtain ⟨k, hk, a1, a2⟩ := ha
  obtain ⟨l, hl, b1, b2⟩ := hb
  have m1 : mulOk a.num b.den = true := mul4 k l a1 (by rw [Int.natAbs_natCast]; exact b2) (by omega) (by omega)
  have m2 : mulOk b.num a.den = true := mul4 l k b1 (by rw [Int.natAbs_natCast]; exact a2) (by omega) (by omega)
  refine run_of ?_
  simp -implicitDefEqProofs [D_is_less, fr_, m1, m2, Rat.lt_iff]
theorem s_whole (a : Int) (μ : Mu) : F_whole [.v (.int a)] μ = .ok (fr (a : Rat)) μ := by
  refine run_of ?_
  simp -implicitDefEqProofs [D_whole, fr_]
/-- 2 to a power -/
theorem s_power (n : Nat) (hn : n ≤ 2000) (μ : Mu) : F_power [.v (.int 2), .v (.int n)] μ = .ok (.int (2 ^ n)) μ := by
  refine run_of ?_
  simp -implicitDefEqProofs [D_power, rngOf_nat n (by omega)]
  generalize hf : forGo _ _ _ _ _ = o
  obtain ⟨ρ', μ', rfl, hI⟩ := for_o hf (fun k ρ μ' => μ' = μ ∧ ∃ x, ρ = [some (.v (.int 2)), some (.v (.int n)), some (.v (.int (2 ^ k))), x]) ⟨rfl, none, by simp⟩ (by
    rintro i x hx ρ μ' ⟨rfl, y, rfl⟩
    have hi := (rngL_at hx).1
    have m : mulOk (2 ^ i) 2 = true := mul4 (i + 1) 2 (by rw [Int.natAbs_pow]; exact Nat.pow_lt_pow_right (by decide) (by omega)) (by decide) (by omega) (by omega)
    refine ⟨_, by simp; rfl, ?_⟩
    simp -implicitDefEqProofs [m]
    exact ⟨_, _, ⟨rfl, rfl⟩, rfl, some (.v x), by simp [Int.pow_succ]⟩)
  obtain ⟨rfl, x, rfl⟩ := hI
  simp -implicitDefEqProofs
end Mw

set_option linter.all false
set_option maxRecDepth 100000
namespace Mw
open Wp Lw
theorem n_fmod (a b : Nat) : ((a : Nat) : Int).fmod ((b : Nat) : Int) = ((a % b : Nat) : Int) := by
  rw [Int.fmod_eq_emod_of_nonneg _ (by omega)]; rfl
theorem n_fdiv (a b : Nat) : ((a : Nat) : Int).fdiv ((b : Nat) : Int) = ((a / b : Nat) : Int) := by
  rw [Int.fdiv_eq_ediv_of_nonneg _ (by omega)]; rfl
theorem abs_nat (a : Int) : (if a < 0 then -a else a) = ((a.natAbs : Nat) : Int) := by omega
theorem euclid_step {a b K i : Nat} (hb : b < a) (hp : a * b * 2 ^ i ≤ 2 ^ K) (h0 : b ≠ 0) : b * (a % b) * 2 ^ (i + 1) ≤ 2 ^ K := by
  have h1 : a % b < b := Nat.mod_lt _ (by omega)
  have h2 : b * (a / b) + a % b = a := Nat.div_add_mod a b
  have h3 : 1 ≤ a / b := (Nat.le_div_iff_mul_le (by omega)).mpr (by omega)
  have h4 : b * 1 ≤ b * (a / b) := Nat.mul_le_mul_left _ h3
  have h5 : 2 * (a % b) ≤ a := by omega
  have h6 : b * (2 * (a % b)) ≤ b * a := Nat.mul_le_mul_left _ h5
  have h7 : b * (2 * (a % b)) * 2 ^ i ≤ b * a * 2 ^ i := Nat.mul_le_mul_right _ h6
  have e : b * (a % b) * 2 ^ (i + 1) = b * (2 * (a % b)) * 2 ^ i := by rw [Nat.pow_succ]; grind
  have e2 : b * a * 2 ^ i = a * b * 2 ^ i := by rw [Nat.mul_comm b a]
  omega
theorem s_divisor (p q : Int) (K : Nat) (hK : K ≤ 19000) (hs : p.natAbs * q.natAbs ≤ 2 ^ K) (μ : Mu) : F__law_divisor [.v (.int p), .v (.int q)] μ = .ok (.int (Nat.gcd p.natAbs q.natAbs : Nat)) μ := by
  refine run_of ?_
  simp -implicitDefEqProofs [D__law_divisor, abs_nat, rngOf_int]
  generalize hf : forGo _ _ _ _ _ = o
  obtain ⟨ρ', μ', rfl, hI⟩ := for_ob hf (fun k ρ μ' => μ' = μ ∧ ∃ (a b : Nat) (x : Option A), ρ = [some (.v (.int p)), some (.v (.int q)), some (.v (.int a)), some (.v (.int b)), x] ∧ Nat.gcd a b = Nat.gcd p.natAbs q.natAbs ∧ (k = 0 ∧ a = p.natAbs ∧ b = q.natAbs ∨ ∃ j, k = j + 1 ∧ b < a ∧ a * b * 2 ^ j ≤ 2 ^ K))
    (fun ρ μ' => μ' = μ ∧ ∃ (a : Nat) (x : Option A), ρ = [some (.v (.int p)), some (.v (.int q)), some (.v (.int a)), some (.v (.int 0)), x] ∧ a = Nat.gcd p.natAbs q.natAbs) ⟨rfl, p.natAbs, q.natAbs, none, rfl, rfl, .inl ⟨rfl, rfl, rfl⟩⟩ (by
    rintro i x hx ρ μ' ⟨rfl, a, b, y, rfl, hg, hi⟩
    refine ⟨_, by simp; rfl, ?_⟩
    by_cases h0 : b = 0
    · subst h0
      refine ⟨_, _, .inr ⟨by simp -implicitDefEqProofs; rfl, rfl, a, some (.v x), by simp, by simpa using hg⟩⟩
    · have h0' : ¬ ((b : Int) = 0) := by omega
      refine ⟨_, _, .inl ⟨.inl (by simp -implicitDefEqProofs [h0, n_fmod]; rfl), rfl, b, a % b, some (.v x), by simp, by rw [Nat.gcd_comm, ← Nat.gcd_rec, Nat.gcd_comm]; exact hg, .inr ⟨i, rfl, Nat.mod_lt _ (by omega), ?_⟩⟩⟩
      rcases hi with ⟨rfl, rfl, rfl⟩ | ⟨j, rfl, hj1, hj2⟩
      · have h1 : p.natAbs % q.natAbs ≤ p.natAbs := Nat.mod_le _ _
        have h2 := Nat.mul_le_mul_left q.natAbs h1
        rw [Nat.mul_comm q.natAbs p.natAbs] at h2
        simp; omega
      · exact euclid_step hj1 hj2 h0)
  rcases hI with ⟨rfl, a, b, x, rfl, hg, hi⟩ | ⟨rfl, a, x, rfl, hg⟩
  · have hb : b = 0 := by
      rw [rngL_len] at hi
      obtain ⟨j, hj, h1, h2⟩ : ∃ j, (20000 : Int).toNat = j + 1 ∧ b < a ∧ a * b * 2 ^ j ≤ 2 ^ K := by
        rcases hi with ⟨h, _⟩ | h
        · simp at h
        · exact h
      have hj : 20000 = j + 1 := hj
      by_cases h : b = 0
      · exact h
      · have h3 : 1 ≤ a * b := Nat.mul_pos (by omega) (by omega)
        have h4 := Nat.mul_le_mul_right (2 ^ j) h3
        have h5 : 2 ^ K < 2 ^ j := Nat.pow_lt_pow_right (by omega) (by omega)
        omega
    subst hb
    rw [Nat.gcd_zero_right] at hg
    simp -implicitDefEqProofs [hg]
  · simp -implicitDefEqProofs [hg]
theorem s_law_low (p q : Int) (hq : q ≠ 0) (k l : Nat) (hk : p.natAbs < 2 ^ k) (hl : q.natAbs < 2 ^ l) (hk2 : k ≤ 9000) (hl2 : l ≤ 9000) (μ : Mu) : F__law_low [.v (.int p), .v (.int q)] μ = .ok (fr (Rat.divInt p q)) μ := by
  obtain ⟨h1, h2⟩ := gcd_ok (p := p) hq (lt_up hl hl2)
  obtain ⟨u, v, hu, hv, e⟩ := low_eq p q hq
  have g0 : ((Nat.gcd p.natAbs q.natAbs : Nat) : Int) ≠ 0 := by
    intro h
    have := Nat.eq_zero_of_gcd_eq_zero_right (Int.ofNat.inj h)
    omega
  have f1 := fdiv_ex (k := u) g0
  have f2 := fdiv_ex (k := v) g0
  have f3 := fdiv_exn (k := u) g0
  have f4 := fdiv_exn (k := v) g0
  rw [← hu] at f1 f3
  rw [← hv] at f2 f4
  have hd := s_divisor p q (k + l) (by omega) (by
    have := Nat.mul_le_mul (Nat.le_of_lt hk) (Nat.le_of_lt hl)
    rwa [← Nat.pow_add] at this) μ
  rw [e]
  refine run_of ?_
  by_cases h : q < 0
  · have h' : ¬ 0 < q := by omega
    simp -implicitDefEqProofs [D__law_low, h', h, hd, h1, h2, f3, f4]
  · have h' : 0 < q := by omega
    simp -implicitDefEqProofs [D__law_low, h', h, hd, h1, h2, f1, f2]
theorem s_law_add (a b : Rat) (ha : Sm a) (hb : Sm b) (μ : Mu) : F__law_add [.v (fr a), .v (fr b)] μ = .ok (fr (a + b)) μ := by
  obtain ⟨k, hk, a1, a2⟩ := ha
  obtain ⟨l, hl, b1, b2⟩ := hb
  have m1 : mulOk a.num b.den = true := mul4 k l a1 (by rw [Int.natAbs_natCast]; exact b2) (by omega) (by omega)
  have m2 : mulOk b.num a.den = true := mul4 l k b1 (by rw [Int.natAbs_natCast]; exact a2) (by omega) (by omega)
  have m3 : mulOk a.den b.den = true := mul4 k l (by rw [Int.natAbs_natCast]; exact a2) (by rw [Int.natAbs_natCast]; exact b2) (by omega) (by omega)
  have e := s_law_low (a.num * b.den + b.num * a.den) (a.den * b.den) (den_mul_ne a b) (k + l + 1) (k + l) (by
    have h1 := Int.natAbs_add_le (a.num * b.den) (b.num * a.den)
    rw [Int.natAbs_mul, Int.natAbs_mul, Int.natAbs_natCast, Int.natAbs_natCast] at h1
    have h2 := lt_mul (m := k + l) a1 b2 (by omega)
    have h3 := lt_mul (m := k + l) b1 a2 (by omega)
    rw [Nat.pow_succ]; omega) (by rw [Int.natAbs_mul, Int.natAbs_natCast, Int.natAbs_natCast]; exact lt_mul a2 b2 (by omega)) (by omega) (by omega) μ
  rw [divInt_add] at e
  refine run_of ?_
  simp -implicitDefEqProofs [D__law_add, fr_, m1, m2, m3, e]
theorem s_law_mul (a b : Rat) (ha : Sm a) (hb : Sm b) (μ : Mu) : F__law_mul [.v (fr a), .v (fr b)] μ = .ok (fr (a * b)) μ := by
  obtain ⟨k, hk, a1, a2⟩ := ha
  obtain ⟨l, hl, b1, b2⟩ := hb
  have m1 : mulOk a.num b.num = true := mul4 k l a1 b1 (by omega) (by omega)
  have m3 : mulOk a.den b.den = true := mul4 k l (by rw [Int.natAbs_natCast]; exact a2) (by rw [Int.natAbs_natCast]; exact b2) (by omega) (by omega)
  have e := s_law_low (a.num * b.num) (a.den * b.den) (den_mul_ne a b) (k + l) (k + l) (by rw [Int.natAbs_mul]; exact lt_mul a1 b1 (by omega)) (by rw [Int.natAbs_mul, Int.natAbs_natCast, Int.natAbs_natCast]; exact lt_mul a2 b2 (by omega)) (by omega) (by omega) μ
  rw [divInt_mul] at e
  refine run_of ?_
  simp -implicitDefEqProofs [D__law_mul, fr_, m1, m3, e]
theorem s_law_power (n : Nat) (hn : n ≤ 2000) (μ : Mu) : F__law_power [.v (.int 2), .v (.int n)] μ = .ok (.int (2 ^ n)) μ := s_power n hn μ
end Mw

set_option linter.all false
set_option maxRecDepth 100000
namespace Mw
open Wp Lw
/-- one half -/
def hf : Rat := 1 / 2
theorem hf2 : hf * 2 = 1 := by unfold hf; grind
theorem two_hf (n : Nat) : (2 : Rat) ^ n * hf ^ n = 1 := by
  induction n with
  | zero => simp
  | succ n ih => rw [Rat.pow_succ, Rat.pow_succ]; have := hf2; grind
theorem pow_ne (n : Nat) : ((2 : Int) ^ n) ≠ 0 := by
  have : (0:Int) < 2 ^ n := Int.pow_pos (by omega)
  omega
theorem hf_pos (n : Nat) : 0 < hf ^ n := Rat.pow_pos (by unfold hf; grind)
theorem divInt_pow (a : Int) (n : Nat) : Rat.divInt a (2 ^ n) = a * hf ^ n := by
  have h := two_hf n
  rw [Rat.divInt_eq_div, Rat.div_def]
  have e : (((2:Int) ^ n : Int) : Rat) = (2:Rat) ^ n := by rw [Rat.intCast_pow]; rfl
  rw [e]
  congr 1
  exact Rat.inv_eq_of_mul_eq_one h
theorem Sm_of (a b : Int) (k : Nat) (hb : b ≠ 0) (ha : a.natAbs < 2 ^ k) (hb2 : b.natAbs < 2 ^ k) (hk : k ≤ 4000) : Sm (Rat.divInt a b) := by
  refine ⟨k, hk, ?_, ?_⟩
  · rw [Rat.num_divInt]
    refine Nat.lt_of_le_of_lt ?_ ha
    rw [Int.natAbs_ediv_of_dvd (Int.dvd_mul_of_dvd_right (Int.gcd_dvd_right ..)) ] 
    refine Nat.le_trans (Nat.div_le_self _ _) ?_
    rw [Int.natAbs_mul]
    have : b.sign.natAbs ≤ 1 := by rw [Int.natAbs_sign]; split <;> omega
    have := Nat.mul_le_mul_right a.natAbs this
    omega
  · rw [Rat.den_divInt, if_neg hb]
    exact Nat.lt_of_le_of_lt (Nat.div_le_self _ _) hb2
theorem Sm_h (z : Int) (n k : Nat) (hz : z.natAbs < 2 ^ k) (hn : n < k) (hk : k ≤ 4000) : Sm (z * hf ^ n) := by
  rw [← divInt_pow]
  exact Sm_of z (2 ^ n) k (pow_ne n) hz (by rw [Int.natAbs_pow]; exact Nat.pow_lt_pow_right (by decide) hn) hk
theorem Sm_int (z : Int) (k : Nat) (hz : z.natAbs < 2 ^ k) (h0 : 0 < k) (hk : k ≤ 4000) : Sm (z : Rat) := by
  have := Sm_h z 0 k hz h0 hk
  rwa [Rat.pow_zero, Rat.mul_one] at this
theorem s_by_halves (a : Int) (n : Nat) (hn : n ≤ 2000) (μ : Mu) : F_by_halves [.v (fr (a : Rat)), .v (.int n)] μ = .ok (fr (a * hf ^ n)) μ := by
  have m : mulOk 1 (2 ^ n) = true := mul4 1 (n + 1) (by decide) (by rw [Int.natAbs_pow]; exact Nat.pow_lt_pow_right (by decide) (by omega)) (by omega) (by omega)
  have e := s_lowest a (2 ^ n) (pow_ne n) (by rw [Int.natAbs_pow]; exact Nat.pow_lt_pow_right (by decide) (by omega)) μ
  rw [divInt_pow] at e
  refine run_of ?_
  simp -implicitDefEqProofs [D_by_halves, fr_, s_power n hn, m, e]
/-- a sum from a begin on -/
def rs (acc : Rat) : List Rat → Rat
  | [] => acc
  | x :: xs => rs (acc + x) xs
theorem rs_take : ∀ (xs : List Rat) (acc : Rat) (i : Nat) (x : Rat), xs[i]? = some x → rs acc (xs.take (i + 1)) = rs acc (xs.take i) + x
  | [], acc, i, x, h => by simp at h
  | y :: xs, acc, 0, x, h => by
    simp at h; subst h; simp [rs]
  | y :: xs, acc, i + 1, x, h => by
    rw [List.take_succ_cons, List.take_succ_cons, rs, rs]
    exact rs_take xs _ i x (by simpa using h)
theorem s_sum_of_all (xs : List Rat) (h1 : ∀ j, Sm (rs 0 (xs.take j))) (h2 : ∀ x ∈ xs, Sm x) (μ : Mu) : F_sum_of_all [.v (.lst (xs.map fr))] μ = .ok (fr (rs 0 xs)) μ := by
  refine run_of ?_
  simp -implicitDefEqProofs [D_sum_of_all]
  generalize hf : forGo _ _ _ _ _ = o
  obtain ⟨ρ', μ', rfl, hI⟩ := for_o hf (fun k ρ μ' => μ' = μ ∧ ∃ x, ρ = [some (.v (.lst (xs.map fr))), some (.v (fr (rs 0 (xs.take k)))), x]) ⟨rfl, none, by simp [rs, fr_]⟩ (by
    rintro i x hx ρ μ' ⟨rfl, y, rfl⟩
    refine ⟨_, by simp; rfl, ?_⟩
    rw [List.getElem?_map, Option.map_eq_some_iff] at hx
    obtain ⟨r, hr, rfl⟩ := hx
    have e := s_sum_of_two (rs 0 (xs.take i)) r (h1 i) (h2 r (List.mem_of_getElem? hr)) μ'
    refine ⟨_, _, .inl (by simp -implicitDefEqProofs [e]; rfl), rfl, some (.v (fr r)), ?_⟩
    rw [rs_take xs 0 i r hr])
  obtain ⟨rfl, x, rfl⟩ := hI
  simp -implicitDefEqProofs [← List.map_take]
/-- bits -/
def Bits (l : List Int) : Prop := ∀ x ∈ l, x = 0 ∨ x = 1
/-- the sum of figures from place b on -/
def S (b : Nat) : List Int → Rat
  | [] => 0
  | x :: l => x * hf ^ b + S (b + 1) l
def terms (b : Nat) : List Int → List Rat
  | [] => []
  | x :: l => x * hf ^ b :: terms (b + 1) l
/-- the sum of k times figures -/
def Tk (b : Nat) : List Int → Rat
  | [] => 0
  | x :: l => ((b : Int) : Rat) * x * hf ^ b + Tk (b + 1) l
def termsT (b : Nat) : List Int → List Rat
  | [] => []
  | x :: l => ((b : Int) : Rat) * x * hf ^ b :: termsT (b + 1) l
theorem rs_terms : ∀ (l : List Int) (acc : Rat) (b : Nat), rs acc (terms b l) = acc + S b l
  | [], acc, b => by simp [rs, terms, S, Rat.add_zero]
  | x :: l, acc, b => by rw [terms, rs, rs_terms l, S]; grind
theorem rs_termsT : ∀ (l : List Int) (acc : Rat) (b : Nat), rs acc (termsT b l) = acc + Tk b l
  | [], acc, b => by simp [rs, termsT, Tk, Rat.add_zero]
  | x :: l, acc, b => by rw [termsT, rs, rs_termsT l, Tk]; grind
theorem terms_take : ∀ (l : List Int) (b j : Nat), (terms b l).take j = terms b (l.take j)
  | [], b, j => by simp [terms]
  | x :: l, b, 0 => by simp [terms]
  | x :: l, b, j + 1 => by rw [terms, List.take_succ_cons, List.take_succ_cons, terms, terms_take l]
theorem termsT_take : ∀ (l : List Int) (b j : Nat), (termsT b l).take j = termsT b (l.take j)
  | [], b, j => by simp [termsT]
  | x :: l, b, 0 => by simp [termsT]
  | x :: l, b, j + 1 => by rw [termsT, List.take_succ_cons, List.take_succ_cons, termsT, termsT_take l]
theorem Bits.tail {x : Int} {l : List Int} (h : Bits (x :: l)) : Bits l := fun y hy => h y (List.mem_cons_of_mem _ hy)
theorem Bits.take {l : List Int} (h : Bits l) (j : Nat) : Bits (l.take j) := fun y hy => h y (List.mem_of_mem_take hy)
/-- times a power of 2 -/
theorem up_h (x : Int) (b n : Nat) : (x : Rat) * hf ^ b = ((x * 2 ^ n : Int) : Rat) * hf ^ (b + n) := by
  induction n with
  | zero => simp
  | succ n ih =>
    rw [ih, show b + (n + 1) = b + n + 1 by omega, Rat.pow_succ, Int.pow_succ]
    rw [Rat.intCast_mul, Rat.intCast_mul, Rat.intCast_mul]
    have := hf2
    grind
theorem S_z : ∀ (l : List Int) (b : Nat), Bits l → ∃ z : Nat, S b l = ((z : Int) : Rat) * hf ^ (b + l.length) ∧ z < 2 ^ (l.length + 1)
  | [], b, _ => ⟨0, by simp [S], by simp⟩
  | x :: l, b, h => by
    obtain ⟨z, e, hz⟩ := S_z l (b + 1) h.tail
    have hx := h x List.mem_cons_self
    obtain ⟨w, rfl, hw⟩ : ∃ w : Nat, x = w ∧ w ≤ 1 := by
      rcases hx with rfl | rfl
      · exact ⟨0, rfl, by omega⟩
      · exact ⟨1, rfl, by omega⟩
    refine ⟨w * 2 ^ (l.length + 1) + z, ?_, ?_⟩
    · rw [S, e, List.length_cons, up_h w b (l.length + 1)]
      rw [show b + 1 + l.length = b + (l.length + 1) by omega]
      rw [← Rat.add_mul, ← Rat.intCast_add]
      congr 2
    · rw [List.length_cons, Nat.pow_succ _ (l.length + 1)]
      have := Nat.mul_le_mul_right (2 ^ (l.length + 1)) hw
      omega
theorem T_z : ∀ (l : List Int) (b : Nat), Bits l → ∃ z : Nat, Tk b l = ((z : Int) : Rat) * hf ^ (b + l.length) ∧ z ≤ (b + l.length) * 2 ^ (l.length + 1)
  | [], b, _ => ⟨0, by simp [Tk], by simp⟩
  | x :: l, b, h => by
    obtain ⟨z, e, hz⟩ := T_z l (b + 1) h.tail
    have hx := h x List.mem_cons_self
    obtain ⟨w, rfl, hw⟩ : ∃ w : Nat, x = w ∧ w ≤ 1 := by
      rcases hx with rfl | rfl
      · exact ⟨0, rfl, by omega⟩
      · exact ⟨1, rfl, by omega⟩
    refine ⟨b * w * 2 ^ (l.length + 1) + z, ?_, ?_⟩
    · rw [Tk, e, List.length_cons, ← Rat.intCast_mul, up_h (b * w : Int) b (l.length + 1)]
      rw [show b + 1 + l.length = b + (l.length + 1) by omega]
      rw [← Rat.add_mul, ← Rat.intCast_add]
      congr 2
    · rw [List.length_cons, Nat.pow_succ _ (l.length + 1)]
      have h1 := Nat.mul_le_mul_left b hw
      have h2 := Nat.mul_le_mul_right (2 ^ (l.length + 1)) (show b * w ≤ b + (l.length + 1) by omega)
      rw [show b + 1 + l.length = b + (l.length + 1) by omega] at hz
      have e : (b + (l.length + 1)) * (2 ^ (l.length + 1) * 2) = (b + (l.length + 1)) * 2 ^ (l.length + 1) + (b + (l.length + 1)) * 2 ^ (l.length + 1) := by grind
      omega
theorem S_sm {l : List Int} {b : Nat} (h : Bits l) (hl : l.length ≤ 1000) (hb : b ≤ 1000) : Sm (S b l) := by
  obtain ⟨z, e, hz⟩ := S_z l b h
  rw [e]
  exact Sm_h z _ 2100 (by rw [Int.natAbs_natCast]; exact lt_up hz (by omega)) (by omega) (by omega)
theorem T_sm {l : List Int} {b : Nat} (h : Bits l) (hl : l.length ≤ 1000) (hb : b ≤ 1000) : Sm (Tk b l) := by
  obtain ⟨z, e, hz⟩ := T_z l b h
  rw [e]
  refine Sm_h z _ 2100 ?_ (by omega) (by omega)
  rw [Int.natAbs_natCast]
  have : (b + l.length) < 2 ^ 11 := Nat.lt_of_le_of_lt (show b + l.length ≤ 2000 by omega) (by decide)
  have := lt_mul (m := 2100) this (Nat.pow_lt_pow_right (a := 2) (m := l.length + 1) (n := l.length + 2) (by omega) (by omega)) (by omega)
  omega
theorem terms_sm : ∀ {l : List Int} {b : Nat}, Bits l → b + l.length ≤ 2000 → ∀ x ∈ terms b l, Sm x
  | [], b, _, _, x, hx => by simp [terms] at hx
  | y :: l, b, h, hl, x, hx => by
    rw [terms, List.mem_cons] at hx
    rw [List.length_cons] at hl
    rcases hx with rfl | hx
    · refine Sm_h y b 2100 ?_ (by omega) (by omega)
      rcases h y List.mem_cons_self with rfl | rfl <;> exact Nat.lt_of_le_of_lt (show _ ≤ 1 by decide) (Nat.one_lt_two_pow (by omega))
    · exact terms_sm h.tail (by omega) x hx
theorem termsT_sm : ∀ {l : List Int} {b : Nat}, Bits l → b + l.length ≤ 2000 → ∀ x ∈ termsT b l, Sm x
  | [], b, _, _, x, hx => by simp [termsT] at hx
  | y :: l, b, h, hl, x, hx => by
    rw [termsT, List.mem_cons] at hx
    rw [List.length_cons] at hl
    rcases hx with rfl | hx
    · rw [← Rat.intCast_mul]
      refine Sm_h (b * y) b 2100 ?_ (by omega) (by omega)
      have : (b * y : Int).natAbs ≤ 2 ^ 11 := by
        rw [Int.natAbs_mul, Int.natAbs_natCast]
        rcases h y List.mem_cons_self with rfl | rfl <;> simp <;> omega
      exact Nat.lt_of_le_of_lt this (Nat.pow_lt_pow_right (by omega) (by omega))
    · exact termsT_sm h.tail (by omega) x hx
end Mw

set_option linter.all false
set_option maxRecDepth 100000
namespace Mw
open Wp Lw
theorem enum_terms (b : Nat) : ∀ (l : List Int) (j : Nat), (enumL j (l.map D.int)).map (fun x => match x with
    | .tup [.int i, .int a] => fr (a * hf ^ (b + i.toNat)) | _ => .non) = (terms (b + j) l).map fr
  | [], j => rfl
  | x :: l, j => by
    rw [List.map_cons, enumL, List.map_cons, enum_terms b l (j + 1), terms, List.map_cons]
    rfl
/-- k times a figure by 2 to the power k -/
def eT : D → D
  | .tup [.int i, .int a] => fr ((i : Rat) * a * hf ^ i.toNat)
  | _ => .non
theorem enum_termsT : ∀ (l : List Int) (j : Nat), (enumL j (l.map D.int)).map eT = (termsT j l).map fr
  | [], j => rfl
  | x :: l, j => by
    rw [List.map_cons, enumL, List.map_cons, enum_termsT l (j + 1), termsT, List.map_cons]
    rfl
theorem enum_mem {l : List Int} {x : D} (h : x ∈ enumL 0 (l.map D.int)) : ∃ (i : Nat) (a : Int), i < l.length ∧ l[i]? = some a ∧ x = .tup [.int i, .int a] := by
  obtain ⟨i, hi⟩ := List.getElem?_of_mem h
  obtain ⟨y, h1, h2⟩ := enumL_at hi
  rw [List.getElem?_map, Option.map_eq_some_iff] at h1
  obtain ⟨a, h1, rfl⟩ := h1
  refine ⟨i, a, ?_, h1, by simpa using h2⟩
  exact (List.getElem?_eq_some_iff.mp h1).1
theorem s_sum_of_figures (l : List Int) (b : Nat) (hb : b ≤ 600) (h : Bits l) (hl : l.length ≤ 600) (μ : Mu) :
    F_sum_of_figures [.v (.tup (l.map D.int)), .v (.int b)] μ = .ok (fr (S b l)) μ := by
  refine run_of ?_
  simp -implicitDefEqProofs [D_sum_of_figures]
  generalize hr : ev (.lc _ _ _ _ _) _ _ = r
  have hr := lc_o0 hr (xs := enumL 0 (l.map D.int)) (fun x => match x with
    | .tup [.int i, .int a] => fr (a * hf ^ (b + i.toNat)) | _ => .non) (by simp -implicitDefEqProofs) (by rw [enumL_len, List.length_map, SL_eq]; omega) (by
      intro x hx
      obtain ⟨i, a, hi, ha, rfl⟩ := enum_mem hx
      refine ⟨_, by simp -implicitDefEqProofs; rfl, fun c => ?_⟩
      have e := s_by_halves a (b + i) (by omega) (μ ++ [c])
      rw [Int.natCast_add] at e
      simp -implicitDefEqProofs [s_whole, e])
  subst hr
  rw [enum_terms b l 0, Nat.add_zero]
  have e := s_sum_of_all (terms b l) (fun j => by rw [terms_take, rs_terms, Rat.zero_add]; exact S_sm (h.take j) (by rw [List.length_take]; omega) (by omega)) (terms_sm h (by omega)) μ
  rw [rs_terms, Rat.zero_add] at e
  simp -implicitDefEqProofs [e]
/-- 1 less 2 to the power -m -/
def oneL (m : Nat) : Rat := 1 - hf ^ m
theorem two_m1 (m : Nat) : Rat.divInt (2 ^ m - 1) (2 ^ m) = oneL m := by
  rw [divInt_pow, Rat.intCast_sub]
  have e : (((2:Int) ^ m : Int) : Rat) = (2:Rat) ^ m := by rw [Rat.intCast_pow]; rfl
  rw [e]
  have := two_hf m
  unfold oneL
  have e1 : ((1 : Int) : Rat) = 1 := rfl
  grind
theorem two_le {m : Nat} (h : 1 ≤ m) : (2 : Int) ≤ 2 ^ m := by
  obtain ⟨k, rfl⟩ : ∃ k, m = k + 1 := ⟨m - 1, by omega⟩
  have : (0:Int) < 2 ^ k := Int.pow_pos (by omega)
  rw [Int.pow_succ]; omega
theorem oneL_ne {m : Nat} (h : 1 ≤ m) : oneL m ≠ 0 := by
  intro h0
  have h1 := two_hf m
  unfold oneL at h0
  have h2 : hf ^ m = 1 := by grind
  rw [h2, Rat.mul_one] at h1
  have e : (((2:Int) ^ m : Int) : Rat) = (2:Rat) ^ m := by rw [Rat.intCast_pow]; rfl
  have h3 : (((2:Int) ^ m : Int) : Rat) = ((1 : Int) : Rat) := by rw [e, h1]; rfl
  have h4 := Rat.intCast_inj.mp h3
  have := two_le h
  omega
theorem oneL_sm {m : Nat} (hm : m ≤ 2000) : Sm (oneL m) := by
  rw [← two_m1]
  have h1 : (0:Int) < 2 ^ m := Int.pow_pos (by omega)
  have h2 : ((2:Int) ^ m).natAbs < 2 ^ (m + 1) := by rw [Int.natAbs_pow]; exact Nat.pow_lt_pow_right (by decide) (by omega)
  exact Sm_of _ _ (m + 1) (pow_ne m) (by omega) h2 (by omega)
theorem s_again_and_again (x : Rat) (hx : Sm x) (m : Nat) (h1 : 1 ≤ m) (hm : m ≤ 2000) (μ : Mu) :
    F_again_and_again [.v (fr x), .v (.int m)] μ = .ok (fr (x / oneL m)) μ := by
  have e1 := s_lowest (2 ^ m - 1) (2 ^ m) (pow_ne m) (by rw [Int.natAbs_pow]; exact Nat.pow_lt_pow_right (by decide) (by omega)) μ
  rw [two_m1] at e1
  have e2 := s_quotient x (oneL m) hx (oneL_sm hm) (oneL_ne h1) μ
  refine run_of ?_
  simp -implicitDefEqProofs [D_again_and_again, s_power m hm, e1, e2]
/-- what figures are worth -/
def V (a g : List Int) : Rat := S 0 a + S a.length g / oneL g.length
theorem inv_oneL {m : Nat} (h : 1 ≤ m) : (1 : Rat) / oneL m = Rat.divInt (2 ^ m) (2 ^ m - 1) := by
  rw [← two_m1, Rat.div_def, Rat.inv_divInt, Rat.one_mul]
theorem S_over_sm {l : List Int} {b m : Nat} (h : Bits l) (hl : l.length ≤ 600) (hb : b ≤ 600) (h1 : 1 ≤ m) (hm : m ≤ 600) : Sm (S b l / oneL m) := by
  obtain ⟨z, e, hz⟩ := S_z l b h
  rw [Rat.div_def, show (oneL m)⁻¹ = 1 / oneL m by rw [Rat.div_def, Rat.one_mul], inv_oneL h1, e, ← divInt_pow, Rat.divInt_mul_divInt]
  have h2 := two_le h1
  have h3 : ((2:Int) ^ m).natAbs < 2 ^ (m + 1) := by rw [Int.natAbs_pow]; exact Nat.pow_lt_pow_right (by decide) (by omega)
  have h4 : ((2:Int) ^ (b + l.length)).natAbs < 2 ^ (b + l.length + 1) := by rw [Int.natAbs_pow]; exact Nat.pow_lt_pow_right (by decide) (by omega)
  refine Sm_of _ _ 3000 (Int.mul_ne_zero (pow_ne _) (by omega)) ?_ ?_ (by omega)
  · rw [Int.natAbs_mul, Int.natAbs_natCast]
    exact lt_mul hz h3 (by omega)
  · rw [Int.natAbs_mul]
    exact lt_mul h4 (show (2 ^ m - 1 : Int).natAbs < 2 ^ (m + 1) by omega) (by omega)
theorem s_number_of (a g : List Int) (ha : Bits a) (hg : Bits g) (la : a.length ≤ 600) (lg : g.length ≤ 600) (h1 : 1 ≤ g.length) (μ : Mu) :
    F_number_of [.v (.tup [.tup (a.map D.int), .tup (g.map D.int)])] μ = .ok (fr (V a g)) μ := by
  have e1 := s_sum_of_figures a 0 (by omega) ha la μ
  have e2 := s_sum_of_figures g a.length la hg lg μ
  have e3 := s_again_and_again (S a.length g) (S_sm hg (by omega) (by omega)) g.length h1 (by omega) μ
  have e4 := s_sum_of_two (S 0 a) (S a.length g / oneL g.length) (S_sm ha (by omega) (by omega)) (S_over_sm hg lg la h1 lg) μ
  have e0 : ((0 : Nat) : Int) = 0 := rfl
  rw [e0] at e1
  refine run_of ?_
  simp -implicitDefEqProofs [D_number_of, e1, e2, e3, e4]
  rfl
theorem s_are_figures (l : List Int) (h : Bits l) (hl : l.length ≤ 100000) (μ : Mu) : F_are_figures [.v (.tup (l.map D.int))] μ = .ok (.bl true) μ := by
  have one : ∀ x : Int, (x = 0 ∨ x = 1) → ∀ μ, F_is_below [.v (.int x), .v (.int 2)] μ = .ok (.bl true) μ := by
    intro x hx μ
    have i1 : F_is_integer [.v (.int x)] μ = .ok (.bl true) μ := run_of (by simp -implicitDefEqProofs [D_is_integer, isTy])
    have i2 : F_is_natural [.v (.int x)] μ = .ok (.bl true) μ := run_of (by simp -implicitDefEqProofs [D_is_natural, i1]; omega)
    refine run_of ?_
    simp -implicitDefEqProofs [D_is_below, i2]; omega
  refine run_of ?_
  simp -implicitDefEqProofs [D_are_figures, isTy]
  generalize hr : ev (.lc _ _ _ _ _) _ _ = r
  have hr := lc_o0 hr (xs := l.map D.int) (fun x => .bl true) (by simp -implicitDefEqProofs) (by rw [List.length_map, SL_eq]; omega) (by
      intro x hx
      rw [List.mem_map] at hx
      obtain ⟨a, ha, rfl⟩ := hx
      refine ⟨_, by simp -implicitDefEqProofs; rfl, fun c => ?_⟩
      simp -implicitDefEqProofs [one a (h a ha)])
  subst hr
  rw [List.map_map, show ((fun x => D.bl true) ∘ D.int) = (fun x => D.bl ((fun _ => true) x)) from rfl]
  simp -implicitDefEqProofs [blsOf_map]
theorem s_number (a g : List Int) (ha : Bits a) (hg : Bits g) (la : a.length ≤ 600) (lg : g.length ≤ 600) (h1 : 1 ≤ g.length) (hv : V a g ≤ 1) (hs : Sm (V a g)) (μ : Mu) :
    F_number [.v (.tup [.tup (a.map D.int), .tup (g.map D.int)])] μ = .ok (fr (V a g)) μ := by
  have e1 : ∀ x y, F_is_pair [.v (.tup [x, y])] μ = .ok (.bl true) μ := fun x y => run_of (by simp -implicitDefEqProofs [D_is_pair, isTy])
  have e2 := s_are_figures a ha (by omega) μ
  have e3 := s_are_figures g hg (by omega) μ
  have e4 := s_number_of a g ha hg la lg h1 μ
  have e5 := s_is_less 1 (V a g) ⟨2, by omega, by decide, by decide⟩ hs μ
  have hn : ¬ 1 < V a g := Rat.not_lt.mpr hv
  have e6 : fr 1 = .tup [.int 1, .int 1] := rfl
  have hg0 : g ≠ [] := by rintro rfl; simp at h1
  rw [e6] at e5
  refine run_of ?_
  simp -implicitDefEqProofs [D_number, e1, e2, e3, e4, e5, hn, hg0]
end Mw

set_option linter.all false
set_option maxRecDepth 100000
namespace Mw
open Wp Lw
/-- what is left behind k figures of p by q -/
def R (p q k : Nat) : Nat := p * 2 ^ k % q
/-- the k-th figure -/
def G (p q k : Nat) : Nat := p * 2 ^ k / q % 2
theorem R_succ (p q k : Nat) : R p q (k + 1) = 2 * R p q k % q := by
  unfold R
  rw [Nat.pow_succ, ← Nat.mul_assoc, Nat.mul_comm 2 _, Nat.mod_mul_mod]
theorem R_add (p q k j : Nat) : R p q (k + j) = R p q k * 2 ^ j % q := by
  unfold R
  rw [Nat.pow_add, ← Nat.mul_assoc, Nat.mod_mul_mod]
theorem R_lt {p q : Nat} (k : Nat) (h : 0 < q) : R p q k < q := Nat.mod_lt _ h
theorem G_succ (p q k : Nat) (hq : 0 < q) : G p q (k + 1) = 2 * R p q k / q := by
  unfold G R
  have h := Nat.div_add_mod (p * 2 ^ k) q
  have hl := Nat.mod_lt (p * 2 ^ k) hq
  generalize p * 2 ^ k % q = r at *
  generalize p * 2 ^ k / q = d at *
  have e : p * 2 ^ (k + 1) = 2 * r + q * (2 * d) := by
    rw [Nat.pow_succ, ← Nat.mul_assoc, ← h]; grind
  rw [e, Nat.add_mul_div_left _ _ hq]
  have : 2 * r / q < 2 := (Nat.div_lt_iff_lt_mul hq).mpr (by omega)
  generalize 2 * r / q = w at *
  omega
theorem G_bit (p q k : Nat) : G p q k ≤ 1 := by unfold G; omega
/-- the rest as a number -/
def rq (p q k : Nat) : Rat := Rat.divInt (R p q k : Nat) (q : Nat)
theorem rq_inj {p q i j : Nat} (hq : 0 < q) : rq p q i = rq p q j ↔ R p q i = R p q j := by
  constructor
  · intro h
    unfold rq at h
    rw [Rat.divInt_eq_divInt_iff (by omega) (by omega)] at h
    have := Int.eq_of_mul_eq_mul_right (by omega) h
    omega
  · intro h; unfold rq; rw [h]
/-- the rest of a rest -/
theorem rest_rest (a q j : Nat) (hq : 0 < q) (x : Rat) (hx : x = Rat.divInt (a : Nat) (q : Nat)) : Rat.divInt ((x.num * 2 ^ j).fmod x.den) x.den = Rat.divInt ((a * 2 ^ j % q : Nat) : Int) (q : Nat) := by
  obtain ⟨u, v, hu, hv, e⟩ := low_eq a q (by omega)
  rw [← hx] at e
  have hq0 : ¬ ((q : Int) < 0) := by omega
  rw [if_neg hq0] at e
  unfold fr at e
  injection e with e
  injection e with e1 e
  injection e with e2 e
  injection e1 with e1
  injection e2 with e2
  rw [e1, e2]
  generalize hg : Nat.gcd (a : Int).natAbs (q : Int).natAbs = g at *
  have hv0 : 0 < v := by
    by_cases z : 0 < v
    · exact z
    · have : 0 ≤ (g : Int) * (-v) := Int.mul_nonneg (by omega) (by omega)
      have : (g : Int) * (-v) = -((g : Int) * v) := by grind
      omega
  have g0 : (g : Int) ≠ 0 := by
    intro h
    rw [h] at hv
    omega
  rw [Int.natCast_emod, Int.natCast_mul, hu, hv, Int.fmod_eq_emod_of_nonneg _ (by omega), Int.natCast_pow]
  rw [show (g : Int) * u * ((2 : Nat) : Int) ^ j = g * (u * 2 ^ j) by rw [Int.mul_assoc]; rfl]
  rw [Int.mul_emod_mul_of_pos _ _ (by omega), Rat.divInt_mul_left g0]
/-- a number of the law: from 0 to 1, its bottom at most 200 -/
structure Own (r : Rat) (p q : Nat) : Prop where
  hp : r.num = p
  hq : r.den = q
  q0 : 0 < q
  ql : q ≤ 200
  pq : p ≤ q
theorem Own.fr {r : Rat} {p q : Nat} (h : Own r p q) : fr r = .tup [.int p, .int q] := by rw [fr_, h.hp, h.hq]
theorem Own.eq {r : Rat} {p q : Nat} (h : Own r p q) : r = Rat.divInt p q := by
  rw [← h.hp, ← h.hq, Rat.num_divInt_den]
theorem s_check_part {r : Rat} {p q : Nat} (h : Own r p q) (μ : Mu) : F_check_part [.v (fr r)] μ = .ok .non μ := by
  have e1 : ∀ x y, F_is_pair [.v (.tup [x, y])] μ = .ok (.bl true) μ := fun x y => run_of (by simp -implicitDefEqProofs [D_is_pair, isTy])
  have i1 : ∀ x, F_is_integer [.v (.int x)] μ = .ok (.bl true) μ := fun x => run_of (by simp -implicitDefEqProofs [D_is_integer, isTy])
  have hq := h.q0
  have hl := h.ql
  have hpq := h.pq
  have e2 := s_lowest p q (by omega) (by exact Nat.lt_of_le_of_lt (show (q : Int).natAbs ≤ 2 ^ 8 by omega) (Nat.pow_lt_pow_right (by omega) (by omega))) μ
  rw [← h.eq, h.fr] at e2
  have ok : okD (.tup [.int p, .int q]) = true := by simp [okD, D.okN, D.okNs]
  have ev : D.eqvs [.int p, .int q] [.int p, .int q] = true := by simp [D.eqvs, D.eqv]
  have e3 : F_is_number_of [.v (.tup [.int p, .int q])] μ = .ok (.bl true) μ := run_of (by simp -implicitDefEqProofs [D_is_number_of, e1, i1, e2, hq, ok, ev])
  have e4 : F_is_part_of_one [.v (.tup [.int p, .int q])] μ = .ok (.bl true) μ := run_of (by simp -implicitDefEqProofs [D_is_part_of_one, e3, hpq])
  rw [h.fr]
  refine run_of ?_
  simp -implicitDefEqProofs [D_check_part, e4]
theorem s_check_natural (k : Nat) (μ : Mu) : F_check_natural [.v (.int k)] μ = .ok .non μ := by
  have i1 : F_is_integer [.v (.int k)] μ = .ok (.bl true) μ := run_of (by simp -implicitDefEqProofs [D_is_integer, isTy])
  have i2 : F_is_natural [.v (.int k)] μ = .ok (.bl true) μ := run_of (by simp -implicitDefEqProofs [D_is_natural, i1])
  refine run_of ?_
  simp -implicitDefEqProofs [D_check_natural, i2]
theorem n_pow (n : Nat) : (2 : Int) ^ n = ((2 ^ n : Nat) : Int) := by rw [Int.natCast_pow]; rfl
theorem s_rest_of (a q j : Nat) (hq : 0 < q) (ha : a ≤ q) (hl : q ≤ 200) (x : Rat) (hx : x = Rat.divInt (a : Nat) (q : Nat)) (hj : j ≤ 1000) (μ : Mu) :
    F_rest_of [.v (fr x), .v (.int j)] μ = .ok (fr (Rat.divInt ((a * 2 ^ j % q : Nat) : Int) (q : Nat))) μ := by
  have hs : x.num.natAbs < 2 ^ 9 ∧ x.den < 2 ^ 9 := by
    subst hx
    constructor
    · rw [Rat.num_divInt, Int.sign_eq_one_of_pos (by omega), Int.one_mul, ← Int.natCast_ediv, Int.natAbs_natCast]
      exact Nat.lt_of_le_of_lt (Nat.div_le_self _ _) (by omega)
    · rw [Rat.den_divInt, if_neg (by omega)]
      exact Nat.lt_of_le_of_lt (Nat.div_le_self _ _) (by omega)
  have m : mulOk x.num (2 ^ j) = true := mul4 9 (j + 1) hs.1 (by rw [Int.natAbs_pow]; exact Nat.pow_lt_pow_right (by decide) (by omega)) (by omega) (by omega)
  have e := s_lowest ((x.num * 2 ^ j).fmod x.den) x.den (den_ne x) (by rw [Int.natAbs_natCast]; exact Nat.lt_of_lt_of_le hs.2 (Nat.pow_le_pow_right (by omega) (by omega))) μ
  rw [rest_rest a q j hq x hx] at e
  have hd := x.den_nz
  refine run_of ?_
  simp -implicitDefEqProofs [D_rest_of, fr_, s_power j (by omega), m, hd, e]
theorem s_figure_of {r : Rat} {p q : Nat} (h : Own r p q) (k : Nat) (hk : k ≤ 1000) (μ : Mu) : F_figure_of [.v (fr r), .v (.int k)] μ = .ok (.int (G p q k : Nat)) μ := by
  have hq := h.q0
  have hl := h.ql
  have hpq := h.pq
  have m : mulOk p (2 ^ k) = true := mul4 9 (k + 1) (by omega) (by rw [Int.natAbs_pow]; exact Nat.pow_lt_pow_right (by decide) (by omega)) (by omega) (by omega)
  have d : divOk q = true := divOk_of (by omega) (Nat.lt_of_le_of_lt (show (q : Int).natAbs ≤ 2 ^ 8 by omega) (Nat.pow_lt_pow_right (by omega) (by omega)))
  rw [h.fr]
  have e : (((p : Nat) : Int) * 2 ^ k).fdiv ((q : Nat) : Int) = ((p * 2 ^ k / q : Nat) : Int) := by rw [n_pow, ← Int.natCast_mul, n_fdiv]
  have e2 : (((p * 2 ^ k / q : Nat) : Int)).fmod 2 = ((G p q k : Nat) : Int) := n_fmod _ 2
  refine run_of ?_
  simp -implicitDefEqProofs [D_figure_of, s_power k (by omega), m, d]
  rw [e, e2]
theorem s_figure {r : Rat} {p q : Nat} (h : Own r p q) (k : Nat) (hk : k ≤ 1000) (μ : Mu) : F_figure [.v (fr r), .v (.int k)] μ = .ok (.int (G p q k : Nat)) μ := by
  refine run_of ?_
  simp -implicitDefEqProofs [D_figure, s_check_part h, s_check_natural, s_figure_of h k hk]
theorem s_rest {r : Rat} {p q : Nat} (h : Own r p q) (k : Nat) (hk : k ≤ 1000) (μ : Mu) : F_rest [.v (fr r), .v (.int k)] μ = .ok (fr (rq p q k)) μ := by
  have e := s_rest_of p q k h.q0 h.pq h.ql r h.eq hk
  refine run_of ?_
  simp -implicitDefEqProofs [D_rest, s_check_part h, s_check_natural, e]
  rfl
end Mw

set_option linter.all false
set_option maxRecDepth 100000
namespace Mw
open Wp Lw
abbrev Di (l : List Int) : List D := l.map D.int
/-- the last one first -/
def rot (g : List Int) : List Int := g.drop (g.length - 1) ++ g.dropLast
/-- as short as can be -/
def trim : Nat → List Int → List Int → List Int × List Int
  | 0, a, g => (a, g)
  | n + 1, a, g => if a.getLast? = g.getLast? then trim n a.dropLast (rot g) else (a, g)
theorem rot_len (g : List Int) : (rot g).length = g.length := by unfold rot; simp
theorem tp (x : D) (y : D) : D.tup [x, y] = D.tup [x, y] := rfl
theorem s_shortest (a g : List Int) (hg : g ≠ []) (la : a.length ≤ 1000) (lg : g.length ≤ 1000) (μ : Mu) : F_shortest [.v (.tup (Di a)), .v (.tup (Di g))] μ = .ok (.tup [.tup (Di (trim a.length a g).1), .tup (Di (trim a.length a g).2)]) μ := by
  refine run_of ?_
  simp -implicitDefEqProofs [D_shortest, rngOf_nat _ (show a.length ≤ 1000000 by omega)]
  generalize hf : forGo _ _ _ _ _ = o
  obtain ⟨ρ', μ', rfl, hI⟩ := for_ob hf (fun k ρ μ' => μ' = μ ∧ ∃ (a' g' : List Int) (x : Option A), ρ = [some (.v (.tup (Di a'))), some (.v (.tup (Di g'))), x] ∧ a'.length = a.length - k ∧ g'.length = g.length ∧ trim (a.length - k) a' g' = trim a.length a g)
    (fun ρ μ' => μ' = μ ∧ ∃ (x : Option A), ρ = [some (.v (.tup (Di (trim a.length a g).1))), some (.v (.tup (Di (trim a.length a g).2))), x]) ⟨rfl, a, g, none, rfl, by omega, rfl, rfl⟩ (by
    rintro i x hx ρ μ' ⟨rfl, a', g', y, rfl, h1, h2, h3⟩
    have hi := (rngL_at hx).1
    obtain ⟨j, hj⟩ : ∃ j, a.length - i = j + 1 := ⟨a.length - i - 1, by omega⟩
    have ha' : a' ≠ [] := by rintro rfl; simp at h1; omega
    have hg' : g' ≠ [] := by rintro rfl; exact hg (List.length_eq_zero_iff.mp (by simpa using h2.symm))
    have ea := List.getLast?_eq_some_getLast ha'
    have eg := List.getLast?_eq_some_getLast hg'
    rw [hj, trim, ea, eg] at h3
    refine ⟨_, by simp; rfl, ?_⟩
    by_cases hh : a'.getLast ha' = g'.getLast hg'
    · rw [if_pos (by rw [hh])] at h3
      refine ⟨_, _, .inl ⟨.inl (by
        simp -implicitDefEqProofs [at_n1, ← List.map_drop, ← List.map_dropLast, cut_hi_n1, cut_lo_n1, ea, eg, hh]
        rw [if_pos (by rw [SL_eq]; omega)]; simp -implicitDefEqProofs; rfl), rfl, a'.dropLast, rot g', some (.v x), by simp [rot], ?_, ?_, ?_⟩⟩
      · rw [List.length_dropLast]; omega
      · rw [rot_len]; exact h2
      · rw [show a.length - (i + 1) = j by omega]; exact h3
    · rw [if_neg (by simpa using hh)] at h3
      refine ⟨_, _, .inr ⟨by
        simp -implicitDefEqProofs [at_n1, ea, eg, hh]; rfl, rfl, some (.v x), ?_⟩⟩
      rw [← h3])
  rcases hI with ⟨rfl, a', g', x, rfl, h1, h2, h3⟩ | ⟨rfl, x, rfl⟩
  · rw [rngL_len, Nat.sub_self, trim] at h3
    rw [← h3]
    simp -implicitDefEqProofs
  · simp -implicitDefEqProofs
end Mw

set_option linter.all false
set_option maxRecDepth 100000
namespace Mw
open Wp Lw
theorem fr_eqv (x y : Rat) : D.eqv (fr x) (fr y) = decide (x = y) := by
  rw [fr_, fr_, D.eqv, D.eqvs, D.eqvs, D.eqvs, eqv_int, eqv_int, Bool.eq_iff_iff]
  simp
  constructor
  · rintro ⟨h1, h2⟩; exact Rat.ext h1 (by omega)
  · rintro rfl; exact ⟨rfl, rfl⟩
theorem fr_key (x : Rat) : isKeyT (fr x) = true := by simp [fr_, isKeyT, isKeyK]
theorem fr_ok (x : Rat) : okD (fr x) = true := by simp [fr_, okD, D.okN, D.okNs]
/-- the rests met, each with where it was met -/
def met (p q i : Nat) : List (D × D) := (List.range i).map fun (a : Nat) => (fr (rq p q a), D.int ((a : Int) + 1))
theorem met_succ (p q i : Nat) : met p q (i + 1) = met p q i ++ [(fr (rq p q i), D.int ((i : Int) + 1))] := by
  unfold met; rw [List.range_succ, List.map_append]; rfl
theorem met_look (p q i k : Nat) (hq : 0 < q) : dLook (fr (rq p q k)) (met p q i) = ((List.range i).find? fun a => decide (R p q a = R p q k)).map fun (a : Nat) => D.int ((a : Int) + 1) := by
  rw [dLook_find]
  unfold met
  rw [List.find?_map, Option.map_map]
  congr 1
  refine congrArg (fun f => List.find? f (List.range i)) (funext fun a => ?_)
  show D.eqv (fr (rq p q a)) (fr (rq p q k)) = _
  rw [fr_eqv, Bool.eq_iff_iff, decide_eq_true_eq, decide_eq_true_eq]
  exact rq_inj hq
/-- unlike up to n -/
def Un (p q n : Nat) : Prop := ∀ a b, a < b → b < n → R p q a ≠ R p q b
/-- the first rest that comes again is the n-th, it was the m-th -/
structure Rep (p q m n : Nat) : Prop where
  un : Un p q n
  mn : m < n
  eq : R p q m = R p q n
  nq : n ≤ q
theorem find_rep {p q m n : Nat} (h : Rep p q m n) : (List.range n).find? (fun a => decide (R p q a = R p q n)) = some m := by
  rw [List.find?_range_eq_some]
  refine ⟨by simpa using h.eq, by simpa using h.mn, fun j hj => ?_⟩
  have := h.un j m hj h.mn
  rw [h.eq] at this
  simpa using this
theorem no_rep {p q n : Nat} (h : ¬ ∃ a, a < n ∧ R p q a = R p q n) : (List.range n).find? (fun a => decide (R p q a = R p q n)) = none := by
  rw [List.find?_eq_none]
  intro a ha he
  exact h ⟨a, by simpa using ha, by simpa using he⟩
theorem un_le {p q n : Nat} (hq : 0 < q) (h : Un p q n) : n ≤ q := by
  by_cases hn : n ≤ q
  · exact hn
  · obtain ⟨a, b, h1, h2, h3⟩ := php q (R p q) fun i _ => R_lt i hq
    exact absurd h3 (h a b h1 (by omega))
/-- the figures up to n -/
def Gs (p q n : Nat) : List Int := (List.range n).map fun a => ((G p q a : Nat) : Int)
theorem Gs_succ (p q n : Nat) : Gs p q (n + 1) = Gs p q n ++ [((G p q n : Nat) : Int)] := by
  unfold Gs; rw [List.range_succ, List.map_append]; rfl
theorem Gs_bits (p q n : Nat) : Bits (Gs p q n) := by
  intro x hx
  unfold Gs at hx
  rw [List.mem_map] at hx
  obtain ⟨a, _, rfl⟩ := hx
  have := G_bit p q a
  omega
@[simp] theorem Gs_len (p q n : Nat) : (Gs p q n).length = n := by unfold Gs; simp
theorem rq_sm (p q k : Nat) (hq : 0 < q) (hl : q ≤ 200) : Sm (rq p q k) := by
  have := R_lt (p := p) k hq
  exact Sm_of _ _ 9 (by omega) (by omega) (by omega) (by omega)
theorem rq_half (p q k : Nat) (hq : 0 < q) : rq p q k * 2 < 1 ↔ 2 * R p q k < q := by
  unfold rq
  rw [Rat.divInt_eq_div]
  have h0 : (0 : Rat) < ((q : Int) : Rat) := Rat.intCast_pos.mpr (by omega)
  have e : ((R p q k : Nat) : Int) / ((q : Int) : Rat) * 2 = (((2 * R p q k : Nat) : Int) : Rat) / ((q : Int) : Rat) := by
    rw [Int.natCast_mul, Rat.intCast_mul, Rat.div_def, Rat.div_def]
    have : (((2 : Nat) : Int) : Rat) = 2 := rfl
    grind
  rw [e, Rat.div_lt_iff h0, Rat.one_mul, Rat.intCast_lt_intCast]
  omega
theorem next_fig {p q k : Nat} (hq : 0 < q) : (if (!decide (rq p q k * 2 < 1)) = true then (1 : Int) else 0) = ((G p q (k + 1) : Nat) : Int) := by
  have h := R_lt (p := p) k hq
  rw [G_succ p q k hq]
  by_cases h1 : 2 * R p q k < q
  · have h2 := (rq_half p q k hq).mpr h1
    rw [Nat.div_eq_of_lt h1]
    simp [h2]
  · have h2 : ¬ rq p q k * 2 < 1 := fun h => h1 ((rq_half p q k hq).mp h)
    have : 2 * R p q k / q = 1 := Nat.div_eq_of_lt_le (by omega) (by omega)
    rw [this]
    simp [h2]
theorem rq0 {r : Rat} {p q : Nat} (h : Own r p q) (μ : Mu) : F_rest_of [.v (fr r), .v (.int 0)] μ = .ok (fr (rq p q 0)) μ := s_rest_of p q 0 h.q0 h.pq h.ql r h.eq (by omega) μ
theorem rqS (p q k : Nat) (hq : 0 < q) (hl : q ≤ 200) (μ : Mu) : F_rest_of [.v (fr (rq p q k)), .v (.int 1)] μ = .ok (fr (rq p q (k + 1))) μ := by
  have h := s_rest_of (R p q k) q 1 hq (Nat.le_of_lt (R_lt k hq)) hl (rq p q k) rfl (by omega) μ
  rw [Nat.pow_one, Nat.mul_comm, ← R_succ] at h
  exact h
theorem s_figures_of {r : Rat} {p q : Nat} (h : Own r p q) : ∃ m n, Rep p q m n ∧ ∀ μ, F_figures_of [.v (fr r)] μ = .ok (.tup [.tup (Di (trim (m + 1) ((Gs p q (n + 1)).take (m + 1)) ((Gs p q (n + 1)).drop (m + 1))).1), .tup (Di (trim (m + 1) ((Gs p q (n + 1)).take (m + 1)) ((Gs p q (n + 1)).drop (m + 1))).2)]) μ := by
  have hq := h.q0
  have hl := h.ql
  have hpq := h.pq
  have key : ∀ μ, ∃ m n, Rep p q m n ∧ F_figures_of [.v (fr r)] μ = .ok (.tup [.tup (Di (trim (m + 1) ((Gs p q (n + 1)).take (m + 1)) ((Gs p q (n + 1)).drop (m + 1))).1), .tup (Di (trim (m + 1) ((Gs p q (n + 1)).take (m + 1)) ((Gs p q (n + 1)).drop (m + 1))).2)]) μ := by
    intro μ
    have e0 := s_figure_of h 0 (by omega)
    have ei : ((0 : Nat) : Int) = 0 := rfl
    rw [ei] at e0
    have er : rngOf [.int ((q : Int) + 1)] = some (rngL 0 (q + 1)) := rngOf_nat (q + 1) (by omega)
    have run : ∃ m n, Rep p q m n ∧ fin μ.length (exs μ.length D_figures_of.body ([some (.v (fr r)), none, none, none, none, none, none]) (μ ++ [⟨false, .dead⟩, ⟨false, .dead⟩])) = .ok (.tup [.tup (Di (trim (m + 1) ((Gs p q (n + 1)).take (m + 1)) ((Gs p q (n + 1)).drop (m + 1))).1), .tup (Di (trim (m + 1) ((Gs p q (n + 1)).take (m + 1)) ((Gs p q (n + 1)).drop (m + 1))).2)]) μ := by
      have e1 := rq0 h
      rw [h.fr] at e0 e1 ⊢
      simp -implicitDefEqProofs [D_figures_of, e0, e1, er]
      generalize hf : forGo _ _ _ _ _ = o
      obtain ⟨ρ', μ', rfl, hI⟩ := for_ob hf (fun k ρ μ' => Un p q k ∧ μ' = μ ++ [⟨false, .lst (Di (Gs p q (k + 1)))⟩, ⟨false, .dT (met p q k)⟩] ∧ ∃ x y z, ρ = [some (.v (.tup [.int p, .int q])), some (.c μ.length), some (.c (μ.length + 1)), some (.t (fr (rq p q k))), x, y, z])
        (fun ρ μ' => ∃ m n, Rep p q m n ∧ μ' = μ ++ [⟨false, .lst (Di (Gs p q (n + 1)))⟩, ⟨false, .dT (met p q n)⟩] ∧ ∃ x y z, ρ = [some (.v (.tup [.int p, .int q])), some (.c μ.length), some (.c (μ.length + 1)), some (.t (fr (rq p q n))), x, y, z])
        ⟨fun a b h1 h2 => by omega, by simp [Gs, met], none, none, none, rfl⟩ (by
        rintro i x hx ρ μ' ⟨hu, rfl, x1, x2, x3, rfl⟩
        have hi := (rngL_at hx).1
        refine ⟨_, by simp; rfl, ?_⟩
        have hk := fr_key (rq p q i)
        have hlook := met_look p q i i hq
        by_cases hr : ∃ a, a < i ∧ R p q a = R p q i
        · obtain ⟨a, h1, h2⟩ := hr
          have hR : Rep p q a i := ⟨hu, h1, h2, by omega⟩
          rw [find_rep hR] at hlook
          refine ⟨_, _, .inr ⟨by simp -implicitDefEqProofs [dictAt, keyFor, hk, hlook], a, i, hR, rfl, some (.v x), x2, x3, rfl⟩⟩
        · rw [no_rep hr] at hlook
          have hany : (met p q i).any (fun p_1 => D.eqv p_1.1 (fr (rq p q i))) = false := by
            rw [dLook_find] at hlook
            simp at hlook
            simpa using hlook
          have hput : dPut (fr (rq p q i)) (.int ((i : Int) + 1)) (met p q i) = met p q (i + 1) := by
            unfold dPut
            rw [hany, met_succ]; rfl
          have hlen : (met p q i).length = i := by unfold met; simp
          have e2 : fr 2 = .tup [.int 2, .int 1] := rfl
          have ep : F_product [.v (fr (rq p q i)), .v (.tup [.int 2, .int 1])] = F_product [.v (fr (rq p q i)), .v (fr 2)] := rfl
          have e3 := s_product (rq p q i) 2 (rq_sm p q i hq hl) ⟨2, by omega, by decide, by decide⟩
          have hs2 : Sm (rq p q i * 2) := by
            unfold rq
            rw [Rat.divInt_eq_div, Rat.div_def]
            have : ((R p q i : Nat) : Int) * ((q : Int) : Rat)⁻¹ * 2 = Rat.divInt ((2 * R p q i : Nat) : Int) q := by
              rw [Rat.divInt_eq_div, Rat.div_def, Int.natCast_mul, Rat.intCast_mul]
              have : (((2 : Nat) : Int) : Rat) = 2 := rfl
              grind
            rw [this]
            have := R_lt (p := p) i hq
            exact Sm_of _ _ 9 (by omega) (by omega) (by omega) (by omega)
          have e4 := s_is_less (rq p q i * 2) 1 hs2 ⟨2, by omega, by decide, by decide⟩
          have e6 : fr 1 = .tup [.int 1, .int 1] := rfl
          rw [e6] at e4
          have ew : ∀ μ, F_whole [.v (.int 2)] μ = .ok (fr 2) μ := s_whole 2
          have enx : (if rq p q i * 2 < 1 then (0 : Int) else 1) = ((G p q (i + 1) : Nat) : Int) := by
            have := next_fig (p := p) (q := q) (k := i) hq
            rw [← this]
            by_cases h : rq p q i * 2 < 1 <;> simp [h]
          have hSL : i < SL := by rw [SL_eq]; omega
          have hSL2 : i + 1 < SL := by rw [SL_eq]; omega
          refine ⟨_, _, .inl ⟨.inl (by
            simp -implicitDefEqProofs [dictAt, keyFor, hk, hlook, updD, dr_c, hlen, hput, ew, e3, e4, isL, vals, Mt.f, rqS p q i hq hl, hSL, hSL2]
            (first | done | rfl | exact ⟨rfl, rfl⟩)), ?_, ?_, some (.v x), x2, some (.v (fr (rq p q i * 2))), ?_⟩⟩
          · intro a b h1 h2
            by_cases hb : b < i
            · exact hu a b h1 hb
            · have : b = i := by omega
              subst this
              exact fun he => hr ⟨a, h1, he⟩
          · rw [Gs_succ p q (i + 1), enx]; simp [Di]
          · rfl)
      rcases hI with ⟨hu, -, -⟩ | ⟨m, n, hR, rfl, x1, x2, x3, rfl⟩
      · rw [rngL_len] at hu
        have := un_le hq hu
        omega
      · refine ⟨m, n, hR, ?_⟩
        have hlook := met_look p q n n hq
        rw [find_rep hR] at hlook
        have hk := fr_key (rq p q n)
        have hmn := hR.mn
        have hnq := hR.nq
        have ecut : cut (Di (Gs p q (n + 1))) none (some ((m : Int) + 1)) = (Di (Gs p q (n + 1))).take (m + 1) := cut_hi _ (m + 1)
        have ecut2 : cut (Di (Gs p q (n + 1))) (some ((m : Int) + 1)) none = (Di (Gs p q (n + 1))).drop (m + 1) := cut_lo _ (m + 1)
        have es := s_shortest ((Gs p q (n + 1)).take (m + 1)) ((Gs p q (n + 1)).drop (m + 1)) (by
          intro h0
          have := congrArg List.length h0
          simp at this; omega) (by simp; omega) (by simp; omega)
        rw [show ((Gs p q (n + 1)).take (m + 1)).length = m + 1 by simp; omega, Di, Di, List.map_take, List.map_drop] at es
        simp -implicitDefEqProofs [dictAt, keyFor, hk, hlook, isD, Lk.f, lookD, dr_c, ecut, ecut2, es]
    obtain ⟨m, n, hR, e⟩ := run
    exact ⟨m, n, hR, run_of e⟩
  obtain ⟨m, n, hR, e⟩ := key []
  refine ⟨m, n, hR, fun μ => ?_⟩
  obtain ⟨m', n', hR', e'⟩ := key μ
  obtain ⟨rfl, rfl⟩ : m = m' ∧ n = n' := by
    have hn : n = n' := by
      by_cases h1 : n < n'
      · exact absurd hR.eq (hR'.un m n hR.mn h1)
      · by_cases h2 : n' < n
        · exact absurd hR'.eq (hR.un m' n' hR'.mn h2)
        · omega
    subst hn
    refine ⟨?_, rfl⟩
    have he : R p q m = R p q m' := hR.eq.trans hR'.eq.symm
    by_cases h1 : m < m'
    · exact absurd he (hR.un m m' h1 hR'.mn)
    · by_cases h2 : m' < m
      · exact absurd he.symm (hR.un m' m h2 hR.mn)
      · omega
  exact e'
end Mw

set_option linter.all false
set_option maxRecDepth 100000
namespace Mw
open Wp Lw
/-- the rests up to n -/
def Rs (p q n : Nat) : List D := (List.range n).map fun a => fr (rq p q a)
theorem Rs_succ (p q n : Nat) : Rs p q (n + 1) = Rs p q n ++ [fr (rq p q n)] := by
  unfold Rs; rw [List.range_succ, List.map_append]; rfl
@[simp] theorem Rs_len (p q n : Nat) : (Rs p q n).length = n := by unfold Rs; simp
theorem Rs_get {p q n i : Nat} (h : i < n) : (Rs p q n)[i]? = some (fr (rq p q i)) := by unfold Rs; simp [h]
theorem low_of (a q : Nat) (hq : 0 < q) (hl : q ≤ 200) (ha : a ≤ 400) (μ : Mu) : F__law_low [.v (.int a), .v (.int q)] μ = .ok (fr (Rat.divInt (a : Nat) (q : Nat))) μ :=
  s_law_low a q (by omega) 9 9 (by omega) (by omega) (by omega) (by omega) μ
theorem s_doubled {r : Rat} {p q : Nat} (h : Own r p q) (N : Nat) (h1 : 1 ≤ N) (hN : N ≤ 1000) (μ : Mu) : F__law_doubled [.v (fr r), .v (.int N)] μ = .ok (.tup [.lst (Di (Gs p q N)), .lst (Rs p q N)]) μ := by
  have hq := h.q0
  have hl := h.ql
  have hpq := h.pq
  have d : divOk q = true := divOk_of (by omega) (Nat.lt_of_le_of_lt (show (q : Int).natAbs ≤ 2 ^ 8 by omega) (Nat.pow_lt_pow_right (by omega) (by omega)))
  have hq0 : q ≠ 0 := by omega
  have g0 : ((G p q 0 : Nat) : Int) = (p : Int) / (q : Int) := by
    have e : p / q < 2 := (Nat.div_lt_iff_lt_mul hq).mpr (by omega)
    unfold G
    rw [Nat.pow_zero, Nat.mul_one, Nat.mod_eq_of_lt e]; rfl
  have r0 : ((R p q 0 : Nat) : Int) = (p : Int) % (q : Int) := by unfold R; rw [Nat.pow_zero, Nat.mul_one]; rfl
  have el : ∀ μ, F__law_low [.v (.int ((p : Int) % q)), .v (.int q)] μ = .ok (fr (rq p q 0)) μ := fun μ => by
    rw [← r0]; exact low_of (R p q 0) q hq hl (by have := R_lt (p := p) 0 hq; omega) μ
  have er : rngOf [.int 1, .int N] = some (rngL 1 (N - 1)) := by
    rw [rngOf_two 1 N (by omega) (by omega) (by omega) (by omega)]
    congr 2; omega
  refine run_of ?_
  rw [h.fr]
  simp -implicitDefEqProofs [D__law_doubled, d, hq0, n_fdiv, n_fmod, el, er]
  generalize hf : forGo _ _ _ _ _ = o
  obtain ⟨ρ', μ', rfl, hI⟩ := for_o hf (fun k ρ μ' => μ' = μ ++ [⟨false, .lst (Di (Gs p q (k + 1)))⟩, ⟨false, .lst (Rs p q (k + 1))⟩] ∧ ∃ w x, ρ = [some (.v (.tup [.int p, .int q])), some (.v (.int N)), w, some (.v (.int (R p q k : Nat))), some (.c μ.length), some (.c (μ.length + 1)), x])
    ⟨by simp [Gs, Rs, g0], some (.v (.int ((p : Int) / q))), none, by rw [r0]⟩ (by
    rintro i x hx ρ μ' ⟨rfl, w, y, rfl⟩
    have hi := (rngL_at hx).1
    have hR := R_lt (p := p) i hq
    have m : mulOk 2 ((R p q i : Nat) : Int) = true := small_mul (by decide) (by rw [Int.natAbs_natCast]; exact Nat.lt_of_lt_of_le (show R p q i < 2 ^ 8 by omega) (Nat.pow_le_pow_right (by omega) (by omega)))
    have e1 : ((2 : Int) * ((R p q i : Nat) : Int)).fdiv (q : Int) = ((G p q (i + 1) : Nat) : Int) := by
      rw [G_succ p q i hq, ← n_fdiv]; rfl
    have e2 : ((2 : Int) * ((R p q i : Nat) : Int)).fmod (q : Int) = ((R p q (i + 1) : Nat) : Int) := by
      rw [R_succ p q i, ← n_fmod]; rfl
    have e3 := low_of (R p q (i + 1)) q hq hl (by have := R_lt (p := p) (i + 1) hq; omega)
    have hs : i + 1 < SL := by rw [SL_eq]; omega
    refine ⟨_, by simp; rfl, ?_⟩
    refine ⟨_, _, .inl (by simp -implicitDefEqProofs [m, d, hq0, e1, e2, e3, isL, vals, Mt.f, hs]; (first | done | rfl | exact ⟨rfl, rfl⟩)), ?_, w, some (.v x), rfl⟩
    rw [Gs_succ p q (i + 1), Rs_succ p q (i + 1)]; simp [rq])
  obtain ⟨rfl, w, x, rfl⟩ := hI
  rw [rngL_len, show N - 1 + 1 = N by omega]
  simp -implicitDefEqProofs
theorem per {p q m n : Nat} (h : Rep p q m n) (d : Nat) : R p q (n + d) = R p q (m + d) := by
  rw [R_add, R_add, h.eq]
theorem early {p q m n : Nat} (h : Rep p q m n) {j : Nat} (hj : j < m) : ∀ k, j < k → R p q k ≠ R p q j := by
  intro k
  induction k using Nat.strongRecOn with
  | _ k ih =>
    intro hk
    have hmn := h.mn
    by_cases hkn : k < n
    · exact fun e => h.un j k hk hkn e.symm
    · have e := per h (k - n)
      rw [show n + (k - n) = k by omega] at e
      rw [e]
      exact ih (m + (k - n)) (by omega) (by omega)
theorem find_begin {p q m n N : Nat} (h : Rep p q m n) (hN : n < N) : (List.range N).find? (fun i => ((List.range N).drop (i + 1)).any fun j => decide (R p q j = R p q i)) = some m := by
  have hmn := h.mn
  rw [List.find?_range_eq_some]
  refine ⟨?_, by simp; omega, fun j hj => ?_⟩
  · rw [List.any_eq_true]
    refine ⟨n, ?_, by simpa using h.eq.symm⟩
    rw [List.mem_iff_getElem?]
    refine ⟨n - (m + 1), ?_⟩
    rw [List.getElem?_drop, List.getElem?_range (by omega)]
    congr 1; omega
  · rw [Bool.not_eq_true', List.any_eq_false]
    intro k hk
    rw [List.mem_iff_getElem?] at hk
    obtain ⟨i, hi⟩ := hk
    rw [List.getElem?_drop] at hi
    obtain ⟨h1, h2⟩ := List.getElem?_eq_some_iff.mp hi
    have := early h hj k (by simp at h2; omega)
    simpa using this
end Mw

set_option linter.all false
set_option maxRecDepth 100000
namespace Mw
open Wp Lw
/-- does the i-th rest come again among N -/
def again (p q N i : Nat) : Bool := ((List.range N).drop (i + 1)).any fun j => decide (R p q j = R p q i)
theorem Rs_ok (p q N k : Nat) : D.okNs 59 ((Rs p q N).drop k) = true := by
  unfold Rs
  rw [← List.map_drop]
  exact okNs_map fun a _ => by simp [fr_, D.okN, D.okNs]
theorem fr_eqv' {p q i j : Nat} (hq : 0 < q) : D.eqv (fr (rq p q i)) (fr (rq p q j)) = decide (R p q i = R p q j) := by
  rw [fr_eqv, Bool.eq_iff_iff, decide_eq_true_eq, decide_eq_true_eq]
  exact rq_inj hq
theorem Rs_any (p q N i : Nat) (hq : 0 < q) : ((Rs p q N).drop (i + 1)).any (fun z => D.eqv z (fr (rq p q i))) = again p q N i := by
  unfold Rs again
  rw [← List.map_drop, List.any_map]
  congr 1
  funext j
  exact fr_eqv' hq
theorem find_size {p q m n N : Nat} (hq : 0 < q) (h : Rep p q m n) (hN : n < N) : findD (fr (rq p q m)) 0 ((Rs p q N).drop (m + 1)) = some (n - m - 1) := by
  have hmn := h.mn
  rw [findD_at (y := fr (rq p q n)) (t := n - m - 1) (by rw [List.getElem?_drop, show m + 1 + (n - m - 1) = n by omega, Rs_get hN]) (by rw [fr_eqv' hq]; simpa using h.eq.symm) (by
    intro s hs z hz
    rw [List.getElem?_drop, Rs_get (by omega)] at hz
    simp at hz; subst hz
    rw [fr_eqv' hq]
    have := h.un m (m + 1 + s) (by omega) (by omega)
    simpa using fun e => this e.symm)]
  congr 1; omega
theorem Gs_take (p q N k : Nat) (h : k ≤ N) : (Gs p q N).take k = Gs p q k := by
  unfold Gs; rw [← List.map_take, List.take_range, Nat.min_eq_left h]
theorem again_part {p q m n N : Nat} (hmn : m < n) (hN : n < N) : ((Gs p q N).drop (m + 1)).take (n - m) = (Gs p q (n + 1)).drop (m + 1) := by
  rw [← Gs_take p q N (n + 1) (by omega), List.drop_take]
  congr 1; omega
theorem s_law_figures {r : Rat} {p q m n : Nat} (h : Own r p q) (hR : Rep p q m n) (μ : Mu) : F__law_figures [.v (fr r)] μ = .ok (.tup [.tup (Di (trim (m + 1) ((Gs p q (n + 1)).take (m + 1)) ((Gs p q (n + 1)).drop (m + 1))).1), .tup (Di (trim (m + 1) ((Gs p q (n + 1)).take (m + 1)) ((Gs p q (n + 1)).drop (m + 1))).2)]) μ := by
  have hq := h.q0
  have hl := h.ql
  have hpq := h.pq
  have hmn := hR.mn
  have hnq := hR.nq
  obtain ⟨N, hN⟩ : ∃ N, N = 2 * q + 12 := ⟨_, rfl⟩
  have hN1 : n < N := by omega
  have ed := s_doubled h N (by omega) (by omega)
  rw [h.fr] at ed
  have eN : (2 : Int) * (q : Int) + 12 = (N : Int) := by omega
  have m2 : mulOk 2 (q : Int) = true := small_mul (by decide) (by rw [Int.natAbs_natCast]; exact Nat.lt_of_lt_of_le (show q < 2 ^ 8 by omega) (Nat.pow_le_pow_right (by omega) (by omega)))
  refine run_of ?_
  rw [h.fr]
  simp -implicitDefEqProofs [D__law_figures, m2, eN, ed]
  generalize hr : ev (.lc _ _ _ _ _) _ _ = r'
  have hr := lc_o hr (xs := rngL 0 N) (fun x => match x with | .int i => again p q N i.toNat | _ => false) (fun x => x) (by simp -implicitDefEqProofs [rngOf_nat N (by omega)]) (by rw [rngL_len, SL_eq]; omega) (by
    intro x hx
    obtain ⟨i, hi, rfl⟩ := rngL_mem hx
    refine ⟨_, by simp -implicitDefEqProofs; rfl, fun c => ?_⟩
    simp -implicitDefEqProofs [Rs_get hi, inOf, fr_ok, Rs_ok, Rs_any p q N i hq]
    cases again p q N i <;> rfl)
  subst hr
  have hhead : ((rngL 0 N).filter (fun x => match x with | .int i => again p q N i.toNat | _ => false)).head? = some (.int m) := by
    rw [List.head?_filter, rngL_eq, List.find?_map]
    have : ((fun x : D => match x with | .int i => again p q N i.toNat | _ => false) ∘ fun i : Nat => D.int (i : Int)) = fun i => again p q N i := rfl
    rw [this]
    have := find_begin hR hN1
    unfold again
    rw [this]; rfl
  rw [List.head?_eq_getElem?, ← at_zero] at hhead
  generalize (rngL 0 N).filter _ = fl at hhead ⊢
  have hm1 : (Rs p q N)[m]? = some (fr (rq p q m)) := Rs_get (by omega)
  have hm2 := find_size hq hR hN1
  have c1 : cut (Di (Gs p q N)) (some ((m : Int) + 1)) (some ((m : Int) + 1 + (((n - m - 1 : Nat) : Int) + 1))) = Di ((Gs p q (n + 1)).drop (m + 1)) := by
    have e : cut (Di (Gs p q N)) (some ((m : Int) + 1)) (some ((n : Int) + 1)) = ((Di (Gs p q N)).drop (m + 1)).take (n + 1 - (m + 1)) := cut_lohi _ (m + 1) (n + 1)
    rw [show (m : Int) + 1 + (((n - m - 1 : Nat) : Int) + 1) = (n : Int) + 1 by omega, e, show n + 1 - (m + 1) = n - m by omega, ← again_part hmn hN1]
    simp [Di]
  have c2 : (Di (Gs p q N)).take (m + 1) = Di ((Gs p q (n + 1)).take (m + 1)) := by
    rw [Di, Di, ← List.map_take, Gs_take _ _ _ _ (by omega), Gs_take _ _ _ _ (by omega)]
  have la : ((Gs p q (n + 1)).take (m + 1)).length = m + 1 := by simp; omega
  have lg : ((Gs p q (n + 1)).drop (m + 1)).length = n - m := by simp
  generalize (Gs p q (n + 1)).take (m + 1) = a at *
  generalize (Gs p q (n + 1)).drop (m + 1) = g at *
  have er : rngOf [.int ((m : Int) + 1)] = some (rngL 0 (m + 1)) := rngOf_nat (m + 1) (by omega)
  have l1 : ((List.map D.int a).length : Int) = (m : Int) + 1 := by rw [List.length_map, la]; rfl
  simp -implicitDefEqProofs [hhead, recv, Rs_ok, hm1, hm2, fr_ok, P.f2, c1, c2, la, er]
  generalize hf : forGo _ _ _ _ _ = o
  have hg0 : g ≠ [] := by rintro rfl; simp at lg; omega
  obtain ⟨ρ', μ', rfl, hI⟩ := for_ob hf (fun k ρ μ' => μ' = μ ∧ ∃ (a' g' : List Int) (x y : Option A), ρ = [some (.v (.tup [.int p, .int q])), some (.v (.lst (Di (Gs p q N)))), some (.v (.lst (Rs p q N))), some (.v (.int m)), some (.v (.int (((n - m - 1 : Nat) : Int) + 1))), some (.v (.tup (Di a'))), some (.v (.tup (Di g'))), x, y] ∧ a'.length = m + 1 - k ∧ g'.length = g.length ∧ trim (m + 1 - k) a' g' = trim (m + 1) a g)
    (fun ρ μ' => μ' = μ ∧ ∃ (x y : Option A), ρ = [some (.v (.tup [.int p, .int q])), some (.v (.lst (Di (Gs p q N)))), some (.v (.lst (Rs p q N))), some (.v (.int m)), some (.v (.int (((n - m - 1 : Nat) : Int) + 1))), some (.v (.tup (Di (trim (m + 1) a g).1))), some (.v (.tup (Di (trim (m + 1) a g).2))), x, y]) ⟨rfl, a, g, none, none, rfl, by omega, rfl, rfl⟩ (by
    rintro i x hx ρ μ' ⟨rfl, a', g', y, z, rfl, h1, h2, h3⟩
    have hi := (rngL_at hx).1
    obtain ⟨j, hj⟩ : ∃ j, m + 1 - i = j + 1 := ⟨m - i, by omega⟩
    have ha' : a' ≠ [] := by rintro rfl; simp at h1; omega
    have hg' : g' ≠ [] := by rintro rfl; exact hg0 (List.length_eq_zero_iff.mp (by simpa using h2.symm))
    have ea := List.getLast?_eq_some_getLast ha'
    have eg := List.getLast?_eq_some_getLast hg'
    rw [hj, trim, ea, eg] at h3
    refine ⟨_, by simp; rfl, ?_⟩
    by_cases hh : a'.getLast ha' = g'.getLast hg'
    · rw [if_pos (by rw [hh])] at h3
      have hs : g'.length ≤ SL := by rw [SL_eq]; omega
      have hok : okD (.tup (Di a'.dropLast)) = true := okD_ints _
      by_cases he : a'.dropLast = []
      · have h4 : trim j a'.dropLast (rot g') = (a'.dropLast, rot g') := by
          have : a'.dropLast.length = 0 := by rw [he]; rfl
          rw [List.length_dropLast] at this
          have : j = 0 := by omega
          subst this; rfl
        rw [h4] at h3
        refine ⟨_, _, .inr ⟨by
          simp -implicitDefEqProofs [at_n1, ← List.map_drop, ← List.map_dropLast, cut_hi_n1, cut_lo_n1, ea, eg, hh, hs, eqvs_nil, he]
          (first | done | rfl | exact ⟨rfl, rfl⟩), rfl, some (.v x), z, ?_⟩⟩
        rw [← h3]; simp [rot, he]
      · refine ⟨_, _, .inl ⟨.inl (by
          simp -implicitDefEqProofs [at_n1, ← List.map_drop, ← List.map_dropLast, cut_hi_n1, cut_lo_n1, ea, eg, hh, hs, eqvs_nil, he]
          (first | done | rfl | exact ⟨rfl, rfl⟩)), rfl, a'.dropLast, rot g', some (.v x), z, by simp [rot], ?_, ?_, ?_⟩⟩
        · rw [List.length_dropLast]; omega
        · rw [rot_len]; exact h2
        · rw [show m + 1 - (i + 1) = j by omega]; exact h3
    · rw [if_neg (by simpa using hh)] at h3
      refine ⟨_, _, .inr ⟨by
        simp -implicitDefEqProofs [at_n1, ea, eg, hh]; (first | done | rfl | exact ⟨rfl, rfl⟩), rfl, some (.v x), z, ?_⟩⟩
      rw [← h3])
  rcases hI with ⟨rfl, a', g', x, y, rfl, h1, h2, h3⟩ | ⟨rfl, x, y, rfl⟩
  · rw [rngL_len, Nat.sub_self, trim] at h3
    rw [← h3]
    simp -implicitDefEqProofs
  · simp -implicitDefEqProofs
end Mw

set_option linter.all false
set_option maxRecDepth 100000
namespace Mw
open Wp Lw
theorem S_app : ∀ (l l' : List Int) (b : Nat), S b (l ++ l') = S b l + S (b + l.length) l'
  | [], l', b => by simp [S, Rat.zero_add]
  | x :: l, l', b => by
    rw [List.cons_append, S, S, S_app l l' (b + 1), List.length_cons, show b + 1 + l.length = b + (l.length + 1) by omega]; grind
theorem hf_add (a b : Nat) : hf ^ (a + b) = hf ^ a * hf ^ b := by
  induction b with
  | zero => simp [Rat.mul_one]
  | succ b ih => rw [← Nat.add_assoc, Rat.pow_succ, Rat.pow_succ, ih]; grind
theorem S_shift : ∀ (l : List Int) (b d : Nat), S (b + d) l = hf ^ d * S b l
  | [], b, d => by simp [S, Rat.mul_zero]
  | x :: l, b, d => by
    rw [S, S, show b + d + 1 = b + 1 + d by omega, S_shift l (b + 1) d, hf_add]; grind
theorem S_one (x : Int) (b : Nat) : S b [x] = x * hf ^ b := by simp [S, Rat.add_zero]
/-- the same rest again: a round may be taken ahead -/
theorem V_turn (a g : List Int) (x : Int) : V (a ++ [x]) (g ++ [x]) = V a (x :: g) := by
  unfold V
  have h1 := oneL_ne (m := g.length + 1) (by omega)
  rw [S_app, S_app, S_one, S_one, S]
  simp only [List.length_append, List.length_cons, List.length_nil, Nat.zero_add]
  generalize a.length = k at *
  have e1 : hf ^ (k + 1 + g.length) = hf ^ k * hf ^ (g.length + 1) := by rw [← hf_add]; congr 1; omega
  rw [e1]
  unfold oneL at *
  generalize hf ^ (g.length + 1) = u at *
  generalize S (k + 1) g = s at *
  rw [Rat.div_def, Rat.div_def]
  have h2 := Rat.mul_inv_cancel (1 - u) h1
  grind
theorem V_ahead (a g : List Int) (hg : 1 ≤ g.length) : V (a ++ g) g = V a g := by
  unfold V
  have h1 := oneL_ne hg
  rw [S_app, List.length_append, S_shift g a.length g.length, Nat.zero_add]
  unfold oneL at *
  generalize hf ^ g.length = u at *
  generalize S a.length g = s at *
  rw [Rat.div_def, Rat.div_def]
  have h2 := Rat.mul_inv_cancel (1 - u) h1
  grind
theorem rep_succ {α : Type} (g : List α) (j : Nat) : rep g (j + 1) = g ++ rep g j := by
  unfold rep; rw [List.replicate_succ, List.flatten_cons]
theorem rep_len {α : Type} (g : List α) (j : Nat) : (rep g j).length = j * g.length := by
  induction j with
  | zero => simp [rep]
  | succ j ih => rw [rep_succ, List.length_append, ih, Nat.succ_mul]; omega
theorem S_rep (g : List Int) (k : Nat) : ∀ j, S k (rep g j) * oneL g.length = S k g * oneL (j * g.length)
  | 0 => by simp [rep, S, oneL, Rat.zero_mul]; grind
  | j + 1 => by
    have ih := S_rep g k j
    rw [rep_succ, S_app, S_shift, Nat.succ_mul, Nat.add_comm (j * g.length)]
    unfold oneL at *
    rw [hf_add]
    generalize hf ^ g.length = u at *
    generalize hf ^ (j * g.length) = w at *
    grind
theorem V_rep (a g : List Int) (j : Nat) (hg : 1 ≤ g.length) (hj : 1 ≤ j) : V a (rep g j) = V a g := by
  unfold V
  have h0 : 1 ≤ j * g.length := Nat.mul_pos (by omega) (by omega)
  have h1 := oneL_ne hg
  have h2 := oneL_ne h0
  have h3 := S_rep g a.length j
  rw [rep_len]
  generalize oneL g.length = u at *
  generalize oneL (j * g.length) = w at *
  generalize S a.length (rep g j) = s at *
  generalize S a.length g = t at *
  rw [Rat.div_def, Rat.div_def]
  have h4 := Rat.mul_inv_cancel u h1
  have h5 := Rat.mul_inv_cancel w h2
  grind
theorem V_ones (a : List Int) : V (a ++ [0]) [1] = V (a ++ [1]) [0] := by
  unfold V
  have h1 := oneL_ne (m := 1) (by omega)
  rw [S_app, S_app]
  simp only [S_one, List.length_append, List.length_cons, List.length_nil, Nat.zero_add, hf_add, Rat.pow_one]
  unfold oneL at *
  rw [Rat.pow_one] at *
  generalize hf ^ a.length = u at *
  have e0 : ((0 : Int) : Rat) = 0 := rfl
  have e1 : ((1 : Int) : Rat) = 1 := rfl
  have h2 := hf2
  have h3 : (1 - hf)⁻¹ = 2 := Rat.inv_eq_of_mul_eq_one (by grind)
  rw [Rat.div_def, Rat.div_def, h3, e0, e1]
  grind
theorem snoc_of {l : List Int} (h : l ≠ []) : l = l.dropLast ++ [l.getLast h] := (List.dropLast_concat_getLast h).symm
theorem rot_eq {g : List Int} (h : g ≠ []) : rot g = g.getLast h :: g.dropLast := by
  unfold rot
  have h1 := List.length_pos_iff.mpr h
  rw [List.drop_eq_getElem_cons (by omega), List.drop_of_length_le (by omega), List.getLast_eq_getElem]; rfl
theorem V_trim : ∀ (n : Nat) (a g : List Int), a.length = n → g ≠ [] → V (trim n a g).1 (trim n a g).2 = V a g
  | 0, a, g, _, _ => rfl
  | n + 1, a, g, ha, hg => by
    rw [trim]
    split
    · rename_i hh
      have ha' : a ≠ [] := by rintro rfl; simp at ha
      rw [V_trim n _ _ (by rw [List.length_dropLast]; omega) (by rw [rot_eq hg]; simp)]
      rw [List.getLast?_eq_some_getLast ha', List.getLast?_eq_some_getLast hg] at hh
      injection hh with hh
      rw [rot_eq hg, ← V_turn]
      conv => rhs; rw [snoc_of ha', snoc_of hg, hh]
    · rfl
theorem trim_len : ∀ (n : Nat) (a g : List Int), (trim n a g).1.length ≤ a.length ∧ (trim n a g).2.length = g.length
  | 0, a, g => ⟨Nat.le_refl _, rfl⟩
  | n + 1, a, g => by
    rw [trim]
    split
    · obtain ⟨h1, h2⟩ := trim_len n a.dropLast (rot g)
      rw [List.length_dropLast] at h1
      rw [rot_len] at h2
      exact ⟨by omega, h2⟩
    · exact ⟨Nat.le_refl _, rfl⟩
theorem rot_bits {g : List Int} (h : Bits g) : Bits (rot g) := by
  intro x hx
  unfold rot at hx
  rw [List.mem_append] at hx
  rcases hx with hx | hx
  · exact h x (List.mem_of_mem_drop hx)
  · exact h x (List.dropLast_subset _ hx)
theorem trim_bits : ∀ (n : Nat) (a g : List Int), Bits a → Bits g → Bits (trim n a g).1 ∧ Bits (trim n a g).2
  | 0, a, g, h1, h2 => ⟨h1, h2⟩
  | n + 1, a, g, h1, h2 => by
    rw [trim]
    split
    · exact trim_bits n _ _ (fun x hx => h1 x (List.dropLast_subset _ hx)) (rot_bits h2)
    · exact ⟨h1, h2⟩
theorem rq_step (p q k : Nat) (hq : 0 < q) : rq p q k * 2 = ((G p q (k + 1) : Nat) : Int) + rq p q (k + 1) := by
  unfold rq
  rw [G_succ p q k hq, R_succ, Rat.divInt_eq_div, Rat.divInt_eq_div]
  have h := Nat.div_add_mod (2 * R p q k) q
  generalize R p q k = a at *
  generalize 2 * a / q = d at *
  generalize 2 * a % q = c at *
  have h0 : ((q : Int) : Rat) ≠ 0 := by
    intro h
    have := Rat.intCast_inj.mp (show ((q : Int) : Rat) = ((0 : Int) : Rat) from h)
    omega
  have h1 : (((q : Int) * (d : Int) + (c : Int) : Int) : Rat) = ((2 * (a : Int) : Int) : Rat) := by
    congr 1; rw [← Int.natCast_mul, ← Int.natCast_add, h]; rfl
  rw [Rat.intCast_add, Rat.intCast_mul, Rat.intCast_mul] at h1
  have e2 : ((2 : Int) : Rat) = 2 := rfl
  rw [e2] at h1
  rw [Rat.div_def, Rat.div_def]
  have h2 := Rat.mul_inv_cancel _ h0
  grind
theorem Gs_val {r : Rat} {p q : Nat} (h : Own r p q) : ∀ k, S 0 (Gs p q (k + 1)) + rq p q k * hf ^ k = r
  | 0 => by
    have hq := h.q0
    have hpq := h.pq
    rw [Gs_succ, show Gs p q 0 = [] from rfl, List.nil_append, S_one, Rat.pow_zero]
    rw [h.eq]
    unfold rq G R
    rw [Nat.pow_zero, Nat.mul_one, Rat.divInt_eq_div, Rat.divInt_eq_div]
    have e : p / q < 2 := (Nat.div_lt_iff_lt_mul hq).mpr (by omega)
    rw [Nat.mod_eq_of_lt e]
    have h := Nat.div_add_mod p q
    generalize p / q = d at *
    generalize p % q = c at *
    have h0 : ((q : Int) : Rat) ≠ 0 := by
      intro h
      have := Rat.intCast_inj.mp (show ((q : Int) : Rat) = ((0 : Int) : Rat) from h)
      omega
    have h1 : (((q : Int) * (d : Int) + (c : Int) : Int) : Rat) = ((p : Int) : Rat) := by
      congr 1; rw [← Int.natCast_mul, ← Int.natCast_add, h]
    rw [Rat.intCast_add, Rat.intCast_mul] at h1
    rw [Rat.div_def, Rat.div_def]
    have h2 := Rat.mul_inv_cancel _ h0
    grind
  | k + 1 => by
    have ih := Gs_val h k
    rw [Gs_succ, S_app, S_one, Gs_len, Nat.zero_add, Rat.pow_succ]
    have h1 := rq_step p q k h.q0
    have h2 := hf2
    generalize S 0 (Gs p q (k + 1)) = s at *
    generalize hf ^ k = u at *
    grind
/-- the figures as they come are worth the number -/
theorem V_figs {r : Rat} {p q m n : Nat} (h : Own r p q) (hR : Rep p q m n) : V ((Gs p q (n + 1)).take (m + 1)) ((Gs p q (n + 1)).drop (m + 1)) = r := by
  have hmn := hR.mn
  have h1 := Gs_val h m
  have h2 := Gs_val h n
  have h3 : S 0 (Gs p q (n + 1)) = S 0 (Gs p q (m + 1)) + S (m + 1) ((Gs p q (n + 1)).drop (m + 1)) := by
    conv => lhs; rw [← List.take_append_drop (m + 1) (Gs p q (n + 1)), S_app, Gs_take _ _ _ _ (show m + 1 ≤ n + 1 by omega), Gs_len, Nat.zero_add]
  rw [Gs_take _ _ _ _ (show m + 1 ≤ n + 1 by omega)]
  unfold V
  rw [Gs_len, List.length_drop, Gs_len, show n + 1 - (m + 1) = n - m by omega]
  have h4 := oneL_ne (m := n - m) (by omega)
  have h5 : rq p q n = rq p q m := (rq_inj h.q0).mpr hR.eq.symm
  have h6 : hf ^ n = hf ^ m * hf ^ (n - m) := by rw [← hf_add]; congr 1; omega
  rw [h5, h6, h3] at h2
  unfold oneL at *
  generalize S (m + 1) ((Gs p q (n + 1)).drop (m + 1)) = s at *
  generalize S 0 (Gs p q (m + 1)) = t at *
  generalize hf ^ (n - m) = u at *
  generalize hf ^ m = w at *
  rw [Rat.div_def]
  have h7 := Rat.mul_inv_cancel _ h4
  grind
end Mw

set_option linter.all false
set_option maxRecDepth 100000
namespace Mw
open Wp Lw
/-- of at most k bits -/
def K (k : Nat) (r : Rat) : Prop := r.num.natAbs < 2 ^ k ∧ r.den < 2 ^ k
theorem K.sm {k : Nat} {r : Rat} (h : K k r) (hk : k ≤ 4000) : Sm r := ⟨k, hk, h⟩
theorem K.up {k l : Nat} {r : Rat} (h : K k r) (hk : k ≤ l) : K l r := ⟨lt_up h.1 hk, lt_up h.2 hk⟩
theorem K_of (a b : Int) (k : Nat) (hb : b ≠ 0) (ha : a.natAbs < 2 ^ k) (hb2 : b.natAbs < 2 ^ k) : K k (Rat.divInt a b) := by
  refine ⟨?_, ?_⟩
  · rw [Rat.num_divInt]
    refine Nat.lt_of_le_of_lt ?_ ha
    rw [Int.natAbs_ediv_of_dvd (Int.dvd_mul_of_dvd_right (Int.gcd_dvd_right ..)) ] 
    refine Nat.le_trans (Nat.div_le_self _ _) ?_
    rw [Int.natAbs_mul]
    have : b.sign.natAbs ≤ 1 := by rw [Int.natAbs_sign]; split <;> omega
    have := Nat.mul_le_mul_right a.natAbs this
    omega
  · rw [Rat.den_divInt, if_neg hb]
    exact Nat.lt_of_le_of_lt (Nat.div_le_self _ _) hb2
theorem K_add {a b : Rat} {k l m : Nat} (ha : K k a) (hb : K l b) (hm : k + l + 1 ≤ m) : K m (a + b) := by
  rw [← divInt_add]
  refine (K_of _ _ (k + l + 1) (den_mul_ne a b) ?_ ?_).up hm
  · have h1 := Int.natAbs_add_le (a.num * b.den) (b.num * a.den)
    rw [Int.natAbs_mul, Int.natAbs_mul, Int.natAbs_natCast, Int.natAbs_natCast] at h1
    have h2 := lt_mul (m := k + l) ha.1 hb.2 (by omega)
    have h3 := lt_mul (m := k + l) hb.1 ha.2 (by omega)
    rw [Nat.pow_succ]; omega
  · rw [Int.natAbs_mul, Int.natAbs_natCast, Int.natAbs_natCast]
    exact lt_mul ha.2 hb.2 (by omega)
theorem K_mul {a b : Rat} {k l m : Nat} (ha : K k a) (hb : K l b) (hm : k + l ≤ m) : K m (a * b) := by
  rw [← divInt_mul]
  refine (K_of _ _ (k + l) (den_mul_ne a b) ?_ ?_).up hm
  · rw [Int.natAbs_mul]; exact lt_mul ha.1 hb.1 (by omega)
  · rw [Int.natAbs_mul, Int.natAbs_natCast, Int.natAbs_natCast]
    exact lt_mul ha.2 hb.2 (by omega)
theorem K_h (z : Int) (n k : Nat) (hz : z.natAbs < 2 ^ k) (hn : n < k) : K k (z * hf ^ n) := by
  rw [← divInt_pow]
  exact K_of z (2 ^ n) k (pow_ne n) hz (by rw [Int.natAbs_pow]; exact Nat.pow_lt_pow_right (by decide) hn)
theorem S_K {l : List Int} {b : Nat} (h : Bits l) (hl : l.length ≤ 210) (hb : b ≤ 210) : K 430 (S b l) := by
  obtain ⟨z, e, hz⟩ := S_z l b h
  rw [e]
  exact K_h z _ 430 (by rw [Int.natAbs_natCast]; exact lt_up hz (by omega)) (by omega)
theorem T_K {l : List Int} {b : Nat} (h : Bits l) (hl : l.length ≤ 210) (hb : b ≤ 210) : K 430 (Tk b l) := by
  obtain ⟨z, e, hz⟩ := T_z l b h
  rw [e]
  refine K_h z _ 430 ?_ (by omega)
  rw [Int.natAbs_natCast]
  have : (b + l.length) < 2 ^ 9 := by omega
  have := lt_mul (m := 430) this (Nat.pow_lt_pow_right (a := 2) (m := l.length + 1) (n := l.length + 2) (by omega) (by omega)) (by omega)
  omega
/-- 2 to the power m by that less one -/
def wq (m : Nat) : Rat := Rat.divInt (2 ^ m) (2 ^ m - 1)
theorem over (x : Rat) {m : Nat} (h : 1 ≤ m) : x / oneL m = x * wq m := by
  rw [Rat.div_def, show (oneL m)⁻¹ = 1 / oneL m by rw [Rat.div_def, Rat.one_mul], inv_oneL h]; rfl
theorem nat2 (m : Nat) : ((2:Int) ^ m).natAbs < 2 ^ (m + 1) := by rw [Int.natAbs_pow]; exact Nat.pow_lt_pow_right (by decide) (by omega)
theorem nat2' {m : Nat} (h : 1 ≤ m) : ((2:Int) ^ m - 1).natAbs < 2 ^ (m + 1) := by have := nat2 m; have := two_le h; omega
theorem wq_K {m : Nat} (h : 1 ≤ m) : K (m + 1) (wq m) := by
  have := two_le h
  exact K_of _ _ _ (by omega) (nat2 m) (nat2' h)
theorem int_K (z : Int) (k : Nat) (hz : z.natAbs < 2 ^ k) (h0 : 0 < k) : K k (z : Rat) := by
  have := K_h z 0 k hz h0
  rwa [Rat.pow_zero, Rat.mul_one] at this
theorem inv_K {m : Nat} (h : 1 ≤ m) : K (m + 1) ((((2:Int) ^ m - 1 : Int) : Rat))⁻¹ := by
  have h1 := two_le h
  have e : ((((2:Int) ^ m - 1 : Int) : Rat))⁻¹ = Rat.divInt 1 (2 ^ m - 1) := by
    rw [Rat.divInt_eq_div, Rat.div_def]
    have : ((1 : Int) : Rat) = 1 := rfl
    rw [this, Rat.one_mul]
  rw [e]
  exact K_of _ _ _ (by omega) (Nat.one_lt_two_pow (by omega)) (nat2' h)
/-- what figures cost -/
def Cost (a g : List Int) : Rat := Tk 0 a + Tk a.length g / oneL g.length + ((g.length : Int) : Rat) * (S a.length g / oneL g.length) / (((2:Int) ^ g.length - 1 : Int) : Rat)
theorem Tk_app : ∀ (l l' : List Int) (b : Nat), Tk b (l ++ l') = Tk b l + Tk (b + l.length) l'
  | [], l', b => by simp [Tk, Rat.zero_add]
  | x :: l, l', b => by
    rw [List.cons_append, Tk, Tk, Tk_app l l' (b + 1), List.length_cons, show b + 1 + l.length = b + (l.length + 1) by omega]; grind
theorem Tk_one (x : Int) (b : Nat) : Tk b [x] = ((b : Int) : Rat) * x * hf ^ b := by simp [Tk, Rat.add_zero]
theorem take_snoc {l : List Int} {i : Nat} {x : Int} (h : l[i]? = some x) : l.take (i + 1) = l.take i ++ [x] := by
  rw [List.take_succ, h]; rfl
theorem bit_mul {b : Nat} {x : Int} (hx : x = 0 ∨ x = 1) (hb : b ≤ 1000) : mulOk (b : Int) x = true ∧ ((b : Int) * x).natAbs < 2 ^ 10 := by
  refine ⟨small_mul (by rw [Int.natAbs_natCast]; exact Nat.lt_of_lt_of_le (show b < 2 ^ 10 by omega) (Nat.pow_le_pow_right (by omega) (by omega))) (by rcases hx with rfl | rfl <;> decide), ?_⟩
  rcases hx with rfl | rfl <;> simp <;> omega
theorem term_K {b : Nat} {x : Int} (hx : x = 0 ∨ x = 1) (hb : b ≤ 500) : K 510 (((b : Int) : Rat) * x * hf ^ b) := by rw [← Rat.intCast_mul]; exact K_h _ _ _ (lt_up (bit_mul hx (by omega)).2 (by omega)) (by omega)
theorem term_K1 {b : Nat} {x : Int} (hx : x = 0 ∨ x = 1) (hb : b ≤ 500) : K 510 ((x : Rat) * hf ^ b) := K_h _ _ _ (lt_up (show x.natAbs < 2 ^ 1 by rcases hx with rfl | rfl <;> decide) (by omega)) (by omega)
theorem cost_sm {a g : List Int} (ha : Bits a) (hg : Bits g) (la : a.length ≤ 210) (lg : g.length ≤ 210) (h1 : 1 ≤ g.length) :
    K 430 (Tk 0 a) ∧ K 641 (Tk a.length g / oneL g.length) ∧ K 641 (S a.length g / oneL g.length) ∧ K 700 (((g.length : Int) : Rat) * (S a.length g / oneL g.length)) ∧ K 911 (((g.length : Int) : Rat) * (S a.length g / oneL g.length) / (((2:Int) ^ g.length - 1 : Int) : Rat)) := by
  have hw := (wq_K h1).up (show g.length + 1 ≤ 211 by omega)
  have k2 : K 641 (S a.length g / oneL g.length) := by rw [over _ h1]; exact K_mul (S_K hg lg la) hw (by omega)
  have k3 : K 700 (((g.length : Int) : Rat) * (S a.length g / oneL g.length)) := K_mul (int_K _ 9 (by rw [Int.natAbs_natCast]; omega) (by omega)) k2 (by omega)
  refine ⟨T_K ha la (by omega), by rw [over _ h1]; exact K_mul (T_K hg lg la) hw (by omega), k2, k3, ?_⟩
  rw [Rat.div_def]
  exact K_mul k3 ((inv_K h1).up (show g.length + 1 ≤ 211 by omega)) (by omega)
theorem s_cost_of {r : Rat} {a g : List Int} (hF : ∀ μ, F_figures_of [.v (fr r)] μ = .ok (.tup [.tup (Di a), .tup (Di g)]) μ) (ha : Bits a) (hg : Bits g) (la : a.length ≤ 210) (lg : g.length ≤ 210) (h1 : 1 ≤ g.length) (μ : Mu) :
    F_cost_of [.v (fr r)] μ = .ok (fr (Cost a g)) μ := by
  obtain ⟨c1, c2, c3, c4, c5⟩ := cost_sm ha hg la lg h1
  have e1 := s_sum_of_all (termsT 0 a) (fun j => by rw [termsT_take, rs_termsT, Rat.zero_add]; exact T_sm (ha.take j) (by rw [List.length_take]; omega) (by omega)) (termsT_sm ha (by omega))
  rw [rs_termsT, Rat.zero_add] at e1
  refine run_of ?_
  simp -implicitDefEqProofs [D_cost_of, hF]
  generalize hr : ev (.lc _ _ _ _ _) _ _ = r'
  have hr := lc_o0 hr (xs := enumL 0 (Di a)) eT (by simp -implicitDefEqProofs) (by rw [enumL_len, List.length_map, SL_eq]; omega) (by
      intro x hx
      obtain ⟨i, b, hi, hb, rfl⟩ := enum_mem hx
      refine ⟨_, by simp -implicitDefEqProofs; rfl, fun c => ?_⟩
      have m := (bit_mul (b := i) (ha b (List.mem_of_getElem? hb)) (by omega)).1
      have e := s_by_halves (i * b) i (by omega) (μ ++ [c])
      rw [Rat.intCast_mul] at e
      simp -implicitDefEqProofs [s_whole, m, e, eT])
  subst hr
  rw [enum_termsT a 0]
  simp -implicitDefEqProofs [e1]
  generalize hf' : forGo _ _ _ _ _ = o
  obtain ⟨ρ', μ', rfl, hI⟩ := for_o hf' (fun k ρ μ' => μ' = μ ∧ ∃ x y z, ρ = [some (.v (fr r)), some (.v (.tup (Di a))), some (.v (.tup (Di g))), some (.v (fr (Tk 0 a))), some (.v (.int g.length)), some (.v (fr (Tk a.length (g.take k)))), x, y, none, none, z])
    ⟨rfl, none, none, none, rfl⟩ (by
    rintro i x hx ρ μ' ⟨rfl, y1, y2, y3, rfl⟩
    obtain ⟨y, h2, rfl⟩ := enumL_at hx
    rw [List.getElem?_map, Option.map_eq_some_iff] at h2
    obtain ⟨b, hb, rfl⟩ := h2
    have hi := (List.getElem?_eq_some_iff.mp hb).1
    have hbit := hg b (List.mem_of_getElem? hb)
    have m := (bit_mul (b := a.length + i) hbit (by omega)).1
    have e := s_by_halves ((a.length + i : Nat) * b) (a.length + i) (by omega) μ'
    have e2 := s_sum_of_two (Tk a.length (g.take i)) ((((a.length + i : Nat) : Int) : Rat) * b * hf ^ (a.length + i)) (T_sm (hg.take i) (by rw [List.length_take]; omega) (by omega)) ((term_K hbit (by omega)).sm (by omega)) μ'
    rw [Rat.intCast_mul] at e
    rw [Int.natCast_add] at m
    simp only [Int.natCast_add, Rat.intCast_add] at e e2
    rw [show (0 + i : Nat) = i by omega]
    refine ⟨_, by simp -implicitDefEqProofs; rfl, ?_⟩
    refine ⟨_, _, .inl (by simp -implicitDefEqProofs [s_whole, m, e, e2]; (first | done | rfl | exact ⟨rfl, rfl⟩)), rfl, some (.v (.int i)), some (.v (.int b)), some (.v (.int ((a.length : Int) + (i : Int)))), ?_⟩
    rw [take_snoc hb, Tk_app, Tk_one, List.length_take, Nat.min_eq_left (by omega), Int.natCast_add, Rat.intCast_add])
  obtain ⟨rfl, x, y, z, rfl⟩ := hI
  rw [enumL_len, List.length_map, List.take_length]
  have e3 := s_sum_of_figures g a.length (by omega) hg (by omega) μ'
  have e4 := s_again_and_again (S a.length g) (S_sm hg (by omega) (by omega)) g.length h1 (by omega) μ'
  have e5 := s_product ((g.length : Int) : Rat) (S a.length g / oneL g.length) ((int_K _ 9 (by rw [Int.natAbs_natCast]; omega) (by omega)).sm (by omega)) (c3.sm (by omega)) μ'
  have t2 := two_le h1
  have hz : ((((2:Int) ^ g.length - 1 : Int)) : Rat) ≠ 0 := by
    intro h
    have := Rat.intCast_inj.mp (show ((((2:Int) ^ g.length - 1 : Int)) : Rat) = ((0 : Int) : Rat) from h)
    omega
  have e6 := s_quotient _ (((2:Int) ^ g.length - 1 : Int) : Rat) (c4.sm (by omega)) ((int_K _ (g.length + 1) (nat2' h1) (by omega)).sm (by omega)) hz μ'
  have e7 := s_again_and_again (Tk a.length g) (T_sm hg (by omega) (by omega)) g.length h1 (by omega) μ'
  have e8 := s_sum_of_all [Tk 0 a, Tk a.length g / oneL g.length, ((g.length : Int) : Rat) * (S a.length g / oneL g.length) / (((2:Int) ^ g.length - 1 : Int) : Rat)] (fun j => by
    have z0 : K 1 (0 : Rat) := ⟨by decide, by decide⟩
    match j with
    | 0 => exact z0.sm (by omega)
    | 1 => exact (K_add z0 c1 (m := 500) (by omega)).sm (by omega)
    | 2 => exact (K_add (K_add z0 c1 (m := 500) (by omega)) c2 (m := 1200) (by omega)).sm (by omega)
    | j + 3 => rw [List.take_of_length_le (by simp)]; exact (K_add (K_add (K_add z0 c1 (m := 500) (by omega)) c2 (m := 1200) (by omega)) c5 (m := 2200) (by omega)).sm (by omega)) (by
    intro x hx
    rw [List.mem_cons, List.mem_cons, List.mem_cons] at hx
    rcases hx with rfl | rfl | rfl | hx
    · exact c1.sm (by omega)
    · exact c2.sm (by omega)
    · exact c5.sm (by omega)
    · simp at hx) μ'
  have e9 : rs 0 [Tk 0 a, Tk a.length g / oneL g.length, ((g.length : Int) : Rat) * (S a.length g / oneL g.length) / (((2:Int) ^ g.length - 1 : Int) : Rat)] = Cost a g := by
    unfold Cost; simp [rs, Rat.zero_add]
  rw [e9] at e8
  have ec : (((2:Int) ^ g.length - 1 : Int) : Rat) = 2 ^ g.length - 1 := by simp
  simp only [List.map_cons, List.map_nil] at e8
  rw [ec] at e6 e8
  simp -implicitDefEqProofs [e3, e4, e5, s_whole, s_power g.length (by omega), e6, e7, e8]
theorem s_cost {r : Rat} {p q : Nat} {a g : List Int} (h : Own r p q) (hF : ∀ μ, F_figures_of [.v (fr r)] μ = .ok (.tup [.tup (Di a), .tup (Di g)]) μ) (ha : Bits a) (hg : Bits g) (la : a.length ≤ 210) (lg : g.length ≤ 210) (h1 : 1 ≤ g.length) (μ : Mu) :
    F_cost [.v (fr r)] μ = .ok (fr (Cost a g)) μ := by
  refine run_of ?_
  simp -implicitDefEqProofs [D_cost, s_check_part h, s_cost_of hF ha hg la lg h1]
theorem s_figures {r : Rat} {p q : Nat} {a g : List Int} (h : Own r p q) (hF : ∀ μ, F_figures_of [.v (fr r)] μ = .ok (.tup [.tup (Di a), .tup (Di g)]) μ) (μ : Mu) :
    F_figures [.v (fr r)] μ = .ok (.tup [.tup (Di a), .tup (Di g)]) μ := by
  refine run_of ?_
  simp -implicitDefEqProofs [D_figures, s_check_part h, hF]
theorem low_h (z : Int) (n : Nat) (hz : z.natAbs < 2 ^ 10) (hn : n ≤ 500) (μ : Mu) : F__law_low [.v (.int z), .v (.int (2 ^ n))] μ = .ok (fr (z * hf ^ n)) μ := by
  have e := s_law_low z (2 ^ n) (pow_ne n) 10 (n + 1) hz (nat2 n) (by omega) (by omega) μ
  rwa [divInt_pow] at e
theorem cost_eq (a g : List Int) (h1 : 1 ≤ g.length) : Tk 0 a + (Tk a.length g * wq g.length + S a.length g * Rat.divInt ((g.length : Int) * 2 ^ g.length) ((2 ^ g.length - 1) * (2 ^ g.length - 1))) = Cost a g := by
  unfold Cost
  rw [over _ h1, over _ h1]
  unfold wq
  rw [Rat.divInt_eq_div, Rat.divInt_eq_div]
  have hz : ((((2:Int) ^ g.length - 1 : Int)) : Rat) ≠ 0 := by
    intro h
    have := Rat.intCast_inj.mp (show ((((2:Int) ^ g.length - 1 : Int)) : Rat) = ((0 : Int) : Rat) from h)
    have := two_le h1
    omega
  rw [Rat.intCast_mul, Rat.intCast_mul]
  generalize ((((2:Int) ^ g.length - 1 : Int)) : Rat) = u at *
  generalize (((2:Int) ^ g.length : Int) : Rat) = w at *
  have h2 := Rat.mul_inv_cancel u hz
  have h3 : (u * u)⁻¹ = u⁻¹ * u⁻¹ := Rat.inv_mul_rev u u
  rw [Rat.div_def, Rat.div_def, Rat.div_def, h3]
  grind
theorem s_law_cost (a g : List Int) (ha : Bits a) (hg : Bits g) (la : a.length ≤ 210) (lg : g.length ≤ 210) (h1 : 1 ≤ g.length) (μ : Mu) :
    F__law_cost [.v (.tup [.tup (Di a), .tup (Di g)])] μ = .ok (fr (Cost a g)) μ := by
  refine run_of ?_
  simp -implicitDefEqProofs [D__law_cost, rngOf_nat a.length (by omega)]
  generalize hf' : forGo _ _ _ _ _ = o
  obtain ⟨ρ', μ', rfl, hI⟩ := for_o hf' (fun k ρ μ' => μ' = μ ∧ ∃ x, ρ = [some (.v (.tup [.tup (Di a), .tup (Di g)])), some (.v (.tup (Di a))), some (.v (.tup (Di g))), some (.v (fr (Tk 0 (a.take k)))), some (.v (fr 0)), some (.v (fr 0)), x, none, none, none])
    ⟨rfl, none, rfl⟩ (by
    rintro i x hx ρ μ' ⟨rfl, y1, rfl⟩
    obtain ⟨hi, rfl⟩ := rngL_at hx
    rw [Int.zero_add]
    obtain ⟨b, hb⟩ : ∃ b, a[i]? = some b := ⟨_, List.getElem?_eq_getElem hi⟩
    have hbit := ha b (List.mem_of_getElem? hb)
    have m := bit_mul (b := i) hbit (by omega)
    have e := low_h (i * b) i m.2 (by omega) μ'
    have e2 := s_law_add (Tk 0 (a.take i)) (((i : Int) : Rat) * b * hf ^ i) (T_sm (ha.take i) (by rw [List.length_take]; omega) (by omega)) ((term_K hbit (by omega)).sm (by omega)) μ'
    rw [Rat.intCast_mul] at e
    refine ⟨_, by simp -implicitDefEqProofs; rfl, ?_⟩
    refine ⟨_, _, .inl (by simp -implicitDefEqProofs [hb, m.1, s_law_power i (by omega), e, e2]; (first | done | rfl | exact ⟨rfl, rfl⟩)), rfl, some (.v (.int i)), ?_⟩
    rw [take_snoc hb, Tk_app, Tk_one, List.length_take, Nat.min_eq_left (by omega), Nat.zero_add])
  obtain ⟨rfl, x, rfl⟩ := hI
  rw [rngL_len, List.take_length]
  simp -implicitDefEqProofs [rngOf_nat g.length (by omega)]
  generalize hf'' : forGo _ _ _ _ _ = o
  obtain ⟨ρ', μ', rfl, hI⟩ := for_o hf'' (fun k ρ μ2 => μ2 = μ' ∧ ∃ x y, ρ = [some (.v (.tup [.tup (Di a), .tup (Di g)])), some (.v (.tup (Di a))), some (.v (.tup (Di g))), some (.v (fr (Tk 0 a))), some (.v (fr (Tk a.length (g.take k)))), some (.v (fr (S a.length (g.take k)))), x, y, none, none])
    ⟨rfl, x, none, rfl⟩ (by
    rintro i x hx ρ μ' ⟨rfl, y1, y2, rfl⟩
    obtain ⟨hi, rfl⟩ := rngL_at hx
    rw [Int.zero_add]
    obtain ⟨b, hb⟩ : ∃ b, g[i]? = some b := ⟨_, List.getElem?_eq_getElem hi⟩
    have hbit := hg b (List.mem_of_getElem? hb)
    have m := bit_mul (b := a.length + i) hbit (by omega)
    have e := low_h ((a.length + i : Nat) * b) (a.length + i) m.2 (by omega) μ'
    have e1 := low_h b (a.length + i) (by rcases hbit with rfl | rfl <;> decide) (by omega) μ'
    have e2 := s_law_add (Tk a.length (g.take i)) ((((a.length + i : Nat) : Int) : Rat) * b * hf ^ (a.length + i)) (T_sm (hg.take i) (by rw [List.length_take]; omega) (by omega)) ((term_K hbit (by omega)).sm (by omega)) μ'
    have e3 := s_law_add (S a.length (g.take i)) ((b : Rat) * hf ^ (a.length + i)) (S_sm (hg.take i) (by rw [List.length_take]; omega) (by omega)) ((term_K1 hbit (by omega)).sm (by omega)) μ'
    have ep := s_law_power (a.length + i) (by omega) μ'
    have m1 := m.1
    rw [Rat.intCast_mul] at e
    simp only [Int.natCast_add, Rat.intCast_add] at e e2 m1 ep
    refine ⟨_, by simp -implicitDefEqProofs; rfl, ?_⟩
    refine ⟨_, _, .inl (by simp -implicitDefEqProofs [hb, m1, ep, e, e1, e2, e3]; (first | done | rfl | exact ⟨rfl, rfl⟩)), rfl, some (.v (.int ((a.length : Int) + (i : Int)))), some (.v (.int i)), ?_⟩
    rw [take_snoc hb, Tk_app, Tk_one, S_app, S_one, List.length_take, Nat.min_eq_left (by omega), Int.natCast_add, Rat.intCast_add])
  obtain ⟨rfl, x, y, rfl⟩ := hI
  rw [rngL_len, List.take_length]
  have t2 := two_le h1
  have m1 : mulOk (g.length : Int) (2 ^ g.length) = true := mul4 8 (g.length + 1) (by omega) (nat2 _) (by omega) (by omega)
  have m2 : mulOk (2 ^ g.length - 1) (2 ^ g.length - 1) = true := mul4 (g.length + 1) (g.length + 1) (nat2' h1) (nat2' h1) (by omega) (by omega)
  have b1 : ((g.length : Int) * 2 ^ g.length).natAbs < 2 ^ (g.length + 9) := by
    rw [Int.natAbs_mul, Int.natAbs_natCast]
    exact lt_mul (show g.length < 2 ^ 8 by omega) (nat2 g.length) (by omega)
  have b2 : (((2:Int) ^ g.length - 1) * (2 ^ g.length - 1)).natAbs < 2 ^ (2 * g.length + 2) := by
    rw [Int.natAbs_mul]
    exact lt_mul (nat2' h1) (nat2' h1) (by omega)
  have e1 := s_law_low ((g.length : Int) * 2 ^ g.length) ((2 ^ g.length - 1) * (2 ^ g.length - 1)) (Int.mul_ne_zero (by omega) (by omega)) _ _ b1 b2 (by omega) (by omega) μ'
  have k1 : K 430 (Rat.divInt ((g.length : Int) * 2 ^ g.length) ((2 ^ g.length - 1) * (2 ^ g.length - 1))) := K_of _ _ _ (Int.mul_ne_zero (by omega) (by omega)) (lt_up b1 (by omega)) (lt_up b2 (by omega))
  have e2 := s_law_mul (S a.length g) _ ((S_K hg lg la).sm (by omega)) (k1.sm (by omega)) μ'
  have e3 := s_law_low (2 ^ g.length) (2 ^ g.length - 1) (by omega) _ _ (nat2 g.length) (nat2' h1) (by omega) (by omega) μ'
  have kw := (wq_K h1).up (show g.length + 1 ≤ 211 by omega)
  have e4 := s_law_mul (Tk a.length g) (wq g.length) ((T_K hg lg la).sm (by omega)) (kw.sm (by omega)) μ'
  have k5 : K 700 (Tk a.length g * wq g.length) := K_mul (T_K hg lg la) kw (by omega)
  have k6 : K 900 (S a.length g * Rat.divInt ((g.length : Int) * 2 ^ g.length) ((2 ^ g.length - 1) * (2 ^ g.length - 1))) := K_mul (S_K hg lg la) k1 (by omega)
  have e5 := s_law_add _ _ (k5.sm (by omega)) (k6.sm (by omega)) μ'
  have e6 := s_law_add (Tk 0 a) _ ((T_K ha la (by omega)).sm (by omega)) ((K_add k5 k6 (m := 1700) (by omega)).sm (by omega)) μ'
  rw [cost_eq a g h1] at e6
  rw [show Rat.divInt (2 ^ g.length) (2 ^ g.length - 1) = wq g.length from rfl] at e3
  generalize Rat.divInt ((g.length : Int) * 2 ^ g.length) ((2 ^ g.length - 1) * (2 ^ g.length - 1)) = big at *
  simp -implicitDefEqProofs [s_law_power g.length (by omega), m1, m2, e1, e2, e3, e4, e5, e6]
end Mw

set_option linter.all false
set_option maxRecDepth 100000
namespace Mw
open Wp Lw
theorem take_is : D__law_take = Dtake 48271 613 69621 30323 19 5 := rfl
theorem tk (l : List D) (cs : List Cell) (many : Int) (hl : Pot l) (hm : 0 < many) (hm2 : many < 1000000) :
    ∃ (r : Nat) (l' : List D), F__law_take [.c 0, .v (.int many)] (⟨false, .lst l⟩ :: cs) = .ok (.int r) (⟨false, .lst l'⟩ :: cs) ∧ (r : Int) < many ∧ Pot l' := by
  obtain ⟨r, l', e, h1, h2, h3⟩ := s_take 48271 613 69621 30323 19 5 (by decide) (by decide) (by decide) (by decide) (⟨false, .lst l⟩ :: cs) 0 l many rfl hl hm (Nat.lt_of_lt_of_le (show many.natAbs < 2 ^ 20 by omega) (Nat.pow_le_pow_right (by omega) (by omega)))
  refine ⟨r.toNat, l', ?_, by omega, h3⟩
  rw [Int.toNat_of_nonneg h1]
  exact e
theorem own_of (p q : Nat) (hq : 0 < q) (hl : q ≤ 200) (hp : p ≤ q) : ∃ p' q', Own (Rat.divInt p q) p' q' := by
  refine ⟨(Rat.divInt p q).num.toNat, (Rat.divInt p q).den, ?_, rfl, Rat.den_pos _, ?_, ?_⟩
  · rw [Int.toNat_of_nonneg]
    exact Rat.num_nonneg.mpr (Rat.divInt_nonneg (by omega) (by omega))
  · rw [Rat.den_divInt, if_neg (by omega)]
    exact Nat.le_trans (Nat.div_le_self _ _) (by omega)
  · rw [Rat.num_divInt, Rat.den_divInt, if_neg (by omega), Int.sign_eq_one_of_pos (by omega), Int.one_mul, ← Int.natCast_ediv, Int.toNat_natCast]
    exact Nat.div_le_div_right (by omega)
theorem s_part (l : List D) (cs : List Cell) (hl : Pot l) : ∃ r p q l', Own r p q ∧ F__law_part [.c 0] (⟨false, .lst l⟩ :: cs) = .ok (fr r) (⟨false, .lst l'⟩ :: cs) ∧ Pot l' := by
  obtain ⟨w, l1, e1, h1, hl1⟩ := tk l cs 6 hl (by omega) (by omega)
  have hlen : ∀ l, (⟨false, .lst l⟩ :: cs : Mu).take (cs.length + 1) = ⟨false, .lst l⟩ :: cs := fun l => List.take_of_length_le (by simp)
  by_cases h0 : w = 0
  · subst h0
    obtain ⟨v, l2, e2, h2, hl2⟩ := tk l1 cs 3 hl1 (by omega) (by omega)
    have hv : v = 0 ∨ v = 1 ∨ v = 2 := by omega
    rcases hv with rfl | rfl | rfl
    · refine ⟨0, 0, 1, l2, ⟨rfl, rfl, by omega, by omega, by omega⟩, run_of ?_, hl2⟩
      simp -implicitDefEqProofs [D__law_part, e1, e2, hlen, fr_]
    · refine ⟨1, 1, 1, l2, ⟨rfl, rfl, by omega, by omega, by omega⟩, run_of ?_, hl2⟩
      simp -implicitDefEqProofs [D__law_part, e1, e2, hlen, fr_]
    · refine ⟨Rat.divInt 1 2, 1, 2, l2, ⟨by decide, by decide, by omega, by omega, by omega⟩, run_of ?_, hl2⟩
      simp -implicitDefEqProofs [D__law_part, e1, e2, hlen, fr_]
      decide
  · have fin : ∀ (b : Nat) l2, Pot l2 → 0 < b → b ≤ 200 → ∃ r p q l', Own r p q ∧ Pot l' ∧ fin (cs.length + 1) (exs (cs.length + 1) [S.ret (E.call "_law_low" F__law_low [E.call "_law_take" F__law_take [E.var 0, E.prim P.add [E.var 2, E.k (D.int 1)]], E.var 2])] [some (.c 0), some (.v (.int w)), some (.v (.int b))] (⟨false, .lst l2⟩ :: cs)) = .ok (fr r) (⟨false, .lst l'⟩ :: cs) := by
      intro b l2 hl2 hb hb2
      obtain ⟨v, l3, e3, h3, hl3⟩ := tk l2 cs (b + 1) hl2 (by omega) (by omega)
      obtain ⟨p, q, ho⟩ := own_of v b hb hb2 (by omega)
      refine ⟨_, p, q, l3, ho, hl3, ?_⟩
      have e4 := low_of v b hb hb2 (by omega)
      simp -implicitDefEqProofs [e3, e4, hlen]
    by_cases h1' : w = 1
    · subst h1'
      obtain ⟨v, l2, e2, h2, hl2⟩ := tk l1 cs 5 hl1 (by omega) (by omega)
      have hv : v = 0 ∨ v = 1 ∨ v = 2 ∨ v = 3 ∨ v = 4 := by omega
      have a3 : ∀ (a b c d e : D), atI [a, b, c, d, e] 3 = some d := fun a b c d e => atN [a, b, c, d, e] 3
      have a4 : ∀ (a b c d e : D), atI [a, b, c, d, e] 4 = some e := fun a b c d e => atN [a, b, c, d, e] 4
      rcases hv with rfl | rfl | rfl | rfl | rfl
      · obtain ⟨r, p, q, l', ho, hp, e⟩ := fin 128 l2 hl2 (by omega) (by omega)
        refine ⟨r, p, q, l', ho, run_of (Eq.trans ?_ e), hp⟩
        simp -implicitDefEqProofs [D__law_part, e1, e2]
      · obtain ⟨r, p, q, l', ho, hp, e⟩ := fin 64 l2 hl2 (by omega) (by omega)
        refine ⟨r, p, q, l', ho, run_of (Eq.trans ?_ e), hp⟩
        simp -implicitDefEqProofs [D__law_part, e1, e2]
      · obtain ⟨r, p, q, l', ho, hp, e⟩ := fin 96 l2 hl2 (by omega) (by omega)
        refine ⟨r, p, q, l', ho, run_of (Eq.trans ?_ e), hp⟩
        simp -implicitDefEqProofs [D__law_part, e1, e2]
      · obtain ⟨r, p, q, l', ho, hp, e⟩ := fin 160 l2 hl2 (by omega) (by omega)
        refine ⟨r, p, q, l', ho, run_of (Eq.trans ?_ e), hp⟩
        simp -implicitDefEqProofs [D__law_part, e1, e2, a3]
      · obtain ⟨r, p, q, l', ho, hp, e⟩ := fin 192 l2 hl2 (by omega) (by omega)
        refine ⟨r, p, q, l', ho, run_of (Eq.trans ?_ e), hp⟩
        simp -implicitDefEqProofs [D__law_part, e1, e2, a4]
    · obtain ⟨v, l2, e2, h2, hl2⟩ := tk l1 cs 200 hl1 (by omega) (by omega)
      obtain ⟨r, p, q, l', ho, hp, e⟩ := fin (1 + v) l2 hl2 (by omega) (by omega)
      refine ⟨r, p, q, l', ho, run_of (Eq.trans ?_ e), hp⟩
      have h1'' : ¬ ((w : Int) = 1) := by omega
      simp -implicitDefEqProofs [D__law_part, e1, e2, h0, h1'']
end Mw

set_option linter.all false
set_option maxRecDepth 100000
namespace Mw
open Wp Lw
theorem same_is : ∀ k, G__law_same k = Gsame k
  | 0 => rfl
  | k + 1 => by rw [G__law_same, Gsame, same_is k]; rfl
theorem same_ok (d : D) (h : D.plN 20 d = true) (μ : Mu) : F__law_same [.v d, .v d] μ = .ok (.bl true) μ := by
  show G__law_same 40 _ _ = _
  rw [same_is]
  exact s_same 20 40 d h (by omega) μ
theorem pl_int (n : Nat) (i : Int) : D.plN n (.int i) = true := by cases n <;> rw [D.plN]
theorem pl_fr (n : Nat) (r : Rat) : D.plN (n + 1) (fr r) = true := by
  rw [fr_, D.plN]; simp [D.plNs, pl_int]
theorem pl_ints (n : Nat) (l : List Int) (h : l.length ≤ 1000000) : D.plN (n + 1) (.tup (Di l)) = true := by
  rw [D.plN, plNs_all (fun d hd => by
    rw [List.mem_map] at hd
    obtain ⟨a, _, rfl⟩ := hd
    exact pl_int n a)]
  simp [h]
/-- figures that the law may tell, worth r -/
structure Told (r : Rat) (x : D) : Prop where
  ex : ∃ a g : List Int, x = .tup [.tup (Di a), .tup (Di g)] ∧ Bits a ∧ Bits g ∧ a.length ≤ 600 ∧ g.length ≤ 600 ∧ 1 ≤ g.length ∧ V a g = r
theorem own_sm {r : Rat} {p q : Nat} (h : Own r p q) : Sm r := by
  rw [h.eq]
  have := h.q0; have := h.ql; have := h.pq
  exact Sm_of _ _ 9 (by omega) (by omega) (by omega) (by omega)
theorem own_le {r : Rat} {p q : Nat} (h : Own r p q) : r ≤ 1 := by
  have h1 : (0 : Rat) < ((q : Int) : Rat) := Rat.intCast_pos.mpr (by have := h.q0; omega)
  rw [← Rat.not_lt, h.eq, Rat.divInt_eq_div, Rat.lt_div_iff h1, Rat.one_mul, Rat.intCast_lt_intCast]
  have := h.pq
  omega
theorem told_ok {r : Rat} {p q : Nat} {a g : List Int} (h : Own r p q) (ha : Bits a) (hg : Bits g) (la : a.length ≤ 600) (lg : g.length ≤ 600) (h1 : 1 ≤ g.length) (hv : V a g = r) (μ : Mu) :
    F_number [.v (.tup [.tup (Di a), .tup (Di g)])] μ = .ok (fr r) μ := by
  rw [← hv]
  exact s_number a g ha hg la lg h1 (by rw [hv]; exact own_le h) (by rw [hv]; exact own_sm h) μ
theorem bits_app {a b : List Int} (ha : Bits a) (hb : Bits b) : Bits (a ++ b) := fun x hx => by
  rw [List.mem_append] at hx
  exact hx.elim (ha x) (hb x)
theorem bits_rep {g : List Int} (hg : Bits g) (j : Nat) : Bits (rep g j) := fun x hx => by
  unfold rep at hx
  rw [List.mem_flatten] at hx
  obtain ⟨l, h1, h2⟩ := hx
  rw [List.mem_replicate] at h1
  rw [h1.2] at h2
  exact hg x h2
theorem told_lists {r : Rat} {a g : List Int} (ha : Bits a) (hg : Bits g) (la : a.length ≤ 200) (lg : g.length ≤ 200) (h1 : 1 ≤ g.length) (hv : V a g = r) (j : Nat) (hj : 1 ≤ j) (hj3 : j ≤ 3) :
    Told r (.tup [.tup (Di (a ++ g)), .tup (Di g)]) ∧ Told r (.tup [.tup (Di a), .tup (Di (rep g j))]) ∧ Told r (.tup [.tup (Di (a ++ g.take 1)), .tup (Di (g.drop 1 ++ g.take 1))]) := by
  refine ⟨⟨a ++ g, g, rfl, bits_app ha hg, hg, by rw [List.length_append]; omega, by omega, h1, by rw [V_ahead _ _ h1]; exact hv⟩, ⟨a, rep g j, rfl, ha, bits_rep hg j, by omega, ?_, ?_, by rw [V_rep a g j h1 hj]; exact hv⟩, ?_⟩
  · rw [rep_len]
    have := Nat.mul_le_mul hj3 lg
    omega
  · rw [rep_len]
    exact Nat.mul_pos (by omega) (by omega)
  · match g, h1 with
    | x :: g, _ =>
      have hx := hg x List.mem_cons_self
      have b1 : Bits [x] := fun y hy => by
        rw [List.mem_singleton] at hy; subst hy; exact hx
      refine ⟨a ++ [x], g ++ [x], rfl, bits_app ha b1, bits_app hg.tail b1, ?_, ?_, ?_, by rw [V_turn]; exact hv⟩
      · rw [List.length_append]; simp; omega
      · rw [List.length_append]; simp at lg ⊢; omega
      · rw [List.length_append]; simp
theorem told_ones {r : Rat} {a : List Int} (ha : Bits a) (la : a.length ≤ 200) (hl : a.getLast? = some 1) (hv : V a [0] = r) : Told r (.tup [.tup (Di (a.dropLast ++ [0])), .tup (Di [1])]) := by
  have h0 : a ≠ [] := by rintro rfl; simp at hl
  have e := snoc_of h0
  have h1 : a.getLast h0 = 1 := by
    rw [List.getLast?_eq_some_getLast h0] at hl
    injection hl
  rw [h1] at e
  refine ⟨a.dropLast ++ [0], [1], rfl, bits_app (fun x hx => ha x (List.dropLast_subset _ hx)) (fun y hy => ?_), fun y hy => ?_, ?_, by simp, by simp, ?_⟩
  · simp at hy; exact .inl hy
  · simp at hy; exact .inr hy
  · rw [List.length_append, List.length_dropLast]; simp; omega
  · rw [V_ones, ← e]; exact hv
theorem eqvs_ints : ∀ (a b : List Int), D.eqvs (Di a) (Di b) = decide (a = b)
  | [], [] => by simp [D.eqvs]
  | [], x :: b => by simp [D.eqvs]
  | x :: a, [] => by simp [D.eqvs]
  | x :: a, y :: b => by
    rw [Di, Di, List.map_cons, List.map_cons, D.eqvs, eqv_int, eqvs_ints a b, Bool.eq_iff_iff]
    simp
end Mw

set_option linter.all false
set_option maxRecDepth 100000
namespace Mw
open Wp Lw
/-- one turn of the law -/
def lawB : List Wp.S := match D_law.body with
  | [_, .for _ _ b, _] => b
  | _ => []
theorem figs {r : Rat} {p q : Nat} (h : Own r p q) : ∃ a g : List Int, (∀ μ, F_figures_of [.v (fr r)] μ = .ok (.tup [.tup (Di a), .tup (Di g)]) μ) ∧ (∀ μ, F__law_figures [.v (fr r)] μ = .ok (.tup [.tup (Di a), .tup (Di g)]) μ) ∧
    Bits a ∧ Bits g ∧ a.length ≤ 200 ∧ g.length ≤ 200 ∧ 1 ≤ g.length ∧ V a g = r := by
  obtain ⟨m, n, hR, hF⟩ := s_figures_of h
  have hmn := hR.mn
  have hnq := hR.nq
  have hl := h.ql
  have hL := s_law_figures h hR
  have hg : (Gs p q (n + 1)).drop (m + 1) ≠ [] := by
    intro h0
    have := congrArg List.length h0
    simp at this; omega
  have la : ((Gs p q (n + 1)).take (m + 1)).length = m + 1 := by simp; omega
  have lg : ((Gs p q (n + 1)).drop (m + 1)).length = n - m := by simp
  have hv := V_trim (m + 1) ((Gs p q (n + 1)).take (m + 1)) ((Gs p q (n + 1)).drop (m + 1)) la hg
  rw [V_figs h hR] at hv
  obtain ⟨t1, t2⟩ := trim_len (m + 1) ((Gs p q (n + 1)).take (m + 1)) ((Gs p q (n + 1)).drop (m + 1))
  obtain ⟨b1, b2⟩ := trim_bits (m + 1) ((Gs p q (n + 1)).take (m + 1)) ((Gs p q (n + 1)).drop (m + 1)) ((Gs_bits p q (n + 1)).take _) (fun x hx => Gs_bits p q (n + 1) x (List.mem_of_mem_drop hx))
  exact ⟨_, _, hF, hL, b1, b2, by omega, by omega, by omega, hv⟩
theorem Gs_get {p q N k : Nat} (h : k < N) : (Di (Gs p q N))[k]? = some (.int (G p q k : Nat)) := by unfold Gs Di; simp [h]
theorem part1 (F : D) (l : List D) (c1 : Cell) (x2 x3 x4 x5 x6 x7 x8 x9 x10 x11 x12 : Option A) (hl : Pot l) :
    ∃ r p q l' y6 y12 y4 y5, Own r p q ∧ Pot l' ∧ exs 0 (lawB.take 3) [some (.v F), some (.c 0), x2, x3, x4, x5, x6, x7, x8, x9, x10, x11, x12] [⟨false, .lst l⟩, c1] =
      .nx [some (.v F), some (.c 0), x2, some (.v (fr r)), y4, y5, y6, x7, x8, x9, x10, x11, y12] [⟨false, .lst l'⟩, c1] := by
  obtain ⟨r, p, q, l1, ho, e1, hl1⟩ := s_part l [c1] hl
  obtain ⟨k1, l2, e2, hk1, hl2⟩ := tk l1 [c1] 20 hl1 (by omega) (by omega)
  obtain ⟨k2, l3, e3, hk2, hl3⟩ := tk l2 [c1] 221 hl2 (by omega) (by omega)
  have ed : ∀ μ, F__law_doubled [.v (fr r), .v (.int 301)] μ = .ok (.tup [.lst (Di (Gs p q 301)), .lst (Rs p q 301)]) μ := s_doubled ho 301 (by omega) (by omega)
  refine ⟨r, p, q, l3, ?_⟩
  generalize hx : exs 0 _ _ _ = o
  simp -implicitDefEqProofs [lawB, D_law, e1, e2, e3, ed] at hx
  generalize hf : forGo _ _ _ _ _ = o2 at hx
  obtain ⟨ρ', μ', rfl, hI⟩ := for_o hf (fun k ρ μ' => μ' = [⟨false, .lst l3⟩, c1] ∧ ∃ y6 y12, ρ = [some (.v F), some (.c 0), x2, some (.v (fr r)), some (.v (.lst (Di (Gs p q 301)))), some (.v (.lst (Rs p q 301))), y6, x7, x8, x9, x10, x11, y12])
    ⟨rfl, x6, x12, rfl⟩ (by
    rintro i x hx ρ μ' ⟨rfl, y1, y2, rfl⟩
    obtain ⟨k, rfl, hk⟩ : ∃ k : Nat, x = .int k ∧ k ≤ 300 := by
      have := List.mem_of_getElem? hx
      simp at this
      rcases this with rfl | rfl | rfl | rfl | rfl
      · exact ⟨0, rfl, by omega⟩
      · exact ⟨1, rfl, by omega⟩
      · exact ⟨k1, rfl, by omega⟩
      · exact ⟨80 + k2, by simp, by omega⟩
      · exact ⟨300, rfl, by omega⟩
    have f1 := s_figure ho k (by omega)
    have f2 := s_rest ho k (by omega)
    have g1 := Gs_get (p := p) (q := q) (N := 301) (k := k) (by omega)
    have g2 := Rs_get (p := p) (q := q) (n := 301) (i := k) (by omega)
    have hs := same_ok (.lst [.int (G p q k : Nat), fr (rq p q k), .int (G p q k : Nat), fr (rq p q k)]) (by
      rw [D.plN]; simp [D.plNs, pl_int, pl_fr])
    refine ⟨_, by simp -implicitDefEqProofs; rfl, ?_⟩
    refine ⟨_, _, .inl (by simp -implicitDefEqProofs [f1, f2, g1, g2, permute, rep, hs, SL_eq]; (first | done | rfl | exact ⟨rfl, rfl⟩)), rfl, some (.v (.int k)), _, rfl⟩)
  obtain ⟨rfl, y6, y12, rfl⟩ := hI
  simp -implicitDefEqProofs at hx
  subst hx
  exact ⟨y6, y12, _, _, ho, hl3, rfl⟩
end Mw

set_option linter.all false
set_option maxRecDepth 100000
namespace Mw
open Wp Lw
theorem fr_idx0 (r : Rat) : P.f2 .idx (fr r) (.int 0) = some (.int r.num) := by rw [fr_]; simp
theorem pls_ints (n : Nat) (l : List Int) : D.plNs n (Di l) = true := plNs_all fun d hd => by
  rw [List.mem_map] at hd
  obtain ⟨a, _, rfl⟩ := hd
  exact pl_int n a
theorem part2 {r : Rat} {p q : Nat} (h : Own r p q) {a g : List Int} (hF : ∀ μ, F_figures_of [.v (fr r)] μ = .ok (.tup [.tup (Di a), .tup (Di g)]) μ) (hL : ∀ μ, F__law_figures [.v (fr r)] μ = .ok (.tup [.tup (Di a), .tup (Di g)]) μ)
    (ha : Bits a) (hg : Bits g) (la : a.length ≤ 200) (lg : g.length ≤ 200) (h1 : 1 ≤ g.length) (hv : V a g = r) (F : D) (l : List D) (c1 : Cell) (x2 x4 x5 x6 x7 x8 x9 x10 x11 x12 : Option A) (hl : Pot l) :
    ∃ l' L y2 y4 y5 y6 y8 y9 y11 y12, Pot l' ∧ (∀ x ∈ L, Told r x) ∧ exs 0 ((lawB.drop 3).take 5) [some (.v F), some (.c 0), x2, some (.v (fr r)), x4, x5, x6, x7, x8, x9, x10, x11, x12] [⟨false, .lst l⟩, c1] =
      .nx [some (.v F), some (.c 0), y2, some (.v (fr r)), y4, y5, y6, some (.v (.tup [.tup (Di a), .tup (Di g)])), y8, y9, some (.c 1), y11, y12] [⟨false, .lst l'⟩, ⟨false, .lst L⟩] := by
  obtain ⟨j, l1, e1, hj, hl1⟩ := tk l [c1] 3 hl (by omega) (by omega)
  obtain ⟨t1, t2, t3⟩ := told_lists ha hg la lg h1 hv (1 + j) (by omega) (by omega)
  have f1 := s_figures h hF
  have f2 := told_ok h ha hg (by omega) (by omega) h1 hv
  have hs := same_ok (.lst [.tup [.tup (Di a), .tup (Di g)], .tup [.tup (Di a), .tup (Di g)], fr r, fr r]) (by
    rw [D.plN]; simp [D.plNs, pl_fr, D.plN, pls_ints]; omega)
  have s3 : 3 < SL := by rw [SL_eq]; omega
  have z1 : a.length + g.length ≤ SL := by rw [SL_eq]; omega
  have z2 : a.length + min 1 g.length ≤ SL := by rw [SL_eq]; omega
  have z3 : g.length - 1 + min 1 g.length ≤ SL := by rw [SL_eq]; omega
  have hg0 : g ≠ [] := by rintro rfl; simp at h1
  have hrep : rep (Di g) (1 + (j : Int)).toNat = Di (rep g (1 + j)) := by
    rw [show (1 + (j : Int)).toNat = 1 + j by omega]
    unfold rep
    rw [Di, Di, List.map_flatten, List.map_replicate]
  have ok0 : okD (.tup [.int 0]) = true := okD_ints [0]
  have eg0 : D.eqvs (Di g) [.int 0] = decide (g = [0]) := eqvs_ints g [0]
  have hj' : (1 : Int) ≤ 1 + j ∧ (1 : Int) + j ≤ 1000 := by omega
  have lg' : g.length ≤ 1000 := by omega
  have la' : a.length - 1 + 1 ≤ SL := by rw [SL_eq]; omega
  by_cases hb1 : 0 < r.num
  · by_cases hb2 : g = [0]
    · have ha0 : a ≠ [] := by
        rintro rfl
        subst hb2
        have : V [] [0] = 0 := by
          unfold V
          simp [S, oneL, Rat.div_def, Rat.zero_mul, Rat.add_zero]
        rw [this] at hv
        rw [← hv] at hb1
        simp at hb1
      have ea := List.getLast?_eq_some_getLast ha0
      have eg1 : D.eqvs (Di g) [.int 0] = true := by rw [eg0, hb2]; rfl
      by_cases hb3 : a.getLast ha0 = 1
      · have t4 := told_ones ha la (by rw [ea, hb3]) (hb2 ▸ hv)
        refine ⟨l1, [.tup [.tup (Di (a ++ g)), .tup (Di g)], .tup [.tup (Di a), .tup (Di (rep g (1 + j)))], .tup [.tup (Di (a ++ g.take 1)), .tup (Di (g.drop 1 ++ g.take 1))], .tup [.tup (Di (a.dropLast ++ [0])), .tup (Di [1])]], ?_⟩
        generalize hx : exs 0 _ _ _ = o
        simp -implicitDefEqProofs [s3, lawB, D_law, hL, f1, f2, permute, hs, e1, z1, z2, z3, hg0, hrep, hj', lg', kill_any, fr_idx0, ok0, isL, vals, Mt.f, cut_hi_n1, la', hb1, eg1, at_n1, ea, hb3] at hx
        subst hx
        refine ⟨unc 1 x2, unc 1 x4, unc 1 x5, unc 1 x6, some (.v (.tup (Di a))), some (.v (.tup (Di g))), unc 1 x11, unc 1 x12, hl1, ?_, ?_⟩
        · intro x hm
          simp only [List.mem_cons, List.not_mem_nil, or_false] at hm
          rcases hm with rfl | rfl | rfl | rfl
          all_goals assumption
        · simp [Di]
      · refine ⟨l1, [.tup [.tup (Di (a ++ g)), .tup (Di g)], .tup [.tup (Di a), .tup (Di (rep g (1 + j)))], .tup [.tup (Di (a ++ g.take 1)), .tup (Di (g.drop 1 ++ g.take 1))]], ?_⟩
        generalize hx : exs 0 _ _ _ = o
        simp -implicitDefEqProofs [s3, lawB, D_law, hL, f1, f2, permute, hs, e1, z1, z2, z3, hg0, hrep, hj', lg', kill_any, fr_idx0, ok0, isL, vals, Mt.f, cut_hi_n1, la', hb1, eg1, at_n1, ea, hb3] at hx
        subst hx
        refine ⟨unc 1 x2, unc 1 x4, unc 1 x5, unc 1 x6, some (.v (.tup (Di a))), some (.v (.tup (Di g))), unc 1 x11, unc 1 x12, hl1, ?_, ?_⟩
        · intro x hm
          simp only [List.mem_cons, List.not_mem_nil, or_false] at hm
          rcases hm with rfl | rfl | rfl
          all_goals assumption
        · simp [Di]
    · have eg1 : D.eqvs (Di g) [.int 0] = false := by rw [eg0]; simpa using hb2
      refine ⟨l1, [.tup [.tup (Di (a ++ g)), .tup (Di g)], .tup [.tup (Di a), .tup (Di (rep g (1 + j)))], .tup [.tup (Di (a ++ g.take 1)), .tup (Di (g.drop 1 ++ g.take 1))]], ?_⟩
      generalize hx : exs 0 _ _ _ = o
      simp -implicitDefEqProofs [s3, lawB, D_law, hL, f1, f2, permute, hs, e1, z1, z2, z3, hg0, hrep, hj', lg', kill_any, fr_idx0, ok0, isL, vals, Mt.f, cut_hi_n1, la', hb1, eg1] at hx
      subst hx
      refine ⟨unc 1 x2, unc 1 x4, unc 1 x5, unc 1 x6, some (.v (.tup (Di a))), some (.v (.tup (Di g))), unc 1 x11, unc 1 x12, hl1, ?_, ?_⟩
      · intro x hm
        simp only [List.mem_cons, List.not_mem_nil, or_false] at hm
        rcases hm with rfl | rfl | rfl
        all_goals assumption
      · simp [Di]
  · refine ⟨l1, [.tup [.tup (Di (a ++ g)), .tup (Di g)], .tup [.tup (Di a), .tup (Di (rep g (1 + j)))], .tup [.tup (Di (a ++ g.take 1)), .tup (Di (g.drop 1 ++ g.take 1))]], ?_⟩
    generalize hx : exs 0 _ _ _ = o
    simp -implicitDefEqProofs [s3, lawB, D_law, hL, f1, f2, permute, hs, e1, z1, z2, z3, hg0, hrep, hj', lg', kill_any, fr_idx0, ok0, isL, vals, Mt.f, cut_hi_n1, la', hb1] at hx
    subst hx
    refine ⟨unc 1 x2, unc 1 x4, unc 1 x5, unc 1 x6, some (.v (.tup (Di a))), some (.v (.tup (Di g))), unc 1 x11, unc 1 x12, hl1, ?_, ?_⟩
    · intro x hm
      simp only [List.mem_cons, List.not_mem_nil, or_false] at hm
      rcases hm with rfl | rfl | rfl
      all_goals assumption
    · simp [Di]
theorem part3 {r : Rat} {p q : Nat} (h : Own r p q) {a g : List Int} (hF : ∀ μ, F_figures_of [.v (fr r)] μ = .ok (.tup [.tup (Di a), .tup (Di g)]) μ)
    (ha : Bits a) (hg : Bits g) (la : a.length ≤ 200) (lg : g.length ≤ 200) (h1 : 1 ≤ g.length) (F : D) (l L : List D) (hL : ∀ x ∈ L, Told r x) (x2 x4 x5 x6 x8 x9 x11 x12 : Option A) :
    ∃ y11, exs 0 (lawB.drop 8) [some (.v F), some (.c 0), x2, some (.v (fr r)), x4, x5, x6, some (.v (.tup [.tup (Di a), .tup (Di g)])), x8, x9, some (.c 1), x11, x12] [⟨false, .lst l⟩, ⟨false, .lst L⟩] =
      .nx [some (.v F), some (.c 0), x2, some (.v (fr r)), x4, x5, x6, some (.v (.tup [.tup (Di a), .tup (Di g)])), x8, x9, some (.c 1), y11, x12] [⟨false, .lst l⟩, ⟨true, .lst L⟩] := by
  have c1 := s_cost h hF ha hg (by omega) (by omega) h1
  have c2 := s_law_cost a g ha hg (by omega) (by omega) h1
  have hs := same_ok (.lst [fr (Cost a g), fr (Cost a g)]) (by rw [D.plN]; simp [D.plNs, pl_fr])
  have hsr := same_ok (fr r) (pl_fr 19 r)
  generalize hx : exs 0 _ _ _ = o
  simp -implicitDefEqProofs [lawB, D_law] at hx
  generalize hf : forGo _ _ _ _ _ = o2 at hx
  obtain ⟨ρ', μ', rfl, hI⟩ := for_o hf (fun k ρ μ' => μ' = [⟨false, .lst l⟩, ⟨true, .lst L⟩] ∧ ∃ y11, ρ = [some (.v F), some (.c 0), x2, some (.v (fr r)), x4, x5, x6, some (.v (.tup [.tup (Di a), .tup (Di g)])), x8, x9, some (.c 1), y11, x12])
    ⟨rfl, x11, rfl⟩ (by
    rintro i x hx ρ μ' ⟨rfl, y, rfl⟩
    obtain ⟨⟨b, d, rfl, hb, hd, lb, ld, h1', hv⟩⟩ := hL x (List.mem_of_getElem? hx)
    have e := told_ok h hb hd lb ld h1' hv
    refine ⟨_, by simp -implicitDefEqProofs; rfl, ?_⟩
    by_cases hle : (b.length : Int) + d.length ≤ 300
    · exact ⟨_, _, .inl (by simp -implicitDefEqProofs [hle, e, hsr]; (first | done | rfl | exact ⟨rfl, rfl⟩)), rfl, _, rfl⟩
    · exact ⟨_, _, .inl (by simp -implicitDefEqProofs [hle]; (first | done | rfl | exact ⟨rfl, rfl⟩)), rfl, _, rfl⟩)
  obtain ⟨rfl, y11, rfl⟩ := hI
  simp -implicitDefEqProofs [c1, c2, permute, hs] at hx
  subst hx
  exact ⟨y11, rfl⟩
theorem law_B : lawB = lawB.take 3 ++ ((lawB.drop 3).take 5 ++ lawB.drop 8) := rfl
theorem turn (F : D) (l : List D) (c1 : Cell) (x2 x3 x4 x5 x6 x7 x8 x9 x10 x11 x12 : Option A) (hl : Pot l) :
    ∃ l' c1' y2 y3 y4 y5 y6 y7 y8 y9 y10 y11 y12, Pot l' ∧ exs 0 lawB [some (.v F), some (.c 0), x2, x3, x4, x5, x6, x7, x8, x9, x10, x11, x12] [⟨false, .lst l⟩, c1] =
      .nx [some (.v F), some (.c 0), y2, y3, y4, y5, y6, y7, y8, y9, y10, y11, y12] [⟨false, .lst l'⟩, c1'] := by
  obtain ⟨r, p, q, l1, z6, z12, z4, z5, ho, hl1, e1⟩ := part1 F l c1 x2 x3 x4 x5 x6 x7 x8 x9 x10 x11 x12 hl
  obtain ⟨a, g, hF, hL, ha, hg, la, lg, h1, hv⟩ := figs ho
  obtain ⟨l2, L, w2, w4, w5, w6, w8, w9, w11, w12, hl2, hT, e2⟩ := part2 ho hF hL ha hg la lg h1 hv F l1 c1 x2 z4 z5 z6 x7 x8 x9 x10 x11 z12 hl1
  obtain ⟨v11, e3⟩ := part3 ho hF ha hg la lg h1 F l2 L hT w2 w4 w5 w6 w8 w9 w11 w12
  have e : ∀ o, exs 0 (lawB.drop 8) [some (.v F), some (.c 0), w2, some (.v (fr r)), w4, w5, w6, some (.v (.tup [.tup (Di a), .tup (Di g)])), w8, w9, some (.c 1), w11, w12] [⟨false, .lst l2⟩, ⟨false, .lst L⟩] = o → exs 0 lawB [some (.v F), some (.c 0), x2, x3, x4, x5, x6, x7, x8, x9, x10, x11, x12] [⟨false, .lst l⟩, c1] = o := by
    intro o ho
    rw [law_B, exs_app, e1, o_nx, exs_app, e2, o_nx]
    exact ho
  exact ⟨l2, _, _, _, _, _, _, _, _, _, _, _, _, hl2, e _ e3⟩
theorem s_pot (ns : List Int) (h : ns.length ≤ 63) (μ : Mu) : F__law_pot [.v (.frz (ns.map D.int))] μ = .ok (.lst (.int 0 :: .int 5801 :: .int 3 :: ns.map D.int)) μ := by
  have hs : 3 + ns.length ≤ SL := by rw [SL_eq]; omega
  refine run_of ?_
  simp -implicitDefEqProofs [D__law_pot, hs]
theorem law_true (ns : List Int) (h : ns.length ≤ 63) : ∃ μ, F_law [.v (.frz (ns.map D.int))] [] = .ok (.bl true) μ := by
  have hp := s_pot ns h
  have hD : D_law = ⟨13, 2, [Wp.S.new 1 0 (.call "_law_pot" F__law_pot [(.var 0)]), .for (.n 2) (.rng [(.k (.int 4))]) lawB, .ret (.k (.bl true))]⟩ := rfl
  have hr : rngOf [.int 4] = some (rngL 0 4) := rngOf_nat 4 (by omega)
  refine ⟨[], run_of ?_⟩
  generalize hx : exs _ _ _ _ = o
  rw [hD] at hx
  simp -implicitDefEqProofs [hp, hr] at hx
  generalize hf : forGo _ _ _ _ _ = o2 at hx
  obtain ⟨ρ', μ', rfl, hI⟩ := for_o hf (fun k ρ μ' => ∃ l c1 y2 y3 y4 y5 y6 y7 y8 y9 y10 y11 y12, Pot l ∧ μ' = [⟨false, .lst l⟩, c1] ∧ ρ = [some (.v (.frz (ns.map D.int))), some (.c 0), y2, y3, y4, y5, y6, y7, y8, y9, y10, y11, y12])
    ⟨_, _, _, _, _, _, _, _, _, _, _, _, _, ⟨0, 5801, 3, ns, rfl, by omega, by omega, by omega, by omega, by omega, h⟩, rfl, rfl⟩ (by
    rintro i x hx ρ μ' ⟨l, c1, y2, y3, y4, y5, y6, y7, y8, y9, y10, y11, y12, hl, rfl, rfl⟩
    obtain ⟨l', c1', z2, z3, z4, z5, z6, z7, z8, z9, z10, z11, z12, hl', e⟩ := turn (.frz (ns.map D.int)) l c1 (some (.v x)) y3 y4 y5 y6 y7 y8 y9 y10 y11 y12 hl
    exact ⟨_, by simp -implicitDefEqProofs; (first | done | rfl | exact ⟨rfl, rfl⟩), _, _, .inl e, l', c1', z2, z3, z4, z5, z6, z7, z8, z9, z10, z11, z12, hl', rfl, rfl⟩)
  obtain ⟨l, c1, y2, y3, y4, y5, y6, y7, y8, y9, y10, y11, y12, hl, rfl, rfl⟩ := hI
  simp -implicitDefEqProofs at hx
  subst hx
  simp -implicitDefEqProofs
end Mw
theorem Lw.law_true (ns : List Int) (h : ns.length ≤ 63) : ∃ μ, Lw.F_law [.v (.frz (ns.map Wp.D.int))] [] = .ok (.bl true) μ := Mw.law_true ns h

set_option Elab.async false
set_option linter.all false
set_option maxRecDepth 100000
set_option maxHeartbeats 0
open PySem PySem.W PySem.Calls PyProof.Rows
theorem PySem.Challenge.cw_wholeplays_k86_whole_figures_and_rests_t_holds : PySem.Challenge.rw_wholeplays_k86_whole_figures_and_rests_t.Holds := by
  w_on; o_law
  refine HandSHeadRun.head_imp (r := OpenLaw.row PySem.Challenge.rw_wholeplays_k86_whole_figures_and_rests_t) (q := view (OpenLaw.row PySem.Challenge.rw_wholeplays_k86_whole_figures_and_rests_t).prog [0, 53]) (H := Lw.hk) (ob := Lw.ob) (M := 3000) (loose := Lw.loose) (d := HandSHeadRun.topDef (OpenLaw.row PySem.Challenge.rw_wholeplays_k86_whole_figures_and_rests_t).prog 53) (kwd := []) Lw.ob_eq
    Lw.run (by kernel_rfl) (by kernel_rfl) (by kernel_rfl) (by rfl) (by first | assumption | decide +kernel) (by decide +kernel) ⟨rfl, rfl, rfl, rfl, rfl, by decide +kernel⟩ ?hw ?hc
  case hw => w_witness2
  case hc =>
    refine L2.walk_ofE (l := PySem.Challenge.rw_wholeplays_k86_whole_figures_and_rests_t) (n := 63) (k := 42) (x := "script") (CX := C8.CX0) rfl (by decide) (by kernel_rfl) ⟨rfl, by decide, by decide⟩ ?F (fun _ _ _ _ z => z)
    case F =>
      intro w mg fa h Y G hmg0
      obtain ⟨K, KX, e, c⟩ := Y
      have hmg : mg ("law" : PySem.Str) = some (.ref fa) := by
        have e : (HandSHeadRun.topDef (OpenLaw.row PySem.Challenge.rw_wholeplays_k86_whole_figures_and_rests_t).prog 53).name = ("law" : PySem.Str) := by kernel_rfl
        rw [← e]
        exact hmg0
      obtain ⟨fd, F⟩ := c.def_ 43 (d := Lw.dd "law" 53) rfl
      have e2 := hmg.symm.trans (He.glo_ok KX G (c.fact 43 (f := .glo "law") rfl))
      cases e2
      have Z := Lw.hd KX G e c
      exact ⟨K, fd, fun vs H Q _ => Wp.spOf K 1 .v Lw.F_law vs H Q fun _ _ _ => False, KX, fun s u => L2.FunD.bindsA (ps := ["script"]) F (fun _ _ _ _ _ _ us hl => match us, hl with | [_], _ => rfl) s [u] rfl,
        fun H a ns hn _ hS => Wp.law_sp hS (Lw.law_true ns hn), fun base _ _ => Wp.ok_CX0 (Lw.ok_law Z F)⟩
